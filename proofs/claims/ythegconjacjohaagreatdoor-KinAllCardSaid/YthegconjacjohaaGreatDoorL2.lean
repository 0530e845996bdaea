/- Part 2 of the proof. -/
import Derived.Test.YthegconjacjohaaGreatDoorL1
import Derived.Conc.CrowdStepC
import Derived.Conc.Holds
import Derived.Conc.Own2
import Derived.Conc.TokenWalk
import Derived.KernelRfl
import GoSem.Extern.Table
set_option maxRecDepth 100000
set_option linter.all false
namespace Go.L
open Go Go.Conc
open Go.ConcR (KK wgBlock WgAt stA smA rd wr)
variable {ro aF:Nat→Option Obj} {P:Program} {Q:Machine→Outcome→World→Trace→Prop} {x y:Operand} {α β:Type} {vs l ws z':List Value} {f:FuncId} {s cs iT:List Frame} {T ty E T' T2 U:TypeId} {b sz k n off W i id p mH r szo pc iS wC cap:Nat} {e:Env} {I:(Nat→St)→World→Trace→Prop} {xs:Array Operand} {todo nH hs ps:List Nat} {g:Goroutine} {at_ ats:Array TypeId} {main xW:Bool} {rest:List Code} {o:Oper} {fr oh:Frame} {fz:Nat×Nat} {ca args fi:Array Value} {s':St} {z V:Value} {st sm lo hi:Int}
def Ends(P:Program)(Q:Machine→Outcome→World→Trace→Prop)(m:Machine)(t:Trace):Prop:=
 ∃n last o w' t',runNT P (n+1) m t=(.ended o w',t')∧runN P n m= .next last∧step P last= .ended o w'∧Q last o w' t'
theorem Ends.next{m m':Machine}{t:Trace}{ops:Array MemOp}(hs:stepT P m=(.next m',ops))(h:Ends P Q m' (t++ops)):Ends P Q m t:=by
 obtain⟨n,last,o,w,t',h1,h2,h3,h4⟩:=h
 exact⟨n+1,last,o,w,t',by rw[runNT_succ_next hs];exact h1,by rw[runN_succ_next hs];exact h2,h3,h4⟩
section
variable {L:Nat→Option Obj} {K:Nat→St} {w:World} {t:Trace}
theorem aU.at{s:St}(h:aU s w)(d:Nat):aU s (w.at d):=⟨h.ro,h.rw,h.nodup,h.apart⟩
theorem Fit.at(h:Fit L K w t)(d:Nat):Fit L K (w.at d) t:=⟨h.FO,h.ma,fun i=>(h.kB i).at d,h.sep,h.perm,h.sj,h.old,h.clean,h.sync⟩
end
section
variable {ι:Type} {E:eg ι} {L:Nat→Option Obj} {K:Nat→St} {gs:Array Goroutine} {w:World} {t:Trace} {D:List (aw ι)} {pend d0:Nat} {cl:Bf} {main:Goroutine}
theorem Inv.at(h:Inv E L K gs w t D pend cl main d0)(d:Nat):Inv E L K gs (w.at d) t D pend cl main d0:=
 ⟨⟨h.base.fit.at d,h.base.size,h.base.ok,h.base.far,h.base.ops,h.base.same⟩,
  ⟨h.sy.kW,h.sy.kC,h.sy.lW,h.sy.lC,h.sy.ne,h.sy.norel,h.sy.plain,h.sy.said,h.sy.cells,h.sy.DL,h.sy.chan,h.sy.bal,h.sy.Gf⟩,h.main,h.deaf⟩
end
structure Lv(P:Program)(G:Trace→Nat→Prop)(L:Nat→Option Obj)(K:Nat→St)(gs:Array Goroutine)(w:World)(t:Trace)(q:List Nat):Prop where
 fit:Fit L K w t
 size:gs.size=q.length+1
 ok:∀i n,q[i]?=some n→∃g d,gs[i+1]?=some g∧QuitsD P n d g∧Deaf t (i+1)=d∧G t (i+1)
 none:∀i b,i≠0→¬(K i).knows b
 ops:∀op∈t,op.g <gs.size
structure Nx(G:Trace→Nat→Prop):Prop where
 other:∀t u i,G t i→(∀op∈u,op.g≠i)→G (t++u) i
 quiet:∀t u i,G t i→(∀op∈u,op.act.touch?=none)→G (t++u) i
theorem Fh:Nx eJ:=⟨fun _ _ _ h hu=>h.other hu,fun _ _ _ h hu=>h.quiet hu⟩
def jQ(pc:Nat)(t:Trace)(i:Nat):Prop:=pc <t.size∧(eJ t i∨∀p,t.g? p=some i→t.counts p→HappensBefore t p pc)
theorem jQ.grow{t u:Trace}(h:jQ pc t i)(hu:∀p op,t.size≤p→(t++u)[p]?=some op→op.g=i→¬(t++u).counts p) (hk:eJ t i→eJ (t++u) i):jQ pc (t++u) i:=by
 refine⟨by rw[Array.size_append];have:=h.1;omega,h.2.imp hk fun h' p hp hc=>?_⟩
 obtain⟨op,ho,hg⟩:=Option.map_eq_some_iff.1 hp
 rcases Nat.lt_or_ge p t.size with cO|SW
 ·exact hb_app u (h' p (by rw[←g?_old (u:=u) cO];exact hp) ((counts_old cO).1 hc))
 exact absurd hc (hu p op SW ho hg)
theorem Tg(pc:Nat):Nx (jQ pc):=
 ⟨fun t u i h hu=>h.grow (fun p op hp ho hg=>by
  rcases getElem?_append_cases ho with ⟨h',_⟩| ⟨_,hm⟩
  ·omega
  ·exact absurd hg (hu op hm)) fun h'=>h'.other hu,
  fun t u i h hu=>h.grow (fun p op hp ho hg hc=>by
   obtain⟨x,hx,_⟩:=hc
   obtain⟨o',GI,mz⟩:=touch_of hx
   rw[ho] at GI;cases GI
   rcases getElem?_append_cases ho with ⟨h',_⟩| ⟨_,hm⟩
   ·omega
   rw[hu op hm] at mz;cases mz) fun h'=>h'.quiet hu⟩
section
variable {P:Program} {G:Trace→Nat→Prop} {L:Nat→Option Obj} {K:Nat→St} {gs:Array Goroutine} {w:World} {t:Trace} {q:List Nat} {sl:Option (Nat×Nat)}
theorem Lv.at(h:Lv P G L K gs w t q)(d:Nat):Lv P G L K gs (w.at d) t q:=⟨h.fit.at d,h.size,h.ok,h.none,h.ops⟩
theorem Lv.le(h:Lv P G L K gs w t q){s:St}(hl:s.le (K 0)):Lv P G L (gp K 0 s) gs w t q:=
 ⟨h.fit.le fun j=>by
  by_cases e:j=0
  ·subst e;rw[aG];exact hl
  rw[aK _ _ e];exact St.le_refl _,h.size,h.ok,fun i b hi hk=>by rw[aK _ _ hi] at hk;exact h.none i b hi hk,h.ops⟩
theorem Lv.leave(hG:Nx G)(h:Lv P G L K gs w t q){m:Goroutine}(hm:gs[0]?=some m) (A8:m.status= .running) (hg:gs[i+1]?=some g) (hs:g.status= .running):
 ∃lM u q',runT P (crowd gs w sl) (i+1)=(.next (crowd lM w sl),u)∧Lv P G L K lM w (t++u) q'∧lM[0]?=some m∧Deaf (t++u) 0=Deaf t 0∧q'.sum <q.sum∧∀op∈u,∀a,op.act≠ .mark (.release a):=by
 have cO:i <q.length:=by have:=lt_size hg;have:=h.size;omega
 have hq:=List.getElem?_eq_getElem cO
 obtain⟨fG,d,dz,hqd,hd,hk⟩:=h.ok i _ hq
 obtain rfl:fG=g:=by rw[hg] at dz;exact(Option.some.inj dz).symm
 cases e:q[i] with
 |zero=>rw[e] at hqd;have:=hqd.1;rw[hs] at this;cases this
 |succ n=>
  rw[e] at hqd
  rcases hqd with ⟨h1,_⟩| ⟨_,g',es,Ut,cg,GH⟩
  ·rw[hs] at h1;cases h1
  have hu:=Mx (i:=i+1) (fn:=fG.frame.fn) (pos:=fG.frame.place) Ut
  have hgi:∀op∈MemOp.ofEvents (i+1) fG.frame.fn fG.frame.place es,op.g=i+1:=fun op aC=>Go.ConcR.g_of_ofEvents op aC
  have FX:∀x:Goroutine,(x.status= .running∨x.status= .finished)→woken P fG g' w x=x:=fun x hx=>by
   unfold Go.Conc.woken
   split
   ·exact again_running _ hx
   rfl
  refine⟨_,_,q.set i n,runT_crowd_go (P:=P) (sl:=sl) (i:=i+1) hg (by simpa using cg w),⟨?_,by simp[h.size],fun k n' ky=>?_,h.none,fun op aC=>?_⟩,?_,?_,?_,fun op aC a=>R6 Ut a op aC⟩
  ·exact h.fit.quiet w.heap.size (fun j hj=>absurd (h.fit.HZ hj) (Nat.lt_irrefl _)) (by
    cases hL:L w.heap.size with
    |none=>rfl
    |some o=>exact absurd (lt_size (h.fit.FO _ o hL)) (Nat.lt_irrefl _)) (Nat.le_refl _) (fun _ _ _=>rfl) hu
  ·by_cases hki:k=i
   ·subst hki
    have:n=n':=by simpa [List.getElem?_set,cO] using ky
    subst this
    exact⟨g',_,by simp[h.size,cO],GH,by rw[Deaf_own,hd],hG.quiet _ _ _ hk hu⟩
   rw[List.getElem?_set_ne (Ne.symm hki)] at ky
   obtain⟨x,dx,hx,hqx,hdx,CW⟩:=h.ok k n' ky
   have dQ:∀op∈MemOp.ofEvents (i+1) fG.frame.fn fG.frame.place es,op.g≠k+1:=fun op aC=>by rw[hgi op aC];omega
   exact⟨x,dx,by rw[gJ (by omega) hx,FX x hqx.status],hqx,by rw[iF _ _ dQ];exact hdx,hG.other _ _ _ CW dQ⟩
  ·rw[Array.size_setIfInBounds,Array.size_map]
   rcases Array.mem_append.1 aC with h'|h'
   ·exact h.ops op h'
   rw[hgi op h',h.size];omega
  ·rw[gJ (by omega) hm,FX m (.inl A8)]
  ·exact iF _ _ fun op aC=>by rw[hgi op aC];omega
  have key:∀(l:List Nat) (i:Nat) (x:Nat),l[i]?=some x→∀y,y <x→(l.set i y).sum <l.sum:=by
   intro l
   induction l with
   |nil=>intro i x h;simp at h
   |cons a l ih=>
    intro i x hx y hy
    cases i with
    |zero=>simp only[List.getElem?_cons_zero,Option.some.injEq] at hx;subst hx;simp only[List.set_cons_zero,List.sum_cons];omega
    |succ i=>have:=ih i x (by simpa using hx) y hy;simp only[List.set_cons_succ,List.sum_cons];omega
  exact key q i _ (by rw[hq,e]) n (Nat.lt_succ_self n)
theorem Lv.own(hG:Nx G)(h:Lv P G L K gs w t q){g':Goroutine}{w':World}{es:Array Event}(hm:gs[0]?=some g) (cg:stepG P true g w= .go g' w' es) (ht:Trans (K 0) w s' w' es):
 ∃lM u,runT P (crowd gs w sl) 0=(.next (crowd lM w' sl),u)∧Lv P G L (gp K 0 s') lM w' (t++u) q∧lM[0]?=some g'∧Deaf (t++u) 0=Deaf t 0∧∀op∈u,∀a,op.act≠ .mark (.release a):=by
 have hgi:∀op∈MemOp.ofEvents 0 g.frame.fn g.frame.place es,op.g=0:=fun op aC=>Go.ConcR.g_of_ofEvents op aC
 refine⟨_,_,runT_crowd_go (P:=P) (sl:=sl) (i:=0) hm (by simpa using cg),⟨h.fit.own ht _ _,by simp[h.size],fun k n hk=>?_,fun i b hi hk=>?_,fun op aC=>?_⟩,?_,?_,fun op aC a e=>?_⟩
 ·obtain⟨x,dx,hx,hqx,hdx,CW⟩:=h.ok k n hk
  have dQ:∀op∈MemOp.ofEvents 0 g.frame.fn g.frame.place es,op.g≠k+1:=fun op aC=>by rw[hgi op aC];omega
  exact⟨x,dx,by rw[gJ (by omega) hx,woken_quitsD hqx],hqx,by rw[iF _ _ dQ];exact hdx,hG.other _ _ _ CW dQ⟩
 ·rw[aK _ _ hi] at hk;exact h.none i b hi hk
 ·rw[Array.size_setIfInBounds,Array.size_map]
  rcases Array.mem_append.1 aC with h'|h'
  ·exact h.ops op h'
  rw[hgi op h',h.size];omega
 ·simp[h.size]
 ·rw[Deaf_own,ht.deaf]
 rw[ofEvents_eq] at aC
 obtain⟨e',he,rfl⟩:=Array.mem_map.1 aC
 have hl:=Go.ConcR.loc_of_ofEvent e
 have:=ht.wI e' he
 unfold JF at this
 rw[hl] at this
 simp[DG] at this
structure aa4(I:(Nat→St)→World→Trace→Prop):Prop where
 grow:∀K w t u,I K w t→(∀op∈u,∀a,op.act≠ .mark (.release a))→I K w (t++u)
 drawn:∀K w t d,I K w t→I K (w.at d) t
 le:∀K w t s,I K w t→s.le (K 0)→I (gp K 0 s) w t
 own:∀K w t s' w' es u,I K w t→Trans (K 0) w s' w' es→(∀op∈u,∀a,op.act≠ .mark (.release a))→I (gp K 0 s') w' (t++u)
def Calm(os:Os)(out:Array (Nat×ByteArray)):(Nat→St)→World→Trace→Prop:=fun _ w t=>(∀a,NoRelease a t)∧w.os=os∧w.output=out
def TL(P:Program)(G:Trace→Nat→Prop)(L:Nat→Option Obj)(I:(Nat→St)→World→Trace→Prop)(Q:Machine→Outcome→World→Trace→Prop)(g:Goroutine)(s:St):Prop:=
 ∀K gs w t q sl,Lv P G L K gs w t q→gs[0]?=some g→s.le (K 0)→Deaf t 0=0→I K w t→Ends P Q (crowd gs w sl) t
theorem NN(hG:Nx G)(hI:aa4 I){s:St}(hs:g.status= .running)
 (h:∀K gs w t q sl m,Lv P G L K gs w t q→gs[0]?=some g→K 0=s→Deaf t 0=0→I K w t→stepT P m=runT P (crowd gs w sl) 0→(m.gs=gs∧m.rest.timers= #[])→Ends P Q m t):TL P G L I Q g s:=by
 intro K gs w t q sl hL h0 hle hd hi
 generalize hn:q.sum=n
 induction n using Nat.strongRecOn generalizing K gs w t q sl with
 |_ n ih=>
  have hL:=hL.le hle
  have hi:=hI.le _ _ _ _ hi hle
  obtain⟨i,fG,d,Uh,dz,Ib,cg⟩:=crowd_pick (P:=P) (gs:=gs) (w:=w) (sl:=sl) (fun x hx=>by
   obtain⟨j,hj,rfl⟩:=Array.mem_iff_getElem.1 hx
   have hj':gs[j]?=some gs[j]:=Array.getElem?_eq_getElem hj
   intro k
   cases j with
   |zero=>rw[h0] at hj';rw[←Option.some.inj hj',hs];simp
   |succ j=>
    have cO:j <q.length:=by have:=hL.size;omega
    obtain⟨y,d,hy,hq,_⟩:=hL.ok j _ (List.getElem?_eq_getElem cO)
    rw[hj'] at hy
    rw[Option.some.inj hy]
    rcases hq.status with e|e<;>rw[e]<;>simp) ⟨0,g,h0,hs⟩
  cases i with
  |zero=>exact h _ gs (w.at d) t q Uh _ (hL.at d) h0 (aG _ _ _) hd (hI.drawn _ _ _ _ hi) cg ⟨rfl,rfl⟩
  |succ i=>
   obtain⟨lM,u,q',hr,hL',OZ,GN,cO,hrl⟩:=(hL.at d).leave (sl:=Uh) hG h0 hs dz Ib
   refine Ends.next (cg.trans hr) (ih q'.sum (hn▸cO) _ lM _ _ q' Uh hL' OZ ?_ (by rw[GN];exact hd) (hI.grow _ _ _ _ (hI.drawn _ _ _ _ hi) hrl) rfl)
   rw[aG];exact St.le_refl _
theorem Lq(hG:Nx G)(hI:aa4 I)(Q:Machine→Outcome→World→Trace→Prop):Closed P true (TL P G L I Q) where
 step:=fun g s hs h=>NN hG hI hs fun K gs w t q sl m hL h0 hK hd hi cg _=>by
  subst hK
  obtain⟨g',w',es,s',hgo,_,ht,hT⟩:=h w (hL.fit.kB 0)
  obtain⟨lM,u,hr,hL',OZ,GN,hrl⟩:=hL.own (sl:=sl) hG h0 hgo ht
  exact Ends.next (cg.trans hr) (hT _ lM w' _ q sl hL' OZ (by rw[aG];exact St.le_refl _) (by rw[GN];exact hd) (hI.own _ _ _ _ _ _ _ hi ht hrl))
 mono:=fun g s s' hl h K gs w t q sl hL h0 hle hd hi=>h K gs w t q sl hL h0 (hl.trans hle) hd hi
theorem TL.mono{s:St}(hl:s.le s')(h:TL P G L I Q g s):TL P G L I Q g s':=
 fun K gs w t q sl hL h0 hle hd hi=>h K gs w t q sl hL h0 (hl.trans hle) hd hi
end
section
variable {ι:Type} {E:eg ι} {L:Nat→Option Obj} {K:Nat→St} {gs:Array Goroutine} {w:World} {t:Trace} {D:List (aw ι)} {d0:Nat} {main:Goroutine} {sl:Option (Nat×Nat)}
 {ic n:Nat} {g:Goroutine}
def JE(E:eg ι)(pc:Nat)(K:Nat→St)(w:World)(t:Trace):Prop:=
 (∃sn tm,w.heap[E.Ch]?=some (.chan 0 #[] true sn sn tm))∧¬(K 0).knows E.Ch∧t.act? pc=some (.close E.Ch)∧t.heard pc∧(∀a,NoRelease a t)∧w.os=E.os∧w.output=E.out
theorem II(E:eg ι)(pc:Nat):aa4 (JE E pc) where
 grow:=fun K w t u h hu=>⟨h.1,h.2.1,by rw[act?_old (lt_of_act? h.2.2.1)];exact h.2.2.1,(heard_old (lt_of_act? h.2.2.1)).2 h.2.2.2.1,fun a=>(h.2.2.2.2.1 a).app fun op aC=>hu op aC a,h.2.2.2.2.2⟩
 drawn:=fun K w t d h=>h
 le:=fun K w t s h hl=>⟨h.1,by rw[aG];exact fun hk=>h.2.1 (hl.knows hk),h.2.2⟩
 own:=fun K w t s' w' es u h ht hu=>by
  obtain⟨⟨sn,tm,hc⟩,hk,ha,hh,hn,OQ⟩:=h
  have cO:=lt_size hc
  refine⟨⟨sn,tm,by rw[ht.frame _ cO fun ho=>hk (.inr ho)];exact hc⟩,?_,by rw[act?_old (lt_of_act? ha)];exact ha,(heard_old (lt_of_act? ha)).2 hh,fun a=>(hn a).app fun op aC=>hu op aC a,ht.os.trans OQ.1,ht.output.trans OQ.2⟩
  rw[aG]
  rintro(h'|h')
  ·rcases ht.NX _ h' with h1|h1|h1
   ·omega
   ·exact hk (.inl h1)
   exact hk (.inr h1)
  rcases ht.own _ h' with h1|h1
  ·omega
  exact hk (.inr h1)
theorem abA{r:aw ι}(h1:r.cnt=0)(h4:r.c4=0)(h3:r.c3=0)(h2:r.c2=0)(hc:r≠ .closer):∃q d c,r= .leave q d c:=by
 cases r with
 |leave q d c=>exact⟨q,d,c,rfl⟩
 |closer=>exact absurd rfl hc
 |st k n=>cases k<;>simp[aw.cnt,aw.c4,aw.c3,aw.c2] at h1 h4 h3 h2
 |_=>exact absurd h1 (by simp[aw.cnt])
theorem AcqAll.known(hA:AcqAll E t D ic)(hn:NoRelease (stA E.Wg) t){u:Trace}(hpc:t.size≤pc){y:MemOp}(hy:(t++u)[pc]?=some y) (hyg:y.g=ic+1) {r:aw ι} (hi:D[i]?=some r) (hc:r.cur=true)
 (hp:t.g? p=some (i+1)) (hct:t.counts p):HappensBefore (t++u) p pc:=by
 obtain⟨q,h1,h2,h3,h4⟩:=hA
 obtain⟨x,hx,hxq⟩:=h4 i r hi hc
 have hq:=lt_of_act? h1
 have hqg:=h2
 obtain⟨oq,hoq,hgq⟩:=Option.map_eq_some_iff.1 h2
 have ac3:HappensBefore t x q:= .single (.inr ⟨.marked hxq (.inr hx.act) h1 (fun k _ _=>hn k),hx.heard,h3⟩)
 have last:HappensBefore (t++u) q pc:=hb_po (by omega) (by rw[getElem?_append_old hq];exact hoq) hy (hgq.trans hyg.symm)
 have hle:p≤x:=Nat.le_of_not_lt fun cO=>hx.after p cO hp hct
 rcases Nat.lt_or_ge p x with cO|SW
 ·exact((hb_app u (.trans (.single (.inl ⟨cO,_,hp,hx.g⟩)) ac3)).trans last)
 obtain rfl:p=x:=by omega
 exact(hb_app u ac3).trans last
def ag0(qc:Nat):aw ι→Nat
 | .leave q _ _=>q
 |_=>qc
theorem Inv.close(h:Inv E L K gs w t D 0 (some (ic,.run .leaf,n)) main d0){main':Goroutine}(hm:∀(a a':Goroutine) (w':World),mayWake E.P a=true→(a'.status= .running∨a'.status= .finished)→(∃sn tm,w'.heap[E.Ch]?=some (.chan 0 #[] true sn sn tm))→woken E.P a a' w' main=main')
 (hg:gs[ic+1]?=some g):
 ∃lM w' u q,runT E.P (crowd gs w sl) (ic+1)=(.next (crowd lM w' sl),u)∧Lv E.P (jQ (t.size+1)) L (fun j=>if j=0 then K 0 else ⟨fun _=>none,[]⟩) lM w' (t++u) q∧lM[0]?=some main'∧Deaf (t++u) 0=d0∧
  JE E (t.size+1) (fun j=>if j=0 then K 0 else ⟨fun _=>none,[]⟩) w' (t++u)∧k9 D=[]:=by
 obtain⟨hic,Ia,AN,⟨gc,GL,qD⟩,WX⟩:=h.sy.Gf
 obtain rfl:gc=g:=by rw[hg] at GL;exact(Option.some.inj GL).symm
 obtain⟨st,sm,ha,mM⟩:=h.sy.cells
 obtain⟨e1,e4,e3,e2,rfl,rfl⟩:=mM.run rfl trivial
 obtain⟨_,hs,hmw,g',cg,q,hq⟩:=qD
 obtain⟨sn,rc,tm,hc⟩:=h.sy.chan
 have ayC:=h.sy.bal _ _ _ hc
 subst ayC
 have hA:=WX ⟨_,rfl⟩
 have cO:=(List.getElem?_eq_some_iff.1 hic).1
 have Ww:∀k r,D[k]?=some r→k≠ic→∃q d c,r= .leave q d c:=fun k r hk dQ=>by
  refine abA ?_ ?_ ?_ ?_ fun e=>dQ (Ia k (e▸hk))
  ·have:=u4 aw.cnt hk;omega
  ·have:=u4 aw.c4 hk;omega
  ·have:=u4 aw.c3 hk;omega
  have:=u4 aw.c2 hk;omega
 have iq:=cg w sn sn tm hc
 have cq:=runT_crowd_go (P:=E.P) (sl:=sl) (i:=ic+1) hg (by simpa using iq)
 have q1:MemOp.ofEvents (ic+1) gc.frame.fn gc.frame.place #[⟨.obj E.Ch,false,true⟩,⟨.obj E.Ch,true,true⟩]= #[{g:=ic+1,fn:=gc.frame.fn,pos:=gc.frame.place,act:= .access ⟨.obj E.Ch,false,true⟩},{g:=ic+1,fn:=gc.frame.fn,pos:=gc.frame.place,act:= .close E.Ch}]:=by rw[ofEvents_eq];simp[MemAct.ofEvent]
 rw[q1] at cq
 generalize hu:(#[{g:=ic+1,fn:=gc.frame.fn,pos:=gc.frame.place,act:= .access ⟨.obj E.Ch,false,true⟩},{g:=ic+1,fn:=gc.frame.fn,pos:=gc.frame.place,act:= .close E.Ch}]:Trace)=u at cq
 have MP:∀op∈u,op.g=ic+1∧(op.act= .access ⟨.obj E.Ch,false,true⟩∨op.act= .close E.Ch):=by rw[←hu];intro op aC;simp at aC;rcases aC with rfl|rfl<;>simp
 have Ic:∀op∈u,∀x,op.act.touch?=some x→x=⟨.obj E.Ch,false,.atomic⟩:=fun op aC x hx=>by
  rcases(MP op aC).2 with e|e<;>rw[e] at hx
  ·simp only[MemAct.touch?,if_true,Option.some.injEq] at hx;exact hx.symm
  cases hx
 have SN:∀op∈u,∀m,op.act≠ .mark m:=fun op aC m=>by rcases(MP op aC).2 with e|e<;>rw[e]<;>simp
 have aJZ:E.Ch <w.heap.size:=lt_size hc
 have ue:(w.heap.setIfInBounds E.Ch (.chan 0 #[] true sn sn tm))[E.Ch]?=some (.chan 0 #[] true sn sn tm):=by simp[aJZ]
 have hpc:(t++u)[t.size+1]?=some {g:=ic+1,fn:=gc.frame.fn,pos:=gc.frame.place,act:= .close E.Ch}:=by rw[←hu];simp
 have hle:∀j,((fun j=>if j=0 then K 0 else ⟨fun _=>none,[]⟩) j:St).le (K j):=fun j=>by
  by_cases e:j=0
  ·subst e;exact St.le_refl _
  simp only[if_neg e];exact⟨(K j).rw,by simp,fun b o hb=>(by cases hb)⟩
 have aVO:∀x:Goroutine,(x.status= .running∨x.status= .finished)→woken E.P gc g' {w with heap:=w.heap.setIfInBounds E.Ch (.chan 0 #[] true sn sn tm)} x=x:=fun x hx=>by
  unfold Go.Conc.woken
  split
  ·exact again_running _ hx
  rfl
 have jm:∀i r,D[i]?=some r→i≠ic→jQ (t.size+1) (t++u) (i+1):=fun i r hi dQ=>by
  obtain⟨x,hx,fL⟩:=h.base.ok i r hi
  obtain⟨qq,d,c,rfl⟩:=Ww i r hi dQ
  refine⟨by rw[←hu];simp,?_⟩
  cases c with
  |false=>exact .inl ((fL.2.2.2.2 rfl).other fun op aC=>by rw[(MP op aC).1];omega)
  |true=>
   refine .inr fun p hp hct=>?_
   obtain⟨op,ho,hgo⟩:=Option.map_eq_some_iff.1 hp
   rcases getElem?_append_cases ho with ⟨Wx,_⟩| ⟨_,jM⟩
   ·exact hA.known (h.sy.norel _) (Nat.le_succ _) hpc rfl hi rfl (by rw[←g?_old (u:=u) Wx];exact hp) ((counts_old Wx).1 hct)
   rw[(MP op jM).1] at hgo;omega
 refine⟨_,_,u,D.map (ag0 q),cq,⟨?_,by simp[h.base.size],fun k x hk=>?_,fun i b hi hk=>?_,fun op aC=>?_⟩,?_,?_,⟨⟨sn,tm,ue⟩,h.sy.kC 0,?_,?_,fun a=>(h.sy.norel a).app fun op aC=>SN op aC _,h.base.same.1,h.base.same.2⟩,?_⟩
 ·refine(h.base.fit.beside E.Ch (ic+1) h.sy.kC h.sy.lC aJZ (by simp) (fun b hb _=>by simp[Ne.symm hb]) (fun op aC=>(MP op aC).1) fun op aC x hx=>?_).le hle
  obtain rfl:=Ic op aC x hx
  refine⟨rfl,fun sd p a v9 hc=>h.sy.plain _ (.inr ⟨ic,_,rfl,hic,rfl⟩) p a v9 (.inr (by rw[hc.1];rfl)) ?_⟩
  rcases hc.2.2.2 with h3|h3|h3
  ·exact h3
  ·cases h3
  cases h3.2.2
 ·rw[List.getElem?_map] at hk
  obtain⟨r,hr,rfl⟩:=Option.map_eq_some_iff.1 hk
  by_cases dQ:k=ic
  ·subst dQ
   rw[hic] at hr
   cases hr
   refine⟨g',0,by simp[h.base.size,cO],hq,by rw[gG _ _ _ SN];exact AN,by rw[←hu];simp,.inr fun p hp hct=>?_⟩
   obtain⟨op,ho,hgo⟩:=Option.map_eq_some_iff.1 hp
   rcases Nat.lt_or_ge p (t.size+1) with Wx|SW
   ·exact hb_po Wx ho hpc hgo
   have hpe:p=t.size+1:=by
    have:=lt_size ho
    rw[←hu] at this
    simp at this
    omega
   subst hpe
   obtain⟨y,hy,_⟩:=hct
   obtain⟨o',GI,mz⟩:=touch_of hy
   rw[hpc] at GI;cases GI
   cases mz
  obtain⟨x,hx,fL⟩:=h.base.ok k r hr
  have cv:=jm k r hr dQ
  obtain⟨qq,d,c,rfl⟩:=Ww k r hr dQ
  exact⟨x,d,by rw[gJ (by omega) hx,aVO x fL.2.1.status],fL.2.1,by rw[gG _ _ _ SN];exact fL.2.2.1,cv⟩
 ·simp only[if_neg hi] at hk
  rcases hk with hk| ⟨o,ho⟩
  ·exact hk rfl
  cases ho
 ·rw[Array.size_setIfInBounds,Array.size_map]
  rcases Array.mem_append.1 aC with h'|h'
  ·exact h.base.ops op h'
  rw[(MP op h').1,h.base.size];omega
 ·rw[gJ (by omega) h.main,hm _ _ _ hmw hq.status ⟨sn,tm,ue⟩]
 ·rw[gG _ _ _ SN];exact h.deaf
 ·rw[act?_of hpc]
 ·refine⟨ic+1,by simp[Trace.g?,hpc],?_⟩
  have e2:t++u=(t++ #[({g:=ic+1,fn:=gc.frame.fn,pos:=gc.frame.place,act:= .access ⟨.obj E.Ch,false,true⟩}:MemOp)])++ #[({g:=ic+1,fn:=gc.frame.fn,pos:=gc.frame.place,act:= .close E.Ch}:MemOp)]:=by rw[←hu,Array.append_assoc];rfl
  have e3:=gG t (ic+1) #[({g:=ic+1,fn:=gc.frame.fn,pos:=gc.frame.place,act:= .access ⟨.obj E.Ch,false,true⟩}:MemOp)] (by intro op aC m;simp only[List.mem_toArray,List.mem_singleton] at aC;subst aC;simp)
  rw[e2,deaf_old (by simp)]
  unfold Deaf at e3 AN
  rw[Array.size_append] at e3
  exact e3.trans AN
 unfold k9
 rw[List.filterMap_eq_nil_iff]
 intro r hr
 obtain⟨k,hk⟩:=List.getElem?_of_mem hr
 by_cases dQ:k=ic
 ·subst dQ;rw[hic] at hk;cases hk;rfl
 obtain⟨qq,d,c,rfl⟩:=Ww k r hk dQ;rfl
end
section
variable {ι:Type} {E:eg ι} {L:Nat→Option Obj} {K:Nat→St} {gs:Array Goroutine} {w w':World} {t u:Trace} {D:List (aw ι)} {pend d0:Nat} {cl:Bf} {main:Goroutine} {sl:Option (Nat×Nat)}
 {i:Nat} {g g':Goroutine} {es:Array Event}
def PLt(mx:Nat):List (aw ι)×Bf→List (aw ι)×Bf→Prop:=Prod.Lex (One vv) (InvImage Gj (nQ mx))
theorem PLt.wf(mx:Nat):WellFounded (PLt (ι:=ι) mx):=(Prod.lex ⟨_,One.wf vv.wf⟩ ⟨_,InvImage.wf (nQ mx) Gj.wf⟩).wf
theorem Inv.other(h:Inv E L K gs w t D pend cl main d0)(hm:iv E main)(hg:gs[i+1]?=some g) (hs:g.status= .running) (yV:D[i]?≠some (.back .leaf)) (Fc:∀n,cl≠some (i,.run .leaf,n))
 (hw:(∃o,D[i]?=some (.work o .leaf))→main.status= .running):
 ∃K' lM w' u D' cl',runT E.P (crowd gs w sl) (i+1)=(.next (crowd lM w' sl),u)∧Inv E L K' lM w' (t++u) D' pend cl' main d0∧K' 0=K 0∧k9 D'=k9 D∧cl'.isSome=cl.isSome∧PLt E.max (D',cl') (D,cl)∧∀o,aw.ij o∈D'→aw.ij o∈D∨main.status= .running:=by
 have cO:i <D.length:=by have:=lt_size hg;have:=h.base.size;omega
 have hD:D[i]?=some D[i]:=List.getElem?_eq_getElem cO
 have fin:rI E L K D pend cl main d0 (crowd gs w sl) sl t (i+1)→
  ∃K' lM w' u D' cl',runT E.P (crowd gs w sl) (i+1)=(.next (crowd lM w' sl),u)∧Inv E L K' lM w' (t++u) D' pend cl' main d0∧K' 0=K 0∧k9 D'=k9 D∧cl'.isSome=cl.isSome∧PLt E.max (D',cl') (D,cl)∧∀o,aw.ij o∈D'→aw.ij o∈D∨main.status= .running:=by
  rintro⟨K',lM,w',u,D',cl',h1,h2,h3,h4,h5,h6,h7,h8⟩
  refine⟨K',lM,w',u,D',cl',h1,h2,h3,h4,?_,Prod.Lex.left _ _ h5,h8⟩
  cases hc:cl with
  |none=>rw[h6 hc]
  |some x=>have:=h7 (by rw[hc];simp);cases cl'<;>simp_all
 obtain⟨x,hx,fL⟩:=h.base.ok i _ hD
 obtain rfl:x=g:=by rw[hg] at hx;exact(Option.some.inj hx).symm
 generalize hr:D[i]=r at hD fL
 match r,hD,fL with
 | .leave q d c,hD,fL=>exact fin (h.leave hm hD hg hs)
 | .work o (.node f),hD,fL=>exact fin (h.work hm hD hg)
 | .work o .leaf,hD,fL=>exact fin (h.abv (hw ⟨o,hD⟩) hD hg)
 | .ij o,hD,⟨_,wB,q6,v,zs,X,Y,e,_⟩=>rw[e] at hs;cases hs
 | .back (.node f),hD,fL=>exact fin (h.back hm hD hg)
 | .back .leaf,hD,fL=>exact absurd hD yV
 | .st k (n+1),hD,fL=>exact fin (h.auz hm hD hg)
 | .st .r0 0,hD,fL=>exact fin (h.r0 hm hD hg)
 | .st .k1 0,hD,fL=>exact fin (h.k1 hm hD hg)
 | .st .d1 0,hD,fL=>exact fin (h.d1 hm hD hg)
 | .st .d2 0,hD,fL=>exact fin (h.d2 hm hD hg)
 | .st .d3 0,hD,fL=>exact fin (h.d3 hm hD hg)
 | .st .d4 0,hD,fL=>exact fin (h.d4 hm hD hg)
 | .closer,hD,fL=>
  have jN:=h.sy.Gf
  match cl,h,jN,Fc with
  |none,h,jN,_=>exact(jN _ (List.mem_of_getElem? hD)).elim
  |some (ic,c,n),h,⟨_,hu,_,_,_⟩,Fc=>
   have e:=hu i hD
   subst e
   obtain⟨K',lM,w',u,c',n',h1,h2,h3,h4⟩:=h.closer (sl:=sl) hm hg hs fun e=>Fc n (by rw[e])
   exact⟨K',lM,w',u,D,_,h1,h2,h3,rfl,rfl,Prod.Lex.right _ h4,fun _ h=> .inl h⟩
theorem Inv.awake(h:Inv E L K gs w t D pend cl main d0)(hm:iv E main):∀x∈gs,Go.Conc.awake x:=by
 intro x hx
 obtain⟨j,hj,rfl⟩:=Array.mem_iff_getElem.1 hx
 have hj':gs[j]?=some gs[j]:=Array.getElem?_eq_getElem hj
 intro k
 cases j with
 |zero=>
  rw[h.main] at hj'
  rw[←Option.some.inj hj']
  rcases hm with e| ⟨m,z,rfl⟩
  ·rw[e];simp
  simp[parked]
 |succ j=>
  have cO:j <D.length:=by have:=h.base.size;omega
  have hD:D[j]?=some D[j]:=List.getElem?_eq_getElem cO
  obtain⟨y,hy,fL⟩:=h.base.ok j _ hD
  rw[hj'] at hy
  rw[Option.some.inj hy]
  by_cases hb:∃o,D[j]= .ij o
  ·obtain⟨o,e⟩:=hb
   rw[e] at fL
   obtain⟨_,wB,q6,v,zs,X,Y,rfl,_⟩:=fL
   simp[parked]
  by_cases hc:D[j]= .closer
  ·have jN:=h.sy.Gf
   match cl,jN with
   |none,jN=>
    have:=jN D[j] (List.mem_of_getElem? hD)
    rw[hc] at this
    exact this.elim
   |some (ic,c,n),⟨_,h2,_,⟨gc,GL,qD⟩,_⟩=>
    have e:=h2 j (by rw[hD,hc])
    subst e
    rw[hj',hy] at GL
    obtain rfl:=Option.some.inj GL
    by_cases ai7:c= .blk
    ·subst ai7
     obtain⟨_,wB,ass,e⟩:=qD
     rw[e];simp
    rw[CK.vu qD ai7];simp
  rcases fL.running (fun o e=>hb ⟨o,e⟩) hc with e|e<;>rw[e]<;>simp
theorem Inv.le0(h:Inv E L K gs w t D pend cl main d0){s:St}(hl:s.le (K 0)):Inv E L (gp K 0 s) gs w t D pend cl main d0:=by
 have hle:∀j,(gp K 0 s j).le (K j):=fun j=>by
  by_cases e:j=0
  ·subst e;rw[aG];exact hl
  rw[aK _ _ e];exact St.le_refl _
 refine⟨⟨h.base.fit.le hle,h.base.size,fun k r hk=>?_,fun k hk b hb=>h.base.far k hk b ((hle k).knows hb),h.base.ops,h.base.same⟩,
  ⟨fun j hj=>h.sy.kW j ((hle j).knows hj),fun j hj=>h.sy.kC j ((hle j).knows hj),h.sy.lW,h.sy.lC,h.sy.ne,h.sy.norel,h.sy.plain,h.sy.said,h.sy.cells,h.sy.DL,h.sy.chan,h.sy.bal,?_⟩,h.main,h.deaf⟩
 ·rw[aK _ _ (by omega)];exact h.base.ok k r hk
 have jN:=h.sy.Gf
 match cl,jN with
 |none,jN=>exact jN
 |some (ic,c,n),⟨h1,h2,h3,⟨gc,GL,qD⟩,h5⟩=>exact⟨h1,h2,h3,⟨gc,GL,by rw[aK _ _ (by omega)];exact qD⟩,h5⟩
def TC(E:eg ι)(L:Nat→Option Obj)(Q:Machine→Outcome→World→Trace→Prop)(pend:Nat)(b:Bool)(os:List ι)(d0:Nat)(g:Goroutine)(s:St):Prop:=
 ∀K gs w t D cl sl,cl.isSome=b→Inv E L K gs w t D pend cl g d0→k9 D=os→s.le (K 0)→Ends E.P Q (crowd gs w sl) t
theorem x3{b:Bool}{os:List ι}{s:St}(hs:g.status= .running)
 (h:∀K gs w t D cl sl m,cl.isSome=b→Inv E L K gs w t D pend cl g d0→k9 D=os→K 0=s→stepT E.P m=runT E.P (crowd gs w sl) 0→Ends E.P Q m t)
 (iY:b=true→pend=0∧d0=0∧(os=[]→∀pc,TL E.P (jQ pc) L (JE E pc) Q g s)):TC E L Q pend b os d0 g s:=by
 intro K gs w t D cl sl hb hI ho hle
 have key:∀μ:List (aw ι)×Bf,∀K gs w t sl,μ.2.isSome=b→Inv E L K gs w t μ.1 pend μ.2 g d0→k9 μ.1=os→K 0=s→Ends E.P Q (crowd gs w sl) t:=by
  intro μ
  induction μ using (PLt.wf E.max).induction with
  |_ μ ih=>
   obtain⟨D,cl⟩:=μ
   intro K gs w t sl hb hI ho hK
   simp only at hb hI ho
   obtain⟨i,fG,d,Uh,dz,Ib,cg⟩:=crowd_pick (P:=E.P) (gs:=gs) (w:=w) (sl:=sl) (hI.awake (.inl hs)) ⟨0,g,hI.main,hs⟩
   have AQ:=hI.at d
   cases i with
   |zero=>exact h K gs _ t D cl Uh _ hb AQ ho hK cg
   |succ i=>
    by_cases S3:D[i]?=some (.back .leaf)
    ·obtain⟨n,h1,h2,h3⟩:=hI.norm S3
     exact ih (_,cl) (Prod.Lex.left _ _ h3) _ gs w t sl hb h1 (h2.trans ho) (by rw[aK _ _ (by omega)];exact hK)
    by_cases hc:∃n,cl=some (i,.run .leaf,n)
    ·obtain⟨n,e⟩:=hc
     subst e
     obtain⟨hp,hd,hT⟩:=iY (by rw[←hb];rfl)
     subst hp
     obtain⟨lM,w',u,q,hr,hL,h0,hdd,hG,uB⟩:=AQ.close (sl:=Uh) (main':=g) (fun a a' w' _ _ _=>by
      unfold Go.Conc.woken
      split
      ·exact again_running _ (.inl hs)
      rfl) dz
     exact Ends.next (cg.trans hr) (hT (ho.symm.trans uB) (t.size+1) _ lM w' _ q Uh hL h0 (by simp only[if_true];rw[hK];exact St.le_refl _) (by rw[hdd];exact hd) hG)
    obtain⟨K',lM,w',u,D',cl',hr,Pc,lL,JO,fE,cO,_⟩:=AQ.other (sl:=Uh) (.inl hs) dz Ib S3 (fun n e=>hc ⟨n,e⟩) (fun _=>hs)
    exact Ends.next (cg.trans hr) (ih (D',cl') cO K' lM w' _ Uh (fE.trans hb) Pc (JO.trans ho) (lL.trans hK))
 exact key (D,cl) _ gs w t sl hb (hI.le0 hle) ho (aG _ _ _)
end
section
variable {ι:Type} {E:eg ι} {L:Nat→Option Obj} {Q:Machine→Outcome→World→Trace→Prop} {g:Goroutine} {s:St}
theorem Yl(W5:L E.Ch=none){x:Goroutine}(hx:x.status= .running)(cg:∀w,aU s w→stepG E.P true x w= .comm g #[rcase E.Ch z] true (.recv true) w #[])
 (nH:∀w,aU s w→(∀b o,L b=some o→w.heap[b]?=some o)→aU s' w) (yt:∀b,s'.knows b→L b≠none∨s.knows b)
 (hT:TL E.P eJ (fun _=>none) (Calm E.os E.out) Q (Conc.served g (.tuple #[z,.bool false])) s'):TL E.P (jQ pc) L (JE E pc) Q x s:=by
 refine NN (Tg pc) (II E pc) hx fun K gs w t q sl m hL h0 hK hd hG hm _=>?_
 subst hK
 obtain⟨⟨sn,tm,hc⟩,hkC,apB,aya,aGV,ah7⟩:=hG
 have JQ:partners (gs.setIfInBounds 0 ph) E.Ch true=[]:=partners_nil fun j y hy=>by
  rcases getElem?_stand gs _ _ _ hy with ⟨_,rfl⟩| ⟨hj,hy'⟩
  ·exact offersAt_ph _ _
  cases j with
  |zero=>exact absurd rfl hj
  |succ j=>
   have cO:j <q.length:=by have:=lt_size hy';have:=hL.size;omega
   obtain⟨y',d,hy2,hq,_⟩:=hL.ok j _ (List.getElem?_eq_getElem cO)
   rw[hy'] at hy2
   rw[Option.some.inj hy2]
   exact su hq.status _ _
 have cq:=crowd_recv_closed (sl:=sl) h0 (by simpa using cg w (hL.fit.kB 0)) hc JQ
 have e0:MemOp.ofEvents 0 x.frame.fn x.frame.place #[]= #[]:=rfl
 rw[e0,Array.empty_append] at cq
 generalize hu:(#[{g:=0,fn:=g.frame.fn,pos:=g.frame.place,act:= .recvClosed E.Ch}]:Trace)=u at cq
 have MP:∀op∈u,op.g=0∧op.act= .recvClosed E.Ch:=by rw[←hu];intro op aC;simp at aC;subst aC;exact⟨rfl,rfl⟩
 have Ic:∀op∈u,op.act.touch?=none:=fun op aC=>by rw[(MP op aC).2];rfl
 have SN:∀op∈u,∀m,op.act≠ .mark m:=fun op aC m=>by rw[(MP op aC).2];simp
 have hr:(t++u)[t.size]?=some {g:=0,fn:=g.frame.fn,pos:=g.frame.place,act:= .recvClosed E.Ch}:=by rw[←hu];simp
 have asg:=lt_of_act? apB
 have ac3:HappensBefore (t++u) pc t.size:= .single (.inr ⟨.closed (c:=E.Ch) (by rw[act?_old asg];exact apB) (by rw[act?_of hr]),(heard_old asg).2 aya,⟨0,by simp[Trace.g?,hr],by rw[deaf_old (Nat.le_refl _)];exact hd⟩⟩)
 have dk:∀i n,q[i]?=some n→eJ (t++u) (i+1):=fun i n hi=>by
  obtain⟨y,d,hy,hq,hdd,hk⟩:=hL.ok i n hi
  rcases hk.2 with hk|hk
  ·exact hk.quiet Ic
  intro p hp hct
  obtain⟨op,ho,hgo⟩:=Option.map_eq_some_iff.1 hp
  rcases getElem?_append_cases ho with ⟨Wx,_⟩| ⟨_,jM⟩
  ·exact⟨t.size,by simp[Trace.g?,hr],(hb_app u (hk p (by rw[←g?_old (u:=u) Wx];exact hp) ((counts_old Wx).1 hct))).trans ac3⟩
  rw[(MP op jM).1] at hgo;omega
 have n8:=hL.fit.quiet (u:=u) (w':=w) E.Ch (fun j=>by
  by_cases e:j=0
  ·subst e;exact hkC
  exact hL.none j _ e) W5 (Nat.le_refl _) (fun _ _ _=>rfl) Ic
 refine Ends.next (hm.trans cq) (hT (gp K 0 s') _ w _ q sl ⟨?_,by simp[hL.size],fun i n hi=>?_,fun i b hi hk=>?_,fun op aC=>?_⟩ ?_ (by rw[aG];exact St.le_refl _) (by rw[gG _ _ _ SN];exact hd) ⟨fun a=>(aGV a).app fun op aC=>SN op aC _,ah7⟩)
 ·refine n8.alone (i:=0) (fun j hj b=>hL.none j b hj) s' (nH w (hL.fit.kB 0) hL.fit.FO) yt fun b hb p y hy SE hyb=>?_
  obtain⟨op,ho,hyo⟩:=touch_of hy
  have cO:op.g <gs.size:=by
   rcases Array.mem_append.1 (mem_of_getElem? ho) with h'|h'
   ·exact hL.ops op h'
   rw[(MP op h').1,hL.size];omega
  cases hgo:op.g with
  |zero=>have:=knows_own ho;rwa[hgo] at this
  |succ k=>
   have hk:k <q.length:=by have:=hL.size;omega
   obtain⟨j,hj,mN⟩:=dk k _ (List.getElem?_eq_getElem hk) p (by simp[Trace.g?,ho,hgo]) ⟨y,by simpa [touchAt] using hy,by cases hl:y.loc<;>simp_all[blk,Loc.isMemory],.inl (by rw[SE];simp)⟩
   obtain⟨z',FT,hzg⟩:=Option.map_eq_some_iff.1 hj
   exact⟨j,z',FT,hzg,.inr mN⟩
 ·obtain⟨y,d,hy,hq,hdd,hk⟩:=hL.ok i n hi
  exact⟨y,d,by rw[Array.getElem?_setIfInBounds_ne (by omega)];exact hy,hq,by rw[gG _ _ _ SN];exact hdd,dk i n hi⟩
 ·rw[aK _ _ hi] at hk;exact hL.none i b hi hk
 ·rw[Array.size_setIfInBounds]
  rcases Array.mem_append.1 aC with h'|h'
  ·exact hL.ops op h'
  rw[(MP op h').1,hL.size];omega
 have:0 <gs.size:=by rw[hL.size];omega
 simp[this,finishComm_recv,recvd]
end
section
variable {ι:Type} {E:eg ι} {L:Nat→Option Obj} {K:Nat→St} {gs:Array Goroutine} {w w':World} {t:Trace} {D:List (aw ι)} {pend d0:Nat} {cl:Bf} {main:Goroutine} {sl:Option (Nat×Nat)}
 {i:Nat} {Q:Machine→Outcome→World→Trace→Prop} {g:Goroutine} {s:St}
theorem setChan_at(w:World)(d c:Nat)(h:c <w.heap.size)(sn rc:Nat)(tm:Bool):
 ((w.at d).setChan c 0 #[] false sn rc tm).heap[c]?=some (.chan 0 #[] false sn rc tm)∧((w.at d).setChan c 0 #[] false sn rc tm).heap.size=w.heap.size∧
 ∀b,b≠c→((w.at d).setChan c 0 #[] false sn rc tm).heap[b]?=w.heap[b]?:=by
 refine⟨by simp[World.setChan,World.at,h],by simp[World.setChan,World.at],fun b hb=>by simp[World.setChan,World.at,Ne.symm hb]⟩
theorem Inv.alive(h:Inv E L K gs w t D 0 cl main d0)(iY:cl≠none)(hn:∀o,aw.ij o∉D):∃(i:Nat) (x:Goroutine),gs[i]?=some x∧x.status= .running:=by
 by_cases dk:∀r∈D,r.left=true∨r= .closer
 ·have jN:=h.sy.Gf
  obtain⟨st,sm,_,mM⟩:=h.sy.cells
  match cl,jN,mM,iY with
  |some (ic,c,n),⟨_,_,_,⟨gc,GL,qD⟩,_⟩,mM,_=>
   refine⟨_,gc,GL,CK.vu qD fun e=>?_⟩
   subst e
   have z:∀(f:aw ι→Nat),(∀q d c,f (.leave q d c)=0)→f .closer=0→fM f D=0:=fun f h1 h2=>by
    unfold fM
    rw[List.sum_eq_zero_iff_forall_eq_nat]
    intro x hx
    obtain⟨r,hr,rfl⟩:=List.mem_map.1 hx
    rcases dk r hr with e|rfl
    ·cases r<;>first|exact h1 _ _ _|cases e
    exact h2
   have z1:=z aw.cnt (fun _ _ _=>rfl) rfl
   have z4:=z aw.c4 (fun _ _ _=>rfl) rfl
   have z3:=z aw.c3 (fun _ _ _=>rfl) rfl
   have z2:=z aw.c2 (fun _ _ _=>rfl) rfl
   rw[z1,z4,z3,z2] at mM
   simp only[Option.map_some] at mM
   generalize ho:some CK.blk=o at mM
   generalize h0:0+0=k at mM
   cases mM with
   |reg _ h2=>omega
   |sema _ h2=>cases ho;exact h2 rfl
   |over h1=>cases ho;exact h1.elim
   |_=>cases ho
 obtain⟨r,lD⟩:=Classical.not_forall.1 dk
 obtain⟨hr,J1⟩:=Classical.not_imp.1 lD
 have h1:¬r.left=true:=fun e=>J1 (.inl e)
 have h2:r≠ .closer:=fun e=>J1 (.inr e)
 obtain⟨k,hk⟩:=List.getElem?_of_mem hr
 obtain⟨x,hx,fL⟩:=h.base.ok k r hk
 refine⟨_,x,hx,?_⟩
 cases r with
 |leave q d c=>exact absurd rfl h1
 |work o tr=>exact pq.running (fun _ _ y=>y.1) fL.2
 |ij o=>exact absurd hr (hn o)
 |back tr=>exact pq.running (fun _ _ y=>eg.pure.running (fun _ z=>z.1) y) fL.2
 |st k n=>exact Pure.running (WK.running k) fL.2.2.1
 |closer=>exact absurd rfl h2
theorem Inv.abw(h:Inv E L K gs w t D pend cl (parked g #[rcase E.Ch z] (.recv true)) 0)(iY:cl≠none){o:ι}{gw:Goroutine}(hi:D[i]?=some (.work o .leaf)) (hg:gs[i+1]?=some gw):
 ∃K' lM w' u D' v X a b,runT E.P (crowd gs w sl) (i+1)=(.next (crowd lM w' sl),u)∧Inv E L K' lM w' (t++u) D' pend cl (Conc.served g (.tuple #[v,.bool true])) 0∧K' 0=⟨(K 0).ro,X++(K 0).rw⟩∧
  E.X5 o v X∧k9 D=a++o::b∧k9 D'=a++b:=by
 obtain⟨fG,dz,fL⟩:=h.base.ok i _ hi
 obtain rfl:fG=gw:=by rw[hg] at dz;exact(Option.some.inj dz).symm
 obtain⟨hd,hs,q6,v,zs,X,Y,hXY,oT,cg,tr,iR,hle,vZ⟩:=fL
 obtain⟨sn,rc,tm,hc⟩:=h.sy.chan
 have uA:=h.base.size
 have aUS:partners (gs.setIfInBounds (i+1) ph) E.Ch false=[(0,0)]:=by
  have h0:(gs.setIfInBounds (i+1) ph)[0]?=some (parked g #[rcase E.Ch z] (.recv true)):=stand_get (by omega) h.main
  rw[partners_one h0 fun k x hk hx=>?_]
  ·rw[offersAt_parked_recv];simp
  rcases getElem?_stand gs _ _ _ hx with ⟨_,rfl⟩| ⟨_,mz⟩
  ·exact offersAt_ph _ _
  cases k with
  |zero=>exact absurd rfl hk
  |succ k=>
   rcases h.offers mz with ⟨o',g',v',zs',_,rfl⟩|hn
   ·exact offersAt_parked_send' _ _ _ _ _ _
   exact hn _ _
 have cq:=crowd_send_meets (sl:=sl) hg (by simpa using cg w (h.base.fit.kB _)) hc (by omega) h.main aUS
 have e0:MemOp.ofEvents (i+1) fG.frame.fn fG.frame.place #[]= #[]:=rfl
 rw[e0,Array.empty_append] at cq
 obtain⟨a,b,ha,hb⟩:=DE (r':=aw.back tr) rfl hi (o:=o) rfl
 have hwc:=setChan_at w w.drawn E.Ch (lt_size hc) (sn+1) (rc+1) tm
 refine⟨_,_,_,_,_,v,X,a,b,cq,h.meet iY hi (.inl rfl) hd hXY hle vZ (by simp) ?_ ?_ (fun k h1 h2=>?_) hc hwc.1 hwc.2.1 hwc.2.2 ⟨rfl,rfl⟩ ⟨rfl,rfl⟩ ⟨rfl,rfl⟩ ⟨rfl,rfl⟩ ⟨rfl,rfl⟩,aG _ _ _,oT,ha,hb⟩
 ·rw[Array.getElem?_setIfInBounds_ne (by omega),Array.getElem?_setIfInBounds_self_of_lt (by omega)]
  rw[finishComm_recv];rfl
 ·rw[Array.getElem?_setIfInBounds_self_of_lt (by have:=lt_size hg;simpa using this)]
  rw[finishComm_send]
 rw[Array.getElem?_setIfInBounds_ne (Ne.symm h2),Array.getElem?_setIfInBounds_ne (Ne.symm h1)]
theorem Ry{os:List ι}
 (MT:∀a o b v X,os=a++o::b→E.X5 o v X→TC E L Q 0 true (a++b) 0 (Conc.served g (.tuple #[v,.bool true])) ⟨s.ro,X++s.rw⟩)
 (qW:os=[]→∀pc,TL E.P (jQ pc) L (JE E pc) Q {parked g #[rcase E.Ch z] (.recv true) with status:= .running} s):
 ∀(μ:List (aw ι)×Bf) K gs w t sl,μ.2.isSome=true→Inv E L K gs w t μ.1 0 μ.2 (parked g #[rcase E.Ch z] (.recv true)) 0→k9 μ.1=os→K 0=s→(∀o,aw.ij o∉μ.1)→Ends E.P Q (crowd gs w sl) t:=by
 intro μ
 induction μ using (PLt.wf E.max).induction with
 |_ μ ih=>
  obtain⟨D,cl⟩:=μ
  intro K gs w t sl hb hI ho hK hn
  simp only at hb hI ho hn
  have iY:cl≠none:=fun e=>by rw[e] at hb;cases hb
  have SM:iv E (parked g #[rcase E.Ch z] (.recv true)):= .inr ⟨g,z,rfl⟩
  obtain⟨i,fG,d,Uh,dz,Ib,cg⟩:=crowd_pick (P:=E.P) (gs:=gs) (w:=w) (sl:=sl) (hI.awake SM) (hI.alive iY hn)
  have AQ:=hI.at d
  cases i with
  |zero=>rw[hI.main] at dz;rw[←Option.some.inj dz] at Ib;cases Ib
  |succ i=>
   by_cases S3:D[i]?=some (.back .leaf)
   ·obtain⟨n,h1,h2,h3⟩:=hI.norm S3
    refine ih (_,cl) (Prod.Lex.left _ _ h3) _ gs w t sl hb h1 (h2.trans ho) (by rw[aK _ _ (by omega)];exact hK) fun o hm=>?_
    rcases List.mem_or_eq_of_mem_set hm with h'|h'
    ·exact hn o h'
    cases h'
   by_cases hc:∃n,cl=some (i,.run .leaf,n)
   ·obtain⟨n,e⟩:=hc
    subst e
    obtain⟨lM,w',u,q,hr,hL,h0,hdd,hG,uB⟩:=AQ.close (sl:=Uh) (main':={parked g #[rcase E.Ch z] (.recv true) with status:= .running}) (fun a a' w' hmw nH ⟨sn,tm,ue⟩=>by
     have:(mayWake E.P a&&a'.status != .blocked&&a'.status != .waiting)=true:=by rcases nH with e|e<;>simp[hmw,e]
     unfold Go.Conc.woken
     rw[if_pos this]
     exact again_recv_closed ue) dz
    exact Ends.next (cg.trans hr) (qW (ho.symm.trans uB) (t.size+1) _ lM w' _ q Uh hL h0 (by simp only[if_true];rw[hK];exact St.le_refl _) (by rw[hdd]) hG)
   by_cases FX:∃o,D[i]?=some (.work o .leaf)
   ·obtain⟨o,hi⟩:=FX
    obtain⟨K',lM,w',u,D',v,X,a,b,hr,Pc,lL,oT,ha,mN⟩:=AQ.abw (sl:=Uh) iY hi dz
    refine Ends.next (cg.trans hr) (MT a o b v X (ho.symm.trans ha) oT K' lM w' _ D' cl Uh hb Pc mN ?_)
    rw[lL,hK];exact St.le_refl _
   obtain⟨K',lM,w',u,D',cl',hr,Pc,lL,JO,fE,cO,hsb⟩:=AQ.other (sl:=Uh) SM dz Ib S3 (fun n e=>hc ⟨n,e⟩) (fun hx=>absurd hx FX)
   refine Ends.next (cg.trans hr) (ih (D',cl') cO K' lM w' _ Uh (fE.trans hb) Pc (JO.trans ho) (lL.trans hK) fun o hm=>?_)
   rcases hsb o hm with h'|h'
   ·exact hn o h'
   cases h'
theorem Yp{os:List ι}(hs:g.status= .running)(cg:∀w,aU s w→stepG E.P true g w= .comm g #[rcase E.Ch z] true (.recv true) w #[])
 (MT:∀a o b v X,os=a++o::b→E.X5 o v X→TC E L Q 0 true (a++b) 0 (Conc.served g (.tuple #[v,.bool true])) ⟨s.ro,X++s.rw⟩)
 (qW:os=[]→∀pc,TL E.P (jQ pc) L (JE E pc) Q g s∧TL E.P (jQ pc) L (JE E pc) Q {parked g #[rcase E.Ch z] (.recv true) with status:= .running} s):TC E L Q 0 true os 0 g s:=by
 refine x3 hs (fun K gs w t D cl sl m hb hI ho hK hm=>?_) fun _=>⟨rfl,rfl,fun h pc=>(qW h pc).1⟩
 have iY:cl≠none:=fun e=>by rw[e] at hb;cases hb
 obtain⟨sn,rc,tm,hc⟩:=hI.sy.chan
 have hgo:=cg w (hK▸hI.base.fit.kB 0)
 have e0:MemOp.ofEvents 0 g.frame.fn g.frame.place #[]= #[]:=rfl
 by_cases dQ:partners (gs.setIfInBounds 0 ph) E.Ch true=[]
 ·have cq:=crowd_waits (sl:=sl) hI.main (by simpa using hgo) (fun cc rP=>by
   simp only[List.mem_toArray,List.mem_singleton] at rP
   subst rP
   exact ways_recv_none hc dQ)
  rw[e0] at cq
  have uA:=hI.base.size
  refine Ends.next (hm.trans cq) (Ry MT (fun h pc=>(qW h pc).2) (D,cl) K _ w _ sl hb ⟨⟨?_,by simp[uA],fun k r hk=>?_,fun k hk=>hI.base.far k (by simpa using hk),fun op aC=>?_,hI.base.same⟩,?_,?_,?_⟩ ho hK fun o hm=>?_)
  ·rw[Array.append_empty];exact hI.base.fit
  ·obtain⟨x,hx,fL⟩:=hI.base.ok k r hk
   exact⟨x,by rw[Array.getElem?_setIfInBounds_ne (by omega)];exact hx,by rw[Array.append_empty];exact fL⟩
  ·rw[Array.append_empty] at aC;rw[Array.size_setIfInBounds];exact hI.base.ops op aC
  ·rw[Array.append_empty]
   refine⟨hI.sy.kW,hI.sy.kC,hI.sy.lW,hI.sy.lC,hI.sy.ne,hI.sy.norel,hI.sy.plain,hI.sy.said,hI.sy.cells,hI.sy.DL,hI.sy.chan,hI.sy.bal,?_⟩
   have jN:=hI.sy.Gf
   match cl,jN with
   |none,jN=>exact jN
   |some (ic,c,n),⟨h1,h2,h3,⟨gc,GL,qD⟩,h5⟩=>exact⟨h1,h2,h3,⟨gc,by rw[Array.getElem?_setIfInBounds_ne (by omega)];exact GL,qD⟩,h5⟩
  ·rw[Array.getElem?_setIfInBounds_self_of_lt (by omega)]
  ·rw[Array.append_empty];exact hI.deaf
  obtain⟨k,hk⟩:=List.getElem?_of_mem hm
  obtain⟨x,hx,_,wB,q6,v,zs,X,Y,rfl,_⟩:=hI.base.ok k _ hk
  have:((k+1,0):Nat×Nat)∈partners (gs.setIfInBounds 0 ph) E.Ch true:=mem_partners.2 ⟨_,stand_get (by omega) hx,by rw[offersAt_parked_send];simp⟩
  rw[dQ] at this;cases this
 obtain⟨j,gj,vj,zj,shj,d,hj0,hj,cq⟩:=crowd_recv_meets_some (sl:=sl) hI.main (by simpa using hgo) hc dQ fun j k Qh=>by
  obtain⟨x,hx,hk⟩:=mem_partners.1 Qh
  rcases getElem?_stand gs _ _ _ hx with ⟨_,rfl⟩| ⟨hj0,mz⟩
  ·rw[offersAt_ph] at hk;cases hk
  cases j with
  |zero=>exact absurd rfl hj0
  |succ j=>
   rcases hI.offers mz with ⟨o',g',v',zs',_,rfl⟩|hn
   ·rw[offersAt_parked_send] at hk
    simp at hk
    exact⟨hk,by omega,_,_,_,_,mz⟩
   rw[hn] at hk;cases hk
 rw[e0,Array.empty_append] at cq
 cases j with
 |zero=>exact absurd rfl hj0
 |succ i=>
  rcases hI.offers hj with ⟨o,q6,v,zs,hi,e⟩|hn
  ·obtain⟨x,hx,AN,wB,aKc,v',zs',X,Y,e',hXY,oT,_,tr,iR,hle,vZ⟩:=hI.base.ok i _ hi
   obtain rfl:x=parked gj #[scase E.Ch vj zj] shj:=by rw[hj] at hx;exact(Option.some.inj hx).symm
   have hv:vj=v':=by
    have:=congrArg Goroutine.offers e'
    simp only[parked,scase,Option.some.injEq,Prod.mk.injEq,Array.mk.injEq,List.cons.injEq,CommCase.mk.injEq] at this
    exact this.1.1.2.1
   have hsv:gj.finishComm E.P #[scase E.Ch vj zj] shj 0 undef false=Conc.served aKc undef:=by
    have h1:shj= .send:=by
     have:=congrArg Goroutine.offers e'
     simp only[parked,Option.some.injEq,Prod.mk.injEq] at this
     exact this.2
    subst h1
    rw[finishComm_send]
    have h2:=congrArg (fun x:Goroutine=>Conc.served x undef) e'
    exact h2
   subst hv
   obtain⟨a,b,ha,mN⟩:=DE (r':=aw.back tr) rfl hi (o:=o) rfl
   have hwc:=setChan_at w d E.Ch (lt_size hc) (sn+1) (rc+1) tm
   have uA:=hI.base.size
   refine Ends.next (hm.trans cq) (MT a o b vj X (ho.symm.trans ha) oT _ _ _ _ (D.set i (.back tr)) cl sl hb
    (hI.meet iY hi (.inr rfl) AN hXY hle vZ (by simp) ?_ ?_ (fun k h1 h2=>?_) hc hwc.1 hwc.2.1 hwc.2.2 ⟨rfl,rfl⟩ ⟨rfl,rfl⟩ ⟨rfl,rfl⟩ ⟨rfl,rfl⟩ ⟨rfl,rfl⟩) mN ?_)
   ·rw[Array.getElem?_setIfInBounds_self_of_lt (by simp;omega),finishComm_recv];rfl
   ·rw[Array.getElem?_setIfInBounds_ne (by omega),Array.getElem?_setIfInBounds_self_of_lt (lt_size hj),hsv]
   ·rw[Array.getElem?_setIfInBounds_ne (Ne.symm h1),Array.getElem?_setIfInBounds_ne (Ne.symm h2)]
   rw[aG,hK];exact St.le_refl _
  have:(0:Nat)∈offersAt (parked gj #[scase E.Ch vj zj] shj) E.Ch true:=by rw[offersAt_parked_send];simp
  rw[hn] at this;cases this
end
section
variable {ι:Type} {E:eg ι} {L:Nat→Option Obj} {K:Nat→St} {gs:Array Goroutine} {w w':World} {t:Trace} {D:List (aw ι)} {pend d0:Nat} {cl:Bf} {sl:Option (Nat×Nat)}
 {Q:Machine→Outcome→World→Trace→Prop} {g g':Goroutine} {s:St} {es:Array Event}
theorem Inv.go0(h:Inv E L K gs w t D pend cl g d0)(hgo:stepG E.P true g w= .go g' w' es)(OQ:X6 w w')(cu:¬s'.knows E.Wg)(mI:¬s'.knows E.Ch)(wH:w'.heap[E.Ch]?=w.heap[E.Ch]?)
 (n8:Fit L (gp K 0 s') w' (t++MemOp.ofEvents 0 g.frame.fn g.frame.place es))
 (lH:∀op∈MemOp.ofEvents 0 g.frame.fn g.frame.place es,∀x,op.act.touch?=some x→E.At x→x.kind≠ .plain∧(x.kind= .said→cl=none))
 (iV:∀op∈MemOp.ofEvents 0 g.frame.fn g.frame.place es,∀a,op.act≠ .mark (.release a)) 
 (od:∀cl',A2 cl cl'→∃st sm,WgAt E.ty E.Wg w' st sm∧Md E.max (fM aw.cnt D+mH) (fM aw.c4 D) (fM aw.c3 D) (fM aw.c2 D) (cl'.map (·.2.1)) st sm) (SL:fM aw.cnt D+mH≤E.max):
 ∃lM u cl',runT E.P (crowd gs w sl) 0=(.next (crowd lM w' sl),u)∧Inv E L (gp K 0 s') lM w' (t++u) D mH cl' g' (deafBehind d0 es)∧cl'.isSome=cl.isSome:=by
 have MP:∀op∈MemOp.ofEvents 0 g.frame.fn g.frame.place es,op.g=0:=fun op aC=>Go.ConcR.g_of_ofEvents op aC
 have cq:=runT_crowd_go (P:=E.P) (sl:=sl) (i:=0) h.main (by simpa using hgo)
 have hdo:Deaf (t++MemOp.ofEvents 0 g.frame.fn g.frame.place es) 0=deafBehind d0 es:=by rw[Deaf_own,h.deaf]
 generalize MemOp.ofEvents 0 g.frame.fn g.frame.place es=u at*
 obtain⟨sn,rc,tm,hc⟩:=h.sy.chan
 have ue:w'.heap[E.Ch]?=some (.chan 0 #[] false sn rc tm):=by rw[wH];exact hc
 have dQ:∀k,∀op∈u,op.g≠k+1:=fun k op aC=>by rw[MP op aC];omega
 have JV:∀b,¬s'.knows b→(∀j,¬(K j).knows b)→∀j,¬(gp K 0 s' j).knows b:=fun b h1 h2 j=>by
  by_cases e:j=0
  ·subst e;rw[aG];exact h1
  rw[aK _ _ e];exact h2 j
 obtain⟨cl',FX,jN⟩:∃cl',A2 cl cl'∧alN E (gp K 0 s') ((gs.map (woken E.P g g' w')).setIfInBounds 0 g') (t++u) D cl':=by
  have jN:=h.sy.Gf
  match cl,jN with
  |none,jN=>exact⟨none,.same _,jN⟩
  |some (ic,c,n),⟨h1,h2,h3,⟨gc,GL,qD⟩,h5⟩=>
   obtain⟨c',n',hw,ayH,_,hdc⟩:=CK.tries (ic:=ic) qD g g' w'
   refine⟨some (ic,c',n'),hw,h1,h2,by rw[iF _ _ (dQ ic),hdc];exact h3,⟨_,gJ (by omega) GL,by rw[aK _ _ (by omega)];exact ayH⟩,fun⟨tr,e⟩=>?_⟩
   subst e
   cases hw with
   |same=>
    obtain⟨q,a1,a2,a3,a4⟩:=h5 ⟨tr,rfl⟩
    have hq:=lt_of_act? a1
    exact⟨q,by rw[act?_old hq];exact a1,by rw[g?_old hq];exact a2,(heard_old hq).2 a3,fun i r hi hcu=>let ⟨p,hp,ZY⟩:=a4 i r hi hcu;⟨p,RelBy.other hp (dQ i),ZY⟩⟩
 refine⟨_,u,cl',cq,⟨⟨n8,by simp[h.base.size],fun k r hk=>?_,fun k hk b hb=>?_,fun op aC=>?_,⟨OQ.1.trans h.base.same.1,OQ.2.trans h.base.same.2⟩⟩,
  ⟨JV _ cu h.sy.kW,JV _ mI h.sy.kC,h.sy.lW,h.sy.lC,h.sy.ne,fun a=>(h.sy.norel a).app fun op aC=>iV op aC a,fun j hj p x hx hb hk=>?_,?_,od cl' FX,SL,⟨sn,rc,tm,ue⟩,fun a b c hx=>h.sy.bal a b c (by rw[←wH];exact hx),jN⟩,?_,hdo⟩,by cases FX<;>rfl⟩
 ·obtain⟨x,hx,fL⟩:=h.base.ok k r hk
  rw[aK _ _ (by omega)]
  have acu:=fL.other (dQ k)
  by_cases Uz:r= .closer
  ·subst Uz;exact⟨_,gJ (by omega) hx,trivial⟩
  exact⟨x,by rw[gJ (by omega) hx,fL.woken Uz fun _=>⟨sn,rc,tm,ue⟩],acu⟩
 ·rw[Array.size_setIfInBounds,Array.size_map] at hk
  have:=h.base.size
  rw[aK _ _ (by omega)] at hb
  exact h.base.far k hk b hb
 ·rw[Array.size_setIfInBounds,Array.size_map]
  rcases Array.mem_append.1 aC with h'|h'
  ·exact h.base.ops op h'
  rw[MP op h',h.base.size];omega
 ·rcases bN hx with ⟨_,mz⟩| ⟨_,op,OZ,_,zf⟩
  ·exact(h.sy.plain j hj p x mz hb hk).app u
  exact absurd hk (lH op OZ x zf hb).1
 ·have Qf:=h.sy.said
  match cl,cl',FX,Qf,lH with
  |none,_,.same _,Qf,_=>
   intro p x hx hb hk
   rcases bN hx with ⟨_,mz⟩| ⟨hp,op,OZ,aC,zf⟩
   ·exact(Qf p x mz hb hk).app u
   exact DX MP hp aC
  |some (ic,c,n),_,.same _,Qf,lH=>
   intro he p x hx hb hk
   rcases bN hx with ⟨_,mz⟩| ⟨_,op,OZ,_,zf⟩
   ·exact(Qf he p x mz hb hk).app u
   exact absurd ((lH op OZ x zf (.inl hb)).2 hk) (by simp)
  |_,_,.up ic,_,_=>exact fun he=>he.elim
 have:=h.base.size
 rw[Array.getElem?_setIfInBounds_self_of_lt (by simp;omega)]
theorem Inv.Ji(h:Inv E L K gs w t D pend cl g d0)(hw:w'.heap[E.Wg]?=w.heap[E.Wg]?):∀cl',A2 cl cl'→∃st sm,WgAt E.ty E.Wg w' st sm∧Md E.max (fM aw.cnt D+pend) (fM aw.c4 D) (fM aw.c3 D) (fM aw.c2 D) (cl'.map (·.2.1)) st sm:=by
 intro cl' FX
 obtain⟨st,sm,ha,hm⟩:=h.sy.cells
 exact⟨st,sm,by unfold WgAt;rw[hw];exact ha,hm.atz FX⟩
def TM(E:eg ι)(L:Nat→Option Obj)(Q:Machine→Outcome→World→Trace→Prop)(pend:Nat)(b:Bool)(os:List ι)(d0:Nat)(g:Goroutine)(s:St):Prop:=
 TC E L Q pend b os d0 g s∧(b=true→os=[]→∀pc,TL E.P (jQ pc) L (JE E pc) Q g s)
theorem TC.mono{b:Bool}{os:List ι}(hl:s.le s')(h:TC E L Q pend b os d0 g s):TC E L Q pend b os d0 g s':=
 fun K gs w t D cl sl hb hI ho hle=>h K gs w t D cl sl hb hI ho (hl.trans hle)
theorem fI(b:Bool)(os:List ι)(hb:b=true→pend=0):Closed E.P true (TM E L Q pend b os 0) where
 step:=fun g s hs h=>by
  have hL:b=true→os=[]→∀pc,TL E.P (jQ pc) L (JE E pc) Q g s:=fun e ho pc=>
   (Lq (Tg pc) (II E pc) Q).step g s hs fun w ha=>let ⟨g',w',es,s',h1,h2,h3,h4⟩:=h w ha;⟨g',w',es,s',h1,h2,h3,h4.2 e ho pc⟩
  refine⟨x3 hs (fun K gs w t D cl sl m iY hI ho hK hm=>?_) fun e=>⟨hb e,rfl,fun ho pc=>hL e ho pc⟩,hL⟩
  subst hK
  obtain⟨g',w',es,s',hgo,_,ht,hT,_⟩:=h w (hI.base.fit.kB 0)
  obtain⟨k1,k2,k3,k4,k5,k6⟩:=hI.sy.BE ht g.frame.fn g.frame.place
  obtain⟨lM,u,cl',hr,AQ,WQ⟩:=hI.go0 (sl:=sl) hgo ⟨ht.os,ht.output⟩ k1 k2 k4 (hI.base.fit.own ht _ _) (fun op aC x hx tj=>absurd tj (k5 op aC x hx)) k6 (hI.Ji k3) hI.sy.DL
  rw[ht.deaf] at AQ
  exact Ends.next (hm.trans hr) (hT _ lM w' _ D cl' sl (WQ.trans iY) AQ ho (by rw[aG];exact St.le_refl _))
 mono:=fun g s s' hl h=>⟨h.1.mono hl,fun e ho pc=>(h.2 e ho pc).mono hl⟩
theorem Md.opened{mx a c:Nat}{o:Option CK}(h:Md mx n a b c o st sm)(ho:o=none):st=(n:Int)*KK∧sm=0:=by
 cases h with
 |start=>exact⟨rfl,rfl⟩
 |_=>cases ho
theorem Gq{b:Bool}{os:List ι}{d':Nat}(hs:g.status= .running)(hb:b=false)
 (h:∀w st sm,WgAt E.ty E.Wg w st sm→(b=false→st=((os.length+pend:Nat):Int)*KK∧sm=0)→os.length+pend≤E.max→∃w',stepG E.P true g w= .go g' w' es∧eV E w w'∧WgAt E.ty E.Wg w' (((os.length+mH:Nat):Int)*KK) 0)
 (AK:∀e∈es,jv E e)(hd:deafBehind d0 es=d')(hp:os.length+pend≤E.max→os.length+mH≤E.max)(hT:TC E L Q mH b os d' g' s):TC E L Q pend b os d0 g s:=by
 subst hb
 refine x3 hs (fun K gs w t D cl sl m iY hI ho hK hm=>?_) fun e=>(by cases e)
 subst hK
 have hcn:cl=none:=by cases cl<;>simp_all
 subst hcn
 have jN:=hI.sy.Gf
 have ayx:∀D:List (aw ι),(∀r∈D,r.early)→fM aw.cnt D=(k9 D).length∧fM aw.c4 D=0∧fM aw.c3 D=0∧fM aw.c2 D=0:=by
  intro D
  induction D with
  |nil=>intro _;exact⟨rfl,rfl,rfl,rfl⟩
  |cons r D ih=>
   intro hr
   obtain⟨i1,i4,i3,i2⟩:=ih fun x hx=>hr x (by simp[hx])
   have:=hr r (by simp)
   simp only[fM,List.map_cons,List.sum_cons,k9,List.filterMap_cons] at*
   cases r<;>first|exact this.elim| (simp[aw.cnt,aw.c4,aw.c3,aw.c2,aw.Zc,i1,i4,i3,i2];try omega)
 obtain⟨c1,c4,c3,c2⟩:=ayx D jN
 rw[ho] at c1
 obtain⟨st,sm,ha,mM⟩:=hI.sy.cells
 have KC:=hI.sy.DL
 rw[c1] at KC
 have cg:st=((os.length+pend:Nat):Int)*KK∧sm=0:=by
  rw[c1] at mM
  exact mM.opened rfl
 obtain⟨w',hgo,htu,v9⟩:=h w st sm ha (fun _=>cg) KC
 have aGM:=jv.ops AK 0 g.frame.fn g.frame.place
 obtain⟨lM,u,cl',hr,AQ,WQ⟩:=hI.go0 (sl:=sl) (s':=K 0) (mH:=mH) hgo htu.same (hI.sy.kW 0) (hI.sy.kC 0) (htu.block _ (Ne.symm hI.sy.ne)) (by rw[mG];exact hI.sy.Cf hI.base.fit (.inl rfl) htu AK _ _)
  (fun op aC x hx _=>by rw[((aGM op aC).2.2 x hx).2];exact⟨by simp,by simp⟩) (fun op aC=>(aGM op aC).2.1) (fun cl' hw=>by
   cases hw
   rw[c1,c4,c3,c2]
   exact⟨_,_,v9,.start⟩) (by rw[c1];exact hp KC)
 rw[hd] at AQ
 exact Ends.next (hm.trans hr) (hT _ lM w' _ D cl' sl (WQ.trans iY) AQ ho (by rw[aG];exact St.le_refl _))
end
section
variable {ι:Type} {E:eg ι} {L:Nat→Option Obj} {K:Nat→St} {gs:Array Goroutine} {w w':World} {t:Trace} {D:List (aw ι)} {pend d0:Nat} {cl:Bf} {sl:Option (Nat×Nat)}
 {Q:Machine→Outcome→World→Trace→Prop} {g g' child:Goroutine} {s iR:St} {es:Array Event}
theorem wM(f:aw ι→Nat)(D:List (aw ι))(r:aw ι):fM f (D++[r])=fM f D+f r:=by simp[fM]
theorem Inv.spawn(h:Inv E L K gs w t D pend none g 0)(hrw:(K 0).rw=[])(cg:stepG E.P true g w= .spawn g' child w #[])(hle:iR.le (K 0)){r:aw ι}{cl':Bf} 
 (hr:r.left=false)(fL:∀t',Deaf t' gs.size=0→oA E t' gs.size iR child r)
 (hn:r.cnt+mH=pend)(h4:r.c4=0)(h3:r.c3=0)(h2:r.c2=0)
 (iY:(cl'=none∧r.early)∨(∃n,cl'=some (D.length,.kd,n)∧r= .closer∧CK.at E iR child n .kd)):
 ∃lM u,runT E.P (crowd gs w sl) 0=(.next (crowd lM w sl),u)∧Inv E L (gp K gs.size iR) lM w (t++u) (D++[r]) mH cl' g' 0∧0 <gs.size:=by
 have uA:=h.base.size
 have cq:=runT_crowd_spawn (P:=E.P) (sl:=sl) (i:=0) h.main (by simpa using cg)
 have e0:MemOp.ofEvents 0 g.frame.fn g.frame.place #[]= #[]:=rfl
 rw[e0] at cq
 generalize hx:({g:=0,fn:=g.frame.fn,pos:=g.frame.place,act:= .go gs.size}:MemOp)=x at cq
 generalize hy:({g:=gs.size,fn:=child.frame.fn,pos:=g.frame.place,act:= .start}:MemOp)=y at cq
 have ex:x.g=0∧x.act= .go gs.size:=by rw[←hx];exact⟨rfl,rfl⟩
 have ey:y.g=gs.size∧y.act= .start:=by rw[←hy];exact⟨rfl,rfl⟩
 have eu:((#[]:Array MemOp).push x).push y= #[x,y]:=rfl
 rw[eu] at cq
 have hq:∀op∈ #[x,y],op.act.touch?=none:=by intro op aC;simp at aC;rcases aC with rfl|rfl<;>simp[ex.2,ey.2,MemAct.touch?]
 have SN:∀op∈ #[x,y],∀m,op.act≠ .mark m:=by intro op aC;simp at aC;rcases aC with rfl|rfl<;>simp[ex.2,ey.2]
 have hg:∀op∈ #[x,y],op.g=0∨op.g=gs.size:=by intro op aC;simp at aC;rcases aC with rfl|rfl<;>simp[ex.1,ey.1]
 have O3:Deaf t gs.size=0:=ConcN.Deaf_absent fun i op ho e=>by have:=h.base.ops op (mem_of_getElem? ho);omega
 have AN:∀k,Deaf (t++ #[x,y]) k=Deaf t k:=fun k=>gG t k _ SN
 have aiN:∀p,Knows t 0 p→Knows (t++ #[x,y]) gs.size p:=fun p hp=>ConcN.fork_knows ex ey h.deaf O3 hp
 have n8:=h.base.fit.quiet (u:= #[x,y]) (w':=w) E.Ch h.sy.kC h.sy.lC (Nat.le_refl _) (fun _ _ _=>rfl) hq
 have Wu:iR.rw=[]:=by
  obtain⟨R,hR,_⟩:=hle
  rw[hrw] at hR
  have:=List.append_eq_nil_iff.1 (List.nil_perm.1 hR)
  exact this.1
 have BY:∀b o,iR.ro b=some o→(K 0).ro b=some o:=fun b o hb=>by
  obtain⟨R,hR,h2⟩:=hle
  rw[hrw] at hR
  have:=List.append_eq_nil_iff.1 (List.nil_perm.1 hR)
  rcases h2 b o hb with h3|h3
  ·exact h3
  rw[this.2] at h3;cases h3
 have aiO:=n8.share (i:=0) (n:=gs.size) (by omega) iR Wu BY fun b hb p z hz hzb hzw=>by
  rcases bN hz with ⟨_,FT⟩| ⟨_,op,hm,_,hzo⟩
  ·refine aiN p (h.base.fit.sj 0 b ?_ p z FT hzb hzw)
   cases mN:iR.ro b with
   |none=>exact absurd mN hb
   |some o=>rw[BY b o mN];simp
  rw[hq op hm] at hzo;cases hzo
 have JV:∀b,(∀j,¬(K j).knows b)→∀j,¬(gp K gs.size iR j).knows b:=fun b hb j hk=>by
  by_cases e:j=gs.size
  ·subst e;rw[aG] at hk;exact hb 0 (hle.knows hk)
  rw[aK _ _ e] at hk;exact hb j hk
 have jN:=h.sy.Gf
 have oU:∀ {k z},(D++[r])[k]?=some z→(k <D.length∧D[k]?=some z)∨(k=D.length∧z=r):=fun {k z} hk=>by
  rcases Nat.lt_trichotomy k D.length with cO|e|hgt
  ·rw[List.getElem?_append_left cO] at hk;exact .inl ⟨cO,hk⟩
  ·subst e;rw[List.getElem?_append_right (Nat.le_refl _)] at hk;simp at hk;exact .inr ⟨rfl,hk.symm⟩
  rw[List.getElem?_eq_none (by simp;omega)] at hk;cases hk
 have hgs:∀k,k≠0→k <gs.size→((gs.setIfInBounds 0 g').push child)[k]?=gs[k]?:=fun k h0 cO=>by
  rw[Array.getElem?_push_lt (by simpa using cO),←Array.getElem?_eq_getElem,Array.getElem?_setIfInBounds_ne (Ne.symm h0)]
 have hgn:((gs.setIfInBounds 0 g').push child)[gs.size]?=some child:=by
  rw[Array.getElem?_push,if_pos (by simp)]
 refine⟨_,_,cq,⟨⟨aiO,by simp[uA],fun k z hk=>?_,fun k hk b hb=>?_,fun op aC=>?_,h.base.same⟩,
  ⟨JV _ h.sy.kW,JV _ h.sy.kC,h.sy.lW,h.sy.lC,h.sy.ne,fun a=>(h.sy.norel a).app fun op aC=>SN op aC _,fun j hj p z hz hzb hzk=>?_,?_,?_,?_,h.sy.chan,h.sy.bal,?_⟩,?_,by rw[AN];exact h.deaf⟩,by omega⟩
 ·rcases oU hk with ⟨cO,ky⟩| ⟨rfl,rfl⟩
  ·obtain⟨q,hqk,aUY⟩:=h.base.ok k z ky
   exact⟨q,by rw[hgs _ (by omega) (by omega)];exact hqk,by rw[aK _ _ (by omega)];exact aUY.other fun op aC=>by rcases hg op aC with e|e<;>rw[e]<;>omega⟩
  refine⟨child,by rw[←uA];exact hgn,?_⟩
  rw[←uA,aG]
  exact fL _ (by rw[AN];exact O3)
 ·rw[Array.size_push,Array.size_setIfInBounds] at hk
  rw[aK _ _ (by omega)] at hb
  exact h.base.far k (by omega) b hb
 ·rw[Array.size_push,Array.size_setIfInBounds]
  rcases Array.mem_append.1 aC with h'|h'
  ·have:=h.base.ops op h';omega
  rcases hg op h' with e|e<;>rw[e]<;>omega
 ·rcases bN hz with ⟨_,FT⟩| ⟨_,op,hm,_,hzo⟩
  ·rcases hj with rfl| ⟨k,q,rfl,hk,hl⟩
   ·exact(h.sy.plain 0 (.inl rfl) p z FT hzb hzk).app _
   rcases oU hk with ⟨_,ky⟩| ⟨rfl,rfl⟩
   ·exact(h.sy.plain (k+1) (.inr ⟨k,q,rfl,ky,hl⟩) p z FT hzb hzk).app _
   rw[←uA];exact aiN p (h.sy.plain 0 (.inl rfl) p z FT hzb hzk)
  rw[hq op hm] at hzo;cases hzo
 ·have Qf:=h.sy.said
  rcases iY with ⟨rfl,_⟩| ⟨n,rfl,_,_⟩
  ·intro p z hz hzb hzk
   rcases bN hz with ⟨_,FT⟩| ⟨_,op,hm,_,hzo⟩
   ·exact(Qf p z FT hzb hzk).app _
   rw[hq op hm] at hzo;cases hzo
  intro _ p z hz hzb hzk
  rcases bN hz with ⟨_,FT⟩| ⟨_,op,hm,_,hzo⟩
  ·rw[←uA];exact aiN p (Qf p z FT hzb hzk)
  rw[hq op hm] at hzo;cases hzo
 ·obtain⟨st,sm,ha,mM⟩:=h.sy.cells
  refine⟨st,sm,ha,?_⟩
  rw[wM,wM,wM,wM,h4,h3,h2,show fM aw.cnt D+r.cnt+mH=fM aw.cnt D+pend by omega]
  rcases iY with ⟨rfl,_⟩| ⟨n,rfl,_,_⟩
  ·exact mM
  have z:∀(f:aw ι→Nat),(∀r:aw ι,r.early→f r=0)→fM f D=0:=fun f hf=>by
   unfold fM
   rw[List.sum_eq_zero_iff_forall_eq_nat]
   intro a v9
   obtain⟨q,GH,rfl⟩:=List.mem_map.1 v9
   exact hf q (jN q GH)
  have z4:=z aw.c4 fun r hr=>by cases r<;>first|rfl|exact hr.elim
  have z3:=z aw.c3 fun r hr=>by cases r<;>first|rfl|exact hr.elim
  have z2:=z aw.c2 fun r hr=>by cases r<;>first|rfl|exact hr.elim
  obtain⟨rfl,rfl⟩:=mM.opened rfl
  rw[z4,z3,z2]
  exact .kd
 ·rw[wM];have:=h.sy.DL;omega
 ·rcases iY with ⟨rfl,Ur⟩| ⟨n,rfl,rfl,qD⟩
  ·intro z hz
   rcases List.mem_append.1 hz with h'|h'
   ·exact jN z h'
   simp at h';subst h';exact Ur
  refine⟨by simp,fun k hk=>?_,by rw[AN,←uA];exact O3,⟨child,by rw[←uA];exact hgn,by rw[←uA,aG];exact qD⟩,fun⟨_,e⟩=>(by cases e)⟩
  rcases oU hk with ⟨_,ky⟩| ⟨e,_⟩
  ·exact(jN _ (List.mem_of_getElem? ky)).elim
  exact e
 rw[Array.getElem?_push_lt (by simp;omega),←Array.getElem?_eq_getElem,Array.getElem?_setIfInBounds_self_of_lt (by omega)]
theorem Ly{os:List ι}{o:ι}(hs:g.status= .running)(hrw:s.rw=[])(cg:∀w,aU s w→stepG E.P true g w= .spawn g' child w #[])(hw:fo E.P false (E.La o) child s)
 (hT:TC E L Q 0 false (os++[o]) 0 g' s):TC E L Q 1 false os 0 g s:=by
 refine x3 hs (fun K gs w t D cl sl m iY hI ho hK hm=>?_) fun e=>(by cases e)
 subst hK
 have hcn:cl=none:=by cases cl<;>simp_all
 subst hcn
 obtain⟨tr,iR,hle,htr⟩:=hw
 obtain⟨lM,u,hr,AQ,h0⟩:=hI.spawn (sl:=sl) (r:= .work o tr) (cl':=none) (mH:=0) hrw (cg w (hI.base.fit.kB 0)) hle rfl (fun t' hd=>⟨hd,htr⟩) rfl rfl rfl rfl (.inl ⟨rfl,trivial⟩)
 exact Ends.next (hm.trans hr) (hT _ lM w _ _ none sl rfl AQ (by simp[k9,List.filterMap_append,aw.Zc] at ho ⊢;exact ho) (by rw[aK _ _ (by omega)];exact St.le_refl _))
theorem Lz{os:List ι}(hs:g.status= .running)(hrw:s.rw=[])(cg:∀w,aU s w→stepG E.P true g w= .spawn g' child w #[])(hw:E.closes s child)
 (hT:TC E L Q 0 true os 0 g' s):TC E L Q 0 false os 0 g s:=by
 refine x3 hs (fun K gs w t D cl sl m iY hI ho hK hm=>?_) fun e=>(by cases e)
 subst hK
 have hcn:cl=none:=by cases cl<;>simp_all
 subst hcn
 obtain⟨n,hn⟩:=hw
 obtain⟨lM,u,hr,AQ,h0⟩:=hI.spawn (sl:=sl) (iR:=K 0) (r:= .closer) (cl':=some (D.length,.kd,n)) (mH:=0) hrw (cg w (hI.base.fit.kB 0)) (St.le_refl _) rfl (fun t' hd=>trivial) rfl rfl rfl rfl (.inr ⟨n,rfl,rfl,hn⟩)
 exact Ends.next (hm.trans hr) (hT _ lM w _ _ _ sl rfl AQ (by rw[k9,List.filterMap_append];simp only[List.filterMap_cons,aw.Zc,List.filterMap_nil,List.append_nil];exact ho) (by rw[aK _ _ (by omega)];exact St.le_refl _))
end
section
variable {ι:Type} {E:eg ι} {Q:Machine→Outcome→World→Trace→Prop} {g:Goroutine} {s s':St}
theorem QQ{L:Nat→Option Obj}(hs:g.status= .running)(dQ:E.Wg≠E.Ch)
 (hW:(E.Wg,wgBlock E.ty 0 0)∈s.rw)(hC:∃tm,(E.Ch,Obj.chan 0 #[] false 0 0 tm)∈s.rw)
 (hle:s'.le s)(hkW:¬s'.knows E.Wg)(hkC:¬s'.knows E.Ch)(jm:∀b,s'.jL b→L b=none)
 (hL:∀b o,L b=some o→s.has b o∧b≠E.Wg∧b≠E.Ch)
 (hT:TC E L Q 0 false [] 0 g s'):TL E.P eJ (fun _=>none) (Calm E.os E.out) Q g s:=by
 intro K gs w t q sl hLv h0 aVy hd ⟨axC,ah7⟩
 have hLv:=hLv.le aVy
 have Wu:(gp K 0 s) 0=s:=aG _ _ _
 have qn:=hLv.fit.kB 0
 rw[Wu] at qn
 obtain⟨tm,hC⟩:=hC
 have hWw:=qn.rw _ _ hW
 have hCw:=qn.rw _ _ hC
 have hex:∀i,i <q.length→∃d,∃x,gs[i+1]?=some x∧QuitsD E.P (q.getD i 0) d x∧Deaf t (i+1)=d∧eJ t (i+1):=fun i hi=>by
  obtain⟨x,d,h1,h2,h3,h4⟩:=hLv.ok i _ (List.getElem?_eq_getElem hi)
  exact⟨d,x,h1,by rw[List.getD_eq_getElem?_getD,List.getElem?_eq_getElem hi];exact h2,h3,h4⟩
 let D:List (aw ι):=(List.range q.length).map fun i=>aw.leave (q.getD i 0) (Deaf t (i+1)) false
 have hD:∀i r,D[i]?=some r→i <q.length∧r=aw.leave (q.getD i 0) (Deaf t (i+1)) false:=fun i r hi=>by
  simp only[D,List.getElem?_map] at hi
  obtain⟨j,hj,rfl⟩:=Option.map_eq_some_iff.1 hi
  obtain⟨cO,rfl⟩:=List.getElem?_eq_some_iff.1 hj
  simp only[List.length_range] at cO
  simp only[List.getElem_range]
  exact⟨cO,trivial⟩
 have jM:∀r∈D,∃a b,r=aw.leave a b false:=fun r hr=>by
  obtain⟨i,hi⟩:=List.getElem?_of_mem hr
  exact⟨_,_,(hD i r hi).2⟩
 have hzero:∀f:aw ι→Nat,(∀a b,f (.leave a b false)=0)→fM f D=0:=fun f hf=>by
  unfold fM
  rw[List.sum_eq_zero_iff_forall_eq_nat]
  intro x hx
  obtain⟨r,hr,rfl⟩:=List.mem_map.1 hx
  obtain⟨a,b,rfl⟩:=jM r hr
  exact hf a b
 let K':Nat→St:=fun j=>if j=0 then s' else ⟨fun _=>none,[]⟩
 have hK0:K' 0=s':=by simp[K']
 have hKn:∀j,j≠0→K' j=⟨fun _=>none,[]⟩:=fun j hj=>by simp[K',hj]
 have none:∀j b,j≠0→¬(K' j).knows b:=fun j b hj hk=>by
  rw[hKn j hj] at hk
  rcases hk with hk| ⟨o,ho⟩
  ·exact hk rfl
  cases ho
 have Ip:Fit (fun _=>Option.none) K' w t:=hLv.fit.le fun j=>by
  by_cases e:j=0
  ·subst e;rw[hK0,Wu];exact hle
  rw[hKn j e];exact⟨(gp K 0 s j).rw,by simp,fun b o hb=>(by cases hb)⟩
 have aiO:Fit L K' w t:=by
  refine⟨fun b o hl=>qn.has (hL b o hl).1,fun i b ho=>?_,Ip.kB,Ip.sep,Ip.perm,Ip.sj,Ip.old,Ip.clean,fun p x b hx hk hb=>⟨?_,(Ip.sync p x b hx hk hb).2⟩⟩
  ·by_cases e:i=0
   ·subst e;rw[hK0] at ho;exact jm b ho
   exact absurd (.inr ho) (none i b e)
  cases hl:L b with
  |none=>rfl
  |some o=>
   have:=(hLv.fit.sync p x b hx hk hb).2 0
   rw[Wu] at this
   rcases(hL b o hl).1 with h1|h1
   ·exact absurd (.inl (by rw[h1];simp)) this
   exact absurd (.inr ⟨o,h1⟩) this
 have hLb:∀b,(b=E.Wg∨b=E.Ch)→L b=Option.none:=fun b hb=>by
  cases hl:L b with
  |none=>rfl
  |some o=>
   rcases hb with e|e
   ·exact absurd e (hL b o hl).2.1
   exact absurd e (hL b o hl).2.2
 have hKk:∀b,¬s'.knows b→∀j,¬(K' j).knows b:=fun b hb j=>by
  by_cases e:j=0
  ·subst e;rw[hK0];exact hb
  exact none j b e
 have arK:∀p x,touchAt t p=some x→blk x.loc=some E.Wg→Knows t 0 p:=fun p x hx hb=>hLv.fit.perm 0 E.Wg (by rw[Wu];exact⟨_,hW⟩) p x hx hb
 have aEM:∀p x,touchAt t p=some x→E.At x→Knows t 0 p:=fun p x hx hb=>hb.elim (arK p x hx) fun hb=>hLv.fit.perm 0 E.Ch (by rw[Wu];exact⟨_,hC⟩) p x hx hb
 refine hT K' gs w t D Option.none sl rfl ⟨⟨aiO,by simp[D,hLv.size],fun i r hi=>?_,fun i hi b=>?_,hLv.ops,ah7⟩,
  ⟨hKk _ hkW,hKk _ hkC,hLb _ (.inl rfl),hLb _ (.inr rfl),dQ,axC,fun j hj p x hx hb _=>?_,fun p x hx hb _=>arK p x hx hb,⟨0,0,hWw,?_⟩,?_,⟨0,0,tm,hCw⟩,fun a b c hx=>?_,fun r hr=>?_⟩,h0,hd⟩ ?_ (by rw[hK0];exact St.le_refl _)
 ·obtain⟨cO,rfl⟩:=hD i r hi
  obtain⟨d,x,h1,h2,h3,h4⟩:=hex i cO
  exact⟨x,h1,hKn _ (by omega),by rw[h3];exact h2,rfl,(fun e=>(by cases e)),fun _=>h4⟩
 ·exact none i b (by have:=hLv.size;omega)
 ·rcases hj with rfl| ⟨k,r,rfl,hk,hl⟩
  ·exact aEM p x hx hb
  obtain⟨_,rfl⟩:=hD k r hk;cases hl
 ·rw[hzero aw.cnt fun _ _=>rfl,hzero aw.c4 fun _ _=>rfl,hzero aw.c3 fun _ _=>rfl,hzero aw.c2 fun _ _=>rfl]
  have:=Md.start (mx:=E.max) (n:=0)
  simpa using this
 ·rw[hzero aw.cnt fun _ _=>rfl];omega
 ·rw[hCw] at hx
  simp only[Option.some.injEq,Obj.chan.injEq] at hx
  omega
 ·obtain⟨a,b,rfl⟩:=jM r hr;rfl
 unfold k9
 rw[List.filterMap_eq_nil_iff]
 intro r hr
 obtain⟨a,b,rfl⟩:=jM r hr;rfl
end
theorem E6(os:Os)(out:Array (Nat×ByteArray)):aa4 (Calm os out) where
 grow:=fun _ _ _ _ h hu=>⟨fun a=>(h.1 a).app fun op aC=>hu op aC a,h.2⟩
 drawn:=fun _ _ _ _ h=>h
 le:=fun _ _ _ _ h _=>h
 own:=fun _ _ _ _ _ _ _ h ht hu=>⟨fun a=>(h.1 a).app fun op aC=>hu op aC a,ht.os.trans h.2.1,ht.output.trans h.2.2⟩
def T0(P:Program)(os:Os)(out:Array (Nat×ByteArray))(Post:Value→World→Prop):Goroutine→St→Prop:=TL P eJ (fun _=>none) (Calm os out) (Good P Post)
theorem tJ(P:Program)(os:Os)(out:Array (Nat×ByteArray))(Post:Value→World→Prop):Closed P true (T0 P os out Post):=Lq Fh (E6 os out) _
theorem abn{os:Os}{out:Array (Nat×ByteArray)}{Post:Value→World→Prop}{s:St}(hs:g.status= .running)
 (cg:∀w,aU s w→w.os=os→w.output=out→∃v w' es s',stepG P true g w= .ended (.done v) w' es∧Post v w'∧Trans s w s' w' es):T0 P os out Post g s:=by
 refine NN Fh (E6 os out) hs fun K gs w t q sl m hL h0 hK hd hi hm hmg=>?_
 subst hK
 obtain⟨v,w',es,s',hgo,hp,ht⟩:=cg w (hL.fit.kB 0) hi.2.1 hi.2.2
 have hr:=ConcN.runT_crowd_ended (P:=P) (sl:=sl) (i:=0) h0 (by simpa using hgo)
 have n8:=hL.fit.own ht g.frame.fn g.frame.place
 generalize hu:MemOp.ofEvents 0 g.frame.fn g.frame.place es=u at hr n8
 have MP:∀op∈u,op.g=0:=by rw[←hu];exact fun op aC=>Go.ConcR.g_of_ofEvents op aC
 refine⟨0,m,.done v,w',t++u,by simp[runNT,hm,hr],rfl,by simp[step,hm,hr],v,rfl,hp,n8.clean,fun i k hk dQ hc=>?_,⟨fun x hx=>?_,by rw[hmg.2];rfl⟩,fun i x hx dQ=>?_⟩
 ·obtain⟨op,ho,bkx⟩:=Option.map_eq_some_iff.1 hk
  cases k with
  |zero=>exact absurd rfl dQ
  |succ k=>
   have cO:op.g <gs.size:=by
    rcases Array.mem_append.1 (mem_of_getElem? ho) with h'|h'
    ·exact hL.ops op h'
    rw[MP op h',hL.size];omega
   have hkq:k <q.length:=by have:=hL.size;omega
   obtain⟨_,_,_,_,_,cv⟩:=hL.ok k _ (List.getElem?_eq_getElem hkq)
   exact(cv.other fun op aC=>by rw[MP op aC];omega) i hk hc
 ·rw[hmg.1] at hx
  obtain⟨j,hj⟩:=List.getElem?_of_mem hx
  rw[List.getElem?_drop,Array.getElem?_toList] at hj
  have hjq:j <q.length:=by have:=lt_size hj;have:=hL.size;omega
  obtain⟨y,d,hy,hq,_⟩:=hL.ok j _ (List.getElem?_eq_getElem hjq)
  rw[Nat.add_comm] at hj
  rw[hj] at hy
  obtain rfl:=Option.some.inj hy
  exact⟨_,hq.leaves⟩
 rw[hmg.1] at hx
 cases i with
 |zero=>exact absurd rfl dQ
 |succ j=>
  have hjq:j <q.length:=by have:=lt_size hx;have:=hL.size;omega
  obtain⟨y,d,hy,hq,hdd,_⟩:=hL.ok j _ (List.getElem?_eq_getElem hjq)
  rw[hx] at hy
  obtain rfl:=Option.some.inj hy
  refine⟨q[j],?_⟩
  have e:(t++u).deaf (j+1) (t++u).size=d:=by
   have:=iF t u (g:=j+1) fun op aC=>by rw[MP op aC];omega
   unfold Deaf at this hdd
   rw[this];exact hdd
  rw[e]
  exact hq.hears m.world
theorem aeY{Post:Value→World→Prop}{s:St}{w:World}(ha:aU s w)(h:T0 P w.os w.output Post g s):Ends P (Good P Post) (solo g w) #[]:=by
 rw[solo_eq_crowd]
 have JQ:∀p x,touchAt #[] p=some x→False:=fun p x hx=>by simp[touchAt,Trace.act?] at hx
 have hn:∀i,i≠0→∀b,¬((if i=0 then s else ⟨fun _=>none,[]⟩:St)).knows b:=fun i hi b hk=>by
  rw[if_neg hi] at hk
  rcases hk with hk| ⟨o,ho⟩
  ·exact hk rfl
  cases ho
 refine h (fun j=>if j=0 then s else ⟨fun _=>none,[]⟩) #[g] w #[] [] none ⟨⟨(fun _ _ e=>(by cases e)),fun _ _ _=>rfl,fun i=>?_,fun i j b JU ho hk=>?_,fun _ _ _ p x hx=>(JQ p x hx).elim,fun _ _ _ p x hx=>(JQ p x hx).elim,
  fun p x _ hx=>(JQ p x hx).elim,(fun said ⟨i,j,_,⟨a,b,h1,_⟩,_⟩=>by simp[Trace.act?] at h1),fun p x _ hx=>(JQ p x hx).elim⟩,rfl,fun i n hi=>by simp at hi,fun i b hi hk=>hn i hi b hk,by simp⟩ rfl (by simp only[if_true];exact St.le_refl _) rfl ⟨fun a i=>by simp[Trace.act?],rfl,rfl⟩
 ·by_cases e:i=0
  ·simp only[e,if_true];exact ha
  simp only[if_neg e];exact⟨(fun _ _ e=>(by cases e)),(fun _ _ e=>(by cases e)),by simp,(fun _ _ e=>(by cases e))⟩
 by_cases e:j=0
 ·exact hn i (fun e'=>JU (e'.trans e.symm)) b (.inr ho)
 exact hn j e b hk
section
variable {ι:Type} {E:eg ι} {L:Nat→Option Obj} {pend d0:Nat} {Q:Machine→Outcome→World→Trace→Prop} {g g':Goroutine} {s:St} {os:List ι}
theorem Yq(hs:g.status= .running)(cg:∀w,E.live w→stepG E.P true g w= .go g' w #[])(hT:TC E L Q pend false os d0 g' s):TC E L Q pend false os d0 g s:=
 Gq (es:= #[]) (mH:=pend) hs rfl (fun w st sm ha hb _=>⟨w,cg w ⟨st,sm,ha⟩,eV.refl w,by obtain⟨rfl,rfl⟩:=hb rfl;exact ha⟩) (by simp) rfl id hT
theorem am9(hs:g.status= .running)(cg:∀w,E.live w→stepG E.P true g w= .go g' w #[said (.read (smA E.Wg))])(hT:TC E L Q pend false os d0 g' s):TC E L Q pend false os d0 g s:=by
 refine x3 hs (fun K gs w t D cl sl m iY hI ho hK hm=>?_) fun e=>(by cases e)
 subst hK
 have hcn:cl=none:=by cases cl<;>simp_all
 subst hcn
 obtain⟨st,sm,ha,_⟩:=hI.sy.cells
 have hgo:=cg w ⟨st,sm,ha⟩
 have e1:MemOp.ofEvents 0 g.frame.fn g.frame.place #[said (.read (smA E.Wg))]= #[{g:=0,fn:=g.frame.fn,pos:=g.frame.place,act:= .mark (.read (smA E.Wg))}]:=by rw[ofEvents_eq];simp[said,Go.ConcR.ofEvent_mk]
 have axv:∀op∈MemOp.ofEvents 0 g.frame.fn g.frame.place #[said (.read (smA E.Wg))],op.g=0∧op.act= .mark (.read (smA E.Wg)):=by
  rw[e1];intro op aC;simp only[List.mem_toArray,List.mem_singleton] at aC;subst aC;exact⟨rfl,rfl⟩
 have htc:∀op∈MemOp.ofEvents 0 g.frame.fn g.frame.place #[said (.read (smA E.Wg))],∀x,op.act.touch?=some x→x=⟨.cell (smA E.Wg),false,.said⟩:=fun op aC x hx=>by
  rw[(axv op aC).2] at hx;simp only[MemAct.touch?,Option.some.injEq] at hx;exact hx.symm
 obtain⟨lM,u,cl',hr,AQ,WQ⟩:=hI.go0 (sl:=sl) (s':=K 0) (mH:=pend) hgo ⟨rfl,rfl⟩ (hI.sy.kW 0) (hI.sy.kC 0) rfl (by
  rw[mG]
  refine hI.base.fit.beside E.Wg 0 hI.sy.kW hI.sy.lW (lt_size ha) (Nat.le_refl _) (fun _ _ _=>rfl) (fun op aC=>(axv op aC).1) fun op aC x hx=>?_
  obtain rfl:=htc op aC x hx
  refine⟨rfl,fun sd p a v9 hc=>?_⟩
  have hl:blk a.loc=some E.Wg:=by rw[hc.1];rfl
  rcases hc.2.2.2 with h3|h3|h3
  ·exact hI.sy.plain 0 (.inl rfl) p a v9 (.inl hl) h3
  ·cases h3
  ·exact hI.sy.said p a v9 hl h3.2.1)
  (fun op aC x hx _=>by obtain rfl:=htc op aC x hx;exact⟨by simp,fun _=>rfl⟩) (fun op aC a=>by rw[(axv op aC).2];simp) (hI.Ji rfl) hI.sy.DL
 exact Ends.next (hm.trans hr) (hT _ lM w _ D cl' sl (WQ.trans iY) AQ ho (by rw[aG];exact St.le_refl _))
end
abbrev NA:=Option Value×Option Value
abbrev jT:NA:=(none,none)
def Jk:NA→Nat→Option Value
 | (a,_),0=>a
 | (_,b),1=>b
 |_,_=>none
theorem TW(off:Nat):Jk jT off=none:=by
 match off with
 |0=>rfl
 |1=>rfl
 |_+2=>rfl
def PI:NA→Nat→Value→NA
 | (_,b),0,v=>(some v,b)
 | (a,_),1,v=>(a,some v)
 |c,_,_=>c
inductive RH(α:Type) where
 |ok (a:α)
 |halt (h:Halt)
structure VO(α:Type) where
 r:RH α
 ws:List (Nat×Value)
 es:List Event
 bs:List Nat
def wj(P:Program)(ty:TypeId):Sem α→NA→Option (VO α)
 | .pure a,_=>some ⟨.ok a,[],[],[]⟩
 | .load m a k,c=>match a.spot with
  |some _=>none
  |none=>match Jk c a.off with
   |some v=>match wj P ty (k v) c with
    |some o=>some ⟨o.r,o.ws,⟨.cell a,false,m== .atomic⟩::o.es,a.block::o.bs⟩
    |none=>none
   |none=>none
 | .store m a v k,c=>match a.spot with
  |some _=>none
  |none=>bif single v then (match Jk c a.off with
   |some _=>match wj P ty k (PI c a.off v) with
    |some o=>some ⟨o.r,(a.off,v)::o.ws,⟨.cell a,true,m== .atomic⟩::o.es,a.block::o.bs⟩
    |none=>none
   |none=>none) else none
 | .shape r k,c=>match wj P ty (k (some (ty,2))) c with
  |some o=>some ⟨o.r,o.ws,o.es,r::o.bs⟩
  |none=>none
 | .frozen a k,c=>match wj P ty (k false) c with
  |some o=>some ⟨o.r,o.ws,o.es,a.block::o.bs⟩
  |none=>none
 | .program k,c=>wj P ty (k P) c
 | .mark m k,c=>match wj P ty k c with
  |some o=>some ⟨o.r,o.ws,⟨.mark m,false,true⟩::o.es,o.bs⟩
  |none=>none
 | .halt h,_=>some ⟨.halt h,[],[],[]⟩
 |_,_=>none
def mQ(ty:TypeId)(W:Nat)(w:World)(c:NA):Prop:=∃a b,w.heap[W]?=some (.cells #[a,b] ty)∧(∀x,c.1=some x→a=x)∧∀x,c.2=some x→b=x
theorem mQ.ae8{w:World}{c:NA}(h:mQ ty W w c):∃a b,w.heap[W]?=some (.cells #[a,b] ty):=by
 obtain⟨a,b,h,_⟩:=h
 exact⟨a,b,h⟩
def N7(W:Nat)(w:World)(ws:List (Nat×Value)):World:=ws.foldl (fun w x=>w.setCell ⟨W,x.1,none⟩ x.2) w
def RH.to(w:World):RH α→Result α
 | .ok a=> .ok a w
 | .halt h=> .halt h w
theorem Jj{w:World}{c:NA}(h:mQ ty W w c){v:Value}(hv:Jk c off=some v):w.cell? ⟨W,off,none⟩=some v:=by
 obtain⟨p,q,h,h1,h2⟩:=h
 unfold Jk at hv
 split at hv<;>try (cases hv;done)
 ·rw[←h1 _ hv];simp[World.cell?,h]
 rw[←h2 _ hv];simp[World.cell?,h]
theorem adb{w:World}{c:NA}(h:mQ ty W w c){u v:Value}(hv:Jk c off=some u):mQ ty W (w.setCell ⟨W,off,none⟩ v) (PI c off v):=by
 obtain⟨p,q,h,h1,h2⟩:=h
 unfold Jk at hv
 split at hv<;>try (cases hv;done)
 ·exact⟨v,q,by simp[World.setCell,Array.getElem?_modify,h],by simp[PI],fun x hx=>h2 x hx⟩
 exact⟨p,v,by simp[World.setCell,Array.getElem?_modify,h],fun x hx=>h1 x hx,by simp[PI]⟩
theorem aeP{w:World}{a b:Value}(h:w.heap[W]?=some (.cells #[a,b] ty)) (off:Nat) (s:Option Nat):w.frozen? ⟨W,off,s⟩=false:=by
 simp[World.frozen?,h]
theorem NW(x:Sem α):∀ {c:NA} {o:VO α} {w:World} (es:Array Event),wj P ty x c=some o→(∀b∈o.bs,b=W)→((c=jT∧o.bs=[])∨mQ ty W w c)→x.runT P w es=(o.r.to (N7 W w o.ws),es++o.es.toArray):=by
 induction x with
 |pure a=>intro c o w es h hb hc;simp only[wj,Option.some.injEq] at h;subst h;simp[Sem.runT,RH.to,N7]
 |halt a=>intro c o w es h hb hc;simp only[wj,Option.some.injEq] at h;subst h;simp[Sem.runT,RH.to,N7]
 |load m a k ih=>
  intro c o w es h hb hc
  simp only[wj] at h
  split at h<;>try (cases h;done)
  rename_i hs
  split at h<;>try (cases h;done)
  rename_i v hv
  split at h<;>try (cases h;done)
  rename_i o1 h1
  simp only[Option.some.injEq] at h;subst h
  have e:a=⟨W,a.off,none⟩:=by
   have:=hb a.block (by simp)
   rcases a with ⟨x,y,z⟩
   simp only at hs this
   subst hs this;rfl
  have ue:mQ ty W w c:=hc.elim (fun hh=>by rw[hh.1] at hv;rw[TW] at hv;cases hv) id
  have Is:w.cell? a=some v:=by rw[e];exact Jj ue hv
  simp only[Sem.runT,Is]
  rw[ih v _ h1 (fun b hm=>hb b (by simp[hm])) (.inr ue)]
  simp
 |store m a v k ih=>
  intro c o w es h hb hc
  simp only[wj] at h
  split at h<;>try (cases h;done)
  rename_i hs
  cases hsg:single v with
  |false=>rw[hsg] at h;cases h
  |true=>
  rw[hsg] at h;simp only[cond_true] at h
  split at h<;>try (cases h;done)
  rename_i u hu
  split at h<;>try (cases h;done)
  rename_i o1 h1
  simp only[Option.some.injEq] at h;subst h
  have e:a=⟨W,a.off,none⟩:=by
   have:=hb a.block (by simp)
   rcases a with ⟨x,y,z⟩
   simp only at hs this
   subst hs this;rfl
  have ue:mQ ty W w c:=hc.elim (fun hh=>by rw[hh.1] at hu;rw[TW] at hu;cases hu) id
  have Is:w.cell? a=some u:=by rw[e];exact Jj ue hu
  have hfz:w.frozen? a=false:=by
   obtain⟨p,q,ZY⟩:=ue.ae8
   rw[e];exact aeP ZY _ _
  have pU:=adb (v:=v) ue hu
  have key:(Sem.store m a v k).runT P w es=k.runT P (w.setCell a v) (es.push ⟨.cell a,true,m== .atomic⟩):=by
   cases v<;>first| (cases hsg;done)|simp[Sem.runT,Is,hfz]
  rw[key,ih _ h1 (fun b hm=>hb b (by simp[hm])) (.inr (by rw[e];exact pU))]
  simp only[N7,List.foldl_cons]
  rw[←e]
  simp
 |shape r k ih=>
  intro c o w es h hb hc
  simp only[wj] at h
  split at h<;>try (cases h;done)
  rename_i o1 h1
  simp only[Option.some.injEq] at h;subst h
  have e:r=W:=hb r (by simp)
  have ue:mQ ty W w c:=hc.elim (fun hh=>by cases hh.2) id
  have hsh:w.shape? r=some (ty,2):=by
   obtain⟨p,q,ZY⟩:=ue.ae8
   rw[e];simp[World.shape?,ZY]
  simp only[Sem.runT,hsh]
  exact ih _ _ h1 (fun b hm=>hb b (by simp[hm])) (.inr ue)
 |frozen a k ih=>
  intro c o w es h hb hc
  simp only[wj] at h
  split at h<;>try (cases h;done)
  rename_i o1 h1
  simp only[Option.some.injEq] at h;subst h
  have e:a.block=W:=hb a.block (by simp)
  have ue:mQ ty W w c:=hc.elim (fun hh=>by cases hh.2) id
  have hsh:w.frozen? a=false:=by
   obtain⟨p,q,ZY⟩:=ue.ae8
   rcases a with ⟨x,y,z⟩
   simp only at e;subst e;exact aeP ZY _ _
  simp only[Sem.runT,hsh]
  exact ih _ _ h1 (fun b hm=>hb b (by simp[hm])) (.inr ue)
 |program k ih=>
  intro c o w es h hb hc
  simp only[wj] at h
  simp only[Sem.runT]
  exact ih _ _ h hb hc
 |mark m k ih=>
  intro c o w es h hb hc
  simp only[wj] at h
  split at h<;>try (cases h;done)
  rename_i o1 h1
  simp only[Option.some.injEq] at h;subst h
  simp only[Sem.runT]
  rw[ih _ h1 (fun b hm=>hb b hm) hc]
  simp
 |new o k ih=>intro c o w es h;cases h
 |freeze a n k ih=>intro c o w es h;cases h
 |getObj r k ih=>intro c o w es h;cases h
 |setObj r o k ih=>intro c o w es h;cases h
 |choose q k ih=>intro c o w es h;cases h
 |sys q k ih=>intro c o w es h;cases h
def azM(fr:Frame):Option Frame:=
 match fr.todo with
 | []=>match fr.roundOf with
  |none=>some {fr with mode:= .returning}
  |some _=>none
 | .code .ret::_=>match fr.roundOf with
  |none=>some {fr with mode:= .returning}
  |some _=>none
 | .code .skip::k=>some {fr with todo:=k}
 | .code (.label _)::k=>some {fr with todo:=k}
 | .inBlock _::k=>some {fr with todo:=k}
 | .inScope _::k=>some {fr with todo:=k}
 | .code (.seq a b)::k=>some {fr with todo:= .code a:: .code b::k}
 | .code (.cond c x y)::k=>match fr.eval c with
  | .bool b=>some {fr with todo:= .code (if b then x else y)::k}
  |_=>none
 | .code (.block id body)::k=>some {fr with todo:= .code body:: .inBlock id::k}
 | .code (.loop body)::k=>some {fr with todo:= .code body:: .inLoop body::k}
 | .inLoop body::k=>some {fr with todo:= .code body:: .inLoop body::k}
 | .code (.scope body)::k=>some {fr with todo:= .code body:: .inScope body::k}
 | .code (.exit id)::k=>match exitTo id k with
  |some k'=>some {fr with todo:=k'}
  |none=>none
 | .code (.region _ ops false)::k=>some {fr with todo:= .inRegion ops (List.range ops.size)::k}
 | .inRegion _ []::k=>some {fr with todo:=k}
 | .inRegion ops (i::_)::_=>if ((ops[i]?).map (Region.wanted · (yielded ops fr.tmps))).getD false then none else some (fr.finish undef)
 |_=>none
theorem aqh(hm:fr.mode= .run)(h:azM fr=some oh)(w:World):stepG P main (G fr cs) w= .go (G oh cs) w #[]:=by
 rcases fr with ⟨fn,tmps,todo,defers,mode,kind,ro⟩
 simp only at hm;subst hm
 unfold azM at h
 simp only at h
 split at h
 all_goals try (cases h;done)
 all_goals try (simp only[Option.some.injEq] at h;subst h;simp[G,stepG,stepG.exec];done)
 ·split at h<;>try (cases h;done)
  simp only[Option.some.injEq] at h;subst h;simp[G,stepG,stepG.exec]
 ·split at h<;>try (cases h;done)
  simp only[Option.some.injEq] at h;subst h;simp[G,stepG,stepG.exec]
 ·split at h<;>try (cases h;done)
  rename_i b hb
  simp only[Option.some.injEq] at h;subst h
  simp only[G,stepG,stepG.exec,hb]
 ·split at h<;>try (cases h;done)
  rename_i b hb
  simp only[Option.some.injEq] at h;subst h
  simp[G,stepG,stepG.exec,hb]
 split at h<;>try (cases h;done)
 rename_i hw
 simp only[Option.some.injEq] at h;subst h
 simp only[G,stepG,stepG.exec,hw]
 simp
inductive OV where
 |go (fr:Frame) (iT:List Frame)
 |ret (v:Value)
 |auN
 |block
abbrev OVs:=Option (OV×List (Nat×Value)×List Event×List Nat)
def vL(P:Program)(fn:FuncId)(es:List Event):List Event:=(seen P fn es.toArray).toList
def ZJ:CallKind→Bool
 | .early=>true
 |_=>false
def agc(P:Program)(ty:TypeId)(c:NA)(fr:Frame)(iT:List Frame):OVs:=
 match fr.todo with
 | .inRegion ops (i::_)::_=>bif ((ops[i]?).map (Region.wanted · (yielded ops fr.tmps))).getD false&& !(ZJ fr.kind) then (match fr.roundOf,fr.oper? with
  |none,some o=>match wj P ty (execOp fr.eval o) c with
   |some ⟨.ok (.value v),ws,es,bs⟩=>some (.go (fr.finish v) iT,ws,vL P fr.fn es,bs)
   |some ⟨.ok .skip,ws,es,bs⟩=>some (.go (fr.finish undef) iT,ws,vL P fr.fn es,bs)
   |some ⟨.ok (.enter f args),ws,es,bs⟩=>some (.go (Frame.enter P f args .normal) (fr::iT),ws,vL P fr.fn es,bs)
   |some ⟨.ok (.defer d),ws,es,bs⟩=>some (.go ({fr with defers:=d::fr.defers}.finish undef) iT,ws,vL P fr.fn es,bs)
   |some ⟨.halt .blocked,ws,_,bs⟩=>some (.block,ws,[],bs)
   |_=>none
  |_,_=>none) else none
 |_=>none
def aFY:Target→Bool
 | .fn .. =>true
 |_=>false
def aue(P:Program)(ty:TypeId)(c:NA)(fr:Frame)(iT:List Frame):OVs:=
 match fr.defers with
 | []=>match P.funcs[fr.fn]? with
  |some fn=>match wj P ty (results fn fr.tmps) c with
   |some ⟨.ok v,ws,es,bs⟩=>match iT with
    |q::gQ=>match fr.kind with
     | .normal=>some (.go (q.finish v) gQ,ws,vL P fr.fn es,bs)
     | .deferred=>match q.mode with
      | .returning=>some (.go q gQ,ws,vL P fr.fn es,bs)
      |_=>none
     |_=>none
    | []=>match fr.kind with
     | .normal=>some (.ret v,ws,vL P fr.fn es,bs)
     | .deferred=>some (.auN,ws,vL P fr.fn es,bs)
     |_=>none
   |_=>none
  |none=>none
 |d::ds=>bif aFY d.target then (match wj P ty (invoke d.target d.args) c with
  |some ⟨.ok (.value _),ws,es,bs⟩=>some (.go {fr with defers:=ds} iT,ws,vL P fr.fn es,bs)
  |some ⟨.ok (.enter f args),ws,es,bs⟩=>some (.go (Frame.enter P f args .deferred) ({fr with defers:=ds}::iT),ws,vL P fr.fn es,bs)
  |_=>none) else none
def RJ(P:Program)(ty:TypeId)(c:NA)(fr:Frame)(iT:List Frame):OVs:=
 match fr.mode with
 | .run=>match azM fr with
  |some oh=>some (.go oh iT,[],[],[])
  |none=>agc P ty c fr iT
 | .returning=>aue P ty c fr iT
 |_=>none
def OV.is(P:Program)(main:Bool)(g:Goroutine)(w w':World)(es:Array Event)(cs:List Frame):OV→Prop
 | .go fr iT=>stepG P main g w= .go (G fr (iT++cs)) w' es
 | .ret v=>(∀c J5,cs=c::J5→stepG P main g w= .go (G (c.finish v) J5) w' es)
 | .auN=>(∀c J5,cs=c::J5→(c.mode= .returning∨∃ch,c.mode= .panicking [⟨ch,false,true⟩])→stepG P main g w= .go (G c J5) w' es)
 | .block=>stepG P main g w= .go {g with status:= .blocked} w' es
section
variable {P:Program} {main:Bool} {ty:TypeId} {W:Nat} {c:NA} {fr:Frame} {iT cs:List Frame} {w:World} {o:OV} {ws:List (Nat×Value)} {es:List Event} {bs:List Nat}
theorem toArr(P:Program)(fn:FuncId)(es:List Event):(vL P fn es).toArray=seen P fn es.toArray:=by simp[vL]
theorem agb(hm:fr.mode= .run)(h:agc P ty c fr iT=some (o,ws,es,bs))(hb:∀b∈bs,b=W)(hc:(c=jT∧bs=[])∨mQ ty W w c)(cs:List Frame)(main:Bool):o.is P main (G fr (iT++cs)) w (N7 W w ws) es.toArray cs:=by
 rcases fr with ⟨fn,tmps,todo,defers,mode,kind,ro⟩
 simp only at hm;subst hm
 unfold agc at h
 simp only at h
 split at h<;>try (cases h;done)
 rename_i ops i rest k
 cases hw:(((ops[i]?).map (Region.wanted · (yielded ops tmps))).getD false&& !(ZJ kind)) with
 |false=>rw[hw] at h;cases h
 |true=>
 rw[hw] at h;simp only[cond_true] at h
 simp only[Bool.and_eq_true] at hw
 have hk:(kind==CallKind.early)=false:=by cases kind<;>first|rfl|cases hw.2
 split at h<;>try (cases h;done)
 rename_i op aC
 have iq:∀cs,stepG P main (G ⟨fn,tmps,.inRegion ops (i::rest)::k,defers,.run,kind,none⟩ cs) w=stepG.apply P true ⟨fn,tmps,.inRegion ops (i::rest)::k,defers,.run,kind,none⟩ cs none (execOp (Frame.eval ⟨fn,tmps,.inRegion ops (i::rest)::k,defers,.run,kind,none⟩) op) w:=by
  intro cs
  simp only[G,stepG,stepG.exec,hw.1,if_true,stepG.oper,aC]
 split at h<;>try (cases h;done)
 all_goals
  rename_i heq hv
  simp only[Option.some.injEq,Prod.mk.injEq] at h
  obtain⟨rfl,rfl,rfl,rfl⟩:=h
  have cq:=NW _ (w:=w) #[] hv hb hc
  simp only[RH.to,Array.empty_append] at cq
  simp only[OV.is]
  rw[iq]
  simp only[stepG.apply,cq,if_true,hk,Bool.false_eq_true,if_false,GStep.after,Array.append_empty,G,toArr]
 all_goals first|rfl| (simp[seen_none];done)
theorem am5(hm:fr.mode= .returning)(h:aue P ty c fr iT=some (o,ws,es,bs))(hb:∀b∈bs,b=W)(hc:(c=jT∧bs=[])∨mQ ty W w c)(cs:List Frame)(main:Bool):o.is P main (G fr (iT++cs)) w (N7 W w ws) es.toArray cs:=by
 rcases fr with ⟨fn,tmps,todo,defers,mode,kind,ro⟩
 simp only at hm;subst hm
 unfold aue at h
 simp only at h
 split at h
 ·split at h<;>try (cases h;done)
  rename_i f hf
  split at h<;>try (cases h;done)
  rename_i v ws' eE xO hv
  have cq:=fun hb hc=>NW _ (w:=w) #[] hv (W:=W) hb hc
  simp only[RH.to,Array.empty_append] at cq
  have key:(∀b∈xO,b=W)→((c=jT∧xO=[])∨mQ ty W w c)→∀cs,stepG P main (G ⟨fn,tmps,todo,[],.returning,kind,ro⟩ cs) w=GStep.after (seen P fn eE.toArray) (doReturn P main ⟨fn,tmps,todo,[],.returning,kind,ro⟩ cs none v (N7 W w ws')):=by
   intro hb hc cs
   simp only[G,stepG,unwind,hf,cq hb hc]
  split at h
  ·split at h<;>try (cases h;done)
   ·simp only[Option.some.injEq,Prod.mk.injEq] at h
    obtain⟨rfl,rfl,rfl,rfl⟩:=h
    simp only[OV.is]
    rw[key hb hc]
    simp only[List.cons_append,doReturn,GStep.after,Array.append_empty,toArr,G]
   split at h<;>try (cases h;done)
   rename_i q gQ hmq
   simp only[Option.some.injEq,Prod.mk.injEq] at h
   obtain⟨rfl,rfl,rfl,rfl⟩:=h
   simp only[OV.is]
   rw[key hb hc]
   simp only[List.cons_append,doReturn,hmq,GStep.after,Array.append_empty,toArr,G]
  split at h<;>try (cases h;done)
  ·simp only[Option.some.injEq,Prod.mk.injEq] at h
   obtain⟨rfl,rfl,rfl,rfl⟩:=h
   intro q J5 hq
   subst hq
   rw[key hb hc]
   simp only[List.nil_append,doReturn,GStep.after,Array.append_empty,toArr,G]
  simp only[Option.some.injEq,Prod.mk.injEq] at h
  obtain⟨rfl,rfl,rfl,rfl⟩:=h
  intro q J5 hq hmq
  subst hq
  rw[key hb hc]
  rcases hmq with hmq| ⟨ch,hmq⟩
  ·simp only[List.nil_append,doReturn,hmq,GStep.after,Array.append_empty,toArr,G]
  simp only[List.nil_append,doReturn,hmq,GStep.after,Array.append_empty,toArr,G]
 rename_i d ds
 cases hd:aFY d.target with
 |false=>rw[hd] at h;cases h
 |true=>
 rw[hd] at h;simp only[cond_true] at h
 rcases d with ⟨tg,args⟩
 cases tg with
 |fn f cap=>
  split at h<;>try (cases h;done)
  all_goals
   rename_i hv
   simp only[Option.some.injEq,Prod.mk.injEq] at h
   obtain⟨rfl,rfl,rfl,rfl⟩:=h
   have cq:=NW _ (w:=w) #[] hv hb hc
   simp only[RH.to,Array.empty_append] at cq
   simp only[OV.is]
   simp only[G,stepG,unwind,callDeferred,cq,GStep.after,toArr,Array.append_empty,Bool.false_and,Bool.false_eq_true,if_false,List.cons_append]
 |_=>cases hd
theorem sr(h:RJ P ty c fr iT=some (o,ws,es,bs))(hb:∀b∈bs,b=W)(hc:(c=jT∧bs=[])∨mQ ty W w c)(cs:List Frame)(main:Bool):o.is P main (G fr (iT++cs)) w (N7 W w ws) es.toArray cs:=by
 unfold RJ at h
 split at h<;>try (cases h;done)
 ·rename_i hm
  split at h
  ·rename_i oh hfr
   simp only[Option.some.injEq,Prod.mk.injEq] at h
   obtain⟨rfl,rfl,rfl,rfl⟩:=h
   exact aqh hm hfr w
  exact agb hm h hb hc cs main
 rename_i hm
 exact am5 hm h hb hc cs main
end
def akZ:Event→Option (Nat×Nat×List Nat)
 | ⟨.mark .disable,false,true⟩=>some (1,0,[])
 | ⟨.mark .enable,false,true⟩=>some (2,0,[])
 | ⟨.mark (.releaseMerge ⟨b,o,none⟩),false,true⟩=>some (3,o,[b])
 | ⟨.mark (.acquire ⟨b,o,none⟩),false,true⟩=>some (4,o,[b])
 | ⟨.mark (.read ⟨b,o,none⟩),false,true⟩=>some (5,o,[b])
 | ⟨.mark (.write ⟨b,o,none⟩),false,true⟩=>some (6,o,[b])
 | ⟨.cell ⟨b,o,none⟩,false,true⟩=>some (7,o,[b])
 | ⟨.cell ⟨b,o,none⟩,true,true⟩=>some (8,o,[b])
 |_=>none
def XA(W:Nat)(x:Nat×Nat):Event:=
 match x.1 with
 |1=>said .disable
 |2=>said .enable
 |3=>said (.releaseMerge ⟨W,x.2,none⟩)
 |4=>said (.acquire ⟨W,x.2,none⟩)
 |5=>said (.read ⟨W,x.2,none⟩)
 |6=>said (.write ⟨W,x.2,none⟩)
 |7=>⟨.cell ⟨W,x.2,none⟩,false,true⟩
 |_=>⟨.cell ⟨W,x.2,none⟩,true,true⟩
theorem akY{e:Event}{o:Nat}{bs:List Nat}(h:akZ e=some (k,o,bs))(hb:∀b∈bs,b=W):e=XA W (k,o):=by
 unfold akZ at h
 split at h<;>try (cases h;done)
 all_goals
  simp only[Option.some.injEq,Prod.mk.injEq] at h
  obtain⟨rfl,rfl,rfl⟩:=h
 ·rfl
 ·rfl
 all_goals
  have:=hb _ (List.mem_singleton.2 rfl)
  subst this
  rfl
def I7:List Event→Option (List (Nat×Nat)×List Nat)
 | []=>some ([],[])
 |e::l=>match akZ e,I7 l with
  |some (k,o,b),some (r,bs)=>some ((k,o)::r,b++bs)
  |_,_=>none
theorem Nl:∀ {es:List Event} {ks:List (Nat×Nat)} {bs:List Nat},I7 es=some (ks,bs)→(∀b∈bs,b=W)→es=ks.map (XA W)
 | [],ks,bs,h,hb=>by simp only[I7,Option.some.injEq,Prod.mk.injEq] at h;obtain⟨rfl,rfl⟩:=h;rfl
 |e::l,ks,bs,h,hb=>by
  simp only[I7] at h
  split at h<;>try (cases h;done)
  rename_i k o b r xO h1 h2
  simp only[Option.some.injEq,Prod.mk.injEq] at h
  obtain⟨rfl,rfl⟩:=h
  rw[List.map_cons,←akY h1 (fun x hx=>hb x (by simp[hx])),←Nl h2 (fun x hx=>hb x (by simp[hx]))]
abbrev Bl:=Option (List Nat)
def alp:List Nat→Bl→Bl
 |a,some b=>some (a++b)
 |_,none=>none
def both:Bl→Bl→Bl
 |some a,some b=>some (a++b)
 |_,_=>none
def alv(f:α→Bl):List α→Bl
 | []=>some []
 |x::l=>both (f x) (alv f l)
theorem PU{a bs:List Nat}{x:Bl}(h:alp a x=some bs)(hb:∀b∈bs,b=W):(∀b∈a,b=W)∧∃y,x=some y∧∀b∈y,b=W:=by
 cases x with
 |none=>cases h
 |some y=>
  simp only[alp,Option.some.injEq] at h;subst h
  exact⟨fun b hm=>hb b (by simp[hm]),y,rfl,fun b hm=>hb b (by simp[hm])⟩
theorem Cu{bs:List Nat}{x y:Bl}(h:both x y=some bs)(hb:∀b∈bs,b=W):(∃a,x=some a∧∀b∈a,b=W)∧∃a,y=some a∧∀b∈a,b=W:=by
 cases x with
 |none=>cases h
 |some a=>
  cases y with
  |none=>cases h
  |some b=>
   simp only[both,Option.some.injEq] at h;subst h
   exact⟨⟨a,rfl,fun b hm=>hb b (by simp[hm])⟩,b,rfl,fun b hm=>hb b (by simp[hm])⟩
theorem GS{f:α→Bl}:∀ {l:List α} {bs:List Nat},alv f l=some bs→(∀b∈bs,b=W)→∀x∈l,∃a,f x=some a∧∀b∈a,b=W
 | [],_,_,_,x,hx=>by cases hx
 |y::l,bs,h,hb,x,hx=>by
  obtain⟨h1,h2,h3,h4⟩:=Cu h hb
  rcases List.mem_cons.1 hx with rfl|hx
  ·exact h1
  exact GS h3 h4 x hx
def Fi(P:Program)(ty:TypeId):Nat→Frame→List Frame→(Frame→List Frame→Bl)→Bl
 |0,_,_,_=>none
 |n+1,fr,iT,k=>match RJ P ty jT fr iT with
  |some (.go oh gQ,[],[],bs)=>alp bs (Fi P ty n oh gQ k)
  |_=>k fr iT
def atH(P:Program)(ty:TypeId)(c:NA)(fr:Frame)(iT:List Frame):Option (Frame×List Frame×List (Nat×Value)×List (Nat×Nat)×List Nat×List Nat):=
 match RJ P ty c fr iT with
 |some (.go oh gQ,ws,es,bs)=>match I7 es with
  |some (ks,b2)=>some (oh,gQ,ws,ks,bs,b2)
  |none=>none
 |_=>none
def i64(n:Int):Value:= .int .u64 n
def i32(n:Int):Value:= .int .u32 n
def XO:List (Nat×Nat)→List (Nat×Nat)→Bool
 | [],[]=>true
 | (a,b)::l,(c,d)::m=>Nat.beq a c&&(Nat.beq b d&&XO l m)
 |_,_=>false
theorem aaT:∀ {l m:List (Nat×Nat)},XO l m=true→l=m
 | [],[],_=>rfl
 | (a,b)::l,(c,d)::m,h=>by
  simp only[XO,Bool.and_eq_true] at h
  rw[Nat.eq_of_beq_eq_true h.1,Nat.eq_of_beq_eq_true h.2.1,aaT h.2.2]
 | [],_::_,h=>by simp[XO] at h
 |_::_,[],h=>by simp[XO] at h
def adl:List (Nat×Value)→Option (Nat×IntKind×Int)→Bool
 | [],none=>true
 | [(o,.int k n)],some (o',k',n')=>Nat.beq o o'&&(decide (k=k')&&decide (n=n'))
 |_,_=>false
theorem adk{l:List (Nat×Value)}(h:adl l none=true):l=[]:=by
 unfold adl at h
 split at h
 ·rfl
 ·rename_i heq;cases heq
 cases h
theorem adj{l:List (Nat×Value)}{o:Nat}{k:IntKind}{n:Int}(h:adl l (some (o,k,n))=true):l=[(o,.int k n)]:=by
 unfold adl at h
 split at h
 ·rename_i heq;cases heq
 ·rename_i heq
  cases heq
  simp only[Bool.and_eq_true,decide_eq_true_eq] at h
  rw[Nat.eq_of_beq_eq_true h.1,h.2.1,h.2.2]
 cases h
def Fz(P:Program)(ty:TypeId)(c:NA)(m:Bool)(wr:Option (Nat×IntKind×Int))(ks:List (Nat×Nat))(fr:Frame)(iT:List Frame)(k:Frame→List Frame→Bl):Bl:=
 match atH P ty c fr iT with
 |some (oh,gQ,ws,ks',b1,b2)=>bif adl ws wr&&(XO ks' ks&&(!m||b1.isEmpty)) then alp b1 (alp b2 (k oh gQ)) else none
 |none=>none
section
variable {P:Program} {ty:TypeId} {W:Nat}
theorem amV{c:NA}{gQ:List Frame}{ws:List (Nat×Value)}{ks:List (Nat×Nat)}{b1 b2:List Nat}(h:atH P ty c fr iT=some (oh,gQ,ws,ks,b1,b2))(h1:∀b∈b1,b=W)(h2:∀b∈b2,b=W)
 {w:World}(hc:(c=jT∧b1=[])∨mQ ty W w c)(cs:List Frame)(main:Bool):stepG P main (G fr (iT++cs)) w= .go (G oh (gQ++cs)) (N7 W w ws) (ks.map (XA W)).toArray:=by
 unfold atH at h
 split at h<;>try (cases h;done)
 rename_i h0
 split at h<;>try (cases h;done)
 rename_i hk
 simp only[Option.some.injEq,Prod.mk.injEq] at h
 obtain⟨rfl,rfl,rfl,rfl,rfl,rfl⟩:=h
 have:=sr h0 h1 hc cs main
 simp only[OV.is] at this
 rw[this,Nl hk h2]
def wrote(W:Nat)(w:World):Option (Nat×IntKind×Int)→World
 |none=>w
 |some (o,k,n)=>w.setCell ⟨W,o,none⟩ (.int k n)
theorem iG{c:NA}{m:Bool}{x:Option (Nat×IntKind×Int)}{ks:List (Nat×Nat)}{k:Frame→List Frame→Bl}{bs:List Nat}(h:Fz P ty c m x ks fr iT k=some bs)(hb:∀b∈bs,b=W):
 ∃oh gQ xO,k oh gQ=some xO∧(∀b∈xO,b=W)∧∀cs main w,((c=jT∧m=true)∨mQ ty W w c)→stepG P main (G fr (iT++cs)) w= .go (G oh (gQ++cs)) (wrote W w x) (ks.map (XA W)).toArray:=by
 unfold Fz at h
 split at h<;>try (cases h;done)
 rename_i oh gQ ws ks' b1 b2 hv
 cases hq:(adl ws x&&(XO ks' ks&&(!m||b1.isEmpty))) with
 |false=>rw[hq] at h;cases h
 |true=>
 rw[hq] at h;simp only[cond_true] at h
 simp only[Bool.and_eq_true] at hq
 obtain⟨q1,q2,q3⟩:=hq
 obtain⟨h1,y,hy,hy'⟩:=PU h hb
 obtain⟨h2,z,hz,FT⟩:=PU hy hy'
 refine⟨oh,gQ,z,hz,FT,fun cs main w hc=>?_⟩
 have:=amV hv h1 h2 (w:=w) (by
  rcases hc with ⟨hc,hm⟩|hc
  ·subst hm
   simp at q3
   exact .inl ⟨hc,q3⟩
  exact .inr hc) cs main
 rw[this,aaT q2]
 cases x with
 |none=>rw[adk q1];rfl
 |some x=>
  obtain⟨o,kd,n⟩:=x
  rw[adj q1];rfl
theorem Xi{k:Frame→List Frame→Bl}:∀ {n:Nat} {fr:Frame} {iT:List Frame} {bs:List Nat},Fi P ty n fr iT k=some bs→(∀b∈bs,b=W)→
 ∀(T:Frame→List Frame→Prop),(∀oh gQ xO,k oh gQ=some xO→(∀b∈xO,b=W)→T oh gQ)→
 (∀fr iT oh gQ,(∀cs main w,mQ ty W w jT→stepG P main (G fr (iT++cs)) w= .go (G oh (gQ++cs)) w #[])→T oh gQ→T fr iT)→T fr iT
 |0,_,_,_,h,_,_,_,_=>by cases h
 |n+1,fr,iT,bs,h,hb,T,hk,hs=>by
  simp only[Fi] at h
  split at h
  ·rename_i oh gQ b1 h0
   obtain⟨h1,y,hy,hy'⟩:=PU h hb
   refine hs fr iT oh gQ (fun cs main w hc=>?_) (Xi hy hy' T hk hs)
   have:=sr h0 h1 (.inr hc) cs main
   simp only[OV.is] at this
   rw[this];rfl
  exact hk _ _ _ h hb
end
section
variable {ι:Type} (E:eg ι)
theorem HV{w:World}(h:E.live w):mQ E.ty E.Wg w jT:=by
 obtain⟨st,sm,h⟩:=h
 exact⟨_,_,h,by simp,by simp⟩
theorem pz{w:World}(h:WgAt E.ty E.Wg w st sm):mQ E.ty E.Wg w (some (i64 st),some (i32 sm)):=⟨_,_,h,by simp[i64],by simp[i32]⟩
theorem auA{w:World}(h:WgAt E.ty E.Wg w st sm):mQ E.ty E.Wg w (none,some (i32 sm)):=⟨_,_,h,by simp,by simp[i32]⟩
variable {E}
theorem fQ{Stop:Goroutine→Prop}{k:Frame→List Frame→Bl}{bs:List Nat}(h:Fi E.P E.ty n fr iT k=some bs)(hb:∀b∈bs,b=E.Wg)
 (hk:∀oh gQ xO,k oh gQ=some xO→(∀b∈xO,b=E.Wg)→Stop (G oh (gQ++cs))):E.pure main Stop (G fr (iT++cs)):=by
 refine Xi h hb (fun fr iT=>E.pure main Stop (G fr (iT++cs))) (fun oh gQ xO h1 h2=>⟨0,hk _ _ _ h1 h2⟩) fun fr iT oh gQ h1 ⟨m,hm⟩=>⟨m+1,rfl,_,fun w hw=>h1 cs main w (HV E hw),hm⟩
theorem Pf{L:Nat→Option Obj}{pend d0:Nat}{os:List ι}{s:St}{k:Frame→List Frame→Bl}{bs:List Nat}(h:Fi E.P E.ty n fr iT k=some bs)(hb:∀b∈bs,b=E.Wg)
 (hk:∀oh gQ xO,k oh gQ=some xO→(∀b∈xO,b=E.Wg)→TC E L Q pend false os d0 (G oh (gQ++cs)) s):TC E L Q pend false os d0 (G fr (iT++cs)) s:=
 Xi h hb (fun fr iT=>TC E L Q pend false os d0 (G fr (iT++cs)) s) hk fun fr iT oh gQ h1 hT=>Yq rfl (fun w hw=>h1 cs true w (HV E hw)) hT
def goR(P:Program)(ty:TypeId):Nat→Frame→List Frame→Bl
 |0,_,_=>none
 |n+1,fr,iT=>match RJ P ty jT fr iT with
  |some (.go oh gQ,[],[],[])=>goR P ty n oh gQ
  |some (.ret (.tuple ⟨[]⟩),[],[],[])=>some []
  |_=>none
theorem Xg{c:Frame}:∀ {n:Nat} {fr:Frame} {iT:List Frame} {bs:List Nat},goR P ty n fr iT=some bs→
 ∀(main:Bool) (T:Goroutine→Prop),T (G (c.finish (.tuple #[])) cs)→(∀g g',g.status= .running→g'.status= .running→(∀w,stepG P main g w= .go g' w #[])→T g'→T g)→T (G fr (iT++c::cs))
 |0,_,_,_,h,_,_,_,_=>by cases h
 |n+1,fr,iT,bs,h,main,T,hT,hs=>by
  simp only[goR] at h
  split at h
  ·rename_i oh gQ h0
   refine hs _ _ rfl rfl (fun w=>?_) (Xg h main T hT hs)
   have:=sr (W:=0) (w:=w) h0 (by simp) (.inl ⟨rfl,rfl⟩) (c::cs) main
   simp only[OV.is] at this
   rw[this];rfl
  ·rename_i h0
   refine hs _ _ rfl rfl (fun w=>?_) hT
   have:=sr (W:=0) (w:=w) h0 (by simp) (.inl ⟨rfl,rfl⟩) (c::cs) main
   simp only[OV.is] at this
   have h2:=this c cs rfl
   rw[h2];rfl
  cases h
def R5:List Event→Bool
 | []=>true
 |e::l=>e.mute&&R5 l
def goQ(P:Program)(ty:TypeId):Nat→Nat→Frame→List Frame→Bl
 |0,_,_,_=>none
 |n+1,d,fr,iT=>match RJ P ty jT fr iT with
  |some (.go oh gQ,[],es,[])=>bif R5 es then goQ P ty n (deafBehind d es.toArray) oh gQ else none
  |some (.auN,[],[],[])=>bif Nat.beq d 0 then some [] else none
  |_=>none
theorem R3:∀ {es:List Event},R5 es=true→∀e∈es,e.mute=true
 | [],_,e,he=>by cases he
 |x::l,h,e,he=>by
  simp only[R5,Bool.and_eq_true] at h
  rcases List.mem_cons.1 he with rfl|he
  ·exact h.1
  exact R3 h.2 e he
theorem Xh{c:Frame}{q:Nat}(hc:c.mode= .returning∨∃ch,c.mode= .panicking [⟨ch,false,true⟩])(hq:QuitsD P q 0 (G c cs)):∀ {n d:Nat} {fr:Frame} {iT:List Frame} {bs:List Nat},goQ P ty n d fr iT=some bs→
 ∃q,QuitsD P q d (G fr (iT++c::cs))
 |0,_,_,_,_,h=>by cases h
 |n+1,d,fr,iT,bs,h=>by
  simp only[goQ] at h
  split at h
  ·rename_i oh gQ es h0
   cases hm:R5 es with
   |false=>rw[hm] at h;cases h
   |true=>
   rw[hm] at h;simp only[cond_true] at h
   obtain⟨q',GH⟩:=Xh hc hq h
   refine⟨q'+1,.inr ⟨rfl,_,es.toArray,fun e he=>R3 hm e (by simpa using he),fun w=>?_,GH⟩⟩
   have:=sr (W:=0) (w:=w) h0 (by simp) (.inl ⟨rfl,rfl⟩) (c::cs) false
   simp only[OV.is] at this
   rw[this];rfl
  ·rename_i h0
   cases hd:Nat.beq d 0 with
   |false=>rw[hd] at h;cases h
   |true=>
   have:d=0:=Nat.eq_of_beq_eq_true hd
   subst this
   refine⟨q+1,.ctl rfl (fun w=>?_) hq⟩
   have:=sr (W:=0) (w:=w) h0 (by simp) (.inl ⟨rfl,rfl⟩) (c::cs) false
   simp only[OV.is] at this
   have h2:=this c cs rfl hc
   rw[h2];rfl
  cases h
end
section
variable (P:Program) (ty:TypeId)
abbrev c64(a b:Int):NA:=(some (i64 a),some (i32 b))
abbrev aDc:List (Nat×Nat):=[(1,0),(7,1),(8,1),(2,0)]
def alc(f:Frame)(s:List Frame):Bl:=bif mayWake P (G f []) then Fz P ty (c64 0 0) false (some (1,.u32,1)) aDc f s (goQ P ty 300 1) else none
def as8(f:Frame)(s:List Frame):Bl:=Fz P ty (c64 1 0) false (some (0,.u64,0)) [(8,0)] f s fun f s=>Fi P ty 300 f s (alc P ty)
def as9(f:Frame)(s:List Frame):Bl:=Fz P ty (c64 1 0) false none [(7,0)] f s fun f s=>Fi P ty 300 f s (as8 P ty)
def XG(f:Frame)(s:List Frame)(v wt:Nat):Bl:=
 Fz P ty (c64 (((v+1:Nat):Int)*KK+(wt:Int)) 0) false (some (0,.u64,(v:Int)*KK+(wt:Int))) [(7,0),(8,0)] f s fun f s=>bif Nat.beq v 0&&Nat.beq wt 1 then Fi P ty 300 f s (as9 P ty) else goQ P ty 300 1 f s
def ata(mx:Nat)(f:Frame)(s:List Frame):Bl:=alv (fun v=>both (XG P ty f s v 0) (XG P ty f s v 1)) (List.range mx)
def as7(mx:Nat)(f:Frame)(s:List Frame):Bl:=Fz P ty jT true none [(1,0)] f s fun f s=>Fi P ty 300 f s (ata P ty mx)
def as6(mx:Nat)(f:Frame)(s:List Frame):Bl:=Fz P ty jT true none [(3,0)] f s fun f s=>Fi P ty 300 f s (as7 P ty mx)
def yD(mx:Nat)(f:Frame):Bl:=Fi P ty 300 f [] (as6 P ty mx)
def atb(f:Frame)(s:List Frame):Bl:=Fz P ty jT true none [(4,0)] f s (goR P ty 300)
def aaL(f:Frame)(s:List Frame):Bl:=Fz P ty jT true none [(2,0)] f s fun f s=>Fi P ty 300 f s (atb P ty)
def as3(f:Frame)(s:List Frame):Bl:=Fz P ty (c64 0 0) false none [(7,0)] f s fun f s=>Fi P ty 300 f s (aaL P ty)
def aKX(c:NA)(f:Frame)(s:List Frame):Bl:=match RJ P ty c f s with
 |some (.block,[],[],bs)=>some bs
 |_=>none
def as4(f:Frame)(s:List Frame):Bl:=both (aKX P ty (none,some (i32 0)) f s) (Fz P ty (c64 0 1) false (some (1,.u32,0)) aDc f s fun f s=>Fi P ty 300 f s (as3 P ty))
def as2(f:Frame)(s:List Frame):Bl:=Fz P ty jT true none [(6,1)] f s fun f s=>Fi P ty 300 f s (as4 P ty)
def as5(aoc:Frame→List Frame→Bl)(vs:Nat)(f:Frame)(s:List Frame):Bl:=
 both (Fz P ty (c64 ((vs:Int)*KK) 0) false (some (0,.u64,(vs:Int)*KK+1)) [(7,0),(8,0)] f s fun f s=>Fi P ty 300 f s (as2 P ty))
  (alv (fun v:Nat=>Fz P ty (c64 ((v:Int)*KK) 0) false none [(7,0)] f s fun f s=>Fi P ty 300 f s aoc) (List.range vs))
def TV:Nat→Frame→List Frame→Bl
 |0,f,s=>Fz P ty (c64 0 0) false none [(7,0)] f s fun f s=>Fi P ty 300 f s (aaL P ty)
 |b+1,f,s=>both (Fz P ty (c64 0 0) false none [(7,0)] f s fun f s=>Fi P ty 300 f s (aaL P ty))
  (alv (fun v:Nat=>Fz P ty (c64 (((v+1:Nat):Int)*KK) 0) false none [(7,0)] f s fun f s=>Fi P ty 300 f s (as5 P ty (TV b) (v+1))) (List.range (b+1)))
def Cp(mx:Nat)(f:Frame):Bl:=Fi P ty 300 f [] fun f s=>Fz P ty jT true none [(1,0)] f s fun f s=>Fi P ty 300 f s (TV P ty mx)
def Jg(v:Nat)(f:Frame):Bl:=
 Fi P ty 300 f [] fun f s=>Fz P ty jT true none [(1,0)] f s fun f s=>Fi P ty 300 f s fun f s=>
  Fz P ty (c64 ((v:Int)*KK) 0) false (some (0,.u64,((v+1:Nat):Int)*KK)) [(7,0),(8,0)] f s fun f s=>Fi P ty 300 f s fun f s=>
   bif Nat.beq v 0 then Fz P ty jT false none [(5,1)] f s fun f s=>Fi P ty 300 f s fun f s=>Fz P ty jT true none [(2,0)] f s (goR P ty 300)
   else Fz P ty jT true none [(2,0)] f s (goR P ty 300)
end
section
variable {ι:Type} {E:eg ι}
section leave
variable {c:Frame} {cs:List Frame} (hc:c.mode= .returning∨∃ch,c.mode= .panicking [⟨ch,false,true⟩]) {q0:Nat} (hq:QuitsD E.P q0 0 (G c cs))
include hc hq
theorem alb{f:Frame}{bs:List Nat}(h:alc E.P E.ty f s=some bs)(hb:∀b∈bs,b=E.Wg):E.D4 (G f (s++c::cs)):=by
 unfold alc at h
 cases hm:mayWake E.P (G f []) with
 |false=>rw[hm] at h;cases h
 |true=>
 rw[hm] at h;simp only[cond_true] at h
 obtain⟨f',s',xO,h1,h2,h3⟩:=iG h hb
 exact⟨rfl,hm,_,fun w hw=>h3 _ _ w (.inr (pz E hw)),Xh hc hq h1⟩
theorem ald{f:Frame}{bs:List Nat}(h:as8 E.P E.ty f s=some bs)(hb:∀b∈bs,b=E.Wg):E.D3 (G f (s++c::cs)):=by
 obtain⟨f',s',xO,h1,h2,h3⟩:=iG h hb
 exact⟨rfl,_,fun w hw=>h3 _ _ w (.inr (pz E hw)),fQ h1 h2 fun _ _ _ k1 k2=>alb hc hq k1 k2⟩
theorem ale{f:Frame}{bs:List Nat}(h:as9 E.P E.ty f s=some bs)(hb:∀b∈bs,b=E.Wg):E.D2 (G f (s++c::cs)):=by
 obtain⟨f',s',xO,h1,h2,h3⟩:=iG h hb
 exact⟨rfl,_,fun w hw=>h3 _ _ w (.inr (pz E hw)),fQ h1 h2 fun _ _ _ k1 k2=>ald hc hq k1 k2⟩
theorem alf{f:Frame}{bs:List Nat}(h:ata E.P E.ty E.max f s=some bs)(hb:∀b∈bs,b=E.Wg):E.D1 (G f (s++c::cs)):=by
 refine⟨rfl,fun v wt hwt hv=>?_⟩
 obtain⟨a,h1,h2⟩:=GS h hb v (List.mem_range.2 hv)
 have key:∃a,XG E.P E.ty f s v wt=some a∧∀b∈a,b=E.Wg:=by
  obtain⟨k1,k2⟩:=Cu h1 h2
  match wt,hwt with
  |0,_=>exact k1
  |1,_=>exact k2
 obtain⟨a',k1,k2⟩:=key
 obtain⟨f',s',xO,j1,j2,j3⟩:=iG k1 k2
 refine⟨_,fun w hw=>j3 _ _ w (.inr (pz E hw)),fun hh=>?_,fun hh=>?_⟩
 ·obtain⟨rfl,rfl⟩:=hh
  exact fQ j1 j2 fun _ _ _ k1 k2=>ale hc hq k1 k2
 have:(Nat.beq v 0&&Nat.beq wt 1)=false:=by
  cases hx:(Nat.beq v 0&&Nat.beq wt 1) with
  |false=>rfl
  |true=>
   simp only[Bool.and_eq_true] at hx
   exact absurd ⟨Nat.eq_of_beq_eq_true hx.1,Nat.eq_of_beq_eq_true hx.2⟩ hh
 rw[this] at j1;simp only[cond_false] at j1
 exact Xh hc hq j1
theorem ala{f:Frame}{bs:List Nat}(h:as7 E.P E.ty E.max f s=some bs)(hb:∀b∈bs,b=E.Wg):E.K1 (G f (s++c::cs)):=by
 obtain⟨f',s',xO,h1,h2,h3⟩:=iG h hb
 exact⟨rfl,_,fun w=>h3 _ _ w (.inl ⟨rfl,rfl⟩),fQ h1 h2 fun _ _ _ k1 k2=>alf hc hq k1 k2⟩
theorem ak9{f:Frame}{bs:List Nat}(h:as6 E.P E.ty E.max f s=some bs)(hb:∀b∈bs,b=E.Wg):E.R0 (G f (s++c::cs)):=by
 obtain⟨f',s',xO,h1,h2,h3⟩:=iG h hb
 exact⟨rfl,_,fun w=>h3 _ _ w (.inl ⟨rfl,rfl⟩),fQ h1 h2 fun _ _ _ k1 k2=>ala hc hq k1 k2⟩
theorem Jf{f:Frame}{bs:List Nat}(h:yD E.P E.ty E.max f=some bs)(hb:∀b∈bs,b=E.Wg):E.pure false E.R0 (G f (c::cs)):=
 fQ (iT:=[]) h hb fun _ _ _ k1 k2=>ak9 hc hq k1 k2
end leave
section close
variable {c:Frame} {cs:List Frame} {st:St} (hT:fo E.P false E.K0 (G (c.finish (.tuple #[])) cs) st)
include hT
theorem alg{f:Frame}{bs:List Nat}(h:atb E.P E.ty f s=some bs)(hb:∀b∈bs,b=E.Wg):E.Aq st (G f (s++c::cs)):=by
 obtain⟨f',s',xO,h1,h2,h3⟩:=iG h hb
 have key:=Xg (c:=c) (cs:=cs) h1 false (fun g=>fo E.P false E.K0 g st) hT fun g g' hg hg' cg hT'=>(ei _ _ _).go hg hg' cg hT'
 obtain⟨tr,iR,hle,ht⟩:=key
 exact⟨rfl,_,fun w=>h3 _ _ w (.inl ⟨rfl,rfl⟩),tr,iR,hle,ht⟩
theorem Je{f:Frame}{bs:List Nat}(h:aaL E.P E.ty f s=some bs)(hb:∀b∈bs,b=E.Wg):E.Ke st (G f (s++c::cs)):=by
 obtain⟨f',s',xO,h1,h2,h3⟩:=iG h hb
 exact⟨rfl,_,fun w=>h3 _ _ w (.inl ⟨rfl,rfl⟩),fQ h1 h2 fun _ _ _ k1 k2=>alg hT k1 k2⟩
theorem ak6{f:Frame}{bs:List Nat}(h:as3 E.P E.ty f s=some bs)(hb:∀b∈bs,b=E.Wg):E.W4 st (G f (s++c::cs)):=by
 obtain⟨f',s',xO,h1,h2,h3⟩:=iG h hb
 exact⟨rfl,_,fun w hw=>h3 _ _ w (.inr (pz E hw)),fQ h1 h2 fun _ _ _ k1 k2=>Je hT k1 k2⟩
theorem ak7{f:Frame}{bs:List Nat}(h:as4 E.P E.ty f s=some bs)(hb:∀b∈bs,b=E.Wg):E.W3 st (G f (s++c::cs)):=by
 obtain⟨⟨b1,k1,k2⟩,b2,k3,k4⟩:=Cu h hb
 obtain⟨f',s',xO,h1,h2,h3⟩:=iG k3 k4
 refine⟨rfl,rfl,fun w n hw=>?_,_,fun w hw=>h3 _ _ w (.inr (pz E hw)),fQ h1 h2 fun _ _ _ k1 k2=>ak6 hT k1 k2⟩
 unfold aKX at k1
 split at k1<;>try (cases k1;done)
 rename_i h0
 simp only[Option.some.injEq] at k1;subst k1
 have:=sr h0 k2 (w:=w) (.inr (auA E hw)) (c::cs) false
 simp only[OV.is] at this
 rw[this];rfl
theorem ak5{f:Frame}{bs:List Nat}(h:as2 E.P E.ty f s=some bs)(hb:∀b∈bs,b=E.Wg):E.Wr st (G f (s++c::cs)):=by
 obtain⟨f',s',xO,h1,h2,h3⟩:=iG h hb
 exact⟨rfl,_,fun w=>h3 _ _ w (.inl ⟨rfl,rfl⟩),fQ h1 h2 fun _ _ _ k1 k2=>ak7 hT k1 k2⟩
theorem ak8{aoc:Frame→List Frame→Bl}{alE:Goroutine→Prop}(hm:∀f s bs,aoc f s=some bs→(∀b∈bs,b=E.Wg)→alE (G f (s++c::cs))){vs:Nat}{f:Frame}{bs:List Nat}(h:as5 E.P E.ty aoc vs f s=some bs)(hb:∀b∈bs,b=E.Wg):
 E.W2 (E.pure false alE) st vs (G f (s++c::cs)):=by
 obtain⟨⟨b1,k1,k2⟩,b2,k3,k4⟩:=Cu h hb
 obtain⟨f',s',xO,h1,h2,h3⟩:=iG k1 k2
 refine⟨rfl,⟨_,fun w hw=>h3 _ _ w (.inr (pz E hw)),fQ h1 h2 fun _ _ _ k1 k2=>ak5 hT k1 k2⟩,fun v hv=>?_⟩
 obtain⟨a,j1,j2⟩:=GS k3 k4 v (List.mem_range.2 hv)
 obtain⟨f2,s2,bs2,i1,i2,i3⟩:=iG j1 j2
 exact⟨_,fun w hw=>i3 _ _ w (.inr (pz E hw)),fQ i1 i2 fun _ _ _ k1 k2=>hm _ _ _ k1 k2⟩
theorem TU:∀ {b:Nat} {f:Frame} {s:List Frame} {bs:List Nat},TV E.P E.ty b f s=some bs→(∀b∈bs,b=E.Wg)→E.W1 st b (G f (s++c::cs))
 |0,f,s,bs,h,hb=>by
  simp only[TV] at h
  obtain⟨f',s',xO,h1,h2,h3⟩:=iG h hb
  exact⟨rfl,_,fun w hw=>h3 _ _ w (.inr (pz E hw)),fQ h1 h2 fun _ _ _ k1 k2=>Je hT k1 k2⟩
 |b+1,f,s,bs,h,hb=>by
  simp only[TV] at h
  obtain⟨⟨b1,k1,k2⟩,b2,k3,k4⟩:=Cu h hb
  obtain⟨f',s',xO,h1,h2,h3⟩:=iG k1 k2
  refine⟨rfl,⟨_,fun w hw=>h3 _ _ w (.inr (pz E hw)),fQ h1 h2 fun _ _ _ k1 k2=>Je hT k1 k2⟩,fun v hv1 hv2=>?_⟩
  obtain⟨u,rfl⟩:∃u,v=u+1:=⟨v-1,by omega⟩
  obtain⟨a,j1,j2⟩:=GS k3 k4 u (List.mem_range.2 (by omega))
  obtain⟨f2,s2,bs2,i1,i2,i3⟩:=iG j1 j2
  exact⟨_,fun w hw=>i3 _ _ w (.inr (pz E hw)),fQ i1 i2 fun _ _ _ k1 k2=>ak8 hT (alE:=E.W1 st b) (fun _ _ _ m1 m2=>TU m1 m2) k1 k2⟩
theorem Jd{f:Frame}{bs:List Nat}(h:Cp E.P E.ty E.max f=some bs)(hb:∀b∈bs,b=E.Wg):E.closes st (G f (c::cs)):=
 fQ (iT:=[]) h hb fun _ _ _ k1 k2=>by
  obtain⟨f',s',xO,h1,h2,h3⟩:=iG k1 k2
  exact⟨rfl,_,fun w=>h3 _ _ w (.inl ⟨rfl,rfl⟩),fQ h1 h2 fun _ _ _ k1 k2=>TU hT k1 k2⟩
end close
theorem Nq{L:Nat→Option Obj}{os:List ι}{s:St}{c:Frame}{f:Frame}{bs:List Nat}(h:Jg E.P E.ty os.length f=some bs)(hb:∀b∈bs,b=E.Wg)(KC:os.length <E.max)
 (hT:TC E L Q 1 false os 0 (G (c.finish (.tuple #[])) cs) s):TC E L Q 0 false os 0 (G f (c::cs)) s:=by
 have qW:∀ {f:Frame} {iT:List Frame} {bs:List Nat},Fz E.P E.ty jT true none [(2,0)] f iT (goR E.P E.ty 300)=some bs→(∀b∈bs,b=E.Wg)→TC E L Q 1 false os 1 (G f (iT++c::cs)) s:=by
  intro f iT bs h hb
  obtain⟨f',s',xO,h1,h2,h3⟩:=iG h hb
  refine Gq (mH:=1) (d':=0) rfl rfl (fun w st sm hw hz _=>⟨w,h3 _ _ w (.inl ⟨rfl,rfl⟩),eV.refl w,by obtain⟨rfl,rfl⟩:=hz rfl;exact hw⟩) (by intro e he;simp[XA] at he;subst he;exact .inr (.inl rfl)) rfl id ?_
  exact Xg (c:=c) (cs:=cs) h1 true (fun g=>TC E L Q 1 false os 0 g s) hT fun g g' hg hg' cg hT'=>Yq hg (fun w _=>cg w) hT'
 refine Pf (iT:=[]) h hb fun f1 s1 b1 k1 k2=>?_
 obtain⟨f',s',xO,h1,h2,h3⟩:=iG k1 k2
 refine Gq (mH:=0) (d':=1) rfl rfl (fun w st sm hw hz _=>⟨w,h3 _ _ w (.inl ⟨rfl,rfl⟩),eV.refl w,by obtain⟨rfl,rfl⟩:=hz rfl;exact hw⟩) (by intro e he;simp[XA] at he;subst he;exact .inl rfl) rfl id ?_
 refine Pf h1 h2 fun f2 s2 b2 k1 k2=>?_
 obtain⟨f',s',xO,h1,h2,h3⟩:=iG k1 k2
 refine Gq (mH:=1) (d':=1) rfl rfl (fun w st sm hw hz _=>⟨_,h3 _ _ w (.inr ?_),eV.set w 0 _,?_⟩) (by
  intro e he;simp[XA] at he
  rcases he with rfl|rfl<;>exact oD 0 _) rfl (fun _=>KC) ?_
 ·obtain⟨rfl,rfl⟩:=hz rfl
  exact pz E hw
 ·obtain⟨rfl,rfl⟩:=hz rfl
  exact Go.ConcR.WgAt.setSt hw _
 refine Pf h1 h2 fun f3 s3 b3 k1 k2=>?_
 cases hz:Nat.beq os.length 0 with
 |false=>
  rw[hz] at k1;simp only[cond_false] at k1
  exact qW k1 k2
 |true=>
  rw[hz] at k1;simp only[cond_true] at k1
  obtain⟨f',s',xO,h1,h2,h3⟩:=iG k1 k2
  refine am9 rfl (fun w hw=>h3 _ _ w (.inr (HV E hw)))<|Pf h1 h2 fun f4 s4 b4 k1 k2=>qW k1 k2
end
def CA(P:Program):Class:=fun main T=>Closed P main T
def afd:Code→Nat
 | .seq a b=>afd a+afd b+1
 |_=>0
def iu(l:List Code):List Code:=l.flatMap jD
section
variable {P:Program} {main:Bool} {T:Goroutine→St→Prop} {b:Frame} {k:List Item} {cs:List Frame} {a:Act} {s:St} {n LF:Nat} {D:List Deferred} {call:cA} {ops:Array Oper}
 {ρ:aX} {ce e:Env} {m:Mem} {F:Nat×Obj→Prop} {R:Nat→Option Obj}
abbrev On(T:Goroutine→St→Prop)(b:Frame)(a:Act)(l:List Code)(k:List Item)(cs:List Frame)(s:St):Prop:=T (G (aM b a (l.map .code++k)) cs) s
theorem ou(hT:Closed P main T){c0:Code}:∀ {l:List Code},iu l=c0::rest→(∀l',iu l'=rest→T (G (aM b a (.code c0::(l'.map .code++k))) cs) s)→On T b a l k cs s:=by
 intro l
 generalize hn:(l.map afd).sum=q
 induction q using Nat.strongRecOn generalizing l with
 |_ q ih=>
  intro hl h
  cases l with
  |nil=>cases hl
  |cons c l=>
   cases hc:c with
   |seq x y=>
    subst hc
    refine hT.go rfl rfl (g':=G (aM b a ((x::y::l).map .code++k)) cs) (fun w=>by simp[G,stepG,stepG.exec,aM])<|ih ((x::y::l).map afd).sum ?_ rfl ?_ h
    ·rw[←hn];simp[afd];omega
    rw[←hl];simp[iu,jD]
   |_=>
    subst hc
    simp only[iu,List.flatMap_cons,jD,List.singleton_append,List.cons.injEq] at hl
    obtain⟨rfl,hl⟩:=hl
    exact h l hl
theorem dP(hT:Closed P main T){l:List Code}(hl:iu l= .region id ops false::rest)(h:∀l',iu l'=rest→T (G (aM b a (.inRegion ops (List.range ops.size)::(l'.map .code++k))) cs) s):On T b a l k cs s:=
 ou hT hl fun l' yq=>hT.go rfl rfl (g':=G (aM b a (.inRegion ops (List.range ops.size)::(l'.map .code++k))) cs) (fun w=>by simp[G,stepG,stepG.exec,aM]) (h l' yq)
theorem BG(hT:Closed P main T){c:Operand}{x y:Code}{t:Bool}{l:List Code}(hl:iu l= .cond c x y::rest)(hc:a.eval c= .bool t)(h:∀l',iu l'=rest→T (G (aM b a (.code (if t then x else y)::(l'.map .code++k))) cs) s):On T b a l k cs s:=
 ou hT hl fun l' yq=>hT.go rfl rfl (g':=G (aM b a (.code (if t then x else y)::(l'.map .code++k))) cs) (fun w=>by
  have he:=lh b a (.code (.cond c x y)::(l'.map .code++k))
  simp only[aM] at he
  simp only[G,stepG,stepG.exec,aM,he,hc]) (h l' yq)
theorem xb(hT:Closed P main T){c:Code}{l:List Code}(hl:iu l= .block id c::rest)(h:∀l',iu l'=rest→On T b a [c] (.inBlock id::(l'.map .code++k)) cs s):On T b a l k cs s:=
 ou hT hl fun l' yq=>hT.go rfl rfl (g':=G (aM b a (.code c:: .inBlock id::(l'.map .code++k))) cs) (fun w=>by simp[G,stepG,stepG.exec,aM]) (show T (G (aM b a (.code c:: .inBlock id::(l'.map .code++k))) cs) s from h l' yq)
theorem Eu(hT:Closed P main T)(h:T (G (aM b a k) cs) s):T (G (aM b a (.inBlock id::k)) cs) s:=
 hT.go rfl rfl (g':=G (aM b a k) cs) (fun w=>by simp[G,stepG,stepG.exec,aM]) h
theorem Of(hT:Closed P main T){c:Code}{l:List Code}(hl:iu l= .loop c::rest)(h:∀l',iu l'=rest→On T b a [c] (.inLoop c::(l'.map .code++k)) cs s):On T b a l k cs s:=
 ou hT hl fun l' yq=>hT.go rfl rfl (g':=G (aM b a (.code c:: .inLoop c::(l'.map .code++k))) cs) (fun w=>by simp[G,stepG,stepG.exec,aM]) (show T (G (aM b a (.code c:: .inLoop c::(l'.map .code++k))) cs) s from h l' yq)
theorem A1(hT:Closed P main T){c:Code}(h:On T b a [c] (.inLoop c::k) cs s):T (G (aM b a (.inLoop c::k)) cs) s:=
 hT.go rfl rfl (g':=G (aM b a (.code c:: .inLoop c::k)) cs) (fun w=>by simp[G,stepG,stepG.exec,aM]) h
theorem Px(hT:Closed P main T)(h:T (G (aM b a k) cs) s):T (G (aM b a (.code .skip::k)) cs) s:=
 hT.go rfl rfl (g':=G (aM b a k) cs) (fun w=>by simp[G,stepG,stepG.exec,aM]) h
theorem Py(hT:Closed P main T){k':List Item}(hk:exitTo id k=some k')(h:T (G (aM b a k') cs) s):T (G (aM b a (.code (.exit id)::k)) cs) s:=
 hT.go rfl rfl (g':=G (aM b a k') cs) (fun w=>by simp[G,stepG,stepG.exec,aM,hk]) h
theorem iN(hT:Closed P main T)(h:T (G (aM b a k) cs) s):T (G (aM b a (.inRegion ops []::k)) cs) s:=
 hT.go rfl rfl (g':=G (aM b a k) cs) (fun w=>by simp[G,stepG,stepG.exec,aM]) h
theorem rj(id:Nat):∀(l:List Code) (k:List Item),exitTo id (l.map .code++k)=exitTo id k
 | [],k=>rfl
 |c::l,k=>by
  rw[List.map_cons,List.cons_append]
  exact rj id l k
theorem tQ(hT:Closed P main T){rest:List Nat}(ho:ops[i]?=some o) (hw:Region.wanted o (yielded ops a.tmps)=true) (hk:b.kind≠ .early) (hb:b.roundOf=none)
 (h:bU P (execOp a.eval o) s (fun nx s'=>∃v,nx= .value v∧T (G (aM b (a.put o.dst v) (.inRegion ops rest::k)) cs) s') (fun _ _=>False)):T (G (aM b a (.inRegion ops (i::rest)::k)) cs) s:=by
 have ky:(b.kind==CallKind.early)=false:=by simpa using hk
 have iq:∀w,stepG P main (G (aM b a (.inRegion ops (i::rest)::k)) cs) w=stepG.apply P true (aM b a (.inRegion ops (i::rest)::k)) cs none (execOp a.eval o) w:=by
  intro w
  have he:=lh b a (.inRegion ops (i::rest)::k)
  simp only[aM] at he
  simp only[G,stepG,stepG.exec,aM,ho,Option.map_some,Option.getD_some,hw,if_true,stepG.oper,Frame.oper?,he]
  rw[hb]
 refine hT.step _ _ rfl fun w qn=>?_
 obtain⟨r,es,hr,hl⟩:=iy _ _ _ _ w #[] h qn
 rw[Array.empty_append] at hr
 have ni:=iq w
 simp only[stepG.apply,if_true,hr] at ni
 simp only[aM,ky,Bool.false_eq_true,if_false] at ni
 cases r with
 |ok nx w'=>
  obtain⟨s',ht,v,rfl,hv⟩:=hl
  simp only[GStep.after,Array.append_empty] at ni
  have mT:=gi b a ops i rest k v
  rw[ho] at mT
  simp only[Option.bind_some] at mT
  rw[←mT] at hv
  exact⟨_,_,_,s',ni,rfl,ht.sub (jb P b.fn es),hv⟩
 |halt hh w'=>
  obtain⟨s',ht,hu⟩:=hl
  exact hu.elim
theorem dI(o:Oper)(f:Nat→Option Bool)(h:o.guard=none):Region.wanted o f=true:=by unfold Region.wanted;rw[h]
end
def St.freeze(s:St):St:=⟨fun b=>match s.rw.find? (fun x=>x.1==b) with
 |some x=>some x.2
 |none=>s.ro b,[]⟩
theorem oY{l:List (Nat×Obj)}{x:Nat×Obj}(h:l.find? (fun x=>x.1==b)=some x):x∈l∧x.1=b:=
 ⟨List.mem_of_find?_eq_some h,by simpa using List.find?_some h⟩
theorem xE{l:List (Nat×Obj)}(hn:(l.map (·.1)).Nodup){o:Obj}(h:(b,o)∈l):l.find? (fun x=>x.1==b)=some (b,o):=by
 induction l with
 |nil=>cases h
 |cons y l ih=>
  rw[List.map_cons,List.nodup_cons] at hn
  rcases List.mem_cons.1 h with rfl|h'
  ·simp
  have:y.1≠b:=fun e=>hn.1 (e▸List.mem_map.2 ⟨_,h',rfl⟩)
  rw[List.find?_cons_of_neg (by simpa using this)]
  exact ih hn.2 h'
theorem St.Em(s:St):s.freeze.le s:=by
 refine⟨s.rw,by simp[St.freeze],fun b o h=>?_⟩
 simp only[St.freeze] at h
 split at h
 ·rename_i x hx
  obtain⟨h1,h2⟩:=oY hx
  cases h
  subst h2
  exact .inr h1
 exact .inl h
theorem St.og{s:St}{o:Obj}(h:s.ro b=some o)(ha:∀b o,(b,o)∈s.rw→s.ro b=none):s.freeze.ro b=some o:=by
 simp only[St.freeze]
 split
 ·rename_i x hx
  obtain⟨h1,h2⟩:=oY hx
  subst h2
  rw[ha x.1 x.2 h1] at h;cases h
 exact h
theorem St.ug{s:St}{o:Obj}(h:(b,o)∈s.rw)(hn:(s.rw.map (·.1)).Nodup):s.freeze.ro b=some o:=by
 simp only[St.freeze,xE hn h]
section
variable {P:Program} {ρ:aX} {m:Mem} {F:Nat×Obj→Prop} {R:Nat→Option Obj} {s:St}
theorem Closed.kB{T:Goroutine→St→Prop}(hT:Closed P main T)(hs:g.status= .running)(h:(∃w,aU s w)→T g s):T g s:=by
 by_cases ha:∃w,aU s w
 ·exact h ha
 exact hT.step _ _ hs fun w hw=>absurd ⟨w,hw⟩ ha
end
section
variable {P:Program} {main:Bool} {T:Goroutine→St→Prop} {b:Frame} {k:List Item} {cs:List Frame} {a:Act} {s:St} {n LF:Nat} {D:List Deferred} {call:cA} {ops:Array Oper}
 {ρ:aX} {ce e:Env} {m:Mem} {F:Nat×Obj→Prop} {R:Nat→Option Obj}
theorem RF(hT:Closed P main T){rest:List Nat}(ho:ops[i]?=some o) (hg:o.guard=none) (hk:b.kind≠ .early) (hb:b.roundOf=none) (aC:o.op= .call ⟨.value (.func f),xs,ats⟩) (hf:FF P f)
 (h:T (G (Frame.enter P f (xs.map a.eval) .normal) (aM b a (.inRegion ops (i::rest)::k)::cs)) s):T (G (aM b a (.inRegion ops (i::rest)::k)) cs) s:=by
 have ky:(b.kind==CallKind.early)=false:=by simpa using hk
 have hw:Region.wanted o (yielded ops a.tmps)=true:=dI o _ hg
 have xo:bU P (execOp a.eval o) s (fun nx s'=>nx= .enter f (xs.map a.eval)∧s'=s) (fun _ _=>False):=by
  have e1:a.eval (.func f)= .func (.func f) #[] #[]:=rfl
  simp only[execOp,aC,resolve,e1,Deferred.ofValue,ae,ah,invoke]
  have:(#[]++xs.map a.eval:Array Value)++ #[]=xs.map a.eval:=by simp
  rw[this]
  exact kL hf ⟨rfl,rfl⟩
 have iq:∀w,stepG P main (G (aM b a (.inRegion ops (i::rest)::k)) cs) w=stepG.apply P true (aM b a (.inRegion ops (i::rest)::k)) cs none (execOp a.eval o) w:=by
  intro w
  have he:=lh b a (.inRegion ops (i::rest)::k)
  simp only[aM] at he
  simp only[G,stepG,stepG.exec,aM,ho,Option.map_some,Option.getD_some,hw,if_true,stepG.oper,Frame.oper?,he]
  rw[hb]
 refine hT.step _ _ rfl fun w qn=>?_
 obtain⟨r,es,hr,hl⟩:=iy _ _ _ _ w #[] xo qn
 rw[Array.empty_append] at hr
 have ni:=iq w
 simp only[stepG.apply,if_true,hr] at ni
 simp only[aM,ky,Bool.false_eq_true,if_false] at ni
 cases r with
 |ok nx w'=>
  obtain⟨s',ht,rfl,rfl⟩:=hl
  simp only[GStep.after,Array.append_empty] at ni
  exact⟨_,_,_,_,ni,rfl,ht.sub (jb P b.fn es),h⟩
 |halt hh w'=>
  obtain⟨s',ht,hu⟩:=hl
  exact hu.elim
def cT(P:Program):Frame:={(default:Frame) with fn:=P.funcs.size,defers:=[],mode:= .panicking [goexitEntry]}
theorem Rs(P:Program):QuitsD P 1 0 (G (cT P) []):=by
 have hc:(cT P).catches P=false:=by
  simp[Frame.catches,cT]
  rfl
 refine .ctl (g':={(G (cT P) []) with status:= .finished}) rfl (fun w=>?_) ⟨rfl,rfl⟩
 have cg:stepG P false (G (cT P) []) w=unwind P false (cT P) [] none w:=rfl
 rw[cg]
 unfold unwind
 have h1:(cT P).defers=[]:=rfl
 have h2:(cT P).mode= .panicking [goexitEntry]:=rfl
 simp only[h1,h2,hc,Bool.false_eq_true,if_false]
 simp[goexitEntry,G]
theorem oF{fn:Func}(hm:fr.mode= .returning)(hd:fr.defers=[])(hk:fr.kind= .deferred)(hf:P.funcs[fr.fn]?=some fn) (hr:fn.results= #[]):QuitsD P 2 0 (G fr [cT P]):=by
 refine .ctl rfl (fun w=>?_) (Rs P)
 have h1:∀tm,results fn tm=Sem.pure (.tuple #[]):=by intro tm;simp[results,hr];rfl
 rcases fr with ⟨fn',tmps,todo,defers,mode,kind,ro⟩
 simp only at hm hd hk hf
 subst hm hd hk
 simp only[G,stepG,unwind,hf,h1,Sem.runT,seen_none,GStep.after,doReturn,cT,goexitEntry,Array.append_empty]
end
structure Ua where
 f:FuncId
 n:Nat
 cl:List Code
 o7:Array Oper
 o:Oper
 sc:Operand
 sv:Operand
 done:FuncId
def goE(P:Program)(ty:TypeId):Nat→Frame→List Frame→Option (Frame×List Frame)
 |0,fr,iT=>some (fr,iT)
 |n+1,fr,iT=>match RJ P ty jT fr iT with
  |some (.go oh gQ,[],[],[])=>goE P ty n oh gQ
  |_=>none
theorem Xj{T:Goroutine→Prop}(hs:∀g g',g.status= .running→g'.status= .running→(∀w,stepG P main g w= .go g' w #[])→T g'→T g):∀ {n:Nat} {fr oh:Frame} {iT gQ:List Frame},goE P ty n fr iT=some (oh,gQ)→T (G oh (gQ++cs))→T (G fr (iT++cs))
 |0,fr,oh,iT,gQ,h,hT=>by simp only[goE,Option.some.injEq,Prod.mk.injEq] at h;obtain⟨rfl,rfl⟩:=h;exact hT
 |n+1,fr,oh,iT,gQ,h,hT=>by
  simp only[goE] at h
  split at h<;>try (cases h;done)
  rename_i f1 s1 h0
  refine hs _ _ rfl rfl (fun w=>?_) (Xj hs h hT)
  have:=sr (W:=0) (w:=w) h0 (by simp) (.inl ⟨rfl,rfl⟩) cs main
  simp only[OV.is] at this
  rw[this];rfl
theorem Jo(hf:FF P f)(ca:Array Value)(w:World):stepG P main (born P {target:= .fn (.func f) ca,args:= #[]}) w= .go (G (Frame.enter P f (#[]++ca) .deferred) [cT P]) w #[]:=by
 obtain⟨fn,h1,h2,h3⟩:=hf.ff
 have cq:(callFunc f (#[]++ca)).runT P w #[]=(.ok (.enter f (#[]++ca)) w,#[]):=by
  show (Sem.program _).runT P w #[]=_
  simp only[Sem.runT,Sem.bind,h1,h2,h3,Bool.false_eq_true,if_false]
  rfl
 simp only[born,stepG,unwind,callDeferred,invoke,cq,GStep.after,seen_none,Bool.false_and,Bool.false_eq_true,if_false,Array.append_empty,G,cT]
structure Nz where
 f:FuncId
 n:Nat
 b:Frame
 q0:Array Oper
 o0:Oper
 rest:Code
 q1:Array Oper
 oc:Oper
 cx:Operand
 wait:FuncId
structure Nz.OK(P:Program)(ty:TypeId)(x:Nz):Prop where
 ff:C2 P x.f=true
 fn:∃fn,P.funcs[x.f]?=some fn∧fn.results= #[]∧fn.norace=false
 bf:x.b.fn=x.f∧x.b.kind= .deferred∧x.b.roundOf=none
 enter:∀p1 p2:Value,goE P ty 3 (Frame.enter P x.f #[p1,p2] .deferred) []=some (Frame.enter P x.wait #[p1] .normal,[aM x.b (A x.n (gu 0 [p1,p2]) []) [.inRegion x.q0 [0],.code x.rest]])
 op0:x.q0[0]?=some x.o0
 rest:∃id,iu [x.rest]=[.region id x.q1 false]
 size:x.q1.size=2
 op:x.q1[1]?=some x.oc∧x.oc.guard=none∧∃ats,x.oc.op= .call {callee:= .builtin .close,args:= #[x.cx],argTypes:=ats}
theorem gX{l:List Code}(h:iu l=[]):l=[]:=by
 cases l with
 |nil=>rfl
 |cons y l=>
  exfalso
  have:∀c:Code,jD c≠[]:=by
   intro c
   induction c with
   |seq p q ihp ihq=>simp[jD,ihp]
   |_=>simp[jD]
  simp only[iu,List.flatMap_cons,List.append_eq_nil_iff] at h
  exact this y h.1
theorem Es{b:Frame}(h:b.roundOf=none)(a:Act)(todo:List Item):aM b a todo=b.at a todo:=by simp[aM,Frame.at,h]
def VV(P:Program):Sem Next→Nat→Option (Obj×Value)
 | .new o k,b=>match bH P (k b) with
  |some (.value v)=>some (o,v)
  |_=>none
 | .program k,b=>VV P (k P) b
 |_,_=>none
theorem HL{o:Obj}{f:Nat→Value}{s:St}{K:Next→St→Prop}{E:Halt→St→Prop}(hK:∀b,¬s.knows b→K (.value (f b)) ⟨s.ro,(b,o)::s.rw⟩):∀(x:Sem Next),(∀b,VV P x b=some (o,f b))→bU P x s K E:=by
 intro x
 induction x with
 |new o' k ih=>
  intro h b hb
  have h':=h b
  simp only[VV] at h'
  split at h'<;>try (cases h';done)
  rename_i v hv
  simp only[Option.some.injEq,Prod.mk.injEq] at h'
  obtain⟨rfl,rfl⟩:=h'
  exact oL hv (hK b hb)
 |program k ih=>intro h;exact ih P h
 |_=>intro h;have:=h 0;simp[VV] at this
structure sQ where
 f:FuncId
 n:Nat
 fn:Func
 o0:Array Oper
 o1:Array Oper
 o2:Array Oper
 o3:Array Oper
 o4:Array Oper
 o5:Array Oper
 o6:Array Oper
 o7:Array Oper
 o8:Array Oper
 o9:Array Oper
 o10:Array Oper
 o11:Array Oper
 DI:Array Oper
 o13:Array Oper
 o14:Array Oper
 a1:Oper
 a2:Oper
 a6:Oper
 a7:Oper
 a9:Oper
 T9:Oper
 lb:Code
 Fa:Code
 rb:Code
 vI:Code
 c4:Operand
 c12:Operand
 b0:Nat
 b1:Nat
 b2:Nat
 b3:Nat
 fin:List Code
 add:FuncId
 aqD:Operand
 sp:Operand
 sk:Operand
 rc:Operand
 wk:Ua
 cl:Nz
 ty:TypeId
 mx:Nat
def cW(l:List Code)(i:Nat):Array Oper:=match l[i]? with
 |some (.region _ ops _)=>ops
 |_=> #[]
def eR(o:Array Oper)(i:Nat):Oper:=(o[i]?).getD default
def agV(l:List Code)(i:Nat):Nat×Code:=match l[i]? with
 |some (.block id (.loop c))=>(id,c)
 |_=>(0,.skip)
def aaQ(l:List Code)(i:Nat):Nat×Code:=match l[i]? with
 |some (.block id c)=>(id,c)
 |_=>(0,.skip)
def akX(l:List Code)(i:Nat):Operand:=match l[i]? with
 |some (.cond c _ _)=>c
 |_=> .func 0
def Jm(o:Oper):FuncId:=match o.op with
 | .call ⟨.value (.func f),_,_⟩=>f
 | .defer ⟨.value (.func f),_,_⟩=>f
 |_=>0
def atg(o:Oper)(i:Nat):Operand:=match o.op with
 | .call ⟨_,xs,_⟩=>(xs[i]?).getD (.func 0)
 |_=> .func 0
def aKe(o:Oper):Operand:=match o.op with
 | .go ⟨.value x,_,_⟩=>x
 |_=> .func 0
def asS(o:Oper):FuncId:=match o.op with
 | .makeFunc (.func f) _ _=>f
 |_=>0
def chanOf(o:Oper):Operand:=match o.op with
 | .recv _ c _=>c
 | .send c _=>c
 |_=> .func 0
def auB(o:Oper):Operand:=match o.op with
 | .send _ x=>x
 |_=> .func 0
def typeOf(o:Oper):TypeId:=match o.op with
 | .alloc t=>t
 |_=>0
def codeOf(P:Program)(f:FuncId):List Code:=match P.funcs[f]? with
 |some fn=>match fn.body with
  |some c=>jD c
  |none=>[]
 |none=>[]
def tmpsOf(P:Program)(f:FuncId):Nat:=match P.funcs[f]? with
 |some fn=>fn.ntmps
 |none=>0
def auO(P:Program)(f:FuncId):Code:=match P.funcs[f]? with
 |some fn=>match fn.body with
  |some (.seq _ c)=>c
  |_=> .skip
 |none=> .skip
def azF(P:Program)(f:FuncId)(mx:Nat):sQ:=
 let l:=codeOf P f
 let lb:=agV l 4
 let ll:=jD lb.2
 let bb:=aaQ ll 2
 let bl:=jD bb.2
 let rb:=agV l 8
 let rl:=jD rb.2
 let rbb:=aaQ rl 2
 let rbl:=jD rbb.2
 let wf:=asS (eR (cW bl 2) 0)
 let wl:=codeOf P wf
 let cf:=asS (eR (cW l 5) 0)
 let cl:=codeOf P cf
 {f,n:=tmpsOf P f,fn:=(P.funcs[f]?).getD default,o0:=cW l 0,o1:=cW l 1,o2:=cW l 2,o3:=cW l 3,o4:=cW ll 0,o5:=cW bl 0,o6:=cW bl 1,o7:=cW bl 2,o8:=cW ll 3,
  o9:=cW l 5,o10:=cW l 6,o11:=cW l 7,DI:=cW rl 0,o13:=cW rbl 0,o14:=cW rbl 1,
  a1:=eR (cW l 1) 0,a2:=eR (cW l 2) 0,a6:=eR (cW bl 1) 0,a7:=eR (cW bl 2) 1,a9:=eR (cW l 5) 1,T9:=eR (cW rl 0) 0,
  lb:=lb.2,Fa:=bb.2,rb:=rb.2,vI:=rbb.2,c4:=akX ll 1,c12:=akX rl 1,b0:=lb.1,b1:=bb.1,b2:=rb.1,b3:=rbb.1,fin:=(l.drop 9).dropLast,
  add:=Jm (eR (cW bl 1) 0),aqD:=atg (eR (cW bl 1) 0) 0,sp:=aKe (eR (cW bl 2) 1),sk:=aKe (eR (cW l 5) 1),rc:=chanOf (eR (cW rl 0) 0),
  wk:={f:=wf,n:=tmpsOf P wf,cl:=wl.dropLast,o7:=cW wl (wl.length-1),o:=eR (cW wl (wl.length-1)) 2,sc:=chanOf (eR (cW wl (wl.length-1)) 2),sv:=auB (eR (cW wl (wl.length-1)) 2),done:=Jm (eR (cW wl 0) 0)},
  cl:={f:=cf,n:=tmpsOf P cf,b:={(default:Frame) with fn:=cf,kind:= .deferred,roundOf:=none},q0:=cW cl 0,o0:=eR (cW cl 0) 0,rest:=auO P cf,q1:=cW cl 1,oc:=eR (cW cl 1) 1,cx:=atg (eR (cW cl 1) 1) 0,wait:=Jm (eR (cW cl 0) 0)},
  ty:=typeOf (eR (cW l 2) 0),mx}
theorem yd:∀b∈List.replicate k W,b=W:=fun b hb=>(List.mem_replicate.1 hb).2
section
variable {iC:Os} {cI:Array (Nat×ByteArray)} {P:Program} {T:Goroutine→St→Prop} {b:Frame} {k:List Item} {cs:List Frame} {a:Act} {s:St} {n LF:Nat} {call:cA} {ops:Array Oper}
 {ρ:aX} {ce e:Env} {m:Mem} {x:sQ} {Wg Ch:Nat} {L:Nat→Option Obj} {Q:Machine→Outcome→World→Trace→Prop}
theorem GQ{rest:List Nat}(ho:ops[i]?=some o) (hg:o.guard=none) (hk:b.kind≠ .early) (hb:b.roundOf=none) (aC:o.op= .go ⟨.value y,#[],ats⟩) (hy:a.eval y= .func (.func f) #[] ca) (w:World):
 stepG P main (G (aM b a (.inRegion ops (i::rest)::k)) cs) w= .spawn (G (aM b (a.put o.dst undef) (.inRegion ops rest::k)) cs) (born P {target:= .fn (.func f) ca,args:= #[]}) w #[]:=by
 have hw:Region.wanted o (yielded ops a.tmps)=true:=dI o _ hg
 have hx:execOp a.eval o=Sem.pure (.spawn {target:= .fn (.func f) ca,args:= #[]}):=by
  simp only[execOp,aC,resolve,hy,Deferred.ofValue]
  show Sem.pure (Next.spawn {target:= .fn (.func f) ca,args:= #[]++Array.map a.eval #[]})=_
  simp
 rw[Es hb,Es hb]
 have:=stepG_spawn (P:=P) (main:=main) (b:=b) (a:=a) (k:=k) (cs:=cs) (w:=w) (w':=w) (d:={target:= .fn (.func f) ca,args:= #[]}) ho hw hk (rest:=rest) (by rw[hx];rfl) rfl
 rw[this,listed_none (by rw[hx];rfl)]
end
theorem uL:∀ {x:Sem α} {a:α},bH P x=some a→∀(w:World) (es:Array Event),x.runT P w es=(.ok a w,es)
 | .pure _,_,h,w,es=>by simp only[bH,Option.some.injEq] at h;subst h;rfl
 | .program k,_,h,w,es=>uL (x:=k _) h w es
def C0(P:Program):Class:=fun main T=>main=true∧∃iC cI Post,T=T0 P iC cI Post
theorem yE:∀main T,C0 P main T→Closed P main T:=by
 rintro _ _ ⟨rfl,iC,cI,Post,rfl⟩
 exact tJ P iC cI Post
abbrev CP(P:Program):Class:=fun main T=>Closed P main T
theorem fw:∀main T,CP P main T→Closed P main T:=fun _ _ h=>h
abbrev Cells:=List (Nat×Obj)
variable {Φ:Value→Cells→Prop} {B X R Y rw' rw:Cells}
def Sub(ro aF:Nat→Option Obj):Prop:=∀b o,ro b=some o→aF b=some o
theorem Sub.refl(ro:Nat→Option Obj):Sub ro ro:=fun _ _ h=>h
theorem Sub.trans{a b c:Nat→Option Obj}(h:Sub a b)(k:Sub b c):Sub a c:=fun x o hx=>k x o (h x o hx)
structure adJ(fr B:Cells)(ro:Nat→Option Obj)(s1 s:St):Prop where
 rw:s.rw.Perm (s1.rw++fr)
 aJ:∀b o,s1.ro b=some o→s.ro b=some o∨(b,o)∈B
 keep:Sub ro s.ro
theorem yC{T:Goroutine→St→Prop}(hT:Closed P main T){s:St}(hg:g.status= .running)(h:(∃w,aU s w)→T g s):T g s:=by
 by_cases hw:∃w,aU s w
 ·exact h hw
 exact hT.step g s hg fun w qn=>absurd ⟨w,qn⟩ hw
theorem Ca{T:Goroutine→St→Prop}(hT:Closed P main T){fr:Cells}(hB:∀x∈B,x∈fr)(ro:Nat→Option Obj):
 Closed P main (fun g s1=>g.status= .running→∀s,adJ fr B ro s1 s→T g s) where
 step:=fun g s1 hg h _ s hc=>by
  refine hT.step g s hg fun w hw=>?_
  have Qg:∀x,x∈s.rw↔x∈s1.rw∨x∈fr:=fun x=>by rw[hc.rw.mem_iff,List.mem_append]
  have mJ:=(hc.rw.map (·.1)).nodup_iff.1 hw.nodup
  rw[List.map_append,List.nodup_append] at mJ
  obtain⟨hn1,hn2,hn3⟩:=mJ
  have aHU:∀b o o',(b,o)∈s1.rw→(b,o')∈fr→False:=fun b o o' h1 h2=>hn3 b (List.mem_map.2 ⟨_,h1,rfl⟩) b (List.mem_map.2 ⟨_,h2,rfl⟩) rfl
  have aXb:aU s1 w:=by
   refine⟨fun b o hb=>?_,fun b o hb=>hw.rw b o ((Qg _).2 (.inl hb)),hn1,fun b o hb=>?_⟩
   ·rcases hc.aJ b o hb with h1|h1
    ·exact hw.ro b o h1
    exact hw.rw b o ((Qg _).2 (.inr (hB _ h1)))
   cases hr:s1.ro b with
   |none=>rfl
   |some o'=>
    rcases hc.aJ b o' hr with h1|h1
    ·rw[hw.apart b o ((Qg _).2 (.inl hb))] at h1;cases h1
    exact(aHU b o o' hb (hB _ h1)).elim
  obtain⟨g',w',es,Ag,cg,cq,ht,hT'⟩:=h w aXb
  have aiM:∀b o,(b,o)∈fr→b <w.heap.size:=fun b o hb=>hw.lt (.inr ((Qg _).2 (.inr hb)))
  have ayc:∀b o,(b,o)∈fr→¬s1.jL b:=fun b o hb ⟨o',GI⟩=>aHU b o' o GI hb
  have aw0:∀b,s.ro b≠none→¬s1.jL b:=fun b hb ⟨o',GI⟩=>hb (hw.apart b o' ((Qg _).2 (.inl GI)))
  have ah9:∀b,s.ro b≠none→b <w.heap.size:=fun b hb=>by
   cases hr:s.ro b with
   |none=>exact absurd hr hb
   |some o=>exact hw.lt (.inl hr)
  have aHI:∀b o,(b,o)∈fr→w'.heap[b]?=some o:=fun b o hb=>by
   rw[ht.frame b (aiM b o hb) (ayc b o hb)]
   exact hw.rw b o ((Qg _).2 (.inr hb))
  classical
  let aF:Nat→Option Obj:=fun b=>if ∃o,(b,o)∈fr then none else match Ag.ro b with
   |some o=>some o
   |none=>s.ro b
  have aw1:∀b o,aF b=some o→¬(∃o,(b,o)∈fr)∧(Ag.ro b=some o∨(Ag.ro b=none∧s.ro b=some o)):=fun b o hb=>by
   simp only[aF] at hb
   split at hb
   ·cases hb
   rename_i hn
   refine⟨hn,?_⟩
   cases h1:Ag.ro b with
   |none=>rw[h1] at hb;exact .inr ⟨rfl,hb⟩
   |some o2=>rw[h1] at hb;exact .inl hb
  have aXa:aU ⟨aF,Ag.rw++fr⟩ w':=by
   refine⟨fun b o hb=>?_,fun b o hb=>?_,?_,fun b o hb=>?_⟩
   ·obtain⟨_,h1| ⟨_,h2⟩⟩:=aw1 b o hb
    ·exact ht.kB.ro b o h1
    have dQ:s.ro b≠none:=by rw[h2];simp
    rw[ht.frame b (ah9 b dQ) (aw0 b dQ)]
    exact hw.ro b o h2
   ·rcases List.mem_append.1 hb with hb|hb
    ·exact ht.kB.rw b o hb
    exact aHI b o hb
   ·show ((Ag.rw++fr).map (·.1)).Nodup
    rw[List.map_append,List.nodup_append]
    refine⟨ht.kB.nodup,hn2,fun x hx y hy e=>?_⟩
    obtain⟨⟨b,o⟩,h1,rfl⟩:=List.mem_map.1 hx
    obtain⟨⟨b2,o2⟩,h2,rfl⟩:=List.mem_map.1 hy
    dsimp only at e;subst e
    rcases ht.own b ⟨o,h1⟩ with h3|h3
    ·exact absurd (aiM b o2 h2) (by omega)
    exact ayc b o2 h2 h3
   show aF b=none
   rcases List.mem_append.1 hb with hb|hb
   ·cases hr:aF b with
    |none=>rfl
    |some o'=>
     obtain⟨hn,h1| ⟨_,h2⟩⟩:=aw1 b o' hr
     ·rw[ht.kB.apart b o hb] at h1;cases h1
     have dQ:s.ro b≠none:=by rw[h2];simp
     rcases ht.own b ⟨o,hb⟩ with h3|h3
     ·exact absurd (ah9 b dQ) (by omega)
     exact(aw0 b dQ h3).elim
   simp only[aF]
   rw[if_pos ⟨o,hb⟩]
  have aHZ:adJ fr B ro Ag ⟨aF,Ag.rw++fr⟩:=by
   refine⟨.refl _,fun b o hb=>?_,fun b o hb=>?_⟩
   ·by_cases hf:∃o,(b,o)∈fr
    ·obtain⟨o2,JO⟩:=hf
     have e1:=ht.kB.ro b o hb
     rw[aHI b o2 JO] at e1
     cases e1
     rcases ht.NX b (by rw[hb];simp) with h1|h1|h1
     ·exact absurd (aiM b _ JO) (by omega)
     ·cases hr:s1.ro b with
      |none=>exact absurd hr h1
      |some o3=>
       rcases hc.aJ b o3 hr with h3|h3
       ·rw[hw.apart b _ ((Qg _).2 (.inr JO))] at h3;cases h3
       have e3:=hw.rw b o3 ((Qg _).2 (.inr (hB _ h3)))
       rw[hw.rw b _ ((Qg _).2 (.inr JO))] at e3
       cases e3
       exact .inr h3
     exact(ayc b _ JO h1).elim
    left
    show aF b=some o
    simp only[aF]
    rw[if_neg hf,hb]
   have h1:=hc.keep b o hb
   have dQ:s.ro b≠none:=by rw[h1];simp
   have hf:¬ ∃o,(b,o)∈fr:=fun⟨o2,JO⟩=>dQ (hw.apart b o2 ((Qg _).2 (.inr JO)))
   show aF b=some o
   simp only[aF]
   rw[if_neg hf]
   cases h2:Ag.ro b with
   |none=>exact h1
   |some o2=>
    have e1:=ht.kB.ro b o2 h2
    rw[ht.frame b (ah9 b dQ) (aw0 b dQ),hw.ro b o h1] at e1
    exact e1.symm
  refine⟨g',w',es,⟨aF,Ag.rw++fr⟩,cg,cq,⟨aXa,ht.size,fun b hb hn=>?_,fun b hb=>?_,fun b hb=>?_,ht.os,ht.output,ht.tape,fun e he=>?_,ht.low⟩,hT' cq _ aHZ⟩
  ·exact ht.frame b hb fun⟨o,ho⟩=>hn ⟨o,(Qg _).2 (.inl ho)⟩
  ·obtain⟨o,ho⟩:=hb
   rcases List.mem_append.1 ho with ho|ho
   ·rcases ht.own b ⟨o,ho⟩ with h3| ⟨o3,h3⟩
    ·exact .inl h3
    exact .inr ⟨o3,(Qg _).2 (.inl h3)⟩
   exact .inr ⟨o,(Qg _).2 (.inr ho)⟩
  ·have hb:aF b≠none:=hb
   cases hr:aF b with
   |none=>exact absurd hr hb
   |some o=>
    obtain⟨hn,h1| ⟨_,h2⟩⟩:=aw1 b o hr
    ·rcases ht.NX b (by rw[h1];simp) with h3|h3| ⟨o3,h3⟩
     ·exact .inl h3
     ·cases h4:s1.ro b with
      |none=>exact absurd h4 h3
      |some o4=>
       rcases hc.aJ b o4 h4 with h5|h5
       ·exact .inr (.inl (by rw[h5];simp))
       exact absurd ⟨_,hB _ h5⟩ hn
     exact .inr (.inr ⟨o3,(Qg _).2 (.inl h3)⟩)
    exact .inr (.inl (by rw[h2];simp))
  have Ux:=ht.wI e he
  have asp:∀b,(∃o,(b,o)∈s1.rw)→s.jL b:=fun b ⟨o,ho⟩=>⟨o,(Qg _).2 (.inl ho)⟩
  have aGv:∀b,s1.ro b≠none→s.ro b≠none∨s.jL b:=fun b hb=>by
   cases h4:s1.ro b with
   |none=>exact absurd h4 hb
   |some o4=>
    rcases hc.aJ b o4 h4 with h5|h5
    ·exact .inl (by rw[h5];simp)
    exact .inr ⟨o4,(Qg _).2 (.inr (hB _ h5))⟩
  unfold JF at*
  split at Ux
  ·refine⟨Ux.1,?_⟩
   rcases Ux.2 with h1|h1| ⟨h1,h2⟩
   ·exact .inl h1
   ·exact .inr (.inl (asp _ h1))
   rcases aGv _ h2 with h3|h3
   ·exact .inr (.inr ⟨h1,h3⟩)
   exact .inr (.inl h3)
  ·refine⟨Ux.1,?_⟩
   rcases Ux.2 with h1|h1| ⟨h1,h2⟩
   ·exact .inl h1
   ·exact .inr (.inl (asp _ h1))
   rcases aGv _ h2 with h3|h3
   ·exact .inr (.inr ⟨h1,h3⟩)
   exact .inr (.inl h3)
  ·exact Ux
  exact Ux
 mono:=fun g s1 Ag hl h cq s hc=>by
  refine yC hT cq fun⟨w,hw⟩=>?_
  obtain⟨R,hR,BY⟩:=hl
  have Qg:∀x,x∈s.rw↔x∈Ag.rw∨x∈fr:=fun x=>by rw[hc.rw.mem_iff,List.mem_append]
  have ayO:∀x,x∈R→x∈s.rw:=fun x hx=>(Qg x).2 (.inl (hR.mem_iff.2 (List.mem_append_right _ hx)))
  classical
  let qk:Nat→Option Obj:=fun b=>if hx:∃o,(b,o)∈R then some (Classical.choose hx) else s.ro b
  have Ie:∀b o,(b,o)∈R→qk b=some o:=fun b o hb=>by
   have hx:∃o,(b,o)∈R:=⟨o,hb⟩
   simp only[qk]
   rw[dif_pos hx]
   have h1:=hw.rw b _ (ayO _ (Classical.choose_spec hx))
   rw[hw.rw b o (ayO _ hb)] at h1
   cases h1;rfl
  have iO:∀b o,s.ro b=some o→qk b=some o:=fun b o hb=>by
   simp only[qk]
   rw[dif_neg]
   ·exact hb
   rintro⟨o2,JO⟩
   rw[hw.apart b o2 (ayO _ JO)] at hb;cases hb
  refine hT.mono g ⟨qk,s1.rw++fr⟩ s ⟨R,?_,fun b o hb=>?_⟩ (h cq _ ⟨.refl _,fun b o hb=>?_,fun b o hb=>iO b o (hc.keep b o hb)⟩)
  ·refine hc.rw.trans ((List.Perm.append_right fr hR).trans ?_)
   rw[List.append_assoc,List.append_assoc]
   exact List.Perm.append_left _ List.perm_append_comm
  ·simp only[qk] at hb
   split at hb
   ·rename_i hx
    simp only[Option.some.injEq] at hb
    exact .inr (hb▸Classical.choose_spec hx)
   exact .inl hb
  rcases BY b o hb with h1|h1
  ·exact(hc.aJ b o h1).imp (iO b o) id
  exact .inl (Ie b o h1)
theorem Fn.frame{s1 s:St}{R:Ending→St→Prop}{fr:Cells}(hf:Fn (CP P) P f args s1 R)(hB:∀x∈B,x∈fr)(hc:adJ fr B ro s1 s):
 Fn (CP P) P f args s (fun en s'=>∃Ag,R en Ag∧adJ fr B ro Ag s'):=
 fun main T hT c cs k1 k2=>hf main _ (Ca hT hB ro) c cs (fun v Ag hv _ s' ue=>k1 v s' ⟨Ag,hv,ue⟩) (fun ch Ag hv _ s' ue=>k2 ch s' ⟨Ag,hv,ue⟩) rfl s hc
def ee(P:Program)(f:FuncId)(args:List Value)(ro:Nat→Option Obj)(own:Cells)(Φ:Value→Cells→Prop):Prop:=
 Fn (CP P) P f ⟨args⟩ ⟨ro,own⟩ (fun en s'=>∃v X,en= .returned v∧s'=⟨ro,X⟩∧Φ v X)
abbrev dG(P:Program)(f:FuncId)(args:List Value)(ro:Nat→Option Obj)(V:Value):Prop:=ee P f args ro [] (fun v X=>v=V∧X=[])
theorem ee.mono{args:List Value}{own:Cells}{Φ':Value→Cells→Prop}(h:ee P f args ro own Φ)(hk:∀v X,Φ v X→Φ' v X):ee P f args ro own Φ':=
 Fn.mono h fun _ _ ⟨v,X,h1,h2,h3⟩=>⟨v,X,h1,h2,hk v X h3⟩
theorem Po:Ext ⟨ro,[]⟩ ⟨ro,rw⟩:=fun _ _ h=>h.elim .inl (fun h=>by cases h)
theorem gD(h:Sub ro aF):Ext ⟨ro,[]⟩ ⟨aF,[]⟩:=fun b o hb=>hb.elim (fun hb=> .inl (h b o hb)) (fun hb=>by cases hb)
def bJ(ro:Nat→Option Obj)(v:Value)(sz:Nat)(enc:α→List Value)(ps:List α):Prop:=
 ∃a b o cap,v= .slice a ps.length cap∧ps.length≤cap∧(∀k,k <ps.length→a=some ⟨b,o,none⟩)∧∀i p,ps[i]?=some p→cK ⟨ro,[]⟩ b (o+i*sz) sz (enc p)
theorem bJ.nil(ro:Nat→Option Obj)(sz:Nat)(enc:α→List Value)(a:Option Addr)(cap:Nat):bJ ro (.slice a 0 cap) sz enc []:=⟨a,0,0,cap,rfl,Nat.zero_le _,fun k h=>absurd h (Nat.not_lt_zero k),fun i p hp=>by simp at hp⟩
theorem bJ.up{v:Value}{enc:α→List Value}{ps:List α}(h:bJ ro v sz enc ps)(hs:Sub ro aF):bJ aF v sz enc ps:=by
 obtain⟨a,b,o,cap,h1,h4,h2,h3⟩:=h
 exact⟨a,b,o,cap,h1,h4,h2,fun i p hp=>(h3 i p hp).ext (gD hs)⟩
section rules
variable {P:Program} {C:Class} {fn:FuncId} {aD:Option Nat} {Q:Post} {s:St} {n:Nat} {env:Env} {D:List Deferred}
variable {ops:Array Oper} {i:Nat} {rest:List Nat} {dst:Option Tmp} {ty:TypeId} {pos:String} {dt:Array Edge} {g:Option (Nat×Bool)}
variable {T:TypeId} {d:TypeDesc} {sz bL:Nat} {z:List Value} {ag:Bool} {ro:Nat→Option Obj} {rw:Cells}
theorem ai.more{a:Act}(hC:∀main T,C main T→Closed P main T)(hl:s.le s')(h:ai C fn aD ops todo Q a s):ai C fn aD ops todo Q a s':=
 fun main T hT b k cs h1 h2 h3 h4=>(hC _ _ hT).mono _ _ _ hl (h main T hT b k cs h1 h2 h3 h4)
theorem anT{a:Act}(hC:∀main T,C main T→Closed P main T)(h:(∃w,aU s w)→ai C fn aD ops todo Q a s):ai C fn aD ops todo Q a s:=
 fun main T hT b k cs h1 h2 h3 h4=>yC (hC _ _ hT) rfl fun hw=>h hw main T hT b k cs h1 h2 h3 h4
theorem aty{a:Act}{c:Code}(hC:∀main T,C main T→Closed P main T)(h:(∃w,aU s w)→Wp C fn aD c Q a s):Wp C fn aD c Q a s:=
 fun main T hT b k cs h1 h2 h3 h4=>yC (hC _ _ hT) rfl fun hw=>h hw main T hT b k cs h1 h2 h3 h4
theorem akg{R:Ending→St→Prop}(hC:∀main T,C main T→Closed P main T)(h:(∃w,aU s w)→Fn C P f args s R):Fn C P f args s R:=
 fun main T hT c cs h1 h2=>yC (hC _ _ hT) rfl fun hw=>h hw main T hT c cs h1 h2
theorem aao(hp:rw.Perm (X++s.rw))(hw:∃w,aU ⟨s.ro,rw⟩ w):∃aF,Sub s.ro aF∧(∀x∈X,aF x.1=some x.2)∧(⟨aF,s.rw⟩:St).le ⟨s.ro,rw⟩:=by
 classical
 obtain⟨w,hw⟩:=hw
 have yt:∀x,x∈X→x∈rw:=fun x hx=>hp.mem_iff.2 (List.mem_append_left _ hx)
 refine⟨fun b=>if hx:∃o,(b,o)∈X then some (Classical.choose hx) else s.ro b,fun b o hb=>?_,fun x hx=>?_,X,hp.trans List.perm_append_comm,fun b o hb=>?_⟩
 ·simp only
  rw[dif_neg]
  ·exact hb
  rintro⟨o2,JO⟩
  have:=hw.apart b o2 (yt _ JO)
  rw[show s.ro b=none from this] at hb;cases hb
 ·obtain⟨b,o⟩:=x
  have mz:∃o,(b,o)∈X:=⟨o,hx⟩
  simp only
  rw[dif_pos mz]
  have h1:=hw.rw b _ (yt _ (Classical.choose_spec mz))
  rw[hw.rw b o (yt _ hx)] at h1
  cases h1;rfl
 simp only at hb
 split at hb
 ·rename_i hx
  simp only[Option.some.injEq] at hb
  exact .inr (hb▸Classical.choose_spec hx)
 exact .inl hb
theorem abe{a:Act}{c:Code}(hC:∀main T,C main T→Closed P main T)(hp:rw'.Perm (X++rw))(h:∀aF,Sub ro aF→(∀x∈X,aF x.1=some x.2)→Wp C fn aD c Q a ⟨aF,rw⟩):Wp C fn aD c Q a ⟨ro,rw'⟩:=
 aty hC fun hw=>by
  obtain⟨aF,h1,h2,h3⟩:=aao (s:=⟨ro,rw⟩) hp hw
  exact(h aF h1 h2).more hC h3
theorem VP{a:Act}(hC:∀main T,C main T→Closed P main T)(hp:rw'.Perm (X++rw))(h:∀aF,Sub ro aF→(∀x∈X,aF x.1=some x.2)→ai C fn aD ops todo Q a ⟨aF,rw⟩):ai C fn aD ops todo Q a ⟨ro,rw'⟩:=
 anT hC fun hw=>by
  obtain⟨aF,h1,h2,h3⟩:=aao (s:=⟨ro,rw⟩) hp hw
  exact(h aF h1 h2).more hC h3
theorem ee.use{own fr:Cells}(hp:s.rw.Perm (own++fr))(hB:∀x∈B,x∈fr)(hf:∀aJ,Sub s.ro aJ→(∀x∈B,aJ x.1=some x.2)→ee P f vs aJ own Φ):
 Fn (CP P) P f ⟨vs⟩ s (fun en s'=>∃v X,en= .returned v∧Φ v X∧(⟨s.ro,X++fr⟩:St).le s'):=by
 refine akg fw fun⟨w,hw⟩=>?_
 classical
 have yt:∀x,x∈B→x∈s.rw:=fun x hx=>hp.mem_iff.2 (List.mem_append_right _ (hB x hx))
 let aJ:Nat→Option Obj:=fun b=>if hx:∃o,(b,o)∈B then some (Classical.choose hx) else s.ro b
 have h1:Sub s.ro aJ:=fun b o hb=>by
  simp only[aJ]
  rw[dif_neg]
  ·exact hb
  rintro⟨o2,JO⟩
  rw[hw.apart b o2 (yt _ JO)] at hb;cases hb
 have h2:∀x∈B,aJ x.1=some x.2:=fun⟨b,o⟩ hx=>by
  have mz:∃o,(b,o)∈B:=⟨o,hx⟩
  simp only[aJ]
  rw[dif_pos mz]
  have h3:=hw.rw b _ (yt _ (Classical.choose_spec mz))
  rw[hw.rw b o (yt _ hx)] at h3
  cases h3;rfl
 refine Fn.mono (Fn.frame (fr:=fr) (B:=B) (ro:=s.ro) (s:=s) (hf aJ h1 h2) hB ⟨hp,fun b o hb=>?_,Sub.refl _⟩) fun en s' Ff=>?_
 ·simp only[aJ] at hb
  split at hb
  ·rename_i hx
   simp only[Option.some.injEq] at hb
   exact .inr (hb▸Classical.choose_spec hx)
  exact .inl hb
 obtain⟨Ag,⟨v,X,rfl,rfl,ql⟩,hc⟩:=Ff
 exact⟨v,X,rfl,ql,[],by simpa using hc.rw,fun b o hb=> .inl (hc.keep b o hb)⟩
theorem ago(hC:∀main T,C main T→Closed P main T){own fr:Cells}(ho:ops[i]?=some ⟨dst,.call ⟨.value x,xs,at_⟩,ty,pos,dt,g⟩) (hw:aB ops n env g=true)
 (hv:bE n env x=some (.func (.func f) fi ca)) (ff:FF P f) (hx:wI n env xs=some vs) (td:fi++⟨vs⟩++ca=⟨ws⟩) (hp:s.rw.Perm (own++fr)) (hB:∀x∈B,x∈fr) (hf:∀aJ,Sub s.ro aJ→(∀x∈B,aJ x.1=some x.2)→ee P f ws aJ own Φ)
 (h:∀v X,Φ v X→ai C fn aD ops rest Q (A n (upd dst v env) D) ⟨s.ro,X++fr⟩):ai C fn aD ops (i::rest) Q (A n env D) s:=
 u3 hC ho hw hv ff hx td ((ee.use hp hB hf).weaken hC) (fun v' s' hr=>by obtain⟨v,X,e,h1,h2⟩:=hr;cases e;exact(h _ X h1).more hC h2) (fun ch s' hr=>by obtain⟨_,_,e,_⟩:=hr;cases e) (fun s' hr=>by obtain⟨_,_,e,_⟩:=hr;cases e)
theorem dG.use{sz:St}(hez:Ext s sz)(hf:∀aJ,(∀b o,s.has b o→aJ b=some o)→dG P f vs aJ V):Fn (CP P) P f ⟨vs⟩ sz (fun e s'=>e= .returned V∧sz.le s'):=by
 refine akg fw fun⟨w,hw⟩=>?_
 refine Fn.mono (ee.use (s:=sz) (own:=[]) (fr:=sz.rw) (B:=sz.rw) (.refl _) (fun _ h=>h) (fun aJ h1 h2=>hf aJ fun b o hb=>?_)) fun en s' Ff=>?_
 ·rcases hez b o hb with h3|h3
  ·exact h1 b o h3
  exact h2 _ h3
 obtain⟨v,X,e,⟨h1,h2⟩,h3⟩:=Ff
 subst h1 h2
 exact⟨e,h3⟩
theorem RS(hC:∀main T,C main T→Closed P main T){s0:St}(ho:ops[i]?=some ⟨dst,.call ⟨.value x,xs,at_⟩,ty,pos,dt,g⟩) (hw:aB ops n env g=true)
 (hv:bE n env x=some (.func (.func f) fi ca)) (ff:FF P f) (hx:wI n env xs=some vs) (td:fi++⟨vs⟩++ca=⟨ws⟩) (hez:Ext s0 s) (hf:∀aJ,(∀b o,s0.has b o→aJ b=some o)→dG P f ws aJ V) (h:ai C fn aD ops rest Q (A n (upd dst V env) D) s):ai C fn aD ops (i::rest) Q (A n env D) s:=
 u3 hC ho hw hv ff hx td ((dG.use hez hf).weaken hC) (fun v' s' hr=>by obtain⟨e,h1⟩:=hr;cases e;exact h.more hC h1) (fun ch s' hr=>by cases hr.1) (fun s' hr=>by cases hr.1)
theorem Hc{aJ:Nat→Option Obj}(h:∀b o,(⟨ro,rw⟩:St).has b o→aJ b=some o):Sub ro aJ:=fun b o hb=>h b o (.inl hb)
theorem aA.jR{v:Value}{enc:α→List Value}{ps:List α}{L:Cells}{aJ:Nat→Option Obj}(h:aA v sz T enc ps L)(hL:∀x∈L,aJ x.1=some x.2):bJ aJ v sz enc ps:=by
 obtain⟨a,b,o,cap,h1,h2,h3⟩:=h.sl (s:=⟨aJ,[]⟩) fun x hx=> .inl (hL x hx)
 refine⟨a,b,o,cap,h1,?_,h2,h3⟩
 rcases h with ⟨_,g2,_⟩| ⟨b',l,aZp,g1,_,_,g4,_⟩
 ·subst g2;exact Nat.zero_le _
 rw[g1] at h1;cases h1;exact g4
end rules
section rules
variable {P:Program} {C:Class} {fn:FuncId} {aD:Option Nat} {Q:Post} {s:St} {n:Nat} {env:Env} {D:List Deferred}
variable {ops:Array Oper} {i:Nat} {rest:List Nat} {dst:Option Tmp} {ty:TypeId} {pos:String} {dt:Array Edge} {g:Option (Nat×Bool)}
variable {T:TypeId} {d:TypeDesc} {sz bL:Nat} {z:List Value} {ag:Bool}
theorem VT(hC:∀main T,C main T→Closed P main T){b:ByteArray}(ho:ops[i]?=some ⟨dst,.range T x,ty,pos,dt,g⟩) (hw:aB ops n env g=true) (tf:TF P T .string sz bL z ag) (hx:bE n env x=some (.string b))
 (h:∀r,¬s.knows r→ai C fn aD ops rest Q (A n (upd dst (.pointer (some ⟨r,0,none⟩)) env) D) ⟨s.ro,(r,.stringIter b 0)::s.rw⟩):ai C fn aD ops (i::rest) Q (A n env D) s:=by
 refine cd hC ho hw (by simp) ?_
 simp only[execOp,Instr.range,ae,bk tf,aH hx,ah,oK]
 intro r hr
 have:=h r hr
 rw[←bu] at this
 exact this
theorem abY(hC:∀main T,C main T→Closed P main T){b:ByteArray}{L:Cells}(ho:ops[i]?=some ⟨dst,.next x true,ty,pos,dt,g⟩) (hw:aB ops n env g=true) (hx:bE n env x=some (.pointer (some ⟨r,0,none⟩))) (hs:s.rw=L++(r,.stringIter b p)::R) (hp:p <b.size)
 (h:ai C fn aD ops rest Q (A n (upd dst (.tuple ⟨[.bool true,.int .i64 p,.int .i32 (Utf8.decode b p).1]⟩) env) D) ⟨s.ro,L++(r,.stringIter b (p+(Utf8.decode b p).2))::R⟩):ai C fn aD ops (i::rest) Q (A n env D) s:=by
 refine cd hC ho hw (by simp) ?_
 simp only[execOp,Instr.next,ae,aH hx]
 refine cM (o:= .stringIter b p) (.inr (by rw[hs];simp)) rfl rfl ?_
 simp only[ae,hp,if_true]
 refine eH (o:= .stringIter b (p+(Utf8.decode b p).2)) rfl hs rfl ?_
 rw[←bu] at h
 exact h
theorem abZ(hC:∀main T,C main T→Closed P main T){b:ByteArray}{L:Cells}(ho:ops[i]?=some ⟨dst,.next x true,ty,pos,dt,g⟩) (hw:aB ops n env g=true) (hx:bE n env x=some (.pointer (some ⟨r,0,none⟩))) (hs:s.rw=L++(r,.stringIter b p)::R) (hp:¬p <b.size)
 (h:ai C fn aD ops rest Q (A n (upd dst (.tuple ⟨[.bool false]⟩) env) D) s):ai C fn aD ops (i::rest) Q (A n env D) s:=by
 refine cd hC ho hw (by simp) ?_
 simp only[execOp,Instr.next,ae,aH hx]
 refine cM (o:= .stringIter b p) (.inr (by rw[hs];simp)) rfl rfl ?_
 simp only[ae,hp,if_false]
 rw[←bu] at h
 exact h
end rules
theorem cK.part{s:St}{o m:Nat}(h:cK s b o m vs)(j k:Nat)(hj:sub vs j k=some ws):cK s b (o+j) k ws:=by
 obtain⟨l,t,fz,h1,h2⟩:=h
 obtain⟨h3,h4⟩:=sub_eq _ _ _ _ h2
 obtain⟨h5,h6⟩:=sub_eq _ _ _ _ hj
 refine⟨l,t,fz,h1,?_⟩
 have hlen:(o+j)+k≤l.length:=by
  rcases Nat.eq_zero_or_pos k with h0|h0
  ·subst h0
   have:o+j≤l.length:=by
    have h7:sub vs j 0=some ws:=hj
    have hjl:j≤vs.length:=by
     have key:∀(l:List Value) (j:Nat) (ws:List Value),sub l j 0=some ws→j≤l.length:=by
      intro l
      induction l with
      |nil=>intro j ws h;cases j with
       |zero=>simp
       |succ j=>simp[sub] at h
      |cons x l ih=>intro j ws h;cases j with
       |zero=>simp
       |succ j=>have:=ih j ws (by simpa [sub] using h);simp;omega
     exact key _ _ _ h7
    have hol:o+m≤l.length∨m=0:=by
     rcases Nat.eq_zero_or_pos m with h8|h8
     ·exact .inr h8
     left
     have:=h4 (m-1) vs[m-1] (by rw[List.getElem?_eq_getElem])
     have:=(List.getElem?_eq_some_iff.1 this).1
     omega
    rcases hol with h9|h9
    ·omega
    have aTm:∀(l:List Value) (o:Nat) (ws:List Value),sub l o 0=some ws→o≤l.length:=by
     intro l
     induction l with
     |nil=>intro j ws h;cases j with
      |zero=>simp
      |succ j=>simp[sub] at h
     |cons x l ih=>intro j ws h;cases j with
      |zero=>simp
      |succ j=>have:=ih j ws (by simpa [sub] using h);simp;omega
    rw[h9] at h2
    have:=aTm _ _ _ h2
    omega
   omega
  have:=h6 (k-1) ws[k-1] (by rw[List.getElem?_eq_getElem])
  have:=h4 _ _ this
  have:=(List.getElem?_eq_some_iff.1 this).1
  omega
 rw[jB hlen]
 congr 1
 apply List.ext_getElem?
 intro i
 by_cases hi:i <k
 ·have h7:=h4 _ _ (h6 i ws[i] (by rw[List.getElem?_eq_getElem]))
  rw[List.getElem?_take_of_lt hi,List.getElem?_drop,List.getElem?_eq_getElem (show i <ws.length by omega),←h7,Nat.add_assoc]
 rw[List.getElem?_eq_none (by simp;omega),List.getElem?_eq_none (by omega)]
def HD(ag:Bool)(l:List Value)(o sz:Nat):Option Value:=bif ag then (match sub l o sz with|some m=>some (.agg ⟨m⟩)|none=>none) else nth l o
theorem Ys{s:St}{t:TypeId}{z:List Value}{d:TypeDesc}{bL:Nat}{ag:Bool}(tf:TF P t d sz bL z ag){o:Nat}{v:Value}(hv:HD ag l o sz=some v){k:Value→Sem α}{Q:α→St→Prop}{E:Halt→St→Prop}:bU P (part t ⟨l⟩ o >>= k) s Q E=bU P (k v) s Q E:=by
 cases ag with
 |false=>exact NP tf hv
 |true=>
  simp only[HD,cond_true] at hv
  split at hv
  ·rename_i m hm
   cases hv
   exact NO tf hm
  cases hv
section rules
variable {P:Program} {C:Class} {fn:FuncId} {aD:Option Nat} {Q:Post} {s:St} {n:Nat} {env:Env} {D:List Deferred}
variable {ops:Array Oper} {i:Nat} {rest:List Nat} {dst:Option Tmp} {ty:TypeId} {pos:String} {dt:Array Edge} {g:Option (Nat×Bool)}
variable {T:TypeId} {d:TypeDesc} {sz bL:Nat} {z:List Value} {ag:Bool}
theorem agm(hC:∀main T,C main T→Closed P main T){k:IntKind}{ix:Int}{len:Nat}{d':TypeDesc}{v:Value}(ho:ops[i]?=some ⟨dst,.index T x y,ty,pos,dt,g⟩) (hw:aB ops n env g=true)
 (tf:TF P T (.array len E) sz bL z ag) (jI:TF P E d' iS wC z' xW) (hx:bE n env x=some (.agg ⟨l⟩)) (hy:bE n env y=some (.int k ix)) (hi:0≤ix∧ix <len) (hv:HD xW l (ix.toNat*iS) iS=some v)
 (h:ai C fn aD ops rest Q (A n (upd dst v env) D) s):ai C fn aD ops (i::rest) Q (A n env D) s:=by
 refine cd hC ho hw (by simp) ?_
 simp only[execOp,Instr.index,aH hx,aH hy,asIntOf,asAgg,ae,ah,bk tf,hi,and_self,if_true,cy jI]
 rw[Ys jI hv,←bu] at*
 exact h
end rules
section rules
variable {P:Program} {C:Class} {fn:FuncId} {aD:Option Nat} {Q:Post} {s:St} {n:Nat} {env:Env} {D:List Deferred}
variable {ops:Array Oper} {i:Nat} {rest:List Nat} {dst:Option Tmp} {ty:TypeId} {pos:String} {dt:Array Edge} {g:Option (Nat×Bool)}
theorem wr(hC:∀main T,C main T→Closed P main T){l:List Nat}(hl:List.range ops.size=l)(h:ai C fn aD ops l Q (A n env D) s):Wp C fn aD (.region id ops false) Q (A n env D) s:=wp_region hC (hl▸h)
theorem on(hC:∀main T,C main T→Closed P main T){K:Act→St→Prop}(h:K (A n env D) s):ai C fn aD ops [] (mD K Q) (A n env D) s:=uX hC h
end rules
theorem c:∀main T,CP P main T→Closed P main T:=fw
def aV(k:IntKind)(a b:Int):Int:=a.fdiv (2^(min b.toNat k.bits))
def dZ(k:IntKind)(a b:Int):Int:=k.wrap (a*2^(min b.toNat k.bits))
def We(k:IntKind)(a b:Int):Int:=k.wrap (BitVec.ofInt k.bits a&&& BitVec.ofInt k.bits b).toNat
def ZM(k:IntKind)(a b:Int):Int:=k.wrap (BitVec.ofInt k.bits a|||BitVec.ofInt k.bits b).toNat
def dj(k:IntKind)(a b:Int):Int:=k.wrap (BitVec.ofInt k.bits a^^^BitVec.ofInt k.bits b).toNat
theorem Qu(k:IntKind)(h:k.signed=false)(n:Int):0≤k.wrap n∧k.wrap n <2^k.bits:=by
 have hp:(0:Int) <2^k.bits:=Int.pow_pos (by decide)
 simp only[IntKind.wrap,h,Bool.false_and,Bool.false_eq_true,if_false]
 exact⟨Int.emod_nonneg _ (by omega),Int.emod_lt_of_pos _ hp⟩
theorem tC(k:IntKind)(h:k.signed=false)(n:Int)(h0:0≤n)(h1:n <2^k.bits):k.wrap n=n:=by
 simp only[IntKind.wrap,h,Bool.false_and,Bool.false_eq_true,if_false]
 exact Int.emod_eq_of_lt h0 h1
theorem u5(a b:Int):0≤dj .u64 a b∧dj .u64 a b <18446744073709551616:=Qu .u64 rfl _
theorem aS1{p0 p1 p2 p3 x:Int}(h: [p0,p1,p2,p3][k]?=some x):nth [.int .i64 p0,.int .i64 p1,.int .i64 p2,.int .i64 p3] k=some (.int .i64 x):=by
 rcases k with _|_|_|_|k
 all_goals first| (simp at h;subst h;rfl)|simp at h
theorem ee.aCs{s:St}{own fr:Cells}(hp:s.rw.Perm (own++fr))(hf:ee P f vs s.ro own Φ):
 Fn (CP P) P f ⟨vs⟩ s (fun en s'=>∃v X,en= .returned v∧Φ v X∧(⟨s.ro,X++fr⟩:St).le s'):=by
 refine Fn.mono (Fn.frame (fr:=fr) (B:=[]) (ro:=s.ro) (s:=s) hf (fun _ h=>(by cases h)) ⟨hp,fun b o hb=> .inl hb,Sub.refl _⟩) fun en s' Ff=>?_
 obtain⟨Ag,⟨v,X,rfl,rfl,ql⟩,hc⟩:=Ff
 exact⟨v,X,rfl,ql,[],by simpa using hc.rw,fun b o hb=> .inl (hc.keep b o hb)⟩
def Knows(ro:Nat→Option Obj)(X:Cells):Prop:=∀x∈X,ro x.1=some x.2
theorem Knows.up(h:Knows ro X)(hs:Sub ro aF):Knows aF X:=fun x hx=>hs _ _ (h x hx)
theorem Knows.left(h:Knows ro (X++Y)):Knows ro X:=fun x hx=>h x (List.mem_append_left _ hx)
theorem Knows.right(h:Knows ro (X++Y)):Knows ro Y:=fun x hx=>h x (List.mem_append_right _ hx)
theorem Knows.tail{x:Nat×Obj}(h:Knows ro (x::Y)):Knows ro Y:=fun y hy=>h y (List.mem_cons_of_mem _ hy)
theorem Knows.head{x:Nat×Obj}(h:Knows ro (x::Y)):ro x.1=some x.2:=h x List.mem_cons_self
theorem ye{s:St}{enc:α→List Value}{ps:List α}(h:s.has b (.cells ⟨(ps.map enc).flatten⟩ T fz))(hl:∀p∈ps,(enc p).length=sz){x:α}(hx:ps[k]?=some x):cK s b (0+k*sz) sz (enc x):=by
 have h2:=En ps hl k x hx
 have hm:x∈ps:=List.mem_of_getElem? hx
 have h3:=hl x hm
 refine⟨_,T,fz,h,?_⟩
 rw[Nat.zero_add,jB,h2]
 rw[kT ps hl]
 have:=(List.getElem?_eq_some_iff.1 hx).1
 calc k*sz+sz=(k+1)*sz:=by rw[Nat.succ_mul]
  _≤ps.length*sz:=Nat.mul_le_mul_right _ (by omega)
theorem bX{enc:α→List Value}(ps:List α)(h:ro b=some (.cells ⟨(ps.map enc).flatten⟩ T fz))(hl:∀p∈ps,(enc p).length=sz):bJ ro (.slice (some ⟨b,0,none⟩) ps.length ps.length) sz enc ps:=
 ⟨_,b,0,_,rfl,Nat.le_refl _,fun _ _=>rfl,fun _ _ hx=>ye (.inl h) hl hx⟩
section rules
variable {P:Program} {C:Class} {fn:FuncId} {aD:Option Nat} {Q:Post} {s:St} {n:Nat} {env:Env} {D:List Deferred}
variable {ops:Array Oper} {i:Nat} {rest:List Nat} {dst:Option Tmp} {ty:TypeId} {pos:String} {dt:Array Edge} {g:Option (Nat×Bool)}
variable {T:TypeId} {d:TypeDesc} {sz bL:Nat} {z:List Value} {ag:Bool}
theorem aEU(hC:∀main T,C main T→Closed P main T){k k':IntKind}{a b:Int}(ho:ops[i]?=some ⟨dst,.binOp .shr T x y T',ty,pos,dt,g⟩) (hw:aB ops n env g=true)
 (hx:bE n env x=some (.int k a)) (hy:bE n env y=some (.int k' b)) (hb:0≤b) (h:ai C fn aD ops rest Q (A n (upd dst (.int k (aV k a b)) env) D) s):ai C fn aD ops (i::rest) Q (A n env D) s:=by
 refine tR hC ho hw (by simp) ?_ h
 simp only[execOp,aH hx,aH hy]
 have he:eqGuard .shr T x y (.int k a) (.int k' b)=Sem.pure ():=rfl
 have hv:binOp .shr T (.int k a) (.int k' b)=Sem.pure (.int k (aV k a b)):=by
  show Op.shift .shr k a k' b=_
  simp only[Op.shift,show ¬b <0 by omega,if_false];rfl
 rw[he]
 show Sem.bind (Sem.bind (Sem.pure ()) fun _=>binOp .shr T (.int k a) (.int k' b)) _=_
 simp only[Sem.bind,hv]
 rfl
theorem aEV(hC:∀main T,C main T→Closed P main T){k k':IntKind}{a b:Int}(ho:ops[i]?=some ⟨dst,.binOp .shl T x y T',ty,pos,dt,g⟩) (hw:aB ops n env g=true)
 (hx:bE n env x=some (.int k a)) (hy:bE n env y=some (.int k' b)) (hb:0≤b) (h:ai C fn aD ops rest Q (A n (upd dst (.int k (dZ k a b)) env) D) s):ai C fn aD ops (i::rest) Q (A n env D) s:=by
 refine tR hC ho hw (by simp) ?_ h
 simp only[execOp,aH hx,aH hy]
 have he:eqGuard .shl T x y (.int k a) (.int k' b)=Sem.pure ():=rfl
 have hv:binOp .shl T (.int k a) (.int k' b)=Sem.pure (.int k (dZ k a b)):=by
  show Op.shift .shl k a k' b=_
  simp only[Op.shift,show ¬b <0 by omega,if_false];rfl
 rw[he]
 show Sem.bind (Sem.bind (Sem.pure ()) fun _=>binOp .shl T (.int k a) (.int k' b)) _=_
 simp only[Sem.bind,hv]
 rfl
end rules
theorem NU{s:St}{enc:α→List Value}(ps:List α)(h:s.has b (.cells ⟨(ps.map enc).flatten⟩ T fz))(hl:∀p∈ps,(enc p).length=sz):Sl s (.slice (some ⟨b,0,none⟩) ps.length cap) sz enc ps:=
 ⟨_,b,0,cap,rfl,fun _ _=>rfl,fun _ _ hx=>ye h hl hx⟩
theorem cU{enc:α→List Value}:aA (.slice (some ⟨b,0,none⟩) 0 0) sz T enc ([]:List α) [(b,.cells ⟨[]⟩ T (0,0))]:=
 .inr ⟨b,[],0,rfl,rfl,by simp,by simp,by simp,by simp⟩
theorem aA.form{v:Value}{enc:α→List Value}{ps:List α}{L:Cells}(h:aA v sz T enc ps L):∃a c,v= .slice a ps.length c:=by
 rcases h with ⟨h1,h2,_⟩| ⟨b,l,cap,h1,_⟩
 ·subst h2;exact⟨none,0,h1⟩
 exact⟨_,cap,h1⟩
def Lc(v:Value)(b:Nat):Prop:=∃n c,v= .slice (some ⟨b,0,none⟩) n c
theorem cB{s:St}{v:Value}{enc:α→List Value}{ps:List α}{L:Cells}(h:aA v sz T enc ps L)(hb:Lc v b)(hs:∀x∈L,s.has x.1 x.2){x:α}(hx:ps[k]?=some x):cK s b (k*sz) sz (enc x):=by
 obtain⟨a,b',o,c,h1,h2,h3⟩:=h.sl hs
 have hk:=(List.getElem?_eq_some_iff.1 hx).1
 have h4:=h2 k hk
 obtain⟨n,c',h5⟩:=hb
 rw[h1] at h5
 cases h5
 cases h4
 have:=h3 k x hx
 rwa[Nat.zero_add] at this
theorem aEO{v:Value}{enc:α→List Value}{ps:List α}{L:Cells}(h:aA v sz T enc ps L)(hk:k <ps.length):∃b,Lc v b:=by
 rcases h with ⟨_,h2,_⟩| ⟨b,l,cap,h1,_⟩
 ·subst h2;simp at hk
 exact⟨b,_,_,h1⟩
theorem Tq{enc:α→List Value}:∀(ps:List α),(∀p∈ps,(enc p).length=sz)→∀(k:Nat) (x:α),(enc x).length=sz→k <ps.length→∀l:List Value,l.take (ps.length*sz)=(ps.map enc).flatten→(dK l (k*sz) (enc x)).take (ps.length*sz)=((ps.set k x).map enc).flatten:=by
 intro ps OT k x hx hk l hl
 have hle:ps.length*sz≤l.length:=by
  have h1:=kT ps OT
  rw[←hl,List.length_take] at h1
  omega
 have Uv:k*sz+sz≤ps.length*sz:=by
  have:(k+1)*sz≤ps.length*sz:=Nat.mul_le_mul_right _ (by omega)
  rw[Nat.succ_mul] at this;exact this
 have hA:((ps.take k).map enc).flatten.length=k*sz:=by
  rw[kT _ (fun p hp=>OT p (List.mem_of_mem_take hp)),List.length_take,Nat.min_eq_left (by omega)]
 have hC:((ps.drop (k+1)).map enc).flatten.length=(ps.length-(k+1))*sz:=by
  rw[kT _ (fun p hp=>OT p (List.mem_of_mem_drop hp)),List.length_drop]
 have hB:=OT ps[k] (List.getElem_mem hk)
 have awU:(ps.map enc).flatten=((ps.take k).map enc).flatten++(enc ps[k]++((ps.drop (k+1)).map enc).flatten):=by
  have h3:ps=ps.take k++ps[k]::ps.drop (k+1):=by rw[←List.drop_eq_getElem_cons hk,List.take_append_drop]
  have h4:=congrArg (fun q:List α=>(q.map enc).flatten) h3
  simp only[List.map_append,List.map_cons,List.flatten_append,List.flatten_cons] at h4
  exact h4
 have rO:l=((ps.take k).map enc).flatten++(enc ps[k]++(((ps.drop (k+1)).map enc).flatten++l.drop (ps.length*sz))):=by
  have h3:=(List.take_append_drop (ps.length*sz) l).symm
  rw[hl,awU] at h3
  simp only[List.append_assoc] at h3
  exact h3
 have pU:((ps.set k x).map enc).flatten=((ps.take k).map enc).flatten++(enc x++((ps.drop (k+1)).map enc).flatten):=by
  rw[List.set_eq_take_append_cons_drop,if_pos hk]
  simp only[List.map_append,List.map_cons,List.flatten_append,List.flatten_cons]
 have aUO:dK l (k*sz) (enc x)=((ps.take k).map enc).flatten++(enc x++(((ps.drop (k+1)).map enc).flatten++l.drop (ps.length*sz))):=by
  rw[si _ _ _ (by omega),hx,List.append_assoc]
  congr 1
  ·conv=>lhs;rw[rO]
   rw[←hA,List.take_left]
  congr 1
  conv=>lhs;rw[rO]
  rw[←List.append_assoc,←List.append_assoc,List.append_assoc _ _ (List.drop _ _)]
  rw[show k*sz+sz=(((ps.take k).map enc).flatten++enc ps[k]).length by rw[List.length_append,hA,hB],List.drop_left]
 rw[aUO,pU,←List.append_assoc,←List.append_assoc]
 have hlen:(((ps.take k).map enc).flatten++enc x++((ps.drop (k+1)).map enc).flatten).length=ps.length*sz:=by
  rw[List.length_append,List.length_append,hA,hx,hC]
  have:ps.length*sz=(k+1+(ps.length-(k+1)))*sz:=by congr 1;omega
  rw[this,Nat.add_mul,Nat.succ_mul]
 rw[←hlen,List.take_left,List.append_assoc]
section rules
variable {P:Program} {C:Class} {fn:FuncId} {aD:Option Nat} {Q:Post} {s:St} {n:Nat} {env:Env} {D:List Deferred}
variable {ops:Array Oper} {i:Nat} {rest:List Nat} {dst:Option Tmp} {ty:TypeId} {pos:String} {dt:Array Edge} {g:Option (Nat×Bool)}
variable {T:TypeId} {d:TypeDesc} {sz bL:Nat} {z:List Value} {ag:Bool}
theorem VS(hC:∀main T,C main T→Closed P main T){w:Operand}{k k':IntKind}{b:ByteArray}(ho:ops[i]?=some ⟨dst,.slice T x (some y) (some w) none,ty,pos,dt,g⟩) (hw:aB ops n env g=true) (tf:TF P T .string sz bL z ag)
 (hx:bE n env x=some (.string b)) (hy:bE n env y=some (.int k lo)) (hz:bE n env w=some (.int k' hi)) (hl:0≤lo∧lo≤hi∧hi≤b.size) (h:ai C fn aD ops rest Q (A n (upd dst (.string (b.extract lo.toNat hi.toNat)) env) D) s):ai C fn aD ops (i::rest) Q (A n env D) s:=by
 refine cd hC ho hw (by simp) ?_
 have h1:0≤hi∧hi≤(b.size:Int):=by omega
 have h2:0≤lo∧lo≤(hi.toNat:Int):=by omega
 simp only[execOp,Option.map_some,Option.map_none,Instr.sliceAt,Instr.slice,aH hx,aH hy,aH hz,ae,bk tf,Instr.sliceBounds,Instr.sliceBound,asIntOf,ah,Option.isSome_none,Bool.false_eq_true,if_false,h1,h2,and_self,if_true]
 rw[←bu] at h
 exact h
theorem RP(hC:∀main T,C main T→Closed P main T){w:Operand}{k':IntKind}{b:ByteArray}(ho:ops[i]?=some ⟨dst,.slice T x none (some w) none,ty,pos,dt,g⟩) (hw:aB ops n env g=true) (tf:TF P T .string sz bL z ag)
 (hx:bE n env x=some (.string b)) (hz:bE n env w=some (.int k' hi)) (hl:0≤hi∧hi≤b.size) (h:ai C fn aD ops rest Q (A n (upd dst (.string (b.extract 0 hi.toNat)) env) D) s):ai C fn aD ops (i::rest) Q (A n env D) s:=by
 refine cd hC ho hw (by simp) ?_
 simp only[execOp,Option.map_some,Option.map_none,Instr.sliceAt,Instr.slice,aH hx,aH hz,ae,bk tf,Instr.sliceBounds,Instr.sliceBound,asIntOf,ah,Option.isSome_none,Bool.false_eq_true,if_false,hl,and_self,if_true]
 rw[←bu] at h
 exact h
theorem RN(hC:∀main T,C main T→Closed P main T){k:IntKind}{b:ByteArray}(ho:ops[i]?=some ⟨dst,.slice T x (some y) none none,ty,pos,dt,g⟩) (hw:aB ops n env g=true) (tf:TF P T .string sz bL z ag)
 (hx:bE n env x=some (.string b)) (hy:bE n env y=some (.int k lo)) (hl:0≤lo∧lo≤b.size) (h:ai C fn aD ops rest Q (A n (upd dst (.string (b.extract lo.toNat b.size)) env) D) s):ai C fn aD ops (i::rest) Q (A n env D) s:=by
 refine cd hC ho hw (by simp) ?_
 simp only[execOp,Option.map_some,Option.map_none,Instr.sliceAt,Instr.slice,aH hx,aH hy,ae,bk tf,Instr.sliceBounds,Instr.sliceBound,asIntOf,ah,Option.isSome_none,Bool.false_eq_true,if_false,hl,and_self,if_true]
 rw[←bu] at h
 exact h
theorem bJ.part{a:Option Addr}{len:Nat}{enc:α→List Value}{ps:List α}(hs:bJ ro (.slice a len cap) sz enc ps){l h:Nat}(hl:l≤h)(hh:h≤ps.length):bJ ro (.slice (if cap=l then a else a.map (·.add (l*sz))) (h-l) (cap-l)) sz enc ((ps.take h).drop l):=by
 obtain⟨a',b,o,aZp,h1,h2,h3,h4⟩:=hs
 cases h1
 have hlen:((ps.take h).drop l).length=h-l:=by rw[List.length_drop,List.length_take];omega
 refine⟨_,b,o+l*sz,_,by rw[hlen],by omega,fun k hk=>?_,fun i p hp=>?_⟩
 ·have:=h3 0 (by omega)
  subst this
  rw[if_neg (by omega)]
  simp[dV]
 rw[List.getElem?_drop] at hp
 have hi:l+i <h:=by
  have:=(List.getElem?_eq_some_iff.1 hp).1
  rw[List.length_take] at this;omega
 rw[List.getElem?_take_of_lt hi] at hp
 have:=h4 _ _ hp
 rwa[show o+(l+i)*sz=o+l*sz+i*sz by rw[Nat.add_mul];omega] at this
theorem agk(hC:∀main T,C main T→Closed P main T){v:Value}{enc:α→List Value}{ps:List α}{L:Cells}(ho:ops[i]?=some ⟨dst,.call ⟨.builtin .len,#[x],#[T]⟩,ty,pos,dt,g⟩) (hw:aB ops n env g=true)
 (tf:TF P T (.slice E) sz bL z ag) (hx:bE n env x=some v) (jm:aA v szo T2 enc ps L) (h:ai C fn aD ops rest Q (A n (upd dst (.int .i64 ps.length) env) D) s):ai C fn aD ops (i::rest) Q (A n env D) s:=by
 obtain⟨a,c,rfl⟩:=jm.form
 exact aEZ hC ho hw tf hx h
end rules
theorem dY{K J:Cells}(hp:rw'.Perm (K++J))(h:Sub ro aF):(⟨ro,K⟩:St).le ⟨aF,rw'⟩:=⟨J,hp,fun b o hb=> .inl (h b o hb)⟩
theorem bM(h:l.all single=true):∀v∈l,single v=true:=List.all_eq_true.1 h
section any
variable {P:Program} {C:Class} {fn:FuncId} {aD:Option Nat} {Q:Post} {s:St} {n:Nat} {D:List Deferred} {ops:Array Oper} {base:Env}
def atl(C:Class)(fn:FuncId)(aD:Option Nat)(ops:Array Oper)(n:Nat)(D:List Deferred)(base:Env)(Pl Sl:List (Nat×Value))(Q:Post)(s:St)(i:Nat):Prop:=
 ∀rest todo,(∀v s',(∀j w,(j,w)∈pending ops i Sl→fp C fn aD ops n D j w (cE ops base j Pl) s→fp C fn aD ops n D j w (cE ops base j Pl) s')→
  ux C fn aD ops n D base ((i,v)::Pl) (pending ops i Sl) Q s'→ai C fn aD ops todo Q (A n (upd (aT ops i) v (cE ops base i Pl++rest)) D) s')→
  ai C fn aD ops (i::todo) Q (A n (cE ops base i Pl++rest) D) s
def yK(C:Class)(fn:FuncId)(aD:Option Nat)(ops:Array Oper)(n:Nat)(D:List Deferred)(base:Env)(Pl Sl:List (Nat×Value))(Q:Post)(s:St):List Nat→Prop
 | []=>True
 |i::is=>atl C fn aD ops n D base Pl Sl Q s i∧yK C fn aD ops n D base Pl Sl Q s is
theorem yK.mem{Pl Sl:List (Nat×Value)}:∀ {is:List Nat},yK C fn aD ops n D base Pl Sl Q s is→∀i∈is,atl C fn aD ops n D base Pl Sl Q s i
 | [],_,i,hi=>by cases hi
 |k::is,h,i,hi=>by
  rcases List.mem_cons.1 hi with rfl|hi
  ·exact h.1
  exact yK.mem h.2 i hi
def age(ops:Array Oper)(ks:List Nat)(is:List Nat):Bool:=
 (List.range ops.size).all fun j=>bA j ks||bA j is||(bG ops j).any fun k=> !bA k ks
theorem adw{Pl Sl:List (Nat×Value)}(is:List Nat)(ni:fY ops=true)(his:(is.all fun i=>Nat.blt i ops.size&& !bA i (au Pl))=true)(mJ:nodupB (au Pl)=true)(ky:pQ ops (au Pl)=true)(hs:fZ (au Sl) (au Pl)=true)(ho:age ops (au Pl) is=true)
 (h:yK C fn aD ops n D base Pl Sl Q s is)(dQ:is.isEmpty=false):ux C fn aD ops n D base Pl Sl Q s:=by
 have rK:∀i∈is,i∉au Pl:=fun i hi hm=>by
  have:=(List.all_eq_true.1 his) i hi
  rw[aL.2 hm] at this;simp at this
 have KG:∀i∈is,i <ops.size:=fun i hi=>by
  have:=(List.all_eq_true.1 his) i hi
  simp only[Bool.and_eq_true,Nat.blt_eq] at this
  exact this.1
 have Ia:∀(l:List (Nat×Value)),nodupB (au l)=true→∀j v w,(j,v)∈l→(j,w)∈l→w=v:=by
  intro l
  induction l with
  |nil=>intro _ j v w h;cases h
  |cons x l ih=>
   rcases x with ⟨k,u⟩
   intro hb j v w h1 h2
   simp only[au,nodupB,Bool.and_eq_true,Bool.not_eq_true'] at hb
   have hk:k∉au l:=fun hm=>by rw[aL.2 hm] at hb;cases hb.1
   rcases List.mem_cons.1 h1 with h1|h1<;>rcases List.mem_cons.1 h2 with h2|h2
   ·cases h1;cases h2;rfl
   ·cases h1;exact absurd (aR.2 ⟨_,h2⟩) hk
   ·cases h2;exact absurd (aR.2 ⟨_,h1⟩) hk
   exact ih hb.2 j v w h1 h2
 intro hSl X l
 induction l generalizing X with
 |nil=>
  intro env hX hl pW hf
  cases is with
  |nil=>cases dQ
  |cons i is=>exact absurd (hX i (pW i (KG i List.mem_cons_self))) (rK i List.mem_cons_self)
 |cons j l ih=>
  intro env hX hl pW hf
  obtain⟨h1,h2,h3,h4⟩:=pW
  by_cases hj:j∈au Pl
  ·
   obtain⟨w,hw⟩:=aR.1 hj
   obtain⟨rest,hr⟩:=xD (n:=n) (D:=D) hf j h3 h2
   rw[hr]
   refine hSl j w (hl j w hw h2) s (Ext.refl s) rest l Q ?_
   rw[←EP hr]
   refine ih (j::X) _ (fun k hk=>?_) (fun k u hk CW=>hl k u hk (fun h=>CW (List.mem_cons_of_mem _ h))) h4 (uh ni hf h1 h2 h3 (fun u hu=>Ia Pl mJ j w u hw hu))
   rcases List.mem_cons.1 hk with rfl|hk
   ·exact hj
   exact hX k hk
  by_cases A9:j∈is
  ·have h:=yK.mem h j A9
   have rK:=rK j A9
   obtain⟨rest,hr⟩:=xD (n:=n) (D:=D) hf j h3 h2
   rw[hr]
   refine h rest l fun v s' hp ha=>?_
   rw[←EP hr]
   have O3:∀k,k∈au Pl→j∉bG ops k:=by
    intro k hk hm
    have:=(List.all_eq_true.1 ky) k hk
    exact rK (bR.1 this j hm)
   have OT:∀k u,(k,u)∈pending ops j Sl→(k,u)∈Sl:=fun k u hk=>(List.mem_filter.1 hk).1
   refine ha (fun k u hk=>?_) (j::X) l _ (fun k hk=>?_) (fun k u hk CW=>?_) h4 ?_
   ·rw[da (O3 k (bR.1 hs k (aR.2 ⟨u,OT k u hk⟩)))]
    exact hp k u hk (hSl k u (OT k u hk))
   ·rcases List.mem_cons.1 hk with rfl|hk
    ·simp[au]
    exact List.mem_cons_of_mem _ (hX k hk)
   ·rcases List.mem_cons.1 hk with hk|hk
    ·cases hk;exact absurd (by simp) CW
    have O0:k∉X:=fun h=>CW (List.mem_cons_of_mem _ h)
    refine List.mem_filter.2 ⟨hl k u hk O0,?_⟩
    cases hm:bA k (bG ops j) with
    |false=>rfl
    |true=>exact absurd (h3 k (aL.1 hm)) O0
   refine uh ni (Eo hf h2) h1 h2 h3 fun u hu=>?_
   rcases List.mem_cons.1 hu with hu|hu
   ·cases hu;rfl
   exact absurd (aR.2 ⟨_,hu⟩) rK
  exfalso
  have:=(List.all_eq_true.1 ho) j (List.mem_range.2 h1)
  have e1:bA j (au Pl)=false:=by
   cases hm:bA j (au Pl) with
   |false=>rfl
   |true=>exact absurd (aL.1 hm) hj
  have e2:bA j is=false:=by
   cases hm:bA j is with
   |false=>rfl
   |true=>exact absurd (aL.1 hm) A9
  rw[e1,e2] at this
  simp only[Bool.false_or,List.any_eq_true,Bool.not_eq_true'] at this
  obtain⟨k,hk,cv⟩:=this
  have:=hX k (h3 k hk)
  rw[aL.2 this] at cv;cases cv
end any
section rules
variable {P:Program} {C:Class} {fn:FuncId} {aD:Option Nat} {Q:Post} {s:St} {n:Nat} {env:Env} {D:List Deferred}
variable {ops:Array Oper} {i:Nat} {rest:List Nat} {dst:Option Tmp} {ty:TypeId} {pos:String} {dt:Array Edge} {g:Option (Nat×Bool)}
variable {T:TypeId} {d:TypeDesc} {sz bL:Nat} {z:List Value} {ag:Bool} {ro:Nat→Option Obj}
theorem w9{a:Act}(hC:∀main T,C main T→Closed P main T)(hp:rw'.Perm rw)(h:ai C fn aD ops todo Q a ⟨ro,rw⟩):ai C fn aD ops todo Q a ⟨ro,rw'⟩:=
 ai.more (s:=⟨ro,rw⟩) (s':=⟨ro,rw'⟩) hC ⟨[],by rw[List.append_nil];exact hp,fun b o hb=> .inl hb⟩ h
theorem oap(hC:∀main T,C main T→Closed P main T){v w:Value}{enc:α→List Value}{ps qs:List α}{L R:List (Nat×Obj)}{d':TypeDesc}{E2:TypeId}{sz2 Ct:Nat}{z2:List Value}{ag2:Bool} 
 (ho:ops[i]?=some ⟨dst,.call ⟨.builtin .append,#[x,y],#[T,U]⟩,ty,pos,dt,g⟩) (hw:aB ops n env g=true) (tf:TF P T (.slice E) sz bL z ag) (Ug:TF P U (.slice E2) sz2 Ct z2 ag2) (jI:TF P E d' iS wC z' xW) (hz:z'.length=iS)
 (hx:bE n env x=some v) (hy:bE n env y=some w) (jm:aA v iS E enc ps L) (MQ:Sl ⟨ro,L++R⟩ w iS enc qs) (hq:∀p∈qs,∀c∈enc p,single c=true) (hb:xd (ps.length+qs.length) wC)
 (h:∀v' L',aA v' iS E enc (ps++qs) L'→ai C fn aD ops rest Q (A n (upd dst v' env) D) ⟨ro,L'++R⟩):ai C fn aD ops (i::rest) Q (A n env D) ⟨ro,L++R⟩:=
 RU hC ho hw tf Ug jI hz hx hy jm MQ (pre:=[]) rfl hq hb h
theorem ost(hC:∀main T,C main T→Closed P main T){o:Nat}{v:Value}{R:List (Nat×Obj)}{c:List Value}{e:TypeId}(ho:ops[i]?=some ⟨dst,.store T x y,ty,pos,dt,g⟩) (hw:aB ops n env g=true) (tf:TF P T d sz bL z ag)
 (hx:bE n env x=some (.pointer (some ⟨b,o,none⟩))) (hy:bE n env y=some (v)) (hl:v.cells=⟨l⟩) (hn:l.length=sz) (h1:∀v∈l,single v=true) (hb:o+l.length≤c.length)
 (h:ai C fn aD ops rest Q (A n (upd dst undef env) D) ⟨ro,(b,.cells ⟨dK c o l⟩ e (0,0))::R⟩):ai C fn aD ops (i::rest) Q (A n env D) ⟨ro,(b,.cells ⟨c⟩ e (0,0))::R⟩:=
 Gz hC ho hw tf hx hy hl hn h1 (L:=[]) rfl hb h
end rules
section rules
variable {P:Program} {C:Class} {fn:FuncId} {aD:Option Nat} {Q:Post} {s:St} {n:Nat} {env:Env} {D:List Deferred}
variable {ops:Array Oper} {i:Nat} {rest:List Nat} {dst:Option Tmp} {ty:TypeId} {pos:String} {dt:Array Edge} {g:Option (Nat×Bool)}
theorem avs(hC:∀main T,C main T→Closed P main T){k:IntKind}{a b:Int}(ho:ops[i]?=some ⟨dst,.call ⟨.builtin .min,#[x,y],#[T,U]⟩,ty,pos,dt,g⟩) (hw:aB ops n env g=true)
 (hx:bE n env x=some (.int k a)) (hy:bE n env y=some (.int k b)) (h:ai C fn aD ops rest Q (A n (upd dst (.int k (min a b)) env) D) s):ai C fn aD ops (i::rest) Q (A n env D) s:=by
 refine cd hC ho hw (by simp) ?_
 have e:(if b <a then b else a)=min a b:=by omega
 simp only[execOp,resolve,invoke,builtin,Builtin.min_,List.map_toArray,List.map_cons,List.map_nil,aH hx,aH hy,List.foldlM_cons,List.foldlM_nil,Builtin.min2,ae,ah,e]
 rw[←bu] at h
 exact h
theorem avt(hC:∀main T,C main T→Closed P main T){k:IntKind}{a b:Int}(ho:ops[i]?=some ⟨dst,.call ⟨.builtin .max,#[x,y],#[T,U]⟩,ty,pos,dt,g⟩) (hw:aB ops n env g=true)
 (hx:bE n env x=some (.int k a)) (hy:bE n env y=some (.int k b)) (h:ai C fn aD ops rest Q (A n (upd dst (.int k (max a b)) env) D) s):ai C fn aD ops (i::rest) Q (A n env D) s:=by
 refine cd hC ho hw (by simp) ?_
 have e:(if a <b then b else a)=max a b:=by omega
 simp only[execOp,resolve,invoke,builtin,Builtin.max_,List.map_toArray,List.map_cons,List.map_nil,aH hx,aH hy,List.foldlM_cons,List.foldlM_nil,Builtin.max2,ae,ah,e]
 rw[←bu] at h
 exact h
end rules
def c8(a b:ByteArray):Bool:=a.toList==b.toList
def strLt(a b:ByteArray):Bool:=Op.bytesLess a.toList b.toList
section rules
variable {P:Program} {C:Class} {fn:FuncId} {aD:Option Nat} {Q:Post} {s:St} {n:Nat} {env:Env} {D:List Deferred}
variable {ops:Array Oper} {i:Nat} {rest:List Nat} {dst:Option Tmp} {ty:TypeId} {pos:String} {dt:Array Edge} {g:Option (Nat×Bool)}
theorem avp(hC:∀main T,C main T→Closed P main T){a b:ByteArray}(ho:ops[i]?=some ⟨dst,.binOp .add T x y T',ty,pos,dt,g⟩) (hw:aB ops n env g=true)
 (hx:bE n env x=some (.string a)) (hy:bE n env y=some (.string b)) (hb:(a.size:Int)+b.size≤9223372036854775807) (h:ai C fn aD ops rest Q (A n (upd dst (.string (a++b)) env) D) s):ai C fn aD ops (i::rest) Q (A n env D) s:=
 BH hC ho hw hx hy (v:= .string (a++b)) (by
  simp only[Op.stringOp]
  rw[if_neg]
  ·rfl
  have:IntKind.i64.max=9223372036854775807:=by decide
  rw[this];push_cast;omega) rfl h
end rules
theorem azY(b:ByteArray)(i:Nat)(h:i <b.size):b.get! i=b.data.toList[i]'(by simpa using h):=by
 have h':i <b.data.size:=h
 show b.data[i]! =_
 rw[getElem!_pos b.data i h']
 simp
theorem aaV(b:ByteArray):∀(n i:Nat) (r:List UInt8),b.size-i=n→ByteArray.toList.loop b i r=r.reverse++b.data.toList.drop i
 |0,i,r,h=>by
  unfold ByteArray.toList.loop
  rw[if_neg (by omega),List.drop_eq_nil_of_le]
  ·simp
  show b.data.toList.length≤i
  rw[Array.length_toList]
  have:b.data.size=b.size:=rfl
  omega
 |n+1,i,r,h=>by
  unfold ByteArray.toList.loop
  have hi:i <b.size:=by omega
  rw[if_pos hi,aaV b n (i+1) _ (by omega),azY b i hi]
  have hl:i <b.data.toList.length:=by rw[Array.length_toList];exact hi
  rw[List.drop_eq_getElem_cons hl]
  simp
theorem qE(b:ByteArray):b.toList=b.data.toList:=by
 show ByteArray.toList.loop b 0 []=_
 rw[aaV b _ 0 [] rfl]
 simp
theorem Dd{a b:ByteArray}:c8 a b=true↔a=b:=by
 unfold c8
 rw[qE,qE]
 simp only[beq_iff_eq]
 constructor
 ·intro h
  have:a.data=b.data:=Array.toList_inj.1 h
  cases a;cases b;simp at this;subst this;rfl
 rintro rfl;rfl
theorem Bs(a b:ByteArray):c8 a b=(a.data.toList==b.data.toList):=by unfold c8;rw[qE,qE]
theorem Q3(a b:ByteArray):strLt a b=Op.bytesLess a.data.toList b.data.toList:=by unfold strLt;rw[qE,qE]
def FnG(P:Program)(f:FuncId)(args:List Value)(ro:Nat→Option Obj)(own:Cells)(Φ:Value→(Nat→Option Obj)→Cells→Prop):Prop:=
 Fn (CP P) P f ⟨args⟩ ⟨ro,own⟩ (fun en s'=>∃v aF X,en= .returned v∧s'=⟨aF,X⟩∧Sub ro aF∧Φ v aF X)
theorem FnG.use{s:St}{own fr:Cells}{Φ:Value→(Nat→Option Obj)→Cells→Prop}(hp:s.rw.Perm (own++fr))(hf:FnG P f vs s.ro own Φ):
 Fn (CP P) P f ⟨vs⟩ s (fun en s'=>∃v aF X,en= .returned v∧Sub s.ro aF∧Φ v aF X∧(⟨aF,X++fr⟩:St).le s'):=by
 refine Fn.mono (Fn.frame (fr:=fr) (B:=[]) (ro:=s.ro) (s:=s) hf (fun _ h=>(by cases h)) ⟨hp,fun b o hb=> .inl hb,Sub.refl _⟩) fun en s' Ff=>?_
 obtain⟨Ag,⟨v,aF,X,rfl,rfl,hs,ql⟩,hc⟩:=Ff
 refine⟨v,aF,X,rfl,hs,ql,[],by simpa using hc.rw,fun b o hb=>?_⟩
 rcases hc.aJ b o hb with h|h
 ·exact .inl h
 cases h
theorem Hv:∀(A l:List Value) (o:Nat) (c:List Value),dK (A++l) (A.length+o) c=A++dK l o c
 | [],l,o,c=>by simp
 |a::A,l,o,[]=>by rw[lQ,lQ]
 |a::A,l,o,v::c=>by
  have:=Hv A l o (v::c)
  rw[show (a::A).length+o=A.length+o+1 by simp only[List.length_cons];omega]
  simp only[List.cons_append,dK,this]
theorem Mj{m B:List Value}{o:Nat}{c:List Value}(h:o+c.length≤m.length):dK (m++B) o c=dK m o c++B:=by
 rw[si _ _ _ (by rw[List.length_append];omega),si _ _ _ h,List.take_append_of_le_length (by omega),List.drop_append_of_le_length h]
 simp only[List.append_assoc]
theorem abO{m c:List Value}(h:c.length=m.length):dK m 0 c=c:=by
 rw[si _ _ _ (by omega)]
 simp[h]
theorem Xn{enc:α→List Value}{ps:List α}(OT:∀p∈ps,(enc p).length=sz){x:α}(hx:ps[k]?=some x) (hl:l.take (ps.length*sz)=(ps.map enc).flatten):∃A B,A.length=k*sz∧l=A++(enc x++B):=by
 obtain⟨hk,rfl⟩:=List.getElem?_eq_some_iff.1 hx
 refine⟨((ps.take k).map enc).flatten,((ps.drop (k+1)).map enc).flatten++l.drop (ps.length*sz),?_,?_⟩
 ·rw[kT _ (fun p hp=>OT p (List.mem_of_mem_take hp)),List.length_take,Nat.min_eq_left (by omega)]
 have h3:ps=ps.take k++ps[k]::ps.drop (k+1):=by rw[←List.drop_eq_getElem_cons hk,List.take_append_drop]
 have h4:=congrArg (fun q:List α=>(q.map enc).flatten) h3
 simp only[List.map_append,List.map_cons,List.flatten_append,List.flatten_cons] at h4
 have h5:=(List.take_append_drop (ps.length*sz) l).symm
 rw[hl,h4] at h5
 simpa only[List.append_assoc] using h5
theorem abP{enc:α→List Value}{ps:List α}(OT:∀p∈ps,(enc p).length=sz){x:α}(hx:ps[k]?=some x) (hl:l.take (ps.length*sz)=(ps.map enc).flatten) {o:Nat} {c:List Value} (h:o+c.length≤sz):
 dK l (k*sz+o) c=dK l (k*sz) (dK (enc x) o c):=by
 have hxl:=OT x (List.mem_of_getElem? hx)
 obtain⟨A,B,h1,rfl⟩:=Xn OT hx hl
 have e0:∀q,dK (A++(enc x++B)) A.length q=A++dK (enc x++B) 0 q:=fun q=>Hv A _ 0 q
 rw[←h1,Hv,e0,Mj (by omega),Mj (by rw[lR];omega),abO (lR _ _ _)]
section rules
variable {P:Program} {C:Class} {fn:FuncId} {aD:Option Nat} {Q:Post} {ro:Nat→Option Obj} {n:Nat} {env:Env} {D:List Deferred}
variable {ops:Array Oper} {i:Nat} {rest:List Nat} {dst:Option Tmp} {ty:TypeId} {pos:String} {dt:Array Edge} {g:Option (Nat×Bool)}
variable {T:TypeId} {d:TypeDesc} {tsz bL:Nat} {z:List Value} {ag:Bool}
theorem aEQ(hC:∀main T,C main T→Closed P main T){o:Nat}{v w:Value}{a e:α}{c:List Value}{enc:α→List Value}{ps:List α}{L:Cells}(ho:ops[i]?=some ⟨dst,.store T x y,ty,pos,dt,g⟩) (hw:aB ops n env g=true) (tf:TF P T d tsz bL z ag)
 (hx:bE n env x=some (.pointer (some ⟨b,k*sz+o,none⟩))) (hy:bE n env y=some w) (hl:w.cells=⟨c⟩) (hn:c.length=tsz) (h1:∀v∈c,single v=true) (jm:aA v sz E enc ps L) (hb:Lc v b) (hk:ps[k]?=some a) (he:enc e=dK (enc a) o c) (hf:o+c.length≤sz)
 (h:∀L',aA v sz E enc (ps.set k e) L'→ai C fn aD ops rest Q (A n (upd dst undef env) D) ⟨ro,L'++R⟩):ai C fn aD ops (i::rest) Q (A n env D) ⟨ro,L++R⟩:=by
 have hk1:k <ps.length:=(List.getElem?_eq_some_iff.1 hk).1
 rcases jm with ⟨_,h2,_⟩| ⟨b',l,cap,g1,g2,g3,g4,g5,g6⟩
 ·subst h2;simp at hk
 obtain⟨n',c',mN⟩:=hb
 rw[g1] at mN
 cases mN
 subst g2
 have hea:(enc a).length=sz:=g5 a (List.mem_of_getElem? hk)
 have Ff:(enc e).length=sz:=by rw[he,lR,hea]
 have Uv:k*sz+sz≤ps.length*sz:=by
  have:(k+1)*sz≤ps.length*sz:=Nat.mul_le_mul_right _ (by omega)
  rw[Nat.succ_mul] at this;exact this
 have oV:ps.length*sz≤cap*sz:=Nat.mul_le_mul_right _ g4
 refine Gz (L:=[]) (R:=R) hC ho hw tf hx hy hl hn h1 rfl (by omega)<|h [(b,.cells ⟨dK l (k*sz+o) c⟩ E (0,0))] (.inr ⟨b,_,cap,by rw[g1,List.length_set],rfl,by rw[lR,g3],by rw[List.length_set];exact g4,fun p hp=>?_,?_⟩)
 ·rcases List.mem_or_eq_of_mem_set hp with h5|h5
  ·exact g5 p h5
  subst h5;exact Ff
 rw[List.length_set,abP g5 hk g6 hf,←he]
 exact Tq ps g5 k e Ff hk1 l g6
end rules
section rules
variable {P:Program} {C:Class} {fn:FuncId} {aD:Option Nat} {Q:Post} {s:St} {n:Nat} {env:Env} {D:List Deferred}
variable {ops:Array Oper} {i:Nat} {rest:List Nat} {dst:Option Tmp} {ty:TypeId} {pos:String} {dt:Array Edge} {g:Option (Nat×Bool)}
structure EF(P:Program)(f:FuncId)(e:Array Value→Sem Value):Prop where
 ef:∃fn,P.funcs[f]?=some fn∧(fn.name== "runtime.NumGoroutine")=false∧fn.body.isNone=true∧(Extern.findNext fn).isNone=true∧Extern.find fn=some e
theorem agn(hC:∀main T,C main T→Closed P main T){e:Array Value→Sem Value}(ho:ops[i]?=some ⟨dst,.call ⟨.value (.func f),xs,at_⟩,ty,pos,dt,g⟩) (hw:aB ops n env g=true)
 (ef:EF P f e) (hx:wI n env xs=some vs) (h:bU P (e ⟨vs⟩) s (fun v s'=>ai C fn aD ops rest Q (A n (upd dst v env) D) s') (fun _ _=>False)):ai C fn aD ops (i::rest) Q (A n env D) s:=by
 obtain⟨fn',h1,h2,h3,h4,h5⟩:=ef.ef
 have h4':Extern.findNext fn'=none:=by
  cases hh:Extern.findNext fn' with
  |none=>rfl
  |some x=>rw[hh] at h4;cases h4
 refine cd hC ho hw (by simp) ?_
 simp only[execOp,resolve,ev,Deferred.ofValue,ah,tq hx]
 simp only[invoke,Array.append_empty,Array.empty_append,callFunc,fu,h1,h2,h3,h4',h5,if_true,Bool.false_eq_true,if_false]
 refine⟨rfl,?_⟩
 refine QK (e ⟨vs⟩) (fun v=>(pure (Next.value v):Sem Next)) _ _ _<|wL _ _ _ _ _ _ (fun v s' hv=>?_) (fun _ _ (hf:False)=>hf.elim) h
 rw[←bu] at hv
 exact hv
end rules
def Sm(a:ByteArray)(b:UInt8):Int:=
 match (List.range a.size).find? fun i=>a[i]! ==b with
 |some i=>i
 |none=> -1
section rules
variable {P:Program} {C:Class} {fn:FuncId} {aD:Option Nat} {Q:Post} {s:St} {n:Nat} {env:Env} {D:List Deferred}
variable {ops:Array Oper} {i:Nat} {rest:List Nat} {dst:Option Tmp} {ty:TypeId} {pos:String} {dt:Array Edge} {g:Option (Nat×Bool)}
theorem agl(hC:∀main T,C main T→Closed P main T){a:ByteArray}{b:Int}(ho:ops[i]?=some ⟨dst,.call ⟨.value (.func f),xs,at_⟩,ty,pos,dt,g⟩) (hw:aB ops n env g=true)
 (ef:EF P f Extern.BytealgIndexByte.indexByte) (hx:wI n env xs=some [.string a,.int .u8 b]) (h:ai C fn aD ops rest Q (A n (upd dst (.int .i64 (Sm a b.toNat.toUInt8)) env) D) s):ai C fn aD ops (i::rest) Q (A n env D) s:=by
 refine agn hC ho hw ef hx ?_
 unfold Sm at h
 show bU P (match (List.range a.size).find? fun i=>a[i]! ==b.toNat.toUInt8 with|some i=>pure (goInt i)|none=>pure (goInt (-1))) s _ _
 split
 ·rename_i j hj
  rw[hj] at h;exact h
 rename_i hj
 rw[hj] at h;exact h
theorem anW(hC:∀main T,C main T→Closed P main T){v:Value}(ho:ops[i]?=some ⟨dst,.call ⟨.value (.func f),xs,at_⟩,ty,pos,dt,g⟩) (hw:aB ops n env g=true)
 (ef:EF P f Extern.AbiNoEscape.same) (hx:wI n env xs=some [v]) (h:ai C fn aD ops rest Q (A n (upd dst v env) D) s):ai C fn aD ops (i::rest) Q (A n env D) s:=
 agn hC ho hw ef hx h
end rules
theorem ac6{b:ByteArray}{c:UInt8}(h:b.data.toList[p]?=some c) (ha:c.toNat <128):p <b.size∧Utf8.decode b p=(c.toNat,1):=by
 rw[Array.getElem?_toList] at h
 obtain⟨h1,h2⟩:=Array.getElem?_eq_some_iff.1 h
 refine⟨h1,?_⟩
 have h3:b.get! (p+0)=c:=by
  show b.data[p+0]! =c
  rw[Nat.add_zero,getElem!_pos b.data p h1,h2]
 simp only[Utf8.decode,h3]
 rw[if_pos (by omega)]
section rules
variable {P:Program} {C:Class} {fn:FuncId} {aD:Option Nat} {Q:Post} {ro:Nat→Option Obj} {n:Nat} {env:Env} {D:List Deferred}
variable {ops:Array Oper} {i:Nat} {rest:List Nat} {dst:Option Tmp} {ty:TypeId} {pos:String} {dt:Array Edge} {g:Option (Nat×Bool)}
theorem anY(hC:∀main T,C main T→Closed P main T){b:ByteArray}{c:UInt8}(ho:ops[i]?=some ⟨dst,.next x true,ty,pos,dt,g⟩) (hw:aB ops n env g=true) (hx:bE n env x=some (.pointer (some ⟨r,0,none⟩))) (hp:b.data.toList[p]?=some c) (ha:c.toNat <128)
 (h:ai C fn aD ops rest Q (A n (upd dst (.tuple ⟨[.bool true,.int .i64 p,.int .i32 c.toNat]⟩) env) D) ⟨ro,(r,.stringIter b (p+1))::R⟩):ai C fn aD ops (i::rest) Q (A n env D) ⟨ro,(r,.stringIter b p)::R⟩:=by
 obtain⟨h1,h2⟩:=ac6 hp ha
 refine abY hC ho hw hx (L:=[]) rfl h1 ?_
 rw[h2]
 exact h
theorem anX(hC:∀main T,C main T→Closed P main T){b:ByteArray}(ho:ops[i]?=some ⟨dst,.next x true,ty,pos,dt,g⟩) (hw:aB ops n env g=true) (hx:bE n env x=some (.pointer (some ⟨r,0,none⟩))) (hp:b.data.toList[p]?=none)
 (h:ai C fn aD ops rest Q (A n (upd dst (.tuple ⟨[.bool false]⟩) env) D) ⟨ro,(r,.stringIter b p)::R⟩):ai C fn aD ops (i::rest) Q (A n env D) ⟨ro,(r,.stringIter b p)::R⟩:=by
 refine abZ hC ho hw hx (L:=[]) rfl ?_ h
 rw[Array.getElem?_toList,Array.getElem?_eq_none_iff] at hp
 exact Nat.not_lt.2 hp
end rules
theorem G4(ops:Array Oper)(n:Nat)(env:Env)(D:List Deferred)(o:Oper)(j:Nat)(want:Bool)(d:Tmp)(hg:o.guard=some (j,want))(hd:(ops[j]?).bind (·.dst)=some d)
 (hv:bE n env (.tmp d)=some undef):Region.wanted o (yielded ops (A n env D).tmps)=false:=by
 unfold Region.wanted
 rw[hg]
 simp only[bE] at hv
 by_cases cO:d <n
 ·rw[show Nat.blt d n=true from by simpa [Nat.blt_eq] using cO] at hv
  simp only[cond_true] at hv
  simp only[yielded,hd,Option.bind_some,P5]
  rw[if_pos cO,nj hv]
  rfl
 rw[show Nat.blt d n=false from by simpa [Nat.blt_eq,←Bool.not_eq_true] using cO] at hv
 cases hv
section rules
variable {P:Program} {C:Class} {fn:FuncId} {aD:Option Nat} {Q:Post} {s:St} {n:Nat} {env:Env} {D:List Deferred}
variable {ops:Array Oper} {i:Nat} {rest:List Nat} {dst:Option Tmp} {ty:TypeId} {pos:String} {dt:Array Edge} {g:Option (Nat×Bool)}
theorem anV(hC:∀main T,C main T→Closed P main T){op:Op}{j:Nat}{want:Bool}{d:Tmp}(ho:ops[i]?=some ⟨dst,op,ty,pos,dt,some (j,want)⟩) (hd:(ops[j]?).bind (·.dst)=some d)
 (hv:bE n env (.tmp d)=some undef) (h:ai C fn aD ops rest Q (A n (upd dst undef env) D) s):ai C fn aD ops (i::rest) Q (A n env D) s:=by
 refine uW hC ho (G4 _ _ _ _ _ _ _ _ rfl hd hv) ?_
 rw[bu];exact h
end rules
section rules
variable {P:Program} {C:Class} {fn:FuncId} {Q:Post} {s:St} {n:Nat} {env:Env} {D:List Deferred}
variable {ops:Array Oper} {i:Nat} {rest:List Nat} {dst:Option Tmp} {ty:TypeId} {pos:String} {dt:Array Edge} {g:Option (Nat×Bool)}
theorem an0(hC:∀main T,C main T→Closed P main T){ca:List Value}(ho:ops[i]?=some ⟨dst,.defer ⟨.value x,#[],#[]⟩,ty,pos,dt,g⟩) (hw:aB ops n env g=true)
 (hx:bE n env x=some (.func (.func f) ⟨[]⟩ ⟨ca⟩)) (h:ai C fn none ops rest Q (A n (upd dst undef env) ({target:= .fn (.func f) ⟨ca⟩,args:= #[]}::D)) s):ai C fn none ops (i::rest) Q (A n env D) s:=by
 refine Oe hC ho (C8 _ _ _ _ _ hw) (.inl rfl) ?_
 rw[eG]
 simp only[execOp,resolve,aH hx,Deferred.ofValue,ah]
 refine⟨rfl,?_⟩
 have hA:({A n env D with defers:={target:= .fn (.func f) ⟨ca⟩,args:= #[]}::(A n env D).defers}:Act).put dst undef=A n (upd dst undef env) ({target:= .fn (.func f) ⟨ca⟩,args:= #[]}::D):=by
  rw[←bu];rfl
 rw[←hA] at h
 have he:(⟨[]⟩:Array Value)++Array.map (ev n env) #[]= #[]:=by simp
 rw[he]
 exact h
def Xz(C:Class)(P:Program)(fn:Func)(g:FuncId)(gn:Func)(t:Tmp)(rest:Code)(R:Ending→St→Prop):Post:=fun e a s=>
 (e= .normal∨e= .ret)∧∃ca:List Value,Nat.ble ca.length gn.ntmps=true∧a.defers=[{target:= .fn (.func g) ⟨ca⟩,args:= #[]}]∧
  Wp C g none rest (fun e2 a2 s2=>(e2= .normal∨e2= .ret)∧a2.defers=[]∧bU P (results fn a.tmps) s2 (fun v s3=>∃s0,s0.le s3∧R (.returned v) s0) (fun _ _=>False)) (A gn.ntmps (upd (some t) .nilIface (gu 0 ca)) []) s
theorem IM(hC:∀main T,C main T→Closed P main T){f:FuncId}{fn:Func}{c:Code}{args:List Value}{R:Ending→St→Prop}{gid:FuncId}{gn:Func}{t:Tmp}{rc:Code}(hf:P.funcs[f]?=some fn) (hb:fn.body=some c) (hn:fn.ntmps=n) (hl:Nat.ble args.length n=true)
 (aib:Kl P gid=some (gn,t,rc)) (h:Wp C f none c (Xz C P fn gid gn t rc R) (A n (gu 0 args) []) s):Fn C P f ⟨args⟩ s R:=by
 intro main T hT cl cs k1 k2
 have iY:=hC main T hT
 let b:Frame:={(default:Frame) with fn:=f,kind:= .normal,roundOf:=none}
 have iM:Frame.enter P f ⟨args⟩ .normal=aM b (A n (gu 0 args) []) [.code c]:=by
  rw[←lj args n (Nat.le_of_ble_eq_true hl)]
  simp[Frame.enter,aM,hf,hb,hn,b]
 rw[iM]
 obtain⟨hgf,BZ,CV,id,o,at_,hgb,h1,h2,h3⟩:=(YS aib).ex
 have ff:FF P gid:=⟨gn,hgf,CV,by rw[hgb];rfl⟩
 have th:∀(todo:List Item) (a':Act) (s':St) (ca:List Value),Nat.ble ca.length gn.ntmps=true→a'.defers=[{target:= .fn (.func gid) ⟨ca⟩,args:= #[]}]→
  Wp C gid none rc (fun e2 a2 s2=>(e2= .normal∨e2= .ret)∧a2.defers=[]∧bU P (results fn a'.tmps) s2 (fun v s3=>∃s0,s0.le s3∧R (.returned v) s0) (fun _ _=>False)) (A gn.ntmps (upd (some t) .nilIface (gu 0 ca)) []) s'→
  T (G {aM b a' todo with mode:= .returning} (cl::cs)) s':=by
  intro todo a' s' ca hlc hd hw
  refine jZ hC hT (.inl rfl) ff (ds:=[]) (a:= #[]) (ca:=⟨ca⟩) hd ?_
  let d:Frame:={(default:Frame) with fn:=gid,kind:= .deferred,roundOf:=none}
  have apu:Frame.enter P gid ((#[]:Array Value)++⟨ca⟩) .deferred=aM d (A gn.ntmps (gu 0 ca) []) [.code (.seq (.region id #[o] false) rc)]:=by
   rw[←lj ca gn.ntmps (Nat.le_of_ble_eq_true hlc)]
   simp[Frame.enter,aM,hgf,hgb,d]
  rw[apu]
  let c0:Frame:={aM b a' todo with mode:= .returning,defers:=[]}
  show T (G _ (c0::cl::cs)) s'
  refine iY.go rfl rfl (g':=G (aM d (A gn.ntmps (gu 0 ca) []) [.code (.region id #[o] false),.code rc]) (c0::cl::cs)) (fun w=>by simp[G,stepG,stepG.exec,aM]) ?_
  refine iY.go rfl rfl (g':=G (aM d (A gn.ntmps (gu 0 ca) []) [.inRegion #[o] [0],.code rc]) (c0::cl::cs)) (fun w=>by simp[G,stepG,stepG.exec,aM,List.range,List.range.loop]) ?_
  refine Bx hC hT (u:= .ret) (ρ:=fun _=>none) rfl rfl h1 h2 h3 .ret fun v' nK hv WJ=>?_
  have hv':v'= .nilIface:=by
   rcases hv with hv|hv
   ·cases hv;rfl
   ·exact hv.2
  subst hv'
  refine iY.go rfl rfl (g':=G (aM d ((A gn.ntmps (gu 0 ca) []).put (some t) .nilIface) [.code rc]) ({c0 with mode:=nK}::cl::cs)) (fun w=>by simp[G,stepG,stepG.exec,aM]) ?_
  rw[bu]
  have SC:∀tmps,results gn tmps=Sem.pure (.tuple #[]):=by intro tmps;simp[results,BZ];rfl
  have vZ:∀(Yj:List Item) (a2:Act) (s2:St),a2.defers=[]→bU P (results fn a'.tmps) s2 (fun v s3=>∃s0,s0.le s3∧R (.returned v) s0) (fun _ _=>False)→T (G {aM d a2 Yj with mode:= .returning} ({c0 with mode:=nK}::cl::cs)) s2:=by
   intro Yj a2 s2 hd2 xo
   have mT:T (G c0 (cl::cs)) s2:=tM hC hT hf rfl rfl rfl rfl xo k1
   refine iY.go rfl rfl (fun w=>?_) mT
   rcases WJ with rfl| ⟨v,rfl⟩
   ·simp only[G,stepG,unwind,aM,d,hgf,SC,Sem.runT,tL,hd2]
    simp[GStep.after,doReturn,c0,aM]
   ·simp only[G,stepG,unwind,aM,d,hgf,SC,Sem.runT,tL,hd2]
    simp[GStep.after,doReturn,c0,aM]
  refine hw main T hT d [] _ rfl (by simp[d]) rfl fun e2 a2 s2 q=>?_
  obtain⟨q1,q2,q3⟩:=q
  rcases q1 with rfl|rfl
  ·exact iY.go rfl rfl (g':=G {aM d a2 [] with mode:= .returning} ({c0 with mode:=nK}::cl::cs)) (fun w=>by simp[G,stepG,stepG.exec,aM,d]) (vZ _ _ _ q2 q3)
  ·exact fun Yj=>iY.go rfl rfl (g':=G {aM d a2 (.code .ret::Yj) with mode:= .returning} ({c0 with mode:=nK}::cl::cs)) (fun w=>by simp[G,stepG,stepG.exec,aM,d]) (vZ _ _ _ q2 q3)
 refine h main T hT b [] (cl::cs) rfl (by simp[b]) rfl fun e a' s' q=>?_
 obtain⟨q1,ca,q0,q2,q3⟩:=q
 rcases q1 with rfl|rfl
 ·exact iY.go rfl rfl (g':=G {aM b a' [] with mode:= .returning} (cl::cs)) (fun w=>by simp[G,stepG,stepG.exec,aM,b]) (th _ _ _ ca q0 q2 q3)
 ·exact fun todo=>iY.go rfl rfl (g':=G {aM b a' (.code .ret::todo) with mode:= .returning} (cl::cs)) (fun w=>by simp[G,stepG,stepG.exec,aM,b]) (th _ _ _ ca q0 q2 q3)
end rules
section rules
variable {P:Program} {C:Class} {fn:FuncId} {aD:Option Nat} {Q:Post} {s:St} {n:Nat} {env:Env} {D:List Deferred}
variable {ops:Array Oper} {i:Nat} {rest:List Nat} {dst:Option Tmp} {ty:TypeId} {pos:String} {dt:Array Edge} {g:Option (Nat×Bool)}
variable {T:TypeId} {sz bL:Nat} {z:List Value} {ag:Bool}
theorem anU(hC:∀main T,C main T→Closed P main T){a:Option Addr}{l c:Nat}(ho:ops[i]?=some ⟨dst,.binOp .eql T x y T',ty,pos,dt,g⟩) (hw:aB ops n env g=true) (tf:TF P T (.slice E) sz bL z ag)
 (hx:bE n env x=some (.slice a l c)) (hy:bE n env y=some (.slice none 0 0)) (h:ai C fn aD ops rest Q (A n (upd dst (.bool a.isNone) env) D) s):ai C fn aD ops (i::rest) Q (A n env D) s:=by
 refine cd hC ho hw (by simp) ?_
 have hg:eqGuard .eql T x y (.slice a l c) (.slice none 0 0)=Sem.pure ():=by cases a<;>rfl
 have hb:binOp .eql T (.slice a l c) (.slice none 0 0)=(Op.equal T (.slice a l c) (.slice none 0 0) >>= fun r=>pure (.bool r)):=by cases a<;>rfl
 have he:∀ {α:Type} (K:Bool→Sem α) (Q:α→St→Prop) (E:Halt→St→Prop),bU P (K a.isNone) s Q E→bU P (Op.equal T (.slice a l c) (.slice none 0 0) >>= K) s Q E:=by
  intro α K Q E hK
  have gen:∀d,bU P (Op.equalIn (d+1) T (.slice a l c) (.slice none 0 0) >>= K) s Q E:=by
   intro d
   cases a<;>(simp only[Op.equalIn,ae,bk tf,ah,Option.isNone];exact hK)
  exact gen 9999
 simp only[execOp,aH hx,aH hy,hg,hb]
 show bU P ((Op.equal T (.slice a l c) (.slice none 0 0) >>= fun r=>(pure (Value.bool r):Sem Value)) >>= fun x=>(pure (Next.value x):Sem Next)) s _ _
 simp only[ae]
 refine he _ _ _ ?_
 rw[←bu] at h
 exact h
end rules
def afS:Op→Option (List Operand)
 | .move x=>some [x]
 | .assign x=>some [x]
 | .extract x _=>some [x]
 | .nilCheck x=>some [x]
 | .fieldAddr _ x _=>some [x]
 | .makeInterface _ x=>some [x]
 | .indexAddr _ x y=>some [x,y]
 |op=>Hy op
theorem Rq{xs:List Operand}(h:afS o.op=some xs){f g:Operand→Value}(hfg:∀x∈xs,f x=g x):execOp f o=execOp g o:=by
 unfold afS at h
 split at h
 all_goals first
  | (rename_i heq;simp only[Option.some.injEq] at h;subst h;simp[execOp,heq,hfg];done)
  |exact uR h hfg
def evj(n:Nat)(e:Env)(x:Operand):Value:=(bE n e x).getD undef
theorem Pq{f:Operand→Value}(hf:Ev n e f):∀ {xs:List Operand} {vs:List Value},y5 n e xs=some vs→∀x∈xs,f x=evj n e x
 |y::l,vs,h,x,hx=>by
  simp only[y5] at h
  cases hv:bE n e y with
  |none=>rw[hv] at h;cases h
  |some v=>
   rw[hv] at h
   cases hr:y5 n e l with
   |none=>rw[hr] at h;cases h
   |some r=>
    rcases List.mem_cons.1 hx with rfl|hx
    ·rw[hf _ _ hv,evj,hv];rfl
    exact Pq hf hr x hx
def auE(P:Program)(n:Nat)(e:Env)(o:Oper):Option Value:=
 match afS o.op with
 |some xs=>match y5 n e xs with
  |some _=>match bH P (execOp (evj n e) o) with
   |some (.value v)=>some v
   |_=>none
  |none=>none
 |none=>none
def aFq(P:Program)(n:Nat)(e:Env)(x:Operand)(T:TypeId):Option Value:=
 match a8 P T with
 |some ⟨.slice _,_,_,_⟩=>match bE n e x with
  |some (.slice _ len _)=>some (.int .i64 len)
  |_=>none
 |some ⟨.string,_,_,_⟩=>match bE n e x with
  |some (.string b)=>some (.int .i64 b.size)
  |_=>none
 |_=>none
def XJ(P:Program)(n:Nat)(e:Env)(T:TypeId)(ps:Array (Nat×Operand)):Option Value:=
 match a8 P T with
 |some ⟨.struct fields,_,z,_⟩=>match yf P fields.toList with
  |some pl=>match Qj n e ps.toList with
   |some pv=>match oZ (fun i=>pl[i]?) z (uV pv) with
    |some l=>some (.agg ⟨l⟩)
    |none=>none
   |none=>none
  |none=>none
 |some ⟨.array _ E,_,z,_⟩=>match a8 P E with
  |some te=>match Qj n e ps.toList with
   |some pv=>match oZ (fun i=>some (i*te.size,te.size)) z (uV pv) with
    |some l=>some (.agg ⟨l⟩)
    |none=>none
   |none=>none
  |none=>none
 |_=>none
def aeA(P:Program)(n:Nat)(e:Env)(o:Oper):Option Value:=
 match o.op with
 | .pick c x y=>match bE n e c with
  |some (.bool true)=>bE n e x
  |some (.bool false)=>bE n e y
  |_=>none
 | .makeFunc f x y=>match y5 n e x.toList with
  |some x'=>match y5 n e y.toList with
   |some y'=>some (.func f ⟨x'⟩ ⟨y'⟩)
   |none=>none
  |none=>none
 | .build T ps=>XJ P n e T ps
 | .call ⟨.builtin .len,⟨[x]⟩,⟨[T]⟩⟩=>aFq P n e x T
 |_=>auE P n e o
section val
variable {P:Program} {n:Nat} {e:Env} {o:Oper} {s:St} {v:Value}
theorem ann(h:auE P n e o=some v):Yields P n e o s v:=by
 unfold auE at h
 split at h<;>try (cases h;done)
 rename_i xs hx
 split at h<;>try (cases h;done)
 rename_i vs FY
 split at h<;>try (cases h;done)
 rename_i w hr
 cases h
 intro s' _ f hf K E hK
 rw[Rq hx (Pq hf FY)]
 exact oL hr hK
theorem adh{ps:Array (Nat×Operand)}(heq:o.op= .build T ps)(h:XJ P n e T ps=some v):Yields P n e o s v:=by
 unfold XJ at h
 split at h<;>try (cases h;done)
 ·rename_i fields _ z _ dS
  obtain⟨bL,tf⟩:=ay dS
  split at h<;>try (cases h;done)
  rename_i pl SE
  split at h<;>try (cases h;done)
  rename_i pv KB
  split at h<;>try (cases h;done)
  rename_i l hl
  cases h
  intro s' nH f hf K E hK
  simp only[execOp,heq,Instr.build,ae,j5 tf,bk tf,dX tf]
  rw[Array.mapM_eq_mapM_toList]
  simp only[map_eq_pure_bind,ae,ah]
  rw[oE (Ar SE)]
  rw[k8] at hl
  have h1:=fill_eq _ _ _ _ hl
  have h3:(fun x=>(pl.toArray)[x]?:Nat→Option (Nat×Nat))=fun i=>pl[i]?:=by funext i;simp
  simp only[h3,hf.wY KB,h1,ah]
  exact hK
 rename_i len E _ z _ dS
 obtain⟨bL,tf⟩:=ay dS
 split at h<;>try (cases h;done)
 rename_i te tX
 obtain⟨Ct,rM⟩:=ay tX
 split at h<;>try (cases h;done)
 rename_i pv KB
 split at h<;>try (cases h;done)
 rename_i l hl
 cases h
 intro s' nH f hf K E hK
 simp only[execOp,heq,Instr.build,ae,j5 tf,bk tf,dX tf,cy rM]
 rw[k8] at hl
 have h1:=fill_eq _ _ _ _ hl
 simp only[hf.wY KB,h1,ah]
 exact hK
theorem Bp(h:aeA P n e o=some v):Yields P n e o s v:=by
 unfold aeA at h
 split at h
 ·rename_i c x y heq
  split at h<;>try (cases h;done)
  ·rename_i hc
   intro s' _ f hf K E hK
   simp only[execOp,heq,hf _ _ hc,hf _ _ h]
   exact hK
  rename_i hc
  intro s' _ f hf K E hK
  simp only[execOp,heq,hf _ _ hc,hf _ _ h]
  exact hK
 ·rename_i g x y heq
  split at h<;>try (cases h;done)
  rename_i x' hx
  split at h<;>try (cases h;done)
  rename_i y' hy
  cases h
  intro s' _ f hf K E hK
  simp only[execOp,heq,hf.arr hx,hf.arr hy]
  exact hK
 ·rename_i T ps heq;exact adh heq h
 ·rename_i x T heq
  unfold aFq at h
  split at h<;>try (cases h;done)
  ·rename_i dS
   obtain⟨bL,tf⟩:=ay dS
   split at h<;>try (cases h;done)
   rename_i hx
   cases h
   intro s' _ f hf K E hK
   simp only[execOp,heq,resolve,invoke,builtin,Builtin.len_,List.map_toArray,List.map_cons,List.map_nil,hf _ _ hx,ah,List.getElem?_toArray,List.getElem?_cons_zero,bk tf,ae]
   exact hK
  rename_i dS
  obtain⟨bL,tf⟩:=ay dS
  split at h<;>try (cases h;done)
  rename_i hx
  cases h
  intro s' _ f hf K E hK
  simp only[execOp,heq,resolve,invoke,builtin,Builtin.len_,List.map_toArray,List.map_cons,List.map_nil,hf _ _ hx,ah,List.getElem?_toArray,List.getElem?_cons_zero,bk tf,ae]
  exact hK
 exact ann h
end val
def ldv(P:Program)(T:TypeId)(l:List Value)(off:Nat):Option Value:=
 match a8 P T with
 |some ti=>bif ti.agg then (match sub l off ti.size with
  |some vs=>some (.agg ⟨vs⟩)
  |none=>none) else nth l off
 |none=>none
theorem ag1{s:St}{v:Value}{t:TypeId}(heq:o.op= .load T x)(hx:bE n e x=some (.pointer (some ⟨b,off,none⟩)))(hb:s.has b (.cells ⟨l⟩ t fz))(h:ldv P T l off=some v):Yields P n e o s v:=by
 unfold ldv at h
 split at h<;>try (cases h;done)
 rename_i ti dS
 obtain⟨bL,tf⟩:=ay dS
 intro s' hs f hf K E hK
 cases ha:ti.agg with
 |true=>
  rw[ha] at h tf
  simp only[cond_true] at h
  split at h<;>try (cases h;done)
  rename_i vs FY
  cases h
  simp only[execOp,heq,Instr.loadAt,hf _ _ hx,Instr.sureAddr,loadVar,ae,ah,kZ tf,if_true,cy tf]
  exact jA ⟨_,_,_,hs _ _ hb,FY⟩ hK
 |false=>
  rw[ha] at h tf
  simp only[cond_false] at h
  simp only[execOp,heq,Instr.loadAt,hf _ _ hx,Instr.sureAddr,loadVar,ae,ah,kZ tf,Bool.false_eq_true,if_false]
  exact wN ⟨_,_,_,hs _ _ hb,h⟩ hK
theorem avR{s:St}{v:Value}{m:Nat}(k:Nat)(heq:o.op= .load T x)(hx:bE n e x=some (.pointer (some ⟨b,off+k,none⟩)))(hb:cK s b off m l)(h:ldv P T l k=some v):Yields P n e o s v:=by
 unfold ldv at h
 split at h<;>try (cases h;done)
 rename_i ti dS
 obtain⟨bL,tf⟩:=ay dS
 intro s' hs f hf K E hK
 cases ha:ti.agg with
 |true=>
  rw[ha] at h tf
  simp only[cond_true] at h
  split at h<;>try (cases h;done)
  rename_i vs FY
  cases h
  simp only[execOp,heq,Instr.loadAt,hf _ _ hx,Instr.sureAddr,loadVar,ae,ah,kZ tf,if_true,cy tf]
  exact jA ((hb.ext hs).part k ti.size FY) hK
 |false=>
  rw[ha] at h tf
  simp only[cond_false] at h
  simp only[execOp,heq,Instr.loadAt,hf _ _ hx,Instr.sureAddr,loadVar,ae,ah,kZ tf,Bool.false_eq_true,if_false]
  exact wN ((hb.ext hs).cell k v (by rw[←s9];exact h)) hK
structure Cx where
 P:Program
 C:Class
 hC:∀main T,C main T→Closed P main T
 hm:P.follows .mixedOrders=true
 fn:FuncId
 aD:Option Nat
 n:Nat
 D:List Deferred
 ro:Nat→Option Obj
 Q:Post
def Cx.at(X:Cx)(ro:Nat→Option Obj):Cx:={X with ro:=ro}
inductive KI where
 |seq (b:Code)
 |block (id:Nat)
 |next (K:Act→St→Prop)
inductive Sg where
 |b (i:Nat) (o:Obj)
 |l (L:Cells)
def den:List Sg→Cells
 | []=>[]
 | [.l L]=>L
 | .b i o::r=>(i,o)::den r
 | .l L::r=>L++den r
theorem jq(i:Nat)(o:Obj)(r:List Sg):den (.b i o::r)=(i,o)::den r:=by cases r<;>rfl
theorem gZ(L:Cells)(r:List Sg):den (.l L::r)=L++den r:=by cases r<;>simp[den]
inductive Pos where
 |ops (ops:Array Oper) (todo:List Nat) (k:List KI)
 |code (c:Code) (k:List KI)
 |nxt (K:Act→St→Prop)
 |I1 (ops:Array Oper) (base:Env) (Pl Sl:List (Nat×Value)) (k:List KI)
 |fin (e:Exit)
structure Kn where
 c:Cells
 nd:List (Nat×Cells)
variable {kn:Kn}
structure JS where
 pos:Pos
 env:Env
 rw:List Sg
 kn:Kn
def KQ(X:Cx):List KI→Post
 | []=>X.Q
 | .seq b::k=>mD (fun a s=>Wp X.C X.fn X.aD b (KQ X k) a s) (KQ X k)
 | .block id::k=>rC id (KQ X k)
 | .next K::k=>mD K (KQ X k)
def E3:Op→Bool
 | .load .. =>false
 | .lookup .. =>false
 | .call ⟨.value _,_,_⟩=>false
 | .call ⟨.invoke ..,_,_⟩=>false
 |_=>true
def xA(ops:Array Oper)(n:Nat)(e:Env):Option (Nat×Bool)→Option Bool
 |none=>some true
 |some (j,want)=>match aT ops j with
  |some d=>match bE n e (.tmp d) with
   |some (.bool true)=>some want
   |some (.bool false)=>some (!want)
   |some (.tuple ⟨[]⟩)=>some false
   |_=>none
  |none=>none
def tN(ops:Array Oper)(n:Nat)(base:Env)(Pl:List (Nat×Value))(j:Nat):Bool:=match ops[j]? with
 |some p=>E3 p.op||(match xA ops n (cE ops base j Pl) p.guard with
  |some false=>true
  |_=>false)
 |none=>false
def PF(X:Cx)(nd:List (Nat×Cells))(ops:Array Oper)(base:Env)(Pl Sl:List (Nat×Value)):Prop:=
 (∀j u,(j,u)∈Sl→tN ops X.n base Pl j=true→∀s,fp X.C X.fn X.aD ops X.n X.D j u (cE ops base j Pl) s)∧
 ∀j u B,(j,u)∈Sl→(j,B)∈nd→∀s,Ext ⟨X.ro,[]⟩ s→(∀x∈B,s.has x.1 x.2)→fp X.C X.fn X.aD ops X.n X.D j u (cE ops base j Pl) s
def ndK:List (Nat×Cells)→List Nat
 | []=>[]
 | (i,_)::l=>i::ndK l
theorem Oo:∀ {l:List (Nat×Cells)},(i,B)∈l→i∈ndK l
 | (j,C)::l,h=>by
  simp only[ndK]
  rcases List.mem_cons.1 h with h|h
  ·cases h;exact List.mem_cons_self
  exact List.mem_cons_of_mem _ (Oo h)
def JP(X:Cx)(kn:Kn)(e:Env)(w:List Sg):Pos→Prop
 | .ops ops todo k=>ai X.C X.fn X.aD ops todo (KQ X k) (A X.n e X.D) ⟨X.ro,den w⟩
 | .code c k=>Wp X.C X.fn X.aD c (KQ X k) (A X.n e X.D) ⟨X.ro,den w⟩
 | .nxt K=>K (A X.n e X.D) ⟨X.ro,den w⟩
 | .I1 ops base Pl Sl k=>PF X kn.nd ops base Pl Sl→ux X.C X.fn X.aD ops X.n X.D base Pl Sl (KQ X k) ⟨X.ro,den w⟩
 | .fin e'=>X.Q e' (A X.n e X.D) ⟨X.ro,den w⟩
def J(X:Cx):Option JS→Prop
 |none=>False
 |some s=>Knows X.ro s.kn.c→JP X s.kn s.env s.rw s.pos
def Rt:List KI→Pos
 | []=> .fin .normal
 | .seq b::k=> .code b k
 | .block _::k=>Rt k
 | .next K::_=> .nxt K
theorem uU{X:Cx}{w:List Sg}:∀ {k:List KI},JP X kn e w (Rt k)→KQ X k .normal (A X.n e X.D) ⟨X.ro,den w⟩
 | [],h=>h
 | .seq _::_,h=>h
 | .block _::k,h=>uU (k:=k) h
 | .next _::_,h=>h
def Ci(id:Nat):List KI→Option Pos
 | []=>some (.fin (.exit id))
 | .seq _::k=>Ci id k
 | .block i::k=>bif Nat.beq id i then some (Rt k) else Ci id k
 | .next _::k=>Ci id k
theorem xG{X:Cx}{w:List Sg}{p:Pos}:∀ {k:List KI},Ci id k=some p→JP X kn e w p→KQ X k (.exit id) (A X.n e X.D) ⟨X.ro,den w⟩
 | [],h,hj=>by simp only[Ci,Option.some.injEq] at h;subst h;exact hj
 | .seq _::k,h,hj=>xG (k:=k) h hj
 | .next _::k,h,hj=>xG (k:=k) h hj
 | .block i::k,h,hj=>by
  simp only[Ci] at h
  cases hb:Nat.beq id i with
  |true=>
   rw[hb] at h;simp only[cond_true,Option.some.injEq] at h;subst h
   have:=Nat.eq_of_beq_eq_true hb;subst this
   exact Ft (uU hj)
  |false=>
   rw[hb] at h;simp only[cond_false] at h
   exact Fs hb (xG (k:=k) h hj)
theorem Bw{X:Cx}{a:Act}{s:St}(h:X.Q .ret a s):∀(k:List KI),KQ X k .ret a s
 | []=>h
 | .seq _::k=>Bw h k
 | .next _::k=>Bw h k
 | .block _::k=>Bw h k
def aC6:Op→Bool
 | .move _| .assign _| .pick .. | .makeFunc .. | .extract .. | .nilCheck _| .fieldAddr .. | .makeInterface .. | .indexAddr .. | .index .. | .field .. | .binOp .. | .unOp .. | .convert .. | .build .. | .load .. | .lookup .. | .slice .. =>true
 | .call ⟨.builtin .len,_,_⟩| .call ⟨.builtin .cap,_,_⟩| .call ⟨.builtin .min,_,_⟩| .call ⟨.builtin .max,_,_⟩=>true
 |_=>false
def aC7(ops:Array Oper)(i:Nat):Bool:=match ops[i]? with
 |some o=>aC6 o.op
 |none=>false
def enabled(ops:Array Oper)(ks:List Nat)(i:Nat):Bool:= !bA i ks&&fZ (bG ops i) ks
def aau(f:Nat→Bool):Nat→Nat→Option Nat
 |0,_=>none
 |k+1,i=>bif f i then some i else aau f k (i+1)
def azQ(ops:Array Oper)(i:Nat):Bool:=match ops[i]? with
 |some ⟨_,.call ⟨.value _,_,_⟩,_,_,_,_⟩=>true
 |_=>false
def aqg(ops:Array Oper)(ks:List Nat):Option Nat:=
 match aau (fun i=>enabled ops ks i&&aC7 ops i) ops.size 0 with
 |some i=>some i
 |none=>match aau (fun i=>enabled ops ks i&&azQ ops i) ops.size 0 with
  |some i=>some i
  |none=>aau (enabled ops ks) ops.size 0
def qX(n:Nat):JS→Option (Bool×Oper×Env)
 | ⟨.ops ops (i::_) _,e,_,_⟩=>match ops[i]? with
  |some o=>match xA ops n e o.guard with
   |some g=>some (g,o,e)
   |none=>none
  |none=>none
 | ⟨.I1 ops base Pl _ _,_,_,_⟩=>match aqg ops (au Pl) with
  |some i=>match ops[i]? with
   |some o=>match xA ops n (cE ops base i Pl) o.guard with
    |some g=>some (g,o,cE ops base i Pl)
    |none=>none
   |none=>none
  |none=>none
 |_=>none
def Hw(v:Value):JS→Option JS
 | ⟨.ops ops (i::todo) k,e,w,kn⟩=>match ops[i]? with
  |some o=>some ⟨.ops ops todo k,upd o.dst v e,w,kn⟩
  |none=>none
 | ⟨.I1 ops base Pl Sl k,e,w,kn⟩=>match aqg ops (au Pl) with
  |some i=>bif !bA i (au Pl)&&(fZ (bG ops i) (au Pl)&&(pQ ops (au Pl)&&(fZ (au Sl) (au Pl)&& !bA i (ndK kn.nd)))) then some ⟨.I1 ops base ((i,v)::Pl) ((i,v)::Sl) k,e,w,kn⟩ else none
  |none=>none
 |_=>none
theorem oe{ops:Array Oper}{g:Option (Nat×Bool)}(h:xA ops n e g=some true)(rest:Env):aB ops n (e++rest) g=true:=by
 unfold xA at h
 split at h
 ·rfl
 rename_i j want
 split at h<;>try (cases h;done)
 rename_i d hd
 have hd:(ops[j]?).bind (·.dst)=some d:=hd
 split at h<;>try (cases h;done)
 ·rename_i hb;simp only[Option.some.injEq] at h;subst h
  exact uG hd (bB hb) rfl
 rename_i hb;simp only[Option.some.injEq,Bool.not_eq_true'] at h;subst h
 exact uG hd (bB hb) rfl
section
variable {X:Cx}
theorem AR{ops:Array Oper}{Q:Post}{s:St}(ho:ops[i]?=some o) (h:xA ops X.n e o.guard=some false) (rest:Env) (hk:ai X.C X.fn X.aD ops todo Q (A X.n (upd o.dst undef (e++rest)) X.D) s):ai X.C X.fn X.aD ops (i::todo) Q (A X.n (e++rest) X.D) s:=by
 unfold xA at h
 split at h
 ·cases h
 rename_i j want hg
 split at h<;>try (cases h;done)
 rename_i d hd
 have hd:(ops[j]?).bind (·.dst)=some d:=hd
 split at h<;>try (cases h;done)
 ·rename_i hb;simp only[Option.some.injEq] at h;subst h
  exact u1 X.hC ho hg hd (bB hb) rfl hk
 ·rename_i hb;simp only[Option.some.injEq,Bool.not_eq_false'] at h;subst h
  exact u1 X.hC ho hg hd (bB hb) rfl hk
 rename_i hb
 rcases o with ⟨dst,op,ty,pos,dt,g⟩
 dsimp only at hg;subst hg
 exact anV X.hC ho hd (bB hb) hk
def JA(X:Cx)(e:Env)(o:Oper)(s:St)(v:Value):Prop:=
 ∀(ops:Array Oper) (i:Nat),ops[i]?=some o→∀rest,aB ops X.n (e++rest) o.guard=true→∀s',Ext s s'→∀todo Q,ai X.C X.fn X.aD ops todo Q (A X.n (upd o.dst v (e++rest)) X.D) s'→ai X.C X.fn X.aD ops (i::todo) Q (A X.n (e++rest) X.D) s'
theorem jyS{s s':JS}{g:Bool}{v:Value}(hh:qX X.n s=some (g,o,e))(hp:Hw v s=some s')
 (hv:match g with|true=>(Knows X.ro s.kn.c→JA X e o ⟨X.ro,den s.rw⟩ v)∧(E3 o.op=true→∀s,JA X e o s v)|false=>v=undef)(hj:J X (some s')):J X (some s):=by
 intro cv
 rcases s with ⟨p,e0,w,kn⟩
 cases p with
 |ops ops todo k=>
  cases todo with
  |nil=>cases hh
  |cons i todo=>
   simp only[qX] at hh
   split at hh<;>try (cases hh;done)
   rename_i o1 ho
   split at hh<;>try (cases hh;done)
   rename_i g1 hg
   cases hh
   simp only[Hw,ho,Option.some.injEq] at hp;subst hp
   have hk:ai X.C X.fn X.aD ops todo (KQ X k) (A X.n (upd o.dst v e) X.D) ⟨X.ro,den w⟩:=hj cv
   show ai X.C X.fn X.aD ops (i::todo) (KQ X k) (A X.n e X.D) ⟨X.ro,den w⟩
   cases g with
   |true=>
    have:=hv.1 cv ops i ho [] (oe hg []) _ (Ext.refl _) todo (KQ X k)
    rw[List.append_nil] at this
    exact this hk
   |false=>
    dsimp only at hv;subst hv
    have:=AR (Q:=KQ X k) (s:=⟨X.ro,den w⟩) (todo:=todo) ho hg []
    rw[List.append_nil] at this
    exact this hk
 |I1 ops base Pl Sl k=>
  simp only[qX] at hh
  split at hh<;>try (cases hh;done)
  rename_i i hi
  split at hh<;>try (cases hh;done)
  rename_i o1 ho
  split at hh<;>try (cases hh;done)
  rename_i g1 hg
  cases hh
  simp only[Hw,hi] at hp
  cases hc:(!bA i (au Pl)&&(fZ (bG ops i) (au Pl)&&(pQ ops (au Pl)&&(fZ (au Sl) (au Pl)&& !bA i (ndK kn.nd))))) with
  |false=>rw[hc] at hp;cases hp
  |true=>
   rw[hc] at hp;simp only[cond_true,Option.some.injEq] at hp;subst hp
   simp only[Bool.and_eq_true,Bool.not_eq_true'] at hc
   have F5:aT ops i=o.dst:=by simp only[aT,ho,Option.bind_some]
   intro hpf
   have rK:∀j,j∈au Sl→i∉bG ops j:=fun j hj hd=>by
    have h1:=bR.1 hc.2.2.2.1 j hj
    have h2:=bR.1 (List.all_eq_true.1 hc.2.2.1 j h1) i hd
    rw[aL.2 h2] at hc;exact absurd hc.1 (by simp)
   refine Jv i hc.1 hc.2.1 hc.2.2.1 hc.2.2.2.1 ?_ (hj cv ⟨fun j u JR hp s0=>?_,fun j u B JR hB s0 H9 wA=>?_⟩)
   ·intro s1 hx rest todo Q hk
    rw[F5] at hk
    cases g with
    |true=>exact hv.1 cv ops _ ho rest (oe hg rest) _ hx _ _ hk
    |false=>dsimp only at hv;subst hv;exact AR ho hg rest hk
   ·have hii:i∉bG ops i:=fun hd=>by
     have h2:=bR.1 hc.2.1 i hd
     rw[aL.2 h2] at hc;exact absurd hc.1 (by simp)
    rcases List.mem_cons.1 JR with h1|h1
    ·obtain⟨A9,rfl⟩:=Prod.mk.inj h1
     subst A9
     rw[da hii]
     intro s1 hx rest todo Q hk
     rw[F5] at hk
     cases g with
     |true=>
      have hpk:E3 o.op=true:=by
       simp only[tN,ho,da hii,hg,Bool.or_false] at hp
       exact hp
      exact hv.2 hpk s0 ops _ ho rest (oe hg rest) _ hx _ _ hk
     |false=>dsimp only at hv;subst hv;exact AR ho hg rest hk
    have Qh:j∈au Sl:=aR.2 ⟨u,h1⟩
    rw[da (rK j Qh)]
    exact hpf.1 j u h1 (by simp only[tN,da (rK j Qh)] at hp;exact hp) s0
   rcases List.mem_cons.1 JR with h1|h1
   ·obtain⟨A9,rfl⟩:=Prod.mk.inj h1
    subst A9
    have:=Oo hB
    rw[aL.2 this] at hc;exact absurd hc.2.2.2.2 (by simp)
   rw[da (rK j (aR.2 ⟨u,h1⟩))]
   exact hpf.2 j u B h1 hB s0 H9 wA
 |_=>cases hh
def anK(B:Cells)(v:Value):JS→Option JS
 | ⟨.ops ops (i::todo) k,e,w,kn⟩=>match ops[i]? with
  |some o=>some ⟨.ops ops todo k,upd o.dst v e,w,kn⟩
  |none=>none
 | ⟨.I1 ops base Pl Sl k,e,w,kn⟩=>match aqg ops (au Pl) with
  |some i=>bif !bA i (au Pl)&&(fZ (bG ops i) (au Pl)&&(pQ ops (au Pl)&&(fZ (au Sl) (au Pl)&& !bA i (ndK kn.nd)))) then some ⟨.I1 ops base ((i,v)::Pl) ((i,v)::Sl) k,e,w,⟨kn.c,(i,B)::kn.nd⟩⟩ else none
  |none=>none
 |_=>none
theorem jyN{s s':JS}{v:Value}(hh:qX X.n s=some (true,o,e))(hp:anK B v s=some s')(hB:∀x∈B,(⟨X.ro,den s.rw⟩:St).has x.1 x.2)(hnp:E3 o.op=false)
 (hv:∀s0,Ext ⟨X.ro,[]⟩ s0→(∀x∈B,s0.has x.1 x.2)→JA X e o s0 v)(hj:J X (some s')):J X (some s):=by
 intro cv
 rcases s with ⟨p,e0,w,kn⟩
 cases p with
 |ops ops todo k=>
  have:Hw v ⟨.ops ops todo k,e0,w,kn⟩=some s':=by
   cases todo with
   |nil=>cases hh
   |cons i todo=>exact hp
  exact jyS hh this ⟨fun _=>hv _ Po hB,fun h=>by rw[hnp] at h;cases h⟩ hj cv
 |I1 ops base Pl Sl k=>
  simp only[qX] at hh
  split at hh<;>try (cases hh;done)
  rename_i i hi
  split at hh<;>try (cases hh;done)
  rename_i o1 ho
  split at hh<;>try (cases hh;done)
  rename_i g1 hg
  cases hh
  simp only[anK,hi] at hp
  cases hc:(!bA i (au Pl)&&(fZ (bG ops i) (au Pl)&&(pQ ops (au Pl)&&(fZ (au Sl) (au Pl)&& !bA i (ndK kn.nd))))) with
  |false=>rw[hc] at hp;cases hp
  |true=>
   rw[hc] at hp;simp only[cond_true,Option.some.injEq] at hp;subst hp
   simp only[Bool.and_eq_true,Bool.not_eq_true'] at hc
   have F5:aT ops i=o.dst:=by simp only[aT,ho,Option.bind_some]
   intro hpf
   have rK:∀j,j∈au Sl→i∉bG ops j:=fun j hj hd=>by
    have h1:=bR.1 hc.2.2.2.1 j hj
    have h2:=bR.1 (List.all_eq_true.1 hc.2.2.1 j h1) i hd
    rw[aL.2 h2] at hc;exact absurd hc.1 (by simp)
   have hii:i∉bG ops i:=fun hd=>by
    have h2:=bR.1 hc.2.1 i hd
    rw[aL.2 h2] at hc;exact absurd hc.1 (by simp)
   have cg:∀s0,Ext ⟨X.ro,[]⟩ s0→(∀x∈B,s0.has x.1 x.2)→fp X.C X.fn X.aD ops X.n X.D i v (cE ops base i Pl) s0:=by
    intro s0 H9 wA s1 hx rest todo Q hk
    rw[F5] at hk
    exact hv s0 H9 wA ops _ ho rest (oe hg rest) _ hx _ _ hk
   have aVc:tN ops X.n base ((i,v)::Pl) i=false:=by
    simp only[tN,ho,hnp,da hii,hg,Bool.or_false]
   refine Jv i hc.1 hc.2.1 hc.2.2.1 hc.2.2.2.1 (cg _ Po hB) (hj cv ⟨fun j u JR hp s0=>?_,fun j u B' JR hB' s0 H9 wA=>?_⟩)
   ·rcases List.mem_cons.1 JR with h1|h1
    ·obtain⟨A9,rfl⟩:=Prod.mk.inj h1
     subst A9
     rw[aVc] at hp;cases hp
    have Qh:j∈au Sl:=aR.2 ⟨u,h1⟩
    rw[da (rK j Qh)]
    exact hpf.1 j u h1 (by simp only[tN,da (rK j Qh)] at hp;exact hp) s0
   rcases List.mem_cons.1 JR with h1|h1
   ·obtain⟨A9,rfl⟩:=Prod.mk.inj h1
    subst A9
    rw[da hii]
    rcases List.mem_cons.1 hB' with h2|h2
    ·cases h2;exact cg s0 H9 wA
    have:=Oo h2
    rw[aL.2 this] at hc;exact absurd hc.2.2.2.2 (by simp)
   have Qh:j∈au Sl:=aR.2 ⟨u,h1⟩
   rw[da (rK j Qh)]
   rcases List.mem_cons.1 hB' with h2|h2
   ·obtain⟨A9,rfl⟩:=Prod.mk.inj h2
    subst A9
    have h3:=bR.1 hc.2.2.2.1 _ Qh
    rw[aL.2 h3] at hc;exact absurd hc.1 (by simp)
   exact hpf.2 j u B' h1 h2 s0 H9 wA
 |_=>cases hh
theorem jy{s s':JS}{g:Bool}{v:Value}(hh:qX X.n s=some (g,o,e))(hp:Hw v s=some s')
 (hv:match g with|true=>eI o.op=true∧(Knows X.ro s.kn.c→Yields X.P X.n e o ⟨X.ro,den s.rw⟩ v)∧(E3 o.op=true→∀s,Yields X.P X.n e o s v)|false=>v=undef)(hj:J X (some s')):J X (some s):=by
 refine jyS hh hp ?_ hj
 cases g with
 |true=>exact⟨fun cv ops i ho rest hw s' hx todo Q hk=>mv X.hC ho rest hw hv.1 (hv.2.1 cv) hx hk,fun hp s ops i ho rest hw s' hx todo Q hk=>mv X.hC ho rest hw hv.1 (hv.2.2 hp s) hx hk⟩
 |false=>exact hv
end
def Au:List Sg→Nat→Option Sg
 | [],_=>none
 |x::_,0=>some x
 |_::l,i+1=>Au l i
def Vk:List Sg→Nat→Sg→List Sg
 | [],_,_=>[]
 |_::l,0,y=>y::l
 |x::l,i+1,y=>x::Vk l i y
def an2:Cells→Nat→Option (Nat×Obj)
 | [],_=>none
 |x::_,0=>some x
 |_::l,i+1=>an2 l i
def Cr(w:List Sg)(kn:Cells)(h:Nat):Option (Nat×List Value):=
 match Au w h with
 |some (.b b (.cells ⟨l⟩ _ _))=>some (b,l)
 |some _=>none
 |none=>match an2 kn (h-64) with
  |some (b,.cells ⟨l⟩ _ _)=>some (b,l)
  |_=>none
def ae5(P:Program)(n:Nat)(e:Env)(w:List Sg)(h:Nat):Op→Option (List Sg×Nat×Nat)
 | .store T x y=>match bE n e x with
  |some (.pointer (some ⟨b,off,none⟩))=>match bE n e y with
   |some v=>match Au w h with
    |some (.b b' (.cells ⟨c⟩ t (0,0)))=>match a8 P T with
     |some ti=>bif Nat.beq (ep v).length ti.size&&(Nat.ble (off+(ep v).length) c.length&&(ep v).all single) then some (Vk w h (.b b' (.cells ⟨dK c off (ep v)⟩ t (0,0))),b,b') else none
     |none=>none
    |_=>none
   |none=>none
  |_=>none
 |_=>none
abbrev ati:=Option (JS×List Nat×List (Nat×Nat))
def azN(n:Nat)(e:Env)(k:List KI):Code→Option Pos
 | .skip=>some (Rt k)
 | .seq a b=>some (.code a (.seq b::k))
 | .block id c=>some (.code c (.block id::k))
 | .region _ ops d=>bif d then (bif AX ops then some (.I1 ops e [] [] k) else none) else some (.ops ops (List.range ops.size) k)
 | .exit id=>Ci id k
 | .ret=>some (.fin .ret)
 | .scope c=>some (.code c k)
 | .label _=>some (Rt k)
 | .cond c a b=>match bE n e c with
  |some (.bool true)=>some (.code a k)
  |some (.bool false)=>some (.code b k)
  |_=>none
 |_=>none
def akS(ops:Array Oper)(Pl:List (Nat×Value)):Bool:=fY ops&&(nodupB (au Pl)&&(fZ (List.range ops.size) (au Pl)&&fZ (au Pl) (List.range ops.size)))
def opJ(P:Program)(n:Nat)(hs:List Nat)(s:JS):ati:=
 match qX n s with
 |some (g,o,e)=>bif g then (match o.op with
  | .store .. =>match s,hs with
   | ⟨.ops ops (_::todo) k,_,w,kn⟩,h::hs=>match ae5 P n e w h o.op with
    |some (w',b,b')=>some (⟨.ops ops todo k,upd o.dst undef e,w',kn⟩,hs,[(b,b')])
    |none=>none
   |_,_=>none
  | .load T x=>match hs with
   |h::hs=>match bE n e x with
    |some (.pointer (some ⟨b,off,none⟩))=>match Cr s.rw s.kn.c h with
     |some (b',l)=>match ldv P T l off with
      |some v=>match Hw v s with
       |some s'=>some (s',hs,[(b',b)])
       |none=>none
      |none=>none
     |none=>none
    |_=>none
   | []=>none
  |_=>bif eI o.op then (match aeA P n e o with
   |some v=>match Hw v s with
    |some s'=>some (s',hs,[])
    |none=>none
   |none=>none) else none) else (match Hw undef s with
  |some s'=>some (s',hs,[])
  |none=>none)
 |none=>none
def stepJ(P:Program)(n:Nat)(hs:List Nat)(s:JS):ati:=
 match s.pos with
 | .ops _ [] k=>some (⟨Rt k,s.env,s.rw,s.kn⟩,hs,[])
 | .code c k=>match azN n s.env k c with
  |some p=>some (⟨p,s.env,s.rw,⟨s.kn.c,[]⟩⟩,hs,[])
  |none=>none
 | .I1 ops base Pl _ k=>match aqg ops (au Pl) with
  |none=>bif akS ops Pl then some (⟨Rt k,jO ops base Pl,s.rw,s.kn⟩,hs,[]) else none
  |some _=>opJ P n hs s
 |_=>opJ P n hs s
section
variable {X:Cx}
theorem Bu:∀ {w:List Sg} {h b:Nat} {o:Obj},Au w h=some (.b b o)→∃L R,den w=L++(b,o)::R∧∀o',den (Vk w h (.b b o'))=L++(b,o')::R
 | [],_,_,_,h=>by cases h
 |x::w,0,b,o,h=>by
  simp only[Au,Option.some.injEq] at h;subst h
  exact⟨[],den w,by simp[jq],fun o'=>by simp[Vk,jq]⟩
 |x::w,i+1,b,o,h=>by
  obtain⟨L,R,h1,h2⟩:=Bu (w:=w) (h:=i) h
  cases x with
  |b i' o1=>exact⟨(i',o1)::L,R,by simp[jq,h1],fun o'=>by simp[Vk,jq,h2]⟩
  |l L1=>exact⟨L1++L,R,by simp[gZ,h1],fun o'=>by simp[Vk,gZ,h2]⟩
theorem RV:∀ {l:Cells} {i:Nat} {x:Nat×Obj},an2 l i=some x→x∈l
 | [],_,_,h=>by cases h
 |y::l,0,x,h=>by simp only[an2,Option.some.injEq] at h;subst h;exact List.mem_cons_self
 |y::l,i+1,x,h=>List.mem_cons_of_mem _ (RV (l:=l) h)
theorem AY{w:List Sg}{kn:Cells}{h:Nat}(hk:Knows X.ro kn)(hc:Cr w kn h=some (b,l)):∃t fz,(⟨X.ro,den w⟩:St).has b (.cells ⟨l⟩ t fz):=by
 unfold Cr at hc
 split at hc
 ·rename_i hn
  cases hc
  obtain⟨L,R,h1,_⟩:=Bu hn
  exact⟨_,_,.inr (by show (_,_)∈den w;rw[h1];exact fN)⟩
 ·cases hc
 split at hc<;>try (cases hc;done)
 rename_i hn
 cases hc
 exact⟨_,_,.inl (hk _ (RV hn))⟩
theorem aqi{w:List Sg}{k:List KI}{c:Code}{p:Pos}(h:azN X.n e k c=some p)(hj:JP X ⟨kn.c,[]⟩ e w p):JP X kn e w (.code c k):=by
 unfold azN at h
 split at h
 ·cases h;exact wp_skip X.hC (uU hj)
 ·cases h;exact wp_seq X.hC hj
 ·cases h;exact wp_block X.hC hj
 ·rename_i id ops d
  cases d with
  |true=>
   simp only[cond_true] at h
   cases hd:AX ops with
   |false=>rw[hd] at h;cases h
   |true=>
    rw[hd] at h;simp only[cond_true,Option.some.injEq] at h;subst h
    exact adu X.hC X.hm hd (hj ⟨fun _ _ h=>(List.not_mem_nil h).elim,fun _ _ _ h=>(List.not_mem_nil h).elim⟩)
  |false=>simp only[cond_false,Option.some.injEq] at h;subst h;exact wp_region X.hC hj
 ·exact wp_exit X.hC (xG h hj)
 ·cases h;exact wp_ret (Bw hj k)
 ·cases h;exact Qw X.hC hj
 ·cases h;exact wp_label X.hC (uU hj)
 ·split at h<;>try (cases h;done)
  ·rename_i hc;cases h;exact Yg X.hC hc rfl hj
  rename_i hc;cases h;exact Yh X.hC hc rfl hj
 cases h
theorem agd{s s':JS}{q:List (Nat×Nat)}(h:opJ X.P X.n hs s=some (s',nH,q))(hq:∀p∈q,p.1=p.2)(hj:J X (some s')):J X (some s):=by
 unfold opJ at h
 split at h<;>try (cases h;done)
 rename_i g o e hh
 cases g with
 |false=>
  simp only[cond_false] at h
  split at h<;>try (cases h;done)
  rename_i s1 hp
  cases h
  exact jy hh hp rfl hj
 |true=>
  simp only[cond_true] at h
  split at h
  ·rename_i T x y aC
   split at h<;>try (cases h;done)
   rename_i ops i todo k e1 w kn h0 hsx
   split at h<;>try (cases h;done)
   rename_i w' b b' cg
   cases h
   have JX:b=b':=hq _ List.mem_cons_self
   subst JX
   simp only[qX] at hh
   split at hh<;>try (cases hh;done)
   rename_i o1 ho
   split at hh<;>try (cases hh;done)
   rename_i g1 hg
   simp only[Option.some.injEq,Prod.mk.injEq] at hh
   obtain⟨rfl,rfl,rfl⟩:=hh
   intro cv
   have hj:=hj cv
   rw[aC] at cg
   simp only[ae5] at cg
   split at cg<;>try (cases cg;done)
   rename_i b0 off hx
   split at cg<;>try (cases cg;done)
   rename_i v hy
   split at cg<;>try (cases cg;done)
   rename_i b1 c t hn
   split at cg<;>try (cases cg;done)
   rename_i ti dS
   cases hc:(Nat.beq (ep v).length ti.size&&(Nat.ble (off+(ep v).length) c.length&&(ep v).all single)) with
   |false=>rw[hc] at cg;cases cg
   |true=>
    rw[hc] at cg
    simp only[cond_true,Option.some.injEq,Prod.mk.injEq] at cg
    obtain⟨rfl,rfl,rfl⟩:=cg
    simp only[Bool.and_eq_true,Nat.ble_eq] at hc
    obtain⟨bL,tf⟩:=ay dS
    obtain⟨L,R,h1,h2⟩:=Bu hn
    rcases o1 with ⟨dst,op,ty,pos,dt,gd⟩
    dsimp only at aC;subst aC
    have hw:=oe hg []
    rw[List.append_nil] at hw
    refine Gz (v:=v) (l:=ep v) (L:=L) (R:=R) (c:=c) (e:=t) X.hC ho hw tf hx hy (by rw[mP]) (Nat.eq_of_beq_eq_true hc.1) (List.all_eq_true.1 hc.2.2) h1 hc.2.1 ?_
    have hj:ai X.C X.fn X.aD ops todo (KQ X k) _ ⟨X.ro,den _⟩:=hj
    rw[h2] at hj
    exact hj
  ·rename_i T x aC
   split at h<;>try (cases h;done)
   rename_i h0 cu
   split at h<;>try (cases h;done)
   rename_i b off hx
   split at h<;>try (cases h;done)
   rename_i b' l hc
   split at h<;>try (cases h;done)
   rename_i v hv
   split at h<;>try (cases h;done)
   rename_i s1 hp
   cases h
   have JX:b'=b:=hq _ List.mem_cons_self
   subst JX
   refine jy hh hp ⟨by rw[aC];rfl,fun cv=>?_,fun hk=>by rw[aC] at hk;cases hk⟩ hj
   obtain⟨t,fz,hb⟩:=AY cv hc
   exact ag1 aC hx hb hv
  cases hn:eI o.op with
  |false=>rw[hn] at h;cases h
  |true=>
   rw[hn] at h;simp only[cond_true] at h
   split at h<;>try (cases h;done)
   rename_i v hv
   split at h<;>try (cases h;done)
   rename_i s1 hp
   cases h
   exact jy hh hp ⟨hn,fun _=>Bp hv,fun _ _=>Bp hv⟩ hj
theorem ae6{s s':JS}{q:List (Nat×Nat)}(h:stepJ X.P X.n hs s=some (s',nH,q))(hq:∀p∈q,p.1=p.2)(hj:J X (some s')):J X (some s):=by
 unfold stepJ at h
 split at h
 ·rename_i ops k hp
  cases h
  rcases s with ⟨p,e,w,kn⟩
  dsimp only at hp;subst hp
  exact fun cv=>uX X.hC (uU (hj cv))
 ·rename_i c k hp
  rcases s with ⟨p,e,w,kn⟩
  dsimp only at hp;subst hp
  split at h<;>try (cases h;done)
  rename_i p hc
  cases h
  exact fun cv=>aqi hc (hj cv)
 ·rename_i ops base Pl Sl k hp
  split at h
  ·cases hd:akS ops Pl with
   |false=>rw[hd] at h;cases h
   |true=>
    rw[hd] at h;simp only[cond_true,Option.some.injEq,Prod.mk.injEq] at h
    obtain⟨rfl,rfl,rfl⟩:=h
    rcases s with ⟨p,e,w,kn⟩
    dsimp only at hp;subst hp
    simp only[akS,Bool.and_eq_true] at hd
    exact fun cv _=>alr X.hC hd.1 hd.2.1 hd.2.2.1 hd.2.2.2 (uU (hj cv))
  exact agd h hq hj
 exact agd h hq hj
end
def adC(P:Program)(n:Nat):Nat→List Nat→JS→List (Nat×Nat)→Option (JS×List (Nat×Nat))
 |0,_,s,q=>some (s,q)
 |k+1,hs,s,q=>match stepJ P n hs s with
  |some (s',nH,q')=>adC P n k nH s' (q'++q)
  |none=>none
def adv(P:Program)(n k:Nat)(hs:List Nat):Option JS→Option (JS×List (Nat×Nat))
 |some s=>adC P n k hs s []
 |none=>none
def res:Option (JS×List (Nat×Nat))→Option JS
 |some (s,_)=>some s
 |none=>none
def Xl:List (Nat×Nat)→List Nat
 | []=>[]
 | (a,_)::l=>a::Xl l
def Vh:List (Nat×Nat)→List Nat
 | []=>[]
 | (_,b)::l=>b::Vh l
def lhs:Option (JS×List (Nat×Nat))→List Nat
 |some (_,q)=>Xl q
 |none=>[0]
def rhs:Option (JS×List (Nat×Nat))→List Nat
 |some (_,q)=>Vh q
 |none=>[1]
theorem mO:∀ {q:List (Nat×Nat)},Xl q=Vh q→∀p∈q,p.1=p.2
 | (a,b)::l,h,p,hp=>by
  simp only[Xl,Vh,List.cons.injEq] at h
  rcases List.mem_cons.1 hp with rfl|hp
  ·exact h.1
  exact mO h.2 p hp
theorem aa2{X:Cx}:∀ {k:Nat} {hs:List Nat} {s s':JS} {q q':List (Nat×Nat)},adC X.P X.n k hs s q=some (s',q')→(∀p∈q',p.1=p.2)→(J X (some s')→J X (some s))∧∀p∈q,p∈q'
 |0,_,_,_,_,_,h,_=>by simp only[adC,Option.some.injEq,Prod.mk.injEq] at h;obtain⟨rfl,rfl⟩:=h;exact⟨id,fun _ h=>h⟩
 |k+1,hs,s,s',q,q',h,hq=>by
  simp only[adC] at h
  split at h<;>try (cases h;done)
  rename_i s1 cu q1 cg
  obtain⟨h1,h2⟩:=aa2 h hq
  exact⟨fun hj=>ae6 cg (fun p hp=>hq p (h2 p (List.mem_append_left _ hp))) (h1 hj),fun p hp=>h2 p (List.mem_append_right _ hp)⟩
theorem jd{X:Cx}{o:Option JS}(k:Nat)(hs:List Nat)(h:J X (res (adv X.P X.n k hs o)))(he:lhs (adv X.P X.n k hs o)=rhs (adv X.P X.n k hs o):=by kernel_rfl):J X o:=by
 cases o with
 |none=>exact h
 |some s=>
  simp only[adv] at he h
  cases hc:adC X.P X.n k hs s [] with
  |none=>rw[hc] at h;exact h.elim
  |some x=>
   rcases x with ⟨s',q⟩
   rw[hc] at he h
   exact(aa2 hc (mO he)).1 h
attribute [irreducible] adv res lhs rhs
def dE(n:Nat)(f:Oper→Env→Option β):Option JS→Option β
 |some s=>match qX n s with
  |some (true,p,e)=>f p e
  |_=>none
 |none=>none
def j8(v:Value):Option JS→Option JS
 |some s=>Hw v s
 |none=>none
def Rv:List Nat→List Sg→Option (List Sg)
 | [],_=>some []
 |i::is,w=>match Au w i with
  |some x=>match Rv is w with
   |some r=>some (x::r)
   |none=>none
  |none=>none
def dL(is:List Nat):Nat→List Sg→List Sg
 |_,[]=>[]
 |k,x::w=>bif bA k is then dL is (k+1) w else x::dL is (k+1) w
def HG:List Nat→Bool
 | []=>true
 |i::is=> !bA i is&&HG is
def p7(is:List Nat):Option JS→Option (List Sg)
 |some s=>bif HG is then Rv is s.rw else none
 |none=>none
def dO(is:List Nat)(o:Option JS):Option Cells:=match p7 is o with
 |some w=>some (den w)
 |none=>none
def lkE:List Nat→Env→Option Env
 | [],_=>some []
 |t::ts,e=>match iD e t with
  |some v=>match lkE ts e with
   |some r=>some ((t,v)::r)
   |none=>none
  |none=>none
def lU:Env→List Nat
 | []=>[]
 | (t,_)::e=>t::lU e
def oR(ts:List Nat):Option JS→Option Env
 |some s=>lkE ts s.env
 |none=>none
theorem tU{ts:List Nat}{s:JS}:oR ts (some s)=lkE ts s.env:=rfl
theorem lf:∀ {ts:List Nat} {r:Env},lkE ts e=some r→lv e r
 | [],r,h=>by simp only[lkE,Option.some.injEq] at h;subst h;trivial
 |t::ts,r,h=>by
  simp only[lkE] at h
  split at h<;>try (cases h;done)
  rename_i v hv
  split at h<;>try (cases h;done)
  rename_i r' hr
  cases h
  exact⟨hv,lf hr⟩
theorem me:∀(a b:List Sg),den (a++b)=den a++den b
 | [],b=>rfl
 | .b i o::a,b=>by simp[jq,me a b]
 | .l L::a,b=>by simp[gZ,me a b]
theorem yA:∀(w:List Sg) (k:Nat),dL [] k w=w
 | [],_=>rfl
 |x::w,k=>by simp[dL,bA,yA w (k+1)]
theorem I2:∀ {w:List Sg} {i k:Nat} {is:List Nat} {x:Sg},Au w i=some x→bA (k+i) is=false→(den (dL is k w)).Perm (den [x]++den (dL ((k+i)::is) k w))
 | [],_,_,_,_,h,_=>by cases h
 |y::w,0,k,is,x,h,hi=>by
  simp only[Au,Option.some.injEq] at h;subst h
  have hz:∀(w:List Sg) (j:Nat),k <j→dL (k::is) j w=dL is j w:=by
   intro w
   induction w with
   |nil=>intro j _;rfl
   |cons z w ih=>
    intro j hj
    have:Nat.beq j k=false:=beq_false (by omega)
    simp only[dL,bA,this,Bool.false_or,ih (j+1) (by omega)]
  simp only[Nat.add_zero] at hi ⊢
  simp only[dL,hi,cond_false,bA,Nat.beq_refl,Bool.true_or,cond_true,hz w (k+1) (by omega)]
  cases y with
  |b i o=>rw[jq];exact .refl _
  |l L=>rw[gZ];exact .refl _
 |y::w,i+1,k,is,x,h,hi=>by
  have e:k+(i+1)=(k+1)+i:=by omega
  rw[e] at hi ⊢
  have hr:=I2 (w:=w) (k:=k+1) (is:=is) h hi
  have dQ:Nat.beq k ((k+1)+i)=false:=beq_false (by omega)
  simp only[dL,bA,dQ,Bool.false_or]
  cases bA k is with
  |true=>simp only[cond_true];exact hr
  |false=>
   simp only[cond_false]
   cases y with
   |b i' o=>rw[jq,jq];exact(hr.cons _).trans List.perm_middle.symm
   |l L=>
    rw[gZ,gZ]
    refine(hr.append_left L).trans ?_
    rw[←List.append_assoc,←List.append_assoc]
    exact List.Perm.append_right _ List.perm_append_comm
theorem yg{w:List Sg}:∀ {is:List Nat} {r:List Sg},Rv is w=some r→HG is=true→(den w).Perm (den r++den (dL is 0 w))
 | [],r,h,_=>by simp only[Rv,Option.some.injEq] at h;subst h;rw[yA];exact .refl _
 |i::is,r,h,ho=>by
  simp only[Rv] at h
  split at h<;>try (cases h;done)
  rename_i x hx
  split at h<;>try (cases h;done)
  rename_i r' hr
  cases h
  simp only[HG,Bool.and_eq_true,Bool.not_eq_true'] at ho
  have h1:=yg hr ho.2
  have h2:=I2 (k:=0) (is:=is) hx (by rw[Nat.zero_add];exact ho.1)
  rw[Nat.zero_add] at h2
  refine h1.trans ((List.Perm.append_left _ h2).trans ?_)
  have:den (x::r')=den [x]++den r':=by rw[←me];rfl
  rw[this,←List.append_assoc]
  exact List.Perm.append_right _ List.perm_append_comm
theorem mr{is:List Nat}{s:JS}{w:List Sg}(h:p7 is (some s)=some w):(den s.rw).Perm (den w++den (dL is 0 s.rw)):=by
 simp only[p7] at h
 cases ho:HG is with
 |false=>rw[ho] at h;cases h
 |true=>rw[ho] at h;exact yg h ho
theorem bO{is:List Nat}{s:JS}{L:Cells}(h:dO is (some s)=some L):(den s.rw).Perm (L++den (dL is 0 s.rw)):=by
 simp only[dO] at h
 split at h<;>try (cases h;done)
 rename_i w hw
 cases h
 exact mr hw
theorem TJ{X:Cx}{is:List Nat}{s:JS}{L:Cells}(h:dO is (some s)=some L):∀x∈L,(⟨X.ro,den s.rw⟩:St).has x.1 x.2:=fun x hx=> .inr ((bO h).mem_iff.2 (List.mem_append_left _ hx))
section
variable {X:Cx} {o:Option JS}
theorem tD{f:Oper→Env→Option β}{r:β}(h:dE n f o=some r):∃s p e,o=some s∧qX n s=some (true,p,e)∧f p e=some r:=by
 unfold dE at h
 split at h<;>try (cases h;done)
 rename_i s
 split at h<;>try (cases h;done)
 rename_i p e hh
 exact⟨s,p,e,rfl,hh,h⟩
theorem jG{v:Value}{f:Oper→Env→Option β}{r:β}(h:dE X.n f o=some r)(hy:∀s p e,o=some s→qX X.n s=some (true,p,e)→f p e=some r→eI p.op=true∧(Knows X.ro s.kn.c→Yields X.P X.n e p ⟨X.ro,den s.rw⟩ v)∧(E3 p.op=true→∀s,Yields X.P X.n e p s v))(hj:J X (j8 v o)):J X o:=by
 obtain⟨s,p,e,rfl,hh,hf⟩:=tD h
 obtain⟨h1,h2,h3⟩:=hy s p e rfl hh hf
 simp only[j8] at hj
 cases hp:Hw v s with
 |none=>rw[hp] at hj;exact hj.elim
 |some s'=>rw[hp] at hj;exact jy hh hp ⟨h1,h2,h3⟩ hj
theorem jGS{v:Value}{f:Oper→Env→Option β}{r:β}(h:dE X.n f o=some r)(hy:∀s p e,o=some s→f p e=some r→JA X e p ⟨X.ro,den s.rw⟩ v∧(E3 p.op=true→∀s,JA X e p s v))(hj:J X (j8 v o)):J X o:=by
 obtain⟨s,p,e,rfl,hh,hf⟩:=tD h
 simp only[j8] at hj
 cases hp:Hw v s with
 |none=>rw[hp] at hj;exact hj.elim
 |some s'=>rw[hp] at hj;exact jyS hh hp ⟨fun _=>(hy s p e rfl hf).1,(hy s p e rfl hf).2⟩ hj
def N8(B:Cells)(v:Value):Option JS→Option JS
 |some s=>anK B v s
 |none=>none
theorem jGN{v:Value}{f:Oper→Env→Option β}{r:β}(h:dE X.n f o=some r)(hB:dO ps o=some B)(hy:∀s p e,o=some s→qX X.n s=some (true,p,e)→f p e=some r→E3 p.op=false∧∀s0,Ext ⟨X.ro,[]⟩ s0→(∀x∈B,s0.has x.1 x.2)→JA X e p s0 v)(hj:J X (N8 B v o)):J X o:=by
 obtain⟨s,p,e,rfl,hh,hf⟩:=tD h
 obtain⟨h1,h2⟩:=hy s p e rfl hh hf
 simp only[N8] at hj
 cases hp:anK B v s with
 |none=>rw[hp] at hj;exact hj.elim
 |some s'=>rw[hp] at hj;exact jyN hh hp (TJ hB) h1 h2 hj
theorem Uo{v:Value}{f:Oper→Env→Option β}{r:β}(h:dE X.n f o=some r)(hy:∀s p e,o=some s→f p e=some r→∀s0,JA X e p s0 v)(hj:J X (j8 v o)):J X o:=
 jGS h (fun s p e ho hf=>⟨hy s p e ho hf _,fun _=>hy s p e ho hf⟩) hj
def am0(P:Program)(n:Nat)(p:Oper)(e:Env):Option Value:=bif eI p.op then aeA P n e p else none
theorem je(v:Value){w:Value}(hw:w=v)(hj:J X (j8 v o))(hv:dE X.n (am0 X.P X.n) o=some w:=by kernel_rfl):J X o:=by
 subst hw
 refine jG hv (fun s p e _ _ hf=>?_) hj
 unfold am0 at hf
 cases hn:eI p.op with
 |false=>rw[hn] at hf;cases hf
 |true=>rw[hn] at hf;exact⟨rfl,fun _=>Bp hf,fun _ _=>Bp hf⟩
theorem ja(r:Int)(h: -9223372036854775808≤r∧r≤9223372036854775807)(hj:J X (j8 (.int .i64 r) o))(hv:dE X.n (am0 X.P X.n) o=some (.int .i64 (IntKind.i64.wrap r)):=by kernel_rfl):J X o:=je _ (by rw[jY r h]) hj hv
def ldA(P:Program)(n k:Nat)(vs:List Value)(p:Oper)(e:Env):Option (Option Addr):=match p.op with
 | .load T x=>match ldv P T vs k with
  |some _=>match bE n e x with
   |some (.pointer a)=>some a
   |_=>none
  |none=>none
 |_=>none
def ldW(P:Program)(n k:Nat)(vs:List Value)(o:Option JS):Value:=(dE n (fun p _=>match p.op with
 | .load T _=>ldv P T vs k
 |_=>none) o).getD undef
theorem n7{m:Nat}(k:Nat)(ps:List Nat)(B:Cells)(hr:∀s:St,Ext ⟨X.ro,[]⟩ s→(∀x∈B,s.has x.1 x.2)→cK s b off m vs)(hj:J X (N8 B (ldW X.P X.n k vs o) o))(hv:dE X.n (ldA X.P X.n k vs) o=some (some ⟨b,off+k,none⟩):=by kernel_rfl)(hB:dO ps o=some B:=by kernel_rfl):J X o:=by
 refine jGN hv hB (fun s p e ho hh hf=>?_) hj
 subst ho
 unfold ldA at hf
 split at hf<;>try (cases hf;done)
 rename_i T x aC
 split at hf<;>try (cases hf;done)
 rename_i v hv2
 split at hf<;>try (cases hf;done)
 rename_i a hx
 simp only[Option.some.injEq] at hf;subst hf
 have hw:ldW X.P X.n k vs (some s)=v:=by simp only[ldW,dE,hh,aC,hv2,Option.getD_some]
 rw[hw]
 exact⟨by rw[aC];rfl,fun s0 H9 wA ops i ho rest hwt s' hs todo Q hk=>mv X.hC ho rest hwt (by rw[aC];rfl) (avR k aC hx (hr s0 H9 wA) hv2) hs hk⟩
theorem jl{m:Nat}(k:Nat)(hr:cK ⟨X.ro,[]⟩ b off m vs)(hj:J X (N8 [] (ldW X.P X.n k vs o) o))(hv:dE X.n (ldA X.P X.n k vs) o=some (some ⟨b,off+k,none⟩):=by kernel_rfl):J X o:=by
 have hB:dO [] o=some []:=by
  obtain⟨s,_,_,rfl,_⟩:=tD hv
  rfl
 exact n7 k [] [] (fun s hs _=>hr.ext hs) hj hv hB
def ixA(P:Program)(n:Nat)(p:Oper)(e:Env):Option (Value×Int×Nat):=match p.op with
 | .indexAddr T x y=>match a8 P T with
  |some ⟨.slice E,_,_,_⟩=>match a8 P E with
   |some te=>match bE n e x with
    |some v=>match bE n e y with
     |some (.int _ ix)=>some (v,ix,te.size)
     |_=>none
    |none=>none
   |none=>none
  |_=>none
 |_=>none
theorem jix{a:Option Addr}{len:Nat}(ix:Int)(cap sz:Nat)(ha:a=some ⟨b,off,none⟩)(hi:0≤ix∧ix <len)(hj:J X (j8 (.pointer (some ⟨b,off+ix.toNat*sz,none⟩)) o))(hv:dE X.n (ixA X.P X.n) o=some (.slice a len cap,ix,sz):=by kernel_rfl):J X o:=by
 refine jG hv (fun s p e ho hh hf=>?_) hj
 unfold ixA at hf
 split at hf<;>try (cases hf;done)
 rename_i T x y aC
 split at hf<;>try (cases hf;done)
 rename_i E _ _ _ dS
 split at hf<;>try (cases hf;done)
 rename_i te tX
 split at hf<;>try (cases hf;done)
 rename_i v hx
 split at hf<;>try (cases hf;done)
 rename_i ik ix' hy
 simp only[Option.some.injEq,Prod.mk.injEq] at hf
 obtain⟨rfl,rfl,rfl⟩:=hf
 subst ha
 obtain⟨bL,tf⟩:=ay dS
 obtain⟨Ct,rM⟩:=ay tX
 have key:∀s,Yields X.P X.n e p s (.pointer (some ⟨b,off+ix'.toNat*te.size,none⟩)):=by
  intro s s' nH f hf K E hK
  simp only[execOp,aC,Instr.indexAt,hf _ _ hx,hf _ _ hy,asIntOf,ae,ah,bk tf,hi,and_self,if_true,cy rM,dV]
  exact hK
 exact⟨by rw[aC];rfl,fun _=>key _,fun _=>key⟩
theorem fK{ps:List α}{x:α}{a:Option Addr}(cap sz:Nat)(ha:∀k,k <ps.length→a=some ⟨b,off,none⟩)(hx:ps[k]?=some x) (hj:J X (j8 (.pointer (some ⟨b,off+k*sz,none⟩)) o)) (hv:dE X.n (ixA X.P X.n) o=some (.slice a ps.length cap,(k:Int),sz):=by kernel_rfl):J X o:=
 have hk:k <ps.length:=(List.getElem?_eq_some_iff.1 hx).1
 jix (k:Int) cap sz (ha k hk) (by omega) hj hv
theorem CU{ps:List α}{x:α}{a:Option Addr}(ix:Int)(cap sz:Nat)(ha:∀k,k <ps.length→a=some ⟨b,off,none⟩)(hx:ps[k]?=some x) (he:ix=(k:Int)) (hj:J X (j8 (.pointer (some ⟨b,off+k*sz,none⟩)) o)) (hv:dE X.n (ixA X.P X.n) o=some (.slice a ps.length cap,ix,sz):=by kernel_rfl):J X o:=by
 subst he;exact fK cap sz ha hx hj hv
theorem Un{v:Value}{enc:α→List Value}{ps:List α}{L:Cells}{x:α}(sz:Nat)(jm:aA v szo T2 enc ps L)(hx:ps[k]?=some x) (hj:∀b,Lc v b→J X (j8 (.pointer (some ⟨b,k*sz,none⟩)) o)) (hv:dE X.n (ixA X.P X.n) o=some (v,(k:Int),sz):=by kernel_rfl):J X o:=by
 have hk:k <ps.length:=(List.getElem?_eq_some_iff.1 hx).1
 obtain⟨b,hb⟩:=aEO jm hk
 have fE:=hb
 obtain⟨n0,c,rfl⟩:=fE
 have hn:n0=ps.length:=by
  obtain⟨a,c',he⟩:=jm.form
  cases he;rfl
 subst hn
 have hj:=hj b hb
 exact jix (off:=0) (k:Int) c sz rfl (by omega) (by rw[Nat.zero_add];exact hj) hv
theorem qg{v:Value}{enc:α→List Value}{ps:List α}{L:Cells}{x:α}(ix:Int)(sz:Nat)(jm:aA v szo T2 enc ps L)(hx:ps[k]?=some x) (he:ix=(k:Int)) (hj:∀b,Lc v b→J X (j8 (.pointer (some ⟨b,k*sz,none⟩)) o)) (hv:dE X.n (ixA X.P X.n) o=some (v,ix,sz):=by kernel_rfl):J X o:=by
 subst he;exact Un sz jm hx hj hv
end
attribute [irreducible] dE j8 N8 dO p7 oR ldW
section
variable {X:Cx} {o:Option JS}
theorem P3{D:List Deferred}{t:Nat}{v:Value}(h:iD e t=some v):A n ((t,v)::e) D=A n e D:=by
 simp only[A]
 congr 1
 congr 1
 funext i
 simp only[get]
 cases hb:Nat.beq t i with
 |false=>rfl
 |true=>
  have:=Nat.eq_of_beq_eq_true hb
  subst this
  exact(nj h).symm
def Rb(j:Nat)(v:Value):List (Nat×Value)→List (Nat×Value)
 | []=>[]
 | (i,w)::r=>bif Nat.beq i j then (i,v)::r else (i,w)::Rb j v r
theorem Hi{j:Nat}{v:Value}:∀ {l:List (Nat×Value)},Ru l j=some v→Rb j v l=l
 | (i,w)::r,h=>by
  simp only[Ru] at h
  simp only[Rb]
  cases hb:Nat.beq i j with
  |true=>rw[hb] at h;simp only[cond_true,Option.some.injEq] at h;subst h;rfl
  |false=>rw[hb] at h;simp only[cond_false] at h ⊢;rw[Hi h]
def aru(t:Nat):JS→Option Value
 | ⟨.I1 _ _ Pl _ _,_,_,_⟩=>Ru Pl t
 |s=>iD s.env t
def LV(t:Nat):Option JS→Option Value
 |some s=>aru t s
 |none=>none
def abu(t:Nat)(v:Value):JS→JS
 | ⟨.I1 ops base Pl Sl k,e,w,kn⟩=>⟨.I1 ops base (Rb t v Pl) Sl k,e,w,kn⟩
 | ⟨p,e,w,kn⟩=>⟨p,(t,v)::e,w,kn⟩
def Rc(t:Nat)(v:Value):Option JS→Option JS
 |some s=>some (abu t v s)
 |none=>none
theorem jw(t:Nat)(v:Value){w:Value}(hw:w=v)(hj:J X (Rc t v o))(hv:LV t o=some w:=by kernel_rfl):J X o:=by
 subst hw
 cases o with
 |none=>exact hj
 |some s=>
  rcases s with ⟨p,e,Ki,kn⟩
  intro cv
  have hj:=hj
  cases p with
  |I1 ops base Pl Sl k=>
   simp only[LV,aru] at hv
   have:Rb t w Pl=Pl:=Hi hv
   simp only[Rc,abu,this] at hj
   exact hj cv
  |ops a b c=>have:=hj cv;simp only[abu,JP] at this;rw[P3 hv] at this;exact this
  |code a b=>have:=hj cv;simp only[abu,JP] at this;rw[P3 hv] at this;exact this
  |nxt a=>have:=hj cv;simp only[abu,JP] at this;rw[P3 hv] at this;exact this
  |fin a=>have:=hj cv;simp only[abu,JP] at this;rw[P3 hv] at this;exact this
theorem ji(t:Nat){c b:Bool}(h:c=b)(hj:J X (Rc t (.bool b) o))(hv:LV t o=some (.bool c):=by kernel_rfl):J X o:=jw t _ (by rw[h]) hj hv
theorem js(t:Nat)(c:Bool)(h1:c=true→J X (Rc t (.bool true) o))(h2:c=false→J X (Rc t (.bool false) o))(hv:LV t o=some (.bool c):=by kernel_rfl):J X o:=by
 cases hc:c with
 |true=>exact ji t hc (h1 hc) hv
 |false=>exact ji t hc (h2 hc) hv
def aFb(P:Program)(n:Nat)(p:Oper)(e:Env):Option (Obj×Option Nat):=match p.op with
 | .alloc T=>match a8 P T with
  |some ti=>some (.cells ⟨ti.zero⟩ T (0,0),none)
  |none=>none
 | .box T x=>match bE n e x with
  |some v=>some (.cells ⟨ep v⟩ T (0,0),none)
  |none=>none
 | .buildSlice T m ps=>match a8 P T with
  |some ⟨.slice E,_,_,_⟩=>match a8 P E with
   |some te=>match Qj n e ps.toList with
    |some pv=>match oZ (fun i=>some (i*te.size,te.size)) (de te.zero m) (uV pv) with
     |some l=>bif Nat.beq te.zero.length te.size&&Nat.ble (m*te.size) 16777216 then some (.cells ⟨l⟩ E (0,0),some m) else none
     |none=>none
    |none=>none
   |none=>none
  |_=>none
 | .range T x=>match a8 P T with
  |some ⟨.string,_,_,_⟩=>match bE n e x with
   |some (.string b)=>some (.stringIter b 0,none)
   |_=>none
  |_=>none
 |_=>none
def agx(b:Nat):Option Nat→Value
 |some m=> .slice (some ⟨b,0,none⟩) m m
 |none=> .pointer (some ⟨b,0,none⟩)
def avv(P:Program)(n b:Nat):Option JS→Option JS
 |some ⟨.ops ops (i::todo) k,e,w,kn⟩=>match qX n ⟨.ops ops (i::todo) k,e,w,kn⟩ with
  |some (true,p,_)=>match aFb P n p e with
   |some (ob,m)=>some ⟨.ops ops todo k,upd p.dst (agx b m) e,.b b ob::w,kn⟩
   |none=>none
  |_=>none
 |_=>none
theorem SY{ops:Array Oper}{k:List KI}{e':Env}{w:List Sg}{g:Bool}{p:Oper}(h:qX n ⟨.ops ops (i::todo) k,e,w,kn⟩=some (g,p,e')):ops[i]?=some p∧e'=e∧(g=true→aB ops n e p.guard=true):=by
 simp only[qX] at h
 split at h<;>try (cases h;done)
 rename_i p1 ho
 split at h<;>try (cases h;done)
 rename_i g1 hg
 cases h
 refine⟨ho,rfl,fun hg'=>?_⟩
 subst hg'
 have:=oe hg []
 rwa[List.append_nil] at this
theorem jn(hj:∀b,J X (avv X.P X.n b o)):J X o:=by
 unfold avv at hj
 split at hj
 ·rename_i ops i todo k e w kn
  split at hj
  ·rename_i p e' hh
   obtain⟨ho,rfl,hw⟩:=SY hh
   have hw:=hw rfl
   intro cv
   rcases p with ⟨dst,op,ty,pos,dt,g⟩
   split at hj
   ·rename_i ob m hn
    have key:∀b,ai X.C X.fn X.aD ops todo (KQ X k) (A X.n (upd dst (agx b m) e') X.D) ⟨X.ro,(b,ob)::den w⟩:=fun b=>by
     have:=hj b cv
     simp only[JP,jq] at this
     exact this
    unfold aFb at hn
    split at hn
    ·rename_i T aC
     dsimp only at aC;subst aC
     split at hn<;>try (cases hn;done)
     rename_i ti dS
     cases hn
     obtain⟨bL,tf⟩:=ay dS
     exact an1 X.hC ho hw tf fun b _=>key b
    ·rename_i T x aC
     dsimp only at aC;subst aC
     split at hn<;>try (cases hn;done)
     rename_i v hx
     cases hn
     exact aE3 X.hC ho hw hx (by rw[mP]) fun b _=>key b
    ·rename_i T m0 ps aC
     dsimp only at aC;subst aC
     split at hn<;>try (cases hn;done)
     rename_i E _ _ _ dS
     split at hn<;>try (cases hn;done)
     rename_i te tX
     split at hn<;>try (cases hn;done)
     rename_i pv KB
     split at hn<;>try (cases hn;done)
     rename_i l hl
     cases hc:(Nat.beq te.zero.length te.size&&Nat.ble (m0*te.size) 16777216) with
     |false=>rw[hc] at hn;cases hn
     |true=>
      rw[hc] at hn;simp only[cond_true,Option.some.injEq,Prod.mk.injEq] at hn
      obtain⟨rfl,rfl⟩:=hn
      simp only[Bool.and_eq_true] at hc
      obtain⟨bL,tf⟩:=ay dS
      obtain⟨Ct,rM⟩:=ay tX
      exact Oh X.hC ho hw tf rM hc.1 KB hc.2 hl fun b _=>key b
    ·rename_i T x aC
     dsimp only at aC;subst aC
     split at hn<;>try (cases hn;done)
     rename_i dS
     split at hn<;>try (cases hn;done)
     rename_i bs hx
     cases hn
     obtain⟨bL,tf⟩:=ay dS
     exact VT X.hC ho hw tf hx fun b _=>key b
    cases hn
   exact(hj 0).elim
  exact(hj 0).elim
 exact(hj 0).elim
def ali(n:Nat)(p:Oper)(e:Env):Option (FuncId×List Value):=match p.op with
 | .call ⟨.value x,xs,_⟩=>match bE n e x with
  |some (.func (.func f) ⟨fi⟩ ⟨ca⟩)=>match y5 n e xs.toList with
   |some vs=>some (f,fi++vs++ca)
   |none=>none
  |_=>none
 |_=>none
def zt(P:Program)(n:Nat)(p:Oper)(e:Env):Option (FuncId×List Value):=match ali n p e with
 |some (f,vs)=>bif C2 P f then some (f,vs) else none
 |none=>none
theorem rB{p:Oper}(h:zt P n p e=some (f,vs)):FF P f∧∃x xs at_ fi ca ws,p.op= .call ⟨.value x,xs,at_⟩∧bE n e x=some (.func (.func f) ⟨fi⟩ ⟨ca⟩)∧wI n e xs=some ws∧vs=fi++ws++ca:=by
 unfold zt at h
 split at h<;>try (cases h;done)
 rename_i f' oJ hc
 cases hb:C2 P f' with
 |false=>rw[hb] at h;cases h
 |true=>
  rw[hb] at h;simp only[cond_true,Option.some.injEq,Prod.mk.injEq] at h
  obtain⟨rfl,rfl⟩:=h
  refine⟨lI hb,?_⟩
  unfold ali at hc
  split at hc<;>try (cases hc;done)
  rename_i x xs at_ aC
  split at hc<;>try (cases hc;done)
  rename_i f fi ca hx
  split at hc<;>try (cases hc;done)
  rename_i ws td
  cases hc
  exact⟨x,xs,at_,fi,ca,ws,aC,hx,td,rfl⟩
theorem T4(a b c:List Value):(⟨a⟩:Array Value)++⟨b⟩++⟨c⟩=⟨a++b++c⟩:=by simp
def nq(ps:List Nat)(v:Value)(Y:Cells):Option JS→Option JS
 |some ⟨.ops ops (i::todo) k,e,w,kn⟩=>match ops[i]? with
  |some p=>some ⟨.ops ops todo k,upd p.dst v e,.l Y::dL ps 0 w,kn⟩
  |none=>none
 |_=>none
def e8(n:Nat)(f:Oper→Env→Option β):Option JS→Option β
 |some ⟨.ops a b c,e,w,kn⟩=>dE n f (some ⟨.ops a b c,e,w,kn⟩)
 |_=>none
theorem dJ{f:Oper→Env→Option β}{r:β}(h:e8 n f o=some r):∃ops i todo k e w kn p,o=some ⟨.ops ops (i::todo) k,e,w,kn⟩∧ops[i]?=some p∧aB ops n e p.guard=true∧f p e=some r:=by
 unfold e8 at h
 split at h<;>try (cases h;done)
 rename_i ops todo k e w kn
 obtain⟨s,p,e',hs,hh,hf⟩:=tD h
 cases hs
 cases todo with
 |nil=>cases hh
 |cons i todo=>
  obtain⟨ho,rfl,hw⟩:=SY hh
  exact⟨ops,i,todo,k,e',w,kn,p,rfl,ho,hw rfl,hf⟩
def arY(ps lp:List Nat):Option JS→Option Cells
 |some s=>dO lp (some {s with rw:=dL ps 0 s.rw})
 |none=>none
theorem oH{ops:Array Oper}{k:List KI}{w:List Sg}{p:Oper}{v:Value}(ho:ops[i]?=some p):nq ps v Y (some ⟨.ops ops (i::todo) k,e,w,kn⟩)=some ⟨.ops ops todo k,upd p.dst v e,.l Y::dL ps 0 w,kn⟩:=by
 simp only[nq,ho]
theorem jcL{own:Cells}(ps lp:List Nat)(B:Cells)(hf:∀aJ,Sub X.ro aJ→Knows aJ B→ee X.P f vs aJ own Φ)(hj:∀v Y,Φ v Y→J X (nq ps v Y o))(h1:e8 X.n (zt X.P X.n) o=some (f,vs):=by kernel_rfl)(h2:dO ps o=some own:=by kernel_rfl)(h3:arY ps lp o=some B:=by kernel_rfl):J X o:=by
 obtain⟨ops,i,todo,k,e,w,kn,p,rfl,ho,hw,hc⟩:=dJ h1
 obtain⟨ff,x,xs,at_,fi,ca,ws,aC,hx,td,rfl⟩:=rB hc
 intro cv
 rcases p with ⟨dst,op,ty,pos,dt,g⟩
 dsimp only at aC;subst aC
 have hp:=bO h2
 refine ago (own:=own) (B:=B) (Φ:=Φ) X.hC ho hw hx ff td (T4 fi ws ca) hp (fun y hy=>(bO h3).mem_iff.2 (List.mem_append_left _ hy)) (fun aJ hs hB=>hf aJ hs hB) (fun v Y ql=>?_)
 have:=hj v Y ql
 simp only[nq,ho] at this
 have:=this cv
 simp only[JP,gZ] at this
 exact this
theorem jc{own:Cells}(ps:List Nat)(hf:ee X.P f vs X.ro own Φ)(hj:∀v Y,Φ v Y→J X (nq ps v Y o))(h1:e8 X.n (zt X.P X.n) o=some (f,vs):=by kernel_rfl)(h2:dO ps o=some own:=by kernel_rfl):J X o:=by
 obtain⟨ops,i,todo,k,e,w,kn,p,rfl,ho,hw,hc⟩:=dJ h1
 obtain⟨ff,x,xs,at_,fi,ca,ws,aC,hx,td,rfl⟩:=rB hc
 intro cv
 rcases p with ⟨dst,op,ty,pos,dt,g⟩
 dsimp only at aC;subst aC
 have hp:=bO h2
 refine u3 (fi:=⟨fi⟩) (ca:=⟨ca⟩) (ws:=fi++ws++ca) X.hC ho hw hx ff td (T4 fi ws ca) (Fn.weaken X.hC (ee.aCs (s:=⟨X.ro,den w⟩) hp hf)) (fun v' s' hr=>?_) (fun ch s' hr=>by obtain⟨_,_,e,_⟩:=hr;cases e) (fun s' hr=>by obtain⟨_,_,e,_⟩:=hr;cases e)
 obtain⟨v,Y,hv,ql,hle⟩:=hr
 cases hv
 have:=hj _ Y ql
 simp only[nq,ho] at this
 have:=this cv
 simp only[JP,gZ] at this
 exact this.more X.hC hle
theorem jp(lp:List Nat)(B:Cells)(hf:∀aJ,Sub X.ro aJ→Knows aJ B→dG X.P f vs aJ V)(hj:J X (N8 B V o))(h1:dE X.n (zt X.P X.n) o=some (f,vs):=by kernel_rfl)(h3:dO lp o=some B:=by kernel_rfl):J X o:=by
 refine jGN h1 h3 (fun s p e ho hh hc=>?_) hj
 obtain⟨ff,x,xs,at_,fi,ca,ws,aC,hx,td,rfl⟩:=rB hc
 rcases p with ⟨dst,op,ty,pos,dt,g⟩
 dsimp only at aC;subst aC
 refine⟨rfl,fun s0 H9 wA ops i ub rest hw s' hs todo Q hk=>?_⟩
 have hez:Ext ⟨X.ro,B⟩ s':=fun b ob hb=>hs _ _ (hb.elim (fun h=>H9 _ _ (.inl h)) fun h=>wA (b,ob) h)
 exact RS X.hC ub hw (bB hx) ff (yy td) (T4 fi ws ca) hez (fun aJ h1=>hf aJ (Hc h1) fun y hy=>h1 _ _ (.inr hy)) hk
end
attribute [irreducible] e8 Rc LV avv nq arY
end Go.L
