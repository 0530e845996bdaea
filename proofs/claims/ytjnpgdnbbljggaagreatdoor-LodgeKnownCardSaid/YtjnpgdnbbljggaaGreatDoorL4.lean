/- Part 4 of the proof. -/
import Derived.Test.YtjnpgdnbbljggaaGreatDoorL3
import Derived.Conc.AtomicLaws2
import Derived.Conc.ClockLaws
set_option maxRecDepth 100000
set_option maxHeartbeats 4000000
set_option linter.all false
namespace Go.L
open Go Go.Conc
open Go.ConcR (KK wgBlock WgAt stA smA rd wr)
open Go.ConcM (OsLater)
variable {S:Value→List (Nat×Obj)→St} {fr:Frame}
theorem oG{α:Type}(f:α→Nat)(T:List α)(x:α):fA f (T++[x])=fA f T+f x:=by simp[fA]
theorem l9.snoc{T:List aJ}{o:Wd}{m:Nat}(h:l9 T o m)(k:Nat):l9 (T++[.out k]) o m:=by
 have e:∀f:aJ→Nat,f (.out k)=0→fA f (T++[.out k])=fA f T:=fun f hf=>by rw[oG,hf];rfl
 obtain⟨h1,h2,h3,h4,h5⟩:=h
 refine⟨by rw[e _ rfl];exact h1,fun hS=>by rw[e _ rfl,e _ rfl,e _ rfl,e _ rfl,e _ rfl];exact h2 hS,fun hS=>by rw[e _ rfl,e _ rfl,e _ rfl,e _ rfl,e _ rfl];exact h3 hS,fun a b c d=>by rw[e _ rfl];exact h4 a b c d,fun x hx=>?_⟩
 rcases List.mem_append.1 hx with hx|hx
 ·exact h5 x hx
 simp only[List.mem_singleton] at hx;subst hx;trivial
section
variable {ι:Type} {E:de ι} {Fin:Goroutine→Prop}
variable {L0 L L':Nat→Option Obj} {K:Nat→St} {gs:Array Goroutine} {w w':World} {t u:Trace} {D:List (ai ι)} {pend dC nw d0:Nat} {cl cl':rQ} {o:Wd} {m:Nat} {l os:List ι} {main:Goroutine} {sl:Option (Nat×Nat)}
 {i:Nat} {r r':ai ι} {g g' child:Goroutine} {s s' dO:St} {es:Array Event}
theorem bB.spawn(hb:jM E L K gs w t D)(hs:s9 E L0 L K gs w t D (pend+1) none o m l)(hp:E.LJ (l++fq D) os)(hm:gs[0]?=some g) (hd:Deaf t 0=0)
 (Jo:(K 0).rw=[]) (bE:stepG E.P true g w= .spawn g' child w #[]) (hle:dO.le (K 0)) {ls:List ι} {tr:Tree} (Eu:lF E.P false (E.Stp ls) tr child dO) (Fg:(os++ls).length≤E.mxl) (hg':g'.status= .running):
 ∃e8 u,runT E.P (crowd gs w sl) 0=(.next (crowd e8 w sl),u)∧bB E Fin L0 (dL K gs.size dO) e8 w (t++u) (D++[.work ls tr]) pend none o m (os++ls) g' 0∧0 <gs.size:=by
 have nP:=hb.size
 have bx:=runT_crowd_spawn (P:=E.P) (sl:=sl) (i:=0) hm (by simpa using bE)
 have e0:MemOp.ofEvents 0 g.frame.fn g.frame.place #[]= #[]:=rfl
 rw[e0] at bx
 generalize hx:({g:=0,fn:=g.frame.fn,pos:=g.frame.place,act:= .go gs.size}:MemOp)=x at bx
 generalize hy:({g:=gs.size,fn:=child.frame.fn,pos:=g.frame.place,act:= .start}:MemOp)=y at bx
 have ex:x.g=0∧x.act= .go gs.size:=by rw[←hx];exact⟨rfl,rfl⟩
 have ey:y.g=gs.size∧y.act= .start:=by rw[←hy];exact⟨rfl,rfl⟩
 have eu:((#[]:Array MemOp).push x).push y= #[x,y]:=rfl
 rw[eu] at bx
 have hq:∀op∈ #[x,y],op.act.touch?=none:=by intro op av;simp at av;rcases av with rfl|rfl<;>simp[ex.2,ey.2,MemAct.touch?]
 have IN:∀op∈ #[x,y],∀m,op.act≠ .mark m:=by intro op av;simp at av;rcases av with rfl|rfl<;>simp[ex.2,ey.2]
 have hg:∀op∈ #[x,y],op.g=0∨op.g=gs.size:=by intro op av;simp at av;rcases av with rfl|rfl<;>simp[ex.1,ey.1]
 have IU:Deaf t gs.size=0:=ConcN.Deaf_absent fun i op ho e=>by have:=hb.ops op (mem_of_getElem? ho);omega
 have jN:∀k,Deaf (t++ #[x,y]) k=Deaf t k:=fun k=>fJ t k _ IN
 have Hw:∀p,Knows t 0 p→Knows (t++ #[x,y]) gs.size p:=fun p hp=>ConcN.fork_knows ex ey hd IU hp
 have jP:=hb.fit.quiet (u:= #[x,y]) (w':=w) E.Mu hs.kM hs.lM (Nat.le_refl _) (fun _ _ _=>rfl) hq
 have A4:dO.rw=[]:=by
  obtain⟨R,hR,_⟩:=hle
  rw[Jo] at hR
  exact(List.append_eq_nil_iff.1 (List.nil_perm.1 hR)).1
 have my:∀b o,dO.ro b=some o→(K 0).ro b=some o:=fun b o hb=>by
  obtain⟨R,hR,h2⟩:=hle
  rw[Jo] at hR
  have:=List.append_eq_nil_iff.1 (List.nil_perm.1 hR)
  rcases h2 b o hb with h3|h3
  ·exact h3
  rw[this.2] at h3;cases h3
 have BJ:=jP.share (i:=0) (n:=gs.size) (by omega) dO A4 my fun b ju p z hz Ni hzw hzh=>by
  rcases aI hz with ⟨_,zn⟩| ⟨_,op,hm,_,QI⟩
  ·have AD:dO.ro b=(K 0).ro b:=by
    cases aDw:dO.ro b with
    |none=>exact absurd aDw ju
    |some o=>rw[my b o aDw]
   exact Hw p (hb.fit.nq 0 b (AD▸ju) p z zn Ni hzw fun k=>hzh (k.congr Ni AD))
  rw[hq op hm] at QI;cases QI
 have zr:∀b,(∀j,¬(K j).knows b)→∀j,¬(dL K gs.size dO j).knows b:=fun b hb j hk=>by
  by_cases e:j=gs.size
  ·subst e;rw[au] at hk;exact hb 0 (hle.knows hk)
  rw[aA _ _ e] at hk;exact hb j hk
 have lX:∀ {k z},(D++[ai.work ls tr])[k]?=some z→(k <D.length∧D[k]?=some z)∨(k=D.length∧z= .work ls tr):=fun {k z} hk=>by
  rcases Nat.lt_trichotomy k D.length with bO|e|hgt
  ·rw[List.getElem?_append_left bO] at hk;exact .inl ⟨bO,hk⟩
  ·subst e;rw[List.getElem?_append_right (Nat.le_refl _)] at hk;simp at hk;exact .inr ⟨rfl,hk.symm⟩
  rw[List.getElem?_eq_none (by simp;omega)] at hk;cases hk
 have hgs:∀k,k≠0→k <gs.size→((gs.setIfInBounds 0 g').push child)[k]?=gs[k]?:=fun k h0 bO=>by
  rw[Array.getElem?_push_lt (by simpa using bO),←Array.getElem?_eq_getElem,Array.getElem?_setIfInBounds_ne (Ne.symm h0)]
 have hgn:((gs.setIfInBounds 0 g').push child)[gs.size]?=some child:=by
  rw[Array.getElem?_push,if_pos (by simp)]
 have told:∀p z,touchAt (t++ #[x,y]) p=some z→touchAt t p=some z:=fun p z hz=>by
  rcases aI hz with ⟨_,zn⟩| ⟨_,op,hm,_,QI⟩
  ·exact zn
  rw[hq op hm] at QI;cases QI
 have aur:child.status= .running:=lF.running (fun _ _ x=>de.Stp.running x) Eu
 have afZ:((gs.setIfInBounds 0 g').push child).size=gs.size+1:=by simp
 refine⟨_,_,bx,⟨⟨L,l,⟨BJ,by simp[nP],fun k z hk=>?_,fun k hk b ju=>?_,fun op av=>?_,hb.same⟩,
  ⟨zr _ hs.kW,zr _ hs.kM,hs.lW,hs.lM,hs.lH,hs.ne,fun a=>(hs.norel a).app fun op av=>IN op av _,fun j hj p z hz Ni ZN=>?_,fun p z hz Ni ZN=>(hs.said p z (told p z hz) Ni ZN).app _,?_,?_,hs.mu,?_,fun mh k z hz=>?_,hs.bO,fun j hj=>?_,fun j z hz=>?_,?_⟩,?_⟩,?_,by rw[jN];exact hd,hg'⟩,by omega⟩
 ·rcases lX hk with ⟨bO,iU⟩| ⟨rfl,rfl⟩
  ·obtain⟨q,hqk,att⟩:=hb.ok k z iU
   exact⟨q,by rw[hgs _ (by omega) (by omega)];exact hqk,by rw[aA _ _ (by omega)];exact att.other (fun op av=>by rcases hg op av with e|e<;>rw[e]<;>omega) fun _ op av x hx=>by rw[hq op av] at hx;cases hx⟩
  refine⟨child,by rw[←nP];exact hgn,?_⟩
  rw[←nP,au]
  exact⟨by rw[jN];exact IU,Eu⟩
 ·rw[Array.size_push,Array.size_setIfInBounds] at hk
  rw[aA _ _ (by omega)] at ju
  exact hb.RN k (by omega) b ju
 ·rw[Array.size_push,Array.size_setIfInBounds]
  rcases Array.mem_append.1 av with h'|h'
  ·have:=hb.ops op h';omega
  rcases hg op h' with e|e<;>rw[e]<;>omega
 ·have zn:=told p z hz
  rcases hj with rfl| ⟨k,q,rfl,hk,hl⟩
  ·exact(hs.plain 0 (.inl rfl) p z zn Ni ZN).app _
  rcases lX hk with ⟨_,iU⟩| ⟨rfl,rfl⟩
  ·exact(hs.plain (k+1) (.inr ⟨k,q,rfl,iU,hl⟩) p z zn Ni ZN).app _
  rw[←nP];exact Hw p (hs.plain 0 (.inl rfl) p z zn Ni ZN)
 ·obtain⟨st,sm,ha,fE⟩:=hs.cells
  refine⟨st,sm,ha,?_⟩
  simp only[cG] at fE ⊢
  rw[oG,oG,oG,oG]
  simp only[ai.cnt,ai.c4,ai.c3,ai.c2,Nat.add_zero]
  rw[show fA ai.cnt D+1+pend=fA ai.cnt D+(pend+1) by omega]
  exact fE
 ·have:=hs.mX
  simp only[cG] at this ⊢
  rw[oG];simp only[ai.cnt];omega
 ·rw[List.map_append];exact hs.mi.snoc _
 ·have bO:=lt_size hz
  rw[afZ] at bO
  by_cases e:k+1=gs.size
  ·rw[e,hgn] at hz;cases hz;rw[aur];simp
  rw[hgs _ (by omega) (by omega)] at hz;exact hs.Qh mh k z hz
 ·by_cases e:j=gs.size
  ·subst e;rw[au] at hj;obtain⟨o',ho⟩:=hj;rw[A4] at ho;cases ho
  rw[aA _ _ e] at hj;exact hs.nH j hj
 ·by_cases e:j=gs.size
  ·subst e;rw[au] at hz;exact .inl (hs.QX z (my _ z hz))
  rw[aA _ _ e] at hz
  rcases hs.Nm j z hz with h1| ⟨k,y',e1,hk,QJ⟩
  ·exact .inl h1
  exact .inr ⟨k,y',e1,by rw[List.getElem?_append_left (List.getElem?_eq_some_iff.1 hk).1];exact hk,QJ⟩
 ·rcases hs.gu with ⟨j,o1,os1,tr1,hj,e⟩| ⟨tL,v,X,h1,h2,h3,h4,h5,h6⟩
  ·exact .inl ⟨j,o1,os1,tr1,by rw[List.getElem?_append_left (List.getElem?_eq_some_iff.1 hj).1];exact hj,e⟩
  refine .inr ⟨fun k z hk=>?_,v,X,h1,h2,fun b o hb=>⟨(h3 b o hb).1,(h3 b o hb).2.1,(h3 b o hb).2.2.1,zr _ (h3 b o hb).2.2.2⟩,h4,h5,fun p z hz hgz=>?_⟩
  ·rcases lX hk with ⟨_,iU⟩| ⟨_,rfl⟩
   ·exact tL k z iU
   rfl
  rcases h6 p z (told p z hz) hgz with h7|h7| ⟨j,y',hj,QJ,bR⟩
  ·refine .inl ⟨h7.1.app _,fun k y' hk hl=>?_⟩
   rcases lX hk with ⟨_,iU⟩| ⟨rfl,rfl⟩
   ·exact(h7.2 k y' iU hl).app _
   rw[←nP];exact Hw p h7.1
  ·exact .inr (.inl (h7.app _))
  exact .inr (.inr ⟨j,y',by rw[List.getElem?_append_left (List.getElem?_eq_some_iff.1 hj).1];exact hj,QJ,bR.app _⟩)
 ·have:fq (D++[ai.work ls tr])=fq D++ls:=by simp[fq,List.flatMap_append,ai.tT]
  rw[this,←List.append_assoc]
  exact⟨hp.1.append_right ls,Fg⟩
 rw[Array.getElem?_push_lt (by simp;omega),←Array.getElem?_eq_getElem,Array.getElem?_setIfInBounds_self_of_lt (by omega)]
variable {Q:Machine→Outcome→World→Trace→Prop}
theorem YK{ls:List ι}(hs:g.status= .running)(kR:g'.status= .running)(Jo:s.rw=[])(bE:∀w,aZ s w→stepG E.P true g w= .spawn g' child w #[])(hw:dg E.P false (E.Stp ls) child s)(Fg:(os++ls).length≤E.mxl)
 (hT:TG E Fin L0 Q 0 (nw+1) (os++ls) 0 g' s):TG E Fin L0 Q 1 nw os 0 g s:=by
 refine Bn hs fun K gs w t D o m sl mm hI hn hK Z8=>?_
 subst hK
 obtain⟨⟨L,l,hb,hsy,hp⟩,hm,hd,cJ⟩:=hI
 obtain⟨tr,dO,hle,Eu⟩:=hw
 obtain⟨e8,u,hr,vJ,h0⟩:=bB.spawn (sl:=sl) (Fin:=Fin) (pend:=0) hb hsy hp hm hd Jo (bE w (hb.fit.iX 0)) hle Eu Fg kR
 refine Ends.next (Z8.trans hr) (hT _ e8 w _ _ o m sl vJ ?_ (by rw[aA _ _ (by omega)];exact St.le_refl _))
 simp only[cG] at hn ⊢
 rw[oG];simp only[ai.cnt];omega
theorem ab6{v0:Value}(hs:g.status= .running)(cF:E.Wg≠E.Mu∧E.Hb≠E.Wg∧E.Hb≠E.Mu)
 (hW:(E.Wg,wgBlock E.ty 0 0)∈s.rw)(hM:(E.Mu,Obj.cells #[.int .i32 0,.int .u32 0] E.tm)∈s.rw)(hH:(E.Hb,E.full v0)∈s.rw)(Nw:E.Gd [] v0 [])
 (Jo:s'.rw=[])(my:∀b x,s'.ro b=some x→(b=E.Hb∧x=E.hole)∨(b≠E.Hb∧b≠E.Wg∧b≠E.Mu∧(s.ro b=some x∨(b,x)∈s.rw)))
 (hL:∀b o,L0 b=some o→(b,o)∈s.rw∧b≠E.Wg∧b≠E.Mu∧b≠E.Hb)
 (hT:TG E Fin L0 Q 0 0 [] 0 g s'):TL E.P db (fun _=>none) (Ce E.os E.out) Q g s:=by
 intro K gs w t q sl Ex h0 atO hd ⟨UO,UN,hou⟩
 have Ex:=Ex.le atO
 have A4:(dL K 0 s) 0=s:=au _ _ _
 have rU:=Ex.fit.iX 0
 rw[A4] at rU
 have hWw:=rU.rw _ _ hW
 have hMw:=rU.rw _ _ hM
 have hHw:=rU.rw _ _ hH
 have hex:∀i,i <q.length→∃d,∃x,gs[i+1]?=some x∧QuitsD E.P (q.getD i 0) d x∧Deaf t (i+1)=d∧db t (i+1):=fun i hi=>by
  obtain⟨x,d,h1,h2,h3,h4⟩:=Ex.ok i _ (List.getElem?_eq_getElem hi)
  exact⟨d,x,h1,by rw[List.getD_eq_getElem?_getD,List.getElem?_eq_getElem hi];exact h2,h3,h4⟩
 let D:List (ai ι):=(List.range q.length).map fun i=>ai.leave (q.getD i 0) (Deaf t (i+1)) false
 have hD:∀i r,D[i]?=some r→i <q.length∧r=ai.leave (q.getD i 0) (Deaf t (i+1)) false:=fun i r hi=>by
  simp only[D,List.getElem?_map] at hi
  obtain⟨j,hj,rfl⟩:=Option.map_eq_some_iff.1 hi
  obtain⟨bO,rfl⟩:=List.getElem?_eq_some_iff.1 hj
  simp only[List.length_range] at bO
  simp only[List.getElem_range]
  exact⟨bO,trivial⟩
 have fM:∀r∈D,∃a b,r=ai.leave a b false:=fun r hr=>by
  obtain⟨i,hi⟩:=List.getElem?_of_mem hr
  exact⟨_,_,(hD i r hi).2⟩
 have hzero:∀f:ai ι→Nat,(∀a b,f (.leave a b false)=0)→cG f D=0:=fun f hf=>qO f fun r hr=>by
  obtain⟨a,b,rfl⟩:=fM r hr
  exact hf a b
 let K':Nat→St:=fun j=>if j=0 then s' else ⟨fun _=>none,[]⟩
 have XK:K' 0=s':=by simp[K']
 have hKn:∀j,j≠0→K' j=⟨fun _=>none,[]⟩:=fun j hj=>by simp[K',hj]
 have WM:∀j b,j≠0→¬(K' j).knows b:=fun j b hj hk=>by
  rw[hKn j hj] at hk
  rcases hk with hk| ⟨o,ho⟩
  ·exact hk rfl
  cases ho
 have aku:∀j b,¬(K' j).owns b:=fun j b ⟨o,ho⟩=>by
  by_cases e:j=0
  ·subst e;rw[XK,Jo] at ho;cases ho
  exact WM j b e (.inr ⟨o,ho⟩)
 have skn:∀b,s'.knows b→s.knows b∧b≠E.Wg∧b≠E.Mu:=fun b hk=>by
  rcases hk with hk| ⟨o,ho⟩
  ·cases hr:s'.ro b with
   |none=>exact absurd hr hk
   |some x=>
    rcases my b x hr with ⟨rfl,_⟩| ⟨_,h2,h3,h4|h4⟩
    ·exact⟨.inr ⟨_,hH⟩,cF.2.1,cF.2.2⟩
    ·exact⟨.inl (by rw[h4];simp),h2,h3⟩
    exact⟨.inr ⟨_,h4⟩,h2,h3⟩
  rw[Jo] at ho;cases ho
 have kn:∀j b,(K' j).knows b→s.knows b∧b≠E.Wg∧b≠E.Mu:=fun j b hk=>by
  by_cases e:j=0
  ·subst e;rw[XK] at hk;exact skn b hk
  exact absurd hk (WM j b e)
 have ayr:DU E.hole w.heap[E.Hb]?:= .inr (.inl ⟨_,_,_,rfl,hHw,by simp,(fun j hj=>by rw[Array.getElem?_setIfInBounds_ne (Ne.symm hj)]),E.hht⟩)
 have jP:Fit L0 K' w t:=by
  refine⟨fun b o hl=>rU.rw b o (hL b o hl).1,fun i b ho=>absurd ho (aku i b),fun j=>?_,fun i j b _ ho=>absurd ho (aku i b),fun i b ho=>absurd ho (aku i b),fun i b ho p x hx hb hw hh=>?_,Ex.fit.old,Ex.fit.clean,fun p x b hx hk hb=>?_⟩
  ·by_cases e:j=0
   ·subst e;rw[XK]
    refine⟨fun b x hb=>?_,(fun b x hb=>by rw[Jo] at hb;cases hb),(fun b x hb=>by rw[Jo] at hb;cases hb),by rw[Jo];simp,(fun b x hb=>by rw[Jo] at hb;cases hb)⟩
    rcases my b x hb with ⟨rfl,rfl⟩| ⟨_,_,_,h4|h4⟩
    ·exact ayr
    ·exact rU.ro b x h4
    exact .inl ⟨rU.rw b x h4,rU.real b x h4⟩
   rw[hKn j e];exact⟨(fun _ _ e=>(by cases e)),(fun _ _ e=>(by cases e)),(fun _ _ e=>(by cases e)),by simp,(fun _ _ e=>(by cases e))⟩
  ·by_cases e:i=0
   ·subst e;rw[XK] at ho hh
    cases hr:s'.ro b with
    |none=>exact absurd hr ho
    |some y=>
     rcases my b y hr with ⟨rfl,rfl⟩| ⟨_,_,_,h4|h4⟩
     ·exact Ex.fit.perm 0 E.Hb (by rw[A4];exact⟨_,hH⟩) p x hx hb
     ·exact Ex.fit.nq 0 b (by rw[A4,h4];simp) p x hx hb hw fun k=>hh (k.congr hb (by rw[A4,hr,h4]))
     exact Ex.fit.perm 0 b (by rw[A4];exact⟨_,h4⟩) p x hx hb
   exact absurd (.inl ho) (WM i b e)
  have hsy:=Ex.fit.sync p x b hx hk hb
  have h2:=hsy.2 0
  rw[A4] at h2
  refine⟨?_,fun j hj=>h2 (kn j b hj).1⟩
  cases hl:L0 b with
  |none=>rfl
  |some o=>exact absurd (.inr ⟨o,(hL b o hl).1⟩) h2
 have hLb:∀b,(b=E.Wg∨b=E.Mu∨b=E.Hb)→L0 b=none:=fun b hb=>by
  cases hl:L0 b with
  |none=>rfl
  |some o=>
   have:=hL b o hl
   rcases hb with e|e|e
   ·exact absurd e this.2.1
   ·exact absurd e this.2.2.1
   exact absurd e this.2.2.2
 have adA:∀b o,(b,o)∈s.rw→∀p x,touchAt t p=some x→blk x.loc=some b→Knows t 0 p:=fun b o hb p x hx OG=>Ex.fit.perm 0 b (by rw[A4];exact⟨_,hb⟩) p x hx OG
 have WH:∀p x,touchAt t p=some x→E.At x→Knows t 0 p:=fun p x hx hb=>hb.elim (adA _ _ hW p x hx) (adA _ _ hM p x hx)
 have XF:∀(i:Nat) (r:ai ι),D[i]?=some r→r.left=true:=fun i r hi=>by obtain⟨_,rfl⟩:=hD i r hi;rfl
 refine hT K' gs w t D ⟨false,false,false,0⟩ 0 sl ⟨⟨L0,[],⟨jP,by simp[D,Ex.size],fun i r hi=>?_,fun i hi b=>WM i b (by have:=Ex.size;omega),Ex.ops,UN,hou⟩,
  ⟨fun j hj=>(kn j _ hj).2.1 rfl,fun j hj=>(kn j _ hj).2.2 rfl,hLb _ (.inl rfl),hLb _ (.inr (.inl rfl)),hLb _ (.inr (.inr rfl)),cF,UO,fun j hj p x hx hb _=>?_,fun p x hx hb _=>WH p x hx (.inl hb),⟨0,0,hWw,?_⟩,?_,?_,?_,(fun e=>by cases e),lt_size hHw,fun j hj=>aku j _ hj,fun j x hx=>?_,
   .inr ⟨fun i r hi=>?_,v0,[],Nw,by simp,(fun b o hb=>by cases hb),fun b o hl=>hl,hHw,fun p x hx hgx=>?_⟩⟩,?_⟩,h0,hd,hs⟩ ?_ (by rw[XK];exact St.le_refl _)
 ·obtain⟨bO,rfl⟩:=hD i r hi
  obtain⟨d,x,h1,h2,h3,h4⟩:=hex i bO
  exact⟨x,h1,hKn _ (by omega),by rw[h3];exact h2,rfl,(fun e=>(by cases e)),fun _=>h4⟩
 ·rcases hj with rfl| ⟨k,r,rfl,hk,hl⟩
  ·exact WH p x hx hb
  rw[XF k r hk] at hl;cases hl
 ·rw[hzero ai.cnt fun _ _=>rfl,hzero ai.c4 fun _ _=>rfl,hzero ai.c3 fun _ _=>rfl,hzero ai.c2 fun _ _=>rfl]
  have:=Md.start (mx:=E.max) (n:=0)
  simpa using this
 ·rw[hzero ai.cnt fun _ _=>rfl];omega
 ·exact hMw
 ·refine l9.start fun x hx=>?_
  obtain⟨r,hr,rfl⟩:=List.mem_map.1 hx
  obtain⟨a,b,rfl⟩:=fM r hr
  exact⟨0,rfl⟩
 ·by_cases e:j=0
  ·subst e;rw[XK] at hx
   rcases my _ x hx with ⟨_,rfl⟩| ⟨h1,_⟩
   ·exact .inl rfl
   exact absurd rfl h1
  rw[hKn j e] at hx;cases hx
 ·obtain⟨_,rfl⟩:=hD i r hi;rfl
 ·refine .inl ⟨?_,fun k r hk hl=>by rw[XF k r hk] at hl;cases hl⟩
  rcases hgx with ⟨b,o,hb,_⟩| ⟨a,ea,e1,_⟩
  ·cases hb
  exact adA _ _ hH p x hx (by rw[ea];simp[blk,e1])
 ·have:fq D=[]:=by
   unfold fq
   rw[List.flatMap_eq_nil_iff]
   intro r hr
   obtain⟨a,b,rfl⟩:=fM r hr;rfl
  rw[this];exact⟨List.Perm.refl _,Nat.zero_le _⟩
 rw[hzero ai.cnt fun _ _=>rfl];omega
end
section
variable {ι:Type} {E:de ι} {Fin:Goroutine→Prop}
variable {L0 L L':Nat→Option Obj} {K:Nat→St} {gs:Array Goroutine} {w w':World} {t u:Trace} {D:List (ai ι)} {pend dC nw d0:Nat} {cl cl':rQ} {o:Wd} {m:Nat} {l os:List ι} {main:Goroutine} {sl:Option (Nat×Nat)}
 {i:Nat} {r r':ai ι} {g g' child:Goroutine} {s s' dO:St} {es:Array Event} {c:CK} {n:Nat}
theorem Vd:(∀e∈ #[said .disable],oV E.Wg e)∧(∀e∈ #[said .enable],oV E.Wg e)∧(∀e∈ #[said (.acquire (stA E.Wg))],oV E.Wg e)∧(∀e∈ #[rd (stA E.Wg)],oV E.Wg e)∧(∀e∈ #[rd (stA E.Wg),wr (stA E.Wg)],oV E.Wg e)∧(∀e∈semEvents (smA E.Wg),oV E.Wg e):=by
 refine⟨?_,?_,?_,?_,?_,?_⟩
 ·intro e he;simp at he;subst he;exact .inl rfl
 ·intro e he;simp at he;subst he;exact .inr (.inl rfl)
 ·intro e he;simp at he;subst he;exact .inr (.inr (.inr (.inl rfl)))
 ·intro e he;simp at he;subst he;exact mI _ 0 _
 ·intro e he;simp at he;rcases he with rfl|rfl<;>exact mI _ 0 _
 intro e he;simp[semEvents] at he
 rcases he with rfl|rfl|rfl|rfl
 ·exact .inl rfl
 ·exact mI _ 1 _
 ·exact mI _ 1 _
 exact .inr (.inl rfl)
def Ou(E:de ι)(Fin:Goroutine→Prop)(L0:Nat→Option Obj)(K:Nat→St)(gs:Array Goroutine)(w:World)(sl:Option (Nat×Nat))(t:Trace)(D:List (ai ι))(c:CK)(n:Nat)(o:Wd)(m:Nat)(os:List ι):Prop:=
 ∃e8 w' u c' n' g' d',runT E.P (crowd gs w sl) 0=(.next (crowd e8 w' sl),u)∧bB E Fin L0 K e8 w' (t++u) D 0 (some (c',n')) o m os g' d'∧w9 (gr E.max (some (c',n'))) (gr E.max (some (c,n)))
section
variable (hb:jM E L K gs w t D) (hs:s9 E L0 L K gs w t D 0 (some (c,n)) o m l) (hp:E.LJ (l++fq D) os) (hm:gs[0]?=some g) (hd:Deaf t 0=d0)
include hb hs hp hm hd
theorem bB.mA{c':CK}{n':Nat}(hgo:stepG E.P true g w= .go g' w' es)(hw:bQ E.jK w w')(jb:∀e∈es,oV E.Wg e)
 (fB:∃st sm,WgAt E.ty E.Wg w' st sm∧Md E.max (cG ai.cnt D) (cG ai.c4 D) (cG ai.c3 D) (cG ai.c2 D) (some c') st sm)(cb:E.mat Fin g' n' c')(hde:deafBehind d0 es=c'.deaf)
 (zp:w9 (gr E.max (some (c',n'))) (gr E.max (some (c,n)))):Ou E Fin L0 K gs w sl t D c n o m os:=by
 obtain⟨e8,u,h1,h2⟩:=bB.aci (sl:=sl) (Fin:=Fin) (cl':=some (c',n')) (dC:=0) hb hs hp hm hd hgo hw jb fB hs.mX ⟨cb,hde⟩
 exact⟨e8,w',u,c',n',g',_,h1,h2,zp⟩
theorem bB.wait(cJ:mL E Fin g d0 (some (c,n)))(QP:g.status= .running)(Z5:¬(c= .aq∧n=0)):Ou E Fin L0 K gs w sl t D c n o m os:=by
 obtain⟨cb,hdc⟩:=cJ
 subst hdc
 obtain⟨st,sm,ha,fE⟩:=hs.cells
 simp only[Nat.add_zero,Option.map_some] at fE
 have qm:=hs.mX
 simp only[Nat.add_zero] at qm
 obtain⟨s1,s2,s3,s4,s5,s6⟩:=Vd (E:=E)
 have pH:∀ {n':Nat} {g':Goroutine},n=n'+1→(∀w,E.jK.live w→stepG E.P true g w= .go g' w #[])→E.mat Fin g' n' c→Ou E Fin L0 K gs w sl t D c n o m os:=by
  intro n' g' hn bE agi
  subst hn
  exact bB.mA hb hs hp hm hd (bE w ⟨st,sm,ha⟩) (bQ.refl w) (by simp) ⟨st,sm,ha,fE⟩ agi rfl (pn (Nat.lt_succ_self n'))
 cases c with
 |kd=>
  cases n with
  |succ n=>obtain⟨_,g',bE,mf⟩:=cb;exact pH rfl bE mf
  |zero=>
   obtain⟨_,g',bE,n',mf⟩:=cb
   obtain⟨rfl,rfl,e4,e3,e2,_⟩:=fE.zero (.inl rfl)
   refine bB.mA hb hs hp hm hd (c':= .w1 E.max) (bE w) (bQ.refl w) s1 ⟨_,_,ha,?_⟩ mf rfl (bZ (by simp[gr,CK.phi]))
   rw[e4,e3,e2];exact .w1 qm
 |w1 b=>
  cases n with
  |succ n=>
   have:∃g',(∀w,E.jK.live w→stepG E.P true g w= .go g' w #[])∧Pure E.P true E.jK.live (E.W1 Fin b) n g':=cb.2
   obtain⟨g',bE,mf⟩:=this
   exact pH rfl bE mf
  |zero=>
   obtain⟨rfl,rfl,e4,e3,e2,XI,_⟩:=fE.zero (.inr (.inl ⟨b,rfl⟩))
   have hle:=XI b rfl
   rw[e4,e3,e2] at fE
   have out:(∃g',(∀w,WgAt E.ty E.Wg w 0 0→stepG E.P true g w= .go g' w #[rd (stA E.Wg)])∧E.pw (E.Ke Fin) g')→cG ai.cnt D=0→Ou E Fin L0 K gs w sl t D (.w1 b) 0 o m os:=by
    rintro⟨g',bE,n',mf⟩ h0
    rw[h0] at ha
    have qp:WgAt E.ty E.Wg w 0 0:=by simpa using ha
    refine bB.mA hb hs hp hm hd (c':= .ke) (bE w qp) (bQ.refl w) s4 ⟨_,_,qp,?_⟩ mf rfl (bZ (by simp[gr,CK.phi]))
    rw[e4,e3,e2,h0];exact .over trivial
   cases b with
   |zero=>exact out cb.2 (by omega)
   |succ b=>
    obtain⟨_,h0,hv⟩:=cb
    by_cases hz:cG ai.cnt D=0
    ·exact out h0 hz
    obtain⟨g',bE,n',mf⟩:=hv (cG ai.cnt D) (by omega) hle
    refine bB.mA hb hs hp hm hd (c':= .w2 b (cG ai.cnt D)) (bE w ha) (bQ.refl w) s4 ⟨_,_,ha,?_⟩ mf rfl (bZ (by simp only[gr,CK.phi];omega))
    rw[e4,e3,e2];exact .w2 (Nat.le_refl _) (by omega) hle
 |w2 b v=>
  cases n with
  |succ n=>obtain⟨_,g',bE,mf⟩:=cb;exact pH rfl bE mf
  |zero=>
   obtain⟨rfl,rfl,e4,e3,e2,_,XI⟩:=fE.zero (.inr (.inr ⟨b,v,rfl⟩))
   obtain⟨h1,h2,h3⟩:=XI b v rfl
   obtain⟨_,⟨bk,atf,n1,hp1⟩,afM⟩:=cb
   by_cases hv:cG ai.cnt D=v
   ·rw[hv] at ha
    refine bB.mA hb hs hp hm hd (c':= .wr) (atf w ha) (bQ.set w 0 _) s5 ⟨_,_,Go.ConcR.WgAt.setSt ha _,?_⟩ hp1 rfl (bZ (by simp only[gr,CK.phi];omega))
    rw[e4,e3,e2,hv];exact .reg trivial h2
   obtain⟨qz,ate,n2,UJ⟩:=afM (cG ai.cnt D) (by omega)
   refine bB.mA hb hs hp hm hd (c':= .w1 b) (ate w ha) (bQ.refl w) s4 ⟨_,_,ha,?_⟩ UJ rfl (bZ (by simp only[gr,CK.phi];omega))
   rw[e4,e3,e2];exact .w1 (by omega)
 |wr=>
  cases n with
  |succ n=>obtain⟨_,g',bE,mf⟩:=cb;exact pH rfl bE mf
  |zero=>
   obtain⟨_,g',bE,n',mf⟩:=cb
   obtain⟨e8,u,h1,h2⟩:=bB.anR (sl:=sl) (Fin:=Fin) (cl':=some (.w3,n'+1)) (dC:=0) (wr:=true) hb hs hp hm hd (.inr ⟨rfl,rfl⟩) (bE w) ⟨_,_,ha,fE.waiting trivial trivial (.inl (by simp))⟩ hs.mX ⟨⟨n',rfl,mf⟩,rfl⟩
   exact⟨e8,w,u,.w3,n'+1,g',_,h1,h2,bZ (by simp[gr,CK.phi])⟩
 |w3=>
  obtain⟨m',rfl,mf⟩:=cb
  cases m' with
  |succ m'=>
   obtain⟨_,g',bE,mf⟩:=mf
   exact pH rfl bE ⟨m',rfl,mf⟩
  |zero=>
   have y3:E.W3 Fin g:=mf
   obtain⟨h1,h2,U2,g',bE,n',mf⟩:=mf
   rcases fE.up trivial with ⟨_,rfl,rfl⟩| ⟨rfl,rfl,e1,e4,e3,e2⟩
   ·exact bB.mA hb hs hp hm hd (c':= .blk) (n':=0) (U2 w _ ha) (bQ.refl w) (by simp) ⟨_,_,ha,fE.waiting trivial trivial (.inr rfl)⟩ ⟨rfl,g,y3,rfl⟩ rfl (pn (Nat.lt_succ_self 0))
   refine bB.mA hb hs hp hm hd (c':= .w4) (bE w ha) (bQ.set w 1 _) s6 ⟨_,_,Go.ConcR.WgAt.setSm ha _,?_⟩ mf rfl (bZ (by simp[gr,CK.phi]))
   rw[e1,e4,e3,e2];exact .over trivial
 |blk=>
  obtain⟨_,fZ,_,e⟩:=cb
  rw[e] at QP;cases QP
 |w4=>
  obtain⟨e1,e4,e3,e2,rfl,rfl⟩:=fE.run rfl trivial
  cases n with
  |succ n=>obtain⟨_,g',bE,mf⟩:=cb;exact pH rfl bE mf
  |zero=>
   obtain⟨_,g',bE,n',mf⟩:=cb
   refine bB.mA hb hs hp hm hd (c':= .ke) (bE w ha) (bQ.refl w) s4 ⟨_,_,ha,?_⟩ mf rfl (bZ (by simp[gr,CK.phi]))
   rw[e1,e4,e3,e2];exact .over trivial
 |ke=>
  obtain⟨e1,e4,e3,e2,rfl,rfl⟩:=fE.run rfl trivial
  cases n with
  |succ n=>obtain⟨_,g',bE,mf⟩:=cb;exact pH rfl bE mf
  |zero=>
   obtain⟨_,g',bE,n',mf⟩:=cb
   refine bB.mA hb hs hp hm hd (c':= .aq) (bE w) (bQ.refl w) s2 ⟨_,_,ha,?_⟩ mf rfl (bZ (by simp[gr,CK.phi]))
   rw[e1,e4,e3,e2];exact .over trivial
 |aq=>
  cases n with
  |succ n=>obtain⟨_,g',bE,mf⟩:=cb;exact pH rfl bE mf
  |zero=>exact absurd ⟨rfl,rfl⟩ Z5
 |run tr=>exact cb.elim
end
theorem Ve(h1:r.cnt=0)(h4:r.c4=0)(h3:r.c3=0)(h2:r.c2=0):∃q d c,r= .leave q d c:=by
 cases r with
 |leave q d c=>exact⟨q,d,c,rfl⟩
 |st k n=>cases k<;>simp[ai.cnt,ai.c4,ai.c3,ai.c2] at h1 h4 h3 h2
 |_=>exact absurd h1 (by simp[ai.cnt])
def aDZ:ai ι→Nat
 | .leave q _ _=>q
 |_=>0
def DZ(E:de ι)(L0:Nat→Option Obj)(s:St)(S:Value→List (Nat×Obj)→St):Prop:=
 ∀l v X w,E.Gd l v X→aZ s w→(∀b o,L0 b=some o→w.heap[b]?=some o)→(X.map (·.1)).Nodup→(∀b o,(b,o)∈X→w.heap[b]?=some o∧L0 b=none∧Obj.real o=true∧¬s.knows b)→w.heap[E.Hb]?=some (E.full v)→L0 E.Hb=none→¬s.owns E.Hb→
  aZ (S v X) w∧∀b,(S v X).knows b→L0 b≠none∨s.knows b∨∃o,(b,o)∈X
theorem bB.finish(hb:jM E L K gs w t D)(hs:s9 E L0 L K gs w t D 0 (some (.aq,0)) o m l)(hp:E.LJ (l++fq D) os)(hm:gs[0]?=some g) (hd:Deaf t 0=0) (hS:DZ E L0 (K 0) S)
 (hgo:stepG E.P true g w= .go g' w #[said (.acquire (stA E.Wg))]):
 ∃e8 u q v X,runT E.P (crowd gs w sl) 0=(.next (crowd e8 w sl),u)∧Lv E.P db (fun _=>none) (dL K 0 (S v X)) e8 w (t++u) q∧e8[0]?=some g'∧Deaf (t++u) 0=0∧Ce E.os E.out (dL K 0 (S v X)) w (t++u)∧l.Perm os∧E.Gd l v X:=by
 obtain⟨st,sm,ha,fE⟩:=hs.cells
 obtain⟨e1,e4,e3,e2,rfl,rfl⟩:=fE.run rfl trivial
 have tJ:∀(k:Nat) (r:ai ι),D[k]?=some r→∃q d c,r= .leave q d c:=fun k r hk=>Ve (by have:=sx ai.cnt hk;omega) (by have:=sx ai.c4 hk;omega) (by have:=sx ai.c3 hk;omega) (by have:=sx ai.c2 hk;omega)
 have bx:=runT_crowd_go (P:=E.P) (sl:=sl) (i:=0) hm (by simpa using hgo)
 have q1:MemOp.ofEvents 0 g.frame.fn g.frame.place #[said (.acquire (stA E.Wg))]= #[{g:=0,fn:=g.frame.fn,pos:=g.frame.place,act:= .mark (.acquire (stA E.Wg))}]:=by rw[ofEvents_eq];simp[said,Go.ConcR.ofEvent_mk]
 rw[q1] at bx
 generalize hu:(#[{g:=0,fn:=g.frame.fn,pos:=g.frame.place,act:= .mark (.acquire (stA E.Wg))}]:Trace)=u at bx
 have wX:∀op∈u,op.g=0∧op.act= .mark (.acquire (stA E.Wg)):=by rw[←hu];intro op av;simp at av;subst av;exact⟨rfl,rfl⟩
 have SJ:∀op∈u,op.act.touch?=none:=fun op av=>by rw[(wX op av).2];rfl
 have hr:(t++u)[t.size]?=some {g:=0,fn:=g.frame.fn,pos:=g.frame.place,act:= .mark (.acquire (stA E.Wg))}:=by rw[←hu];simp
 have heard:(t++u).heard t.size:=⟨0,by simp[Trace.g?,hr],by rw[deaf_old (Nat.le_refl _)];exact hd⟩
 have hdu:Deaf (t++u) 0=0:=by
  have:=Deaf_own t 0 g.frame.fn g.frame.place #[said (.acquire (stA E.Wg))]
  rw[q1,hu,hd] at this
  rw[this];rfl
 have cF:∀k,∀op∈u,op.g≠k+1:=fun k op av=>by rw[(wX op av).1];omega
 have hdo:∀k,Deaf (t++u) (k+1)=Deaf t (k+1):=fun k=>eP _ _ (cF k)
 have fP:∀k r,D[k]?=some r→db (t++u) (k+1):=fun k r hk=>by
  obtain⟨x,hx,bF⟩:=hb.ok k r hk
  obtain⟨q,d,cur,rfl⟩:=tJ k r hk
  cases cur with
  |false=>exact(bF.2.2.2.2 rfl).other (cF k)
  |true=>
   obtain⟨rr,hrr⟩:=bF.2.2.2.1 rfl
   have bO:=lt_of_act? hrr.act
   have HT:HappensBefore (t++u) rr t.size:= .single (.inr ⟨.marked bO (.inr (by rw[act?_old bO];exact hrr.act)) (by rw[act?_of hr]) (fun k _ hk=>by rw[act?_old (by omega)];exact hs.norel _ k),(heard_old bO).2 hrr.heard,heard⟩)
   intro p mf hct
   obtain⟨op,ho,aae⟩:=Option.map_eq_some_iff.1 mf
   rcases getElem?_append_cases ho with ⟨Jq,_⟩| ⟨_,fM⟩
   ·have hp1:t.g? p=some (k+1):=by rw[←g?_old (u:=u) Jq];exact mf
    have aPx:=(counts_old Jq).1 hct
    have hle:p≤rr:=Nat.le_of_not_lt fun bO=>hrr.after p bO hp1 aPx
    refine⟨t.size,by simp[Trace.g?,hr],?_⟩
    rcases Nat.lt_or_ge p rr with h1|h1
    ·exact(hb_app u (.single (.inl ⟨h1,_,hp1,hrr.g⟩))).trans HT
    obtain rfl:p=rr:=by omega
    exact HT
   exact absurd aae (cF k op fM)
 rcases hs.gu with ⟨j,o1,os1,tr1,hj,_⟩| ⟨tL,v,X,Nw,gX,hX,hLs,hHb,htk⟩
 ·obtain⟨_,_,_,e⟩:=tJ j _ hj;cases e
 have xJ:=hb.fit.quiet (u:=u) (w':=w) E.Mu hs.kM hs.lM (Nat.le_refl _) (fun _ _ _=>rfl) SJ
 have Q7:∀j,j≠0→∀b,¬(K j).knows b:=fun j hj b hk=>by
  rcases Nat.lt_or_ge j gs.size with h1|h1
  ·obtain⟨k,rfl⟩:∃k,j=k+1:=⟨j-1,by omega⟩
   have bO:k <D.length:=by have:=hb.size;omega
   obtain⟨x,hx,bF⟩:=hb.ok k _ (List.getElem?_eq_getElem bO)
   obtain⟨q,d,c,e⟩:=tJ k _ (List.getElem?_eq_getElem bO)
   rw[e] at bF
   rw[bF.1] at hk
   rcases hk with hk| ⟨o,ho⟩
   ·exact hk rfl
   cases ho
  exact hb.RN j h1 b hk
 have L0n:∀b,L b=none→L0 b=none:=fun b hb=>by
  cases h':L0 b with
  |none=>rfl
  |some o=>rw[hLs b o h'] at hb;cases hb
 obtain⟨hS1,hS2⟩:=hS l v X w Nw (hb.fit.iX 0) (fun b o hl=>hb.fit.wW b o (hLs b o hl)) gX (fun b o hbx=>⟨hb.fit.wW b o (hX b o hbx).1,(hX b o hbx).2.1,(hX b o hbx).2.2.1,(hX b o hbx).2.2.2 0⟩) hHb (L0n _ hs.lH) (hs.nH 0)
 have BJ:=xJ.alone (i:=0) Q7 (S v X) hS1 (fun b hk=>by
  rcases hS2 b hk with h1|h1| ⟨o',h1⟩
  ·refine .inl fun e=>h1 (L0n b e)
  ·exact .inr h1
  ·exact .inl (by rw[(hX b o' h1).1];simp)) fun b _ p y hy xb hyb=>by
  obtain⟨op,ho,hyo⟩:=touch_of hy
  have bO:op.g <gs.size:=by
   rcases Array.mem_append.1 (mem_of_getElem? ho) with h'|h'
   ·exact hb.ops op h'
   rw[(wX op h').1,hb.size];omega
  cases aae:op.g with
  |zero=>have:=knows_own ho;rwa[aae] at this
  |succ k=>
   have hk:k <D.length:=by have:=hb.size;omega
   obtain⟨j,hj,ju⟩:=fP k _ (List.getElem?_eq_getElem hk) p (by simp[Trace.g?,ho,aae]) ⟨y,by simpa [touchAt] using hy,by cases hl:y.loc<;>simp_all[blk,Loc.isMemory],.inl (by rw[xb];simp)⟩
   obtain⟨z',zn,hzg⟩:=Option.map_eq_some_iff.1 hj
   exact⟨j,z',zn,hzg,.inr ju⟩
 have tI:∀k r x,D[k]?=some r→gs[k+1]?=some x→woken E.P g g' w x=x:=fun k r x hk hx=>by
  obtain⟨y,hy,bF⟩:=hb.ok k r hk
  rw[hx] at hy;cases hy
  obtain⟨q,d,c,rfl⟩:=tJ k r hk
  unfold Go.Conc.woken
  split
  ·exact again_running _ bF.2.1.status
  rfl
 have aOP:fq D=[]:=by
  unfold fq
  rw[List.flatMap_eq_nil_iff]
  intro r hr
  obtain⟨k,hk⟩:=List.getElem?_of_mem hr
  obtain⟨q,d,c,rfl⟩:=tJ k r hk;rfl
 refine⟨_,u,D.map aDZ,v,X,bx,⟨BJ,by simp[hb.size],fun k q hk=>?_,fun j b hj hk=>?_,fun op av=>?_⟩,?_,hdu,⟨fun a=>(hs.norel a).app fun op av=>by rw[(wX op av).2];simp,hb.same⟩,?_,Nw⟩
 ·rw[List.getElem?_map] at hk
  obtain⟨r,mz,rfl⟩:=Option.map_eq_some_iff.1 hk
  obtain⟨x,hx,bF⟩:=hb.ok k r mz
  have bR:=fP k r mz
  have hw1:=tI k r x mz hx
  obtain⟨q,d,c,rfl⟩:=tJ k r mz
  exact⟨x,d,by rw[dW (by omega) hx,hw1],bF.2.1,by rw[hdo];exact bF.2.2.1,bR⟩
 ·rw[aA _ _ hj] at hk;exact Q7 j hj b hk
 ·rw[Array.size_setIfInBounds,Array.size_map]
  rcases Array.mem_append.1 av with h'|h'
  ·exact hb.ops op h'
  rw[(wX op h').1,hb.size];omega
 ·have:=hb.size
  rw[Array.getElem?_setIfInBounds_self_of_lt (by simp;omega)]
 rw[aOP,List.append_nil] at hp;exact hp.1
variable {Q:Machine→Outcome→World→Trace→Prop}
def VV(E:de ι)(Q:Machine→Outcome→World→Trace→Prop)(os:List ι)(S:Value→List (Nat×Obj)→St)(g:Goroutine):Prop:=
 ∀l v X,l.Perm os→E.Gd l v X→TL E.P db (fun _=>none) (Ce E.os E.out) Q g (S v X)
theorem YF(hS:DZ E L0 s S):∀(μ:GM ι) c n K gs w t sl main d0,μ.c=gr E.max (some (c,n))→μ.r=runN gs→
 bB E (VV E Q os S) L0 K gs w t μ.D 0 (some (c,n)) μ.o μ.m os main d0→K 0=s→Ends E.P Q (crowd gs w sl) t:=by
 intro μ
 induction μ using wN.wf.induction with
 |_ μ ih=>
  obtain⟨D,o,m,cc,rn⟩:=μ
  intro c n K gs w t sl main d0 hc hr hI hK
  simp only at hc hr hI
  subst hc hr
  obtain⟨i,bk,d,CF,aN,wF,bE⟩:=crowd_pick (P:=E.P) (gs:=gs) (w:=w) (sl:=sl) hI.awake hI.alive
  have vJ:=hI.at d
  cases i with
  |zero=>
   obtain⟨⟨L,l,hb,hs,hp⟩,hm,hd,cJ⟩:=vJ
   obtain rfl:bk=main:=by rw[aN] at hm;exact Option.some.inj hm
   by_cases ha:c= .aq∧n=0
   ·obtain⟨rfl,rfl⟩:=ha
    obtain⟨⟨_,g',hgo,lY⟩,rfl⟩:=cJ
    obtain⟨e8,u,q,v,X,h1,h2,h3,h4,h5,h6,h7⟩:=bB.finish (sl:=CF) hb hs hp hm hd (S:=S) (hK▸hS) (hgo _)
    exact Ends.next (bE.trans h1) (lY l v X h6 h7 _ e8 _ _ q CF h2 h3 (by rw[au];exact St.le_refl _) h4 h5)
   obtain⟨e8,w',u,c',n',g',d',h1,h2,h3⟩:=bB.wait (sl:=CF) hb hs hp hm hd cJ wF ha
   exact Ends.next (bE.trans h1) (ih ⟨D,o,m,gr E.max (some (c',n')),runN e8⟩ (.c (Nat.le_refl _) rfl rfl h3) c' n' K e8 w' _ CF g' d' rfl rfl h2 hK)
  |succ i=>
   by_cases hq:∀r,D[i]?=some r→r.quiet=false
   ·obtain⟨K',e8,w',u,D',cl',o',m',main',hr,za,oy,hmn,fN,XH,bO⟩:=vJ.other (sl:=CF) aN wF hq
    match cl',fN,za,bO with
    |none,fN,_,_=>exact absurd (fN.2 rfl) (by simp)
    |some (c',n'),_,za,bO=>exact Ends.next (bE.trans hr) (ih ⟨D',o',m',gr E.max (some (c',n')),runN e8⟩ bO c' n' K' e8 w' _ CF main' d0 rfl rfl za (oy.trans hK))
   obtain⟨r,hr⟩:=Classical.not_forall.1 hq
   obtain⟨zo,vF⟩:=Classical.not_imp.1 hr
   obtain⟨K',D',za,oy,XH,bO⟩:=hI.norm zo (by simpa using vF)
   exact ih ⟨D',o,m,gr E.max (some (c,n)),runN gs⟩ (bO _ _) c n K' gs w t sl main d0 rfl rfl za (oy.trans hK)
theorem ajo(hS:DZ E L0 s S)(hkd:E.pw (E.Kd (VV E Q os S)) g):TG E (VV E Q os S) L0 Q 0 nw os 0 g s:=by
 intro K gs w t D o m sl hI hn hle
 obtain⟨n,hkd⟩:=hkd
 have hI:=hI.le0 hle
 refine YF (os:=os) hS ⟨D,o,m,gr E.max (some (.kd,n)),runN gs⟩ .kd n (dL K 0 s) gs w t sl g 0 rfl rfl ?_ (au _ _ _)
 obtain⟨⟨L,l,hb,hs,hp⟩,hm,hd,cJ⟩:=hI
 refine⟨⟨L,l,hb,⟨hs.kW,hs.kM,hs.lW,hs.lM,hs.lH,hs.ne,hs.norel,hs.plain,hs.said,?_,hs.mX,hs.mu,hs.mi,hs.Qh,hs.bO,hs.nH,hs.Nm,hs.gu⟩,hp⟩,hm,hd,hkd,rfl⟩
 obtain⟨st,sm,ha,fE⟩:=hs.cells
 obtain⟨rfl,rfl⟩:=Md.count fE
 obtain⟨e4,e3,e2⟩:=hs.aoa
 exact⟨_,_,ha,by rw[e4,e3,e2];exact .kd⟩
end
def wI(P:Program)(fr:Frame):Option (Func×Array Value):=
 match fr.mode,fr.todo,fr.roundOf with
 | .run,.inRegion ops (i::_)::_,none=>bif ((ops[i]?).map (Region.wanted · (yielded ops fr.tmps))).getD false&& !(FL fr.kind) then (match ops[i]? with
  |some o=>match o.op with
   | .call ⟨.value (.func f),ae,_⟩=>match P.funcs[f]? with
    |some fn=>some (fn,ae.map fr.eval)
    |none=>none
   |_=>none
  |none=>none) else none
 |_,_,_=>none
structure Ca(fn:Func)(E:Array Value→Sem Value):Prop where
 name:(fn.name== "runtime.NumGoroutine")=false
 ad6:fn.body.isNone=true
 next:Extern.findNext fn=none
 ext:Extern.find fn=some E
section
variable {P:Program} {main:Bool} {fr:Frame} {fn:Func} {args:Array Value} {E:Array Value→Sem Value}
theorem HP(h:wI P fr=some (fn,args)):∃ops i rest k o f ae ats,fr=fr.at ⟨fr.tmps,fr.defers⟩ (.inRegion ops (i::rest)::k)∧ops[i]?=some o∧Region.wanted o (yielded ops fr.tmps)=true∧fr.kind≠ .early∧
 o.op= .call {callee:= .value (.func f),args:=ae,argTypes:=ats}∧P.funcs[f]?=some fn∧ae.map (Act.eval ⟨fr.tmps,fr.defers⟩)=args∧∀v,fr.at ((⟨fr.tmps,fr.defers⟩:Act).put o.dst v) (.inRegion ops rest::k)=fr.finish v:=by
 rcases fr with ⟨fnn,tmps,todo,defers,mode,kind,ro⟩
 unfold wI at h
 simp only at h
 split at h<;>try (cases h;done)
 rename_i _ _ _ ops i rest k
 cases hw:(((ops[i]?).map (Region.wanted · (yielded ops tmps))).getD false&& !(FL kind)) with
 |false=>rw[hw] at h;cases h
 |true=>
 rw[hw] at h;simp only[cond_true] at h
 simp only[Bool.and_eq_true] at hw
 split at h<;>try (cases h;done)
 rename_i o ho
 split at h<;>try (cases h;done)
 rename_i f ae ats av
 split at h<;>try (cases h;done)
 rename_i fn' hf
 simp only[Option.some.injEq,Prod.mk.injEq] at h
 obtain⟨rfl,rfl⟩:=h
 have hk:kind≠ .early:=by cases kind<;>first| (simp;done)|cases hw.2
 have hwn:Region.wanted o (yielded ops tmps)=true:=by simpa [ho] using hw.1
 refine⟨ops,i,rest,k,o,f,ae,ats,rfl,ho,hwn,hk,av,hf,rfl,fun v=>?_⟩
 have:=Frame.finish_at (b:=⟨fnn,tmps,.inRegion ops (i::rest)::k,defers,.run,kind,none⟩) (a:=⟨tmps,defers⟩) (ops:=ops) (i:=i) (rest:=rest) (k:=k) (v:=v)
 rw[ho] at this
 exact this.symm
variable {w w':World} {v:Value}
theorem BT(h:wI P fr=some (fn,args))(hE:Ca fn E){tP:Array Event}(bx:(E args).run P w= .ok v w')
 (KR:∀f,(E args).events P w #[⟨.mark (.extern f),false,true⟩]= #[⟨.mark (.extern f),false,true⟩]++tP)(hs:∀x∈tP,x.sync=true∧∀g,x.loc≠ .mark (.extern g))(cs:List Frame):stepG P main (G fr cs) w= .go (G (fr.finish v) cs) w' tP:=by
 obtain⟨ops,i,rest,k,o,f,ae,ats,e,ho,hw,hk,av,hf,ha,lY⟩:=HP h
 have:=stepG_entry (P:=P) (main:=main) (rest:=rest) (b:=fr) (a:=⟨fr.tmps,fr.defers⟩) (kk:=k) (cs:=cs) ho hw hk av hf hE.name hE.ad6 hE.next hE.ext (v:=v) (w':=w') (w:=w) (by rw[ha];exact bx) (by rw[ha];exact KR f) hs
 rw[←e,lY] at this
 exact this
theorem vM{ad:Addr}{k:IntKind}{x y z:Int}(h:wI P fr=some (fn,#[.pointer (some ad),.int k y,.int k z]))(hE:Ca fn (Extern.Atomic.casT (.int k)))(hc:w.cell? ad=some (.int k x))(hz:w.frozen? ad=false)(cF:x≠y)(cs:List Frame):
 stepG P main (G fr cs) w= .go (G (fr.finish (.bool false)) cs) w #[⟨.cell ad,false,true⟩]:=
 BT h hE (by rw[casT_eq];exact run_cas_miss_entry hc hz cF) (fun f=>by rw[casT_eq,events_cas_miss_entry hc hz cF];rfl) (sync_r ad) cs
theorem Dx{ad:Addr}{k:IntKind}{y z:Int}(h:wI P fr=some (fn,#[.pointer (some ad),.int k y,.int k z]))(hE:Ca fn (Extern.Atomic.casT (.int k)))(hc:w.cell? ad=some (.int k y))(hz:w.frozen? ad=false)(cs:List Frame):
 stepG P main (G fr cs) w= .go (G (fr.finish (.bool true)) cs) (w.setCell ad (.int k z)) #[⟨.cell ad,false,true⟩,⟨.cell ad,true,true⟩]:=
 BT h hE (by rw[casT_eq];exact run_cas_hit_entry hc hz) (fun f=>by rw[casT_eq,events_cas_hit_entry hc hz];rfl) (sync_rw ad) cs
theorem Li{k:IntKind}{n:Int}(h:wI P fr=some (fn,#[.int k n]))(hE:Ca fn Extern.Sync.canSpin)(h4:n <4)(cs:List Frame):
 stepG P main (G fr cs) w= .go (G (fr.finish (.bool w.spins)) cs) w.asked #[]:=by
 have h4':¬(n≥4):=by omega
 exact BT h hE (by rw[canSpin_eq,if_neg h4'];rfl) (fun f=>by rw[canSpin_eq,if_neg h4'];rfl) (by simp) cs
theorem ED(h:wI P fr=some (fn,args))(hE:Ca fn Extern.OsHooks.nano)(hq:fn.norace=true)(cs:List Frame):
 stepG P main (G fr cs) w= .go (G (fr.finish (.int .i64 ((w.os.mono+w.tick:Nat):Int))) cs) w.later #[]:=by
 obtain⟨ops,i,rest,k,o,f,ae,ats,e,ho,hw,hk,av,hf,ha,lY⟩:=HP h
 have:=stepG_nanotime (P:=P) (main:=main) (rest:=rest) (b:=fr) (a:=⟨fr.tmps,fr.defers⟩) (kk:=k) (cs:=cs) (w:=w) ho hw hk av hf hE.name hE.ad6 hE.next hE.ext hq
 rw[←e,lY] at this
 exact this
end
def tdR(n i:Nat):Code→List Item→Option (List Item)
 | .region m ops _,k=>bif Nat.beq m n then some (.inRegion ops ((List.range ops.size).drop i)::k) else none
 | .seq a b,k=>match tdR n i a (.code b::k) with
  |some r=>some r
  |none=>tdR n i b k
 | .cond _ x y,k=>match tdR n i x k with
  |some r=>some r
  |none=>tdR n i y k
 | .block id c,k=>tdR n i c (.inBlock id::k)
 | .loop c,k=>tdR n i c (.inLoop c::k)
 | .scope c,k=>tdR n i c (.inScope c::k)
 |_,_=>none
def tdB(n:Nat):Code→List Item→Option (List Item)
 | .seq a b,k=>match tdB n a (.code b::k) with
  |some r=>some r
  |none=>tdB n b k
 | .cond _ x y,k=>match tdB n x k with
  |some r=>some r
  |none=>tdB n y k
 | .block id c,k=>bif Nat.beq id n then some (.code (.block id c)::k) else tdB n c (.inBlock id::k)
 | .loop c,k=>tdB n c (.inLoop c::k)
 | .scope c,k=>tdB n c (.inScope c::k)
 |_,_=>none
def ahU(P:Program)(f:Nat)(td:Code→List Item→Option (List Item)):List Item:=match P.funcs[f]? with
 |some fn=>match fn.body with
  |some c=>match td c [] with
   |some r=>r
   |none=>[]
  |none=>[]
 |none=>[]
def tdF(P:Program)(f n i:Nat):List Item:=ahU P f (tdR n i)
def ovr(v:Nat→Value):List (Nat×Value)→Nat→Value
 | [],i=>v i
 | (j,x)::l,i=>bif Nat.beq i j then x else ovr v l i
def mkT(v:Nat→Value)(l:List (Nat×Value))(n:Nat):Array Value:=((List.range n).map (ovr v l)).toArray
structure FD where
 f:Nat
 td:List Item
 kind:CallKind
 size:Nat
 live:List (Nat×Value)
def FOK(d:FD)(fr:Frame):Prop:=fr.fn=d.f∧fr.todo=d.td∧fr.defers=[]∧fr.mode= .run∧fr.kind=d.kind∧fr.roundOf=none∧fr.tmps.size=d.size∧∀p∈d.live,fr.tmps[p.1]?=some p.2
def VW:List FD→List Frame→Prop
 | [],[]=>True
 |d::ds,f::fs=>FOK d f∧VW ds fs
 |_,_=>False
def AtD(ds:List FD)(cs:List Frame)(g:Goroutine):Prop:=∃f fs,VW ds (f::fs)∧g=G f (fs++cs)
theorem AtD.run{ds:List FD}{cs:List Frame}{g:Goroutine}(h:AtD ds cs g):g.status= .running∧g.offers=none:=by
 obtain⟨f,fs,_,rfl⟩:=h;exact⟨rfl,rfl⟩
def ar6(d:FD)(v:Nat→Value):Frame:=⟨d.f,mkT v d.live d.size,d.td,[],.run,d.kind,none⟩
def cH:List FD→(Nat→Nat→Value)→List Frame
 | [],_=>[]
 |d::ds,v=>ar6 d (v 0)::cH ds fun k=>v (k+1)
theorem adI{T:Array Value}:∀ {l:List (Nat×Value)},(∀p∈l,T[p.1]?=some p.2)→∀i,i <T.size→ovr (fun i=>T.getD i undef) l i=T.getD i undef
 | [],_,i,_=>rfl
 | (j,x)::l,h,i,hi=>by
  simp only[ovr]
  cases e:Nat.beq i j with
  |true=>
   have e:=Nat.eq_of_beq_eq_true e
   subst e
   have:=h (i,x) (by simp)
   simp only[cond_true]
   rw[Array.getD_eq_getD_getElem?,this];rfl
  |false=>simp only[cond_false];exact adI (fun p hp=>h p (by simp[hp])) i hi
theorem FOK.mk{d:FD}(h:FOK d fr):fr=ar6 d fun i=>fr.tmps.getD i undef:=by
 rcases fr with ⟨fn,tmps,todo,defers,mode,kind,ro⟩
 obtain⟨h1,h2,h3,h4,h5,h6,h7,h8⟩:=h
 simp only at h1 h2 h3 h4 h5 h6 h7 h8
 subst h1 h2 h3 h4 h5 h6
 simp only[ar6,Frame.mk.injEq,true_and,and_true]
 apply Array.ext_getElem?
 intro i
 simp only[mkT,←h7]
 rcases Nat.lt_or_ge i tmps.size with hi|hi
 ·have:((List.range tmps.size).map (ovr (fun i=>tmps.getD i undef) d.live)).toArray[i]?=some (ovr (fun i=>tmps.getD i undef) d.live i):=by simp[hi]
  rw[this,adI h8 i hi,Array.getD_eq_getD_getElem?,Array.getElem?_eq_getElem hi];rfl
 rw[Array.getElem?_eq_none hi,Array.getElem?_eq_none (by simpa using hi)]
theorem VW.mk:∀ {ds:List FD} {fs:List Frame},VW ds fs→∃v,fs=cH ds v
 | [],[],_=>⟨fun _ _=>undef,rfl⟩
 |d::ds,f::fs,h=>by
  obtain⟨v,hv⟩:=VW.mk h.2
  exact⟨fun k=>match k with
   |0=>fun i=>f.tmps.getD i undef
   |k+1=>v k,by simp only[cH];rw[←FOK.mk h.1,←hv]⟩
 | [],_::_,h=>h.elim
 |_::_,[],h=>h.elim
abbrev ane:=Nat×List Item×List Deferred×FrameMode×CallKind×Option Nat×Nat×List (Option Value)
def aq0(idx:List Nat)(fr:Frame):ane:=(fr.fn,fr.todo,fr.defers,fr.mode,fr.kind,fr.roundOf,fr.tmps.size,idx.map fun i=>fr.tmps[i]?)
def Fp(d:FD):ane:=(d.f,d.td,[],.run,d.kind,none,d.size,d.live.map fun p=>some p.2)
def sigs:List FD→List Frame→Option (List ane)
 | [],[]=>some []
 |d::ds,f::fs=>match sigs ds fs with
  |some l=>some (aq0 (d.live.map (·.1)) f::l)
  |none=>none
 |_,_=>none
theorem ajz{d:FD}(h:aq0 (d.live.map (·.1)) fr=Fp d):FOK d fr:=by
 simp only[aq0,Fp,Prod.mk.injEq,List.map_map] at h
 obtain⟨h1,h2,h3,h4,h5,h6,h7,h8⟩:=h
 exact⟨h1,h2,h3,h4,h5,h6,h7,fun p hp=>List.map_inj_left.1 h8 p hp⟩
theorem Ws:∀ {ds:List FD} {fs:List Frame},sigs ds fs=some (ds.map Fp)→VW ds fs
 | [],[],_=>trivial
 |d::ds,f::fs,h=>by
  simp only[sigs] at h
  split at h<;>try (cases h;done)
  rename_i l hl
  simp only[List.map_cons,Option.some.injEq,List.cons.injEq] at h
  exact⟨ajz h.1,Ws (by rw[hl,h.2])⟩
 | [],_::_,h=>by cases h
 |_::_,[],h=>by cases h
def goS(st:Frame→Bool)(P:Program)(ty:TypeId):Nat→Frame→List Frame→Option (Frame×List Frame×List Nat)
 |0,_,_=>none
 |n+1,fr,eB=>bif st fr then some (fr,eB,[]) else match GN P ty dr fr eB with
  |some (.go jO dH,[],[],bs)=>match goS st P ty n jO dH with
   |some (f,s,b)=>some (f,s,bs++b)
   |none=>none
  |_=>some (fr,eB,[])
abbrev Rs:=Option (Frame×List Frame×List (Nat×Value)×List (Nat×Nat)×List Nat)
def MC(st:Frame→Bool)(P:Program)(ty:TypeId):List Frame→Rs
 |f::s=>match goS st P ty 400 f s with
  |some (f,s,b)=>some (f,s,[],[],b)
  |none=>none
 | []=>none
def iG(st:Frame→Bool)(P:Program)(ty:TypeId)(c:DY):List Frame→Rs
 |fr::eB=>match SV P ty c fr eB with
  |some (jO,dH,ws,ks,b1,b2)=>match goS st P ty 400 jO dH with
   |some (f,s,b3)=>some (f,s,ws,ks,b1++(b2++b3))
   |none=>none
  |none=>none
 | []=>none
def zc(st:Frame→Bool)(P:Program)(ty:TypeId)(v:Value):List Frame→Rs
 |fr::eB=>MC st P ty (fr.finish v::eB)
 | []=>none
abbrev Out:=Option (Option (List ane)×List (Nat×Value)×List (Nat×Nat)×List Nat)
def Jb(ds:List FD):Rs→Out
 |some (f,s,ws,ks,bs)=>some (sigs ds (f::s),ws,ks,bs)
 |none=>none
def nB:Rs→Nat
 |some (_,_,_,_,bs)=>bs.length
 |none=>0
def Comes(W:Nat)(ds:List FD)(ws:List (Nat×Value))(ks:List (Nat×Nat))(r:Rs):Prop:=Jb ds r=some (some (ds.map Fp),ws,ks,List.replicate (nB r) W)
section
variable {P:Program} {ty:TypeId} {W:Nat} {main:Bool} {Live:World→Prop} {st:Frame→Bool} {ds Dz:List FD} {cs:List Frame} {g:Goroutine}
theorem Comes.ok{ws:List (Nat×Value)}{ks:List (Nat×Nat)}{r:Rs}(h:Comes W ds ws ks r):∃f s bs,r=some (f,s,ws,ks,bs)∧VW ds (f::s)∧∀b∈bs,b=W:=by
 unfold Comes Jb at h
 match r,h with
 |some (f,s,ws',ks',bs),h=>
  simp only[Option.some.injEq,Prod.mk.injEq] at h
  obtain⟨h1,rfl,rfl,h2⟩:=h
  exact⟨f,s,bs,rfl,Ws h1,fun b hb=>by rw[h2] at hb;exact List.eq_of_mem_replicate hb⟩
theorem Ny{Stop:Goroutine→Prop}(hL:∀w,Live w→fF ty W w dr):∀ {n:Nat} {fr f:Frame} {eB s:List Frame} {bs:List Nat},goS st P ty n fr eB=some (f,s,bs)→(∀b∈bs,b=W)→
 ∀cs,(∀g,g=G f (s++cs)→Stop g)→∃m,Pure P main Live Stop m (G fr (eB++cs))
 |0,_,_,_,_,_,h,_,_,_=>by cases h
 |n+1,fr,f,eB,s,bs,h,hb,cs,hS=>by
  simp only[goS] at h
  cases bE:st fr with
  |true=>
   rw[bE] at h
   simp only[cond_true,Option.some.injEq,Prod.mk.injEq] at h
   obtain⟨rfl,rfl,rfl⟩:=h
   exact⟨0,hS _ rfl⟩
  |false=>
  rw[bE] at h;simp only[cond_false] at h
  split at h
  ·rename_i jO dH b1 h0
   split at h<;>try (cases h;done)
   rename_i f2 s2 b2 h1
   simp only[Option.some.injEq,Prod.mk.injEq] at h
   obtain⟨rfl,rfl,rfl⟩:=h
   obtain⟨m,hm⟩:=Ny hL h1 (fun b hm=>hb b (by simp[hm])) cs hS
   refine⟨m+1,rfl,_,fun w hw=>?_,hm⟩
   have:=kN h0 (fun b hm=>hb b (by simp[hm])) (.inr (hL w hw)) cs main
   simp only[OV.is] at this
   rw[this];rfl
  simp only[Option.some.injEq,Prod.mk.injEq] at h
  obtain⟨rfl,rfl,rfl⟩:=h
  exact⟨0,hS _ rfl⟩
theorem yo(hL:∀w,Live w→fF ty W w dr){f:Frame}{s:List Frame}(h:Comes W Dz [] [] (MC st P ty (f::s)))(cs:List Frame):∃m,Pure P main Live (AtD Dz cs) m (G f (s++cs)):=by
 obtain⟨f',s',bs,h1,h2,h3⟩:=h.ok
 simp only[MC] at h1
 split at h1<;>try (cases h1;done)
 rename_i h0
 simp only[Option.some.injEq,Prod.mk.injEq] at h1
 obtain⟨rfl,rfl,_,_,rfl⟩:=h1
 exact Ny hL h0 h3 cs fun g hg=>⟨_,_,h2,hg⟩
theorem acJ(hL:∀w,Live w→fF ty W w dr)(h:∀v,Comes W Dz [] [] (MC st P ty (cH ds v)))(cb:AtD ds cs g):∃m,Pure P main Live (AtD Dz cs) m g:=by
 obtain⟨f,fs,h1,rfl⟩:=cb
 obtain⟨v,hv⟩:=h1.mk
 exact yo hL (by rw[hv];exact h v) cs
theorem Mw(hL:∀w,Live w→fF ty W w dr){c:DY}{ws:List (Nat×Value)}{ks:List (Nat×Nat)}(h:∀v,Comes W Dz ws ks (iG st P ty c (cH ds v)))(cb:AtD ds cs g):
 ∃g',(∀w,fF ty W w c→stepG P main g w= .go g' (CV W w ws) (ks.map (xX W)).toArray)∧∃m,Pure P main Live (AtD Dz cs) m g':=by
 obtain⟨f,fs,h1,rfl⟩:=cb
 obtain⟨v,hv⟩:=h1.mk
 have h:=h v
 rw[←hv] at h
 obtain⟨f',s',bs,h2,h3,h4⟩:=h.ok
 simp only[iG] at h2
 split at h2<;>try (cases h2;done)
 rename_i jO dH ws' ks' b1 b2 h5
 split at h2<;>try (cases h2;done)
 rename_i f2 s2 b3 h6
 simp only[Option.some.injEq,Prod.mk.injEq] at h2
 obtain⟨rfl,rfl,rfl,rfl,rfl⟩:=h2
 exact⟨_,fun w hw=>Bh h5 (fun b hm=>h4 b (by simp[hm])) (fun b hm=>h4 b (by simp[hm])) (.inr hw) cs main,Ny hL h6 (fun b hm=>h4 b (by simp[hm])) cs fun g hg=>⟨_,_,h3,hg⟩⟩
theorem avd(hL:∀w,Live w→fF ty W w dr){x:Value}{e:Frame→Option (Func×Array Value)}{r:Func×Array Value}(he:∀v,(cH ds v).head?.bind e=some r)(h:∀v,Comes W Dz [] [] (zc st P ty x (cH ds v)))(cb:AtD ds cs g):
 ∃f fs,g=G f (fs++cs)∧e f=some r∧∃m,Pure P main Live (AtD Dz cs) m (G (f.finish x) (fs++cs)):=by
 obtain⟨f,fs,h1,rfl⟩:=cb
 obtain⟨v,hv⟩:=h1.mk
 refine⟨f,fs,rfl,?_,yo (st:=st) hL ?_ cs⟩
 ·have:=he v
  rw[←hv] at this;exact this
 have:=h v
 rw[←hv] at this;exact this
end
theorem sj{α:Type}{F:α→Out}{X:α→Out}{l:List α}(h:l.map F=l.map X){x:α}(hx:x∈l):F x=X x:=List.map_inj_left.1 h x hx
end Go.L
