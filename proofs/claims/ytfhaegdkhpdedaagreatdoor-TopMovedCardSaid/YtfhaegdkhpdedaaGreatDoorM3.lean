/- Part 3 of the proof. -/
import Derived.Test.YtfhaegdkhpdedaaGreatDoorM2
import Derived.Conc.AtomicLaws2
import Derived.Conc.ClockLaws
set_option maxRecDepth 100000
set_option maxHeartbeats 4000000
set_option linter.all false
namespace Go.L
open Go Go.Conc
open Go.ConcR (KK wgBlock WgAt stA smA rd wr)
open Go.ConcM (OsLater)
variable {S:Value→List (Nat×Obj)→St} {n mx j m':Nat} {cs:List Frame} {g1:Goroutine} {α:Type} {st sm:Int} {fr:Frame}
section
variable {ι:Type} {E:fW ι} {Fin:Goroutine->Prop}
def U4(a:Addr)(t:Trace)(p:Nat):Prop:=∃r,t.act? r=some (.mark (.releaseMerge a))/\t.heard r/\Before t p r
theorem U4.app{a:Addr}{t:Trace}{p:Nat}(h:U4 a t p)(u:Trace):U4 a (t++u) p:=by
 obtain⟨r,h1,h2,h3⟩:=h;have hr:=lt_of_act? h1;exact⟨r,by grind [act?_old],(heard_old hr).2 h2,h3.app u⟩
variable (E) in
def bj1(n:Nat)(t:Trace)(D:List (aN ι))(p:Nat):Prop:=(Knows t 0 p/\∀(k:Nat) (r:aN ι),D[k]?=some r->r.left=false->Knows t (k+1) p)\/U4 (stA E.Mu) t p\/∃(i:Nat) (r:aN ι),D[i]?=some r/\r.tok=true/\Knows t (i+1) p
variable (E) in
def aiH(X:List (Nat×Obj))(x:Touch):Prop:=(∃b o,(b,o)∈X/\blk x.loc=some b)\/oS E.Hb x.loc
variable (E) in
def Guard(L0 L:Nat->Option Obj)(K:Nat->St)(n:Nat)(w:World)(t:Trace)(D:List (aN ι))(l:List ι):Prop:=
 (∃(i:Nat) (o:ι) (os:List ι) (tr:Tree),D[i]?=some (aN.xj o os l tr)/\L=L0)\/
 ((∀(i:Nat) (r:aN ι),D[i]?=some r->r.iJ=false)/\∃v X,E.Gd l v X/\(X.map (·.1)).Nodup/\(∀b o,(b,o)∈X->L b=some o/\L0 b=none/\Obj.real o=true/\∀j,¬(K j).knows b)/\(∀b o,L0 b=some o->L b=some o)/\
  w.heap[E.Hb]?=some (E.full v)/\∀p x,touchAt t p=some x->aiH E X x->bj1 E n t D p)
def fW.At(E:fW ι)(x:Touch):Prop:=blk x.loc=some E.Wg\/blk x.loc=some E.Mu
def fW.U3(E:fW ι)(l os:List ι):Prop:=l.Perm os/\os.length<=E.mxl
structure zh(E:fW ι)(L0 L:Nat->Option Obj)(K:Nat->St)(gs:Array Goroutine)(w:World)(t:Trace)(D:List (aN ι))(pend:Nat)(cl:yq)(o:Wd)(m:Nat)(l:List ι):Prop where
 kW:∀i,¬(K i).knows E.Wg
 kM:∀i,¬(K i).knows E.Mu
 lW:L E.Wg=none
 lM:L E.Mu=none
 lH:L E.Hb=none
 ne:E.Wg≠E.Mu/\E.Hb≠E.Wg/\E.Hb≠E.Mu
 norel:∀a,NoRelease a t
 plain:∀i,(i=0\/∃k r,i=k+1/\D[k]?=some r/\r.left=false)->∀p x,touchAt t p=some x->E.At x->x.kind= .plain->Knows t i p
 said:∀p x,touchAt t p=some x->blk x.loc=some E.Wg->x.kind= .said->Knows t 0 p
 cells:∃st sm,WgAt E.ty E.Wg w st sm/\Md E.max (e8 aN.cnt D+pend) (e8 aN.c4 D) (e8 aN.c3 D) (e8 aN.c2 D) (cl.map (·.1)) st sm
 pO:e8 aN.cnt D+pend<=E.max
 mu:MuAt E.tm E.Mu w o.enc (m:Nat)
 mi:qH (D.map aN.qO) o m
 ZU:m=1->∀i g,gs[i+1]?=some g->g.status≠ .blocked
 dS:E.Hb <w.heap.size
 nH:∀j,¬(K j).owns E.Hb
 Uf:∀j x,(K j).ro E.Hb=some x->x=E.hole\/∃i r,j=i+1/\D[i]?=some r/\r.iJ=true
 gu:Guard E L0 L K gs.size w t D l
structure dC(E:fW ι)(Fin:Goroutine->Prop)(L0:Nat->Option Obj)(K:Nat->St)(gs:Array Goroutine)(w:World)(t:Trace)(D:List (aN ι))(pend:Nat)(cl:yq)(o:Wd)(m:Nat)(os:List ι)(main:Goroutine)(d0:Nat):Prop where
 bs:∃L l,nX E L K gs w t D/\zh E L0 L K gs w t D pend cl o m l/\E.U3 (l++jQ D) os
 aSF:gs[0]?=some main
 deaf:Deaf t 0=d0
 mok:rk E Fin main d0 cl
variable {L0 L L':Nat->Option Obj} {K:Nat->St} {gs:Array Goroutine} {w w':World} {t u:Trace} {D:List (aN ι)} {pend d0:Nat} {cl:yq} {o:Wd} {m:Nat} {l os:List ι} {main:Goroutine} {sl:Option (Nat×Nat)}
 {i:Nat} {r r':aN ι} {g g':Goroutine} {s':St} {es:Array Event}
theorem uG{k:Nat}{x:aN ι}(hk:(D.set i r')[k]?=some x):(k=i/\x=r')\/(k≠i/\D[k]?=some x):=by
 grind
theorem A6(hi:D[i]?=some r):(D.set i r')[i]?=some r':=by grind
theorem x3{k:Nat}{x:aN ι}(hk:D[k]?=some x) (eo:k≠i):(D.set i r')[k]?=some x:=by grind
theorem Guard.step(h:Guard E L0 L K n w t D l)(hi:D[i]?=some r) (hc:r.iJ=false) (Bp:r'.iJ=false) (yV:r'.left=false->r.left=false)
 (ap5:r.tok=true->r'.tok=true\/∀p,Knows t (i+1) p->U4 (stA E.Mu) (t++u) p) (hk:∀b,L b≠none->¬(K (i+1)).knows b->¬s'.knows b) (hH:w'.heap[E.Hb]?=w.heap[E.Hb]?)
 (hnt:∀op∈u,∀x,op.act.touch?=some x->¬oS E.Hb x.loc/\∀b,blk x.loc=some b->L b≠none->(K (i+1)).knows b):Guard E L0 L (gN K (i+1) s') n w' (t++u) (D.set i r') l:=by
 rcases h with ⟨j,o,os,tr,hj,rfl⟩| ⟨wP,v,X,h1,h2,h3,h4,h5,h6⟩
 .have eo:j≠i:=λe=>by subst e;rw[hi] at hj;cases hj;cases hc
  exact .inl ⟨j,o,os,tr,x3 hj eo,rfl⟩
 refine .inr ⟨λk x hx=>?_,v,X,h1,h2,λb o hb=>⟨(h3 b o hb).1,(h3 b o hb).2.1,(h3 b o hb).2.2.1,λj=>?_⟩,h4,by rw[hH];exact h5,λp x hx hg=>?_⟩
 .rcases uG hx with ⟨_,rfl⟩| ⟨_,mL⟩
  .exact Bp
  exact wP k x mL
 .by_cases e:j=i+1
  .subst e;rw[aY];exact hk b (by rw[(h3 b o hb).1];simp) ((h3 b o hb).2.2.2 _)
  rw[bz _ _ e];exact(h3 b o hb).2.2.2 j
 have mL:touchAt t p=some x:=by
  rcases cd hx with ⟨_,h'⟩| ⟨_,op,hm,_,vx⟩
  .exact h'
  obtain⟨k1,k2⟩:=hnt op hm x vx;rcases hg with ⟨b,o,hb,X3⟩|hh
  .exact absurd (k2 b X3 (by rw[(h3 b o hb).1];simp)) ((h3 b o hb).2.2.2 _)
  exact absurd hh k1
 rcases h6 p x mL hg with h7|h7| ⟨j,y,hj,hy,ep⟩
 .refine .inl ⟨h7.1.app u,λk y hk hy=>?_⟩;rcases uG hk with ⟨rfl,rfl⟩| ⟨_,my⟩
  .exact(h7.2 k r hi (yV hy)).app u
  exact(h7.2 k y my hy).app u
 .exact .inr (.inl (h7.app u))
 by_cases e:j=i
 .subst e;rw[hi] at hj;cases hj;rcases ap5 hy with h8|h8
  .exact .inr (.inr ⟨j,r',A6 hi,h8,ep.app u⟩)
  exact .inr (.inl (h8 p ep))
 exact .inr (.inr ⟨j,y,x3 hj e,hy,ep.app u⟩)
def Guard.inside{it:ι}{ls l':List ι}{tr tr':Tree}(h:Guard E L0 L K n w t D l)(hi:D[i]?=some (.xj it ls l' tr)):Guard E L0 L (gN K (i+1) s') n w' (t++u) (D.set i (.xj it ls l tr')) l/\L=L0:=by
 rcases h with ⟨j,o,os,tr,hj,rfl⟩| ⟨wP,_⟩
 .by_cases e:j=i
  .subst e;rw[hi] at hj;cases hj;exact⟨.inl ⟨j,it,ls,tr',A6 hi,rfl⟩,rfl⟩
  exact⟨.inl ⟨j,o,os,tr,x3 hj e,rfl⟩,rfl⟩
 have:=wP i _ hi;cases this
def oD(E:fW ι)(Fin:Goroutine->Prop)(L0:Nat->Option Obj)(K:Nat->St)(D:List (aN ι))(pend:Nat)(cl:yq)(o:Wd)(m:Nat)(os:List ι)(main:Goroutine)(d0:Nat)(gs:Array Goroutine)(w:World)(sl:Option (Nat×Nat))(t:Trace)(i:Nat):Prop:=
 ∃K' jK w' u D' cl' o' m' main',runT E.P (crowd gs w sl) i=(.next (crowd jK w' sl),u)/\dC E Fin L0 K' jK w' (t++u) D' pend cl' o' m' os main' d0/\K' 0=K 0/\(main.status= .running->main'=main)/\(cl=none↔cl'=none)/\e8 aN.cnt D'<=e8 aN.cnt D/\
  Ct ⟨D',o',m',lZ E.max cl',runN jK⟩ ⟨D,o,m,lZ E.max cl,runN gs⟩
theorem dC.go(hb:nX E L K gs w t D)(hs:zh E L0 L K gs w t D pend cl o m l)(hp:E.U3 (l++jQ D) os)(hm:gs[0]?=some main) (hd:Deaf t 0=d0) (fw:rk E Fin main d0 cl)
 (hi:D[i]?=some r) (hg:gs[i+1]?=some g) (hgo:stepG E.P false g w= .go g' w' es) (hu:u=MemOp.ofEvents (i+1) g.frame.fn g.frame.place es) (GX:mP w w')
 (fq:¬s'.knows E.Wg) (s8:¬s'.knows E.Mu) (hsH:¬s'.owns E.Hb) (hsh:∀x,s'.ro E.Hb=some x->x=E.hole\/r'.iJ=true)
 (sD:E.Hb <w'.heap.size) (hLW:L' E.Wg=none) (hLM:L' E.Mu=none) (hLH:L' E.Hb=none)
 (oe:Fit L' (gN K (i+1) s') w' (t++u)) (hr:kg E (t++u) (i+1) s' g' r')
 (oL:∀op∈u,∀x,op.act.touch?=some x->E.At x->x.kind= .atomic) (jO:∀op∈u,∀a,op.act≠ .mark (.release a)) (yV:r'.left=false->r.left=false)
 (ahQ:r.iJ=false->∀k y,k≠i->D[k]?=some y->y.iJ=true->∀op∈u,∀x,op.act.touch?=some x->¬oS E.Hb x.loc)
 (wQ:r'.cnt<=r.cnt)
 (jY:∀cl':yq,Nb cl cl'->(cl=none↔cl'=none)->(mayWake E.P g=true->(g'.status= .running\/g'.status= .finished)->cl'.map (·.1)≠some .blk)->
  ∃st sm,WgAt E.ty E.Wg w' st sm/\Md E.max (e8 aN.cnt (D.set i r')+pend) (e8 aN.c4 (D.set i r')) (e8 aN.c3 (D.set i r')) (e8 aN.c2 (D.set i r')) (cl'.map (·.1)) st sm)
 {o':Wd} {l':List ι} (FZ:MuAt E.tm E.Mu w' o'.enc (m':Nat)) (hmi:qH ((D.set i r').map aN.qO) o' m')
 (WE:m'=1->(m=1\/mayWake E.P g=true)/\(g'.status= .running\/g'.status= .finished))
 (hgu:Guard E L0 L' (gN K (i+1) s') gs.size w' (t++u) (D.set i r') l') (aaI:(l'++jQ (D.set i r')).Perm (l++jQ D))
 (Uh:DZ (D.set i r') m' <DZ D m\/(DZ (D.set i r') m'<=DZ D m/\o'=o/\tE o r' r)):
 oD E Fin L0 K D pend cl o m os main d0 gs w sl t (i+1):=by
 have CJ:∀op∈u,op.g=i+1:=by rw[hu];exact λop a8=>Go.ConcR.g_of_ofEvents op a8
 have dz:runT E.P (crowd gs w sl) (i+1)=(.next (crowd ((gs.map (woken E.P g g' w')).setIfInBounds (i+1) g') w' sl),u):=by rw[hu];exact runT_crowd_go (P:=E.P) (sl:=sl) (i:=i+1) hg (by simpa using hgo)
 have dS:=(aB.1 hi).1;have uniq:∀k y,k≠i->D[k]?=some y->y.iJ=true->r.iJ=false:=λk y eo hk hy=>by
  cases hrc:r.iJ with
  |false=>rfl
  |true=>
   exfalso;have e1:(D.map aN.qO)[k]?=some y.qO:=by rw[eG,hk];rfl
   have e2:(D.map aN.qO)[i]?=some r.qO:=by rw[eG,hi];rfl
   exact eo (hs.mi.one e1 e2 (by cases y<;>first|rfl|cases hy) (by cases r<;>first|rfl|cases hrc))
 have Um:=hb.step (g:=g) (r':=r') dS CJ GX oe hr λk y eo hk hy=>ahQ (uniq k y eo hk hy) k y eo hk hy;obtain⟨cl',yw,aSE,hbk,aaF,hnn⟩:=fw.tries g g' w';have F3:∀b,¬s'.knows b->(∀j,¬(K j).knows b)->∀j,¬(gN K (i+1) s' j).knows b:=λb h1 h2 j=>by
  by_cases e:j=i+1
  .subst e;rw[aY];exact h1
  rw[bz _ _ e];exact h2 j
 have old:∀p x,touchAt (t++u) p=some x->E.At x->x.kind≠ .atomic->touchAt t p=some x:=λp x hx hb hk=>by
  rcases cd hx with ⟨_,h'⟩| ⟨_,op,hm,_,vx⟩
  .exact h'
  exact absurd (oL op hm x vx hb) hk
 have aqV:((gs.map (woken E.P g g' w')).setIfInBounds (i+1) g').size=gs.size:=by simp
 refine⟨_,_,w',u,_,cl',o',m',_,dz,⟨⟨L',l',Um,⟨F3 _ fq hs.kW,F3 _ s8 hs.kM,hLW,hLM,hLH,hs.ne,λa=>(hs.norel a).app λop a8=>jO op a8 a,λj hj p x hx hb hk=>?_,λp x hx hb hk=>(hs.said p x (old p x hx (.inl hb) (by rw[hk];simp)) hb hk).app u,
  jY cl' yw hnn hbk,?_,FZ,hmi,λoM k x hx=>?_,sD,λj=>?_,λj x hx=>?_,by rw[aqV];exact hgu⟩,⟨aaI.trans hp.1,hp.2⟩⟩,?_,?_,aSE⟩,bz _ _ (by omega),aaF,hnn,?_,?_⟩
 .refine(hs.plain j ?_ p x (old p x hx hb (by rw[hk];simp)) hb hk).app u;rcases hj with hj| ⟨k,y,rfl,my,hl⟩
  .exact .inl hj
  rcases uG my with ⟨rfl,rfl⟩| ⟨_,aqR⟩
  .exact .inr ⟨_,r,rfl,hi,yV hl⟩
  exact .inr ⟨k,y,rfl,aqR,hl⟩
 .have:=kN aN.cnt (y:=r') hi;have h2:=hs.pO;simp only[e8] at*;omega
 .obtain⟨h1,h2⟩:=WE oM;by_cases e:k=i
  .subst e;rw[oZ (by simpa using lt_size hg)] at hx;cases hx;rcases h2 with h2|h2<;>rw[h2]<;>simp
  have aHI:k <D.length:=by have h3:=lt_size hx;have:=hb.size;simp at h3;omega
  obtain⟨y,hy,dJ⟩:=hb.ok k _ (af aHI);rw[ij (by omega) hy] at hx;cases hx;rcases h1 with h1|h1
  .have h3:=hs.ZU h1 k y hy;have:Go.Conc.woken E.P g g' w' y=y:=by
    unfold Go.Conc.woken;split
    .rcases dJ.running with h4| ⟨_,_,_,_,_,kZ,_,_,_,h5⟩
     .exact again_running _ h4
     rw[h5] at h3;exact absurd rfl h3
    rfl
   rw[this];exact h3
  exact HD h1 h2 dJ
 .by_cases e:j=i+1
  .subst e;rw[aY];exact hsH
  rw[bz _ _ e];exact hs.nH j
 .by_cases e:j=i+1
  .subst e;rw[aY] at hx;exact(hsh x hx).imp id λh=>⟨i,r',rfl,A6 hi,h⟩
  rw[bz _ _ e] at hx;rcases hs.Uf j x hx with h1| ⟨k,y,rfl,hk,hy⟩
  .exact .inl h1
  exact .inr ⟨k,y,rfl,x3 hk (by omega),hy⟩
 .rw[ij (by omega) hm]
 .rw[jm _ _ λop a8=>by rw[CJ op a8];omega];exact hd
 .have:=kN aN.cnt (y:=r') hi;simp only[e8];omega
 rcases Uh with h1| ⟨h1,h2,h3⟩
 .exact .p h1
 exact .d h1 h2 (by simp only;rw[h2];exact One.set hi h3)
end
section
variable {ι:Type} {E:fW ι} {Fin:Goroutine->Prop}
variable {L0 L L':Nat->Option Obj} {K:Nat->St} {gs:Array Goroutine} {w w':World} {t u:Trace} {D:List (aN ι)} {pend d0:Nat} {cl:yq} {o:Wd} {m:Nat} {l os:List ι} {main:Goroutine} {sl:Option (Nat×Nat)}
 {i:Nat} {r r':aN ι} {g g':Goroutine} {s':St} {es:Array Event}
theorem avC{l:List α}{i:Nat}{x:α}(h:l[i]?=some x):l.set i x=l:=by
 obtain⟨hl,rfl⟩:=aB.1 h;simp
theorem awL(hl:r'.qO=r.qO)(hi:D[i]?=some r):(D.set i r').map aN.qO=D.map aN.qO:=by
 grind [C2,aN.qO,avC]
theorem vB(hi:D[i]?=some r) (r':aN ι) (m:Nat):DZ (D.set i r') m+r.qO.Jf=DZ D m+r'.qO.Jf:=by
 have:(D.map aN.qO)[i]?=some r.qO:=by grind
 grind [kN,cq.Jf,DZ,C2]
theorem aJs(D:List (aN ι))(m m':Nat):DZ D m'+2*m=DZ D m+2*m':=by grind [DZ]
def E0:∀ {D:List (aN ι)} {i:Nat},D[i]?=some r->(jQ (D.set i r')++r.AT).Perm (jQ D++r'.AT)
 | [],i,h=>by simp at h
 |a::D,0,h=>by
  simp only[jN,aD] at h;subst h;simp only[jQ,List.set_cons_zero,iH];have h1:(r'.AT++List.flatMap aN.AT D++a.AT).Perm (a.AT++(r'.AT++List.flatMap aN.AT D)):=ir;refine h1.trans ?_;rw[bC];exact List.perm_append_comm.append_left _
 |a::D,i+1,h=>by
  have:=E0 (D:=D) (i:=i) (by simpa using h);simp only[jQ,Hp,iH,bC] at this ⊢;exact this.append_left _
theorem uJ(ho:r'.AT=r.AT)(hi:D[i]?=some r):(jQ (D.set i r')).Perm (jQ D):=by
 have:=E0 (r':=r') hi
 grind [List.perm_append_right_iff]
def yT(f:aN ι->Nat)(hi:D[i]?=some r):f r<=e8 f D:=nC f (aj hi)
theorem Ix{st4 st3 st2:Nat}{c:Option CK}(hi:D[i]?=some r)
 (e1:n+r.cnt=e8 aN.cnt D+pend+r'.cnt) (e4:st4+r.c4=e8 aN.c4 D+r'.c4) (e3:st3+r.c3=e8 aN.c3 D+r'.c3) (e2:st2+r.c2=e8 aN.c2 D+r'.c2) (h:Md mx n st4 st3 st2 c st sm):
 Md mx (e8 aN.cnt (D.set i r')+pend) (e8 aN.c4 (D.set i r')) (e8 aN.c3 (D.set i r')) (e8 aN.c2 (D.set i r')) c st sm:=by
 grind [kN,aN.cnt,aN.c4,aN.c3,aN.c2]
def zh.kK(h:zh E L0 L K gs w t D pend cl o m l)(hi:D[i]?=some r) (hw:w'.heap[E.Wg]?=w.heap[E.Wg]?) (h1:r'.cnt=r.cnt) (h4:r'.c4=r.c4) (h3:r'.c3=r.c3) (h2:r'.c2=r.c2):
 ∀cl':yq,Nb cl cl'->∃st sm,WgAt E.ty E.Wg w' st sm/\Md E.max (e8 aN.cnt (D.set i r')+pend) (e8 aN.c4 (D.set i r')) (e8 aN.c3 (D.set i r')) (e8 aN.c2 (D.set i r')) (cl'.map (·.1)) st sm:=by
 intro cl' yw;obtain⟨st,sm,ha,hm⟩:=h.cells;exact⟨st,sm,by unfold WgAt;rw[hw];exact ha,Ix hi (by omega) (by omega) (by omega) (by omega) (hm.ML yw)⟩
structure azy(E:fW ι)(L:Nat->Option Obj)(s s':St)(w w':World)(u:Trace):Prop where
 nW:¬s'.knows E.Wg
 nM:¬s'.knows E.Mu
 nH:¬s'.owns E.Hb
 ro:∀x,s'.ro E.Hb=some x->s.ro E.Hb=some x
 hW:w'.heap[E.Wg]?=w.heap[E.Wg]?
 hM:w'.heap[E.Mu]?=w.heap[E.Mu]?
 hH:w'.heap[E.Hb]?=w.heap[E.Hb]?
 touch:∀op∈u,∀x,op.act.touch?=some x->¬E.At x
 rel:∀op∈u,∀a,op.act≠ .mark (.release a)
 kn:∀b,L b≠none->¬s.knows b->¬s'.knows b
 tk:∀op∈u,∀x,op.act.touch?=some x->∀b,blk x.loc=some b->L b≠none->s.knows b
 hole:(∀x,s.ro E.Hb=some x->x=E.hole)->∀op∈u,∀x,op.act.touch?=some x->¬oS E.Hb x.loc
 sD:E.Hb <w'.heap.size
def zh.xR(h:zh E L0 L K gs w t D pend cl o m l)(hf:Fit L K w t)(ht:Trans (K j) w s' w' es)(fn:FuncId)(pos:String):azy E L (K j) s' w w' (MemOp.ofEvents j fn pos es):=by
 obtain⟨st,sm,ha,_⟩:=h.cells;have hW:E.Wg <w.heap.size:=lt_size ha;have hC:E.Mu <w.heap.size:=lt_size h.mu;have hLl:∀b,L b≠none->b <w.heap.size:=λb hb=>by
  cases e:L b with
  |none=>exact absurd e hb
  |some o=>exact lt_size (hf.CG b o e)
 have kn:∀b,b <w.heap.size->¬(K j).knows b->¬s'.knows b:=λb hb hk my=>by
  rcases my with h'|h'
  .rcases ht.RU b h' with h1|h1|h1
   .omega
   .exact hk (.inl (h1▸h'))
   exact hk (.inr h1)
  rcases ht.own b h' with h1|h1
  .omega
  exact hk (.inr h1)
 have tk:∀op∈MemOp.ofEvents j fn pos es,∀x,op.act.touch?=some x->∀b,blk x.loc=some b->b <w.heap.size->(K j).knows b:=λop a8 x hx b hb dS=>by
  obtain⟨_,b',mz,w9,_⟩:=(yK ht.Am a8).2 x hx;obtain rfl:b'=b:=by rw[hb] at mz;exact(aJ mz).symm
  rcases w9 with h1|h1|h1
  .omega
  .exact .inr h1
  exact .inl h1.2.1
 refine⟨kn _ hW (h.kW j),kn _ hC (h.kM j),λho=>?_,λx hx=>?_,ht.frame _ hW λho=>h.kW j (.inr ho),ht.frame _ hC λho=>h.kM j (.inr ho),ht.frame _ h.dS (h.nH j),λop a8 x hx hb=>?_,λop a8 a e=>?_,λb hb=>kn b (hLl b hb),λop a8 x hx b hb hl=>tk op a8 x hx b hb (hLl b hl),λqS op a8 x hx hh=>?_,Ho h.dS ht.size⟩
 .rcases ht.own _ ho with h1|h1
  .have:=h.dS;omega
  exact h.nH j h1
 .rcases ht.RU _ (by rw[hx];simp) with h1|h1|h1
  .have:=h.dS;omega
  .rw[<-h1];exact hx
  exact absurd h1 (h.nH j)
 .rcases hb with hb|hb
  .exact h.kW j (tk op a8 x hx _ hb hW)
  exact h.kM j (tk op a8 x hx _ hb hC)
 .rw[ofEvents_eq] at a8;obtain⟨e',he,rfl⟩:=Array.mem_map.1 a8;have hl:=Go.ConcR.loc_of_ofEvent e;have:=ht.Am e' he;unfold NU at this;rw[hl] at this;simp[GC] at this
 obtain⟨a,ea,e1,e2⟩:=hh;obtain⟨_,b',mz,w9,_⟩:=(yK ht.Am a8).2 x hx;obtain rfl:b'=E.Hb:=by rw[ea] at mz;simp only[blk,aD] at mz;omega
 rcases w9 with h1|h1| ⟨_,h1,h2⟩
 .have:=h.dS;omega
 .exact h.nH j h1
 cases hr:(K j).ro E.Hb with
 |none=>exact h1 hr
 |some y=>
  have:=qS y hr;subst this;exact h2 ⟨a,E.hc,E.ht,ea,by rw[e1];exact hr,e2⟩
theorem PZ(hmi:qH (D.map aN.qO) o m)(hl:r'.qO=r.qO)(hi:D[i]?=some r):qH ((D.set i r').map aN.qO) o m:=by grind [awL]
theorem zh.EX(hs:zh E L0 L K gs w t D pend cl o m l)(hi:D[i]?=some r) (hc:r.iJ=false):∀x,(K (i+1)).ro E.Hb=some x->x=E.hole:=λx hx=>by
 rcases hs.Uf _ x hx with h1| ⟨k,y,e,hk,hy⟩
 all_goals grind
theorem dC.own(hb:nX E L K gs w t D)(hs:zh E L0 L K gs w t D pend cl o m l)(hp:E.U3 (l++jQ D) os)(hm:gs[0]?=some main) (hd:Deaf t 0=d0) (fw:rk E Fin main d0 cl)
 (hi:D[i]?=some r) (hg:gs[i+1]?=some g) (hgo:stepG E.P false g w= .go g' w' es) (ht:Trans (K (i+1)) w s' w' es) (dz:g'.status= .running)
 (hr:Deaf (t++MemOp.ofEvents (i+1) g.frame.fn g.frame.place es) (i+1)=Deaf t (i+1)->(∀x,s'.ro E.Hb=some x->(K (i+1)).ro E.Hb=some x)->(r.iJ=true->Ca E.Hb t (i+1)->Ca E.Hb (t++MemOp.ofEvents (i+1) g.frame.fn g.frame.place es) (i+1))->kg E (t++MemOp.ofEvents (i+1) g.frame.fn g.frame.place es) (i+1) s' g' r')
 (e1:r'.qO=r.qO) (e2:r'.AT=r.AT) (e3:r'.cnt=r.cnt/\r'.c4=r.c4/\r'.c3=r.c3/\r'.c2=r.c2) (e4:r'.left=r.left) (e5:r'.tok=r.tok) (e6:r'.iJ=r.iJ)
 (e7:r.iJ=true->∃it ls l' tr tr',r= .xj it ls l' tr/\r'= .xj it ls l' tr') (FZ:tE o r' r):
 oD E Fin L0 K D pend cl o m os main d0 gs w sl t (i+1):=by
 have k:=hs.xR hb.fit ht g.frame.fn g.frame.place;have hgp:∀op∈MemOp.ofEvents (i+1) g.frame.fn g.frame.place es,op.g=i+1:=λop a8=>Go.ConcR.g_of_ofEvents op a8;refine dC.go hb hs hp hm hd fw (L':=L) (r':=r') (s':=s') (l':=l) (o':=o) (m':=m) hi hg hgo rfl (mP.ZG ht) k.nW k.nM k.nH (λx hx=>?_) k.sD hs.lW hs.lM hs.lH (hb.fit.own ht _ _) (hr ?_ k.ro ?_)
  (λop a8 x hx mL=>absurd mL (k.touch op a8 x hx)) k.rel (λe=>by rw[<-e4];exact e) (λhc k' y eo hk hy=>k.hole (hs.EX hi hc)) (by omega)
  (λcl' hw _ _=>hs.kK hi k.hW e3.1 e3.2.1 e3.2.2.1 e3.2.2.2 cl' hw) (by unfold MuAt;rw[k.hM];exact hs.mu) (PZ hs.mi e1 hi) (λh=>⟨.inl h,.inl dz⟩) ?_ ((uJ e2 hi).append_left _) (.inr ⟨by have:=vB hi r' m;rw[e1] at this;omega,rfl,FZ⟩)
 .rcases hs.Uf _ x (k.ro x hx) with h1| ⟨k',y,e,hk,hy⟩
  .exact .inl h1
  obtain rfl:k'=i:=by omega
  rw[hi] at hk;cases hk;exact .inr (by rw[e6];exact hy)
 .rw[Deaf_own,ht.deaf]
 .exact λ_ h=>h.app λop a8=> .inl (hgp op a8)
 cases hc:r.iJ with
 |false=>exact hs.gu.step hi hc (by rw[e6];exact hc) (λe=>by rw[<-e4];exact e) (λh=> .inl (by rw[e5];exact h)) k.kn k.hH λop a8 x hx=>⟨k.hole (hs.EX hi hc) op a8 x hx,k.tk op a8 x hx⟩
 |true=>
  obtain⟨it,ls,l',tr,tr',rfl,rfl⟩:=e7 hc;have FC:l'=l:=by
   rcases hs.gu with ⟨j,o1,os1,tr1,hj,_⟩| ⟨wP,_⟩
   .have e1:(D.map aN.qO)[j]?=some (cq.own os1.length):=by rw[eG,hj];rfl
    have e2:(D.map aN.qO)[i]?=some (cq.own ls.length):=by rw[eG,hi];rfl
    have:=hs.mi.one e1 e2 rfl rfl;subst this;rw[hi] at hj;cases hj;rfl
   have:=wP i _ hi;cases this
  subst FC;exact(hs.gu.inside hi).1
def dC.work(hb:nX E L K gs w t D)(hs:zh E L0 L K gs w t D pend cl o m l)(hp:E.U3 (l++jQ D) os)(hm:gs[0]?=some main) (hd:Deaf t 0=d0) (fw:rk E Fin main d0 cl) {ls:List ι} {f:World->Tree}
 (hi:D[i]?=some (.work ls (.node f))) (hg:gs[i+1]?=some g):oD E Fin L0 K D pend cl o m os main d0 gs w sl t (i+1):=by
 obtain⟨dk,cO,dJ⟩:=hb.ok i _ hi;obtain rfl:dk=g:=by rw[hg] at cO;exact(aJ cO).symm
 obtain⟨nZ,dr,lq⟩:=dJ;obtain⟨g',w',es,s',h1,h2,h3,h4⟩:=lq w (hb.fit.nk _);exact dC.own hb hs hp hm hd fw (r':= .work ls (f w)) hi hg h1 h3 h2 (λe _ _=>⟨e.trans nZ,h4⟩) rfl rfl ⟨rfl,rfl,rfl,rfl⟩ rfl rfl rfl (λe=>by cases e) (AY (.mk f w))
theorem dC.still(hb:nX E L K gs w t D)(hs:zh E L0 L K gs w t D pend cl o m l)(hp:E.U3 (l++jQ D) os)(hm:gs[0]?=some main) (hd:Deaf t 0=d0) (fw:rk E Fin main d0 cl)
 (hi:D[i]?=some r) (hg:gs[i+1]?=some g) (hgo:stepG E.P false g w= .go g' w es) (aBT:∀op∈MemOp.ofEvents (i+1) g.frame.fn g.frame.place es,op.act.touch?=none/\∀a,op.act≠ .mark (.release a)) (dz:g'.status= .running\/g'.status= .finished)
 (hr:kg E (t++MemOp.ofEvents (i+1) g.frame.fn g.frame.place es) (i+1) (K (i+1)) g' r')
 (e1:r'.qO=r.qO) (e2:r'.AT=r.AT) (e3:r'.cnt=r.cnt/\r'.c4=r.c4/\r'.c3=r.c3/\r'.c2=r.c2) (e4:r'.left=r.left) (e5:r'.tok=r.tok) (e6:r'.iJ=false) (e7:r.iJ=false) (FZ:tE o r' r):
 oD E Fin L0 K D pend cl o m os main d0 gs w sl t (i+1):=by
 have nt:∀(P:Touch->Prop),∀op∈MemOp.ofEvents (i+1) g.frame.fn g.frame.place es,∀x,op.act.touch?=some x->P x:=λP op a8 x hx=>by grind
 refine dC.go hb hs hp hm hd fw (L':=L) (r':=r') (s':=K (i+1)) (l':=l) (o':=o) (m':=m) hi hg hgo rfl (mP.refl w) (hs.kW _) (hs.kM _) (hs.nH _) (λx hx=> .inl (hs.EX hi e7 x hx)) hs.dS hs.lW hs.lM hs.lH
  (by rw[kB];exact hb.fit.quiet E.Wg hs.kW hs.lW (bu _) (λ_ _ _=>rfl) λop a8=>(aBT op a8).1) hr
  (λop a8 x hx=>nt (λx=>E.At x->x.kind= .atomic) op a8 x hx) (λop a8=>(aBT op a8).2) (λe=>by rw[<-e4];exact e) (λ_ _ _ _ _ _ op a8 x hx=>nt (λx=>¬oS E.Hb x.loc) op a8 x hx) (by omega)
  (λcl' hw _ _=>hs.kK hi rfl e3.1 e3.2.1 e3.2.2.1 e3.2.2.2 cl' hw) hs.mu (PZ hs.mi e1 hi) (λh=>⟨.inl h,dz⟩) ?_ ((uJ e2 hi).append_left _) (.inr ⟨by grind [vB],rfl,FZ⟩)
 exact hs.gu.step hi e7 e6 (λe=>by rw[<-e4];exact e) (λh=> .inl (by rw[e5];exact h)) (λ_ _ h=>h) rfl λop a8 x hx=>nt (λx=>¬oS E.Hb x.loc/\∀b,blk x.loc=some b->L b≠none->(K (i+1)).knows b) op a8 x hx
theorem dC.leave(hb:nX E L K gs w t D)(hs:zh E L0 L K gs w t D pend cl o m l)(hp:E.U3 (l++jQ D) os)(hm:gs[0]?=some main) (hd:Deaf t 0=d0) (fw:rk E Fin main d0 cl) {q d:Nat} {cur:Bool}
 (hi:D[i]?=some (.leave q d cur)) (hg:gs[i+1]?=some g) (hsr:g.status= .running):oD E Fin L0 K D pend cl o m os main d0 gs w sl t (i+1):=by
 obtain⟨dk,cO,dJ⟩:=hb.ok i _ hi;obtain rfl:dk=g:=by grind
 obtain⟨hK,hq,nZ,hc,hk⟩:=dJ;cases q with
 |zero=>have:=hq.1;rw[hsr] at this;cases this
 |succ q=>
  rcases hq with ⟨h1,_⟩| ⟨_,g',es,FZ,dr,Qi⟩
  .rw[hsr] at h1;cases h1
  have hu:=J2 (i:=i+1) (fn:=dk.frame.fn) (pos:=dk.frame.place) FZ;have hrb:∀p,ConcN.RelBy (stA E.Wg) t (i+1) p->ConcN.RelBy (stA E.Wg) (t++MemOp.ofEvents (i+1) dk.frame.fn dk.frame.place es) (i+1) p:=λp hp=>
   ConcN.RelBy.appOwn hp _ _ _ λj e he=> .inl (PW (FZ e (Array.mem_of_getElem? he)))
  refine dC.still hb hs hp hm hd fw (r':= .leave q (deafBehind d es) cur) hi hg (dr w) (λop a8=>⟨hu op a8,λa=>PX FZ a op a8⟩) Qi.status ⟨hK,Qi,?_,λe=>let ⟨r,hr⟩:=hc e;⟨r,hrb r hr⟩,λe=>(hk e).quiet hu⟩ rfl rfl ⟨rfl,rfl,rfl,rfl⟩ rfl rfl rfl rfl (uZ (nI q));rw[Deaf_own,nZ]
theorem B2(i:Nat)(fn:FuncId)(pos:String):MemOp.ofEvents i fn pos #[]= #[]:=rfl
theorem dC.aFV(hb:nX E L K gs w t D)(hs:zh E L0 L K gs w t D pend cl o m l)(hp:E.U3 (l++jQ D) os)(hm:gs[0]?=some main) (hd:Deaf t 0=d0) (fw:rk E Fin main d0 cl) {x:cq} {it:ι} {ls:List ι}
 (hi:D[i]?=some (.lk x (n+1) it ls)) (hg:gs[i+1]?=some g):oD E Fin L0 K D pend cl o m os main d0 gs w sl t (i+1):=by
 obtain⟨dk,cO,dJ⟩:=hb.ok i _ hi;obtain rfl:dk=g:=by grind
 obtain⟨h1,h2,h3,c,cs,h4,h5| ⟨e,_⟩⟩:=dJ
 .obtain⟨_,g',dr,pY⟩:=h5;refine dC.still hb hs hp hm hd fw (r':= .lk x n it ls) hi hg (dr w ⟨_,_,hs.mu⟩) (by rw[B2];simp) (.inl (fW.pu.running pY)) ?_ rfl rfl ⟨rfl,rfl,rfl,rfl⟩ rfl rfl rfl rfl (uZ (nI n));rw[B2,bQ];exact⟨h1,h2,h3,c,cs,h4,.inl pY⟩
 cases e
theorem dC.aD5(hb:nX E L K gs w t D)(hs:zh E L0 L K gs w t D pend cl o m l)(hp:E.U3 (l++jQ D) os)(hm:gs[0]?=some main) (hd:Deaf t 0=d0) (fw:rk E Fin main d0 cl) {x:cq} {ls:List ι}
 (hi:D[i]?=some (.ul x (n+1) ls)) (hg:gs[i+1]?=some g):oD E Fin L0 K D pend cl o m os main d0 gs w sl t (i+1):=by
 obtain⟨dk,cO,dJ⟩:=hb.ok i _ hi;obtain rfl:dk=g:=by grind
 obtain⟨h1,h2,h3,c,cs,⟨_,g',dr,pY⟩,h5⟩:=dJ;refine dC.still hb hs hp hm hd fw (r':= .ul x n ls) hi hg (dr w ⟨_,_,hs.mu⟩) (by rw[B2];simp) (.inl (fW.pu.running pY)) ?_ rfl rfl ⟨rfl,rfl,rfl,rfl⟩ rfl (by cases x<;>rfl) rfl rfl (uZ (nI n));rw[B2,bQ];exact⟨h1,h2,h3,c,cs,pY,h5⟩
theorem dC.ac4(hb:nX E L K gs w t D)(hs:zh E L0 L K gs w t D pend cl o m l)(hp:E.U3 (l++jQ D) os)(hm:gs[0]?=some main) (hd:Deaf t 0=d0) (fw:rk E Fin main d0 cl) {k:WK} 
 (hi:D[i]?=some (.st k (n+1))) (hg:gs[i+1]?=some g):oD E Fin L0 K D pend cl o m os main d0 gs w sl t (i+1):=by
 obtain⟨dk,cO,dJ⟩:=hb.ok i _ hi;obtain rfl:dk=g:=by grind
 obtain⟨hK,nZ,⟨dr,g',hgo,pY⟩,Ue⟩:=dJ;obtain⟨st,sm,ha,_⟩:=hs.cells;refine dC.still hb hs hp hm hd fw (r':= .st k n) hi hg (hgo w ⟨st,sm,ha⟩) (by rw[B2];simp) (.inl (Pure.running (WK.running k) pY)) ?_ rfl rfl (by cases k<;>exact⟨rfl,rfl,rfl,rfl⟩) rfl rfl rfl rfl (uZ (nI n));rw[B2,bQ];exact⟨hK,nZ,pY,Ue⟩
end
def uU.ops{B:Nat}{es:Array Event}(h:∀e∈es,uU B e)(i:Nat)(fn:FuncId)(pos:String):∀op∈MemOp.ofEvents i fn pos es,
 op.g=i/\(∀a,op.act≠ .mark (.release a))/\∀x,op.act.touch?=some x->blk x.loc=some B/\x.kind= .atomic:=by
 intro op a8;rw[ofEvents_eq] at a8;obtain⟨e,he,rfl⟩:=Array.mem_map.1 a8;rcases h e he with rfl|rfl|rfl|rfl| ⟨a,wr,rfl,ha⟩
 .exact⟨rfl,λa=>by simp[said,Go.ConcR.mk,MemAct.ofEvent],λx hx=>by cases hx⟩
 .exact⟨rfl,λa=>by simp[said,Go.ConcR.mk,MemAct.ofEvent],λx hx=>by cases hx⟩
 .exact⟨rfl,λa=>by simp[said,Go.ConcR.mk,MemAct.ofEvent],λx hx=>by cases hx⟩
 .exact⟨rfl,λa=>by simp[said,Go.ConcR.mk,MemAct.ofEvent],λx hx=>by cases hx⟩
 refine⟨rfl,λa=>by cases wr<;>simp[MemAct.ofEvent],λx hx=>?_⟩;cases wr<;>(simp only[MemAct.ofEvent,MemAct.touch?,aD] at hx;subst hx;exact⟨by simp[blk,ha],rfl⟩)
theorem Md.d1g{a b c:Nat}{o:Option CK}(h:Md mx n a b c o st sm)(hn:1<=n):
 ∃v wt:Nat,v+1=n/\wt<=1/\st=((v+1:Nat):Int)*KK+(wt:Int)/\sm=0/\a=0/\b=0/\c=0/\
  ((v=0/\wt=1)->Md mx v 1 0 0 o ((v:Int)*KK+(wt:Int)) 0)/\(¬(v=0/\wt=1)->Md mx v 0 0 0 o ((v:Int)*KK+(wt:Int)) 0):=by
 by_cases ho:o=none
 .cases h with
  |start=>exact⟨n-1,0,by omega,by omega,by grind,rfl,rfl,rfl,rfl,λh=>by omega,λ_=>by simpa using .start⟩
  |_=>cases ho
 exact h.d1 hn ho
section
variable {ι:Type} {E:fW ι} {Fin:Goroutine->Prop}
variable {L0 L L':Nat->Option Obj} {K:Nat->St} {gs:Array Goroutine} {w w':World} {t u:Trace} {D:List (aN ι)} {pend d0:Nat} {cl:yq} {o:Wd} {m:Nat} {l os:List ι} {main:Goroutine} {sl:Option (Nat×Nat)}
 {i:Nat} {r r':aN ι} {g g':Goroutine} {s':St} {es:Array Event}
def zh.vD(h:zh E L0 L K gs w t D pend cl o m l)(hf:Fit L K w t)(hj:j=0\/∃k r,j=k+1/\D[k]?=some r/\r.left=false) {B:Nat} (hB:B=E.Wg\/B=E.Mu) (sD:w'.heap.size=w.heap.size) (hwb:∀b,b≠B->w'.heap[b]?=w.heap[b]?)
 (og:∀e∈es,uU B e) (fn:FuncId) (pos:String):Fit L K w' (t++MemOp.ofEvents j fn pos es):=by
 have ho:=uU.ops og j fn pos;obtain⟨st,sm,ha,_⟩:=h.cells;have hBk:(∀j,¬(K j).knows B)/\L B=none/\B <w.heap.size:=by
  rcases hB with rfl|rfl
  .exact⟨h.kW,h.lW,lt_size ha⟩
  exact⟨h.kM,h.lM,lt_size h.mu⟩
 refine hf.beside B j hBk.1 hBk.2.1 hBk.2.2 (Nat.le_of_eq sD.symm) (λb hb _=>hwb b hb) (λop a8=>(ho op a8).1) λop a8 x hx=>?_;obtain⟨h1,h2⟩:=(ho op a8).2.2 x hx;refine⟨h1,λsd p a vL hc=>h.plain j hj p a vL (by rw[fW.At,hc.1,h1];rcases hB with rfl|rfl<;>simp) ?_⟩;rcases hc.2.2.2 with h3|h3|h3
 .exact h3
 .rw[h2] at h3;cases h3
 rw[h2] at h3;cases h3.2.2
def dC.sync(hb:nX E L K gs w t D)(hs:zh E L0 L K gs w t D pend cl o m l)(hp:E.U3 (l++jQ D) os)(hm:gs[0]?=some main) (hd:Deaf t 0=d0) (fw:rk E Fin main d0 cl)
 (hi:D[i]?=some r) (hg:gs[i+1]?=some g) (hgo:stepG E.P false g w= .go g' w' es) {B:Nat} (hB:B=E.Wg\/B=E.Mu) (sD:w'.heap.size=w.heap.size) (hwb:∀b,b≠B->w'.heap[b]?=w.heap[b]?) (aqK:mP w w') (og:∀e∈es,uU B e)
 (hr:kg E (t++MemOp.ofEvents (i+1) g.frame.fn g.frame.place es) (i+1) (K (i+1)) g' r')
 (e4:r.left=false) (e5:r.tok=true->r'.tok=true\/∀p,Knows t (i+1) p->U4 (stA E.Mu) (t++MemOp.ofEvents (i+1) g.frame.fn g.frame.place es) p) (e6:r'.iJ=false) (e7:r.iJ=false)
 (wQ:r'.cnt<=r.cnt)
 (jY:∀cl':yq,Nb cl cl'->(cl=none↔cl'=none)->(mayWake E.P g=true->(g'.status= .running\/g'.status= .finished)->cl'.map (·.1)≠some .blk)->
  ∃st sm,WgAt E.ty E.Wg w' st sm/\Md E.max (e8 aN.cnt (D.set i r')+pend) (e8 aN.c4 (D.set i r')) (e8 aN.c3 (D.set i r')) (e8 aN.c2 (D.set i r')) (cl'.map (·.1)) st sm)
 {o':Wd} (FZ:MuAt E.tm E.Mu w' o'.enc (m':Nat)) (hmi:qH ((D.set i r').map aN.qO) o' m')
 (WE:m'=1->(m=1\/mayWake E.P g=true)/\(g'.status= .running\/g'.status= .finished)) (aaI:r'.AT=r.AT)
 (Uh:DZ (D.set i r') m' <DZ D m\/(DZ (D.set i r') m'<=DZ D m/\o'=o/\tE o r' r)):
 oD E Fin L0 K D pend cl o m os main d0 gs w sl t (i+1):=by
 have ho:=uU.ops og (i+1) g.frame.fn g.frame.place;have hHB:E.Hb≠B:=by rcases hB with rfl|rfl;exact hs.ne.2.1;exact hs.ne.2.2
 have hLB:L B=none:=by rcases hB with rfl|rfl;exact hs.lW;exact hs.lM
 have nh:∀op∈MemOp.ofEvents (i+1) g.frame.fn g.frame.place es,∀x,op.act.touch?=some x->¬oS E.Hb x.loc:=λop a8 x hx ⟨a,ea,e1,_⟩=>by
  have:=((ho op a8).2.2 x hx).1;rw[ea] at this;simp only[blk,aD] at this;exact hHB (by omega)
 refine dC.go hb hs hp hm hd fw (L':=L) (r':=r') (s':=K (i+1)) (l':=l) (o':=o') (m':=m') hi hg hgo rfl aqK (hs.kW _) (hs.kM _) (hs.nH _) (λx hx=> .inl (hs.EX hi e7 x hx)) (by rw[sD];exact hs.dS) hs.lW hs.lM hs.lH
  (by rw[kB];exact hs.vD hb.fit (.inr ⟨i,r,rfl,hi,e4⟩) hB sD hwb og _ _) hr (λop a8 x hx _=>((ho op a8).2.2 x hx).2) (λop a8=>(ho op a8).2.1) (λ_=>e4) (λ_ _ _ _ _ _=>nh) wQ jY FZ hmi WE ?_ ((uJ aaI hi).append_left _) Uh
 exact hs.gu.step hi e7 e6 (λ_=>e4) e5 (λ_ _ h=>h) (hwb _ hHB) λop a8 x hx=>⟨nh op a8 x hx,λb mz hl=>by
  have:=((ho op a8).2.2 x hx).1;rw[mz] at this;cases this;exact absurd hLB hl⟩
def dC.rH(hb:nX E L K gs w t D)(hs:zh E L0 L K gs w t D pend cl o m l)(hp:E.U3 (l++jQ D) os)(hm:gs[0]?=some main) (hd:Deaf t 0=d0) (fw:rk E Fin main d0 cl) {k:WK}
 (hi:D[i]?=some (.st k 0)) (hg:gs[i+1]?=some g) (hgo:stepG E.P false g w= .go g' w' es) (hw:dV E.oQ w w') (og:∀e∈es,uU E.Wg e) (dz:g'.status= .running\/g'.status= .finished)
 (hr:kg E (t++MemOp.ofEvents (i+1) g.frame.fn g.frame.place es) (i+1) (K (i+1)) g' r') (e1:r'.qO= .out 0) (e2:r'.AT=[]) (e3:r'.iJ=false) (wQ:r'.cnt<=(aN.st (ι:=ι) k 0).cnt) (dS:tE o r' (.st k 0))
 (jY:∀cl':yq,Nb cl cl'->(cl=none↔cl'=none)->(mayWake E.P g=true->(g'.status= .running\/g'.status= .finished)->cl'.map (·.1)≠some .blk)->
  ∃st sm,WgAt E.ty E.Wg w' st sm/\Md E.max (e8 aN.cnt (D.set i r')+pend) (e8 aN.c4 (D.set i r')) (e8 aN.c3 (D.set i r')) (e8 aN.c2 (D.set i r')) (cl'.map (·.1)) st sm):
 oD E Fin L0 K D pend cl o m os main d0 gs w sl t (i+1):=
 dC.sync hb hs hp hm hd fw (o':=o) (m':=m) hi hg hgo (.inl rfl) hw.size hw.block ⟨by rw[hw.same.1];exact OsLater.refl _,hw.same.2⟩ og hr rfl (λe=>by cases e) e3 rfl wQ jY (by unfold MuAt;rw[hw.block _ (show E.Mu≠E.oQ.Wg from ju hs.ne.1)];exact hs.mu) (PZ (r:= .st k 0) hs.mi e1 hi) (λh=>⟨.inl h,dz⟩) e2
  (.inr ⟨by have:=vB hi r' m;rw[e1] at this;have e:(aN.st (ι:=ι) k 0).qO= .out 0:=rfl;rw[e] at this;omega,rfl,dS⟩)
def q7(B k:Nat)(b:Bool):uU B ⟨.cell ⟨B,k,none⟩,b,true⟩:= .inr (.inr (.inr (.inr ⟨_,_,rfl,rfl⟩)))
section
variable (hb:nX E L K gs w t D) (hs:zh E L0 L K gs w t D pend cl o m l) (hp:E.U3 (l++jQ D) os) (hm:gs[0]?=some main) (hd:Deaf t 0=d0) (fw:rk E Fin main d0 cl)
include hb hs hp hm hd fw
def dC.r0(hi:D[i]?=some (.st .r0 0)) (hg:gs[i+1]?=some g):oD E Fin L0 K D pend cl o m os main d0 gs w sl t (i+1):=by
 obtain⟨dk,cO,dJ⟩:=hb.ok i _ hi;obtain rfl:dk=g:=by rw[hg] at cO;exact(aJ cO).symm
 obtain⟨hK,nZ,⟨dr,g',hgo,n,pY⟩,_⟩:=dJ;obtain⟨st,sm,ha,j5⟩:=hs.cells;refine dC.rH hb hs hp hm hd fw (r':= .st .k1 n) hi hg (hgo w) (dV.refl w) (by intro e he;simp at he;subst he;exact .inr (.inr (.inl rfl))) (.inl (Pure.running (WK.running .k1) pY)) ?_ rfl rfl rfl (bu _) (eB (by simp[aN.mu,WK.kz])) λcl' yw _ _=>⟨st,sm,ha,Ix hi rfl rfl rfl rfl (j5.ML yw)⟩;refine⟨hK,?_,pY,λ_=>⟨_,ConcN.RelBy.new nZ _ _⟩⟩;rw[Deaf_own,nZ];rfl
theorem dC.k1(hi:D[i]?=some (.st .k1 0)) (hg:gs[i+1]?=some g):oD E Fin L0 K D pend cl o m os main d0 gs w sl t (i+1):=by
 obtain⟨dk,cO,dJ⟩:=hb.ok i _ hi;obtain rfl:dk=g:=by rw[hg] at cO;exact(aJ cO).symm
 obtain⟨hK,nZ,⟨dr,g',hgo,n,pY⟩,Jh⟩:=dJ;obtain⟨p,jO⟩:=Jh rfl;obtain⟨st,sm,ha,j5⟩:=hs.cells;refine dC.rH hb hs hp hm hd fw (r':= .st .d1 n) hi hg (hgo w) (dV.refl w) (by intro e he;simp at he;subst he;exact .inl rfl) (.inl (Pure.running (WK.running .d1) pY)) ?_ rfl rfl rfl (bu _) (eB (by simp[aN.mu,WK.kz])) λcl' yw _ _=>⟨st,sm,ha,Ix hi rfl rfl rfl rfl (j5.ML yw)⟩;refine⟨hK,?_,pY,λ_=>⟨p,ConcN.RelBy.appOwn jO _ _ _ λj e he=> .inl ?_⟩⟩
 .rw[Deaf_own,nZ];rfl
 have:=Array.mem_of_getElem? he;simp at this;subst this;rfl
def dC.d1(hi:D[i]?=some (.st .d1 0)) (hg:gs[i+1]?=some g):oD E Fin L0 K D pend cl o m os main d0 gs w sl t (i+1):=by
 obtain⟨dk,cO,dJ⟩:=hb.ok i _ hi;obtain rfl:dk=g:=by rw[hg] at cO;exact(aJ cO).symm
 obtain⟨hK,nZ,ap6,Jh⟩:=dJ;obtain⟨p,jO⟩:=Jh rfl;obtain⟨st,sm,ha,j5⟩:=hs.cells;have hn:1<=e8 aN.cnt D+pend:=bS (yT aN.cnt hi) (Nat.le_add_right _ _);obtain⟨v,wt,hv,hwt,rfl,rfl,ea,eb,ec,_,_⟩:=j5.d1g hn;have u2:=hs.pO;obtain⟨dr,dO⟩:=ap6;obtain⟨g',hgo,Qr,aaQ⟩:=dO v wt hwt (show v <E.max by omega);have aaH:ConcN.RelBy (stA E.Wg) (t++MemOp.ofEvents (i+1) dk.frame.fn dk.frame.place #[rd (stA E.Wg),wr (stA E.Wg)]) (i+1) p:=by
  refine ConcN.RelBy.appOwn jO _ _ _ λj e he=> .inr ?_;have Db:Deaf t (i+1)=1:=nZ
  match j,he with
  |0,he=>simp at he;subst he;exact⟨⟨_,_,rfl⟩,by simp[deafBehind,Db]⟩
  |1,he=>simp at he;subst he;exact⟨⟨_,_,rfl⟩,by simp[deafBehind,Db,rd]⟩
  |j+2,he=>simp at he
 have S0:Deaf (t++MemOp.ofEvents (i+1) dk.frame.fn dk.frame.place #[rd (stA E.Wg),wr (stA E.Wg)]) (i+1)=1:=by rw[Deaf_own,nZ];rfl
 have og:∀e∈ #[rd (stA E.Wg),wr (stA E.Wg)],uU E.Wg e:=by intro e he;simp at he;rcases he with rfl|rfl<;>exact q7 _ 0 _
 by_cases hbx:v=0/\wt=1
 .obtain⟨n,pY⟩:=Qr hbx;refine dC.rH hb hs hp hm hd fw (r':= .st .d2 n) hi hg (hgo w ha) (dV.set w 0 _) og (.inl (Pure.running (WK.running .d2) pY)) ⟨hK,S0,pY,λ_=>⟨p,aaH⟩⟩ rfl rfl rfl (bK _) (eB (by simp[aN.mu,WK.kz])) λcl' yw _ _=>?_;obtain⟨v',wt',hv',aGK,est,_,_,_,_,h1,_⟩:=(j5.ML yw).d1g hn;have:v'=v:=by omega
  subst this;have:wt'=wt:=by omega
  subst this;exact⟨_,_,Go.ConcR.WgAt.setSt ha _,Ix hi (by simp[aN.cnt];omega) (by simp[aN.c4];omega) (by simp[aN.c3];omega) (by simp[aN.c2];omega) (h1 hbx)⟩
 obtain⟨q,hq⟩:=aaQ hbx;refine dC.rH hb hs hp hm hd fw (r':= .leave q 1 true) hi hg (hgo w ha) (dV.set w 0 _) og hq.status ⟨hK,hq,S0,λ_=>⟨p,aaH⟩,λe=>(by cases e)⟩ rfl rfl rfl (bK _) (eB (by simp[aN.mu,WK.kz])) λcl' yw _ _=>?_;obtain⟨v',wt',hv',aGK,est,_,_,_,_,_,h1⟩:=(j5.ML yw).d1g hn;have:v'=v:=by omega
 subst this;have:wt'=wt:=by omega
 subst this;exact⟨_,_,Go.ConcR.WgAt.setSt ha _,Ix hi (by simp[aN.cnt];omega) (by simp[aN.c4];omega) (by simp[aN.c3];omega) (by simp[aN.c2];omega) (h1 hbx)⟩
def dC.d2(hi:D[i]?=some (.st .d2 0)) (hg:gs[i+1]?=some g):oD E Fin L0 K D pend cl o m os main d0 gs w sl t (i+1):=by
 obtain⟨dk,cO,dJ⟩:=hb.ok i _ hi;obtain rfl:dk=g:=by rw[hg] at cO;exact(aJ cO).symm
 obtain⟨hK,nZ,⟨dr,g',hgo,n,pY⟩,Jh⟩:=dJ;obtain⟨p,jO⟩:=Jh rfl;obtain⟨st,sm,ha,j5⟩:=hs.cells;have hn:1<=e8 aN.c4 D:=yT aN.c4 hi;obtain⟨rfl,rfl,e1,e4,e3,e2,_⟩:=j5.d2 hn;refine dC.rH hb hs hp hm hd fw (r':= .st .d3 n) hi hg (hgo w ha) (dV.refl w) (by intro e he;simp at he;subst he;exact q7 _ 0 _) (.inl (Pure.running (WK.running .d3) pY)) ?_ rfl rfl rfl (bu _) (eB (by simp[aN.mu,WK.kz])) λcl' yw _ _=>?_
 .refine⟨hK,?_,pY,λ_=>⟨p,ConcN.RelBy.appOwn jO _ _ _ λj e he=> .inr ?_⟩⟩
  .rw[Deaf_own,nZ];rfl
  have Db:Deaf t (i+1)=1:=nZ
  match j,he with
  |0,he=>simp at he;subst he;exact⟨⟨_,_,rfl⟩,by simp[deafBehind,Db]⟩
  |j+1,he=>simp at he
 exact⟨_,_,ha,Ix hi (by simp[aN.cnt];omega) (by simp[aN.c4];omega) (by simp[aN.c3];omega) (by simp[aN.c2];omega) ((j5.ML yw).d2 hn).2.2.2.2.2.2⟩
def dC.d3(hi:D[i]?=some (.st .d3 0)) (hg:gs[i+1]?=some g):oD E Fin L0 K D pend cl o m os main d0 gs w sl t (i+1):=by
 obtain⟨dk,cO,dJ⟩:=hb.ok i _ hi;obtain rfl:dk=g:=by rw[hg] at cO;exact(aJ cO).symm
 obtain⟨hK,nZ,⟨dr,g',hgo,n,pY⟩,Jh⟩:=dJ;obtain⟨p,jO⟩:=Jh rfl;obtain⟨st,sm,ha,j5⟩:=hs.cells;have hn:1<=e8 aN.c3 D:=yT aN.c3 hi;obtain⟨rfl,rfl,e1,e4,e3,e2,_⟩:=j5.d3 hn;refine dC.rH hb hs hp hm hd fw (r':= .st .d4 n) hi hg (hgo w ha) (dV.set w 0 _) (by intro e he;simp at he;subst he;exact q7 _ 0 _) (.inl (Pure.running (WK.running .d4) pY)) ?_ rfl rfl rfl (bu _) (eB (by simp[aN.mu,WK.kz])) λcl' yw _ _=>?_
 .refine⟨hK,?_,pY,λ_=>⟨p,ConcN.RelBy.appOwn jO _ _ _ λj e he=> .inr ?_⟩⟩
  .rw[Deaf_own,nZ];rfl
  have Db:Deaf t (i+1)=1:=nZ
  match j,he with
  |0,he=>simp at he;subst he;exact⟨⟨_,_,rfl⟩,by simp[deafBehind,Db]⟩
  |j+1,he=>simp at he
 exact⟨_,_,Go.ConcR.WgAt.setSt ha _,Ix hi (by simp[aN.cnt];omega) (by simp[aN.c4];omega) (by simp[aN.c3];omega) (by simp[aN.c2];omega) ((j5.ML yw).d3 hn).2.2.2.2.2.2⟩
def dC.d4(hi:D[i]?=some (.st .d4 0)) (hg:gs[i+1]?=some g):oD E Fin L0 K D pend cl o m os main d0 gs w sl t (i+1):=by
 obtain⟨dk,cO,dJ⟩:=hb.ok i _ hi;obtain rfl:dk=g:=by rw[hg] at cO;exact(aJ cO).symm
 obtain⟨hK,nZ,⟨dr,hmw,g',hgo,q,hq⟩,Jh⟩:=dJ;obtain⟨p,jO⟩:=Jh rfl;obtain⟨st,sm,ha,j5⟩:=hs.cells;have hn:1<=e8 aN.c2 D:=yT aN.c2 hi;obtain⟨rfl,rfl,e1,e4,e3,e2,_⟩:=j5.d4 hn;have Db:Deaf t (i+1)=1:=nZ;refine dC.rH hb hs hp hm hd fw (r':= .leave q 1 true) hi hg (hgo w ha) (dV.set w 1 _) (by
  intro e he;simp[semEvents] at he;rcases he with rfl|rfl|rfl|rfl
  .exact .inl rfl
  .exact q7 _ 1 _
  .exact q7 _ 1 _
  exact .inr (.inl rfl)) hq.status ?_ rfl rfl rfl (bu _) (eB (by simp[aN.mu,WK.kz])) λcl' yw _ hbk=>?_
 .refine⟨hK,hq,?_,λ_=>⟨p,ConcN.RelBy.appOwn jO _ _ _ λj e he=>?_⟩,λe=>(by cases e)⟩
  .rw[Deaf_own,nZ];rfl
  match j,he with
  |0,he=>simp[semEvents] at he;subst he;exact .inl rfl
  |1,he=>simp[semEvents] at he;subst he;exact .inr ⟨⟨_,_,rfl⟩,by simp[deafBehind,Db,semEvents]⟩
  |2,he=>simp[semEvents] at he;subst he;exact .inr ⟨⟨_,_,rfl⟩,by simp[deafBehind,Db,semEvents]⟩
  |3,he=>simp[semEvents] at he;subst he;exact .inl rfl
  |j+4,he=>simp[semEvents] at he
 exact⟨_,_,Go.ConcR.WgAt.setSm ha _,Ix hi (by simp[aN.cnt];omega) (by simp[aN.c4];omega) (by simp[aN.c3];omega) (by simp[aN.c2];omega) (((j5.ML yw).d4 hn).2.2.2.2.2.2 (hbk hmw hq.status))⟩
end
end
section
variable {T:List cq} {o o':Wd} {m m' i:Nat} {x x':cq}
def Nx.isL(h:Nx x o m x' o' m')(hx:x.isL=true)(hm:x.mid=true):x'.isL=true/\x'.k=x.k:=by
 cases h<;>(try (cases hx;done))<;>(try (cases hm;done))<;>(try rfl)<;>((try unfold G3)<;>repeat' split)<;>exact⟨rfl,rfl⟩
def Nx.isU(h:Nx x o m x' o' m')(hx:x.isU=true)(hm:x.mid=true):x'.isU=true/\x'.k=x.k:=by
 cases h<;>(try (cases hx;done))<;>(try (cases hm;done))<;>(try rfl)<;>((try unfold ucL)<;>repeat' split)<;>exact⟨rfl,rfl⟩
def Nx.up(h:Nx x o m x' o' m'):m'<=m\/∃k,x= .us k:=by
 cases h<;>first|simp|rfl|rfl
theorem qH.biw(h:qH T o m)(hi:T[i]?=some x):p8 x o:=by
 have hm:=List.mem_of_getElem? hi;cases x with
 |r1 k aw sv it ws=>exact h.aw hi λe=>by simp[cq.B,e]
 |r3 k aw sv it ws=>exact h.aw hi λe=>by simp[cq.B,e]
 |r2 k sv=>
  have hG:=nC cq.G hm;simp only[cq.G] at hG;obtain⟨L,W,S,c⟩:=o;refine⟨λhS=>?_,λhS=>?_⟩
  .obtain⟨h1,h2,h3,h4⟩:=h.star hS;simp only at*;subst hS h1;cases L<;>simp at h3 ⊢ <;>omega
  .obtain⟨h1,h2,h3⟩:=h.norm hS;simp only at*;cases W<;>simp at h1 ⊢;omega
 |a1 k ex=>
  have hA:=nC cq.A hm;simp only[cq.A] at hA;obtain⟨L,W,S,c⟩:=o;cases hS:S with
  |false=>subst hS;obtain⟨h1,h2,h3⟩:=h.norm rfl;omega
  |true=>
   subst hS;obtain⟨h1,h2,h3,h4⟩:=h.star rfl;simp only at*;subst h1;refine⟨rfl,?_,rfl,by show 1<=c;omega⟩;cases L<;>simp at h3 ⊢;omega
 |u0 k=>
  have hH:=nC cq.H hm;simp only[cq.H] at hH;have:=h.held;show o.L=true;cases hL:o.L with
  |true=>rfl
  |false=>rw[hL] at this;simp at this;omega
 |_=>trivial
def qH.cle(h:qH T o m):o.c<=kJ cq.Q T+kJ cq.G T+kJ cq.A T:=by
 cases hS:o.S
 .obtain⟨_,b,_⟩:=h.norm hS;omega
 obtain⟨_,_,_,d⟩:=h.star hS;omega
end
section
variable {ι:Type} {E:fW ι} {Fin:Goroutine->Prop}
variable {L0 L L':Nat->Option Obj} {K:Nat->St} {gs:Array Goroutine} {w w':World} {t u:Trace} {D:List (aN ι)} {pend d0:Nat} {cl:yq} {o:Wd} {m:Nat} {l os:List ι} {main:Goroutine} {sl:Option (Nat×Nat)}
 {i:Nat} {r r':aN ι} {g g':Goroutine} {s':St} {es:Array Event}
theorem agn:∀(D:List (aN ι)),kJ cq.Q (D.map aN.qO)+kJ cq.G (D.map aN.qO)+kJ cq.A (D.map aN.qO)<=e8 aN.cnt D+kJ (λr=>r.qO.Q+r.qO.G+r.qO.A-r.cnt) D
 | []=>by simp[kJ]
 |r::D=>by
  have:=agn D
  grind [kJ]
def zh.few(hb:nX E L K gs w t D)(hs:zh E L0 L K gs w t D pend cl o m l):o.c<=E.max/\m<=1:=by
 refine⟨?_,hs.mi.few.2⟩;have h1:=hs.mi.cle;have h2:=agn D;have h3:kJ (λr:aN ι=>r.qO.Q+r.qO.G+r.qO.A-r.cnt) D=0:=xA _ λr hr=>by
  obtain⟨k,hk⟩:=dA hr;cases r with
  |lk x n it ls=>cases x<;>rfl
  |ul x n ls=>cases x<;>rfl
  |st k n=>cases k<;>rfl
  |_=>rfl
 have:=hs.pO;omega
theorem zh.alone(hs:zh E L0 L K gs w t D pend cl o m l)(hi:D[i]?=some r) (hH:r.qO.H=1) {y:aN ι} (hj:D[j]?=some y) (hy:y.qO.H=1):j=i:=
 hs.mi.one (by grind) (by grind) hy hH
theorem zh.aaf(hi:D[i]?=some r):(D.map aN.qO)[i]?=some r.qO:=by grind
theorem Ms{P:Program}{main:Bool}{Stop:Goroutine->St->Prop}{s:St}(h:gi P main Stop g1 s):∀ {n:Nat} {g:Goroutine},Pure P main (λ_=>True) (· =g1) n g->(g1.status= .running)->gi P main Stop g s
 |0,g,hp,_=>by have:g=g1:=hp;grind
 |n+1,g,⟨h1,g',h2,h3⟩,hs=>(fH P _ _).go h1 (Pure.running (λ_ e=>by grind) h3) (λw=>h2 w bW) (Ms h h3 hs)
section
variable (hb:nX E L K gs w t D) (hs:zh E L0 L K gs w t D pend cl o m l) (hp:E.U3 (l++jQ D) os) (hm:gs[0]?=some main) (hd:Deaf t 0=d0) (fw:rk E Fin main d0 cl)
include hb hs hp hm hd fw
def dC.mid{x:cq}(hi:D[i]?=some r) (hx:r.qO=x) (hg:gs[i+1]?=some g) (ei:E.M.At E.Mu x cs g) (FB:x.mid=true) (hS:x.FY=true->m=1) (nZ:Deaf t (i+1)=x.deaf)
 (eo:r.left=false/\r.iJ=false/\r.cnt=1/\r.c4=0/\r.c3=0/\r.c2=0) (htk:r.tok=true->(∃k,x= .ui k)\/∃k,x= .ur k) (FZ:r.mu o=(2*x.kz o+7,.leaf,0))
 (hr:∀g' x' o' m' n es,Nx x o m x' o' m'->E.pu (E.M.At E.Mu x' cs) n g'->Deaf (t++MemOp.ofEvents (i+1) g.frame.fn g.frame.place es) (i+1)=x'.deaf->
  ∃r',kg E (t++MemOp.ofEvents (i+1) g.frame.fn g.frame.place es) (i+1) (K (i+1)) g' r'/\r'.qO=x'/\r'.AT=r.AT/\r'.iJ=false/\r'.cnt=1/\r'.c4=0/\r'.c3=0/\r'.c2=0/\r'.mu o=(2*x'.kz o+7,.leaf,n)/\((∃k,x= .ui k)->r'.tok=true)):
 oD E Fin L0 K D pend cl o m os main d0 gs w sl t (i+1):=by
 obtain⟨hc,oM⟩:=hs.few hb;have aqK:(D.map aN.qO)[i]?=some x:=by rw[zh.aaf hi,hx]
 have dJ:=hs.mi.ok x (aj aqK);obtain⟨g',w',es,x',o',m',Kk,hgo,htu,og,hde,hur,hus,n,hpu⟩:=E.M.step ei hs.mu hc oM dJ (hs.mi.biw aqK) FB hS;have S0:Deaf (t++MemOp.ofEvents (i+1) g.frame.fn g.frame.place es) (i+1)=x'.deaf:=by rw[Deaf_own,nZ];exact hde
 obtain⟨r',beY,f1,f2,f3,f4,f5,f6,f7,f8,f9⟩:=hr g' x' o' m' n es Kk hpu S0;have hwW:w'.heap[E.Wg]?=w.heap[E.Wg]?:=htu.block _ hs.ne.1;have hmi:qH ((D.set i r').map aN.qO) o' m':=by rw[C2,f1];exact hs.mi.step aqK Kk
 have hgp:=vB hi r' m';have hgm:=aJs D m m';rw[f1,hx] at hgp;refine dC.sync hb hs hp hm hd fw (r':=r') (o':=o') (m':=m') hi hg hgo (.inr rfl) htu.size htu.block htu.later og beY eo.1 (λap5=>?_) f3 eo.2.1 (by rw[f4,eo.2.2.1];exact bu _)
  (λcl' hw _ _=>hs.kK hi hwW (by rw[f4,eo.2.2.1]) (by rw[f5,eo.2.2.2.1]) (by rw[f6,eo.2.2.2.2.1]) (by rw[f7,eo.2.2.2.2.2]) cl' hw) htu.now hmi (λh1=>⟨?_,.inl (fW.pu.running hpu)⟩) f2 ?_
 .rcases htk ap5 with h1| ⟨k,rfl⟩
  .exact .inl (f9 h1)
  refine .inr λp hk=>?_;have e1:=hur k rfl;subst e1;have e2:MemOp.ofEvents (i+1) g.frame.fn g.frame.place #[said (.releaseMerge (stA E.Mu))]= #[{g:=i+1,fn:=g.frame.fn,pos:=g.frame.place,act:= .mark (.releaseMerge (stA E.Mu))}]:=by rw[ofEvents_eq];simp[said,Go.ConcR.ofEvent_mk]
  rw[e2];have hy:(t++ #[({g:=i+1,fn:=g.frame.fn,pos:=g.frame.place,act:= .mark (.releaseMerge (stA E.Mu))}:MemOp)])[t.size]?=some {g:=i+1,fn:=g.frame.fn,pos:=g.frame.place,act:= .mark (.releaseMerge (stA E.Mu))}:=by simp
  exact⟨t.size,by rw[act?_of hy],⟨i+1,by simp[Trace.g?],by rw[deaf_old (bu _)];exact nZ⟩,.inr (hk.hb_new (bu _) hy rfl)⟩
 .rcases Kk.up with h2|h2
  .exact .inl (by omega)
  exact .inr (hus h2)
 rcases Kk.lt dJ (λk e=>by rw[e] at FB;cases FB) with h2| ⟨rfl,rfl,h3,h4⟩
 .exact .inl (by omega)
 exact .inr ⟨by omega,rfl,by unfold tE;rw[f8,FZ];exact eB (by simp only;omega)⟩
def dC.aBh{x:cq}{it:ι}{ls:List ι}(hi:D[i]?=some (.lk x 0 it ls)) (hg:gs[i+1]?=some g) (hsr:g.status= .running) (FB:x.mid=true) (hS:x.FY=true->m=1):oD E Fin L0 K D pend cl o m os main d0 gs w sl t (i+1):=by
 obtain⟨dk,cO,dJ⟩:=hb.ok i _ hi;obtain rfl:dk=g:=by rw[hg] at cO;exact(aJ cO).symm
 obtain⟨h1,h2,h3,c,cs,h4,h5| ⟨_,_,kZ,_,e⟩⟩:=dJ
 .refine dC.mid hb hs hp hm hd fw hi rfl hg h5 FB hS h3 ⟨rfl,rfl,rfl,rfl,rfl,rfl⟩ (λe=>by cases e) rfl λg' x' o' m' n es Kk hpu nZ=>?_;obtain⟨k1,k2⟩:=Kk.isL h1 FB;exact⟨.lk x' n it ls,⟨k1,k2.trans h2,nZ,c,cs,h4,.inl hpu⟩,rfl,rfl,rfl,rfl,rfl,rfl,rfl,rfl,λ⟨k,e⟩=>by subst e;cases h1⟩
 rw[e] at hsr;cases hsr
def dC.aNo{x:cq}{ls:List ι}(hi:D[i]?=some (.ul x 0 ls)) (hg:gs[i+1]?=some g) (FB:x.mid=true):oD E Fin L0 K D pend cl o m os main d0 gs w sl t (i+1):=by
 obtain⟨dk,cO,dJ⟩:=hb.ok i _ hi;obtain rfl:dk=g:=by rw[hg] at cO;exact(aJ cO).symm
 obtain⟨h1,h2,h3,c,cs,h4,h5⟩:=dJ;refine dC.mid hb hs hp hm hd fw hi rfl hg h4 FB (λe=>by cases x<;>first| (cases h1;done)| (cases e;done)) h3 ⟨rfl,rfl,rfl,rfl,rfl,rfl⟩ (λe=>?_) rfl λg' x' o' m' n es Kk hpu nZ=>?_
 .cases x<;>first|exact .inl ⟨_,rfl⟩|exact .inr ⟨_,rfl⟩|cases e
 obtain⟨k1,k2⟩:=Kk.isU h1 FB;refine⟨.ul x' n ls,⟨k1,k2.trans h2,nZ,c,cs,hpu,h5⟩,rfl,rfl,rfl,rfl,rfl,rfl,rfl,rfl,λ⟨k,e⟩=>?_⟩;subst e;cases Kk;rfl
theorem dC.block{x:cq}{it:ι}{ls:List ι}(hi:D[i]?=some (.lk x 0 it ls)) (hg:gs[i+1]?=some g) (hsr:g.status= .running) (hS:x.FY=true) (hm0:m≠1):oD E Fin L0 K D pend cl o m os main d0 gs w sl t (i+1):=by
 obtain⟨dk,cO,dJ⟩:=hb.ok i _ hi
 obtain rfl:dk=g:=by rw[hg] at cO;exact(Option.some.inj cO).symm
 obtain⟨h1,h2,h3,c,cs,h4,h5'⟩:=dJ
 have h5:=h5'.resolve_right fun⟨_,_,kZ,_,e⟩=>by rw[e] at hsr;cases hsr
 obtain⟨k,sv,rfl⟩:∃k sv,x= .s1 k sv:=by cases x<;>first|exact⟨_,_,rfl⟩|cases hS
 have hz:m=0:=by have:=(hs.few hb).2;omega
 subst hz
 have hgo:=E.M.block h5 hs.mu
 have dz:=runT_crowd_go (P:=E.P) (sl:=sl) (i:=i+1) hg (by simpa using hgo)
 have ew:gs.map (woken E.P dk {dk with status:= .blocked} w)=gs:=by
  have:woken E.P dk {dk with status:= .blocked} w=id:=by funext x;simp[Go.Conc.woken]
  rw[this,Array.map_id]
 rw[ew,B2] at dz
 have dS:=lt_size hg
 have qE:∀k,k≠i+1→(gs.setIfInBounds (i+1) {dk with status:= .blocked})[k]?=gs[k]?:=fun k hk=>Array.getElem?_setIfInBounds_ne (Ne.symm hk)
 refine⟨K,_,w,_,D,cl,o,0,main,dz,?_,rfl,fun _=>rfl,Iff.rfl,Nat.le_refl _,.r (Nat.le_refl _) rfl rfl rfl ?_⟩
 ·rw[Array.append_empty]
  refine⟨⟨L,l,⟨hb.fit,by simp[hb.size],fun k y hk=>?_,fun k hk=>hb.far k (by simpa using hk),fun op a8=>by simpa using hb.ops op a8,hb.same⟩,⟨hs.kW,hs.kM,hs.lW,hs.lM,hs.lH,hs.ne,hs.norel,hs.plain,hs.said,hs.cells,hs.pO,hs.mu,hs.mi,fun e=>by omega,hs.dS,hs.nH,hs.Uf,by simpa using hs.gu⟩,hp⟩,by rw[qE 0 (by omega)];exact hm,hd,fw⟩
  by_cases e:k=i
  ·subst e;rw[hi] at hk;cases hk
   exact⟨_,Array.getElem?_setIfInBounds_self_of_lt dS,h1,h2,h3,c,cs,h4,.inr ⟨rfl,rfl,dk,h5,rfl⟩⟩
  obtain⟨z,hz,dJ⟩:=hb.ok k y hk
  exact⟨z,by rw[qE _ (by omega)];exact hz,dJ⟩
 have hl:gs.toList[i+1]?=some dk:=by rw[Array.getElem?_toList];exact hg
 have:=kN (fun g:Goroutine=>if g.status= .running then 1 else 0) (y:={dk with status:= .blocked}) hl
 simp only[runN,Array.toList_setIfInBounds]
 rw[hsr] at this
 simp at this
 omega
end
end
section
variable {ι:Type} {E:fW ι} {Fin:Goroutine->Prop}
variable {L0 L L':Nat->Option Obj} {K:Nat->St} {gs:Array Goroutine} {w w':World} {t u:Trace} {D:List (aN ι)} {pend d0:Nat} {cl:yq} {o:Wd} {m:Nat} {l os:List ι} {main:Goroutine} {sl:Option (Nat×Nat)}
 {i:Nat} {r r':aN ι} {g g':Goroutine} {s':St} {es:Array Event}
def QK(L0:Nat->Option Obj)(X:List (Nat×Obj)):Nat->Option Obj:=λb=>match X.find? (λy=>y.1==b) with
 |some y=>some y.2
 |none=>L0 b
theorem abd{X:List (Nat×Obj)}(kP:(X.map (·.1)).Nodup):∀ {b:Nat} {o:Obj},(b,o)∈X->QK L0 X b=some o:=by
 induction X with
 |nil=>simp
 |cons a X ih=>
  grind [QK]
theorem KN(X:List (Nat×Obj))(b:Nat):QK L0 X b=L0 b\/∃o,(b,o)∈X:=by
 grind [QK]
theorem HZ{l1:List ι}{Stop:Goroutine->St->Prop}{s:St}(h:rA E l1 Stop g1 s):∀ {n:Nat} {g:Goroutine},Pure E.P false (λ_=>True) (· =g1) n g->(g1.status= .running)->rA E l1 Stop g s
 |0,g,hp,_=>by have:g=g1:=hp;grind
 |n+1,g,⟨h1,g',h2,h3⟩,hs=>(sN l1 _).go h1 (Pure.running (λ_ e=>by grind) h3) (λw=>h2 w bW) (HZ h h3 hs)
section
variable (hb:nX E L K gs w t D) (hs:zh E L0 L K gs w t D pend cl o m l) (hp:E.U3 (l++jQ D) os) (hm:gs[0]?=some main) (hd:Deaf t 0=d0) (fw:rk E Fin main d0 cl)
include hb hs hp hm hd fw
def dC.la{k:Nat}{it:ι}{ls:List ι}(hi:D[i]?=some (.lk (.la k) 0 it ls)) (hg:gs[i+1]?=some g):oD E Fin L0 K D pend cl o m os main d0 gs w sl t (i+1):=by
 obtain⟨dk,cO,dJ⟩:=hb.ok i _ hi;obtain rfl:dk=g:=by rw[hg] at cO;exact(aJ cO).symm
 obtain⟨_,h2,nZ,c,cs,⟨qS,aaZ⟩,h5⟩:=dJ;have ei:=h5.resolve_right λ⟨_,e,_⟩=>by cases e
 obtain⟨g',hgo,n,hpu⟩:=E.M.la ei;have wP:∀j y,j≠i->D[j]?=some y->y.qO.H=1->False:=λj y eo hj hy=>eo (hs.alone hi rfl hj hy);rcases hs.gu with ⟨j,o1,os1,tr1,hj,_⟩| ⟨SS,v,X,WR,kP,hX,hLs,hHb,htk⟩
 .have:=hs.alone hi rfl hj rfl;subst this;rw[hi] at hj;cases hj
 have e1:MemOp.ofEvents (i+1) dk.frame.fn dk.frame.place #[said (.acquire (stA E.Mu))]= #[{g:=i+1,fn:=dk.frame.fn,pos:=dk.frame.place,act:= .mark (.acquire (stA E.Mu))}]:=by rw[ofEvents_eq];simp[said,Go.ConcR.ofEvent_mk]
 have hu:∀op∈MemOp.ofEvents (i+1) dk.frame.fn dk.frame.place #[said (.acquire (stA E.Mu))],op.g=i+1/\op.act= .mark (.acquire (stA E.Mu)):=by rw[e1];intro op a8;simp at a8;subst a8;exact⟨rfl,rfl⟩
 have hy:(t++MemOp.ofEvents (i+1) dk.frame.fn dk.frame.place #[said (.acquire (stA E.Mu))])[t.size]?=some {g:=i+1,fn:=dk.frame.fn,pos:=dk.frame.place,act:= .mark (.acquire (stA E.Mu))}:=by rw[e1];simp
 have S0:Deaf (t++MemOp.ofEvents (i+1) dk.frame.fn dk.frame.place #[said (.acquire (stA E.Mu))]) (i+1)=0:=by rw[Deaf_own,nZ];rfl
 generalize hue:MemOp.ofEvents (i+1) dk.frame.fn dk.frame.place #[said (.acquire (stA E.Mu))]=u at hu hy S0;have hmt:∀op∈u,op.act.touch?=none:=λop a8=>by rw[(hu op a8).2];rfl
 have nt:∀(P:Touch->Prop),∀op∈u,∀x,op.act.touch?=some x->P x:=λP op a8 x hx=>by rw[hmt op a8] at hx;cases hx
 have bs8:i+1 <gs.size:=lt_size hg;have heard:(t++u).heard t.size:=⟨i+1,by simp only[Trace.g?,hy,di],by rw[deaf_old (bu _)];exact nZ⟩;have ep:∀p x,touchAt (t++u) p=some x->aiH E X x->Knows (t++u) (i+1) p:=λp x hx hgx=>by
  have mL:touchAt t p=some x:=by
   rcases cd hx with ⟨_,h'⟩| ⟨_,op,a8,_,vx⟩
   .exact h'
   rw[hmt op a8] at vx;cases vx
  rcases htk p x mL hgx with h7| ⟨q,q1,q2,q3⟩| ⟨j,y,hj,hyt,btf⟩
  .exact(h7.2 i _ hi rfl).app u
  .have hq:=lt_of_act? q1;have Q7:HappensBefore (t++u) q t.size:= .single (.inr ⟨.marked hq (.inr (by rw[act?_old hq];exact q1)) (by rw[act?_of hy]) (λk _ hk=>by rw[act?_old (by omega)];exact hs.norel _ k),(heard_old hq).2 q2,heard⟩);exact⟨t.size,_,hy,rfl,.inr ((q3.app u).hb Q7)⟩
  exfalso;have hyH:y.qO.H=1:=by
   cases y with
   |post _ _=>rfl
   |ul z _ _=>cases z<;>first|rfl|cases hyt
   |_=>cases hyt
  have:=hs.alone hi rfl hj hyH;subst this;rw[hi] at hj;cases hj;cases hyt
 have DV:Fit L K w (t++u):=hb.fit.quiet E.Wg hs.kW hs.lW (bu _) (λ_ _ _=>rfl) hmt;have Is:=DV.take (L':=L0) (i:=i+1) (X:=X) (full:=E.full v) (hc:=E.hc) (ht:=E.ht) hLs hX kP qS rfl hHb λp x hx hgx=>ep p x hx hgx;have NF:l.length <E.mxl:=by
  have h1:=hp.1.length_eq;have h2:=hp.2;have h3:=(E0 (r':= .leave 0 0 false) hi).length_eq;simp only[aM,aN.AT,aK,aT] at h1 h3;omega
 obtain⟨tr,gT,hle,MF⟩:=HZ (aaZ l v X WR NF) hpu (by rfl);have nkX:∀b,(∀o,(b,o)∈X->False)->¬(K (i+1)).knows b->b≠E.Hb->¬gT.knows b:=λb h1 h2 h3 hk=>by
  rcases hle.knows hk with h4| ⟨o',h4⟩
  .exact h2 (.inl (by simpa [lh,h3] using h4))
  rcases bI.1 h4 with h5|h5
  .exact h1 o' h5
  exact h2 (.inr ⟨o',h5⟩)
 have awx:∀b,L b=none->∀o,(b,o)∈X->False:=λb hb o h=>by have:=(hX b o h).1;rw[hb] at this;cases this
 have L0n:∀b,L b=none->L0 b=none:=λb hb=>by
  cases h':L0 b with
  |none=>rfl
  |some o=>rw[hLs b o h'] at hb;cases hb
 have hgp:=vB hi (.xj it ls l tr) m;simp only[aN.qO,cq.Jf] at hgp;have h2':k=ls.length:=h2;refine dC.go hb hs hp hm hd fw (L':=L0) (r':= .xj it ls l tr) (s':=gT) (l':=l) (o':=o) (m':=m) hi hg (hgo w) hue.symm (mP.refl w) (nkX _ (awx _ hs.lW) (hs.kW _) (ju hs.ne.2.1)) (nkX _ (awx _ hs.lM) (hs.kM _) (ju hs.ne.2.2)) (λho=>?_) (λ_ _=> .inr rfl) hs.dS (L0n _ hs.lW) (L0n _ hs.lM) (L0n _ hs.lH)
  (Is.le λj=>?_) ⟨S0,λp x hx hh=>ep p x hx (.inr hh),λx hx=>?_,MF⟩ (λop a8 x hx=>nt (λx=>E.At x->x.kind= .atomic) op a8 x hx) (λop a8 a=>by rw[(hu op a8).2];simp) (λ_=>rfl) (λ_ _ _ _ _ _ op a8 x hx=>nt (λx=>¬oS E.Hb x.loc) op a8 x hx) (bu _)
  (λcl' hw _ _=>hs.kK (r':= .xj it ls l tr) hi rfl rfl rfl rfl rfl cl' hw) hs.mu ?_ (λh=>⟨.inl h,.inl ?_⟩) (.inl ⟨i,it,ls,tr,A6 hi,rfl⟩) ((uJ (r:= .lk (.la k) 0 it ls) (r':= .xj it ls l tr) rfl hi).append_left _) (.inr ⟨by omega,rfl,eB (by simp[aN.mu,cq.kz])⟩)
 .obtain⟨o',h4⟩:=hle.owns ho;rcases bI.1 h4 with h5|h5
  .exact awx _ hs.lH o' h5
  exact hs.nH _ ⟨o',h5⟩
 .by_cases e:j=i+1
  .subst e;rw[aY,aY];exact hle
  rw[bz _ _ e,bz _ _ e];exact St.le_refl _
 .rcases hle.bU (by rw[hx];simp) with h4| ⟨o',h4⟩
  .rw[hx] at h4;simp only[lQ] at h4;rw[aJ h4];rfl
  rcases bI.1 h4 with h5|h5
  .exact absurd h5 (awx _ hs.lH o')
  exact absurd ⟨o',h5⟩ (hs.nH (i+1))
 .have:=hs.mi.step (zh.aaf hi) (x':= .own k) (w':=o) (m':=m) .la;rw[C2];simp only[aN.qO];rw[<-h2'];exact this
 exact tC.running (λ_ _ y=>fW.Unl.running y) MF
def dC.store{it:ι}{ls l1:List ι}{tr0 tr:Tree}{gT:St}{v:Value}{X Y:List (Nat×Obj)}{c:Array Value}(hi:D[i]?=some (.xj it ls l1 tr0)) (hg:gs[i+1]?=some g) (nZ:Deaf t (i+1)=0) (aBF:Ca E.Hb t (i+1))
 (qS:(K (i+1)).ro E.Hb=some (.cells c E.ht (0,0))) (A3:wB <c.size) (Qx:c.size=E.hc.size) (hce:∀j,j≠wB->c[j]?=E.hc[j]?) (G4:(K (i+1)).rw.Perm (X++Y)) (WR:E.Gd (l1++[it]) v X)
 (dr:stepG E.P false g w= .go g' (w.setCell ⟨E.Hb,wB,none⟩ v) #[⟨.cell ⟨E.Hb,wB,none⟩,true,false⟩]) (hle:gT.le ⟨lh (K (i+1)).ro E.Hb E.hole,Y⟩) (MF:tC E (l1++[it]) (E.Unl (E.Stp ls) ls.length) tr g' gT):oD E Fin L0 K D pend cl o m os main d0 gs w sl t (i+1):=by
 have uB:l1=l/\L0=L:=by
  rcases hs.gu with ⟨j,o1,os1,tr1,hj,e⟩| ⟨wP,_⟩
  .have:=hs.alone hi rfl hj rfl;subst this;rw[hi] at hj;cases hj;exact⟨rfl,e.symm⟩
  have:=wP i _ hi;cases this
 obtain⟨rfl,hLL⟩:=uB;subst hLL;have uniq:∀j y,j≠i->D[j]?=some y->y.iJ=true->False:=λj y eo hj hy=>eo (hs.alone hi rfl hj (by cases y<;>first|rfl|cases hy));have ha:=hb.fit.nk (i+1);have aex:(X.map (·.1)).Nodup:=by
  have kP:=(G4.map (·.1)).nodup_iff.1 ha.nodup;rw[cC,eF] at kP;exact kP.1
 have ahF:∀b o,(b,o)∈X->(K (i+1)).owns b:=λb o h=>⟨o,G4.mem_iff.2 (by simp[h])⟩;have aUj:∀b o,(b,o)∈X->L0 b=none:=λb o h=>hb.fit.mJ _ b (ahF b o h);have oe:=hb.fit.give (L':=QK L0 X) (i:=i+1) (Hb:=E.Hb) (X:=X) (Y:=Y) (hc:=E.hc) (ht:=E.ht) (c:=c) (v:=v) (λb=>KN X b) (λb o h=>abd aex h) G4 qS A3 E.hht Qx hce hs.lH (λj hj y hy=>by
  rcases hs.Uf j y hy with rfl| ⟨k,z,rfl,hk,hz⟩
  .rfl
  exact absurd hz (by
   cases hzc:z.iJ with
   |false=>simp
   |true=>exact(uniq k z (by omega) hk hzc).elim)) aBF g.frame.fn g.frame.place
 have e1:MemOp.ofEvents (i+1) g.frame.fn g.frame.place #[⟨.cell ⟨E.Hb,wB,none⟩,true,false⟩]= #[{g:=i+1,fn:=g.frame.fn,pos:=g.frame.place,act:= .access ⟨.cell ⟨E.Hb,wB,none⟩,true,false⟩}]:=by rw[ofEvents_eq];simp[MemAct.ofEvent]
 have hu:∀op∈MemOp.ofEvents (i+1) g.frame.fn g.frame.place #[⟨.cell ⟨E.Hb,wB,none⟩,true,false⟩],op.g=i+1/\op.act= .access ⟨.cell ⟨E.Hb,wB,none⟩,true,false⟩:=by rw[e1];intro op a8;simp at a8;subst a8;exact⟨rfl,rfl⟩
 have S0:Deaf (t++MemOp.ofEvents (i+1) g.frame.fn g.frame.place #[⟨.cell ⟨E.Hb,wB,none⟩,true,false⟩]) (i+1)=0:=by rw[Deaf_own,nZ];rfl
 generalize hue:MemOp.ofEvents (i+1) g.frame.fn g.frame.place #[⟨.cell ⟨E.Hb,wB,none⟩,true,false⟩]=u at hu S0 oe;have htc:∀op∈u,∀x,op.act.touch?=some x->x=⟨.cell ⟨E.Hb,wB,none⟩,true,.plain⟩:=λop a8 x hx=>by
  rw[(hu op a8).2] at hx;simp only[MemAct.touch?,aX,cF,aD] at hx;exact hx.symm
 have hwo:∀b,b≠E.Hb->(w.setCell ⟨E.Hb,wB,none⟩ v).heap[b]?=w.heap[b]?:=λb hb=>by simp[World.setCell,fG,ju hb]
 have hwb:w.heap[E.Hb]?=some (.cells c E.ht (0,0)):=(ha.ro E.Hb _ qS).elim (·.1) λh=>h.elim (λ⟨_,_,_,e,_⟩=>by cases e) λ⟨_,_,e,_⟩=>by cases e
 have hw':(w.setCell ⟨E.Hb,wB,none⟩ v).heap[E.Hb]?=some (E.full v):=by
  have:(w.setCell ⟨E.Hb,wB,none⟩ v).heap[E.Hb]?=some (.cells (c.setIfInBounds wB v) E.ht (0,0)):=by simp[World.setCell,fG,hwb]
  rw[this,fW.full];congr 2;apply wU;intro j;by_cases e:j=wB
  .subst e;simp[A3,<-Qx]
  rw[jW (ju e),jW (ju e)];exact hce j e
 have kY:∀b,gT.knows b->(K (i+1)).knows b/\∀o,(b,o)∉X:=λb hk=>by
  have kP:=(G4.map (·.1)).nodup_iff.1 ha.nodup;rw[cC,eF] at kP;rcases hle.knows hk with h4| ⟨o',h4⟩
  .have hr:(K (i+1)).ro b≠none:=by
    by_cases e:b=E.Hb
    .subst e;rw[qS];simp
    simpa [lh,e] using h4
   exact⟨.inl hr,λo ho=>hr (ha.apart b o (G4.mem_iff.2 (by simp[ho])))⟩
  exact⟨.inr ⟨o',G4.mem_iff.2 (by simp[h4])⟩,λo ho=>kP.2.2 b (bB.2 ⟨_,ho,rfl⟩) b (bB.2 ⟨_,h4,rfl⟩) rfl⟩
 have gL:∀b,¬(K (i+1)).owns b->L0 b=none->QK L0 X b=none:=λb h1 h2=>by
  rcases KN (L0:=L0) X b with h3| ⟨o,h3⟩
  .rw[h3];exact h2
  exact absurd (ahF b o h3) h1
 have hgp:=vB hi (.post ls tr) m;simp only[aN.qO,cq.Jf] at hgp;have dz:g'.status= .running:=tC.running (λ_ _ x=>fW.Unl.running x) MF;refine dC.go hb hs hp hm hd fw (L':=QK L0 X) (r':= .post ls tr) (s':=gT) (l':=l1++[it]) (o':=o) (m':=m) hi hg dr hue.symm ⟨OsLater.refl _,rfl⟩ (λhk=>hs.kW _ (kY _ hk).1) (λhk=>hs.kM _ (kY _ hk).1) (λho=>?_) (λx hx=> .inl ?_) (lt_size hw')
  (gL _ (λho=>hs.kW _ (.inr ho)) hs.lW) (gL _ (λho=>hs.kM _ (.inr ho)) hs.lM) (gL _ (hs.nH _) hs.lH) (oe.le λj=>?_) ⟨S0,_,MF⟩ (λop a8 x hx ei=>?_) (λop a8 a=>by rw[(hu op a8).2];simp) (λ_=>rfl) (λe=>by cases e) (bu _)
  (λcl' hw _ _=>hs.kK (r':= .post ls tr) hi (hwo _ (ju hs.ne.2.1)) rfl rfl rfl rfl cl' hw) (by unfold MuAt;rw[hwo _ (ju hs.ne.2.2)];exact hs.mu) (PZ (r:= .xj it ls l1 tr0) hs.mi rfl hi) (λh=>⟨.inl h,.inl dz⟩) (.inr ⟨λk y hk=>?_,v,X,WR,aex,λb o h=>⟨abd aex h,aUj b o h,ha.real b o (G4.mem_iff.2 (by simp[h])),λj hk=>?_⟩,λb o h=>?_,hw',λp x hx hgx=>?_⟩) ?_ (.inr ⟨by omega,rfl,eB (by simp[aN.mu])⟩)
 .obtain⟨o',h4⟩:=hle.owns ho;exact hs.nH _ ⟨o',G4.mem_iff.2 (by simp[h4])⟩
 .rcases hle.bU (by rw[hx];simp) with h4| ⟨o',h4⟩
  .rw[hx] at h4;simp only[lQ] at h4;exact aJ h4
  exact absurd ⟨o',G4.mem_iff.2 (by simp[h4])⟩ (hs.nH (i+1))
 .by_cases e:j=i+1
  .subst e;rw[aY,aY];exact hle
  rw[bz _ _ e,bz _ _ e];exact St.le_refl _
 .obtain rfl:=htc op a8 x hx;rcases ei with e|e
  .exact absurd (aJ e) hs.ne.2.1
  exact absurd (aJ e) hs.ne.2.2
 .rcases uG hk with ⟨_,rfl⟩| ⟨eo,my⟩
  .rfl
  cases hy:y.iJ with
  |false=>rfl
  |true=>exact(uniq k y eo my hy).elim
 .by_cases e:j=i+1
  .subst e;rw[aY] at hk;exact(kY b hk).2 o h
  rw[bz _ _ e] at hk;exact hb.fit.sep (i+1) j b (ju e) (ahF b o h) hk
 .rcases KN (L0:=L0) X b with h3| ⟨o',h3⟩
  .rw[h3];exact h
  rw[aUj b o' h3] at h;cases h
 .refine .inr (.inr ⟨i,.post ls tr,A6 hi,rfl,?_⟩);rcases cd hx with ⟨_,mL⟩| ⟨_,op,a8,ho,vx⟩
  .rcases hgx with ⟨b,o,h,X3⟩|hh
   .exact(hb.fit.perm _ b (ahF b o h) p x mL X3).app u
   exact(aBF p x mL hh).app u
  have:=knows_own ho;rwa[(hu op a8).1] at this
 have h1:=E0 (r':= .post ls tr) hi;simp only[aN.AT] at h1;have h2:(jQ D).Perm (it::jQ (D.set i (.post ls tr))):=by
  refine(List.perm_append_right_iff ls).1 (h1.symm.trans ?_);rw[eg];exact jz
 rw[bC];exact(h2.symm).append_left _
def dC.xj{it:ι}{ls l1:List ι}{tr0:Tree}(hi:D[i]?=some (.xj it ls l1 tr0)) (hg:gs[i+1]?=some g):oD E Fin L0 K D pend cl o m os main d0 gs w sl t (i+1):=by
 obtain⟨dk,cO,dJ⟩:=hb.ok i _ hi;obtain rfl:dk=g:=by rw[hg] at cO;exact(aJ cO).symm
 obtain⟨nZ,htk,NB,MF⟩:=dJ;cases tr0 with
 |leaf=>have:=NB _ MF.1;cases this
 |node f=>
  obtain⟨dr,lq⟩:=MF;obtain⟨g',w',es,s',h1,h2,h3| ⟨v,X,Y,c,k1,k2,k3,k4,k5,k6,rfl,rfl,k9⟩,h4⟩:=lq w (hb.fit.nk _)
  .exact dC.own hb hs hp hm hd fw (r':= .xj it ls l1 (f w)) hi hg h1 h3 h2 (λe e1 e2=>⟨e.trans nZ,e2 rfl htk,λx hx=>NB x (e1 x hx),h4⟩) rfl rfl ⟨rfl,rfl,rfl,rfl⟩ rfl rfl rfl (λ_=>⟨_,_,_,_,_,rfl,rfl⟩) (AY (.mk f w))
  exact dC.store hb hs hp hm hd fw hi hg nZ htk k1 k2 k3 k4 k5 k6 h1 k9 h4
def dC.post{ls:List ι}{f:World->Tree}(hi:D[i]?=some (.post ls (.node f))) (hg:gs[i+1]?=some g):oD E Fin L0 K D pend cl o m os main d0 gs w sl t (i+1):=by
 obtain⟨dk,cO,dJ⟩:=hb.ok i _ hi;obtain rfl:dk=g:=by rw[hg] at cO;exact(aJ cO).symm
 obtain⟨nZ,l1,dr,lq⟩:=dJ;obtain⟨g',w',es,s',h1,h2,h3| ⟨v,X,Y,c,k1,_⟩,h4⟩:=lq w (hb.fit.nk _)
 .exact dC.own hb hs hp hm hd fw (r':= .post ls (f w)) hi hg h1 h3 h2 (λe _ _=>⟨e.trans nZ,l1,h4⟩) rfl rfl ⟨rfl,rfl,rfl,rfl⟩ rfl rfl rfl (λe=>by cases e) (AY (.mk f w))
 have:=hs.EX hi rfl _ k1;cases this
def dC.ue{k:Nat}{ls:List ι}(hi:D[i]?=some (.ul (.ue k) 0 ls)) (hg:gs[i+1]?=some g):oD E Fin L0 K D pend cl o m os main d0 gs w sl t (i+1):=by
 obtain⟨dk,cO,dJ⟩:=hb.ok i _ hi;obtain rfl:dk=g:=by rw[hg] at cO;exact(aJ cO).symm
 obtain⟨_,h2,nZ,c,cs,ei,Ag,aqE⟩:=dJ;obtain⟨g',hgo,n,hpu⟩:=E.M.ue ei Ag;obtain⟨tr,gT,hle,MF⟩:=Ms aqE hpu rfl;have og:∀e∈ #[said .enable],uU E.Mu e:=by intro e he;simp at he;subst he;exact .inr (.inl rfl)
 have ho:=uU.ops og (i+1) dk.frame.fn dk.frame.place;have nt:∀(P:Touch->Prop),∀op∈MemOp.ofEvents (i+1) dk.frame.fn dk.frame.place #[said .enable],∀x,op.act.touch?=some x->P x:=λP op a8 x hx=>by
  rw[ofEvents_eq] at a8;simp[said,Go.ConcR.ofEvent_mk] at a8;subst a8;cases hx
 have hgp:=vB hi (.work ls tr) m;have h2':k=ls.length:=h2;simp only[aN.qO,cq.Jf] at hgp;refine dC.go hb hs hp hm hd fw (L':=L) (r':= .work ls tr) (s':=gT) (l':=l) (o':=o) (m':=m) hi hg (hgo w) rfl (mP.refl w) (λhk=>hs.kW _ (hle.knows hk)) (λhk=>hs.kM _ (hle.knows hk)) (λh=>hs.nH _ (hle.owns h)) (λx hx=> .inl ?_) hs.dS hs.lW hs.lM hs.lH
  ((hs.vD hb.fit (w':=w) (.inr ⟨i,_,rfl,hi,rfl⟩) (.inr rfl) rfl (λ_ _=>rfl) og _ _).le λj=>?_) ⟨by rw[Deaf_own,nZ];rfl,MF⟩ (λop a8 x hx=>nt (λx=>E.At x->x.kind= .atomic) op a8 x hx) (λop a8=>(ho op a8).2.1) (λ_=>rfl) (λ_ _ _ _ _ _ op a8 x hx=>nt (λx=>¬oS E.Hb x.loc) op a8 x hx) (bu _)
  (λcl' hw _ _=>hs.kK (r':= .work ls tr) hi rfl rfl rfl rfl rfl cl' hw) hs.mu ?_ (λh=>⟨.inl h,.inl (qn.running (λ_ _ x=>fW.Stp.running x) MF)⟩) ?_ ((uJ (r:= .ul (.ue k) 0 ls) (r':= .work ls tr) rfl hi).append_left _) (.inr ⟨by omega,rfl,eB (by simp[aN.mu,cq.kz])⟩)
 .rcases hle.bU (by rw[hx];simp) with h4|h4
  .exact hs.EX hi rfl x (by rw[<-h4];exact hx)
  exact absurd h4 (hs.nH _)
 .by_cases e:j=i+1
  .subst e;rw[aY];exact hle
  rw[bz _ _ e];exact St.le_refl _
 .have:=hs.mi.step (zh.aaf hi) (x':= .out k) (w':=o) (m':=m) .ue;rw[C2];simp only[aN.qO];rw[<-h2'];exact this
 exact hs.gu.step hi rfl rfl (λ_=>rfl) (λe=>by cases e) (λb _ h1 h2=>h1 (hle.knows h2)) rfl λop a8 x hx=>nt (λx=>¬oS E.Hb x.loc/\∀b,blk x.loc=some b->L b≠none->(K (i+1)).knows b) op a8 x hx
end
def dC.aEE(h:dC E Fin L0 K gs w t D pend cl o m os main d0)(hi:D[i]?=some r) (hg:gs[i+1]?=some g) (hle:s'.le (K (i+1))) (hr:kg E t (i+1) (K (i+1)) g r->kg E t (i+1) s' g r') (hc:r'.cnt=r.cnt/\r'.c4=r.c4/\r'.c3=r.c3/\r'.c2=r.c2) (ho:r'.AT=r.AT)
 (hmi:qH (D.map aN.qO) o m->qH ((D.set i r').map aN.qO) o m) (h1:r.iJ=false) (h2:r'.iJ=false) (h3:r.tok=true->r'.tok=true) (h4:r.left=false):
 dC E Fin L0 (gN K (i+1) s') gs w t (D.set i r') pend cl o m os main d0:=by
 obtain⟨⟨L,l,hb,hs,hp⟩,hm,hd,fw⟩:=h;have akq:∀j,(gN K (i+1) s' j).le (K j):=λj=>by
  by_cases e:j=i+1
  .subst e;rw[aY];exact hle
  rw[bz _ _ e];exact St.le_refl _
 refine⟨⟨L,l,⟨hb.fit.le akq,by simp[hb.size],λk y hk=>?_,λk hk b h=>hb.far k hk b ((akq k).knows h),hb.ops,hb.same⟩,
  ⟨λj hj=>hs.kW j ((akq j).knows hj),λj hj=>hs.kM j ((akq j).knows hj),hs.lW,hs.lM,hs.lH,hs.ne,hs.norel,λj hj=>hs.plain j ?_,hs.said,?_,?_,hs.mu,hmi hs.mi,hs.ZU,hs.dS,λj hj=>hs.nH j ((akq j).owns hj),λj x hx=>?_,?_⟩,⟨((uJ ho hi).append_left _).trans hp.1,hp.2⟩⟩,hm,hd,fw⟩
 .rcases uG hk with ⟨rfl,rfl⟩| ⟨eo,my⟩
  .obtain⟨z,hz,dJ⟩:=hb.ok _ _ hi;rw[hg] at hz;cases hz;exact⟨g,hg,by rw[aY];exact hr dJ⟩
  rw[bz _ _ (by omega)];exact hb.ok k y my
 .rcases hj with hj| ⟨k,y,rfl,hk,hl⟩
  .exact .inl hj
  rcases uG hk with ⟨rfl,rfl⟩| ⟨_,my⟩
  .exact .inr ⟨_,_,rfl,hi,h4⟩
  exact .inr ⟨k,y,rfl,my,hl⟩
 .obtain⟨st,sm,ha,j5⟩:=hs.cells;exact⟨st,sm,ha,Ix hi (by omega) (by omega) (by omega) (by omega) j5⟩
 .have:=kN aN.cnt (y:=r') hi;have h5:=hs.pO;simp only[e8] at*;omega
 .have hj:(K j).ro E.Hb=some x:=by
   rcases(akq j).bU (by rw[hx];simp) with h6|h6
   .rw[<-h6];exact hx
   exact absurd h6 (hs.nH j)
  rcases hs.Uf j x hj with h6| ⟨k,y,rfl,hk,hy⟩
  .exact .inl h6
  by_cases e:k=i
  .subst e;rw[hi] at hk;cases hk;rw[h1] at hy;cases hy
  exact .inr ⟨k,y,rfl,x3 hk e,hy⟩
 have:=hs.gu.step (u:= #[]) (s':=s') hi h1 h2 (λ_=>h4) (λe=> .inl (h3 e)) (λb _ h7 h8=>h7 (hle.knows h8)) (w':=w) rfl (by simp);rwa[bQ] at this
end
section
variable {ι:Type} {E:fW ι} {Fin:Goroutine->Prop}
variable {L0 L L':Nat->Option Obj} {K:Nat->St} {gs:Array Goroutine} {w w':World} {t u:Trace} {D:List (aN ι)} {pend d0:Nat} {cl:yq} {o:Wd} {m:Nat} {l os:List ι} {main:Goroutine} {sl:Option (Nat×Nat)}
 {i:Nat} {r r':aN ι} {g g':Goroutine} {s':St} {es:Array Event}
def aN.quiet:aN ι->Bool
 | .work _ .leaf| .post _ .leaf=>true
 |_=>false
def dC.other(h:dC E Fin L0 K gs w t D pend cl o m os main d0)(hg:gs[i+1]?=some g) (hsr:g.status= .running) (hq:∀r,D[i]?=some r->r.quiet=false):oD E Fin L0 K D pend cl o m os main d0 gs w sl t (i+1):=by
 obtain⟨⟨L,l,hb,hs,hp⟩,hm,hd,fw⟩:=h;have dS:i <D.length:=by have:=lt_size hg;have:=hb.size;omega
 have hD:D[i]?=some D[i]:=af dS;have hq:=hq _ hD;obtain⟨x,hx,dJ⟩:=hb.ok i _ hD;obtain rfl:x=g:=by rw[hg] at hx;exact(aJ hx).symm
 generalize D[i]=r at hD dJ hq
 match r,hD,dJ,hq with
 | .leave q d c,hD,_,_=>exact dC.leave hb hs hp hm hd fw hD hg hsr
 | .work ls (.node f),hD,_,_=>exact dC.work hb hs hp hm hd fw hD hg
 | .work ls .leaf,_,_,hq=>cases hq
 | .lk x (n+1) it ls,hD,_,_=>exact dC.aFV hb hs hp hm hd fw hD hg
 | .lk x 0 it ls,hD,dJ,_=>
  by_cases hS:x.FY=true
  .by_cases oM:m=1
   .exact dC.aBh hb hs hp hm hd fw hD hg hsr (by cases x<;>first|rfl|cases hS) λ_=>oM
   exact dC.block hb hs hp hm hd fw hD hg hsr hS oM
  by_cases hla:∃k,x= .la k
  .obtain⟨k,rfl⟩:=hla;exact dC.la hb hs hp hm hd fw hD hg
  have h1:=dJ.1;exact dC.aBh hb hs hp hm hd fw hD hg hsr (by cases x<;>first|rfl| (cases h1;done)|exact absurd ⟨_,rfl⟩ hla) λe=>absurd e hS
 | .xj it ls l1 tr0,hD,_,_=>exact dC.xj hb hs hp hm hd fw hD hg
 | .post ls (.node f),hD,_,_=>exact dC.post hb hs hp hm hd fw hD hg
 | .post ls .leaf,_,_,hq=>cases hq
 | .ul x (n+1) ls,hD,_,_=>exact dC.aD5 hb hs hp hm hd fw hD hg
 | .ul x 0 ls,hD,dJ,_=>
  by_cases hue:∃k,x= .ue k
  .obtain⟨k,rfl⟩:=hue;exact dC.ue hb hs hp hm hd fw hD hg
  have h1:=dJ.1;exact dC.aNo hb hs hp hm hd fw hD hg (by cases x<;>first|rfl| (cases h1;done)|exact absurd ⟨_,rfl⟩ hue)
 | .st k (n+1),hD,_,_=>exact dC.ac4 hb hs hp hm hd fw hD hg
 | .st .r0 0,hD,_,_=>exact dC.r0 hb hs hp hm hd fw hD hg
 | .st .k1 0,hD,_,_=>exact dC.k1 hb hs hp hm hd fw hD hg
 | .st .d1 0,hD,_,_=>exact dC.d1 hb hs hp hm hd fw hD hg
 | .st .d2 0,hD,_,_=>exact dC.d2 hb hs hp hm hd fw hD hg
 | .st .d3 0,hD,_,_=>exact dC.d3 hb hs hp hm hd fw hD hg
 | .st .d4 0,hD,_,_=>exact dC.d4 hb hs hp hm hd fw hD hg
def dC.norm(h:dC E Fin L0 K gs w t D pend cl o m os main d0)(hi:D[i]?=some r) (hq:r.quiet=true):
 ∃K' D',dC E Fin L0 K' gs w t D' pend cl o m os main d0/\K' 0=K 0/\e8 aN.cnt D'<=e8 aN.cnt D/\∀c n,Ct ⟨D',o,m,c,n⟩ ⟨D,o,m,c,n⟩:=by
 obtain⟨L,l,hb,hs,hp⟩:=h.bs;obtain⟨g,hg,dJ⟩:=hb.ok i _ hi;have fin:∀(r':aN ι) (s':St),s'.le (K (i+1))->(kg E t (i+1) (K (i+1)) g r->kg E t (i+1) s' g r')->(r'.cnt=r.cnt/\r'.c4=r.c4/\r'.c3=r.c3/\r'.c2=r.c2)->r'.AT=r.AT->(qH (D.map aN.qO) o m->qH ((D.set i r').map aN.qO) o m)->
  r.iJ=false->r'.iJ=false->(r.tok=true->r'.tok=true)->r.left=false->r'.qO.Jf=r.qO.Jf->tE o r' r->
  ∃K' D',dC E Fin L0 K' gs w t D' pend cl o m os main d0/\K' 0=K 0/\e8 aN.cnt D'<=e8 aN.cnt D/\∀c n,Ct ⟨D',o,m,c,n⟩ ⟨D,o,m,c,n⟩:=by
  intro r' s' h1 h2 h3 h4 h5 h6 h7 h8 h9 xF wD;refine⟨_,_,h.aEE hi hg h1 h2 h3 h4 h5 h6 h7 h8 h9,bz _ _ (by omega),?_,λc n=> .d ?_ rfl (One.set hi wD)⟩
  .have:=kN aN.cnt (y:=r') hi;simp only[e8];omega
  have:=vB hi r' m;show DZ (D.set i r') m<=DZ D m;omega
 have hr:r= .work [] .leaf\/(∃it ls,r= .work (it::ls) .leaf)\/∃ls,r= .post ls .leaf:=by
  cases r with
  |work ls tr=>cases tr with
   |leaf=>cases ls with
    |nil=>exact .inl rfl
    |cons a b=>exact .inr (.inl ⟨a,b,rfl⟩)
   |node f=>cases hq
  |post ls tr=>cases tr with
   |leaf=>exact .inr (.inr ⟨ls,rfl⟩)
   |node f=>cases hq
  |_=>cases hq
 clear hq;rcases hr with rfl| ⟨it,ls,rfl⟩| ⟨ls,rfl⟩
 .obtain⟨nZ,n,hpu⟩:=dJ;exact fin (.st .r0 n) ⟨λ_=>none,[]⟩ ⟨(K (i+1)).rw,by simp,λb o hb=>(by cases hb)⟩ (λ_=>⟨rfl,nZ,hpu,λe=>by cases e⟩) ⟨rfl,rfl,rfl,rfl⟩ rfl (λh=>PZ (r:= .work [] .leaf) h rfl hi) rfl rfl (λe=>by cases e) rfl rfl (eB (by simp[aN.mu,WK.kz]))
 .obtain⟨nZ,c,cs,n,hpu,aaZ⟩:=dJ;refine fin (.lk (.ld ls.length) n it ls) (K (i+1)) (St.le_refl _) (λ_=>⟨rfl,rfl,nZ,c,cs,aaZ,.inl hpu⟩) ⟨rfl,rfl,rfl,rfl⟩ rfl (λh=>?_) rfl rfl (λe=>by cases e) rfl ?_ (eB (by simp[aN.mu,cq.kz]))
  .rw[C2];exact h.step (zh.aaf hi) .out
  simp only[aN.qO,cq.Jf,aK];omega
 obtain⟨nZ,l1,_,c,cs,n,hpu,Ag,Kk⟩:=dJ;refine fin (.ul (.ui ls.length) n ls) (K (i+1)) (St.le_refl _) (λ_=>⟨rfl,rfl,nZ,c,cs,hpu,Ag,Kk⟩) ⟨rfl,rfl,rfl,rfl⟩ rfl (λh=>?_) rfl rfl (λe=>rfl) rfl rfl (eB (by simp[aN.mu,cq.kz]));rw[C2];exact h.step (zh.aaf hi) .own
theorem nX.at(h:nX E L K gs w t D)(d:Nat):nX E L K gs (w.at d) t D:=⟨h.fit.at d,h.size,h.ok,h.far,h.ops,h.same⟩
theorem dC.at(h:dC E Fin L0 K gs w t D pend cl o m os main d0)(d:Nat):dC E Fin L0 K gs (w.at d) t D pend cl o m os main d0:=by
 obtain⟨⟨L,l,hb,hs,hp⟩,hm,hd,fw⟩:=h;exact⟨⟨L,l,hb.at d,⟨hs.kW,hs.kM,hs.lW,hs.lM,hs.lH,hs.ne,hs.norel,hs.plain,hs.said,hs.cells,hs.pO,hs.mu,hs.mi,hs.ZU,hs.dS,hs.nH,hs.Uf,hs.gu⟩,hp⟩,hm,hd,fw⟩
def dC.le0(h:dC E Fin L0 K gs w t D pend cl o m os main d0){s:St}(hl:s.le (K 0)):dC E Fin L0 (gN K 0 s) gs w t D pend cl o m os main d0:=by
 obtain⟨⟨L,l,hb,hs,hp⟩,hm,hd,fw⟩:=h;have hle:∀j,(gN K 0 s j).le (K j):=λj=>by
  by_cases e:j=0
  .subst e;rw[aY];exact hl
  rw[bz _ _ e];exact St.le_refl _
 refine⟨⟨L,l,⟨hb.fit.le hle,hb.size,λk r hk=>by rw[bz _ _ (by omega)];exact hb.ok k r hk,λk hk b h=>hb.far k hk b ((hle k).knows h),hb.ops,hb.same⟩,
  ⟨λj hj=>hs.kW j ((hle j).knows hj),λj hj=>hs.kM j ((hle j).knows hj),hs.lW,hs.lM,hs.lH,hs.ne,hs.norel,hs.plain,hs.said,hs.cells,hs.pO,hs.mu,hs.mi,hs.ZU,hs.dS,λj hj=>hs.nH j ((hle j).owns hj),λj x hx=>?_,?_⟩,hp⟩,hm,hd,fw⟩
 .rcases(hle j).bU (by rw[hx];simp) with h6|h6
  .exact hs.Uf j x (by rw[<-h6];exact hx)
  exact absurd h6 (hs.nH j)
 rcases hs.gu with h1| ⟨h1,v,X,h2,h3,h4,h5⟩
 .exact .inl h1
 exact .inr ⟨h1,v,X,h2,h3,λb o hb=>⟨(h4 b o hb).1,(h4 b o hb).2.1,(h4 b o hb).2.2.1,λj hj=>(h4 b o hb).2.2.2 j ((hle j).knows hj)⟩,h5⟩
def dC.awake(h:dC E Fin L0 K gs w t D pend cl o m os main d0):∀x∈gs,Go.Conc.awake x:=by
 obtain⟨⟨L,l,hb,hs,hp⟩,hm,hd,fw⟩:=h;intro x hx;obtain⟨j,hj,rfl⟩:=Array.mem_iff_getElem.1 hx;have hj':gs[j]?=some gs[j]:=tF hj;intro k;cases j with
 |zero=>
  rw[hm] at hj';rw[<-aJ hj']
  match cl,fw with
  |none,h=>rw[show main.status= .running from h];simp
  |some (c,n),⟨h,_⟩=>
   by_cases e:c= .blk
   .subst e;obtain⟨_,kZ,_,rfl⟩:=h;simp
   rw[h.running e];simp
 |succ j=>
  have dS:j <D.length:=by have:=hb.size;omega
  obtain⟨y,hy,dJ⟩:=hb.ok j _ (af dS);rw[hj'] at hy;rw[aJ hy];rcases dJ.running with (e|e)| ⟨_,_,_,_,_,kZ,_,_,_,e⟩
  .rw[e];simp
  .rw[e];simp
  rw[e];simp
def dC.alive(h:dC E Fin L0 K gs w t D 0 cl o m os main d0):∃(i:Nat) (x:Goroutine),gs[i]?=some x/\x.status= .running:=by
 obtain⟨⟨L,l,hb,hs,hp⟩,hm,hd,fw⟩:=h;have wk:∀(k:Nat) (r:aN ι),D[k]?=some r->(r.cnt=1\/r.c4=1\/r.c3=1\/r.c2=1)->r.qO.FY=false\/m=1->∃(i:Nat) (x:Goroutine),gs[i]?=some x/\x.status= .running:=λk r hk hc hS=>by
  obtain⟨y,hy,dJ⟩:=hb.ok k r hk;rcases dJ.running with (e|e)| ⟨x,it,ls,rfl,hx,kZ,_,_,_,e⟩
  .exact⟨_,y,hy,e⟩
  .exfalso;cases r with
   |leave q d c=>simp[aN.cnt,aN.c4,aN.c3,aN.c2] at hc
   |work ls tr=>have:=qn.running (λ_ _ x=>fW.Stp.running x) dJ.2;rw[e] at this;cases this
   |lk x n it ls=>
    obtain⟨_,_,_,c,cs,_,h1| ⟨_,_,kZ,_,h4⟩⟩:=dJ
    .have:=fW.pu.running h1;rw[e] at this;cases this
    rw[h4] at e;cases e
   |xj it ls l1 tr=>have:=tC.running (λ_ _ x=>fW.Unl.running x) dJ.2.2.2;rw[e] at this;cases this
   |post ls tr=>obtain⟨_,_,h⟩:=dJ;have:=tC.running (λ_ _ x=>fW.Unl.running x) h;rw[e] at this;cases this
   |ul x n ls=>
    obtain⟨_,_,_,c,cs,h1,_⟩:=dJ;have:=fW.pu.running h1;rw[e] at this;cases this
   |st k n=>have:=Pure.running (WK.running k) dJ.2.2.1;rw[e] at this;cases this
  rcases hS with h1|h1
  .simp only[aN.qO] at h1;rw[hx] at h1;cases h1
  exact absurd (by rw[e]) (hs.ZU h1 k y hy)
 match cl,fw with
 |none,h=>exact⟨0,main,hm,h⟩
 |some (c,n),⟨h,_⟩=>
  by_cases e:c= .blk
  .subst e;obtain⟨st,sm,_,j5⟩:=hs.cells;have agq:∀(f:aN ι->Nat),(∀r,f r<=1)->1<=e8 f D->∃(k:Nat) (r:aN ι),D[k]?=some r/\f r=1:=λf hf h1=>by
    refine gQ λhn=>?_;have:e8 f D=0:=xA f λr hr=>by
     obtain⟨k,hk⟩:=dA hr;have h2:=hf r;rcases Dc 0 (f r) with h3|h3
     .exact absurd ⟨k,r,hk,by omega⟩ hn
     omega
    omega
   have nS4:∀r:aN ι,(r.c4=1\/r.c3=1\/r.c2=1)->r.qO.FY=false:=λr hr=>by
    cases r<;>first|rfl| (simp[aN.c4,aN.c3,aN.c2] at hr)
   simp only[di,tO] at j5;generalize hc:some CK.blk=oc at j5;generalize hn:e8 aN.cnt D=N at j5;generalize h4:e8 aN.c4 D=N4 at j5;generalize h3:e8 aN.c3 D=N3 at j5;generalize h2:e8 aN.c2 D=N2 at j5;cases j5 with
   |start=>cases hc
   |kd=>cases hc
   |w1 _=>cases hc
   |w2 _ _ _=>cases hc
   |reg _ h1=>
    obtain⟨k,r,hk,hr⟩:=agq aN.cnt (λr=>by cases r<;>first|exact bu _|exact bK _| (rename_i k n;cases k<;>first|exact bu _|exact bK _)) (by omega);cases hrS:r.qO.FY with
    |false=>exact wk k r hk (.inl hr) (.inl hrS)
    |true=>
     by_cases oM:m=1
     .exact wk k r hk (.inl hr) (.inr oM)
     have hz:m=0:=by have:=(hs.few hb).2;omega
     have hmi:=hs.mi;rw[hz] at hmi;obtain⟨k1,sv,e1⟩:∃k sv,r.qO= .s1 k sv:=by
      cases hl:r.qO<;>rw[hl] at hrS<;>first| (cases hrS;done)|exact⟨_,_,rfl⟩
     obtain⟨y,hy,aq8⟩:=hmi.live (k:=k1) (sv:=sv) (bB.2 ⟨r,aj hk,e1⟩);obtain⟨r2,BT,rfl⟩:=bB.1 hy;obtain⟨k2,gV⟩:=dA BT;refine wk k2 r2 gV ?_ (.inl ?_)
     .cases r2<;>first|exact .inl rfl|exact aq8.elim
     cases hl:r2.qO<;>rw[hl] at aq8<;>first|rfl|exact aq8.elim
   |l4 _=>
    obtain⟨k,r,hk,hr⟩:=agq aN.c4 (λr=>by cases r<;>first|exact bK _| (rename_i k n;cases k<;>first|exact bu _|exact bK _)) (by omega);exact wk k r hk (.inr (.inl hr)) (.inl (nS4 r (.inl hr)))
   |l3 _=>
    obtain⟨k,r,hk,hr⟩:=agq aN.c3 (λr=>by cases r<;>first|exact bK _| (rename_i k n;cases k<;>first|exact bu _|exact bK _)) (by omega);exact wk k r hk (.inr (.inr (.inl hr))) (.inl (nS4 r (.inr (.inl hr))))
   |l2 _=>
    obtain⟨k,r,hk,hr⟩:=agq aN.c2 (λr=>by cases r<;>first|exact bK _| (rename_i k n;cases k<;>first|exact bu _|exact bK _)) (by omega);exact wk k r hk (.inr (.inr (.inr hr))) (.inl (nS4 r (.inr (.inr hr))))
   |sema _ h1=>cases hc;exact absurd rfl h1
   |over h1=>cases hc;exact h1.elim
  exact⟨0,main,hm,h.running e⟩
end
section
variable {ι:Type} {E:fW ι} {Fin:Goroutine->Prop}
variable {L0 L L':Nat->Option Obj} {K:Nat->St} {gs:Array Goroutine} {w w':World} {t u:Trace} {D:List (aN ι)} {pend ib nw d0:Nat} {cl cl':yq} {o:Wd} {m:Nat} {l os:List ι} {main:Goroutine} {sl:Option (Nat×Nat)}
 {i:Nat} {r r':aN ι} {g g':Goroutine} {s s':St} {es:Array Event}
def Guard.apa(h:Guard E L0 L K n w t D l)(hk:∀b,L b≠none->¬(K 0).knows b->¬s'.knows b)(hH:w'.heap[E.Hb]?=w.heap[E.Hb]?)
 (hnt:∀op∈u,∀x,op.act.touch?=some x->¬oS E.Hb x.loc/\∀b,blk x.loc=some b->L b≠none->(K 0).knows b):Guard E L0 L (gN K 0 s') n w' (t++u) D l:=by
 rcases h with h| ⟨wP,v,X,h1,h2,h3,h4,h5,h6⟩
 .exact .inl h
 refine .inr ⟨wP,v,X,h1,h2,λb o hb=>⟨(h3 b o hb).1,(h3 b o hb).2.1,(h3 b o hb).2.2.1,λj=>?_⟩,h4,by rw[hH];exact h5,λp x hx hg=>?_⟩
 .by_cases e:j=0
  .subst e;rw[aY];exact hk b (by rw[(h3 b o hb).1];simp) ((h3 b o hb).2.2.2 _)
  rw[bz _ _ e];exact(h3 b o hb).2.2.2 j
 have mL:touchAt t p=some x:=by
  rcases cd hx with ⟨_,h'⟩| ⟨_,op,hm,_,vx⟩
  .exact h'
  obtain⟨k1,k2⟩:=hnt op hm x vx;rcases hg with ⟨b,o,hb,X3⟩|hh
  .exact absurd (k2 b X3 (by rw[(h3 b o hb).1];simp)) ((h3 b o hb).2.2.2 _)
  exact absurd hh k1
 rcases h6 p x mL hg with h7|h7| ⟨j,y,hj,hy,ep⟩
 .exact .inl ⟨h7.1.app u,λk y hk hy=>(h7.2 k y hk hy).app u⟩
 .exact .inr (.inl (h7.app u))
 exact .inr (.inr ⟨j,y,hj,hy,ep.app u⟩)
def dC.go0(hb:nX E L K gs w t D)(hs:zh E L0 L K gs w t D pend cl o m l)(hp:E.U3 (l++jQ D) os)(hm:gs[0]?=some g) (hd:Deaf t 0=d0)
 (hgo:stepG E.P true g w= .go g' w' es) (hue:MemOp.ofEvents 0 g.frame.fn g.frame.place es=u) (GX:mP w w') (fq:¬s'.knows E.Wg) (s8:¬s'.knows E.Mu) (hs3:¬s'.owns E.Hb) (hsh:∀x,s'.ro E.Hb=some x->x=E.hole)
 (oe:Fit L (gN K 0 s') w' (t++u)) (hM:w'.heap[E.Mu]?=w.heap[E.Mu]?) (hH:w'.heap[E.Hb]?=w.heap[E.Hb]?)
 (oL:∀op∈u,∀x,op.act.touch?=some x->E.At x->x.kind≠ .plain) (jO:∀op∈u,∀a,op.act≠ .mark (.release a))
 (hnt:∀op∈u,∀x,op.act.touch?=some x->¬oS E.Hb x.loc/\∀b,blk x.loc=some b->L b≠none->(K 0).knows b) (ep:∀b,L b≠none->¬(K 0).knows b->¬s'.knows b)
 (jY:∃st sm,WgAt E.ty E.Wg w' st sm/\Md E.max (e8 aN.cnt D+ib) (e8 aN.c4 D) (e8 aN.c3 D) (e8 aN.c2 D) (cl'.map (·.1)) st sm) (wQ:e8 aN.cnt D+ib<=E.max) (fw:rk E Fin g' (deafBehind d0 es) cl'):
 ∃jK,runT E.P (crowd gs w sl) 0=(.next (crowd jK w' sl),u)/\dC E Fin L0 (gN K 0 s') jK w' (t++u) D ib cl' o m os g' (deafBehind d0 es):=by
 have CJ:∀op∈u,op.g=0:=by rw[<-hue];exact λop a8=>Go.ConcR.g_of_ofEvents op a8
 have dz:=runT_crowd_go (P:=E.P) (sl:=sl) (i:=0) hm (by simpa using hgo);have hdo:Deaf (t++u) 0=deafBehind d0 es:=by rw[<-hue,Deaf_own,hd]
 rw[hue] at dz;have eo:∀k,∀op∈u,op.g≠k+1:=λk op a8=>by rw[CJ op a8];omega
 have F3:∀b,¬s'.knows b->(∀j,¬(K j).knows b)->∀j,¬(gN K 0 s' j).knows b:=λb h1 h2 j=>by
  by_cases e:j=0
  .subst e;rw[aY];exact h1
  rw[bz _ _ e];exact h2 j
 have aqV:((gs.map (woken E.P g g' w')).setIfInBounds 0 g').size=gs.size:=by simp
 refine⟨_,dz,⟨⟨L,l,⟨oe,by simp[hb.size],λk r hk=>?_,λk hk b h=>?_,λop a8=>?_,⟨hb.same.1.trans GX.1,GX.2.trans hb.same.2⟩⟩,
  ⟨F3 _ fq hs.kW,F3 _ s8 hs.kM,hs.lW,hs.lM,hs.lH,hs.ne,λa=>(hs.norel a).app λop a8=>jO op a8 a,λj hj p x hx mz hk=>?_,λp x hx mz hk=>?_,jY,wQ,by unfold MuAt;rw[hM];exact hs.mu,hs.mi,λoM k x hx=>?_,?_,λj=>?_,λj x hx=>?_,by rw[aqV];exact hs.gu.apa ep hH hnt⟩,hp⟩,?_,hdo,fw⟩⟩
 .obtain⟨x,hx,dJ⟩:=hb.ok k r hk;rw[bz _ _ (by omega)];exact⟨_,ij (by omega) hx,(dJ.other (eo k) λ_ op a8 x hx=>(hnt op a8 x hx).1).woken _ _ _⟩
 .rw[jA,LJ] at hk;have:=hb.size;rw[bz _ _ (by omega)] at h;exact hb.far k hk b h
 .rw[jA,LJ];rcases oW.1 a8 with h'|h'
  .exact hb.ops op h'
  rw[CJ op h',hb.size];omega
 .rcases cd hx with ⟨_,mL⟩| ⟨_,op,Kp,_,vx⟩
  .exact(hs.plain j hj p x mL mz hk).app u
  exact absurd hk (oL op Kp x vx mz)
 .rcases cd hx with ⟨_,mL⟩| ⟨pY,op,Kp,a8,vx⟩
  .exact(hs.said p x mL mz hk).app u
  exact EP CJ pY a8
 .have aHI:k <D.length:=by have h3:=lt_size hx;have:=hb.size;simp at h3;omega
  obtain⟨y,hy,dJ⟩:=hb.ok k _ (af aHI);rw[ij (by omega) hy] at hx;cases hx;have h3:=hs.ZU oM k y hy;have:Go.Conc.woken E.P g g' w' y=y:=by
   unfold Go.Conc.woken;split
   .rcases dJ.running with h4| ⟨_,_,_,_,_,kZ,_,_,_,h5⟩
    .exact again_running _ h4
    rw[h5] at h3;exact absurd rfl h3
   rfl
  rw[this];exact h3
 .have hl:=hs.dS;have h1:w.heap[E.Hb]?=some (w.heap[E.Hb]'hl):=tF hl;rw[<-hH] at h1;exact lt_size h1
 .by_cases e:j=0
  .subst e;rw[aY];exact hs3
  rw[bz _ _ e];exact hs.nH j
 .by_cases e:j=0
  .subst e;rw[aY] at hx;exact .inl (hsh x hx)
  rw[bz _ _ e] at hx;exact hs.Uf j x hx
 have:=hb.size;rw[oZ (by simp;omega)]
theorem zh.aaM(hs:zh E L0 L K gs w t D pend cl o m l):∀x,(K 0).ro E.Hb=some x->x=E.hole:=λx hx=>by
 rcases hs.Uf _ x hx with h1| ⟨k,y,e,_⟩
 all_goals grind
def zh.aKe(hs:zh E L0 L K gs w t D pend cl o m l)(hw:w'.heap[E.Wg]?=w.heap[E.Wg]?):∃st sm,WgAt E.ty E.Wg w' st sm/\Md E.max (e8 aN.cnt D+pend) (e8 aN.c4 D) (e8 aN.c3 D) (e8 aN.c2 D) (cl.map (·.1)) st sm:=by
 obtain⟨st,sm,ha,h⟩:=hs.cells;exact⟨st,sm,by unfold WgAt;rw[hw];exact ha,h⟩
theorem dC.am4(hb:nX E L K gs w t D)(hs:zh E L0 L K gs w t D pend cl o m l)(hp:E.U3 (l++jQ D) os)(hm:gs[0]?=some g) (hd:Deaf t 0=d0)
 (hgo:stepG E.P true g w= .go g' w' es) (hw:dV E.oQ w w') (og:∀e∈es,uU E.Wg e)
 (jY:∃st sm,WgAt E.ty E.Wg w' st sm/\Md E.max (e8 aN.cnt D+ib) (e8 aN.c4 D) (e8 aN.c3 D) (e8 aN.c2 D) (cl'.map (·.1)) st sm) (wQ:e8 aN.cnt D+ib<=E.max) (fw:rk E Fin g' (deafBehind d0 es) cl'):
 ∃jK u,runT E.P (crowd gs w sl) 0=(.next (crowd jK w' sl),u)/\dC E Fin L0 K jK w' (t++u) D ib cl' o m os g' (deafBehind d0 es):=by
 have ho:=uU.ops og 0 g.frame.fn g.frame.place;have h1:=dC.go0 (sl:=sl) (Fin:=Fin) (s':=K 0) (cl':=cl') (ib:=ib) hb hs hp hm hd hgo rfl ⟨by rw[hw.same.1];exact OsLater.refl _,hw.same.2⟩ (hs.kW 0) (hs.kM 0) (hs.nH 0) hs.aaM
  (by rw[kB];exact hs.vD hb.fit (.inl rfl) (.inl rfl) hw.size hw.block og _ _) (hw.block _ (ju hs.ne.1)) (hw.block _ hs.ne.2.1) (λop a8 x hx _=>by rw[((ho op a8).2.2 x hx).2];simp) (λop a8=>(ho op a8).2.1)
  (λop a8 x hx=>⟨λ⟨a,ea,e1,_⟩=>by
   have:=((ho op a8).2.2 x hx).1;rw[ea] at this;simp only[blk,aD] at this;exact hs.ne.2.1 (by omega),λb mz hl=>by
   have:=((ho op a8).2.2 x hx).1;rw[mz] at this;cases this;exact absurd hs.lW hl⟩) (λ_ _ h=>h) jY wQ fw
 grind [kB]
def dC.aAD(hb:nX E L K gs w t D)(hs:zh E L0 L K gs w t D pend cl o m l)(hp:E.U3 (l++jQ D) os)(hm:gs[0]?=some g) (hd:Deaf t 0=d0) {k:Mark} {wr:Bool} (hk:(k= .read (smA E.Wg)/\wr=false)\/(k= .write (smA E.Wg)/\wr=true))
 (hgo:stepG E.P true g w= .go g' w #[said k])
 (jY:∃st sm,WgAt E.ty E.Wg w st sm/\Md E.max (e8 aN.cnt D+ib) (e8 aN.c4 D) (e8 aN.c3 D) (e8 aN.c2 D) (cl'.map (·.1)) st sm) (wQ:e8 aN.cnt D+ib<=E.max) (fw:rk E Fin g' d0 cl'):
 ∃jK u,runT E.P (crowd gs w sl) 0=(.next (crowd jK w sl),u)/\dC E Fin L0 K jK w (t++u) D ib cl' o m os g' d0:=by
 have e1:MemOp.ofEvents 0 g.frame.fn g.frame.place #[said k]= #[{g:=0,fn:=g.frame.fn,pos:=g.frame.place,act:= .mark k}]:=by rw[ofEvents_eq];simp[said,Go.ConcR.ofEvent_mk]
 have hu:∀op∈MemOp.ofEvents 0 g.frame.fn g.frame.place #[said k],op.g=0/\op.act= .mark k:=by rw[e1];intro op a8;simp at a8;subst a8;exact⟨rfl,rfl⟩
 have htc:∀op∈MemOp.ofEvents 0 g.frame.fn g.frame.place #[said k],∀x,op.act.touch?=some x->x=⟨.cell (smA E.Wg),wr,.said⟩:=λop a8 x hx=>by
  rw[(hu op a8).2] at hx;rcases hk with ⟨rfl,rfl⟩| ⟨rfl,rfl⟩<;>(simp only[MemAct.touch?,aD] at hx;exact hx.symm)
 obtain⟨st,sm,ha,_⟩:=hs.cells;have hde:deafBehind d0 #[said k]=d0:=by rcases hk with ⟨rfl,_⟩| ⟨rfl,_⟩<;>rfl
 have h1:=dC.go0 (sl:=sl) (Fin:=Fin) (s':=K 0) (cl':=cl') (ib:=ib) hb hs hp hm hd hgo rfl (mP.refl w) (hs.kW 0) (hs.kM 0) (hs.nH 0) hs.aaM
  (by
   rw[kB];refine hb.fit.beside E.Wg 0 hs.kW hs.lW (lt_size ha) (bu _) (λ_ _ _=>rfl) (λop a8=>(hu op a8).1) λop a8 x hx=>?_;obtain rfl:=htc op a8 x hx;refine⟨rfl,λsd p a vL hc=>?_⟩;have hl:blk a.loc=some E.Wg:=by rw[hc.1];rfl
   rcases hc.2.2.2 with h3|h3|h3
   .exact hs.plain 0 (.inl rfl) p a vL (.inl hl) h3
   .cases h3
   exact hs.said p a vL hl h3.2.1) rfl rfl (λop a8 x hx _=>by obtain rfl:=htc op a8 x hx;simp) (λop a8 a=>by rw[(hu op a8).2];rcases hk with ⟨rfl,_⟩| ⟨rfl,_⟩<;>simp)
  (λop a8 x hx=>⟨λ⟨a,ea,e1,_⟩=>by
   obtain rfl:=htc op a8 x hx;cases ea;exact hs.ne.2.1 e1.symm,λb mz hl=>by
   obtain rfl:=htc op a8 x hx;cases mz;exact absurd hs.lW hl⟩) (λ_ _ h=>h) jY wQ (by rw[hde];exact fw)
 obtain⟨jK,h2,h3⟩:=h1;rw[kB,hde] at h3;exact⟨jK,_,h2,h3⟩
def TG(E:fW ι)(Fin:Goroutine->Prop)(L0:Nat->Option Obj)(Q:Machine->Outcome->World->Trace->Prop)(pend nw:Nat)(os:List ι)(d0:Nat)(g:Goroutine)(s:St):Prop:=
 ∀K gs w t D o m sl,dC E Fin L0 K gs w t D pend none o m os g d0->e8 aN.cnt D<=nw->s.le (K 0)->Ends E.P Q (crowd gs w sl) t
variable {Q:Machine->Outcome->World->Trace->Prop}
def TG.mono(hl:s.le s')(h:TG E Fin L0 Q pend nw os d0 g s):TG E Fin L0 Q pend nw os d0 g s':=λK gs w t D o m sl hI hn hle=>h K gs w t D o m sl hI hn (hl.trans hle)
def HL(hs:g.status= .running)
 (h:∀K gs w t D o m sl mm,dC E Fin L0 K gs w t D pend none o m os g d0->e8 aN.cnt D<=nw->K 0=s->stepT E.P mm=runT E.P (crowd gs w sl) 0->Ends E.P Q mm t):TG E Fin L0 Q pend nw os d0 g s:=by
 intro K gs w t D o m sl hI hn hle;have key:∀μ:GM ι,μ.c=lZ E.max none->∀K gs w t sl,μ.r=runN gs->dC E Fin L0 K gs w t μ.D pend none μ.o μ.m os g d0->e8 aN.cnt μ.D<=nw->K 0=s->Ends E.P Q (crowd gs w sl) t:=by
  intro μ
  induction μ using Ct.wf.induction with
  |_ μ ih=>
   obtain⟨D,o,m,c,rn⟩:=μ;intro hc K gs w t sl hr hI hn hK;simp only at hc hr hI hn;subst hc hr;obtain⟨i,dk,d,JG,cO,Cm,dr⟩:=crowd_pick (P:=E.P) (gs:=gs) (w:=w) (sl:=sl) hI.awake ⟨0,g,hI.aSF,hs⟩;have BY:=hI.at d;cases i with
   |zero=>exact h K gs _ t D o m JG _ BY hn hK dr
   |succ i=>
    by_cases hq:∀r,D[i]?=some r->r.quiet=false
    .obtain⟨K',jK,w',u,D',cl',o',m',main',hr,Iw,mb,hmn,kp,WC,dS⟩:=BY.other (sl:=JG) cO Cm hq;have h1:=hmn hs;subst h1;have h2:=kp.1 rfl;subst h2;exact Ends.next (dr.trans hr) (ih ⟨D',o',m',lZ E.max none,runN jK⟩ dS rfl K' jK w' _ JG rfl Iw (bS WC hn) (mb.trans hK))
    obtain⟨r,hr⟩:=Classical.not_forall.1 hq;obtain⟨EW,BT⟩:=Classical.not_imp.1 hr;obtain⟨K',D',Iw,mb,WC,dS⟩:=hI.norm EW (by simpa using BT);exact ih ⟨D',o,m,lZ E.max none,runN gs⟩ (dS _ _) rfl K' gs w t sl rfl Iw (bS WC hn) (mb.trans hK)
 exact key ⟨D,o,m,lZ E.max none,runN gs⟩ rfl _ gs w t sl rfl (hI.le0 hle) hn (aY _ _ _)
def AB:Closed E.P true (TG E Fin L0 Q pend nw os 0) where
 step:=λg s hs h=>HL hs λK gs w t D o m sl mm hI hn hK hmm=>by
  subst hK;obtain⟨⟨L,l,hb,pq,hp⟩,hm,hd,fw⟩:=hI;obtain⟨g',w',es,s',hgo,dz,ht,hT⟩:=h w (hb.fit.nk 0);have k:=pq.xR hb.fit ht g.frame.fn g.frame.place;have hde:=ht.deaf 0;obtain⟨jK,h2,h3⟩:=dC.go0 (sl:=sl) (Fin:=Fin) (s':=s') (cl':=none) (ib:=pend) hb pq hp hm hd hgo rfl (mP.ZG ht) k.nW k.nM k.nH (λx hx=>pq.aaM x (k.ro x hx)) (hb.fit.own ht _ _) k.hM k.hH (λop a8 x hx mL=>absurd mL (k.touch op a8 x hx)) k.rel
   (λop a8 x hx=>⟨k.hole pq.aaM op a8 x hx,k.tk op a8 x hx⟩) k.kn (pq.aKe k.hW) pq.pO dz
  rw[hde] at h3;exact Ends.next (hmm.trans h2) (hT _ jK w' _ D o m sl h3 hn (by rw[aY];exact St.le_refl _))
 mono:=λg s s' hl h=>h.mono hl
def Md.count{a b c:Nat}(h:Md mx n a b c none st sm):st=(n:Int)*KK/\sm=0:=by
 cases h with
 |start=>simp
 |_=>rfl
def zh.aA4(hs:zh E L0 L K gs w t D pend none o m l):e8 aN.c4 D=0/\e8 aN.c3 D=0/\e8 aN.c2 D=0:=by
 obtain⟨st,sm,_,h⟩:=hs.cells;generalize e8 _ D+pend=n at h;generalize e8 aN.c4 D=a at h ⊢;generalize e8 aN.c3 D=b at h ⊢;generalize e8 aN.c2 D=c at h ⊢;cases h with
 |start=>simp
 |_=>cases ho
def Vq{ib d':Nat}(hs:g.status= .running)(u2:nw+ib<=E.max)
 (h:∀v,v<=nw->∃g' es,(∀w,WgAt E.ty E.Wg w (((v+pend:Nat):Int)*KK) 0->∃w',stepG E.P true g w= .go g' w' es/\dV E.oQ w w'/\WgAt E.ty E.Wg w' (((v+ib:Nat):Int)*KK) 0)/\(∀e∈es,uU E.Wg e)/\deafBehind d0 es=d'/\g'.status= .running/\
  TG E Fin L0 Q ib nw os d' g' s):TG E Fin L0 Q pend nw os d0 g s:=by
 refine HL hs λK gs w t D o m sl mm hI hn hK hmm=>?_;subst hK;obtain⟨⟨L,l,hb,pq,hp⟩,hm,hd,fw⟩:=hI;obtain⟨st,sm,ha,j5⟩:=pq.cells;obtain⟨rfl,rfl⟩:=Md.count j5;obtain⟨g',es,h1,h2,h3,h4,h5⟩:=h _ hn;obtain⟨w',hgo,htu,vL⟩:=h1 w ha;obtain⟨e4,e3,e2⟩:=pq.aA4;obtain⟨jK,u,k1,k2⟩:=dC.am4 (sl:=sl) (Fin:=Fin) (cl':=none) (ib:=ib) hb pq hp hm hd hgo htu h2 ⟨_,_,vL,by rw[e4,e3,e2];exact .start⟩ (by omega) h4;rw[h3] at k2;exact Ends.next (hmm.trans k1) (h5 _ jK w' _ D o m sl k2 hn (St.le_refl _))
def agf(hs:g.status= .running)(pq:g'.status= .running)(dr:∀w,E.oQ.live w->stepG E.P true g w= .go g' w #[])(hT:TG E Fin L0 Q pend nw os d0 g' s):TG E Fin L0 Q pend nw os d0 g s:=by
 refine HL hs λK gs w t D o m sl mm hI hn hK hmm=>?_;subst hK;obtain⟨⟨L,l,hb,aer,hp⟩,hm,hd,fw⟩:=hI;obtain⟨st,sm,ha,j5⟩:=aer.cells;obtain⟨jK,u,k1,k2⟩:=dC.am4 (sl:=sl) (Fin:=Fin) (cl':=none) hb aer hp hm hd (dr w ⟨st,sm,ha⟩) (dV.refl w) (by simp) ⟨_,_,ha,j5⟩ aer.pO pq;exact Ends.next (hmm.trans k1) (hT _ jK w _ D o m sl k2 hn (St.le_refl _))
def avo(hs:g.status= .running)(pq:g'.status= .running)(dr:∀w,E.oQ.live w->stepG E.P true g w= .go g' w #[said (.read (smA E.Wg))])(hT:TG E Fin L0 Q pend nw os d0 g' s):TG E Fin L0 Q pend nw os d0 g s:=by
 refine HL hs λK gs w t D o m sl mm hI hn hK hmm=>?_;subst hK;obtain⟨⟨L,l,hb,aer,hp⟩,hm,hd,fw⟩:=hI;obtain⟨st,sm,ha,j5⟩:=aer.cells;obtain⟨jK,u,k1,k2⟩:=dC.aAD (sl:=sl) (Fin:=Fin) (cl':=none) (wr:=false) hb aer hp hm hd (.inl ⟨rfl,rfl⟩) (dr w ⟨st,sm,ha⟩) ⟨_,_,ha,j5⟩ aer.pO pq;exact Ends.next (hmm.trans k1) (hT _ jK w _ D o m sl k2 hn (St.le_refl _))
end
theorem uk(f:α->Nat)(T:List α)(x:α):kJ f (T++[x])=kJ f T+f x:=by simp[kJ]
theorem qH.snoc{T:List cq}{o:Wd}{m:Nat}(h:qH T o m)(k:Nat):qH (T++[.out k]) o m:=by
 have e:∀f:cq->Nat,f (.out k)=0->kJ f (T++[.out k])=kJ f T:=λf hf=>by rw[uk,hf];rfl
 obtain⟨h1,h2,h3,h4,h5⟩:=h;refine⟨by rw[e _ rfl];exact h1,λhS=>by rw[e _ rfl,e _ rfl,e _ rfl,e _ rfl,e _ rfl];exact h2 hS,λhS=>by rw[e _ rfl,e _ rfl,e _ rfl,e _ rfl,e _ rfl];exact h3 hS,λa b c d=>by rw[e _ rfl];exact h4 a b c d,λx hx=>?_⟩;rcases List.mem_append.1 hx with hx|hx
 .exact h5 x hx
 .simp only[List.mem_singleton] at hx;subst hx;trivial
section
variable {ι:Type} {E:fW ι} {Fin:Goroutine->Prop}
variable {L0 L L':Nat->Option Obj} {K:Nat->St} {gs:Array Goroutine} {w w':World} {t u:Trace} {D:List (aN ι)} {pend ib nw d0:Nat} {cl cl':yq} {o:Wd} {m:Nat} {l os:List ι} {main:Goroutine} {sl:Option (Nat×Nat)}
 {i:Nat} {r r':aN ι} {g g' child:Goroutine} {s s' gT:St} {es:Array Event}
def dC.spawn(hb:nX E L K gs w t D)(hs:zh E L0 L K gs w t D (pend+1) none o m l)(hp:E.U3 (l++jQ D) os)(hm:gs[0]?=some g) (hd:Deaf t 0=0)
 (SN:(K 0).rw=[]) (dr:stepG E.P true g w= .spawn g' child w #[]) (hle:gT.le (K 0)) {ls:List ι} {tr:Tree} (MF:qn E.P false (E.Stp ls) tr child gT) (NF:(os++ls).length<=E.mxl) (hg':g'.status= .running):
 ∃jK u,runT E.P (crowd gs w sl) 0=(.next (crowd jK w sl),u)/\dC E Fin L0 (gN K gs.size gT) jK w (t++u) (D++[.work ls tr]) pend none o m (os++ls) g' 0/\0 <gs.size:=by
 have sD:=hb.size;have dz:=runT_crowd_spawn (P:=E.P) (sl:=sl) (i:=0) hm (by simpa using dr);have e0:MemOp.ofEvents 0 g.frame.fn g.frame.place #[]= #[]:=rfl;rw[e0] at dz;generalize hx:({g:=0,fn:=g.frame.fn,pos:=g.frame.place,act:= .go gs.size}:MemOp)=x at dz;generalize hy:({g:=gs.size,fn:=child.frame.fn,pos:=g.frame.place,act:= .start}:MemOp)=y at dz;have ex:x.g=0/\x.act= .go gs.size:=by rw[<-hx];exact⟨rfl,rfl⟩
 have ey:y.g=gs.size/\y.act= .start:=by rw[<-hy];exact⟨rfl,rfl⟩
 have eu:((#[]:Array MemOp).push x).push y= #[x,y]:=rfl;rw[eu] at dz;have hq:∀op∈ #[x,y],op.act.touch?=none:=by intro op a8;simp at a8;rcases a8 with rfl|rfl<;>simp[ex.2,ey.2,MemAct.touch?]
 have MH:∀op∈ #[x,y],∀m,op.act≠ .mark m:=by intro op a8;simp at a8;rcases a8 with rfl|rfl<;>simp[ex.2,ey.2]
 have hg:∀op∈ #[x,y],op.g=0\/op.g=gs.size:=by intro op a8;simp at a8;rcases a8 with rfl|rfl<;>simp[ex.1,ey.1]
 have SZ:Deaf t gs.size=0:=ConcN.Deaf_absent λi op ho e=>by have:=hb.ops op (mem_of_getElem? ho);omega
 have nZ:∀k,Deaf (t++ #[x,y]) k=Deaf t k:=λk=>ki t k _ MH;have Qt:∀p,Knows t 0 p->Knows (t++ #[x,y]) gs.size p:=λp hp=>ConcN.fork_knows ex ey hd SZ hp;have oe:=hb.fit.quiet (u:= #[x,y]) (w':=w) E.Mu hs.kM hs.lM (bu _) (λ_ _ _=>rfl) hq;have Ji:gT.rw=[]:=by
  obtain⟨R,hR,_⟩:=hle;rw[SN] at hR;exact(List.append_eq_nil_iff.1 (List.nil_perm.1 hR)).1
 have qS:∀b o,gT.ro b=some o->(K 0).ro b=some o:=λb o hb=>by
  obtain⟨R,hR,h2⟩:=hle;rw[SN] at hR;have:=List.append_eq_nil_iff.1 (List.nil_perm.1 hR);rcases h2 b o hb with h3|h3
  .exact h3
  rw[this.2] at h3;cases h3
 have Is:=oe.share (i:=0) (n:=gs.size) (by omega) gT Ji qS λb mz p z hz Wn hzw hzh=>by
  rcases cd hz with ⟨_,BR⟩| ⟨_,op,hm,_,hzo⟩
  .have GX:gT.ro b=(K 0).ro b:=by
    cases aTC:gT.ro b with
    |none=>exact absurd aTC mz
    |some o=>rw[qS b o aTC]
   exact Qt p (hb.fit.rZ 0 b (GX▸mz) p z BR Wn hzw λk=>hzh (k.congr Wn GX))
  rw[hq op hm] at hzo;cases hzo
 have F3:∀b,(∀j,¬(K j).knows b)->∀j,¬(gN K gs.size gT j).knows b:=λb hb j hk=>by
  by_cases e:j=gs.size
  .subst e;rw[aY] at hk;exact hb 0 (hle.knows hk)
  rw[bz _ _ e] at hk;exact hb j hk
 have qE:∀ {k z},(D++[aN.work ls tr])[k]?=some z->(k <D.length/\D[k]?=some z)\/(k=D.length/\z= .work ls tr):=λ{k z} hk=>by
  rcases Nat.lt_trichotomy k D.length with dS|e|hgt
  .rw[iP dS] at hk;exact .inl ⟨dS,hk⟩
  .subst e;rw[rX (bu _)] at hk;simp at hk;exact .inr ⟨rfl,hk.symm⟩
  rw[Ap (by simp;omega)] at hk;cases hk
 have hgs:∀k,k≠0->k <gs.size->((gs.setIfInBounds 0 g').push child)[k]?=gs[k]?:=λk h0 dS=>by
  rw[Array.getElem?_push_lt (by simpa using dS),<-tF,jW (ju h0)]
 have hgn:((gs.setIfInBounds 0 g').push child)[gs.size]?=some child:=by
  rw[Array.getElem?_push,dW (by simp)]
 have told:∀p z,touchAt (t++ #[x,y]) p=some z->touchAt t p=some z:=λp z hz=>by
  rcases cd hz with ⟨_,BR⟩| ⟨_,op,hm,_,hzo⟩
  .exact BR
  rw[hq op hm] at hzo;cases hzo
 have aIi:child.status= .running:=qn.running (λ_ _ x=>fW.Stp.running x) MF;have aqV:((gs.setIfInBounds 0 g').push child).size=gs.size+1:=by simp
 refine⟨_,_,dz,⟨⟨L,l,⟨Is,by simp[sD],λk z hk=>?_,λk hk b mz=>?_,λop a8=>?_,hb.same⟩,
  ⟨F3 _ hs.kW,F3 _ hs.kM,hs.lW,hs.lM,hs.lH,hs.ne,λa=>(hs.norel a).app λop a8=>MH op a8 _,λj hj p z hz Wn hzk=>?_,λp z hz Wn hzk=>(hs.said p z (told p z hz) Wn hzk).app _,?_,?_,hs.mu,?_,λoM k z hz=>?_,hs.dS,λj hj=>?_,λj z hz=>?_,?_⟩,?_⟩,?_,by rw[nZ];exact hd,hg'⟩,by omega⟩
 .rcases qE hk with ⟨dS,my⟩| ⟨rfl,rfl⟩
  .obtain⟨q,hqk,aHh⟩:=hb.ok k z my;exact⟨q,by rw[hgs _ (by omega) (by omega)];exact hqk,by rw[bz _ _ (by omega)];exact aHh.other (λop a8=>by rcases hg op a8 with e|e<;>rw[e]<;>omega) λ_ op a8 x hx=>by rw[hq op a8] at hx;cases hx⟩
  refine⟨child,by rw[<-sD];exact hgn,?_⟩;rw[<-sD,aY];exact⟨by rw[nZ];exact SZ,MF⟩
 .rw[Array.size_push,jA] at hk;rw[bz _ _ (by omega)] at mz;exact hb.far k (by omega) b mz
 .rw[Array.size_push,jA];rcases oW.1 a8 with h'|h'
  .have:=hb.ops op h';omega
  rcases hg op h' with e|e<;>rw[e]<;>omega
 .have BR:=told p z hz;rcases hj with rfl| ⟨k,q,rfl,hk,hl⟩
  .exact(hs.plain 0 (.inl rfl) p z BR Wn hzk).app _
  rcases qE hk with ⟨_,my⟩| ⟨rfl,rfl⟩
  .exact(hs.plain (k+1) (.inr ⟨k,q,rfl,my,hl⟩) p z BR Wn hzk).app _
  rw[<-sD];exact Qt p (hs.plain 0 (.inl rfl) p z BR Wn hzk)
 .obtain⟨st,sm,ha,j5⟩:=hs.cells;refine⟨st,sm,ha,?_⟩;simp only[e8] at j5 ⊢;rw[uk,uk,uk,uk];simp only[aN.cnt,aN.c4,aN.c3,aN.c2,tO];rw[show kJ aN.cnt D+1+pend=kJ aN.cnt D+(pend+1) by omega];exact j5
 .have:=hs.pO;simp only[e8] at this ⊢;rw[uk];simp only[aN.cnt];omega
 .rw[cC];exact hs.mi.snoc _
 .have dS:=lt_size hz;rw[aqV] at dS;by_cases e:k+1=gs.size
  .rw[e,hgn] at hz;cases hz;rw[aIi];simp
  rw[hgs _ (by omega) (by omega)] at hz;exact hs.ZU oM k z hz
 .by_cases e:j=gs.size
  .subst e;rw[aY] at hj;obtain⟨o',ho⟩:=hj;rw[Ji] at ho;cases ho
  rw[bz _ _ e] at hj;exact hs.nH j hj
 .by_cases e:j=gs.size
  .subst e;rw[aY] at hz;exact .inl (hs.aaM z (qS _ z hz))
  rw[bz _ _ e] at hz;rcases hs.Uf j z hz with h1| ⟨k,y',e1,hk,R2⟩
  .exact .inl h1
  exact .inr ⟨k,y',e1,by rw[iP (aB.1 hk).1];exact hk,R2⟩
 .rcases hs.gu with ⟨j,o1,os1,tr1,hj,e⟩| ⟨wP,v,X,h1,h2,h3,h4,h5,h6⟩
  .exact .inl ⟨j,o1,os1,tr1,by rw[iP (aB.1 hj).1];exact hj,e⟩
  refine .inr ⟨λk z hk=>?_,v,X,h1,h2,λb o hb=>⟨(h3 b o hb).1,(h3 b o hb).2.1,(h3 b o hb).2.2.1,F3 _ (h3 b o hb).2.2.2⟩,h4,h5,λp z hz hgz=>?_⟩
  .rcases qE hk with ⟨_,my⟩| ⟨_,rfl⟩
   .exact wP k z my
   rfl
  rcases h6 p z (told p z hz) hgz with h7|h7| ⟨j,y',hj,R2,ep⟩
  .refine .inl ⟨h7.1.app _,λk y' hk hl=>?_⟩;rcases qE hk with ⟨_,my⟩| ⟨rfl,rfl⟩
   .exact(h7.2 k y' my hl).app _
   rw[<-sD];exact Qt p h7.1
  .exact .inr (.inl (h7.app _))
  exact .inr (.inr ⟨j,y',by rw[iP (aB.1 hj).1];exact hj,R2,ep.app _⟩)
 .have:jQ (D++[aN.work ls tr])=jQ D++ls:=by simp[jQ,jC,aN.AT]
  rw[this,<-bC];exact⟨hp.1.append_right ls,NF⟩
 rw[Array.getElem?_push_lt (by simp;omega),<-tF,oZ (by omega)]
variable {Q:Machine->Outcome->World->Trace->Prop}
def aiU{ls:List ι}(hs:g.status= .running)(pq:g'.status= .running)(SN:s.rw=[])(dr:∀w,cZ s w->stepG E.P true g w= .spawn g' child w #[])(hw:gi E.P false (E.Stp ls) child s)(NF:(os++ls).length<=E.mxl)
 (hT:TG E Fin L0 Q 0 (nw+1) (os++ls) 0 g' s):TG E Fin L0 Q 1 nw os 0 g s:=by
 refine HL hs λK gs w t D o m sl mm hI hn hK hmm=>?_;subst hK;obtain⟨⟨L,l,hb,hsy,hp⟩,hm,hd,fw⟩:=hI;obtain⟨tr,gT,hle,MF⟩:=hw;obtain⟨jK,u,hr,BY,h0⟩:=dC.spawn (sl:=sl) (Fin:=Fin) (pend:=0) hb hsy hp hm hd SN (dr w (hb.fit.nk 0)) hle MF NF pq;refine Ends.next (hmm.trans hr) (hT _ jK w _ _ o m sl BY ?_ (by rw[bz _ _ (by omega)];exact St.le_refl _));simp_all[e8,uk,aN.cnt]
def amT{v0:Value}(hs:g.status= .running)(eo:E.Wg≠E.Mu/\E.Hb≠E.Wg/\E.Hb≠E.Mu)
 (hW:(E.Wg,wgBlock E.ty 0 0)∈s.rw)(hM:(E.Mu,Obj.cells #[.int .i32 0,.int .u32 0] E.tm)∈s.rw)(hH:(E.Hb,E.full v0)∈s.rw)(WR:E.Gd [] v0 [])
 (SN:s'.rw=[])(qS:∀b x,s'.ro b=some x->(b=E.Hb/\x=E.hole)\/(b≠E.Hb/\b≠E.Wg/\b≠E.Mu/\(s.ro b=some x\/(b,x)∈s.rw)))
 (hL:∀b o,L0 b=some o->(b,o)∈s.rw/\b≠E.Wg/\b≠E.Mu/\b≠E.Hb)
 (hT:TG E Fin L0 Q 0 0 [] 0 g s'):TL E.P fU (λ_=>none) (Jc E.os E.out) Q g s:=by
 intro K gs w t q sl MK h0 aHE hd ⟨aew,hos,hou⟩;have MK:=MK.le aHE;have Ji:(gN K 0 s) 0=s:=aY _ _ _;have yy:=MK.fit.nk 0;rw[Ji] at yy;have hWw:=yy.rw _ _ hW;have hMw:=yy.rw _ _ hM;have hHw:=yy.rw _ _ hH;have hex:∀i,i <q.length->∃d,∃x,gs[i+1]?=some x/\QuitsD E.P (q.getD i 0) d x/\Deaf t (i+1)=d/\fU t (i+1):=λi hi=>by
  obtain⟨x,d,h1,h2,h3,h4⟩:=MK.ok i _ (af hi);exact⟨d,x,h1,by rw[List.getD_eq_getElem?_getD,af hi];exact h2,h3,h4⟩
 let D:List (aN ι):=(List.range q.length).map λi=>aN.leave (q.getD i 0) (Deaf t (i+1)) false
 have hD:∀i r,D[i]?=some r->i <q.length/\r=aN.leave (q.getD i 0) (Deaf t (i+1)) false:=λi r hi=>by
  simp only[D,eG] at hi;obtain⟨j,hj,rfl⟩:=dQ.1 hi;obtain⟨dS,rfl⟩:=aB.1 hj;simp only[List.length_range] at dS;simp only[List.getElem_range];exact⟨dS,bW⟩
 have jv:∀r∈D,∃a b,r=aN.leave a b false:=λr hr=>by
  obtain⟨i,hi⟩:=dA hr;exact⟨_,_,(hD i r hi).2⟩
 have hzero:∀f:aN ι->Nat,(∀a b,f (.leave a b false)=0)->e8 f D=0:=λf hf=>xA f λr hr=>by
  obtain⟨a,b,rfl⟩:=jv r hr;exact hf a b
 let K':Nat->St:=λj=>if j=0 then s' else ⟨λ_=>none,[]⟩
 have hK0:K' 0=s':=by simp[K']
 have hKn:∀j,j≠0->K' j=⟨λ_=>none,[]⟩:=λj hj=>by simp[K',hj]
 have agX:∀j b,j≠0->¬(K' j).knows b:=λj b hj hk=>by
  rw[hKn j hj] at hk;rcases hk with hk| ⟨o,ho⟩
  .exact hk rfl
  cases ho
 have aww:∀j b,¬(K' j).owns b:=λj b ⟨o,ho⟩=>by
  by_cases e:j=0
  .subst e;rw[hK0,SN] at ho;cases ho
  exact agX j b e (.inr ⟨o,ho⟩)
 have skn:∀b,s'.knows b->s.knows b/\b≠E.Wg/\b≠E.Mu:=λb hk=>by
  rcases hk with hk| ⟨o,ho⟩
  .cases hr:s'.ro b with
   |none=>exact absurd hr hk
   |some x=>
    rcases qS b x hr with ⟨rfl,_⟩| ⟨_,h2,h3,h4|h4⟩
    .exact⟨.inr ⟨_,hH⟩,eo.2.1,eo.2.2⟩
    .exact⟨.inl (by rw[h4];simp),h2,h3⟩
    exact⟨.inr ⟨_,h4⟩,h2,h3⟩
  rw[SN] at ho;cases ho
 have kn:∀j b,(K' j).knows b->s.knows b/\b≠E.Wg/\b≠E.Mu:=λj b hk=>by
  by_cases e:j=0
  .subst e;rw[hK0] at hk;exact skn b hk
  exact absurd hk (agX j b e)
 have aOi:Lr E.hole w.heap[E.Hb]?:= .inr (.inl ⟨_,_,_,rfl,hHw,by simp,(λj hj=>by rw[jW (ju hj)]),E.hht⟩);have oe:Fit L0 K' w t:=by
  refine⟨λb o hl=>yy.rw b o (hL b o hl).1,λi b ho=>absurd ho (aww i b),λj=>?_,λi j b _ ho=>absurd ho (aww i b),λi b ho=>absurd ho (aww i b),λi b ho p x hx hb hw hh=>?_,MK.fit.old,MK.fit.clean,λp x b hx hk hb=>?_⟩
  .by_cases e:j=0
   .subst e;rw[hK0];refine⟨λb x hb=>?_,(λb x hb=>by rw[SN] at hb;cases hb),(λb x hb=>by rw[SN] at hb;cases hb),by rw[SN];simp,(λb x hb=>by rw[SN] at hb;cases hb)⟩;rcases qS b x hb with ⟨rfl,rfl⟩| ⟨_,_,_,h4|h4⟩
    .exact aOi
    .exact yy.ro b x h4
    exact .inl ⟨yy.rw b x h4,yy.real b x h4⟩
   rw[hKn j e];exact⟨(λ_ _ e=>(by cases e)),(λ_ _ e=>(by cases e)),(λ_ _ e=>(by cases e)),by simp,(λ_ _ e=>(by cases e))⟩
  .by_cases e:i=0
   .subst e;rw[hK0] at ho hh;cases hr:s'.ro b with
    |none=>exact absurd hr ho
    |some y=>
     rcases qS b y hr with ⟨rfl,rfl⟩| ⟨_,_,_,h4|h4⟩
     .exact MK.fit.perm 0 E.Hb (by rw[Ji];exact⟨_,hH⟩) p x hx hb
     .exact MK.fit.rZ 0 b (by rw[Ji,h4];simp) p x hx hb hw λk=>hh (k.congr hb (by rw[Ji,hr,h4]))
     exact MK.fit.perm 0 b (by rw[Ji];exact⟨_,h4⟩) p x hx hb
   exact absurd (.inl ho) (agX i b e)
  have hsy:=MK.fit.sync p x b hx hk hb;have h2:=hsy.2 0;rw[Ji] at h2;refine⟨?_,λj hj=>h2 (kn j b hj).1⟩;cases hl:L0 b with
  |none=>rfl
  |some o=>exact absurd (.inr ⟨o,(hL b o hl).1⟩) h2
 have hLb:∀b,(b=E.Wg\/b=E.Mu\/b=E.Hb)->L0 b=none:=λb hb=>by
  cases hl:L0 b with
  |none=>rfl
  |some o=>
   have:=hL b o hl;rcases hb with e|e|e
   .exact absurd e this.2.1
   .exact absurd e this.2.2.1
   exact absurd e this.2.2.2
 have aoi:∀b o,(b,o)∈s.rw->∀p x,touchAt t p=some x->blk x.loc=some b->Knows t 0 p:=λb o hb p x hx X3=>MK.fit.perm 0 b (by rw[Ji];exact⟨_,hb⟩) p x hx X3;have agN:∀p x,touchAt t p=some x->E.At x->Knows t 0 p:=λp x hx hb=>hb.elim (aoi _ _ hW p x hx) (aoi _ _ hM p x hx);have ahQ:∀(i:Nat) (r:aN ι),D[i]?=some r->r.left=true:=λi r hi=>by obtain⟨_,rfl⟩:=hD i r hi;rfl
 refine hT K' gs w t D ⟨false,false,false,0⟩ 0 sl ⟨⟨L0,[],⟨oe,by simp[D,MK.size],λi r hi=>?_,λi hi b=>agX i b (by have:=MK.size;omega),MK.ops,hos,hou⟩,
  ⟨λj hj=>(kn j _ hj).2.1 rfl,λj hj=>(kn j _ hj).2.2 rfl,hLb _ (.inl rfl),hLb _ (.inr (.inl rfl)),hLb _ (.inr (.inr rfl)),eo,aew,λj hj p x hx hb _=>?_,λp x hx hb _=>agN p x hx (.inl hb),⟨0,0,hWw,?_⟩,?_,?_,?_,(λe=>by cases e),lt_size hHw,λj hj=>aww j _ hj,λj x hx=>?_,
   .inr ⟨λi r hi=>?_,v0,[],WR,by simp,(λb o hb=>by cases hb),λb o hl=>hl,hHw,λp x hx hgx=>?_⟩⟩,?_⟩,h0,hd,hs⟩ ?_ (by rw[hK0];exact St.le_refl _)
 .obtain⟨dS,rfl⟩:=hD i r hi;obtain⟨d,x,h1,h2,h3,h4⟩:=hex i dS;exact⟨x,h1,hKn _ (by omega),by rw[h3];exact h2,rfl,(λe=>(by cases e)),λ_=>h4⟩
 .rcases hj with rfl| ⟨k,r,rfl,hk,hl⟩
  .exact agN p x hx hb
  rw[ahQ k r hk] at hl;cases hl
 .rw[hzero aN.cnt λ_ _=>rfl,hzero aN.c4 λ_ _=>rfl,hzero aN.c3 λ_ _=>rfl,hzero aN.c2 λ_ _=>rfl];have:=Md.start (mx:=E.max) (n:=0);simpa using this
 .rw[hzero aN.cnt λ_ _=>rfl];omega
 .exact hMw
 .refine qH.start λx hx=>?_;obtain⟨r,hr,rfl⟩:=bB.1 hx;obtain⟨a,b,rfl⟩:=jv r hr;exact⟨0,rfl⟩
 .by_cases e:j=0
  .subst e;rw[hK0] at hx;rcases qS _ x hx with ⟨_,rfl⟩| ⟨h1,_⟩
   .exact .inl rfl
   exact absurd rfl h1
  rw[hKn j e] at hx;cases hx
 .obtain⟨_,rfl⟩:=hD i r hi;rfl
 .refine .inl ⟨?_,λk r hk hl=>by rw[ahQ k r hk] at hl;cases hl⟩;rcases hgx with ⟨b,o,hb,_⟩| ⟨a,ea,e1,_⟩
  .cases hb
  exact aoi _ _ hH p x hx (by rw[ea];simp[blk,e1])
 .have:jQ D=[]:=by
   unfold jQ;rw[List.flatMap_eq_nil_iff];intro r hr;obtain⟨a,b,rfl⟩:=jv r hr;rfl
  rw[this];exact⟨List.Perm.refl _,bK _⟩
 rw[hzero aN.cnt λ_ _=>rfl];omega
end
section
variable {ι:Type} {E:fW ι} {Fin:Goroutine->Prop}
variable {L0 L L':Nat->Option Obj} {K:Nat->St} {gs:Array Goroutine} {w w':World} {t u:Trace} {D:List (aN ι)} {pend ib nw d0:Nat} {cl cl':yq} {o:Wd} {m:Nat} {l os:List ι} {main:Goroutine} {sl:Option (Nat×Nat)}
 {i:Nat} {r r':aN ι} {g g' child:Goroutine} {s s' gT:St} {es:Array Event} {c:CK} {n:Nat}
def ae5:(∀e∈ #[said .disable],uU E.Wg e)/\(∀e∈ #[said .enable],uU E.Wg e)/\(∀e∈ #[said (.acquire (stA E.Wg))],uU E.Wg e)/\(∀e∈ #[rd (stA E.Wg)],uU E.Wg e)/\(∀e∈ #[rd (stA E.Wg),wr (stA E.Wg)],uU E.Wg e)/\(∀e∈semEvents (smA E.Wg),uU E.Wg e):=by
 refine⟨?_,?_,?_,?_,?_,?_⟩
 .intro e he;simp at he;subst he;exact .inl rfl
 .intro e he;simp at he;subst he;exact .inr (.inl rfl)
 .intro e he;simp at he;subst he;exact .inr (.inr (.inr (.inl rfl)))
 .intro e he;simp at he;subst he;exact q7 _ 0 _
 .intro e he;simp at he;rcases he with rfl|rfl<;>exact q7 _ 0 _
 intro e he;simp[semEvents] at he;rcases he with rfl|rfl|rfl|rfl
 .exact .inl rfl
 .exact q7 _ 1 _
 .exact q7 _ 1 _
 exact .inr (.inl rfl)
def XS(E:fW ι)(Fin:Goroutine->Prop)(L0:Nat->Option Obj)(K:Nat->St)(gs:Array Goroutine)(w:World)(sl:Option (Nat×Nat))(t:Trace)(D:List (aN ι))(c:CK)(n:Nat)(o:Wd)(m:Nat)(os:List ι):Prop:=
 ∃jK w' u c' n' g' d',runT E.P (crowd gs w sl) 0=(.next (crowd jK w' sl),u)/\dC E Fin L0 K jK w' (t++u) D 0 (some (c',n')) o m os g' d'/\CZ (lZ E.max (some (c',n'))) (lZ E.max (some (c,n)))
section
variable (hb:nX E L K gs w t D) (hs:zh E L0 L K gs w t D 0 (some (c,n)) o m l) (hp:E.U3 (l++jQ D) os) (hm:gs[0]?=some g) (hd:Deaf t 0=d0)
include hb hs hp hm hd
def dC.qU{c':CK}{n':Nat}(hgo:stepG E.P true g w= .go g' w' es)(hw:dV E.oQ w w')(og:∀e∈es,uU E.Wg e)
 (jY:∃st sm,WgAt E.ty E.Wg w' st sm/\Md E.max (e8 aN.cnt D) (e8 aN.c4 D) (e8 aN.c3 D) (e8 aN.c2 D) (some c') st sm)(ei:E.mat Fin g' n' c')(hde:deafBehind d0 es=c'.deaf)
 (FZ:CZ (lZ E.max (some (c',n'))) (lZ E.max (some (c,n)))):XS E Fin L0 K gs w sl t D c n o m os:=by
 obtain⟨jK,u,h1,h2⟩:=dC.am4 (cl':=some (c',n')) hb hs hp hm hd hgo hw og jY hs.pO ⟨ei,hde⟩;exact⟨jK,w',u,c',n',g',_,h1,h2,FZ⟩
def dC.wait(fw:rk E Fin g d0 (some (c,n)))(hsr:g.status= .running)(hna:¬(c= .aq/\n=0)):XS E Fin L0 K gs w sl t D c n o m os:=by
 obtain⟨ei,hdc⟩:=fw;subst hdc;obtain⟨st,sm,ha,j5⟩:=hs.cells;simp only[tO,di] at j5;have u2:=hs.pO;simp only[tO] at u2;obtain⟨s1,s2,s3,s4,s5,s6⟩:=ae5 (E:=E);have vn:∀ {n':Nat} {g':Goroutine},n=n'+1->(∀w,E.oQ.live w->stepG E.P true g w= .go g' w #[])->E.mat Fin g' n' c->XS E Fin L0 K gs w sl t D c n o m os:=by
  intro n' g' hn dr ard;subst hn;exact dC.qU hb hs hp hm hd (dr w ⟨st,sm,ha⟩) (dV.refl w) (by simp) ⟨st,sm,ha,j5⟩ ard rfl (uZ (nI n'))
 cases c with
 |kd=>
  cases n with
  |succ n=>obtain⟨_,g',dr,pY⟩:=ei;exact vn rfl dr pY
  |zero=>
   obtain⟨_,g',dr,n',pY⟩:=ei;obtain⟨rfl,rfl,e4,e3,e2,_⟩:=j5.zero (.inl rfl);refine dC.qU hb hs hp hm hd (c':= .w1 E.max) (dr w) (dV.refl w) s1 ⟨_,_,ha,?_⟩ pY rfl (eB (by simp[lZ,CK.phi]));rw[e4,e3,e2];exact .w1 u2
 |w1 b=>
  cases n with
  |succ n=>
   have:∃g',(∀w,E.oQ.live w->stepG E.P true g w= .go g' w #[])/\Pure E.P true E.oQ.live (E.W1 Fin b) n g':=ei.2;obtain⟨g',dr,pY⟩:=this;exact vn rfl dr pY
  |zero=>
   obtain⟨rfl,rfl,e4,e3,e2,hbb,_⟩:=j5.zero (.inr (.inl ⟨b,rfl⟩));have hle:=hbb b rfl;rw[e4,e3,e2] at j5;have out:(∃g',(∀w,WgAt E.ty E.Wg w 0 0->stepG E.P true g w= .go g' w #[rd (stA E.Wg)])/\E.pw (E.Ke Fin) g')->e8 aN.cnt D=0->XS E Fin L0 K gs w sl t D (.w1 b) 0 o m os:=by
    rintro⟨g',dr,n',pY⟩ h0;rw[h0] at ha;have vL:WgAt E.ty E.Wg w 0 0:=by simpa using ha
    refine dC.qU hb hs hp hm hd (c':= .ke) (dr w vL) (dV.refl w) s4 ⟨_,_,vL,?_⟩ pY rfl (eB (by simp[lZ,CK.phi]));rw[e4,e3,e2,h0];exact .over bW
   cases b with
   |zero=>exact out ei.2 (by omega)
   |succ b=>
    obtain⟨_,h0,hv⟩:=ei;by_cases hz:e8 aN.cnt D=0
    .exact out h0 hz
    obtain⟨g',dr,n',pY⟩:=hv (e8 aN.cnt D) (by omega) hle;refine dC.qU hb hs hp hm hd (c':= .w2 b (e8 aN.cnt D)) (dr w ha) (dV.refl w) s4 ⟨_,_,ha,?_⟩ pY rfl (eB (by simp only[lZ,CK.phi];omega));rw[e4,e3,e2];exact .w2 (bu _) (by omega) hle
 |w2 b v=>
  cases n with
  |succ n=>obtain⟨_,g',dr,pY⟩:=ei;exact vn rfl dr pY
  |zero=>
   obtain⟨rfl,rfl,e4,e3,e2,_,hbb⟩:=j5.zero (.inr (.inr ⟨b,v,rfl⟩));obtain⟨h1,h2,h3⟩:=hbb b v rfl;obtain⟨_,⟨dk,aGX,n1,hp1⟩,aqH⟩:=ei;by_cases hv:e8 aN.cnt D=v
   .rw[hv] at ha;refine dC.qU hb hs hp hm hd (c':= .wr) (aGX w ha) (dV.set w 0 _) s5 ⟨_,_,Go.ConcR.WgAt.setSt ha _,?_⟩ hp1 rfl (eB (by simp only[lZ,CK.phi];omega));rw[e4,e3,e2,hv];exact .reg bW h2
   obtain⟨xe,aGW,n2,X5⟩:=aqH (e8 aN.cnt D) (by omega);refine dC.qU hb hs hp hm hd (c':= .w1 b) (aGW w ha) (dV.refl w) s4 ⟨_,_,ha,?_⟩ X5 rfl (eB (by simp only[lZ,CK.phi];omega));rw[e4,e3,e2];exact .w1 (by omega)
 |wr=>
  cases n with
  |succ n=>obtain⟨_,g',dr,pY⟩:=ei;exact vn rfl dr pY
  |zero=>
   obtain⟨_,g',dr,n',pY⟩:=ei;obtain⟨jK,u,h1,h2⟩:=dC.aAD (sl:=sl) (Fin:=Fin) (cl':=some (.w3,n'+1)) (ib:=0) (wr:=true) hb hs hp hm hd (.inr ⟨rfl,rfl⟩) (dr w) ⟨_,_,ha,j5.waiting bW bW (.inl (by simp))⟩ hs.pO ⟨⟨n',rfl,pY⟩,rfl⟩;exact⟨jK,w,u,.w3,n'+1,g',_,h1,h2,eB (by simp[lZ,CK.phi])⟩
 |w3=>
  obtain⟨m',rfl,pY⟩:=ei;cases m' with
  |succ m'=>
   obtain⟨_,g',dr,pY⟩:=pY;exact vn rfl dr ⟨m',rfl,pY⟩
  |zero=>
   have C9:E.W3 Fin g:=pY;obtain⟨h1,h2,hbk,g',dr,n',pY⟩:=pY;rcases j5.up bW with ⟨_,rfl,rfl⟩| ⟨rfl,rfl,e1,e4,e3,e2⟩
   .exact dC.qU hb hs hp hm hd (c':= .blk) (n':=0) (hbk w _ ha) (dV.refl w) (by simp) ⟨_,_,ha,j5.waiting bW bW (.inr rfl)⟩ ⟨rfl,g,C9,rfl⟩ rfl (uZ (nI 0))
   refine dC.qU hb hs hp hm hd (c':= .w4) (dr w ha) (dV.set w 1 _) s6 ⟨_,_,Go.ConcR.WgAt.setSm ha _,?_⟩ pY rfl (eB (by simp[lZ,CK.phi]));rw[e1,e4,e3,e2];exact .over bW
 |blk=>
  obtain⟨_,kZ,_,e⟩:=ei;rw[e] at hsr;cases hsr
 |w4=>
  obtain⟨e1,e4,e3,e2,rfl,rfl⟩:=j5.run rfl bW;cases n with
  |succ n=>obtain⟨_,g',dr,pY⟩:=ei;exact vn rfl dr pY
  |zero=>
   obtain⟨_,g',dr,n',pY⟩:=ei;refine dC.qU hb hs hp hm hd (c':= .ke) (dr w ha) (dV.refl w) s4 ⟨_,_,ha,?_⟩ pY rfl (eB (by simp[lZ,CK.phi]));rw[e1,e4,e3,e2];exact .over bW
 |ke=>
  obtain⟨e1,e4,e3,e2,rfl,rfl⟩:=j5.run rfl bW;cases n with
  |succ n=>obtain⟨_,g',dr,pY⟩:=ei;exact vn rfl dr pY
  |zero=>
   obtain⟨_,g',dr,n',pY⟩:=ei;refine dC.qU hb hs hp hm hd (c':= .aq) (dr w) (dV.refl w) s2 ⟨_,_,ha,?_⟩ pY rfl (eB (by simp[lZ,CK.phi]));rw[e1,e4,e3,e2];exact .over bW
 |aq=>
  cases n with
  |succ n=>obtain⟨_,g',dr,pY⟩:=ei;exact vn rfl dr pY
  |zero=>exact absurd ⟨rfl,rfl⟩ hna
 |run tr=>exact ei.elim
end
theorem ae6(h1:r.cnt=0)(h4:r.c4=0)(h3:r.c3=0)(h2:r.c2=0):∃q d c,r= .leave q d c:=by
 cases r with
 |leave q d c=>simp
 |st k n=>cases k<;>simp[aN.cnt,aN.c4,aN.c3,aN.c2] at h1 h4 h3 h2
 |_=>grind [absurd,aN.cnt]
def aUH:aN ι->Nat
 | .leave q _ _=>q
 |_=>0
def LB(E:fW ι)(L0:Nat->Option Obj)(s:St)(S:Value->List (Nat×Obj)->St):Prop:=
 ∀l v X w,E.Gd l v X->cZ s w->(∀b o,L0 b=some o->w.heap[b]?=some o)->(X.map (·.1)).Nodup->(∀b o,(b,o)∈X->w.heap[b]?=some o/\L0 b=none/\Obj.real o=true/\¬s.knows b)->w.heap[E.Hb]?=some (E.full v)->L0 E.Hb=none->¬s.owns E.Hb->
  cZ (S v X) w/\∀b,(S v X).knows b->L0 b≠none\/s.knows b\/∃o,(b,o)∈X
theorem dC.finish(hb:nX E L K gs w t D)(hs:zh E L0 L K gs w t D 0 (some (.aq,0)) o m l)(hp:E.U3 (l++jQ D) os)(hm:gs[0]?=some g) (hd:Deaf t 0=0) (hS:LB E L0 (K 0) S)
 (hgo:stepG E.P true g w= .go g' w #[said (.acquire (stA E.Wg))]):
 ∃jK u q v X,runT E.P (crowd gs w sl) 0=(.next (crowd jK w sl),u)/\Lv E.P fU (λ_=>none) (gN K 0 (S v X)) jK w (t++u) q/\jK[0]?=some g'/\Deaf (t++u) 0=0/\Jc E.os E.out (gN K 0 (S v X)) w (t++u)/\l.Perm os/\E.Gd l v X:=by
 obtain⟨st,sm,ha,j5⟩:=hs.cells;obtain⟨e1,e4,e3,e2,rfl,rfl⟩:=j5.run rfl bW;have Ac:∀(k:Nat) (r:aN ι),D[k]?=some r->∃q d c,r= .leave q d c:=λk r hk=>ae6 (by have:=yT aN.cnt hk;omega) (by have:=yT aN.c4 hk;omega) (by have:=yT aN.c3 hk;omega) (by have:=yT aN.c2 hk;omega);have dz:=runT_crowd_go (P:=E.P) (sl:=sl) (i:=0) hm (by simpa using hgo);have q1:MemOp.ofEvents 0 g.frame.fn g.frame.place #[said (.acquire (stA E.Wg))]= #[{g:=0,fn:=g.frame.fn,pos:=g.frame.place,act:= .mark (.acquire (stA E.Wg))}]:=by rw[ofEvents_eq];simp[said,Go.ConcR.ofEvent_mk]
 rw[q1] at dz;generalize hu:(#[{g:=0,fn:=g.frame.fn,pos:=g.frame.place,act:= .mark (.acquire (stA E.Wg))}]:Trace)=u at dz;have CJ:∀op∈u,op.g=0/\op.act= .mark (.acquire (stA E.Wg)):=by rw[<-hu];intro op a8;simp at a8;subst a8;exact⟨rfl,rfl⟩
 have X4:∀op∈u,op.act.touch?=none:=λop a8=>by rw[(CJ op a8).2];rfl
 have hr:(t++u)[t.size]?=some {g:=0,fn:=g.frame.fn,pos:=g.frame.place,act:= .mark (.acquire (stA E.Wg))}:=by rw[<-hu];simp
 have heard:(t++u).heard t.size:=⟨0,by simp[Trace.g?,hr],by rw[deaf_old (bu _)];exact hd⟩;have hdu:Deaf (t++u) 0=0:=by
  have:=Deaf_own t 0 g.frame.fn g.frame.place #[said (.acquire (stA E.Wg))];rw[q1,hu,hd] at this;rw[this];rfl
 have eo:∀k,∀op∈u,op.g≠k+1:=λk op a8=>by rw[(CJ op a8).1];omega
 have hdo:∀k,Deaf (t++u) (k+1)=Deaf t (k+1):=λk=>jm _ _ (eo k);have dO:∀k r,D[k]?=some r->fU (t++u) (k+1):=λk r hk=>by
  obtain⟨x,hx,dJ⟩:=hb.ok k r hk;obtain⟨q,d,cur,rfl⟩:=Ac k r hk;cases cur with
  |false=>exact(dJ.2.2.2.2 rfl).other (eo k)
  |true=>
   obtain⟨rr,hrr⟩:=dJ.2.2.2.1 rfl;have dS:=lt_of_act? hrr.act;have Q7:HappensBefore (t++u) rr t.size:= .single (.inr ⟨.marked dS (.inr (by rw[act?_old dS];exact hrr.act)) (by rw[act?_of hr]) (λk _ hk=>by rw[act?_old (by omega)];exact hs.norel _ k),(heard_old dS).2 hrr.heard,heard⟩);intro p pY hct;obtain⟨op,ho,aku⟩:=dQ.1 pY;rcases getElem?_append_cases ho with ⟨SP,_⟩| ⟨_,jv⟩
   .have hp1:t.g? p=some (k+1):=by rw[<-g?_old (u:=u) SP];exact pY
    have bg5:=(counts_old SP).1 hct;have hle:p<=rr:=Nat.le_of_not_lt λdS=>hrr.after p dS hp1 bg5;refine⟨t.size,by simp[Trace.g?,hr],?_⟩;rcases Dc p rr with h1|h1
    .exact(hb_app u (.single (.inl ⟨h1,_,hp1,hrr.g⟩))).trans Q7
    obtain rfl:p=rr:=by omega
    exact Q7
   exact absurd aku (eo k op jv)
 rcases hs.gu with ⟨j,o1,os1,tr1,hj,_⟩| ⟨wP,v,X,WR,kP,hX,hLs,hHb,htk⟩
 .obtain⟨_,_,_,e⟩:=Ac j _ hj;cases e
 have DV:=hb.fit.quiet (u:=u) (w':=w) E.Mu hs.kM hs.lM (bu _) (λ_ _ _=>rfl) X4;have aaR:∀j,j≠0->∀b,¬(K j).knows b:=λj hj b hk=>by
  rcases Dc j gs.size with h1|h1
  .obtain⟨k,rfl⟩:∃k,j=k+1:=⟨j-1,by omega⟩;have dS:k <D.length:=by have:=hb.size;omega
   obtain⟨x,hx,dJ⟩:=hb.ok k _ (af dS);obtain⟨q,d,c,e⟩:=Ac k _ (af dS);rw[e] at dJ;rw[dJ.1] at hk;rcases hk with hk| ⟨o,ho⟩
   .exact hk rfl
   cases ho
  exact hb.far j h1 b hk
 have L0n:∀b,L b=none->L0 b=none:=λb hb=>by
  cases h':L0 b with
  |none=>rfl
  |some o=>rw[hLs b o h'] at hb;cases hb
 obtain⟨hS1,hS2⟩:=hS l v X w WR (hb.fit.nk 0) (λb o hl=>hb.fit.CG b o (hLs b o hl)) kP (λb o hbx=>⟨hb.fit.CG b o (hX b o hbx).1,(hX b o hbx).2.1,(hX b o hbx).2.2.1,(hX b o hbx).2.2.2 0⟩) hHb (L0n _ hs.lH) (hs.nH 0);have Is:=DV.alone (i:=0) aaR (S v X) hS1 (λb hk=>by
  rcases hS2 b hk with h1|h1| ⟨o',h1⟩
  .refine .inl λe=>h1 (L0n b e)
  .exact .inr h1
  .exact .inl (by rw[(hX b o' h1).1];simp)) λb _ p y hy xE hyb=>by
  obtain⟨op,ho,hyo⟩:=touch_of hy;have dS:op.g <gs.size:=by
   rcases oW.1 (mem_of_getElem? ho) with h'|h'
   .exact hb.ops op h'
   rw[(CJ op h').1,hb.size];omega
  cases aku:op.g with
  |zero=>have:=knows_own ho;rwa[aku] at this
  |succ k=>
   have hk:k <D.length:=by have:=hb.size;omega
   obtain⟨j,hj,mz⟩:=dO k _ (af hk) p (by simp[Trace.g?,ho,aku]) ⟨y,by simpa [touchAt] using hy,by cases hl:y.loc<;>simp_all[blk,Loc.isMemory],.inl (by rw[xE];simp)⟩;obtain⟨z',BR,hzg⟩:=dQ.1 hj;exact⟨j,z',BR,hzg,.inr mz⟩
 have yw:∀k r x,D[k]?=some r->gs[k+1]?=some x->woken E.P g g' w x=x:=λk r x hk hx=>by
  obtain⟨y,hy,dJ⟩:=hb.ok k r hk;rw[hx] at hy;cases hy;obtain⟨q,d,c,rfl⟩:=Ac k r hk;unfold Go.Conc.woken;split
  .exact again_running _ dJ.2.1.status
  rfl
 have bgi:jQ D=[]:=by
  unfold jQ;rw[List.flatMap_eq_nil_iff];intro r hr;obtain⟨k,hk⟩:=dA hr;obtain⟨q,d,c,rfl⟩:=Ac k r hk;rfl
 refine⟨_,u,D.map aUH,v,X,dz,⟨Is,by simp[hb.size],λk q hk=>?_,λj b hj hk=>?_,λop a8=>?_⟩,?_,hdu,⟨λa=>(hs.norel a).app λop a8=>by rw[(CJ op a8).2];simp,hb.same⟩,?_,WR⟩
 .rw[eG] at hk;obtain⟨r,qT,rfl⟩:=dQ.1 hk;obtain⟨x,hx,dJ⟩:=hb.ok k r qT;have ep:=dO k r qT;have hw1:=yw k r x qT hx;obtain⟨q,d,c,rfl⟩:=Ac k r qT;exact⟨x,d,by rw[ij (by omega) hx,hw1],dJ.2.1,by rw[hdo];exact dJ.2.2.1,ep⟩
 .rw[bz _ _ hj] at hk;exact aaR j hj b hk
 .rw[jA,LJ];rcases oW.1 a8 with h'|h'
  .exact hb.ops op h'
  rw[(CJ op h').1,hb.size];omega
 .have:=hb.size;rw[oZ (by simp;omega)]
 rw[bgi,eR] at hp;exact hp.1
variable {Q:Machine->Outcome->World->Trace->Prop}
def af1(E:fW ι)(Q:Machine->Outcome->World->Trace->Prop)(os:List ι)(S:Value->List (Nat×Obj)->St)(g:Goroutine):Prop:=
 ∀l v X,l.Perm os->E.Gd l v X->TL E.P fU (λ_=>none) (Jc E.os E.out) Q g (S v X)
def aiO(hS:LB E L0 s S):∀(μ:GM ι) c n K gs w t sl main d0,μ.c=lZ E.max (some (c,n))->μ.r=runN gs->
 dC E (af1 E Q os S) L0 K gs w t μ.D 0 (some (c,n)) μ.o μ.m os main d0->K 0=s->Ends E.P Q (crowd gs w sl) t:=by
 intro μ
 induction μ using Ct.wf.induction with
 |_ μ ih=>
  obtain⟨D,o,m,cc,rn⟩:=μ;intro c n K gs w t sl main d0 hc hr hI hK;simp only at hc hr hI;subst hc hr;obtain⟨i,dk,d,JG,cO,Cm,dr⟩:=crowd_pick (P:=E.P) (gs:=gs) (w:=w) (sl:=sl) hI.awake hI.alive;have BY:=hI.at d;cases i with
  |zero=>
   obtain⟨⟨L,l,hb,hs,hp⟩,hm,hd,fw⟩:=BY;obtain rfl:dk=main:=by rw[cO] at hm;exact aJ hm
   by_cases ha:c= .aq/\n=0
   .obtain⟨rfl,rfl⟩:=ha;obtain⟨⟨_,g',hgo,uC⟩,rfl⟩:=fw;obtain⟨jK,u,q,v,X,h1,h2,h3,h4,h5,h6,h7⟩:=dC.finish (sl:=JG) hb hs hp hm hd (S:=S) (hK▸hS) (hgo _);exact Ends.next (dr.trans h1) (uC l v X h6 h7 _ jK _ _ q JG h2 h3 (by rw[aY];exact St.le_refl _) h4 h5)
   obtain⟨jK,w',u,c',n',g',d',h1,h2,h3⟩:=dC.wait (sl:=JG) hb hs hp hm hd fw Cm ha;exact Ends.next (dr.trans h1) (ih ⟨D,o,m,lZ E.max (some (c',n')),runN jK⟩ (.c (bu _) rfl rfl h3) c' n' K jK w' _ JG g' d' rfl rfl h2 hK)
  |succ i=>
   by_cases hq:∀r,D[i]?=some r->r.quiet=false
   .obtain⟨K',jK,w',u,D',cl',o',m',main',hr,Iw,mb,hmn,kp,WC,dS⟩:=BY.other (sl:=JG) cO Cm hq
    match cl',kp,Iw,dS with
    |none,kp,_,_=>exact absurd (kp.2 rfl) (by simp)
    |some (c',n'),_,Iw,dS=>exact Ends.next (dr.trans hr) (ih ⟨D',o',m',lZ E.max (some (c',n')),runN jK⟩ dS c' n' K' jK w' _ JG main' d0 rfl rfl Iw (mb.trans hK))
   obtain⟨r,hr⟩:=Classical.not_forall.1 hq;obtain⟨EW,BT⟩:=Classical.not_imp.1 hr;obtain⟨K',D',Iw,mb,WC,dS⟩:=hI.norm EW (by simpa using BT);exact ih ⟨D',o,m,lZ E.max (some (c,n)),runN gs⟩ (dS _ _) c n K' gs w t sl main d0 rfl rfl Iw (mb.trans hK)
def avn(hS:LB E L0 s S)(hkd:E.pw (E.Kd (af1 E Q os S)) g):TG E (af1 E Q os S) L0 Q 0 nw os 0 g s:=by
 intro K gs w t D o m sl hI hn hle;obtain⟨n,hkd⟩:=hkd;have hI:=hI.le0 hle;refine aiO (os:=os) hS ⟨D,o,m,_,runN gs⟩ .kd n (gN K 0 s) gs w t sl g 0 rfl rfl ?_ (aY _ _ _);obtain⟨⟨L,l,hb,hs,hp⟩,hm,hd,fw⟩:=hI;refine⟨⟨L,l,hb,⟨hs.kW,hs.kM,hs.lW,hs.lM,hs.lH,hs.ne,hs.norel,hs.plain,hs.said,?_,hs.pO,hs.mu,hs.mi,hs.ZU,hs.dS,hs.nH,hs.Uf,hs.gu⟩,hp⟩,hm,hd,hkd,rfl⟩;obtain⟨st,sm,ha,j5⟩:=hs.cells;obtain⟨rfl,rfl⟩:=Md.count j5;obtain⟨e4,e3,e2⟩:=hs.aA4;exact⟨_,_,ha,by rw[e4,e3,e2];exact .kd⟩
end
def Cp(P:Program)(fr:Frame):Option (Func×Array Value):=
 match fr.mode,fr.todo,fr.roundOf with
 | .run,.inRegion ops (i::_)::_,none=>bif ((ops[i]?).map (Region.wanted · (yielded ops fr.tmps))).getD false&& !(Od fr.kind) then (match ops[i]? with
  |some o=>match o.op with
   | .call ⟨.value (.func f),ae,_⟩=>match P.funcs[f]? with
    |some fn=>some (fn,ae.map fr.eval)
    |none=>none
   |_=>none
  |none=>none) else none
 |_,_,_=>none
structure I8(fn:Func)(E:Array Value->Sem Value):Prop where
 name:(fn.name== "runtime.NumGoroutine")=false
 aoP:fn.body.isNone=true
 next:Extern.findNext fn=none
 ext:Extern.find fn=some E
section
variable {P:Program} {main:Bool} {fr:Frame} {fn:Func} {args:Array Value} {E:Array Value->Sem Value}
def Q3(h:Cp P fr=some (fn,args)):∃ops i rest k o f ae ats,fr=fr.at ⟨fr.tmps,fr.defers⟩ (.inRegion ops (i::rest)::k)/\ops[i]?=some o/\Region.wanted o (yielded ops fr.tmps)=true/\fr.kind≠ .early/\
 o.op= .call {callee:= .value (.func f),args:=ae,argTypes:=ats}/\P.funcs[f]?=some fn/\ae.map (Act.eval ⟨fr.tmps,fr.defers⟩)=args/\∀v,fr.at ((⟨fr.tmps,fr.defers⟩:Act).put o.dst v) (.inRegion ops rest::k)=fr.finish v:=by
 rcases fr with ⟨fnn,tmps,todo,defers,mode,kind,ro⟩
 unfold Cp at h;simp only at h;split at h<;>try (cases h;done)
 rename_i _ _ _ ops i rest k;cases hw:(((ops[i]?).map (Region.wanted · (yielded ops tmps))).getD false&& !(Od kind)) with
 |false=>rw[hw] at h;cases h
 |true=>
 rw[hw] at h;simp only[cH] at h;simp only[au] at hw;split at h<;>try (cases h;done)
 rename_i o ho;split at h<;>try (cases h;done)
 rename_i f ae ats a8;split at h<;>try (cases h;done)
 rename_i fn' hf;simp only[aD,bP] at h;obtain⟨rfl,rfl⟩:=h;have hk:kind≠ .early:=by cases kind<;>first| (simp;done)|cases hw.2
 have hwn:Region.wanted o (yielded ops tmps)=true:=by simpa [ho] using hw.1
 refine⟨ops,i,rest,k,o,f,ae,ats,rfl,ho,hwn,hk,a8,hf,rfl,λv=>?_⟩;have:=Frame.finish_at (b:=⟨fnn,tmps,.inRegion ops (i::rest)::k,defers,.run,kind,none⟩) (a:=⟨tmps,defers⟩) (ops:=ops) (i:=i) (rest:=rest) (k:=k) (v:=v);rw[ho] at this;exact this.symm
variable {w w':World} {v:Value}
theorem IG(h:Cp P fr=some (fn,args))(hE:I8 fn E){Am:Array Event}(dz:(E args).run P w= .ok v w')
 (WA:∀f,(E args).events P w #[⟨.mark (.extern f),false,true⟩]= #[⟨.mark (.extern f),false,true⟩]++Am)(hs:∀x∈Am,x.sync=true/\∀g,x.loc≠ .mark (.extern g))(cs:List Frame):stepG P main (G fr cs) w= .go (G (fr.finish v) cs) w' Am:=by
 obtain⟨ops,i,rest,k,o,f,ae,ats,e,ho,hw,hk,a8,hf,ha,uC⟩:=Q3 h;have:=stepG_entry (P:=P) (main:=main) (rest:=rest) (b:=fr) (a:=⟨fr.tmps,fr.defers⟩) (kk:=k) (cs:=cs) ho hw hk a8 hf hE.name hE.aoP hE.next hE.ext (v:=v) (w':=w') (w:=w) (by rw[ha];exact dz) (by rw[ha];exact WA f) hs
 grind
def BZ{ad:Addr}{k:IntKind}{x y z:Int}(h:Cp P fr=some (fn,#[.pointer (some ad),.int k y,.int k z]))(hE:I8 fn (Extern.Atomic.casT (.int k)))(hc:w.cell? ad=some (.int k x))(hz:w.frozen? ad=false)(eo:x≠y)(cs:List Frame):
 stepG P main (G fr cs) w= .go (G (fr.finish (.bool false)) cs) w #[⟨.cell ad,false,true⟩]:=
 IG h hE (by rw[casT_eq];exact run_cas_miss_entry hc hz eo) (λf=>by rw[casT_eq,events_cas_miss_entry hc hz eo];rfl) (sync_r ad) cs
def KW{ad:Addr}{k:IntKind}{y z:Int}(h:Cp P fr=some (fn,#[.pointer (some ad),.int k y,.int k z]))(hE:I8 fn (Extern.Atomic.casT (.int k)))(hc:w.cell? ad=some (.int k y))(hz:w.frozen? ad=false)(cs:List Frame):
 stepG P main (G fr cs) w= .go (G (fr.finish (.bool true)) cs) (w.setCell ad (.int k z)) #[⟨.cell ad,false,true⟩,⟨.cell ad,true,true⟩]:=
 IG h hE (by rw[casT_eq];exact run_cas_hit_entry hc hz) (λf=>by rw[casT_eq,events_cas_hit_entry hc hz];rfl) (sync_rw ad) cs
def UH{k:IntKind}{n:Int}(h:Cp P fr=some (fn,#[.int k n]))(hE:I8 fn Extern.Sync.canSpin)(h4:n <4)(cs:List Frame):
 stepG P main (G fr cs) w= .go (G (fr.finish (.bool w.spins)) cs) w.asked #[]:=by
 have h4':¬(n>=4):=by omega
 exact IG h hE (by rw[canSpin_eq,cJ h4'];rfl) (λf=>by simp[canSpin_eq]) (by simp) cs
theorem MT(h:Cp P fr=some (fn,args))(hE:I8 fn Extern.OsHooks.nano)(hq:fn.norace=true)(cs:List Frame):
 stepG P main (G fr cs) w= .go (G (fr.finish (.int .i64 ((w.os.mono+w.tick:Nat):Int))) cs) w.later #[]:=by
 obtain⟨ops,i,rest,k,o,f,ae,ats,e,ho,hw,hk,a8,hf,ha,uC⟩:=Q3 h;have:=stepG_nanotime (P:=P) (main:=main) (rest:=rest) (b:=fr) (a:=⟨fr.tmps,fr.defers⟩) (kk:=k) (cs:=cs) (w:=w) ho hw hk a8 hf hE.name hE.aoP hE.next hE.ext hq
 grind
end
def tdR(n i:Nat):Code->List Item->Option (List Item)
 | .region m ops _,k=>bif Nat.beq m n then some (.inRegion ops ((List.range ops.size).drop i)::k) else none
 | .seq a b,k=>match tdR n i a (.code b::k) with
  |some r=>some r
  |none=>tdR n i b k
 | .cond _ x y,k=>match tdR n i x k with
  |some r=>some r
  |none=>tdR n i y k
 | .block id c,k=>tdR n i c (.inBlock id::k)
 | .loop c,k=>tdR n i c (.inLoop c::k)
 | .scope c,k=>tdR n i c (.inScope c::k)
 |_,_=>none
def tdB(n:Nat):Code->List Item->Option (List Item)
 | .seq a b,k=>match tdB n a (.code b::k) with
  |some r=>some r
  |none=>tdB n b k
 | .cond _ x y,k=>match tdB n x k with
  |some r=>some r
  |none=>tdB n y k
 | .block id c,k=>bif Nat.beq id n then some (.code (.block id c)::k) else tdB n c (.inBlock id::k)
 | .loop c,k=>tdB n c (.inLoop c::k)
 | .scope c,k=>tdB n c (.inScope c::k)
 |_,_=>none
def atS(P:Program)(f:Nat)(td:Code->List Item->Option (List Item)):List Item:=match P.funcs[f]? with
 |some fn=>match fn.body with
  |some c=>match td c [] with
   |some r=>r
   |none=>[]
  |none=>[]
 |none=>[]
def tdF(P:Program)(f n i:Nat):List Item:=atS P f (tdR n i)
def ovr(v:Nat->Value):List (Nat×Value)->Nat->Value
 | [],i=>v i
 | (j,x)::l,i=>bif Nat.beq i j then x else ovr v l i
def mkT(v:Nat->Value)(l:List (Nat×Value))(n:Nat):Array Value:=((List.range n).map (ovr v l)).toArray
structure FD where
 f:Nat
 td:List Item
 kind:CallKind
 size:Nat
 live:List (Nat×Value)
def FOK(d:FD)(fr:Frame):Prop:=fr.fn=d.f/\fr.todo=d.td/\fr.defers=[]/\fr.mode= .run/\fr.kind=d.kind/\fr.roundOf=none/\fr.tmps.size=d.size/\∀p∈d.live,fr.tmps[p.1]?=some p.2
def af2:List FD->List Frame->Prop
 | [],[]=>True
 |d::ds,f::fs=>FOK d f/\af2 ds fs
 |_,_=>False
def AtD(ds:List FD)(cs:List Frame)(g:Goroutine):Prop:=∃f fs,af2 ds (f::fs)/\g=G f (fs++cs)
theorem AtD.run{ds:List FD}{g:Goroutine}(h:AtD ds cs g):g.status= .running/\g.offers=none:=by
 obtain⟨f,fs,_,rfl⟩:=h;exact⟨rfl,rfl⟩
def aFT(d:FD)(v:Nat->Value):Frame:=⟨d.f,mkT v d.live d.size,d.td,[],.run,d.kind,none⟩
def e9:List FD->(Nat->Nat->Value)->List Frame
 | [],_=>[]
 |d::ds,v=>aFT d (v 0)::e9 ds λk=>v (k+1)
theorem aos{T:Array Value}:∀ {l:List (Nat×Value)},(∀p∈l,T[p.1]?=some p.2)->∀i,i <T.size->ovr (λi=>T.getD i undef) l i=T.getD i undef
 | [],_,i,_=>rfl
 | (j,x)::l,h,i,hi=>by
  simp only[ovr];cases e:Nat.beq i j with
  |true=>
   simp_all
  |false=>simp only[fJ];exact aos (λp hp=>h p (by simp[hp])) i hi
theorem FOK.mk{d:FD}(h:FOK d fr):fr=aFT d λi=>fr.tmps.getD i undef:=by
 rcases fr with ⟨fn,tmps,todo,defers,mode,kind,ro⟩
 obtain⟨h1,h2,h3,h4,h5,h6,h7,h8⟩:=h;simp only at h1 h2 h3 h4 h5 h6 h7 h8;subst h1 h2 h3 h4 h5 h6;simp only[aFT,Frame.mk.injEq,true_and,and_true];apply wU;intro i;simp only[mkT,<-h7];rcases Dc i tmps.size with hi|hi
 .have:((List.range tmps.size).map (ovr (λi=>tmps.getD i undef) d.live)).toArray[i]?=some (ovr (λi=>tmps.getD i undef) d.live i):=by simp[hi]
  rw[this,aos h8 i hi,fV,tF hi];rfl
 rw[Array.getElem?_eq_none hi,Array.getElem?_eq_none (by simpa using hi)]
theorem af2.mk:∀ {ds:List FD} {fs:List Frame},af2 ds fs->∃v,fs=e9 ds v
 | [],[],_=>⟨λ_ _=>undef,rfl⟩
 |d::ds,f::fs,h=>by
  obtain⟨v,hv⟩:=af2.mk h.2;exact⟨λk=>match k with
   |0=>λi=>f.tmps.getD i _
   |k+1=>v k,by simp only[e9];rw[<-FOK.mk h.1,<-hv]⟩
 | [],_::_,h=>h.elim
 |_::_,[],h=>h.elim
abbrev azx:=Nat×List Item×List Deferred×FrameMode×CallKind×Option Nat×Nat×List (Option Value)
def aEF(idx:List Nat)(fr:Frame):azx:=(fr.fn,fr.todo,fr.defers,fr.mode,fr.kind,fr.roundOf,fr.tmps.size,idx.map λi=>fr.tmps[i]?)
def NK(d:FD):azx:=(d.f,d.td,[],.run,d.kind,none,d.size,d.live.map λp=>some p.2)
def sigs:List FD->List Frame->Option (List azx)
 | [],[]=>some []
 |d::ds,f::fs=>match sigs ds fs with
  |some l=>some (aEF (d.live.map (·.1)) f::l)
  |none=>none
 |_,_=>none
def avA{d:FD}(h:aEF (d.live.map (·.1)) fr=NK d):FOK d fr:=by
 simp only[aEF,NK,bP,qR] at h;obtain⟨h1,h2,h3,h4,h5,h6,h7,h8⟩:=h;exact⟨h1,h2,h3,h4,h5,h6,h7,λp hp=>List.map_inj_left.1 h8 p hp⟩
theorem ags:∀ {ds:List FD} {fs:List Frame},sigs ds fs=some (ds.map NK)->af2 ds fs
 | [],[],_=>bW
 |d::ds,f::fs,h=>by
  simp only[sigs] at h;split at h<;>try grind
  rename_i l hl;simp only[bV,aD,lO] at h;exact⟨avA h.1,ags (by rw[hl,h.2])⟩
 | [],_::_,h=>by cases h
 |_::_,[],h=>by cases h
def goS(st:Frame->Bool)(P:Program)(ty:TypeId):Nat->Frame->List Frame->Option (Frame×List Frame×List Nat)
 |0,_,_=>none
 |n+1,fr,jq=>bif st fr then some (fr,jq,[]) else match PO P ty gq fr jq with
  |some (.go n8 gJ,[],[],bs)=>match goS st P ty n n8 gJ with
   |some (f,s,b)=>some (f,s,bs++b)
   |none=>none
  |_=>some (fr,jq,[])
abbrev Rs:=Option (Frame×List Frame×List (Nat×Value)×List (Nat×Nat)×List Nat)
def VD(st:Frame->Bool)(P:Program)(ty:TypeId):List Frame->Rs
 |f::s=>match goS st P ty 400 f s with
  |some (f,s,b)=>some (f,s,[],[],b)
  |none=>none
 | []=>none
def mR(st:Frame->Bool)(P:Program)(ty:TypeId)(c:LA):List Frame->Rs
 |fr::jq=>match acO P ty c fr jq with
  |some (n8,gJ,ws,ks,b1,b2)=>match goS st P ty 400 n8 gJ with
   |some (f,s,b3)=>some (f,s,ws,ks,b1++(b2++b3))
   |none=>none
  |none=>none
 | []=>none
def FJ(st:Frame->Bool)(P:Program)(ty:TypeId)(v:Value):List Frame->Rs
 |fr::jq=>VD st P ty (fr.finish v::jq)
 | []=>none
abbrev Out:=Option (Option (List azx)×List (Nat×Value)×List (Nat×Nat)×List Nat)
def Sv(ds:List FD):Rs->Out
 |some (f,s,ws,ks,bs)=>some (sigs ds (f::s),ws,ks,bs)
 |none=>none
def nB:Rs->Nat
 |some (_,_,_,_,bs)=>bs.length
 |none=>0
def Comes(W:Nat)(ds:List FD)(ws:List (Nat×Value))(ks:List (Nat×Nat))(r:Rs):Prop:=Sv ds r=some (some (ds.map NK),ws,ks,List.replicate (nB r) W)
section
variable {P:Program} {ty:TypeId} {W:Nat} {main:Bool} {Live:World->Prop} {st:Frame->Bool} {ds KY:List FD} {cs:List Frame} {g:Goroutine}
theorem Comes.ok{ws:List (Nat×Value)}{ks:List (Nat×Nat)}{r:Rs}(h:Comes W ds ws ks r):∃f s bs,r=some (f,s,ws,ks,bs)/\af2 ds (f::s)/\∀b∈bs,b=W:=by
 unfold Comes Sv at h
 match r,h with
 |some (f,s,ws',ks',bs),h=>
  simp only[aD,bP] at h;obtain⟨h1,rfl,rfl,h2⟩:=h;exact⟨f,s,bs,rfl,ags h1,λb hb=>by rw[h2] at hb;exact List.eq_of_mem_replicate hb⟩
def WU{Stop:Goroutine->Prop}(hL:∀w,Live w->j6 ty W w gq):∀ {n:Nat} {fr f:Frame} {jq s:List Frame} {bs:List Nat},goS st P ty n fr jq=some (f,s,bs)->(∀b∈bs,b=W)->
 ∀cs,(∀g,g=G f (s++cs)->Stop g)->∃m,Pure P main Live Stop m (G fr (jq++cs))
 |0,_,_,_,_,_,h,_,_,_=>by cases h
 |n+1,fr,f,jq,s,bs,h,hb,cs,hS=>by
  simp only[goS] at h;cases dr:st fr with
  |true=>
   rw[dr] at h;simp only[cH,aD,bP] at h;obtain⟨rfl,rfl,rfl⟩:=h;exact⟨0,hS _ rfl⟩
  |false=>
  rw[dr] at h;simp only[fJ] at h;split at h
  .rename_i n8 gJ b1 h0;split at h<;>try (cases h;done)
   rename_i f2 s2 b2 h1;simp only[aD,bP] at h;obtain⟨rfl,rfl,rfl⟩:=h;obtain⟨m,hm⟩:=WU hL h1 (λb hm=>hb b (by simp[hm])) cs hS;refine⟨m+1,rfl,_,λw hw=>?_,hm⟩;have:=pX h0 (λb hm=>hb b (by simp[hm])) (.inr (hL w hw)) cs main;simp only[OV.is] at this;rw[this];rfl
  simp only[aD,bP] at h;obtain⟨rfl,rfl,rfl⟩:=h;exact⟨0,hS _ rfl⟩
def EH(hL:∀w,Live w->j6 ty W w gq){f:Frame}{s:List Frame}(h:Comes W KY [] [] (VD st P ty (f::s)))(cs:List Frame):∃m,Pure P main Live (AtD KY cs) m (G f (s++cs)):=by
 obtain⟨f',s',bs,h1,h2,h3⟩:=h.ok;simp only[VD] at h1;split at h1<;>try (cases h1;done)
 rename_i h0;obtain⟨rfl,rfl,_,_,rfl⟩:=h1;exact WU hL h0 h3 cs λg hg=>⟨_,_,h2,hg⟩
def anu(hL:∀w,Live w->j6 ty W w gq)(h:∀v,Comes W KY [] [] (VD st P ty (e9 ds v)))(ei:AtD ds cs g):∃m,Pure P main Live (AtD KY cs) m g:=by
 obtain⟨f,fs,h1,rfl⟩:=ei;obtain⟨v,hv⟩:=h1.mk;exact EH hL (by rw[hv];exact h v) cs
def Vw(hL:∀w,Live w->j6 ty W w gq){c:LA}{ws:List (Nat×Value)}{ks:List (Nat×Nat)}(h:∀v,Comes W KY ws ks (mR st P ty c (e9 ds v)))(ei:AtD ds cs g):
 ∃g',(∀w,j6 ty W w c->stepG P main g w= .go g' (JU W w ws) (ks.map (Ed W)).toArray)/\∃m,Pure P main Live (AtD KY cs) m g':=by
 obtain⟨f,fs,h1,rfl⟩:=ei;obtain⟨v,hv⟩:=h1.mk;have h:=h v;rw[<-hv] at h;obtain⟨f',s',bs,h2,h3,h4⟩:=h.ok;simp only[mR] at h2;split at h2<;>try (cases h2;done)
 rename_i n8 gJ ws' ks' b1 b2 h5;split at h2<;>try (cases h2;done)
 rename_i f2 s2 b3 h6;simp only[aD,bP] at h2;obtain⟨rfl,rfl,rfl,rfl,rfl⟩:=h2;exact⟨_,λw hw=>HF h5 (λb hm=>h4 b (by simp[hm])) (λb hm=>h4 b (by simp[hm])) (.inr hw) cs main,WU hL h6 (λb hm=>h4 b (by simp[hm])) cs λg hg=>⟨_,_,h3,hg⟩⟩
theorem aJT(hL:∀w,Live w->j6 ty W w gq){x:Value}{e:Frame->Option (Func×Array Value)}{r:Func×Array Value}(he:∀v,(e9 ds v).head?.bind e=some r)(h:∀v,Comes W KY [] [] (FJ st P ty x (e9 ds v)))(ei:AtD ds cs g):
 ∃f fs,g=G f (fs++cs)/\e f=some r/\∃m,Pure P main Live (AtD KY cs) m (G (f.finish x) (fs++cs)):=by
 obtain⟨f,fs,h1,rfl⟩:=ei;obtain⟨v,hv⟩:=h1.mk;refine⟨f,fs,rfl,?_,EH (st:=st) hL ?_ cs⟩
 .grind
 have:=h v;rw[<-hv] at this;exact this
end
def yL{F:α->Out}{X:α->Out}{l:List α}(h:l.map F=l.map X){x:α}(hx:x∈l):F x=X x:=by simp_all
end Go.L
