/- Part 3 of the proof. -/
import Derived.Test.YtfhaegdkhpdedaaGreatDoorS2
import Derived.Conc.AtomicLaws2
import Derived.Conc.ClockLaws
set_option maxRecDepth 100000
set_option maxHeartbeats 4000000
set_option linter.all false
namespace Go.L
open Go Go.Conc
open Go.ConcR (KK wgBlock WgAt stA smA rd wr)
open Go.ConcM (OsLater)
variable {S:Value→List (Nat×Obj)→St} {n mx j m':Nat} {cs:List Frame} {g1:Goroutine} {α:Type} {st sm:Int} {fr:Frame}
section
variable {ι:Type} {E:fY ι} {Fin:Goroutine->Prop}
def UZ(a:Addr)(t:Trace)(p:Nat):Prop:=∃r,t.act? r=some (.mark (.releaseMerge a))/\t.heard r/\Before t p r
theorem UZ.app{a:Addr}{t:Trace}{p:Nat}(h:UZ a t p)(u:Trace):UZ a (t++u) p:=by
 obtain⟨r,h1,h2,h3⟩:=h;have hr:=lt_of_act? h1;exact⟨r,by grind [act?_old],(heard_old hr).2 h2,h3.app u⟩
variable (E) in
def bjI(n:Nat)(t:Trace)(D:List (aP ι))(p:Nat):Prop:=(Knows t 0 p/\∀(k:Nat) (r:aP ι),D[k]?=some r->r.left=false->Knows t (k+1) p)\/UZ (stA E.Mu) t p\/∃(i:Nat) (r:aP ι),D[i]?=some r/\r.tok=true/\Knows t (i+1) p
variable (E) in
def aiI(X:List (Nat×Obj))(x:Touch):Prop:=(∃b o,(b,o)∈X/\blk x.loc=some b)\/oQ E.Hb x.loc
variable (E) in
def Guard(L0 L:Nat->Option Obj)(K:Nat->St)(n:Nat)(w:World)(t:Trace)(D:List (aP ι))(l:List ι):Prop:=
 (∃(i:Nat) (o:ι) (os:List ι) (tr:Tree),D[i]?=some (aP.xC o os l tr)/\L=L0)\/
 ((∀(i:Nat) (r:aP ι),D[i]?=some r->r.iN=false)/\∃v X,E.Gd l v X/\(X.map (·.1)).Nodup/\(∀b o,(b,o)∈X->L b=some o/\L0 b=none/\Obj.real o=true/\∀j,¬(K j).knows b)/\(∀b o,L0 b=some o->L b=some o)/\
  w.heap[E.Hb]?=some (E.full v)/\∀p x,touchAt t p=some x->aiI E X x->bjI E n t D p)
def fY.At(E:fY ι)(x:Touch):Prop:=blk x.loc=some E.Wg\/blk x.loc=some E.Mu
def fY.UX(E:fY ι)(l os:List ι):Prop:=l.Perm os/\os.length<=E.mxl
structure Aa(E:fY ι)(L0 L:Nat->Option Obj)(K:Nat->St)(gs:Array Goroutine)(w:World)(t:Trace)(D:List (aP ι))(pend:Nat)(cl:yI)(o:Wd)(m:Nat)(l:List ι):Prop where
 kW:∀i,¬(K i).knows E.Wg
 kM:∀i,¬(K i).knows E.Mu
 lW:L E.Wg=none
 lM:L E.Mu=none
 lH:L E.Hb=none
 ne:E.Wg≠E.Mu/\E.Hb≠E.Wg/\E.Hb≠E.Mu
 norel:∀a,NoRelease a t
 plain:∀i,(i=0\/∃k r,i=k+1/\D[k]?=some r/\r.left=false)->∀p x,touchAt t p=some x->E.At x->x.kind= .plain->Knows t i p
 said:∀p x,touchAt t p=some x->blk x.loc=some E.Wg->x.kind= .said->Knows t 0 p
 cells:∃st sm,WgAt E.ty E.Wg w st sm/\Md E.max (e8 aP.cnt D+pend) (e8 aP.c4 D) (e8 aP.c3 D) (e8 aP.c2 D) (cl.map (·.1)) st sm
 oZ:e8 aP.cnt D+pend<=E.max
 mu:MuAt E.tm E.Mu w o.enc (m:Nat)
 mi:qL (D.map aP.qR) o m
 aag:m=1->∀i g,gs[i+1]?=some g->g.status≠ .blocked
 ei:E.Hb <w.heap.size
 nH:∀j,¬(K j).owns E.Hb
 Uc:∀j x,(K j).ro E.Hb=some x->x=E.hole\/∃i r,j=i+1/\D[i]?=some r/\r.iN=true
 gu:Guard E L0 L K gs.size w t D l
structure dC(E:fY ι)(Fin:Goroutine->Prop)(L0:Nat->Option Obj)(K:Nat->St)(gs:Array Goroutine)(w:World)(t:Trace)(D:List (aP ι))(pend:Nat)(cl:yI)(o:Wd)(m:Nat)(os:List ι)(main:Goroutine)(d0:Nat):Prop where
 bs:∃L l,n8 E L K gs w t D/\Aa E L0 L K gs w t D pend cl o m l/\E.UX (l++jW D) os
 aSP:gs[0]?=some main
 deaf:Deaf t 0=d0
 mok:rC E Fin main d0 cl
variable {L0 L L':Nat->Option Obj} {K:Nat->St} {gs:Array Goroutine} {w w':World} {t u:Trace} {D:List (aP ι)} {pend d0:Nat} {cl:yI} {o:Wd} {m:Nat} {l os:List ι} {main:Goroutine} {sl:Option (Nat×Nat)}
 {i:Nat} {r r':aP ι} {g g':Goroutine} {s':St} {es:Array Event}
theorem uQ{k:Nat}{x:aP ι}(hk:(D.set i r')[k]?=some x):(k=i/\x=r')\/(k≠i/\D[k]?=some x):=by
 grind
theorem Bg(hi:D[i]?=some r):(D.set i r')[i]?=some r':=by grind
theorem yu{k:Nat}{x:aP ι}(hk:D[k]?=some x) (eA:k≠i):(D.set i r')[k]?=some x:=by grind
theorem Guard.step(h:Guard E L0 L K n w t D l)(hi:D[i]?=some r) (hc:r.iN=false) (By:r'.iN=false) (zk:r'.left=false->r.left=false)
 (aqb:r.tok=true->r'.tok=true\/∀p,Knows t (i+1) p->UZ (stA E.Mu) (t++u) p) (hk:∀b,L b≠none->¬(K (i+1)).knows b->¬s'.knows b) (hH:w'.heap[E.Hb]?=w.heap[E.Hb]?)
 (hnt:∀op∈u,∀x,op.act.touch?=some x->¬oQ E.Hb x.loc/\∀b,blk x.loc=some b->L b≠none->(K (i+1)).knows b):Guard E L0 L (gV K (i+1) s') n w' (t++u) (D.set i r') l:=by
 rcases h with ⟨j,o,os,tr,hj,rfl⟩| ⟨wX,v,X,h1,h2,h3,h4,h5,h6⟩
 .have eA:j≠i:=λe=>by subst e;rw[hi] at hj;cases hj;cases hc
  exact .inl ⟨j,o,os,tr,yu hj eA,rfl⟩
 refine .inr ⟨λk x hx=>?_,v,X,h1,h2,λb o hb=>⟨(h3 b o hb).1,(h3 b o hb).2.1,(h3 b o hb).2.2.1,λj=>?_⟩,h4,by rw[hH];exact h5,λp x hx hg=>?_⟩
 .rcases uQ hx with ⟨_,rfl⟩| ⟨_,mO⟩
  .exact By
  exact wX k x mO
 .by_cases e:j=i+1
  .subst e;rw[aV];exact hk b (by rw[(h3 b o hb).1];simp) ((h3 b o hb).2.2.2 _)
  rw[bz _ _ e];exact(h3 b o hb).2.2.2 j
 have mO:touchAt t p=some x:=by
  rcases cm hx with ⟨_,h'⟩| ⟨_,op,hm,_,vI⟩
  .exact h'
  obtain⟨k1,k2⟩:=hnt op hm x vI;rcases hg with ⟨b,o,hb,Yl⟩|hh
  .exact absurd (k2 b Yl (by rw[(h3 b o hb).1];simp)) ((h3 b o hb).2.2.2 _)
  exact absurd hh k1
 rcases h6 p x mO hg with h7|h7| ⟨j,y,hj,hy,ep⟩
 .refine .inl ⟨h7.1.app u,λk y hk hy=>?_⟩;rcases uQ hk with ⟨rfl,rfl⟩| ⟨_,mA⟩
  .exact(h7.2 k r hi (zk hy)).app u
  exact(h7.2 k y mA hy).app u
 .exact .inr (.inl (h7.app u))
 by_cases e:j=i
 .subst e;rw[hi] at hj;cases hj;rcases aqb hy with h8|h8
  .exact .inr (.inr ⟨j,r',Bg hi,h8,ep.app u⟩)
  exact .inr (.inl (h8 p ep))
 exact .inr (.inr ⟨j,y,yu hj e,hy,ep.app u⟩)
def Guard.inside{it:ι}{ls l':List ι}{tr tr':Tree}(h:Guard E L0 L K n w t D l)(hi:D[i]?=some (.xC it ls l' tr)):Guard E L0 L (gV K (i+1) s') n w' (t++u) (D.set i (.xC it ls l tr')) l/\L=L0:=by
 rcases h with ⟨j,o,os,tr,hj,rfl⟩| ⟨wX,_⟩
 .by_cases e:j=i
  .subst e;rw[hi] at hj;cases hj;exact⟨.inl ⟨j,it,ls,tr',Bg hi,rfl⟩,rfl⟩
  exact⟨.inl ⟨j,o,os,tr,yu hj e,rfl⟩,rfl⟩
 have:=wX i _ hi;cases this
def oC(E:fY ι)(Fin:Goroutine->Prop)(L0:Nat->Option Obj)(K:Nat->St)(D:List (aP ι))(pend:Nat)(cl:yI)(o:Wd)(m:Nat)(os:List ι)(main:Goroutine)(d0:Nat)(gs:Array Goroutine)(w:World)(sl:Option (Nat×Nat))(t:Trace)(i:Nat):Prop:=
 ∃K' jN w' u D' cl' o' m' main',runT E.P (crowd gs w sl) i=(.next (crowd jN w' sl),u)/\dC E Fin L0 K' jN w' (t++u) D' pend cl' o' m' os main' d0/\K' 0=K 0/\(main.status= .running->main'=main)/\(cl=none↔cl'=none)/\e8 aP.cnt D'<=e8 aP.cnt D/\
  CM ⟨D',o',m',mb E.max cl',runN jN⟩ ⟨D,o,m,mb E.max cl,runN gs⟩
theorem dC.go(hb:n8 E L K gs w t D)(hs:Aa E L0 L K gs w t D pend cl o m l)(hp:E.UX (l++jW D) os)(hm:gs[0]?=some main) (hd:Deaf t 0=d0) (fw:rC E Fin main d0 cl)
 (hi:D[i]?=some r) (hg:gs[i+1]?=some g) (hgo:stepG E.P false g w= .go g' w' es) (hu:u=MemOp.ofEvents (i+1) g.frame.fn g.frame.place es) (Gm:mQ w w')
 (fq:¬s'.knows E.Wg) (rF:¬s'.knows E.Mu) (hsH:¬s'.owns E.Hb) (hsh:∀x,s'.ro E.Hb=some x->x=E.hole\/r'.iN=true)
 (sO:E.Hb <w'.heap.size) (hLW:L' E.Wg=none) (hLM:L' E.Mu=none) (hLH:L' E.Hb=none)
 (ov:Fit L' (gV K (i+1) s') w' (t++u)) (hr:ki E (t++u) (i+1) s' g' r')
 (oJ:∀op∈u,∀x,op.act.touch?=some x->E.At x->x.kind= .atomic) (jU:∀op∈u,∀a,op.act≠ .mark (.release a)) (zk:r'.left=false->r.left=false)
 (ahS:r.iN=false->∀k y,k≠i->D[k]?=some y->y.iN=true->∀op∈u,∀x,op.act.touch?=some x->¬oQ E.Hb x.loc)
 (wY:r'.cnt<=r.cnt)
 (j5:∀cl':yI,Ni cl cl'->(cl=none↔cl'=none)->(mayWake E.P g=true->(g'.status= .running\/g'.status= .finished)->cl'.map (·.1)≠some .blk)->
  ∃st sm,WgAt E.ty E.Wg w' st sm/\Md E.max (e8 aP.cnt (D.set i r')+pend) (e8 aP.c4 (D.set i r')) (e8 aP.c3 (D.set i r')) (e8 aP.c2 (D.set i r')) (cl'.map (·.1)) st sm)
 {o':Wd} {l':List ι} (Gn:MuAt E.tm E.Mu w' o'.enc (m':Nat)) (hmi:qL ((D.set i r').map aP.qR) o' m')
 (WG:m'=1->(m=1\/mayWake E.P g=true)/\(g'.status= .running\/g'.status= .finished))
 (hgu:Guard E L0 L' (gV K (i+1) s') gs.size w' (t++u) (D.set i r') l') (aaU:(l'++jW (D.set i r')).Perm (l++jW D))
 (Ue:Ek (D.set i r') m' <Ek D m\/(Ek (D.set i r') m'<=Ek D m/\o'=o/\tN o r' r)):
 oC E Fin L0 K D pend cl o m os main d0 gs w sl t (i+1):=by
 have C2:∀op∈u,op.g=i+1:=by rw[hu];exact λop aX=>Go.ConcR.g_of_ofEvents op aX
 have dz:runT E.P (crowd gs w sl) (i+1)=(.next (crowd ((gs.map (woken E.P g g' w')).setIfInBounds (i+1) g') w' sl),u):=by rw[hu];exact runT_crowd_go (P:=E.P) (sl:=sl) (i:=i+1) hg (by simpa using hgo)
 have ei:=(aA.1 hi).1;have uniq:∀k y,k≠i->D[k]?=some y->y.iN=true->r.iN=false:=λk y eA hk hy=>by
  cases hrc:r.iN with
  |false=>rfl
  |true=>
   exfalso;have e1:(D.map aP.qR)[k]?=some y.qR:=by rw[gi,hk];rfl
   have e2:(D.map aP.qR)[i]?=some r.qR:=by rw[gi,hi];rfl
   exact eA (hs.mi.one e1 e2 (by cases y<;>first|rfl|cases hy) (by cases r<;>first|rfl|cases hrc))
 have Um:=hb.step (g:=g) (r':=r') ei C2 Gm ov hr λk y eA hk hy=>ahS (uniq k y eA hk hy) k y eA hk hy;obtain⟨cl',yM,aSO,hbk,aaR,hnn⟩:=fw.tries g g' w';have Gp:∀b,¬s'.knows b->(∀j,¬(K j).knows b)->∀j,¬(gV K (i+1) s' j).knows b:=λb h1 h2 j=>by
  by_cases e:j=i+1
  .subst e;rw[aV];exact h1
  rw[bz _ _ e];exact h2 j
 have old:∀p x,touchAt (t++u) p=some x->E.At x->x.kind≠ .atomic->touchAt t p=some x:=λp x hx hb hk=>by
  rcases cm hx with ⟨_,h'⟩| ⟨_,op,hm,_,vI⟩
  .exact h'
  exact absurd (oJ op hm x vI hb) hk
 have aq0:((gs.map (woken E.P g g' w')).setIfInBounds (i+1) g').size=gs.size:=by simp
 refine⟨_,_,w',u,_,cl',o',m',_,dz,⟨⟨L',l',Um,⟨Gp _ fq hs.kW,Gp _ rF hs.kM,hLW,hLM,hLH,hs.ne,λa=>(hs.norel a).app λop aX=>jU op aX a,λj hj p x hx hb hk=>?_,λp x hx hb hk=>(hs.said p x (old p x hx (.inl hb) (by rw[hk];simp)) hb hk).app u,
  j5 cl' yM hnn hbk,?_,Gn,hmi,λoK k x hx=>?_,sO,λj=>?_,λj x hx=>?_,by rw[aq0];exact hgu⟩,⟨aaU.trans hp.1,hp.2⟩⟩,?_,?_,aSO⟩,bz _ _ (by omega),aaR,hnn,?_,?_⟩
 .refine(hs.plain j ?_ p x (old p x hx hb (by rw[hk];simp)) hb hk).app u;rcases hj with hj| ⟨k,y,rfl,mA,hl⟩
  .exact .inl hj
  rcases uQ mA with ⟨rfl,rfl⟩| ⟨_,aqW⟩
  .exact .inr ⟨_,r,rfl,hi,zk hl⟩
  exact .inr ⟨k,y,rfl,aqW,hl⟩
 .have:=kR aP.cnt (y:=r') hi;have h2:=hs.oZ;simp only[e8] at*;omega
 .obtain⟨h1,h2⟩:=WG oK;by_cases e:k=i
  .subst e;rw[oV (by simpa using lt_size hg)] at hx;cases hx;rcases h2 with h2|h2<;>rw[h2]<;>simp
  have aHQ:k <D.length:=by have h3:=lt_size hx;have:=hb.size;simp at h3;omega
  obtain⟨y,hy,dL⟩:=hb.ok k _ (ai aHQ);rw[iA (by omega) hy] at hx;cases hx;rcases h1 with h1|h1
  .have h3:=hs.aag h1 k y hy;have:Go.Conc.woken E.P g g' w' y=y:=by
    unfold Go.Conc.woken;split
    .rcases dL.running with h4| ⟨_,_,_,_,_,lu,_,_,_,h5⟩
     .exact again_running _ h4
     rw[h5] at h3;exact absurd rfl h3
    rfl
   rw[this];exact h3
  exact HS h1 h2 dL
 .by_cases e:j=i+1
  .subst e;rw[aV];exact hsH
  rw[bz _ _ e];exact hs.nH j
 .by_cases e:j=i+1
  .subst e;rw[aV] at hx;exact(hsh x hx).imp id λh=>⟨i,r',rfl,Bg hi,h⟩
  rw[bz _ _ e] at hx;rcases hs.Uc j x hx with h1| ⟨k,y,rfl,hk,hy⟩
  .exact .inl h1
  exact .inr ⟨k,y,rfl,yu hk (by omega),hy⟩
 .rw[iA (by omega) hm]
 .rw[jq _ _ λop aX=>by rw[C2 op aX];omega];exact hd
 .have:=kR aP.cnt (y:=r') hi;simp only[e8];omega
 rcases Ue with h1| ⟨h1,h2,h3⟩
 .exact .p h1
 exact .d h1 h2 (by simp only;rw[h2];exact One.set hi h3)
end
section
variable {ι:Type} {E:fY ι} {Fin:Goroutine->Prop}
variable {L0 L L':Nat->Option Obj} {K:Nat->St} {gs:Array Goroutine} {w w':World} {t u:Trace} {D:List (aP ι)} {pend d0:Nat} {cl:yI} {o:Wd} {m:Nat} {l os:List ι} {main:Goroutine} {sl:Option (Nat×Nat)}
 {i:Nat} {r r':aP ι} {g g':Goroutine} {s':St} {es:Array Event}
theorem avB{l:List α}{i:Nat}{x:α}(h:l[i]?=some x):l.set i x=l:=by
 obtain⟨hl,rfl⟩:=aA.1 h;simp
theorem awN(hl:r'.qR=r.qR)(hi:D[i]?=some r):(D.set i r').map aP.qR=D.map aP.qR:=by
 grind [Dh,aP.qR,avB]
theorem vU(hi:D[i]?=some r) (r':aP ι) (m:Nat):Ek (D.set i r') m+r.qR.Jw=Ek D m+r'.qR.Jw:=by
 have:(D.map aP.qR)[i]?=some r.qR:=by grind
 grind [kR,cu.Jw,Ek,Dh]
theorem aJx(D:List (aP ι))(m m':Nat):Ek D m'+2*m=Ek D m+2*m':=by grind [Ek]
def Fj:∀ {D:List (aP ι)} {i:Nat},D[i]?=some r->(jW (D.set i r')++r.A4).Perm (jW D++r'.A4)
 | [],i,h=>by simp at h
 |a::D,0,h=>by
  simp only[my,aB] at h;subst h;simp only[jW,List.set_cons_zero,iL];have h1:(r'.A4++List.flatMap aP.A4 D++a.A4).Perm (a.A4++(r'.A4++List.flatMap aP.A4 D)):=iB;refine h1.trans ?_;rw[bx];exact List.perm_append_comm.append_left _
 |a::D,i+1,h=>by
  have:=Fj (D:=D) (i:=i) (by simpa using h);simp only[jW,HH,iL,bx] at this ⊢;exact this.append_left _
theorem uU(ho:r'.A4=r.A4)(hi:D[i]?=some r):(jW (D.set i r')).Perm (jW D):=by
 have:=Fj (r':=r') hi
 grind [List.perm_append_right_iff]
def zg(f:aP ι->Nat)(hi:D[i]?=some r):f r<=e8 f D:=nK f (aj hi)
theorem IQ{st4 st3 st2:Nat}{c:Option CK}(hi:D[i]?=some r)
 (e1:n+r.cnt=e8 aP.cnt D+pend+r'.cnt) (e4:st4+r.c4=e8 aP.c4 D+r'.c4) (e3:st3+r.c3=e8 aP.c3 D+r'.c3) (e2:st2+r.c2=e8 aP.c2 D+r'.c2) (h:Md mx n st4 st3 st2 c st sm):
 Md mx (e8 aP.cnt (D.set i r')+pend) (e8 aP.c4 (D.set i r')) (e8 aP.c3 (D.set i r')) (e8 aP.c2 (D.set i r')) c st sm:=by
 grind [kR,aP.cnt,aP.c4,aP.c3,aP.c2]
def Aa.kP(h:Aa E L0 L K gs w t D pend cl o m l)(hi:D[i]?=some r) (hw:w'.heap[E.Wg]?=w.heap[E.Wg]?) (h1:r'.cnt=r.cnt) (h4:r'.c4=r.c4) (h3:r'.c3=r.c3) (h2:r'.c2=r.c2):
 ∀cl':yI,Ni cl cl'->∃st sm,WgAt E.ty E.Wg w' st sm/\Md E.max (e8 aP.cnt (D.set i r')+pend) (e8 aP.c4 (D.set i r')) (e8 aP.c3 (D.set i r')) (e8 aP.c2 (D.set i r')) (cl'.map (·.1)) st sm:=by
 intro cl' yM;obtain⟨st,sm,ha,hm⟩:=h.cells;exact⟨st,sm,by unfold WgAt;rw[hw];exact ha,IQ hi (by omega) (by omega) (by omega) (by omega) (hm.MU yM)⟩
structure azu(E:fY ι)(L:Nat->Option Obj)(s s':St)(w w':World)(u:Trace):Prop where
 nW:¬s'.knows E.Wg
 nM:¬s'.knows E.Mu
 nH:¬s'.owns E.Hb
 ro:∀x,s'.ro E.Hb=some x->s.ro E.Hb=some x
 hW:w'.heap[E.Wg]?=w.heap[E.Wg]?
 hM:w'.heap[E.Mu]?=w.heap[E.Mu]?
 hH:w'.heap[E.Hb]?=w.heap[E.Hb]?
 touch:∀op∈u,∀x,op.act.touch?=some x->¬E.At x
 rel:∀op∈u,∀a,op.act≠ .mark (.release a)
 kn:∀b,L b≠none->¬s.knows b->¬s'.knows b
 tk:∀op∈u,∀x,op.act.touch?=some x->∀b,blk x.loc=some b->L b≠none->s.knows b
 hole:(∀x,s.ro E.Hb=some x->x=E.hole)->∀op∈u,∀x,op.act.touch?=some x->¬oQ E.Hb x.loc
 sO:E.Hb <w'.heap.size
def Aa.x6(h:Aa E L0 L K gs w t D pend cl o m l)(hf:Fit L K w t)(ht:Trans (K j) w s' w' es)(fn:FuncId)(pos:String):azu E L (K j) s' w w' (MemOp.ofEvents j fn pos es):=by
 obtain⟨st,sm,ha,_⟩:=h.cells;have hW:E.Wg <w.heap.size:=lt_size ha;have hC:E.Mu <w.heap.size:=lt_size h.mu;have hLl:∀b,L b≠none->b <w.heap.size:=λb hb=>by
  cases e:L b with
  |none=>exact absurd e hb
  |some o=>exact lt_size (hf.C0 b o e)
 have kn:∀b,b <w.heap.size->¬(K j).knows b->¬s'.knows b:=λb hb hk mA=>by
  rcases mA with h'|h'
  .rcases ht.RZ b h' with h1|h1|h1
   .omega
   .exact hk (.inl (h1▸h'))
   exact hk (.inr h1)
  rcases ht.own b h' with h1|h1
  .omega
  exact hk (.inr h1)
 have tk:∀op∈MemOp.ofEvents j fn pos es,∀x,op.act.touch?=some x->∀b,blk x.loc=some b->b <w.heap.size->(K j).knows b:=λop aX x hx b hb ei=>by
  obtain⟨_,b',mB,xv,_⟩:=(y6 ht.Aw aX).2 x hx;obtain rfl:b'=b:=by rw[hb] at mB;exact(aK mB).symm
  rcases xv with h1|h1|h1
  .omega
  .exact .inr h1
  exact .inl h1.2.1
 refine⟨kn _ hW (h.kW j),kn _ hC (h.kM j),λho=>?_,λx hx=>?_,ht.frame _ hW λho=>h.kW j (.inr ho),ht.frame _ hC λho=>h.kM j (.inr ho),ht.frame _ h.ei (h.nH j),λop aX x hx hb=>?_,λop aX a e=>?_,λb hb=>kn b (hLl b hb),λop aX x hx b hb hl=>tk op aX x hx b hb (hLl b hl),λqX op aX x hx hh=>?_,HG h.ei ht.size⟩
 .rcases ht.own _ ho with h1|h1
  .have:=h.ei;omega
  exact h.nH j h1
 .rcases ht.RZ _ (by rw[hx];simp) with h1|h1|h1
  .have:=h.ei;omega
  .rw[<-h1];exact hx
  exact absurd h1 (h.nH j)
 .rcases hb with hb|hb
  .exact h.kW j (tk op aX x hx _ hb hW)
  exact h.kM j (tk op aX x hx _ hb hC)
 .rw[ofEvents_eq] at aX;obtain⟨e',he,rfl⟩:=Array.mem_map.1 aX;have hl:=Go.ConcR.loc_of_ofEvent e;have:=ht.Aw e' he;unfold N0 at this;rw[hl] at this;simp[GW] at this
 obtain⟨a,ea,e1,e2⟩:=hh;obtain⟨_,b',mB,xv,_⟩:=(y6 ht.Aw aX).2 x hx;obtain rfl:b'=E.Hb:=by rw[ea] at mB;simp only[blk,aB] at mB;omega
 rcases xv with h1|h1| ⟨_,h1,h2⟩
 .have:=h.ei;omega
 .exact h.nH j h1
 cases hr:(K j).ro E.Hb with
 |none=>exact h1 hr
 |some y=>
  have:=qX y hr;subst this;exact h2 ⟨a,E.hc,E.ht,ea,by rw[e1];exact hr,e2⟩
theorem PY(hmi:qL (D.map aP.qR) o m)(hl:r'.qR=r.qR)(hi:D[i]?=some r):qL ((D.set i r').map aP.qR) o m:=by grind [awN]
theorem Aa.Fg(hs:Aa E L0 L K gs w t D pend cl o m l)(hi:D[i]?=some r) (hc:r.iN=false):∀x,(K (i+1)).ro E.Hb=some x->x=E.hole:=λx hx=>by
 rcases hs.Uc _ x hx with h1| ⟨k,y,e,hk,hy⟩
 all_goals grind
theorem dC.own(hb:n8 E L K gs w t D)(hs:Aa E L0 L K gs w t D pend cl o m l)(hp:E.UX (l++jW D) os)(hm:gs[0]?=some main) (hd:Deaf t 0=d0) (fw:rC E Fin main d0 cl)
 (hi:D[i]?=some r) (hg:gs[i+1]?=some g) (hgo:stepG E.P false g w= .go g' w' es) (ht:Trans (K (i+1)) w s' w' es) (dz:g'.status= .running)
 (hr:Deaf (t++MemOp.ofEvents (i+1) g.frame.fn g.frame.place es) (i+1)=Deaf t (i+1)->(∀x,s'.ro E.Hb=some x->(K (i+1)).ro E.Hb=some x)->(r.iN=true->Cq E.Hb t (i+1)->Cq E.Hb (t++MemOp.ofEvents (i+1) g.frame.fn g.frame.place es) (i+1))->ki E (t++MemOp.ofEvents (i+1) g.frame.fn g.frame.place es) (i+1) s' g' r')
 (e1:r'.qR=r.qR) (e2:r'.A4=r.A4) (e3:r'.cnt=r.cnt/\r'.c4=r.c4/\r'.c3=r.c3/\r'.c2=r.c2) (e4:r'.left=r.left) (e5:r'.tok=r.tok) (e6:r'.iN=r.iN)
 (e7:r.iN=true->∃it ls l' tr tr',r= .xC it ls l' tr/\r'= .xC it ls l' tr') (Gn:tN o r' r):
 oC E Fin L0 K D pend cl o m os main d0 gs w sl t (i+1):=by
 have k:=hs.x6 hb.fit ht g.frame.fn g.frame.place;have hgp:∀op∈MemOp.ofEvents (i+1) g.frame.fn g.frame.place es,op.g=i+1:=λop aX=>Go.ConcR.g_of_ofEvents op aX;refine dC.go hb hs hp hm hd fw (L':=L) (r':=r') (s':=s') (l':=l) (o':=o) (m':=m) hi hg hgo rfl (mQ.Z0 ht) k.nW k.nM k.nH (λx hx=>?_) k.sO hs.lW hs.lM hs.lH (hb.fit.own ht _ _) (hr ?_ k.ro ?_)
  (λop aX x hx mO=>absurd mO (k.touch op aX x hx)) k.rel (λe=>by rw[<-e4];exact e) (λhc k' y eA hk hy=>k.hole (hs.Fg hi hc)) (by omega)
  (λcl' hw _ _=>hs.kP hi k.hW e3.1 e3.2.1 e3.2.2.1 e3.2.2.2 cl' hw) (by unfold MuAt;rw[k.hM];exact hs.mu) (PY hs.mi e1 hi) (λh=>⟨.inl h,.inl dz⟩) ?_ ((uU e2 hi).append_left _) (.inr ⟨by have:=vU hi r' m;rw[e1] at this;omega,rfl,Gn⟩)
 .rcases hs.Uc _ x (k.ro x hx) with h1| ⟨k',y,e,hk,hy⟩
  .exact .inl h1
  obtain rfl:k'=i:=by omega
  rw[hi] at hk;cases hk;exact .inr (by rw[e6];exact hy)
 .rw[Deaf_own,ht.deaf]
 .exact λ_ h=>h.app λop aX=> .inl (hgp op aX)
 cases hc:r.iN with
 |false=>exact hs.gu.step hi hc (by rw[e6];exact hc) (λe=>by rw[<-e4];exact e) (λh=> .inl (by rw[e5];exact h)) k.kn k.hH λop aX x hx=>⟨k.hole (hs.Fg hi hc) op aX x hx,k.tk op aX x hx⟩
 |true=>
  obtain⟨it,ls,l',tr,tr',rfl,rfl⟩:=e7 hc;have Ee:l'=l:=by
   rcases hs.gu with ⟨j,o1,os1,tr1,hj,_⟩| ⟨wX,_⟩
   .have e1:(D.map aP.qR)[j]?=some (cu.own os1.length):=by rw[gi,hj];rfl
    have e2:(D.map aP.qR)[i]?=some (cu.own ls.length):=by rw[gi,hi];rfl
    have:=hs.mi.one e1 e2 rfl rfl;subst this;rw[hi] at hj;cases hj;rfl
   have:=wX i _ hi;cases this
  subst Ee;exact(hs.gu.inside hi).1
def dC.work(hb:n8 E L K gs w t D)(hs:Aa E L0 L K gs w t D pend cl o m l)(hp:E.UX (l++jW D) os)(hm:gs[0]?=some main) (hd:Deaf t 0=d0) (fw:rC E Fin main d0 cl) {ls:List ι} {f:World->Tree}
 (hi:D[i]?=some (.work ls (.node f))) (hg:gs[i+1]?=some g):oC E Fin L0 K D pend cl o m os main d0 gs w sl t (i+1):=by
 obtain⟨dq,cR,dL⟩:=hb.ok i _ hi;obtain rfl:dq=g:=by rw[hg] at cR;exact(aK cR).symm
 obtain⟨od,dt,lE⟩:=dL;obtain⟨g',w',es,s',h1,h2,h3,h4⟩:=lE w (hb.fit.ny _);exact dC.own hb hs hp hm hd fw (r':= .work ls (f w)) hi hg h1 h3 h2 (λe _ _=>⟨e.trans od,h4⟩) rfl rfl ⟨rfl,rfl,rfl,rfl⟩ rfl rfl rfl (λe=>by cases e) (A8 (.mk f w))
theorem dC.still(hb:n8 E L K gs w t D)(hs:Aa E L0 L K gs w t D pend cl o m l)(hp:E.UX (l++jW D) os)(hm:gs[0]?=some main) (hd:Deaf t 0=d0) (fw:rC E Fin main d0 cl)
 (hi:D[i]?=some r) (hg:gs[i+1]?=some g) (hgo:stepG E.P false g w= .go g' w es) (aBQ:∀op∈MemOp.ofEvents (i+1) g.frame.fn g.frame.place es,op.act.touch?=none/\∀a,op.act≠ .mark (.release a)) (dz:g'.status= .running\/g'.status= .finished)
 (hr:ki E (t++MemOp.ofEvents (i+1) g.frame.fn g.frame.place es) (i+1) (K (i+1)) g' r')
 (e1:r'.qR=r.qR) (e2:r'.A4=r.A4) (e3:r'.cnt=r.cnt/\r'.c4=r.c4/\r'.c3=r.c3/\r'.c2=r.c2) (e4:r'.left=r.left) (e5:r'.tok=r.tok) (e6:r'.iN=false) (e7:r.iN=false) (Gn:tN o r' r):
 oC E Fin L0 K D pend cl o m os main d0 gs w sl t (i+1):=by
 have nt:∀(P:Touch->Prop),∀op∈MemOp.ofEvents (i+1) g.frame.fn g.frame.place es,∀x,op.act.touch?=some x->P x:=λP op aX x hx=>by grind
 refine dC.go hb hs hp hm hd fw (L':=L) (r':=r') (s':=K (i+1)) (l':=l) (o':=o) (m':=m) hi hg hgo rfl (mQ.refl w) (hs.kW _) (hs.kM _) (hs.nH _) (λx hx=> .inl (hs.Fg hi e7 x hx)) hs.ei hs.lW hs.lM hs.lH
  (by rw[kE];exact hb.fit.quiet E.Wg hs.kW hs.lW (bk _) (λ_ _ _=>rfl) λop aX=>(aBQ op aX).1) hr
  (λop aX x hx=>nt (λx=>E.At x->x.kind= .atomic) op aX x hx) (λop aX=>(aBQ op aX).2) (λe=>by rw[<-e4];exact e) (λ_ _ _ _ _ _ op aX x hx=>nt (λx=>¬oQ E.Hb x.loc) op aX x hx) (by omega)
  (λcl' hw _ _=>hs.kP hi rfl e3.1 e3.2.1 e3.2.2.1 e3.2.2.2 cl' hw) hs.mu (PY hs.mi e1 hi) (λh=>⟨.inl h,dz⟩) ?_ ((uU e2 hi).append_left _) (.inr ⟨by grind [vU],rfl,Gn⟩)
 exact hs.gu.step hi e7 e6 (λe=>by rw[<-e4];exact e) (λh=> .inl (by rw[e5];exact h)) (λ_ _ h=>h) rfl λop aX x hx=>nt (λx=>¬oQ E.Hb x.loc/\∀b,blk x.loc=some b->L b≠none->(K (i+1)).knows b) op aX x hx
theorem dC.leave(hb:n8 E L K gs w t D)(hs:Aa E L0 L K gs w t D pend cl o m l)(hp:E.UX (l++jW D) os)(hm:gs[0]?=some main) (hd:Deaf t 0=d0) (fw:rC E Fin main d0 cl) {q d:Nat} {cur:Bool}
 (hi:D[i]?=some (.leave q d cur)) (hg:gs[i+1]?=some g) (hsr:g.status= .running):oC E Fin L0 K D pend cl o m os main d0 gs w sl t (i+1):=by
 obtain⟨dq,cR,dL⟩:=hb.ok i _ hi;obtain rfl:dq=g:=by grind
 obtain⟨hK,hq,od,hc,hk⟩:=dL;cases q with
 |zero=>have:=hq.1;rw[hsr] at this;cases this
 |succ q=>
  rcases hq with ⟨h1,_⟩| ⟨_,g',es,Gn,dt,Qi⟩
  .rw[hsr] at h1;cases h1
  have hu:=Kp (i:=i+1) (fn:=dq.frame.fn) (pos:=dq.frame.place) Gn;have hrb:∀p,ConcN.RelBy (stA E.Wg) t (i+1) p->ConcN.RelBy (stA E.Wg) (t++MemOp.ofEvents (i+1) dq.frame.fn dq.frame.place es) (i+1) p:=λp hp=>
   ConcN.RelBy.appOwn hp _ _ _ λj e he=> .inl (PU (Gn e (Array.mem_of_getElem? he)))
  refine dC.still hb hs hp hm hd fw (r':= .leave q (deafBehind d es) cur) hi hg (dt w) (λop aX=>⟨hu op aX,λa=>PV Gn a op aX⟩) Qi.status ⟨hK,Qi,?_,λe=>let ⟨r,hr⟩:=hc e;⟨r,hrb r hr⟩,λe=>(hk e).quiet hu⟩ rfl rfl ⟨rfl,rfl,rfl,rfl⟩ rfl rfl rfl rfl (u9 (nQ q));rw[Deaf_own,od]
theorem Cf(i:Nat)(fn:FuncId)(pos:String):MemOp.ofEvents i fn pos #[]= #[]:=rfl
theorem dC.aFV(hb:n8 E L K gs w t D)(hs:Aa E L0 L K gs w t D pend cl o m l)(hp:E.UX (l++jW D) os)(hm:gs[0]?=some main) (hd:Deaf t 0=d0) (fw:rC E Fin main d0 cl) {x:cu} {it:ι} {ls:List ι}
 (hi:D[i]?=some (.lk x (n+1) it ls)) (hg:gs[i+1]?=some g):oC E Fin L0 K D pend cl o m os main d0 gs w sl t (i+1):=by
 obtain⟨dq,cR,dL⟩:=hb.ok i _ hi;obtain rfl:dq=g:=by grind
 obtain⟨h1,h2,h3,c,cs,h4,h5| ⟨e,_⟩⟩:=dL
 .obtain⟨_,g',dt,pU⟩:=h5;refine dC.still hb hs hp hm hd fw (r':= .lk x n it ls) hi hg (dt w ⟨_,_,hs.mu⟩) (by rw[Cf];simp) (.inl (fY.pu.running pU)) ?_ rfl rfl ⟨rfl,rfl,rfl,rfl⟩ rfl rfl rfl rfl (u9 (nQ n));rw[Cf,bV];exact⟨h1,h2,h3,c,cs,h4,.inl pU⟩
 cases e
theorem dC.aDY(hb:n8 E L K gs w t D)(hs:Aa E L0 L K gs w t D pend cl o m l)(hp:E.UX (l++jW D) os)(hm:gs[0]?=some main) (hd:Deaf t 0=d0) (fw:rC E Fin main d0 cl) {x:cu} {ls:List ι}
 (hi:D[i]?=some (.ul x (n+1) ls)) (hg:gs[i+1]?=some g):oC E Fin L0 K D pend cl o m os main d0 gs w sl t (i+1):=by
 obtain⟨dq,cR,dL⟩:=hb.ok i _ hi;obtain rfl:dq=g:=by grind
 obtain⟨h1,h2,h3,c,cs,⟨_,g',dt,pU⟩,h5⟩:=dL;refine dC.still hb hs hp hm hd fw (r':= .ul x n ls) hi hg (dt w ⟨_,_,hs.mu⟩) (by rw[Cf];simp) (.inl (fY.pu.running pU)) ?_ rfl rfl ⟨rfl,rfl,rfl,rfl⟩ rfl (by cases x<;>rfl) rfl rfl (u9 (nQ n));rw[Cf,bV];exact⟨h1,h2,h3,c,cs,pU,h5⟩
theorem dC.adp(hb:n8 E L K gs w t D)(hs:Aa E L0 L K gs w t D pend cl o m l)(hp:E.UX (l++jW D) os)(hm:gs[0]?=some main) (hd:Deaf t 0=d0) (fw:rC E Fin main d0 cl) {k:WK} 
 (hi:D[i]?=some (.st k (n+1))) (hg:gs[i+1]?=some g):oC E Fin L0 K D pend cl o m os main d0 gs w sl t (i+1):=by
 obtain⟨dq,cR,dL⟩:=hb.ok i _ hi;obtain rfl:dq=g:=by grind
 obtain⟨hK,od,⟨dt,g',hgo,pU⟩,Ub⟩:=dL;obtain⟨st,sm,ha,_⟩:=hs.cells;refine dC.still hb hs hp hm hd fw (r':= .st k n) hi hg (hgo w ⟨st,sm,ha⟩) (by rw[Cf];simp) (.inl (Pure.running (WK.running k) pU)) ?_ rfl rfl (by cases k<;>exact⟨rfl,rfl,rfl,rfl⟩) rfl rfl rfl rfl (u9 (nQ n));rw[Cf,bV];exact⟨hK,od,pU,Ub⟩
end
def u3.ops{B:Nat}{es:Array Event}(h:∀e∈es,u3 B e)(i:Nat)(fn:FuncId)(pos:String):∀op∈MemOp.ofEvents i fn pos es,
 op.g=i/\(∀a,op.act≠ .mark (.release a))/\∀x,op.act.touch?=some x->blk x.loc=some B/\x.kind= .atomic:=by
 intro op aX;rw[ofEvents_eq] at aX;obtain⟨e,he,rfl⟩:=Array.mem_map.1 aX;rcases h e he with rfl|rfl|rfl|rfl| ⟨a,wr,rfl,ha⟩
 .exact⟨rfl,λa=>by simp[said,Go.ConcR.mk,MemAct.ofEvent],λx hx=>by cases hx⟩
 .exact⟨rfl,λa=>by simp[said,Go.ConcR.mk,MemAct.ofEvent],λx hx=>by cases hx⟩
 .exact⟨rfl,λa=>by simp[said,Go.ConcR.mk,MemAct.ofEvent],λx hx=>by cases hx⟩
 .exact⟨rfl,λa=>by simp[said,Go.ConcR.mk,MemAct.ofEvent],λx hx=>by cases hx⟩
 refine⟨rfl,λa=>by cases wr<;>simp[MemAct.ofEvent],λx hx=>?_⟩;cases wr<;>(simp only[MemAct.ofEvent,MemAct.touch?,aB] at hx;subst hx;exact⟨by simp[blk,ha],rfl⟩)
theorem Md.d1g{a b c:Nat}{o:Option CK}(h:Md mx n a b c o st sm)(hn:1<=n):
 ∃v wt:Nat,v+1=n/\wt<=1/\st=((v+1:Nat):Int)*KK+(wt:Int)/\sm=0/\a=0/\b=0/\c=0/\
  ((v=0/\wt=1)->Md mx v 1 0 0 o ((v:Int)*KK+(wt:Int)) 0)/\(¬(v=0/\wt=1)->Md mx v 0 0 0 o ((v:Int)*KK+(wt:Int)) 0):=by
 by_cases ho:o=none
 .cases h with
  |start=>exact⟨n-1,0,by omega,by omega,by grind,rfl,rfl,rfl,rfl,λh=>by omega,λ_=>by simpa using .start⟩
  |_=>cases ho
 exact h.d1 hn ho
section
variable {ι:Type} {E:fY ι} {Fin:Goroutine->Prop}
variable {L0 L L':Nat->Option Obj} {K:Nat->St} {gs:Array Goroutine} {w w':World} {t u:Trace} {D:List (aP ι)} {pend d0:Nat} {cl:yI} {o:Wd} {m:Nat} {l os:List ι} {main:Goroutine} {sl:Option (Nat×Nat)}
 {i:Nat} {r r':aP ι} {g g':Goroutine} {s':St} {es:Array Event}
def Aa.vX(h:Aa E L0 L K gs w t D pend cl o m l)(hf:Fit L K w t)(hj:j=0\/∃k r,j=k+1/\D[k]?=some r/\r.left=false) {B:Nat} (hB:B=E.Wg\/B=E.Mu) (sO:w'.heap.size=w.heap.size) (hwb:∀b,b≠B->w'.heap[b]?=w.heap[b]?)
 (nJ:∀e∈es,u3 B e) (fn:FuncId) (pos:String):Fit L K w' (t++MemOp.ofEvents j fn pos es):=by
 have ho:=u3.ops nJ j fn pos;obtain⟨st,sm,ha,_⟩:=h.cells;have hBk:(∀j,¬(K j).knows B)/\L B=none/\B <w.heap.size:=by
  rcases hB with rfl|rfl
  .exact⟨h.kW,h.lW,lt_size ha⟩
  exact⟨h.kM,h.lM,lt_size h.mu⟩
 refine hf.beside B j hBk.1 hBk.2.1 hBk.2.2 (Nat.le_of_eq sO.symm) (λb hb _=>hwb b hb) (λop aX=>(ho op aX).1) λop aX x hx=>?_;obtain⟨h1,h2⟩:=(ho op aX).2.2 x hx;refine⟨h1,λsd p a wo hc=>h.plain j hj p a wo (by rw[fY.At,hc.1,h1];rcases hB with rfl|rfl<;>simp) ?_⟩;rcases hc.2.2.2 with h3|h3|h3
 .exact h3
 .rw[h2] at h3;cases h3
 rw[h2] at h3;cases h3.2.2
def dC.sync(hb:n8 E L K gs w t D)(hs:Aa E L0 L K gs w t D pend cl o m l)(hp:E.UX (l++jW D) os)(hm:gs[0]?=some main) (hd:Deaf t 0=d0) (fw:rC E Fin main d0 cl)
 (hi:D[i]?=some r) (hg:gs[i+1]?=some g) (hgo:stepG E.P false g w= .go g' w' es) {B:Nat} (hB:B=E.Wg\/B=E.Mu) (sO:w'.heap.size=w.heap.size) (hwb:∀b,b≠B->w'.heap[b]?=w.heap[b]?) (aqO:mQ w w') (nJ:∀e∈es,u3 B e)
 (hr:ki E (t++MemOp.ofEvents (i+1) g.frame.fn g.frame.place es) (i+1) (K (i+1)) g' r')
 (e4:r.left=false) (e5:r.tok=true->r'.tok=true\/∀p,Knows t (i+1) p->UZ (stA E.Mu) (t++MemOp.ofEvents (i+1) g.frame.fn g.frame.place es) p) (e6:r'.iN=false) (e7:r.iN=false)
 (wY:r'.cnt<=r.cnt)
 (j5:∀cl':yI,Ni cl cl'->(cl=none↔cl'=none)->(mayWake E.P g=true->(g'.status= .running\/g'.status= .finished)->cl'.map (·.1)≠some .blk)->
  ∃st sm,WgAt E.ty E.Wg w' st sm/\Md E.max (e8 aP.cnt (D.set i r')+pend) (e8 aP.c4 (D.set i r')) (e8 aP.c3 (D.set i r')) (e8 aP.c2 (D.set i r')) (cl'.map (·.1)) st sm)
 {o':Wd} (Gn:MuAt E.tm E.Mu w' o'.enc (m':Nat)) (hmi:qL ((D.set i r').map aP.qR) o' m')
 (WG:m'=1->(m=1\/mayWake E.P g=true)/\(g'.status= .running\/g'.status= .finished)) (aaU:r'.A4=r.A4)
 (Ue:Ek (D.set i r') m' <Ek D m\/(Ek (D.set i r') m'<=Ek D m/\o'=o/\tN o r' r)):
 oC E Fin L0 K D pend cl o m os main d0 gs w sl t (i+1):=by
 have ho:=u3.ops nJ (i+1) g.frame.fn g.frame.place;have hHB:E.Hb≠B:=by rcases hB with rfl|rfl;exact hs.ne.2.1;exact hs.ne.2.2
 have hLB:L B=none:=by rcases hB with rfl|rfl;exact hs.lW;exact hs.lM
 have nh:∀op∈MemOp.ofEvents (i+1) g.frame.fn g.frame.place es,∀x,op.act.touch?=some x->¬oQ E.Hb x.loc:=λop aX x hx ⟨a,ea,e1,_⟩=>by
  have:=((ho op aX).2.2 x hx).1;rw[ea] at this;simp only[blk,aB] at this;exact hHB (by omega)
 refine dC.go hb hs hp hm hd fw (L':=L) (r':=r') (s':=K (i+1)) (l':=l) (o':=o') (m':=m') hi hg hgo rfl aqO (hs.kW _) (hs.kM _) (hs.nH _) (λx hx=> .inl (hs.Fg hi e7 x hx)) (by rw[sO];exact hs.ei) hs.lW hs.lM hs.lH
  (by rw[kE];exact hs.vX hb.fit (.inr ⟨i,r,rfl,hi,e4⟩) hB sO hwb nJ _ _) hr (λop aX x hx _=>((ho op aX).2.2 x hx).2) (λop aX=>(ho op aX).2.1) (λ_=>e4) (λ_ _ _ _ _ _=>nh) wY j5 Gn hmi WG ?_ ((uU aaU hi).append_left _) Ue
 exact hs.gu.step hi e7 e6 (λ_=>e4) e5 (λ_ _ h=>h) (hwb _ hHB) λop aX x hx=>⟨nh op aX x hx,λb mB hl=>by
  have:=((ho op aX).2.2 x hx).1;rw[mB] at this;cases this;exact absurd hLB hl⟩
def dC.rP(hb:n8 E L K gs w t D)(hs:Aa E L0 L K gs w t D pend cl o m l)(hp:E.UX (l++jW D) os)(hm:gs[0]?=some main) (hd:Deaf t 0=d0) (fw:rC E Fin main d0 cl) {k:WK}
 (hi:D[i]?=some (.st k 0)) (hg:gs[i+1]?=some g) (hgo:stepG E.P false g w= .go g' w' es) (hw:ek E.oO w w') (nJ:∀e∈es,u3 E.Wg e) (dz:g'.status= .running\/g'.status= .finished)
 (hr:ki E (t++MemOp.ofEvents (i+1) g.frame.fn g.frame.place es) (i+1) (K (i+1)) g' r') (e1:r'.qR= .out 0) (e2:r'.A4=[]) (e3:r'.iN=false) (wY:r'.cnt<=(aP.st (ι:=ι) k 0).cnt) (ei:tN o r' (.st k 0))
 (j5:∀cl':yI,Ni cl cl'->(cl=none↔cl'=none)->(mayWake E.P g=true->(g'.status= .running\/g'.status= .finished)->cl'.map (·.1)≠some .blk)->
  ∃st sm,WgAt E.ty E.Wg w' st sm/\Md E.max (e8 aP.cnt (D.set i r')+pend) (e8 aP.c4 (D.set i r')) (e8 aP.c3 (D.set i r')) (e8 aP.c2 (D.set i r')) (cl'.map (·.1)) st sm):
 oC E Fin L0 K D pend cl o m os main d0 gs w sl t (i+1):=
 dC.sync hb hs hp hm hd fw (o':=o) (m':=m) hi hg hgo (.inl rfl) hw.size hw.block ⟨by rw[hw.same.1];exact OsLater.refl _,hw.same.2⟩ nJ hr rfl (λe=>by cases e) e3 rfl wY j5 (by unfold MuAt;rw[hw.block _ (show E.Mu≠E.oO.Wg from jz hs.ne.1)];exact hs.mu) (PY (r:= .st k 0) hs.mi e1 hi) (λh=>⟨.inl h,dz⟩) e2
  (.inr ⟨by have:=vU hi r' m;rw[e1] at this;have e:(aP.st (ι:=ι) k 0).qR= .out 0:=rfl;rw[e] at this;omega,rfl,ei⟩)
def ru(B k:Nat)(b:Bool):u3 B ⟨.cell ⟨B,k,none⟩,b,true⟩:= .inr (.inr (.inr (.inr ⟨_,_,rfl,rfl⟩)))
section
variable (hb:n8 E L K gs w t D) (hs:Aa E L0 L K gs w t D pend cl o m l) (hp:E.UX (l++jW D) os) (hm:gs[0]?=some main) (hd:Deaf t 0=d0) (fw:rC E Fin main d0 cl)
include hb hs hp hm hd fw
def dC.r0(hi:D[i]?=some (.st .r0 0)) (hg:gs[i+1]?=some g):oC E Fin L0 K D pend cl o m os main d0 gs w sl t (i+1):=by
 obtain⟨dq,cR,dL⟩:=hb.ok i _ hi;obtain rfl:dq=g:=by rw[hg] at cR;exact(aK cR).symm
 obtain⟨hK,od,⟨dt,g',hgo,n,pU⟩,_⟩:=dL;obtain⟨st,sm,ha,j7⟩:=hs.cells;refine dC.rP hb hs hp hm hd fw (r':= .st .k1 n) hi hg (hgo w) (ek.refl w) (by intro e he;simp at he;subst he;exact .inr (.inr (.inl rfl))) (.inl (Pure.running (WK.running .k1) pU)) ?_ rfl rfl rfl (bk _) (eG (by simp[aP.mu,WK.kB])) λcl' yM _ _=>⟨st,sm,ha,IQ hi rfl rfl rfl rfl (j7.MU yM)⟩;refine⟨hK,?_,pU,λ_=>⟨_,ConcN.RelBy.new od _ _⟩⟩;rw[Deaf_own,od];rfl
theorem dC.k1(hi:D[i]?=some (.st .k1 0)) (hg:gs[i+1]?=some g):oC E Fin L0 K D pend cl o m os main d0 gs w sl t (i+1):=by
 obtain⟨dq,cR,dL⟩:=hb.ok i _ hi;obtain rfl:dq=g:=by rw[hg] at cR;exact(aK cR).symm
 obtain⟨hK,od,⟨dt,g',hgo,n,pU⟩,Jy⟩:=dL;obtain⟨p,jU⟩:=Jy rfl;obtain⟨st,sm,ha,j7⟩:=hs.cells;refine dC.rP hb hs hp hm hd fw (r':= .st .d1 n) hi hg (hgo w) (ek.refl w) (by intro e he;simp at he;subst he;exact .inl rfl) (.inl (Pure.running (WK.running .d1) pU)) ?_ rfl rfl rfl (bk _) (eG (by simp[aP.mu,WK.kB])) λcl' yM _ _=>⟨st,sm,ha,IQ hi rfl rfl rfl rfl (j7.MU yM)⟩;refine⟨hK,?_,pU,λ_=>⟨p,ConcN.RelBy.appOwn jU _ _ _ λj e he=> .inl ?_⟩⟩
 .rw[Deaf_own,od];rfl
 have:=Array.mem_of_getElem? he;simp at this;subst this;rfl
def dC.d1(hi:D[i]?=some (.st .d1 0)) (hg:gs[i+1]?=some g):oC E Fin L0 K D pend cl o m os main d0 gs w sl t (i+1):=by
 obtain⟨dq,cR,dL⟩:=hb.ok i _ hi;obtain rfl:dq=g:=by rw[hg] at cR;exact(aK cR).symm
 obtain⟨hK,od,aqc,Jy⟩:=dL;obtain⟨p,jU⟩:=Jy rfl;obtain⟨st,sm,ha,j7⟩:=hs.cells;have hn:1<=e8 aP.cnt D+pend:=bZ (zg aP.cnt hi) (Nat.le_add_right _ _);obtain⟨v,wt,hv,hwt,rfl,rfl,ea,eb,ec,_,_⟩:=j7.d1g hn;have vo:=hs.oZ;obtain⟨dt,dY⟩:=aqc;obtain⟨g',hgo,Qu,aa6⟩:=dY v wt hwt (show v <E.max by omega);have aaT:ConcN.RelBy (stA E.Wg) (t++MemOp.ofEvents (i+1) dq.frame.fn dq.frame.place #[rd (stA E.Wg),wr (stA E.Wg)]) (i+1) p:=by
  refine ConcN.RelBy.appOwn jU _ _ _ λj e he=> .inr ?_;have Dp:Deaf t (i+1)=1:=od
  match j,he with
  |0,he=>simp at he;subst he;exact⟨⟨_,_,rfl⟩,by simp[deafBehind,Dp]⟩
  |1,he=>simp at he;subst he;exact⟨⟨_,_,rfl⟩,by simp[deafBehind,Dp,rd]⟩
  |j+2,he=>simp at he
 have SZ:Deaf (t++MemOp.ofEvents (i+1) dq.frame.fn dq.frame.place #[rd (stA E.Wg),wr (stA E.Wg)]) (i+1)=1:=by rw[Deaf_own,od];rfl
 have nJ:∀e∈ #[rd (stA E.Wg),wr (stA E.Wg)],u3 E.Wg e:=by intro e he;simp at he;rcases he with rfl|rfl<;>exact ru _ 0 _
 by_cases hbx:v=0/\wt=1
 .obtain⟨n,pU⟩:=Qu hbx;refine dC.rP hb hs hp hm hd fw (r':= .st .d2 n) hi hg (hgo w ha) (ek.set w 0 _) nJ (.inl (Pure.running (WK.running .d2) pU)) ⟨hK,SZ,pU,λ_=>⟨p,aaT⟩⟩ rfl rfl rfl (bQ _) (eG (by simp[aP.mu,WK.kB])) λcl' yM _ _=>?_;obtain⟨v',wt',hv',aGN,est,_,_,_,_,h1,_⟩:=(j7.MU yM).d1g hn;have:v'=v:=by omega
  subst this;have:wt'=wt:=by omega
  subst this;exact⟨_,_,Go.ConcR.WgAt.setSt ha _,IQ hi (by simp[aP.cnt];omega) (by simp[aP.c4];omega) (by simp[aP.c3];omega) (by simp[aP.c2];omega) (h1 hbx)⟩
 obtain⟨q,hq⟩:=aa6 hbx;refine dC.rP hb hs hp hm hd fw (r':= .leave q 1 true) hi hg (hgo w ha) (ek.set w 0 _) nJ hq.status ⟨hK,hq,SZ,λ_=>⟨p,aaT⟩,λe=>(by cases e)⟩ rfl rfl rfl (bQ _) (eG (by simp[aP.mu,WK.kB])) λcl' yM _ _=>?_;obtain⟨v',wt',hv',aGN,est,_,_,_,_,_,h1⟩:=(j7.MU yM).d1g hn;have:v'=v:=by omega
 subst this;have:wt'=wt:=by omega
 subst this;exact⟨_,_,Go.ConcR.WgAt.setSt ha _,IQ hi (by simp[aP.cnt];omega) (by simp[aP.c4];omega) (by simp[aP.c3];omega) (by simp[aP.c2];omega) (h1 hbx)⟩
def dC.d2(hi:D[i]?=some (.st .d2 0)) (hg:gs[i+1]?=some g):oC E Fin L0 K D pend cl o m os main d0 gs w sl t (i+1):=by
 obtain⟨dq,cR,dL⟩:=hb.ok i _ hi;obtain rfl:dq=g:=by rw[hg] at cR;exact(aK cR).symm
 obtain⟨hK,od,⟨dt,g',hgo,n,pU⟩,Jy⟩:=dL;obtain⟨p,jU⟩:=Jy rfl;obtain⟨st,sm,ha,j7⟩:=hs.cells;have hn:1<=e8 aP.c4 D:=zg aP.c4 hi;obtain⟨rfl,rfl,e1,e4,e3,e2,_⟩:=j7.d2 hn;refine dC.rP hb hs hp hm hd fw (r':= .st .d3 n) hi hg (hgo w ha) (ek.refl w) (by intro e he;simp at he;subst he;exact ru _ 0 _) (.inl (Pure.running (WK.running .d3) pU)) ?_ rfl rfl rfl (bk _) (eG (by simp[aP.mu,WK.kB])) λcl' yM _ _=>?_
 .refine⟨hK,?_,pU,λ_=>⟨p,ConcN.RelBy.appOwn jU _ _ _ λj e he=> .inr ?_⟩⟩
  .rw[Deaf_own,od];rfl
  have Dp:Deaf t (i+1)=1:=od
  match j,he with
  |0,he=>simp at he;subst he;exact⟨⟨_,_,rfl⟩,by simp[deafBehind,Dp]⟩
  |j+1,he=>simp at he
 exact⟨_,_,ha,IQ hi (by simp[aP.cnt];omega) (by simp[aP.c4];omega) (by simp[aP.c3];omega) (by simp[aP.c2];omega) ((j7.MU yM).d2 hn).2.2.2.2.2.2⟩
def dC.d3(hi:D[i]?=some (.st .d3 0)) (hg:gs[i+1]?=some g):oC E Fin L0 K D pend cl o m os main d0 gs w sl t (i+1):=by
 obtain⟨dq,cR,dL⟩:=hb.ok i _ hi;obtain rfl:dq=g:=by rw[hg] at cR;exact(aK cR).symm
 obtain⟨hK,od,⟨dt,g',hgo,n,pU⟩,Jy⟩:=dL;obtain⟨p,jU⟩:=Jy rfl;obtain⟨st,sm,ha,j7⟩:=hs.cells;have hn:1<=e8 aP.c3 D:=zg aP.c3 hi;obtain⟨rfl,rfl,e1,e4,e3,e2,_⟩:=j7.d3 hn;refine dC.rP hb hs hp hm hd fw (r':= .st .d4 n) hi hg (hgo w ha) (ek.set w 0 _) (by intro e he;simp at he;subst he;exact ru _ 0 _) (.inl (Pure.running (WK.running .d4) pU)) ?_ rfl rfl rfl (bk _) (eG (by simp[aP.mu,WK.kB])) λcl' yM _ _=>?_
 .refine⟨hK,?_,pU,λ_=>⟨p,ConcN.RelBy.appOwn jU _ _ _ λj e he=> .inr ?_⟩⟩
  .rw[Deaf_own,od];rfl
  have Dp:Deaf t (i+1)=1:=od
  match j,he with
  |0,he=>simp at he;subst he;exact⟨⟨_,_,rfl⟩,by simp[deafBehind,Dp]⟩
  |j+1,he=>simp at he
 exact⟨_,_,Go.ConcR.WgAt.setSt ha _,IQ hi (by simp[aP.cnt];omega) (by simp[aP.c4];omega) (by simp[aP.c3];omega) (by simp[aP.c2];omega) ((j7.MU yM).d3 hn).2.2.2.2.2.2⟩
def dC.d4(hi:D[i]?=some (.st .d4 0)) (hg:gs[i+1]?=some g):oC E Fin L0 K D pend cl o m os main d0 gs w sl t (i+1):=by
 obtain⟨dq,cR,dL⟩:=hb.ok i _ hi;obtain rfl:dq=g:=by rw[hg] at cR;exact(aK cR).symm
 obtain⟨hK,od,⟨dt,hmw,g',hgo,q,hq⟩,Jy⟩:=dL;obtain⟨p,jU⟩:=Jy rfl;obtain⟨st,sm,ha,j7⟩:=hs.cells;have hn:1<=e8 aP.c2 D:=zg aP.c2 hi;obtain⟨rfl,rfl,e1,e4,e3,e2,_⟩:=j7.d4 hn;have Dp:Deaf t (i+1)=1:=od;refine dC.rP hb hs hp hm hd fw (r':= .leave q 1 true) hi hg (hgo w ha) (ek.set w 1 _) (by
  intro e he;simp[semEvents] at he;rcases he with rfl|rfl|rfl|rfl
  .exact .inl rfl
  .exact ru _ 1 _
  .exact ru _ 1 _
  exact .inr (.inl rfl)) hq.status ?_ rfl rfl rfl (bk _) (eG (by simp[aP.mu,WK.kB])) λcl' yM _ hbk=>?_
 .refine⟨hK,hq,?_,λ_=>⟨p,ConcN.RelBy.appOwn jU _ _ _ λj e he=>?_⟩,λe=>(by cases e)⟩
  .rw[Deaf_own,od];rfl
  match j,he with
  |0,he=>simp[semEvents] at he;subst he;exact .inl rfl
  |1,he=>simp[semEvents] at he;subst he;exact .inr ⟨⟨_,_,rfl⟩,by simp[deafBehind,Dp,semEvents]⟩
  |2,he=>simp[semEvents] at he;subst he;exact .inr ⟨⟨_,_,rfl⟩,by simp[deafBehind,Dp,semEvents]⟩
  |3,he=>simp[semEvents] at he;subst he;exact .inl rfl
  |j+4,he=>simp[semEvents] at he
 exact⟨_,_,Go.ConcR.WgAt.setSm ha _,IQ hi (by simp[aP.cnt];omega) (by simp[aP.c4];omega) (by simp[aP.c3];omega) (by simp[aP.c2];omega) (((j7.MU yM).d4 hn).2.2.2.2.2.2 (hbk hmw hq.status))⟩
end
end
section
variable {T:List cu} {o o':Wd} {m m' i:Nat} {x x':cu}
def Nx.isL(h:Nx x o m x' o' m')(hx:x.isL=true)(hm:x.mid=true):x'.isL=true/\x'.k=x.k:=by
 cases h<;>(try (cases hx;done))<;>(try (cases hm;done))<;>(try rfl)<;>((try unfold Hi)<;>repeat' split)<;>exact⟨rfl,rfl⟩
def Nx.isU(h:Nx x o m x' o' m')(hx:x.isU=true)(hm:x.mid=true):x'.isU=true/\x'.k=x.k:=by
 cases h<;>(try (cases hx;done))<;>(try (cases hm;done))<;>(try rfl)<;>((try unfold ucL)<;>repeat' split)<;>exact⟨rfl,rfl⟩
def Nx.up(h:Nx x o m x' o' m'):m'<=m\/∃k,x= .us k:=by
 cases h<;>first|simp|rfl|rfl
theorem qL.biq(h:qL T o m)(hi:T[i]?=some x):p9 x o:=by
 have hm:=List.mem_of_getElem? hi;cases x with
 |r1 k aw sv it ws=>exact h.aw hi λe=>by simp[cu.B,e]
 |r3 k aw sv it ws=>exact h.aw hi λe=>by simp[cu.B,e]
 |r2 k sv=>
  have hG:=nK cu.G hm;simp only[cu.G] at hG;obtain⟨L,W,S,c⟩:=o;refine⟨λhS=>?_,λhS=>?_⟩
  .obtain⟨h1,h2,h3,h4⟩:=h.star hS;simp only at*;subst hS h1;cases L<;>simp at h3 ⊢ <;>omega
  .obtain⟨h1,h2,h3⟩:=h.norm hS;simp only at*;cases W<;>simp at h1 ⊢;omega
 |a1 k ex=>
  have hA:=nK cu.A hm;simp only[cu.A] at hA;obtain⟨L,W,S,c⟩:=o;cases hS:S with
  |false=>subst hS;obtain⟨h1,h2,h3⟩:=h.norm rfl;omega
  |true=>
   subst hS;obtain⟨h1,h2,h3,h4⟩:=h.star rfl;simp only at*;subst h1;refine⟨rfl,?_,rfl,by show 1<=c;omega⟩;cases L<;>simp at h3 ⊢;omega
 |u0 k=>
  have hH:=nK cu.H hm;simp only[cu.H] at hH;have:=h.held;show o.L=true;cases hL:o.L with
  |true=>rfl
  |false=>rw[hL] at this;simp at this;omega
 |_=>trivial
def qL.cle(h:qL T o m):o.c<=kL cu.Q T+kL cu.G T+kL cu.A T:=by
 cases hS:o.S
 .obtain⟨_,b,_⟩:=h.norm hS;omega
 obtain⟨_,_,_,d⟩:=h.star hS;omega
end
section
variable {ι:Type} {E:fY ι} {Fin:Goroutine->Prop}
variable {L0 L L':Nat->Option Obj} {K:Nat->St} {gs:Array Goroutine} {w w':World} {t u:Trace} {D:List (aP ι)} {pend d0:Nat} {cl:yI} {o:Wd} {m:Nat} {l os:List ι} {main:Goroutine} {sl:Option (Nat×Nat)}
 {i:Nat} {r r':aP ι} {g g':Goroutine} {s':St} {es:Array Event}
theorem agH:∀(D:List (aP ι)),kL cu.Q (D.map aP.qR)+kL cu.G (D.map aP.qR)+kL cu.A (D.map aP.qR)<=e8 aP.cnt D+kL (λr=>r.qR.Q+r.qR.G+r.qR.A-r.cnt) D
 | []=>by simp[kL]
 |r::D=>by
  have:=agH D
  grind [kL]
def Aa.few(hb:n8 E L K gs w t D)(hs:Aa E L0 L K gs w t D pend cl o m l):o.c<=E.max/\m<=1:=by
 refine⟨?_,hs.mi.few.2⟩;have h1:=hs.mi.cle;have h2:=agH D;have h3:kL (λr:aP ι=>r.qR.Q+r.qR.G+r.qR.A-r.cnt) D=0:=xL _ λr hr=>by
  obtain⟨k,hk⟩:=dV hr;cases r with
  |lk x n it ls=>cases x<;>rfl
  |ul x n ls=>cases x<;>rfl
  |st k n=>cases k<;>rfl
  |_=>rfl
 have:=hs.oZ;omega
theorem Aa.alone(hs:Aa E L0 L K gs w t D pend cl o m l)(hi:D[i]?=some r) (hH:r.qR.H=1) {y:aP ι} (hj:D[j]?=some y) (hy:y.qR.H=1):j=i:=
 hs.mi.one (by grind) (by grind) hy hH
theorem Aa.aat(hi:D[i]?=some r):(D.map aP.qR)[i]?=some r.qR:=by grind
theorem MD{P:Program}{main:Bool}{Stop:Goroutine->St->Prop}{s:St}(h:gx P main Stop g1 s):∀ {n:Nat} {g:Goroutine},Pure P main (λ_=>True) (· =g1) n g->(g1.status= .running)->gx P main Stop g s
 |0,g,hp,_=>by have:g=g1:=hp;grind
 |n+1,g,⟨h1,g',h2,h3⟩,hs=>(fJ P _ _).go h1 (Pure.running (λ_ e=>by grind) h3) (λw=>h2 w trivial) (MD h h3 hs)
section
variable (hb:n8 E L K gs w t D) (hs:Aa E L0 L K gs w t D pend cl o m l) (hp:E.UX (l++jW D) os) (hm:gs[0]?=some main) (hd:Deaf t 0=d0) (fw:rC E Fin main d0 cl)
include hb hs hp hm hd fw
def dC.mid{x:cu}(hi:D[i]?=some r) (hx:r.qR=x) (hg:gs[i+1]?=some g) (eB:E.M.At E.Mu x cs g) (FV:x.mid=true) (hS:x.Gl=true->m=1) (od:Deaf t (i+1)=x.deaf)
 (eA:r.left=false/\r.iN=false/\r.cnt=1/\r.c4=0/\r.c3=0/\r.c2=0) (htk:r.tok=true->(∃k,x= .ui k)\/∃k,x= .ur k) (Gn:r.mu o=(2*x.kB o+7,.leaf,0))
 (hr:∀g' x' o' m' n es,Nx x o m x' o' m'->E.pu (E.M.At E.Mu x' cs) n g'->Deaf (t++MemOp.ofEvents (i+1) g.frame.fn g.frame.place es) (i+1)=x'.deaf->
  ∃r',ki E (t++MemOp.ofEvents (i+1) g.frame.fn g.frame.place es) (i+1) (K (i+1)) g' r'/\r'.qR=x'/\r'.A4=r.A4/\r'.iN=false/\r'.cnt=1/\r'.c4=0/\r'.c3=0/\r'.c2=0/\r'.mu o=(2*x'.kB o+7,.leaf,n)/\((∃k,x= .ui k)->r'.tok=true)):
 oC E Fin L0 K D pend cl o m os main d0 gs w sl t (i+1):=by
 obtain⟨hc,oK⟩:=hs.few hb;have aqO:(D.map aP.qR)[i]?=some x:=by rw[Aa.aat hi,hx]
 have dL:=hs.mi.ok x (aj aqO);obtain⟨g',w',es,x',o',m',KJ,hgo,htu,nJ,hde,hur,hus,n,hpu⟩:=E.M.step eB hs.mu hc oK dL (hs.mi.biq aqO) FV hS;have SZ:Deaf (t++MemOp.ofEvents (i+1) g.frame.fn g.frame.place es) (i+1)=x'.deaf:=by rw[Deaf_own,od];exact hde
 obtain⟨r',beU,f1,f2,f3,f4,f5,f6,f7,f8,f9⟩:=hr g' x' o' m' n es KJ hpu SZ;have hwW:w'.heap[E.Wg]?=w.heap[E.Wg]?:=htu.block _ hs.ne.1;have hmi:qL ((D.set i r').map aP.qR) o' m':=by rw[Dh,f1];exact hs.mi.step aqO KJ
 have hgp:=vU hi r' m';have hgm:=aJx D m m';rw[f1,hx] at hgp;refine dC.sync hb hs hp hm hd fw (r':=r') (o':=o') (m':=m') hi hg hgo (.inr rfl) htu.size htu.block htu.later nJ beU eA.1 (λaqb=>?_) f3 eA.2.1 (by rw[f4,eA.2.2.1];exact bk _)
  (λcl' hw _ _=>hs.kP hi hwW (by rw[f4,eA.2.2.1]) (by rw[f5,eA.2.2.2.1]) (by rw[f6,eA.2.2.2.2.1]) (by rw[f7,eA.2.2.2.2.2]) cl' hw) htu.now hmi (λh1=>⟨?_,.inl (fY.pu.running hpu)⟩) f2 ?_
 .rcases htk aqb with h1| ⟨k,rfl⟩
  .exact .inl (f9 h1)
  refine .inr λp hk=>?_;have e1:=hur k rfl;subst e1;have e2:MemOp.ofEvents (i+1) g.frame.fn g.frame.place #[said (.releaseMerge (stA E.Mu))]= #[{g:=i+1,fn:=g.frame.fn,pos:=g.frame.place,act:= .mark (.releaseMerge (stA E.Mu))}]:=by rw[ofEvents_eq];simp[said,Go.ConcR.ofEvent_mk]
  rw[e2];have hy:(t++ #[({g:=i+1,fn:=g.frame.fn,pos:=g.frame.place,act:= .mark (.releaseMerge (stA E.Mu))}:MemOp)])[t.size]?=some {g:=i+1,fn:=g.frame.fn,pos:=g.frame.place,act:= .mark (.releaseMerge (stA E.Mu))}:=by simp
  exact⟨t.size,by rw[act?_of hy],⟨i+1,by simp[Trace.g?],by rw[deaf_old (bk _)];exact od⟩,.inr (hk.hb_new (bk _) hy rfl)⟩
 .rcases KJ.up with h2|h2
  .exact .inl (by omega)
  exact .inr (hus h2)
 rcases KJ.lt dL (λk e=>by rw[e] at FV;cases FV) with h2| ⟨rfl,rfl,h3,h4⟩
 .exact .inl (by omega)
 exact .inr ⟨by omega,rfl,by unfold tN;rw[f8,Gn];exact eG (by simp only;omega)⟩
def dC.aBg{x:cu}{it:ι}{ls:List ι}(hi:D[i]?=some (.lk x 0 it ls)) (hg:gs[i+1]?=some g) (hsr:g.status= .running) (FV:x.mid=true) (hS:x.Gl=true->m=1):oC E Fin L0 K D pend cl o m os main d0 gs w sl t (i+1):=by
 obtain⟨dq,cR,dL⟩:=hb.ok i _ hi;obtain rfl:dq=g:=by rw[hg] at cR;exact(aK cR).symm
 obtain⟨h1,h2,h3,c,cs,h4,h5| ⟨_,_,lu,_,e⟩⟩:=dL
 .refine dC.mid hb hs hp hm hd fw hi rfl hg h5 FV hS h3 ⟨rfl,rfl,rfl,rfl,rfl,rfl⟩ (λe=>by cases e) rfl λg' x' o' m' n es KJ hpu od=>?_;obtain⟨k1,k2⟩:=KJ.isL h1 FV;exact⟨.lk x' n it ls,⟨k1,k2.trans h2,od,c,cs,h4,.inl hpu⟩,rfl,rfl,rfl,rfl,rfl,rfl,rfl,rfl,λ⟨k,e⟩=>by subst e;cases h1⟩
 rw[e] at hsr;cases hsr
def dC.aNu{x:cu}{ls:List ι}(hi:D[i]?=some (.ul x 0 ls)) (hg:gs[i+1]?=some g) (FV:x.mid=true):oC E Fin L0 K D pend cl o m os main d0 gs w sl t (i+1):=by
 obtain⟨dq,cR,dL⟩:=hb.ok i _ hi;obtain rfl:dq=g:=by rw[hg] at cR;exact(aK cR).symm
 obtain⟨h1,h2,h3,c,cs,h4,h5⟩:=dL;refine dC.mid hb hs hp hm hd fw hi rfl hg h4 FV (λe=>by cases x<;>first| (cases h1;done)| (cases e;done)) h3 ⟨rfl,rfl,rfl,rfl,rfl,rfl⟩ (λe=>?_) rfl λg' x' o' m' n es KJ hpu od=>?_
 .cases x<;>first|exact .inl ⟨_,rfl⟩|exact .inr ⟨_,rfl⟩|cases e
 obtain⟨k1,k2⟩:=KJ.isU h1 FV;refine⟨.ul x' n ls,⟨k1,k2.trans h2,od,c,cs,hpu,h5⟩,rfl,rfl,rfl,rfl,rfl,rfl,rfl,rfl,λ⟨k,e⟩=>?_⟩;subst e;cases KJ;rfl
theorem dC.block{x:cu}{it:ι}{ls:List ι}(hi:D[i]?=some (.lk x 0 it ls)) (hg:gs[i+1]?=some g) (hsr:g.status= .running) (hS:x.Gl=true) (hm0:m≠1):oC E Fin L0 K D pend cl o m os main d0 gs w sl t (i+1):=by
 obtain⟨dq,cR,dL⟩:=hb.ok i _ hi
 obtain rfl:dq=g:=by rw[hg] at cR;exact(Option.some.inj cR).symm
 obtain⟨h1,h2,h3,c,cs,h4,h5'⟩:=dL
 have h5:=h5'.resolve_right fun⟨_,_,lu,_,e⟩=>by rw[e] at hsr;cases hsr
 obtain⟨k,sv,rfl⟩:∃k sv,x= .s1 k sv:=by cases x<;>first|exact⟨_,_,rfl⟩|cases hS
 have hz:m=0:=by have:=(hs.few hb).2;omega
 subst hz
 have hgo:=E.M.block h5 hs.mu
 have dz:=runT_crowd_go (P:=E.P) (sl:=sl) (i:=i+1) hg (by simpa using hgo)
 have ew:gs.map (woken E.P dq {dq with status:= .blocked} w)=gs:=by
  have:woken E.P dq {dq with status:= .blocked} w=id:=by funext x;simp[Go.Conc.woken]
  rw[this,Array.map_id]
 rw[ew,Cf] at dz
 have ei:=lt_size hg
 have qI:∀k,k≠i+1→(gs.setIfInBounds (i+1) {dq with status:= .blocked})[k]?=gs[k]?:=fun k hk=>Array.getElem?_setIfInBounds_ne (Ne.symm hk)
 refine⟨K,_,w,_,D,cl,o,0,main,dz,?_,rfl,fun _=>rfl,Iff.rfl,Nat.le_refl _,.r (Nat.le_refl _) rfl rfl rfl ?_⟩
 ·rw[Array.append_empty]
  refine⟨⟨L,l,⟨hb.fit,by simp[hb.size],fun k y hk=>?_,fun k hk=>hb.far k (by simpa using hk),fun op aX=>by simpa using hb.ops op aX,hb.same⟩,⟨hs.kW,hs.kM,hs.lW,hs.lM,hs.lH,hs.ne,hs.norel,hs.plain,hs.said,hs.cells,hs.oZ,hs.mu,hs.mi,fun e=>by omega,hs.ei,hs.nH,hs.Uc,by simpa using hs.gu⟩,hp⟩,by rw[qI 0 (by omega)];exact hm,hd,fw⟩
  by_cases e:k=i
  ·subst e;rw[hi] at hk;cases hk
   exact⟨_,Array.getElem?_setIfInBounds_self_of_lt ei,h1,h2,h3,c,cs,h4,.inr ⟨rfl,rfl,dq,h5,rfl⟩⟩
  obtain⟨z,hz,dL⟩:=hb.ok k y hk
  exact⟨z,by rw[qI _ (by omega)];exact hz,dL⟩
 have hl:gs.toList[i+1]?=some dq:=by rw[Array.getElem?_toList];exact hg
 have:=kR (fun g:Goroutine=>if g.status= .running then 1 else 0) (y:={dq with status:= .blocked}) hl
 simp only[runN,Array.toList_setIfInBounds]
 rw[hsr] at this
 simp at this
 omega
end
end
section
variable {ι:Type} {E:fY ι} {Fin:Goroutine->Prop}
variable {L0 L L':Nat->Option Obj} {K:Nat->St} {gs:Array Goroutine} {w w':World} {t u:Trace} {D:List (aP ι)} {pend d0:Nat} {cl:yI} {o:Wd} {m:Nat} {l os:List ι} {main:Goroutine} {sl:Option (Nat×Nat)}
 {i:Nat} {r r':aP ι} {g g':Goroutine} {s':St} {es:Array Event}
def QO(L0:Nat->Option Obj)(X:List (Nat×Obj)):Nat->Option Obj:=λb=>match X.find? (λy=>y.1==b) with
 |some y=>some y.2
 |none=>L0 b
theorem abr{X:List (Nat×Obj)}(kT:(X.map (·.1)).Nodup):∀ {b:Nat} {o:Obj},(b,o)∈X->QO L0 X b=some o:=by
 induction X with
 |nil=>simp
 |cons a X ih=>
  grind [QO]
theorem Ld(X:List (Nat×Obj))(b:Nat):QO L0 X b=L0 b\/∃o,(b,o)∈X:=by
 grind [QO]
theorem Ig{l1:List ι}{Stop:Goroutine->St->Prop}{s:St}(h:rI E l1 Stop g1 s):∀ {n:Nat} {g:Goroutine},Pure E.P false (λ_=>True) (· =g1) n g->(g1.status= .running)->rI E l1 Stop g s
 |0,g,hp,_=>by have:g=g1:=hp;grind
 |n+1,g,⟨h1,g',h2,h3⟩,hs=>(sZ l1 _).go h1 (Pure.running (λ_ e=>by grind) h3) (λw=>h2 w trivial) (Ig h h3 hs)
section
variable (hb:n8 E L K gs w t D) (hs:Aa E L0 L K gs w t D pend cl o m l) (hp:E.UX (l++jW D) os) (hm:gs[0]?=some main) (hd:Deaf t 0=d0) (fw:rC E Fin main d0 cl)
include hb hs hp hm hd fw
def dC.la{k:Nat}{it:ι}{ls:List ι}(hi:D[i]?=some (.lk (.la k) 0 it ls)) (hg:gs[i+1]?=some g):oC E Fin L0 K D pend cl o m os main d0 gs w sl t (i+1):=by
 obtain⟨dq,cR,dL⟩:=hb.ok i _ hi;obtain rfl:dq=g:=by rw[hg] at cR;exact(aK cR).symm
 obtain⟨_,h2,od,c,cs,⟨qX,abf⟩,h5⟩:=dL;have eB:=h5.resolve_right λ⟨_,e,_⟩=>by cases e
 obtain⟨g',hgo,n,hpu⟩:=E.M.la eB;have wX:∀j y,j≠i->D[j]?=some y->y.qR.H=1->False:=λj y eA hj hy=>eA (hs.alone hi rfl hj hy);rcases hs.gu with ⟨j,o1,os1,tr1,hj,_⟩| ⟨SS,v,X,WX,kT,hX,hLs,hHb,htk⟩
 .have:=hs.alone hi rfl hj rfl;subst this;rw[hi] at hj;cases hj
 have e1:MemOp.ofEvents (i+1) dq.frame.fn dq.frame.place #[said (.acquire (stA E.Mu))]= #[{g:=i+1,fn:=dq.frame.fn,pos:=dq.frame.place,act:= .mark (.acquire (stA E.Mu))}]:=by rw[ofEvents_eq];simp[said,Go.ConcR.ofEvent_mk]
 have hu:∀op∈MemOp.ofEvents (i+1) dq.frame.fn dq.frame.place #[said (.acquire (stA E.Mu))],op.g=i+1/\op.act= .mark (.acquire (stA E.Mu)):=by rw[e1];intro op aX;simp at aX;subst aX;exact⟨rfl,rfl⟩
 have hy:(t++MemOp.ofEvents (i+1) dq.frame.fn dq.frame.place #[said (.acquire (stA E.Mu))])[t.size]?=some {g:=i+1,fn:=dq.frame.fn,pos:=dq.frame.place,act:= .mark (.acquire (stA E.Mu))}:=by rw[e1];simp
 have SZ:Deaf (t++MemOp.ofEvents (i+1) dq.frame.fn dq.frame.place #[said (.acquire (stA E.Mu))]) (i+1)=0:=by rw[Deaf_own,od];rfl
 generalize hue:MemOp.ofEvents (i+1) dq.frame.fn dq.frame.place #[said (.acquire (stA E.Mu))]=u at hu hy SZ;have hmt:∀op∈u,op.act.touch?=none:=λop aX=>by rw[(hu op aX).2];rfl
 have nt:∀(P:Touch->Prop),∀op∈u,∀x,op.act.touch?=some x->P x:=λP op aX x hx=>by rw[hmt op aX] at hx;cases hx
 have brL:i+1 <gs.size:=lt_size hg;have heard:(t++u).heard t.size:=⟨i+1,by simp only[Trace.g?,hy,dD],by rw[deaf_old (bk _)];exact od⟩;have ep:∀p x,touchAt (t++u) p=some x->aiI E X x->Knows (t++u) (i+1) p:=λp x hx hgx=>by
  have mO:touchAt t p=some x:=by
   rcases cm hx with ⟨_,h'⟩| ⟨_,op,aX,_,vI⟩
   .exact h'
   rw[hmt op aX] at vI;cases vI
  rcases htk p x mO hgx with h7| ⟨q,q1,q2,q3⟩| ⟨j,y,hj,hyt,brP⟩
  .exact(h7.2 i _ hi rfl).app u
  .have hq:=lt_of_act? q1;have Q8:HappensBefore (t++u) q t.size:= .single (.inr ⟨.marked hq (.inr (by rw[act?_old hq];exact q1)) (by rw[act?_of hy]) (λk _ hk=>by rw[act?_old (by omega)];exact hs.norel _ k),(heard_old hq).2 q2,heard⟩);exact⟨t.size,_,hy,rfl,.inr ((q3.app u).hb Q8)⟩
  exfalso;have hyH:y.qR.H=1:=by
   cases y with
   |post _ _=>rfl
   |ul z _ _=>cases z<;>first|rfl|cases hyt
   |_=>cases hyt
  have:=hs.alone hi rfl hj hyH;subst this;rw[hi] at hj;cases hj;cases hyt
 have Ef:Fit L K w (t++u):=hb.fit.quiet E.Wg hs.kW hs.lW (bk _) (λ_ _ _=>rfl) hmt;have IG:=Ef.take (L':=L0) (i:=i+1) (X:=X) (full:=E.full v) (hc:=E.hc) (ht:=E.ht) hLs hX kT qX rfl hHb λp x hx hgx=>ep p x hx hgx;have NI:l.length <E.mxl:=by
  have h1:=hp.1.length_eq;have h2:=hp.2;have h3:=(Fj (r':= .leave 0 0 false) hi).length_eq;simp only[aL,aP.A4,aJ,aO] at h1 h3;omega
 obtain⟨tr,ig,hle,MM⟩:=Ig (abf l v X WX NI) hpu (by rfl);have nkX:∀b,(∀o,(b,o)∈X->False)->¬(K (i+1)).knows b->b≠E.Hb->¬ig.knows b:=λb h1 h2 h3 hk=>by
  rcases hle.knows hk with h4| ⟨o',h4⟩
  .exact h2 (.inl (by simpa [lD,h3] using h4))
  rcases bJ.1 h4 with h5|h5
  .exact h1 o' h5
  exact h2 (.inr ⟨o',h5⟩)
 have awy:∀b,L b=none->∀o,(b,o)∈X->False:=λb hb o h=>by have:=(hX b o h).1;rw[hb] at this;cases this
 have L0n:∀b,L b=none->L0 b=none:=λb hb=>by
  cases h':L0 b with
  |none=>rfl
  |some o=>rw[hLs b o h'] at hb;cases hb
 have hgp:=vU hi (.xC it ls l tr) m;simp only[aP.qR,cu.Jw] at hgp;have h2':k=ls.length:=h2;refine dC.go hb hs hp hm hd fw (L':=L0) (r':= .xC it ls l tr) (s':=ig) (l':=l) (o':=o) (m':=m) hi hg (hgo w) hue.symm (mQ.refl w) (nkX _ (awy _ hs.lW) (hs.kW _) (jz hs.ne.2.1)) (nkX _ (awy _ hs.lM) (hs.kM _) (jz hs.ne.2.2)) (λho=>?_) (λ_ _=> .inr rfl) hs.ei (L0n _ hs.lW) (L0n _ hs.lM) (L0n _ hs.lH)
  (IG.le λj=>?_) ⟨SZ,λp x hx hh=>ep p x hx (.inr hh),λx hx=>?_,MM⟩ (λop aX x hx=>nt (λx=>E.At x->x.kind= .atomic) op aX x hx) (λop aX a=>by rw[(hu op aX).2];simp) (λ_=>rfl) (λ_ _ _ _ _ _ op aX x hx=>nt (λx=>¬oQ E.Hb x.loc) op aX x hx) (bk _)
  (λcl' hw _ _=>hs.kP (r':= .xC it ls l tr) hi rfl rfl rfl rfl rfl cl' hw) hs.mu ?_ (λh=>⟨.inl h,.inl ?_⟩) (.inl ⟨i,it,ls,tr,Bg hi,rfl⟩) ((uU (r:= .lk (.la k) 0 it ls) (r':= .xC it ls l tr) rfl hi).append_left _) (.inr ⟨by omega,rfl,eG (by simp[aP.mu,cu.kB])⟩)
 .obtain⟨o',h4⟩:=hle.owns ho;rcases bJ.1 h4 with h5|h5
  .exact awy _ hs.lH o' h5
  exact hs.nH _ ⟨o',h5⟩
 .by_cases e:j=i+1
  .subst e;rw[aV,aV];exact hle
  rw[bz _ _ e,bz _ _ e];exact St.le_refl _
 .rcases hle.bU (by rw[hx];simp) with h4| ⟨o',h4⟩
  .rw[hx] at h4;simp only[lV] at h4;rw[aK h4];rfl
  rcases bJ.1 h4 with h5|h5
  .exact absurd h5 (awy _ hs.lH o')
  exact absurd ⟨o',h5⟩ (hs.nH (i+1))
 .have:=hs.mi.step (Aa.aat hi) (x':= .own k) (w':=o) (m':=m) .la;rw[Dh];simp only[aP.qR];rw[<-h2'];exact this
 exact tJ.running (λ_ _ y=>fY.Unl.running y) MM
def dC.store{it:ι}{ls l1:List ι}{tr0 tr:Tree}{ig:St}{v:Value}{X Y:List (Nat×Obj)}{c:Array Value}(hi:D[i]?=some (.xC it ls l1 tr0)) (hg:gs[i+1]?=some g) (od:Deaf t (i+1)=0) (aBC:Cq E.Hb t (i+1))
 (qX:(K (i+1)).ro E.Hb=some (.cells c E.ht (0,0))) (Be:wL <c.size) (QA:c.size=E.hc.size) (hce:∀j,j≠wL->c[j]?=E.hc[j]?) (Hj:(K (i+1)).rw.Perm (X++Y)) (WX:E.Gd (l1++[it]) v X)
 (dt:stepG E.P false g w= .go g' (w.setCell ⟨E.Hb,wL,none⟩ v) #[⟨.cell ⟨E.Hb,wL,none⟩,true,false⟩]) (hle:ig.le ⟨lD (K (i+1)).ro E.Hb E.hole,Y⟩) (MM:tJ E (l1++[it]) (E.Unl (E.Stp ls) ls.length) tr g' ig):oC E Fin L0 K D pend cl o m os main d0 gs w sl t (i+1):=by
 have uM:l1=l/\L0=L:=by
  rcases hs.gu with ⟨j,o1,os1,tr1,hj,e⟩| ⟨wX,_⟩
  .have:=hs.alone hi rfl hj rfl;subst this;rw[hi] at hj;cases hj;exact⟨rfl,e.symm⟩
  have:=wX i _ hi;cases this
 obtain⟨rfl,hLL⟩:=uM;subst hLL;have uniq:∀j y,j≠i->D[j]?=some y->y.iN=true->False:=λj y eA hj hy=>eA (hs.alone hi rfl hj (by cases y<;>first|rfl|cases hy));have ha:=hb.fit.ny (i+1);have aeQ:(X.map (·.1)).Nodup:=by
  have kT:=(Hj.map (·.1)).nodup_iff.1 ha.nodup;rw[cw,eo] at kT;exact kT.1
 have ahJ:∀b o,(b,o)∈X->(K (i+1)).owns b:=λb o h=>⟨o,Hj.mem_iff.2 (by simp[h])⟩;have aUm:∀b o,(b,o)∈X->L0 b=none:=λb o h=>hb.fit.mN _ b (ahJ b o h);have ov:=hb.fit.give (L':=QO L0 X) (i:=i+1) (Hb:=E.Hb) (X:=X) (Y:=Y) (hc:=E.hc) (ht:=E.ht) (c:=c) (v:=v) (λb=>Ld X b) (λb o h=>abr aeQ h) Hj qX Be E.hht QA hce hs.lH (λj hj y hy=>by
  rcases hs.Uc j y hy with rfl| ⟨k,z,rfl,hk,hz⟩
  .rfl
  exact absurd hz (by
   cases hzc:z.iN with
   |false=>simp
   |true=>exact(uniq k z (by omega) hk hzc).elim)) aBC g.frame.fn g.frame.place
 have e1:MemOp.ofEvents (i+1) g.frame.fn g.frame.place #[⟨.cell ⟨E.Hb,wL,none⟩,true,false⟩]= #[{g:=i+1,fn:=g.frame.fn,pos:=g.frame.place,act:= .access ⟨.cell ⟨E.Hb,wL,none⟩,true,false⟩}]:=by rw[ofEvents_eq];simp[MemAct.ofEvent]
 have hu:∀op∈MemOp.ofEvents (i+1) g.frame.fn g.frame.place #[⟨.cell ⟨E.Hb,wL,none⟩,true,false⟩],op.g=i+1/\op.act= .access ⟨.cell ⟨E.Hb,wL,none⟩,true,false⟩:=by rw[e1];intro op aX;simp at aX;subst aX;exact⟨rfl,rfl⟩
 have SZ:Deaf (t++MemOp.ofEvents (i+1) g.frame.fn g.frame.place #[⟨.cell ⟨E.Hb,wL,none⟩,true,false⟩]) (i+1)=0:=by rw[Deaf_own,od];rfl
 generalize hue:MemOp.ofEvents (i+1) g.frame.fn g.frame.place #[⟨.cell ⟨E.Hb,wL,none⟩,true,false⟩]=u at hu SZ ov;have htc:∀op∈u,∀x,op.act.touch?=some x->x=⟨.cell ⟨E.Hb,wL,none⟩,true,.plain⟩:=λop aX x hx=>by
  rw[(hu op aX).2] at hx;simp only[MemAct.touch?,aW,cJ,aB] at hx;exact hx.symm
 have hwo:∀b,b≠E.Hb->(w.setCell ⟨E.Hb,wL,none⟩ v).heap[b]?=w.heap[b]?:=λb hb=>by simp[World.setCell,fI,jz hb]
 have hwb:w.heap[E.Hb]?=some (.cells c E.ht (0,0)):=(ha.ro E.Hb _ qX).elim (·.1) λh=>h.elim (λ⟨_,_,_,e,_⟩=>by cases e) λ⟨_,_,e,_⟩=>by cases e
 have hw':(w.setCell ⟨E.Hb,wL,none⟩ v).heap[E.Hb]?=some (E.full v):=by
  have:(w.setCell ⟨E.Hb,wL,none⟩ v).heap[E.Hb]?=some (.cells (c.setIfInBounds wL v) E.ht (0,0)):=by simp[World.setCell,fI,hwb]
  rw[this,fY.full];congr 2;apply w7;intro j;by_cases e:j=wL
  .subst e;simp[Be,<-QA]
  rw[jZ (jz e),jZ (jz e)];exact hce j e
 have kY:∀b,ig.knows b->(K (i+1)).knows b/\∀o,(b,o)∉X:=λb hk=>by
  have kT:=(Hj.map (·.1)).nodup_iff.1 ha.nodup;rw[cw,eo] at kT;rcases hle.knows hk with h4| ⟨o',h4⟩
  .have hr:(K (i+1)).ro b≠none:=by
    by_cases e:b=E.Hb
    .subst e;rw[qX];simp
    simpa [lD,e] using h4
   exact⟨.inl hr,λo ho=>hr (ha.apart b o (Hj.mem_iff.2 (by simp[ho])))⟩
  exact⟨.inr ⟨o',Hj.mem_iff.2 (by simp[h4])⟩,λo ho=>kT.2.2 b (a8.2 ⟨_,ho,rfl⟩) b (a8.2 ⟨_,h4,rfl⟩) rfl⟩
 have gL:∀b,¬(K (i+1)).owns b->L0 b=none->QO L0 X b=none:=λb h1 h2=>by
  rcases Ld (L0:=L0) X b with h3| ⟨o,h3⟩
  .rw[h3];exact h2
  exact absurd (ahJ b o h3) h1
 have hgp:=vU hi (.post ls tr) m;simp only[aP.qR,cu.Jw] at hgp;have dz:g'.status= .running:=tJ.running (λ_ _ x=>fY.Unl.running x) MM;refine dC.go hb hs hp hm hd fw (L':=QO L0 X) (r':= .post ls tr) (s':=ig) (l':=l1++[it]) (o':=o) (m':=m) hi hg dt hue.symm ⟨OsLater.refl _,rfl⟩ (λhk=>hs.kW _ (kY _ hk).1) (λhk=>hs.kM _ (kY _ hk).1) (λho=>?_) (λx hx=> .inl ?_) (lt_size hw')
  (gL _ (λho=>hs.kW _ (.inr ho)) hs.lW) (gL _ (λho=>hs.kM _ (.inr ho)) hs.lM) (gL _ (hs.nH _) hs.lH) (ov.le λj=>?_) ⟨SZ,_,MM⟩ (λop aX x hx eB=>?_) (λop aX a=>by rw[(hu op aX).2];simp) (λ_=>rfl) (λe=>by cases e) (bk _)
  (λcl' hw _ _=>hs.kP (r':= .post ls tr) hi (hwo _ (jz hs.ne.2.1)) rfl rfl rfl rfl cl' hw) (by unfold MuAt;rw[hwo _ (jz hs.ne.2.2)];exact hs.mu) (PY (r:= .xC it ls l1 tr0) hs.mi rfl hi) (λh=>⟨.inl h,.inl dz⟩) (.inr ⟨λk y hk=>?_,v,X,WX,aeQ,λb o h=>⟨abr aeQ h,aUm b o h,ha.real b o (Hj.mem_iff.2 (by simp[h])),λj hk=>?_⟩,λb o h=>?_,hw',λp x hx hgx=>?_⟩) ?_ (.inr ⟨by omega,rfl,eG (by simp[aP.mu])⟩)
 .obtain⟨o',h4⟩:=hle.owns ho;exact hs.nH _ ⟨o',Hj.mem_iff.2 (by simp[h4])⟩
 .rcases hle.bU (by rw[hx];simp) with h4| ⟨o',h4⟩
  .rw[hx] at h4;simp only[lV] at h4;exact aK h4
  exact absurd ⟨o',Hj.mem_iff.2 (by simp[h4])⟩ (hs.nH (i+1))
 .by_cases e:j=i+1
  .subst e;rw[aV,aV];exact hle
  rw[bz _ _ e,bz _ _ e];exact St.le_refl _
 .obtain rfl:=htc op aX x hx;rcases eB with e|e
  .exact absurd (aK e) hs.ne.2.1
  exact absurd (aK e) hs.ne.2.2
 .rcases uQ hk with ⟨_,rfl⟩| ⟨eA,mA⟩
  .rfl
  cases hy:y.iN with
  |false=>rfl
  |true=>exact(uniq k y eA mA hy).elim
 .by_cases e:j=i+1
  .subst e;rw[aV] at hk;exact(kY b hk).2 o h
  rw[bz _ _ e] at hk;exact hb.fit.sep (i+1) j b (jz e) (ahJ b o h) hk
 .rcases Ld (L0:=L0) X b with h3| ⟨o',h3⟩
  .rw[h3];exact h
  rw[aUm b o' h3] at h;cases h
 .refine .inr (.inr ⟨i,.post ls tr,Bg hi,rfl,?_⟩);rcases cm hx with ⟨_,mO⟩| ⟨_,op,aX,ho,vI⟩
  .rcases hgx with ⟨b,o,h,Yl⟩|hh
   .exact(hb.fit.perm _ b (ahJ b o h) p x mO Yl).app u
   exact(aBC p x mO hh).app u
  have:=knows_own ho;rwa[(hu op aX).1] at this
 have h1:=Fj (r':= .post ls tr) hi;simp only[aP.A4] at h1;have h2:(jW D).Perm (it::jW (D.set i (.post ls tr))):=by
  refine(List.perm_append_right_iff ls).1 (h1.symm.trans ?_);rw[dK];exact jB
 rw[bx];exact(h2.symm).append_left _
def dC.xC{it:ι}{ls l1:List ι}{tr0:Tree}(hi:D[i]?=some (.xC it ls l1 tr0)) (hg:gs[i+1]?=some g):oC E Fin L0 K D pend cl o m os main d0 gs w sl t (i+1):=by
 obtain⟨dq,cR,dL⟩:=hb.ok i _ hi;obtain rfl:dq=g:=by rw[hg] at cR;exact(aK cR).symm
 obtain⟨od,htk,ND,MM⟩:=dL;cases tr0 with
 |leaf=>have:=ND _ MM.1;cases this
 |node f=>
  obtain⟨dt,lE⟩:=MM;obtain⟨g',w',es,s',h1,h2,h3| ⟨v,X,Y,c,k1,k2,k3,k4,k5,k6,rfl,rfl,k9⟩,h4⟩:=lE w (hb.fit.ny _)
  .exact dC.own hb hs hp hm hd fw (r':= .xC it ls l1 (f w)) hi hg h1 h3 h2 (λe e1 e2=>⟨e.trans od,e2 rfl htk,λx hx=>ND x (e1 x hx),h4⟩) rfl rfl ⟨rfl,rfl,rfl,rfl⟩ rfl rfl rfl (λ_=>⟨_,_,_,_,_,rfl,rfl⟩) (A8 (.mk f w))
  exact dC.store hb hs hp hm hd fw hi hg od htk k1 k2 k3 k4 k5 k6 h1 k9 h4
def dC.post{ls:List ι}{f:World->Tree}(hi:D[i]?=some (.post ls (.node f))) (hg:gs[i+1]?=some g):oC E Fin L0 K D pend cl o m os main d0 gs w sl t (i+1):=by
 obtain⟨dq,cR,dL⟩:=hb.ok i _ hi;obtain rfl:dq=g:=by rw[hg] at cR;exact(aK cR).symm
 obtain⟨od,l1,dt,lE⟩:=dL;obtain⟨g',w',es,s',h1,h2,h3| ⟨v,X,Y,c,k1,_⟩,h4⟩:=lE w (hb.fit.ny _)
 .exact dC.own hb hs hp hm hd fw (r':= .post ls (f w)) hi hg h1 h3 h2 (λe _ _=>⟨e.trans od,l1,h4⟩) rfl rfl ⟨rfl,rfl,rfl,rfl⟩ rfl rfl rfl (λe=>by cases e) (A8 (.mk f w))
 have:=hs.Fg hi rfl _ k1;cases this
def dC.ue{k:Nat}{ls:List ι}(hi:D[i]?=some (.ul (.ue k) 0 ls)) (hg:gs[i+1]?=some g):oC E Fin L0 K D pend cl o m os main d0 gs w sl t (i+1):=by
 obtain⟨dq,cR,dL⟩:=hb.ok i _ hi;obtain rfl:dq=g:=by rw[hg] at cR;exact(aK cR).symm
 obtain⟨_,h2,od,c,cs,eB,Ap,aqI⟩:=dL;obtain⟨g',hgo,n,hpu⟩:=E.M.ue eB Ap;obtain⟨tr,ig,hle,MM⟩:=MD aqI hpu rfl;have nJ:∀e∈ #[said .enable],u3 E.Mu e:=by intro e he;simp at he;subst he;exact .inr (.inl rfl)
 have ho:=u3.ops nJ (i+1) dq.frame.fn dq.frame.place;have nt:∀(P:Touch->Prop),∀op∈MemOp.ofEvents (i+1) dq.frame.fn dq.frame.place #[said .enable],∀x,op.act.touch?=some x->P x:=λP op aX x hx=>by
  rw[ofEvents_eq] at aX;simp[said,Go.ConcR.ofEvent_mk] at aX;subst aX;cases hx
 have hgp:=vU hi (.work ls tr) m;have h2':k=ls.length:=h2;simp only[aP.qR,cu.Jw] at hgp;refine dC.go hb hs hp hm hd fw (L':=L) (r':= .work ls tr) (s':=ig) (l':=l) (o':=o) (m':=m) hi hg (hgo w) rfl (mQ.refl w) (λhk=>hs.kW _ (hle.knows hk)) (λhk=>hs.kM _ (hle.knows hk)) (λh=>hs.nH _ (hle.owns h)) (λx hx=> .inl ?_) hs.ei hs.lW hs.lM hs.lH
  ((hs.vX hb.fit (w':=w) (.inr ⟨i,_,rfl,hi,rfl⟩) (.inr rfl) rfl (λ_ _=>rfl) nJ _ _).le λj=>?_) ⟨by rw[Deaf_own,od];rfl,MM⟩ (λop aX x hx=>nt (λx=>E.At x->x.kind= .atomic) op aX x hx) (λop aX=>(ho op aX).2.1) (λ_=>rfl) (λ_ _ _ _ _ _ op aX x hx=>nt (λx=>¬oQ E.Hb x.loc) op aX x hx) (bk _)
  (λcl' hw _ _=>hs.kP (r':= .work ls tr) hi rfl rfl rfl rfl rfl cl' hw) hs.mu ?_ (λh=>⟨.inl h,.inl (qw.running (λ_ _ x=>fY.Stp.running x) MM)⟩) ?_ ((uU (r:= .ul (.ue k) 0 ls) (r':= .work ls tr) rfl hi).append_left _) (.inr ⟨by omega,rfl,eG (by simp[aP.mu,cu.kB])⟩)
 .rcases hle.bU (by rw[hx];simp) with h4|h4
  .exact hs.Fg hi rfl x (by rw[<-h4];exact hx)
  exact absurd h4 (hs.nH _)
 .by_cases e:j=i+1
  .subst e;rw[aV];exact hle
  rw[bz _ _ e];exact St.le_refl _
 .have:=hs.mi.step (Aa.aat hi) (x':= .out k) (w':=o) (m':=m) .ue;rw[Dh];simp only[aP.qR];rw[<-h2'];exact this
 exact hs.gu.step hi rfl rfl (λ_=>rfl) (λe=>by cases e) (λb _ h1 h2=>h1 (hle.knows h2)) rfl λop aX x hx=>nt (λx=>¬oQ E.Hb x.loc/\∀b,blk x.loc=some b->L b≠none->(K (i+1)).knows b) op aX x hx
end
def dC.aEu(h:dC E Fin L0 K gs w t D pend cl o m os main d0)(hi:D[i]?=some r) (hg:gs[i+1]?=some g) (hle:s'.le (K (i+1))) (hr:ki E t (i+1) (K (i+1)) g r->ki E t (i+1) s' g r') (hc:r'.cnt=r.cnt/\r'.c4=r.c4/\r'.c3=r.c3/\r'.c2=r.c2) (ho:r'.A4=r.A4)
 (hmi:qL (D.map aP.qR) o m->qL ((D.set i r').map aP.qR) o m) (h1:r.iN=false) (h2:r'.iN=false) (h3:r.tok=true->r'.tok=true) (h4:r.left=false):
 dC E Fin L0 (gV K (i+1) s') gs w t (D.set i r') pend cl o m os main d0:=by
 obtain⟨⟨L,l,hb,hs,hp⟩,hm,hd,fw⟩:=h;have akg:∀j,(gV K (i+1) s' j).le (K j):=λj=>by
  by_cases e:j=i+1
  .subst e;rw[aV];exact hle
  rw[bz _ _ e];exact St.le_refl _
 refine⟨⟨L,l,⟨hb.fit.le akg,by simp[hb.size],λk y hk=>?_,λk hk b h=>hb.far k hk b ((akg k).knows h),hb.ops,hb.same⟩,
  ⟨λj hj=>hs.kW j ((akg j).knows hj),λj hj=>hs.kM j ((akg j).knows hj),hs.lW,hs.lM,hs.lH,hs.ne,hs.norel,λj hj=>hs.plain j ?_,hs.said,?_,?_,hs.mu,hmi hs.mi,hs.aag,hs.ei,λj hj=>hs.nH j ((akg j).owns hj),λj x hx=>?_,?_⟩,⟨((uU ho hi).append_left _).trans hp.1,hp.2⟩⟩,hm,hd,fw⟩
 .rcases uQ hk with ⟨rfl,rfl⟩| ⟨eA,mA⟩
  .obtain⟨z,hz,dL⟩:=hb.ok _ _ hi;rw[hg] at hz;cases hz;exact⟨g,hg,by rw[aV];exact hr dL⟩
  rw[bz _ _ (by omega)];exact hb.ok k y mA
 .rcases hj with hj| ⟨k,y,rfl,hk,hl⟩
  .exact .inl hj
  rcases uQ hk with ⟨rfl,rfl⟩| ⟨_,mA⟩
  .exact .inr ⟨_,_,rfl,hi,h4⟩
  exact .inr ⟨k,y,rfl,mA,hl⟩
 .obtain⟨st,sm,ha,j7⟩:=hs.cells;exact⟨st,sm,ha,IQ hi (by omega) (by omega) (by omega) (by omega) j7⟩
 .have:=kR aP.cnt (y:=r') hi;have h5:=hs.oZ;simp only[e8] at*;omega
 .have hj:(K j).ro E.Hb=some x:=by
   rcases(akg j).bU (by rw[hx];simp) with h6|h6
   .rw[<-h6];exact hx
   exact absurd h6 (hs.nH j)
  rcases hs.Uc j x hj with h6| ⟨k,y,rfl,hk,hy⟩
  .exact .inl h6
  by_cases e:k=i
  .subst e;rw[hi] at hk;cases hk;rw[h1] at hy;cases hy
  exact .inr ⟨k,y,rfl,yu hk e,hy⟩
 have:=hs.gu.step (u:= #[]) (s':=s') hi h1 h2 (λ_=>h4) (λe=> .inl (h3 e)) (λb _ h7 h8=>h7 (hle.knows h8)) (w':=w) rfl (by simp);rwa[bV] at this
end
section
variable {ι:Type} {E:fY ι} {Fin:Goroutine->Prop}
variable {L0 L L':Nat->Option Obj} {K:Nat->St} {gs:Array Goroutine} {w w':World} {t u:Trace} {D:List (aP ι)} {pend d0:Nat} {cl:yI} {o:Wd} {m:Nat} {l os:List ι} {main:Goroutine} {sl:Option (Nat×Nat)}
 {i:Nat} {r r':aP ι} {g g':Goroutine} {s':St} {es:Array Event}
def aP.quiet:aP ι->Bool
 | .work _ .leaf| .post _ .leaf=>true
 |_=>false
def dC.other(h:dC E Fin L0 K gs w t D pend cl o m os main d0)(hg:gs[i+1]?=some g) (hsr:g.status= .running) (hq:∀r,D[i]?=some r->r.quiet=false):oC E Fin L0 K D pend cl o m os main d0 gs w sl t (i+1):=by
 obtain⟨⟨L,l,hb,hs,hp⟩,hm,hd,fw⟩:=h;have ei:i <D.length:=by have:=lt_size hg;have:=hb.size;omega
 have hD:D[i]?=some D[i]:=ai ei;have hq:=hq _ hD;obtain⟨x,hx,dL⟩:=hb.ok i _ hD;obtain rfl:x=g:=by rw[hg] at hx;exact(aK hx).symm
 generalize D[i]=r at hD dL hq
 match r,hD,dL,hq with
 | .leave q d c,hD,_,_=>exact dC.leave hb hs hp hm hd fw hD hg hsr
 | .work ls (.node f),hD,_,_=>exact dC.work hb hs hp hm hd fw hD hg
 | .work ls .leaf,_,_,hq=>cases hq
 | .lk x (n+1) it ls,hD,_,_=>exact dC.aFV hb hs hp hm hd fw hD hg
 | .lk x 0 it ls,hD,dL,_=>
  by_cases hS:x.Gl=true
  .by_cases oK:m=1
   .exact dC.aBg hb hs hp hm hd fw hD hg hsr (by cases x<;>first|rfl|cases hS) λ_=>oK
   exact dC.block hb hs hp hm hd fw hD hg hsr hS oK
  by_cases hla:∃k,x= .la k
  .obtain⟨k,rfl⟩:=hla;exact dC.la hb hs hp hm hd fw hD hg
  have h1:=dL.1;exact dC.aBg hb hs hp hm hd fw hD hg hsr (by cases x<;>first|rfl| (cases h1;done)|exact absurd ⟨_,rfl⟩ hla) λe=>absurd e hS
 | .xC it ls l1 tr0,hD,_,_=>exact dC.xC hb hs hp hm hd fw hD hg
 | .post ls (.node f),hD,_,_=>exact dC.post hb hs hp hm hd fw hD hg
 | .post ls .leaf,_,_,hq=>cases hq
 | .ul x (n+1) ls,hD,_,_=>exact dC.aDY hb hs hp hm hd fw hD hg
 | .ul x 0 ls,hD,dL,_=>
  by_cases hue:∃k,x= .ue k
  .obtain⟨k,rfl⟩:=hue;exact dC.ue hb hs hp hm hd fw hD hg
  have h1:=dL.1;exact dC.aNu hb hs hp hm hd fw hD hg (by cases x<;>first|rfl| (cases h1;done)|exact absurd ⟨_,rfl⟩ hue)
 | .st k (n+1),hD,_,_=>exact dC.adp hb hs hp hm hd fw hD hg
 | .st .r0 0,hD,_,_=>exact dC.r0 hb hs hp hm hd fw hD hg
 | .st .k1 0,hD,_,_=>exact dC.k1 hb hs hp hm hd fw hD hg
 | .st .d1 0,hD,_,_=>exact dC.d1 hb hs hp hm hd fw hD hg
 | .st .d2 0,hD,_,_=>exact dC.d2 hb hs hp hm hd fw hD hg
 | .st .d3 0,hD,_,_=>exact dC.d3 hb hs hp hm hd fw hD hg
 | .st .d4 0,hD,_,_=>exact dC.d4 hb hs hp hm hd fw hD hg
def dC.norm(h:dC E Fin L0 K gs w t D pend cl o m os main d0)(hi:D[i]?=some r) (hq:r.quiet=true):
 ∃K' D',dC E Fin L0 K' gs w t D' pend cl o m os main d0/\K' 0=K 0/\e8 aP.cnt D'<=e8 aP.cnt D/\∀c n,CM ⟨D',o,m,c,n⟩ ⟨D,o,m,c,n⟩:=by
 obtain⟨L,l,hb,hs,hp⟩:=h.bs;obtain⟨g,hg,dL⟩:=hb.ok i _ hi;have fin:∀(r':aP ι) (s':St),s'.le (K (i+1))->(ki E t (i+1) (K (i+1)) g r->ki E t (i+1) s' g r')->(r'.cnt=r.cnt/\r'.c4=r.c4/\r'.c3=r.c3/\r'.c2=r.c2)->r'.A4=r.A4->(qL (D.map aP.qR) o m->qL ((D.set i r').map aP.qR) o m)->
  r.iN=false->r'.iN=false->(r.tok=true->r'.tok=true)->r.left=false->r'.qR.Jw=r.qR.Jw->tN o r' r->
  ∃K' D',dC E Fin L0 K' gs w t D' pend cl o m os main d0/\K' 0=K 0/\e8 aP.cnt D'<=e8 aP.cnt D/\∀c n,CM ⟨D',o,m,c,n⟩ ⟨D,o,m,c,n⟩:=by
  intro r' s' h1 h2 h3 h4 h5 h6 h7 h8 h9 wq yX;refine⟨_,_,h.aEu hi hg h1 h2 h3 h4 h5 h6 h7 h8 h9,bz _ _ (by omega),?_,λc n=> .d ?_ rfl (One.set hi yX)⟩
  .have:=kR aP.cnt (y:=r') hi;simp only[e8];omega
  have:=vU hi r' m;show Ek (D.set i r') m<=Ek D m;omega
 have hr:r= .work [] .leaf\/(∃it ls,r= .work (it::ls) .leaf)\/∃ls,r= .post ls .leaf:=by
  cases r with
  |work ls tr=>cases tr with
   |leaf=>cases ls with
    |nil=>exact .inl rfl
    |cons a b=>exact .inr (.inl ⟨a,b,rfl⟩)
   |node f=>cases hq
  |post ls tr=>cases tr with
   |leaf=>exact .inr (.inr ⟨ls,rfl⟩)
   |node f=>cases hq
  |_=>cases hq
 clear hq;rcases hr with rfl| ⟨it,ls,rfl⟩| ⟨ls,rfl⟩
 .obtain⟨od,n,hpu⟩:=dL;exact fin (.st .r0 n) ⟨λ_=>none,[]⟩ ⟨(K (i+1)).rw,by simp,λb o hb=>(by cases hb)⟩ (λ_=>⟨rfl,od,hpu,λe=>by cases e⟩) ⟨rfl,rfl,rfl,rfl⟩ rfl (λh=>PY (r:= .work [] .leaf) h rfl hi) rfl rfl (λe=>by cases e) rfl rfl (eG (by simp[aP.mu,WK.kB]))
 .obtain⟨od,c,cs,n,hpu,abf⟩:=dL;refine fin (.lk (.ld ls.length) n it ls) (K (i+1)) (St.le_refl _) (λ_=>⟨rfl,rfl,od,c,cs,abf,.inl hpu⟩) ⟨rfl,rfl,rfl,rfl⟩ rfl (λh=>?_) rfl rfl (λe=>by cases e) rfl ?_ (eG (by simp[aP.mu,cu.kB]))
  .rw[Dh];exact h.step (Aa.aat hi) .out
  simp only[aP.qR,cu.Jw,aJ];omega
 obtain⟨od,l1,_,c,cs,n,hpu,Ap,KJ⟩:=dL;refine fin (.ul (.ui ls.length) n ls) (K (i+1)) (St.le_refl _) (λ_=>⟨rfl,rfl,od,c,cs,hpu,Ap,KJ⟩) ⟨rfl,rfl,rfl,rfl⟩ rfl (λh=>?_) rfl rfl (λe=>rfl) rfl rfl (eG (by simp[aP.mu,cu.kB]));rw[Dh];exact h.step (Aa.aat hi) .own
theorem n8.at(h:n8 E L K gs w t D)(d:Nat):n8 E L K gs (w.at d) t D:=⟨h.fit.at d,h.size,h.ok,h.far,h.ops,h.same⟩
theorem dC.at(h:dC E Fin L0 K gs w t D pend cl o m os main d0)(d:Nat):dC E Fin L0 K gs (w.at d) t D pend cl o m os main d0:=by
 obtain⟨⟨L,l,hb,hs,hp⟩,hm,hd,fw⟩:=h;exact⟨⟨L,l,hb.at d,⟨hs.kW,hs.kM,hs.lW,hs.lM,hs.lH,hs.ne,hs.norel,hs.plain,hs.said,hs.cells,hs.oZ,hs.mu,hs.mi,hs.aag,hs.ei,hs.nH,hs.Uc,hs.gu⟩,hp⟩,hm,hd,fw⟩
def dC.le0(h:dC E Fin L0 K gs w t D pend cl o m os main d0){s:St}(hl:s.le (K 0)):dC E Fin L0 (gV K 0 s) gs w t D pend cl o m os main d0:=by
 obtain⟨⟨L,l,hb,hs,hp⟩,hm,hd,fw⟩:=h;have hle:∀j,(gV K 0 s j).le (K j):=λj=>by
  by_cases e:j=0
  .subst e;rw[aV];exact hl
  rw[bz _ _ e];exact St.le_refl _
 refine⟨⟨L,l,⟨hb.fit.le hle,hb.size,λk r hk=>by rw[bz _ _ (by omega)];exact hb.ok k r hk,λk hk b h=>hb.far k hk b ((hle k).knows h),hb.ops,hb.same⟩,
  ⟨λj hj=>hs.kW j ((hle j).knows hj),λj hj=>hs.kM j ((hle j).knows hj),hs.lW,hs.lM,hs.lH,hs.ne,hs.norel,hs.plain,hs.said,hs.cells,hs.oZ,hs.mu,hs.mi,hs.aag,hs.ei,λj hj=>hs.nH j ((hle j).owns hj),λj x hx=>?_,?_⟩,hp⟩,hm,hd,fw⟩
 .rcases(hle j).bU (by rw[hx];simp) with h6|h6
  .exact hs.Uc j x (by rw[<-h6];exact hx)
  exact absurd h6 (hs.nH j)
 rcases hs.gu with h1| ⟨h1,v,X,h2,h3,h4,h5⟩
 .exact .inl h1
 exact .inr ⟨h1,v,X,h2,h3,λb o hb=>⟨(h4 b o hb).1,(h4 b o hb).2.1,(h4 b o hb).2.2.1,λj hj=>(h4 b o hb).2.2.2 j ((hle j).knows hj)⟩,h5⟩
def dC.awake(h:dC E Fin L0 K gs w t D pend cl o m os main d0):∀x∈gs,Go.Conc.awake x:=by
 obtain⟨⟨L,l,hb,hs,hp⟩,hm,hd,fw⟩:=h;intro x hx;obtain⟨j,hj,rfl⟩:=Array.mem_iff_getElem.1 hx;have hj':gs[j]?=some gs[j]:=tO hj;intro k;cases j with
 |zero=>
  rw[hm] at hj';rw[<-aK hj']
  match cl,fw with
  |none,h=>rw[show main.status= .running from h];simp
  |some (c,n),⟨h,_⟩=>
   by_cases e:c= .blk
   .subst e;obtain⟨_,lu,_,rfl⟩:=h;simp
   rw[h.running e];simp
 |succ j=>
  have ei:j <D.length:=by have:=hb.size;omega
  obtain⟨y,hy,dL⟩:=hb.ok j _ (ai ei);rw[hj'] at hy;rw[aK hy];rcases dL.running with (e|e)| ⟨_,_,_,_,_,lu,_,_,_,e⟩
  .rw[e];simp
  .rw[e];simp
  rw[e];simp
def dC.alive(h:dC E Fin L0 K gs w t D 0 cl o m os main d0):∃(i:Nat) (x:Goroutine),gs[i]?=some x/\x.status= .running:=by
 obtain⟨⟨L,l,hb,hs,hp⟩,hm,hd,fw⟩:=h;have wk:∀(k:Nat) (r:aP ι),D[k]?=some r->(r.cnt=1\/r.c4=1\/r.c3=1\/r.c2=1)->r.qR.Gl=false\/m=1->∃(i:Nat) (x:Goroutine),gs[i]?=some x/\x.status= .running:=λk r hk hc hS=>by
  obtain⟨y,hy,dL⟩:=hb.ok k r hk;rcases dL.running with (e|e)| ⟨x,it,ls,rfl,hx,lu,_,_,_,e⟩
  .exact⟨_,y,hy,e⟩
  .exfalso;cases r with
   |leave q d c=>simp[aP.cnt,aP.c4,aP.c3,aP.c2] at hc
   |work ls tr=>have:=qw.running (λ_ _ x=>fY.Stp.running x) dL.2;rw[e] at this;cases this
   |lk x n it ls=>
    obtain⟨_,_,_,c,cs,_,h1| ⟨_,_,lu,_,h4⟩⟩:=dL
    .have:=fY.pu.running h1;rw[e] at this;cases this
    rw[h4] at e;cases e
   |xC it ls l1 tr=>have:=tJ.running (λ_ _ x=>fY.Unl.running x) dL.2.2.2;rw[e] at this;cases this
   |post ls tr=>obtain⟨_,_,h⟩:=dL;have:=tJ.running (λ_ _ x=>fY.Unl.running x) h;rw[e] at this;cases this
   |ul x n ls=>
    obtain⟨_,_,_,c,cs,h1,_⟩:=dL;have:=fY.pu.running h1;rw[e] at this;cases this
   |st k n=>have:=Pure.running (WK.running k) dL.2.2.1;rw[e] at this;cases this
  rcases hS with h1|h1
  .simp only[aP.qR] at h1;rw[hx] at h1;cases h1
  exact absurd (by rw[e]) (hs.aag h1 k y hy)
 match cl,fw with
 |none,h=>exact⟨0,main,hm,h⟩
 |some (c,n),⟨h,_⟩=>
  by_cases e:c= .blk
  .subst e;obtain⟨st,sm,_,j7⟩:=hs.cells;have agK:∀(f:aP ι->Nat),(∀r,f r<=1)->1<=e8 f D->∃(k:Nat) (r:aP ι),D[k]?=some r/\f r=1:=λf hf h1=>by
    refine ia λhn=>?_;have:e8 f D=0:=xL f λr hr=>by
     obtain⟨k,hk⟩:=dV hr;have h2:=hf r;rcases Dr 0 (f r) with h3|h3
     .exact absurd ⟨k,r,hk,by omega⟩ hn
     omega
    omega
   have nS4:∀r:aP ι,(r.c4=1\/r.c3=1\/r.c2=1)->r.qR.Gl=false:=λr hr=>by
    cases r<;>first|rfl| (simp[aP.c4,aP.c3,aP.c2] at hr)
   simp only[dD,ug] at j7;generalize hc:some CK.blk=oc at j7;generalize hn:e8 aP.cnt D=N at j7;generalize h4:e8 aP.c4 D=N4 at j7;generalize h3:e8 aP.c3 D=N3 at j7;generalize h2:e8 aP.c2 D=N2 at j7;cases j7 with
   |start=>cases hc
   |kd=>cases hc
   |w1 _=>cases hc
   |w2 _ _ _=>cases hc
   |reg _ h1=>
    obtain⟨k,r,hk,hr⟩:=agK aP.cnt (λr=>by cases r<;>first|exact bk _|exact bQ _| (rename_i k n;cases k<;>first|exact bk _|exact bQ _)) (by omega);cases hrS:r.qR.Gl with
    |false=>exact wk k r hk (.inl hr) (.inl hrS)
    |true=>
     by_cases oK:m=1
     .exact wk k r hk (.inl hr) (.inr oK)
     have hz:m=0:=by have:=(hs.few hb).2;omega
     have hmi:=hs.mi;rw[hz] at hmi;obtain⟨k1,sv,e1⟩:∃k sv,r.qR= .s1 k sv:=by
      cases hl:r.qR<;>rw[hl] at hrS<;>first| (cases hrS;done)|exact⟨_,_,rfl⟩
     obtain⟨y,hy,are⟩:=hmi.live (k:=k1) (sv:=sv) (a8.2 ⟨r,aj hk,e1⟩);obtain⟨r2,B6,rfl⟩:=a8.1 hy;obtain⟨k2,iu⟩:=dV B6;refine wk k2 r2 iu ?_ (.inl ?_)
     .cases r2<;>first|exact .inl rfl|exact are.elim
     cases hl:r2.qR<;>rw[hl] at are<;>first|rfl|exact are.elim
   |l4 _=>
    obtain⟨k,r,hk,hr⟩:=agK aP.c4 (λr=>by cases r<;>first|exact bQ _| (rename_i k n;cases k<;>first|exact bk _|exact bQ _)) (by omega);exact wk k r hk (.inr (.inl hr)) (.inl (nS4 r (.inl hr)))
   |l3 _=>
    obtain⟨k,r,hk,hr⟩:=agK aP.c3 (λr=>by cases r<;>first|exact bQ _| (rename_i k n;cases k<;>first|exact bk _|exact bQ _)) (by omega);exact wk k r hk (.inr (.inr (.inl hr))) (.inl (nS4 r (.inr (.inl hr))))
   |l2 _=>
    obtain⟨k,r,hk,hr⟩:=agK aP.c2 (λr=>by cases r<;>first|exact bQ _| (rename_i k n;cases k<;>first|exact bk _|exact bQ _)) (by omega);exact wk k r hk (.inr (.inr (.inr hr))) (.inl (nS4 r (.inr (.inr hr))))
   |sema _ h1=>cases hc;exact absurd rfl h1
   |over h1=>cases hc;exact h1.elim
  exact⟨0,main,hm,h.running e⟩
end
section
variable {ι:Type} {E:fY ι} {Fin:Goroutine->Prop}
variable {L0 L L':Nat->Option Obj} {K:Nat->St} {gs:Array Goroutine} {w w':World} {t u:Trace} {D:List (aP ι)} {pend iv nw d0:Nat} {cl cl':yI} {o:Wd} {m:Nat} {l os:List ι} {main:Goroutine} {sl:Option (Nat×Nat)}
 {i:Nat} {r r':aP ι} {g g':Goroutine} {s s':St} {es:Array Event}
def Guard.apk(h:Guard E L0 L K n w t D l)(hk:∀b,L b≠none->¬(K 0).knows b->¬s'.knows b)(hH:w'.heap[E.Hb]?=w.heap[E.Hb]?)
 (hnt:∀op∈u,∀x,op.act.touch?=some x->¬oQ E.Hb x.loc/\∀b,blk x.loc=some b->L b≠none->(K 0).knows b):Guard E L0 L (gV K 0 s') n w' (t++u) D l:=by
 rcases h with h| ⟨wX,v,X,h1,h2,h3,h4,h5,h6⟩
 .exact .inl h
 refine .inr ⟨wX,v,X,h1,h2,λb o hb=>⟨(h3 b o hb).1,(h3 b o hb).2.1,(h3 b o hb).2.2.1,λj=>?_⟩,h4,by rw[hH];exact h5,λp x hx hg=>?_⟩
 .by_cases e:j=0
  .subst e;rw[aV];exact hk b (by rw[(h3 b o hb).1];simp) ((h3 b o hb).2.2.2 _)
  rw[bz _ _ e];exact(h3 b o hb).2.2.2 j
 have mO:touchAt t p=some x:=by
  rcases cm hx with ⟨_,h'⟩| ⟨_,op,hm,_,vI⟩
  .exact h'
  obtain⟨k1,k2⟩:=hnt op hm x vI;rcases hg with ⟨b,o,hb,Yl⟩|hh
  .exact absurd (k2 b Yl (by rw[(h3 b o hb).1];simp)) ((h3 b o hb).2.2.2 _)
  exact absurd hh k1
 rcases h6 p x mO hg with h7|h7| ⟨j,y,hj,hy,ep⟩
 .exact .inl ⟨h7.1.app u,λk y hk hy=>(h7.2 k y hk hy).app u⟩
 .exact .inr (.inl (h7.app u))
 exact .inr (.inr ⟨j,y,hj,hy,ep.app u⟩)
def dC.go0(hb:n8 E L K gs w t D)(hs:Aa E L0 L K gs w t D pend cl o m l)(hp:E.UX (l++jW D) os)(hm:gs[0]?=some g) (hd:Deaf t 0=d0)
 (hgo:stepG E.P true g w= .go g' w' es) (hue:MemOp.ofEvents 0 g.frame.fn g.frame.place es=u) (Gm:mQ w w') (fq:¬s'.knows E.Wg) (rF:¬s'.knows E.Mu) (hs3:¬s'.owns E.Hb) (hsh:∀x,s'.ro E.Hb=some x->x=E.hole)
 (ov:Fit L (gV K 0 s') w' (t++u)) (hM:w'.heap[E.Mu]?=w.heap[E.Mu]?) (hH:w'.heap[E.Hb]?=w.heap[E.Hb]?)
 (oJ:∀op∈u,∀x,op.act.touch?=some x->E.At x->x.kind≠ .plain) (jU:∀op∈u,∀a,op.act≠ .mark (.release a))
 (hnt:∀op∈u,∀x,op.act.touch?=some x->¬oQ E.Hb x.loc/\∀b,blk x.loc=some b->L b≠none->(K 0).knows b) (ep:∀b,L b≠none->¬(K 0).knows b->¬s'.knows b)
 (j5:∃st sm,WgAt E.ty E.Wg w' st sm/\Md E.max (e8 aP.cnt D+iv) (e8 aP.c4 D) (e8 aP.c3 D) (e8 aP.c2 D) (cl'.map (·.1)) st sm) (wY:e8 aP.cnt D+iv<=E.max) (fw:rC E Fin g' (deafBehind d0 es) cl'):
 ∃jN,runT E.P (crowd gs w sl) 0=(.next (crowd jN w' sl),u)/\dC E Fin L0 (gV K 0 s') jN w' (t++u) D iv cl' o m os g' (deafBehind d0 es):=by
 have C2:∀op∈u,op.g=0:=by rw[<-hue];exact λop aX=>Go.ConcR.g_of_ofEvents op aX
 have dz:=runT_crowd_go (P:=E.P) (sl:=sl) (i:=0) hm (by simpa using hgo);have hdo:Deaf (t++u) 0=deafBehind d0 es:=by rw[<-hue,Deaf_own,hd]
 rw[hue] at dz;have eA:∀k,∀op∈u,op.g≠k+1:=λk op aX=>by rw[C2 op aX];omega
 have Gp:∀b,¬s'.knows b->(∀j,¬(K j).knows b)->∀j,¬(gV K 0 s' j).knows b:=λb h1 h2 j=>by
  by_cases e:j=0
  .subst e;rw[aV];exact h1
  rw[bz _ _ e];exact h2 j
 have aq0:((gs.map (woken E.P g g' w')).setIfInBounds 0 g').size=gs.size:=by simp
 refine⟨_,dz,⟨⟨L,l,⟨ov,by simp[hb.size],λk r hk=>?_,λk hk b h=>?_,λop aX=>?_,⟨hb.same.1.trans Gm.1,Gm.2.trans hb.same.2⟩⟩,
  ⟨Gp _ fq hs.kW,Gp _ rF hs.kM,hs.lW,hs.lM,hs.lH,hs.ne,λa=>(hs.norel a).app λop aX=>jU op aX a,λj hj p x hx mB hk=>?_,λp x hx mB hk=>?_,j5,wY,by unfold MuAt;rw[hM];exact hs.mu,hs.mi,λoK k x hx=>?_,?_,λj=>?_,λj x hx=>?_,by rw[aq0];exact hs.gu.apk ep hH hnt⟩,hp⟩,?_,hdo,fw⟩⟩
 .obtain⟨x,hx,dL⟩:=hb.ok k r hk;rw[bz _ _ (by omega)];exact⟨_,iA (by omega) hx,(dL.other (eA k) λ_ op aX x hx=>(hnt op aX x hx).1).woken _ _ _⟩
 .rw[jC,Mj] at hk;have:=hb.size;rw[bz _ _ (by omega)] at h;exact hb.far k hk b h
 .rw[jC,Mj];rcases oU.1 aX with h'|h'
  .exact hb.ops op h'
  rw[C2 op h',hb.size];omega
 .rcases cm hx with ⟨_,mO⟩| ⟨_,op,Qt,_,vI⟩
  .exact(hs.plain j hj p x mO mB hk).app u
  exact absurd hk (oJ op Qt x vI mB)
 .rcases cm hx with ⟨_,mO⟩| ⟨pU,op,Qt,aX,vI⟩
  .exact(hs.said p x mO mB hk).app u
  exact E9 C2 pU aX
 .have aHQ:k <D.length:=by have h3:=lt_size hx;have:=hb.size;simp at h3;omega
  obtain⟨y,hy,dL⟩:=hb.ok k _ (ai aHQ);rw[iA (by omega) hy] at hx;cases hx;have h3:=hs.aag oK k y hy;have:Go.Conc.woken E.P g g' w' y=y:=by
   unfold Go.Conc.woken;split
   .rcases dL.running with h4| ⟨_,_,_,_,_,lu,_,_,_,h5⟩
    .exact again_running _ h4
    rw[h5] at h3;exact absurd rfl h3
   rfl
  rw[this];exact h3
 .have hl:=hs.ei;have h1:w.heap[E.Hb]?=some (w.heap[E.Hb]'hl):=tO hl;rw[<-hH] at h1;exact lt_size h1
 .by_cases e:j=0
  .subst e;rw[aV];exact hs3
  rw[bz _ _ e];exact hs.nH j
 .by_cases e:j=0
  .subst e;rw[aV] at hx;exact .inl (hsh x hx)
  rw[bz _ _ e] at hx;exact hs.Uc j x hx
 have:=hb.size;rw[oV (by simp;omega)]
theorem Aa.aa1(hs:Aa E L0 L K gs w t D pend cl o m l):∀x,(K 0).ro E.Hb=some x->x=E.hole:=λx hx=>by
 rcases hs.Uc _ x hx with h1| ⟨k,y,e,_⟩
 all_goals grind
def Aa.aKk(hs:Aa E L0 L K gs w t D pend cl o m l)(hw:w'.heap[E.Wg]?=w.heap[E.Wg]?):∃st sm,WgAt E.ty E.Wg w' st sm/\Md E.max (e8 aP.cnt D+pend) (e8 aP.c4 D) (e8 aP.c3 D) (e8 aP.c2 D) (cl.map (·.1)) st sm:=by
 obtain⟨st,sm,ha,h⟩:=hs.cells;exact⟨st,sm,by unfold WgAt;rw[hw];exact ha,h⟩
theorem dC.ane(hb:n8 E L K gs w t D)(hs:Aa E L0 L K gs w t D pend cl o m l)(hp:E.UX (l++jW D) os)(hm:gs[0]?=some g) (hd:Deaf t 0=d0)
 (hgo:stepG E.P true g w= .go g' w' es) (hw:ek E.oO w w') (nJ:∀e∈es,u3 E.Wg e)
 (j5:∃st sm,WgAt E.ty E.Wg w' st sm/\Md E.max (e8 aP.cnt D+iv) (e8 aP.c4 D) (e8 aP.c3 D) (e8 aP.c2 D) (cl'.map (·.1)) st sm) (wY:e8 aP.cnt D+iv<=E.max) (fw:rC E Fin g' (deafBehind d0 es) cl'):
 ∃jN u,runT E.P (crowd gs w sl) 0=(.next (crowd jN w' sl),u)/\dC E Fin L0 K jN w' (t++u) D iv cl' o m os g' (deafBehind d0 es):=by
 have ho:=u3.ops nJ 0 g.frame.fn g.frame.place;have h1:=dC.go0 (sl:=sl) (Fin:=Fin) (s':=K 0) (cl':=cl') (iv:=iv) hb hs hp hm hd hgo rfl ⟨by rw[hw.same.1];exact OsLater.refl _,hw.same.2⟩ (hs.kW 0) (hs.kM 0) (hs.nH 0) hs.aa1
  (by rw[kE];exact hs.vX hb.fit (.inl rfl) (.inl rfl) hw.size hw.block nJ _ _) (hw.block _ (jz hs.ne.1)) (hw.block _ hs.ne.2.1) (λop aX x hx _=>by rw[((ho op aX).2.2 x hx).2];simp) (λop aX=>(ho op aX).2.1)
  (λop aX x hx=>⟨λ⟨a,ea,e1,_⟩=>by
   have:=((ho op aX).2.2 x hx).1;rw[ea] at this;simp only[blk,aB] at this;exact hs.ne.2.1 (by omega),λb mB hl=>by
   have:=((ho op aX).2.2 x hx).1;rw[mB] at this;cases this;exact absurd hs.lW hl⟩) (λ_ _ h=>h) j5 wY fw
 grind [kE]
def dC.aAG(hb:n8 E L K gs w t D)(hs:Aa E L0 L K gs w t D pend cl o m l)(hp:E.UX (l++jW D) os)(hm:gs[0]?=some g) (hd:Deaf t 0=d0) {k:Mark} {wr:Bool} (hk:(k= .read (smA E.Wg)/\wr=false)\/(k= .write (smA E.Wg)/\wr=true))
 (hgo:stepG E.P true g w= .go g' w #[said k])
 (j5:∃st sm,WgAt E.ty E.Wg w st sm/\Md E.max (e8 aP.cnt D+iv) (e8 aP.c4 D) (e8 aP.c3 D) (e8 aP.c2 D) (cl'.map (·.1)) st sm) (wY:e8 aP.cnt D+iv<=E.max) (fw:rC E Fin g' d0 cl'):
 ∃jN u,runT E.P (crowd gs w sl) 0=(.next (crowd jN w sl),u)/\dC E Fin L0 K jN w (t++u) D iv cl' o m os g' d0:=by
 have e1:MemOp.ofEvents 0 g.frame.fn g.frame.place #[said k]= #[{g:=0,fn:=g.frame.fn,pos:=g.frame.place,act:= .mark k}]:=by rw[ofEvents_eq];simp[said,Go.ConcR.ofEvent_mk]
 have hu:∀op∈MemOp.ofEvents 0 g.frame.fn g.frame.place #[said k],op.g=0/\op.act= .mark k:=by rw[e1];intro op aX;simp at aX;subst aX;exact⟨rfl,rfl⟩
 have htc:∀op∈MemOp.ofEvents 0 g.frame.fn g.frame.place #[said k],∀x,op.act.touch?=some x->x=⟨.cell (smA E.Wg),wr,.said⟩:=λop aX x hx=>by
  rw[(hu op aX).2] at hx;rcases hk with ⟨rfl,rfl⟩| ⟨rfl,rfl⟩<;>(simp only[MemAct.touch?,aB] at hx;exact hx.symm)
 obtain⟨st,sm,ha,_⟩:=hs.cells;have hde:deafBehind d0 #[said k]=d0:=by rcases hk with ⟨rfl,_⟩| ⟨rfl,_⟩<;>rfl
 have h1:=dC.go0 (sl:=sl) (Fin:=Fin) (s':=K 0) (cl':=cl') (iv:=iv) hb hs hp hm hd hgo rfl (mQ.refl w) (hs.kW 0) (hs.kM 0) (hs.nH 0) hs.aa1
  (by
   rw[kE];refine hb.fit.beside E.Wg 0 hs.kW hs.lW (lt_size ha) (bk _) (λ_ _ _=>rfl) (λop aX=>(hu op aX).1) λop aX x hx=>?_;obtain rfl:=htc op aX x hx;refine⟨rfl,λsd p a wo hc=>?_⟩;have hl:blk a.loc=some E.Wg:=by rw[hc.1];rfl
   rcases hc.2.2.2 with h3|h3|h3
   .exact hs.plain 0 (.inl rfl) p a wo (.inl hl) h3
   .cases h3
   exact hs.said p a wo hl h3.2.1) rfl rfl (λop aX x hx _=>by obtain rfl:=htc op aX x hx;simp) (λop aX a=>by rw[(hu op aX).2];rcases hk with ⟨rfl,_⟩| ⟨rfl,_⟩<;>simp)
  (λop aX x hx=>⟨λ⟨a,ea,e1,_⟩=>by
   obtain rfl:=htc op aX x hx;cases ea;exact hs.ne.2.1 e1.symm,λb mB hl=>by
   obtain rfl:=htc op aX x hx;cases mB;exact absurd hs.lW hl⟩) (λ_ _ h=>h) j5 wY (by rw[hde];exact fw)
 obtain⟨jN,h2,h3⟩:=h1;rw[kE,hde] at h3;exact⟨jN,_,h2,h3⟩
def TG(E:fY ι)(Fin:Goroutine->Prop)(L0:Nat->Option Obj)(Q:Machine->Outcome->World->Trace->Prop)(pend nw:Nat)(os:List ι)(d0:Nat)(g:Goroutine)(s:St):Prop:=
 ∀K gs w t D o m sl,dC E Fin L0 K gs w t D pend none o m os g d0->e8 aP.cnt D<=nw->s.le (K 0)->Ends E.P Q (crowd gs w sl) t
variable {Q:Machine->Outcome->World->Trace->Prop}
def TG.mono(hl:s.le s')(h:TG E Fin L0 Q pend nw os d0 g s):TG E Fin L0 Q pend nw os d0 g s':=λK gs w t D o m sl hI hn hle=>h K gs w t D o m sl hI hn (hl.trans hle)
def HY(hs:g.status= .running)
 (h:∀K gs w t D o m sl mm,dC E Fin L0 K gs w t D pend none o m os g d0->e8 aP.cnt D<=nw->K 0=s->stepT E.P mm=runT E.P (crowd gs w sl) 0->Ends E.P Q mm t):TG E Fin L0 Q pend nw os d0 g s:=by
 intro K gs w t D o m sl hI hn hle;have key:∀μ:GM ι,μ.c=mb E.max none->∀K gs w t sl,μ.r=runN gs->dC E Fin L0 K gs w t μ.D pend none μ.o μ.m os g d0->e8 aP.cnt μ.D<=nw->K 0=s->Ends E.P Q (crowd gs w sl) t:=by
  intro μ
  induction μ using CM.wf.induction with
  |_ μ ih=>
   obtain⟨D,o,m,c,rn⟩:=μ;intro hc K gs w t sl hr hI hn hK;simp only at hc hr hI hn;subst hc hr;obtain⟨i,dq,d,J4,cR,CE,dt⟩:=crowd_pick (P:=E.P) (gs:=gs) (w:=w) (sl:=sl) hI.awake ⟨0,g,hI.aSP,hs⟩;have Cb:=hI.at d;cases i with
   |zero=>exact h K gs _ t D o m J4 _ Cb hn hK dt
   |succ i=>
    by_cases hq:∀r,D[i]?=some r->r.quiet=false
    .obtain⟨K',jN,w',u,D',cl',o',m',main',hr,F3,kU,hmn,kp,Uk,ei⟩:=Cb.other (sl:=J4) cR CE hq;have h1:=hmn hs;subst h1;have h2:=kp.1 rfl;subst h2;exact Ends.next (dt.trans hr) (ih ⟨D',o',m',mb E.max none,runN jN⟩ ei rfl K' jN w' _ J4 rfl F3 (bZ Uk hn) (kU.trans hK))
    obtain⟨r,hr⟩:=Classical.not_forall.1 hq;obtain⟨Ff,B6⟩:=Classical.not_imp.1 hr;obtain⟨K',D',F3,kU,Uk,ei⟩:=hI.norm Ff (by simpa using B6);exact ih ⟨D',o,m,mb E.max none,runN gs⟩ (ei _ _) rfl K' gs w t sl rfl F3 (bZ Uk hn) (kU.trans hK)
 exact key ⟨D,o,m,mb E.max none,runN gs⟩ rfl _ gs w t sl rfl (hI.le0 hle) hn (aV _ _ _)
def AO:Closed E.P true (TG E Fin L0 Q pend nw os 0) where
 step:=λg s hs h=>HY hs λK gs w t D o m sl mm hI hn hK hmm=>by
  subst hK;obtain⟨⟨L,l,hb,pg,hp⟩,hm,hd,fw⟩:=hI;obtain⟨g',w',es,s',hgo,dz,ht,hT⟩:=h w (hb.fit.ny 0);have k:=pg.x6 hb.fit ht g.frame.fn g.frame.place;have hde:=ht.deaf 0;obtain⟨jN,h2,h3⟩:=dC.go0 (sl:=sl) (Fin:=Fin) (s':=s') (cl':=none) (iv:=pend) hb pg hp hm hd hgo rfl (mQ.Z0 ht) k.nW k.nM k.nH (λx hx=>pg.aa1 x (k.ro x hx)) (hb.fit.own ht _ _) k.hM k.hH (λop aX x hx mO=>absurd mO (k.touch op aX x hx)) k.rel
   (λop aX x hx=>⟨k.hole pg.aa1 op aX x hx,k.tk op aX x hx⟩) k.kn (pg.aKk k.hW) pg.oZ dz
  rw[hde] at h3;exact Ends.next (hmm.trans h2) (hT _ jN w' _ D o m sl h3 hn (by rw[aV];exact St.le_refl _))
 mono:=λg s s' hl h=>h.mono hl
def Md.count{a b c:Nat}(h:Md mx n a b c none st sm):st=(n:Int)*KK/\sm=0:=by
 cases h with
 |start=>simp
 |_=>rfl
def Aa.aA4(hs:Aa E L0 L K gs w t D pend none o m l):e8 aP.c4 D=0/\e8 aP.c3 D=0/\e8 aP.c2 D=0:=by
 obtain⟨st,sm,_,h⟩:=hs.cells;generalize e8 _ D+pend=n at h;generalize e8 aP.c4 D=a at h ⊢;generalize e8 aP.c3 D=b at h ⊢;generalize e8 aP.c2 D=c at h ⊢;cases h with
 |start=>simp
 |_=>cases ho
def Vl{iv d':Nat}(hs:g.status= .running)(vo:nw+iv<=E.max)
 (h:∀v,v<=nw->∃g' es,(∀w,WgAt E.ty E.Wg w (((v+pend:Nat):Int)*KK) 0->∃w',stepG E.P true g w= .go g' w' es/\ek E.oO w w'/\WgAt E.ty E.Wg w' (((v+iv:Nat):Int)*KK) 0)/\(∀e∈es,u3 E.Wg e)/\deafBehind d0 es=d'/\g'.status= .running/\
  TG E Fin L0 Q iv nw os d' g' s):TG E Fin L0 Q pend nw os d0 g s:=by
 refine HY hs λK gs w t D o m sl mm hI hn hK hmm=>?_;subst hK;obtain⟨⟨L,l,hb,pg,hp⟩,hm,hd,fw⟩:=hI;obtain⟨st,sm,ha,j7⟩:=pg.cells;obtain⟨rfl,rfl⟩:=Md.count j7;obtain⟨g',es,h1,h2,h3,h4,h5⟩:=h _ hn;obtain⟨w',hgo,htu,wo⟩:=h1 w ha;obtain⟨e4,e3,e2⟩:=pg.aA4;obtain⟨jN,u,k1,k2⟩:=dC.ane (sl:=sl) (Fin:=Fin) (cl':=none) (iv:=iv) hb pg hp hm hd hgo htu h2 ⟨_,_,wo,by rw[e4,e3,e2];exact .start⟩ (by omega) h4;rw[h3] at k2;exact Ends.next (hmm.trans k1) (h5 _ jN w' _ D o m sl k2 hn (St.le_refl _))
def agA(hs:g.status= .running)(pg:g'.status= .running)(dt:∀w,E.oO.live w->stepG E.P true g w= .go g' w #[])(hT:TG E Fin L0 Q pend nw os d0 g' s):TG E Fin L0 Q pend nw os d0 g s:=by
 refine HY hs λK gs w t D o m sl mm hI hn hK hmm=>?_;subst hK;obtain⟨⟨L,l,hb,aeJ,hp⟩,hm,hd,fw⟩:=hI;obtain⟨st,sm,ha,j7⟩:=aeJ.cells;obtain⟨jN,u,k1,k2⟩:=dC.ane (sl:=sl) (Fin:=Fin) (cl':=none) hb aeJ hp hm hd (dt w ⟨st,sm,ha⟩) (ek.refl w) (by simp) ⟨_,_,ha,j7⟩ aeJ.oZ pg;exact Ends.next (hmm.trans k1) (hT _ jN w _ D o m sl k2 hn (St.le_refl _))
def avo(hs:g.status= .running)(pg:g'.status= .running)(dt:∀w,E.oO.live w->stepG E.P true g w= .go g' w #[said (.read (smA E.Wg))])(hT:TG E Fin L0 Q pend nw os d0 g' s):TG E Fin L0 Q pend nw os d0 g s:=by
 refine HY hs λK gs w t D o m sl mm hI hn hK hmm=>?_;subst hK;obtain⟨⟨L,l,hb,aeJ,hp⟩,hm,hd,fw⟩:=hI;obtain⟨st,sm,ha,j7⟩:=aeJ.cells;obtain⟨jN,u,k1,k2⟩:=dC.aAG (sl:=sl) (Fin:=Fin) (cl':=none) (wr:=false) hb aeJ hp hm hd (.inl ⟨rfl,rfl⟩) (dt w ⟨st,sm,ha⟩) ⟨_,_,ha,j7⟩ aeJ.oZ pg;exact Ends.next (hmm.trans k1) (hT _ jN w _ D o m sl k2 hn (St.le_refl _))
end
theorem uB(f:α->Nat)(T:List α)(x:α):kL f (T++[x])=kL f T+f x:=by simp[kL]
theorem qL.snoc{T:List cu}{o:Wd}{m:Nat}(h:qL T o m)(k:Nat):qL (T++[.out k]) o m:=by
 have e:∀f:cu->Nat,f (.out k)=0->kL f (T++[.out k])=kL f T:=λf hf=>by rw[uB,hf];rfl
 obtain⟨h1,h2,h3,h4,h5⟩:=h;refine⟨by rw[e _ rfl];exact h1,λhS=>by rw[e _ rfl,e _ rfl,e _ rfl,e _ rfl,e _ rfl];exact h2 hS,λhS=>by rw[e _ rfl,e _ rfl,e _ rfl,e _ rfl,e _ rfl];exact h3 hS,λa b c d=>by rw[e _ rfl];exact h4 a b c d,λx hx=>?_⟩;rcases List.mem_append.1 hx with hx|hx
 .exact h5 x hx
 .simp only[List.mem_singleton] at hx;subst hx;trivial
section
variable {ι:Type} {E:fY ι} {Fin:Goroutine->Prop}
variable {L0 L L':Nat->Option Obj} {K:Nat->St} {gs:Array Goroutine} {w w':World} {t u:Trace} {D:List (aP ι)} {pend iv nw d0:Nat} {cl cl':yI} {o:Wd} {m:Nat} {l os:List ι} {main:Goroutine} {sl:Option (Nat×Nat)}
 {i:Nat} {r r':aP ι} {g g' child:Goroutine} {s s' ig:St} {es:Array Event}
def dC.spawn(hb:n8 E L K gs w t D)(hs:Aa E L0 L K gs w t D (pend+1) none o m l)(hp:E.UX (l++jW D) os)(hm:gs[0]?=some g) (hd:Deaf t 0=0)
 (SO:(K 0).rw=[]) (dt:stepG E.P true g w= .spawn g' child w #[]) (hle:ig.le (K 0)) {ls:List ι} {tr:Tree} (MM:qw E.P false (E.Stp ls) tr child ig) (NI:(os++ls).length<=E.mxl) (hg':g'.status= .running):
 ∃jN u,runT E.P (crowd gs w sl) 0=(.next (crowd jN w sl),u)/\dC E Fin L0 (gV K gs.size ig) jN w (t++u) (D++[.work ls tr]) pend none o m (os++ls) g' 0/\0 <gs.size:=by
 have sO:=hb.size;have dz:=runT_crowd_spawn (P:=E.P) (sl:=sl) (i:=0) hm (by simpa using dt);have e0:MemOp.ofEvents 0 g.frame.fn g.frame.place #[]= #[]:=rfl;rw[e0] at dz;generalize hx:({g:=0,fn:=g.frame.fn,pos:=g.frame.place,act:= .go gs.size}:MemOp)=x at dz;generalize hy:({g:=gs.size,fn:=child.frame.fn,pos:=g.frame.place,act:= .start}:MemOp)=y at dz;have ex:x.g=0/\x.act= .go gs.size:=by rw[<-hx];exact⟨rfl,rfl⟩
 have ey:y.g=gs.size/\y.act= .start:=by rw[<-hy];exact⟨rfl,rfl⟩
 have eu:((#[]:Array MemOp).push x).push y= #[x,y]:=rfl;rw[eu] at dz;have hq:∀op∈ #[x,y],op.act.touch?=none:=by intro op aX;simp at aX;rcases aX with rfl|rfl<;>simp[ex.2,ey.2,MemAct.touch?]
 have R9:∀op∈ #[x,y],∀m,op.act≠ .mark m:=by intro op aX;simp at aX;rcases aX with rfl|rfl<;>simp[ex.2,ey.2]
 have hg:∀op∈ #[x,y],op.g=0\/op.g=gs.size:=by intro op aX;simp at aX;rcases aX with rfl|rfl<;>simp[ex.1,ey.1]
 have SY:Deaf t gs.size=0:=ConcN.Deaf_absent λi op ho e=>by have:=hb.ops op (mem_of_getElem? ho);omega
 have od:∀k,Deaf (t++ #[x,y]) k=Deaf t k:=λk=>ko t k _ R9;have Qw:∀p,Knows t 0 p->Knows (t++ #[x,y]) gs.size p:=λp hp=>ConcN.fork_knows ex ey hd SY hp;have ov:=hb.fit.quiet (u:= #[x,y]) (w':=w) E.Mu hs.kM hs.lM (bk _) (λ_ _ _=>rfl) hq;have JA:ig.rw=[]:=by
  obtain⟨R,hR,_⟩:=hle;rw[SO] at hR;exact(List.append_eq_nil_iff.1 (List.nil_perm.1 hR)).1
 have qX:∀b o,ig.ro b=some o->(K 0).ro b=some o:=λb o hb=>by
  obtain⟨R,hR,h2⟩:=hle;rw[SO] at hR;have:=List.append_eq_nil_iff.1 (List.nil_perm.1 hR);rcases h2 b o hb with h3|h3
  .exact h3
  rw[this.2] at h3;cases h3
 have IG:=ov.share (i:=0) (n:=gs.size) (by omega) ig JA qX λb mB p z hz Wm hzw hzh=>by
  rcases cm hz with ⟨_,Ec⟩| ⟨_,op,hm,_,hzo⟩
  .have Gm:ig.ro b=(K 0).ro b:=by
    cases aTG:ig.ro b with
    |none=>exact absurd aTG mB
    |some o=>rw[qX b o aTG]
   exact Qw p (hb.fit.sw 0 b (Gm▸mB) p z Ec Wm hzw λk=>hzh (k.congr Wm Gm))
  rw[hq op hm] at hzo;cases hzo
 have Gp:∀b,(∀j,¬(K j).knows b)->∀j,¬(gV K gs.size ig j).knows b:=λb hb j hk=>by
  by_cases e:j=gs.size
  .subst e;rw[aV] at hk;exact hb 0 (hle.knows hk)
  rw[bz _ _ e] at hk;exact hb j hk
 have qI:∀ {k z},(D++[aP.work ls tr])[k]?=some z->(k <D.length/\D[k]?=some z)\/(k=D.length/\z= .work ls tr):=λ{k z} hk=>by
  rcases Nat.lt_trichotomy k D.length with ei|e|hgt
  .rw[kD ei] at hk;exact .inl ⟨ei,hk⟩
  .subst e;rw[sj (bk _)] at hk;simp at hk;exact .inr ⟨rfl,hk.symm⟩
  rw[AA (by simp;omega)] at hk;cases hk
 have hgs:∀k,k≠0->k <gs.size->((gs.setIfInBounds 0 g').push child)[k]?=gs[k]?:=λk h0 ei=>by
  rw[Array.getElem?_push_lt (by simpa using ei),<-tO,jZ (jz h0)]
 have hgn:((gs.setIfInBounds 0 g').push child)[gs.size]?=some child:=by
  rw[Array.getElem?_push,dN (by simp)]
 have told:∀p z,touchAt (t++ #[x,y]) p=some z->touchAt t p=some z:=λp z hz=>by
  rcases cm hz with ⟨_,Ec⟩| ⟨_,op,hm,_,hzo⟩
  .exact Ec
  rw[hq op hm] at hzo;cases hzo
 have aIt:child.status= .running:=qw.running (λ_ _ x=>fY.Stp.running x) MM;have aq0:((gs.setIfInBounds 0 g').push child).size=gs.size+1:=by simp
 refine⟨_,_,dz,⟨⟨L,l,⟨IG,by simp[sO],λk z hk=>?_,λk hk b mB=>?_,λop aX=>?_,hb.same⟩,
  ⟨Gp _ hs.kW,Gp _ hs.kM,hs.lW,hs.lM,hs.lH,hs.ne,λa=>(hs.norel a).app λop aX=>R9 op aX _,λj hj p z hz Wm hzk=>?_,λp z hz Wm hzk=>(hs.said p z (told p z hz) Wm hzk).app _,?_,?_,hs.mu,?_,λoK k z hz=>?_,hs.ei,λj hj=>?_,λj z hz=>?_,?_⟩,?_⟩,?_,by rw[od];exact hd,hg'⟩,by omega⟩
 .rcases qI hk with ⟨ei,mA⟩| ⟨rfl,rfl⟩
  .obtain⟨q,hqk,aHq⟩:=hb.ok k z mA;exact⟨q,by rw[hgs _ (by omega) (by omega)];exact hqk,by rw[bz _ _ (by omega)];exact aHq.other (λop aX=>by rcases hg op aX with e|e<;>rw[e]<;>omega) λ_ op aX x hx=>by rw[hq op aX] at hx;cases hx⟩
  refine⟨child,by rw[<-sO];exact hgn,?_⟩;rw[<-sO,aV];exact⟨by rw[od];exact SY,MM⟩
 .rw[Array.size_push,jC] at hk;rw[bz _ _ (by omega)] at mB;exact hb.far k (by omega) b mB
 .rw[Array.size_push,jC];rcases oU.1 aX with h'|h'
  .have:=hb.ops op h';omega
  rcases hg op h' with e|e<;>rw[e]<;>omega
 .have Ec:=told p z hz;rcases hj with rfl| ⟨k,q,rfl,hk,hl⟩
  .exact(hs.plain 0 (.inl rfl) p z Ec Wm hzk).app _
  rcases qI hk with ⟨_,mA⟩| ⟨rfl,rfl⟩
  .exact(hs.plain (k+1) (.inr ⟨k,q,rfl,mA,hl⟩) p z Ec Wm hzk).app _
  rw[<-sO];exact Qw p (hs.plain 0 (.inl rfl) p z Ec Wm hzk)
 .obtain⟨st,sm,ha,j7⟩:=hs.cells;refine⟨st,sm,ha,?_⟩;simp only[e8] at j7 ⊢;rw[uB,uB,uB,uB];simp only[aP.cnt,aP.c4,aP.c3,aP.c2,ug];rw[show kL aP.cnt D+1+pend=kL aP.cnt D+(pend+1) by omega];exact j7
 .have:=hs.oZ;simp only[e8] at this ⊢;rw[uB];simp only[aP.cnt];omega
 .rw[cw];exact hs.mi.snoc _
 .have ei:=lt_size hz;rw[aq0] at ei;by_cases e:k+1=gs.size
  .rw[e,hgn] at hz;cases hz;rw[aIt];simp
  rw[hgs _ (by omega) (by omega)] at hz;exact hs.aag oK k z hz
 .by_cases e:j=gs.size
  .subst e;rw[aV] at hj;obtain⟨o',ho⟩:=hj;rw[JA] at ho;cases ho
  rw[bz _ _ e] at hj;exact hs.nH j hj
 .by_cases e:j=gs.size
  .subst e;rw[aV] at hz;exact .inl (hs.aa1 z (qX _ z hz))
  rw[bz _ _ e] at hz;rcases hs.Uc j z hz with h1| ⟨k,y',e1,hk,R7⟩
  .exact .inl h1
  exact .inr ⟨k,y',e1,by rw[kD (aA.1 hk).1];exact hk,R7⟩
 .rcases hs.gu with ⟨j,o1,os1,tr1,hj,e⟩| ⟨wX,v,X,h1,h2,h3,h4,h5,h6⟩
  .exact .inl ⟨j,o1,os1,tr1,by rw[kD (aA.1 hj).1];exact hj,e⟩
  refine .inr ⟨λk z hk=>?_,v,X,h1,h2,λb o hb=>⟨(h3 b o hb).1,(h3 b o hb).2.1,(h3 b o hb).2.2.1,Gp _ (h3 b o hb).2.2.2⟩,h4,h5,λp z hz hgz=>?_⟩
  .rcases qI hk with ⟨_,mA⟩| ⟨_,rfl⟩
   .exact wX k z mA
   rfl
  rcases h6 p z (told p z hz) hgz with h7|h7| ⟨j,y',hj,R7,ep⟩
  .refine .inl ⟨h7.1.app _,λk y' hk hl=>?_⟩;rcases qI hk with ⟨_,mA⟩| ⟨rfl,rfl⟩
   .exact(h7.2 k y' mA hl).app _
   rw[<-sO];exact Qw p h7.1
  .exact .inr (.inl (h7.app _))
  exact .inr (.inr ⟨j,y',by rw[kD (aA.1 hj).1];exact hj,R7,ep.app _⟩)
 .have:jW (D++[aP.work ls tr])=jW D++ls:=by simp[jW,iF,aP.A4]
  rw[this,<-bx];exact⟨hp.1.append_right ls,NI⟩
 rw[Array.getElem?_push_lt (by simp;omega),<-tO,oV (by omega)]
variable {Q:Machine->Outcome->World->Trace->Prop}
def aiT{ls:List ι}(hs:g.status= .running)(pg:g'.status= .running)(SO:s.rw=[])(dt:∀w,dh s w->stepG E.P true g w= .spawn g' child w #[])(hw:gx E.P false (E.Stp ls) child s)(NI:(os++ls).length<=E.mxl)
 (hT:TG E Fin L0 Q 0 (nw+1) (os++ls) 0 g' s):TG E Fin L0 Q 1 nw os 0 g s:=by
 refine HY hs λK gs w t D o m sl mm hI hn hK hmm=>?_;subst hK;obtain⟨⟨L,l,hb,hsy,hp⟩,hm,hd,fw⟩:=hI;obtain⟨tr,ig,hle,MM⟩:=hw;obtain⟨jN,u,hr,Cb,h0⟩:=dC.spawn (sl:=sl) (Fin:=Fin) (pend:=0) hb hsy hp hm hd SO (dt w (hb.fit.ny 0)) hle MM NI pg;refine Ends.next (hmm.trans hr) (hT _ jN w _ _ o m sl Cb ?_ (by rw[bz _ _ (by omega)];exact St.le_refl _));simp_all[e8,uB,aP.cnt]
def am2{v0:Value}(hs:g.status= .running)(eA:E.Wg≠E.Mu/\E.Hb≠E.Wg/\E.Hb≠E.Mu)
 (hW:(E.Wg,wgBlock E.ty 0 0)∈s.rw)(hM:(E.Mu,Obj.cells #[.int .i32 0,.int .u32 0] E.tm)∈s.rw)(hH:(E.Hb,E.full v0)∈s.rw)(WX:E.Gd [] v0 [])
 (SO:s'.rw=[])(qX:∀b x,s'.ro b=some x->(b=E.Hb/\x=E.hole)\/(b≠E.Hb/\b≠E.Wg/\b≠E.Mu/\(s.ro b=some x\/(b,x)∈s.rw)))
 (hL:∀b o,L0 b=some o->(b,o)∈s.rw/\b≠E.Wg/\b≠E.Mu/\b≠E.Hb)
 (hT:TG E Fin L0 Q 0 0 [] 0 g s'):TL E.P fW (λ_=>none) (Jv E.os E.out) Q g s:=by
 intro K gs w t q sl MT h0 aHL hd ⟨aeP,hos,hou⟩;have MT:=MT.le aHL;have JA:(gV K 0 s) 0=s:=aV _ _ _;have yO:=MT.fit.ny 0;rw[JA] at yO;have hWw:=yO.rw _ _ hW;have hMw:=yO.rw _ _ hM;have hHw:=yO.rw _ _ hH;have hex:∀i,i <q.length->∃d,∃x,gs[i+1]?=some x/\QuitsD E.P (q.getD i 0) d x/\Deaf t (i+1)=d/\fW t (i+1):=λi hi=>by
  obtain⟨x,d,h1,h2,h3,h4⟩:=MT.ok i _ (ai hi);exact⟨d,x,h1,by rw[List.getD_eq_getElem?_getD,ai hi];exact h2,h3,h4⟩
 let D:List (aP ι):=(List.range q.length).map λi=>aP.leave (q.getD i 0) (Deaf t (i+1)) false
 have hD:∀i r,D[i]?=some r->i <q.length/\r=aP.leave (q.getD i 0) (Deaf t (i+1)) false:=λi r hi=>by
  simp only[D,gi] at hi;obtain⟨j,hj,rfl⟩:=fo.1 hi;obtain⟨ei,rfl⟩:=aA.1 hj;simp only[List.length_range] at ei;simp only[List.getElem_range];exact⟨ei,trivial⟩
 have jA:∀r∈D,∃a b,r=aP.leave a b false:=λr hr=>by
  obtain⟨i,hi⟩:=dV hr;exact⟨_,_,(hD i r hi).2⟩
 have hzero:∀f:aP ι->Nat,(∀a b,f (.leave a b false)=0)->e8 f D=0:=λf hf=>xL f λr hr=>by
  obtain⟨a,b,rfl⟩:=jA r hr;exact hf a b
 let K':Nat->St:=λj=>if j=0 then s' else ⟨λ_=>none,[]⟩
 have hK0:K' 0=s':=by simp[K']
 have hKn:∀j,j≠0->K' j=⟨λ_=>none,[]⟩:=λj hj=>by simp[K',hj]
 have ag7:∀j b,j≠0->¬(K' j).knows b:=λj b hj hk=>by
  rw[hKn j hj] at hk;rcases hk with hk| ⟨o,ho⟩
  .exact hk rfl
  cases ho
 have awx:∀j b,¬(K' j).owns b:=λj b ⟨o,ho⟩=>by
  by_cases e:j=0
  .subst e;rw[hK0,SO] at ho;cases ho
  exact ag7 j b e (.inr ⟨o,ho⟩)
 have skn:∀b,s'.knows b->s.knows b/\b≠E.Wg/\b≠E.Mu:=λb hk=>by
  rcases hk with hk| ⟨o,ho⟩
  .cases hr:s'.ro b with
   |none=>exact absurd hr hk
   |some x=>
    rcases qX b x hr with ⟨rfl,_⟩| ⟨_,h2,h3,h4|h4⟩
    .exact⟨.inr ⟨_,hH⟩,eA.2.1,eA.2.2⟩
    .exact⟨.inl (by rw[h4];simp),h2,h3⟩
    exact⟨.inr ⟨_,h4⟩,h2,h3⟩
  rw[SO] at ho;cases ho
 have kn:∀j b,(K' j).knows b->s.knows b/\b≠E.Wg/\b≠E.Mu:=λj b hk=>by
  by_cases e:j=0
  .subst e;rw[hK0] at hk;exact skn b hk
  exact absurd hk (ag7 j b e)
 have aOj:LV E.hole w.heap[E.Hb]?:= .inr (.inl ⟨_,_,_,rfl,hHw,by simp,(λj hj=>by rw[jZ (jz hj)]),E.hht⟩);have ov:Fit L0 K' w t:=by
  refine⟨λb o hl=>yO.rw b o (hL b o hl).1,λi b ho=>absurd ho (awx i b),λj=>?_,λi j b _ ho=>absurd ho (awx i b),λi b ho=>absurd ho (awx i b),λi b ho p x hx hb hw hh=>?_,MT.fit.old,MT.fit.clean,λp x b hx hk hb=>?_⟩
  .by_cases e:j=0
   .subst e;rw[hK0];refine⟨λb x hb=>?_,(λb x hb=>by rw[SO] at hb;cases hb),(λb x hb=>by rw[SO] at hb;cases hb),by rw[SO];simp,(λb x hb=>by rw[SO] at hb;cases hb)⟩;rcases qX b x hb with ⟨rfl,rfl⟩| ⟨_,_,_,h4|h4⟩
    .exact aOj
    .exact yO.ro b x h4
    exact .inl ⟨yO.rw b x h4,yO.real b x h4⟩
   rw[hKn j e];exact⟨(λ_ _ e=>(by cases e)),(λ_ _ e=>(by cases e)),(λ_ _ e=>(by cases e)),by simp,(λ_ _ e=>(by cases e))⟩
  .by_cases e:i=0
   .subst e;rw[hK0] at ho hh;cases hr:s'.ro b with
    |none=>exact absurd hr ho
    |some y=>
     rcases qX b y hr with ⟨rfl,rfl⟩| ⟨_,_,_,h4|h4⟩
     .exact MT.fit.perm 0 E.Hb (by rw[JA];exact⟨_,hH⟩) p x hx hb
     .exact MT.fit.sw 0 b (by rw[JA,h4];simp) p x hx hb hw λk=>hh (k.congr hb (by rw[JA,hr,h4]))
     exact MT.fit.perm 0 b (by rw[JA];exact⟨_,h4⟩) p x hx hb
   exact absurd (.inl ho) (ag7 i b e)
  have hsy:=MT.fit.sync p x b hx hk hb;have h2:=hsy.2 0;rw[JA] at h2;refine⟨?_,λj hj=>h2 (kn j b hj).1⟩;cases hl:L0 b with
  |none=>rfl
  |some o=>exact absurd (.inr ⟨o,(hL b o hl).1⟩) h2
 have hLb:∀b,(b=E.Wg\/b=E.Mu\/b=E.Hb)->L0 b=none:=λb hb=>by
  cases hl:L0 b with
  |none=>rfl
  |some o=>
   have:=hL b o hl;rcases hb with e|e|e
   .exact absurd e this.2.1
   .exact absurd e this.2.2.1
   exact absurd e this.2.2.2
 have aot:∀b o,(b,o)∈s.rw->∀p x,touchAt t p=some x->blk x.loc=some b->Knows t 0 p:=λb o hb p x hx Yl=>MT.fit.perm 0 b (by rw[JA];exact⟨_,hb⟩) p x hx Yl;have ag3:∀p x,touchAt t p=some x->E.At x->Knows t 0 p:=λp x hx hb=>hb.elim (aot _ _ hW p x hx) (aot _ _ hM p x hx);have ahS:∀(i:Nat) (r:aP ι),D[i]?=some r->r.left=true:=λi r hi=>by obtain⟨_,rfl⟩:=hD i r hi;rfl
 refine hT K' gs w t D ⟨false,false,false,0⟩ 0 sl ⟨⟨L0,[],⟨ov,by simp[D,MT.size],λi r hi=>?_,λi hi b=>ag7 i b (by have:=MT.size;omega),MT.ops,hos,hou⟩,
  ⟨λj hj=>(kn j _ hj).2.1 rfl,λj hj=>(kn j _ hj).2.2 rfl,hLb _ (.inl rfl),hLb _ (.inr (.inl rfl)),hLb _ (.inr (.inr rfl)),eA,aeP,λj hj p x hx hb _=>?_,λp x hx hb _=>ag3 p x hx (.inl hb),⟨0,0,hWw,?_⟩,?_,?_,?_,(λe=>by cases e),lt_size hHw,λj hj=>awx j _ hj,λj x hx=>?_,
   .inr ⟨λi r hi=>?_,v0,[],WX,by simp,(λb o hb=>by cases hb),λb o hl=>hl,hHw,λp x hx hgx=>?_⟩⟩,?_⟩,h0,hd,hs⟩ ?_ (by rw[hK0];exact St.le_refl _)
 .obtain⟨ei,rfl⟩:=hD i r hi;obtain⟨d,x,h1,h2,h3,h4⟩:=hex i ei;exact⟨x,h1,hKn _ (by omega),by rw[h3];exact h2,rfl,(λe=>(by cases e)),λ_=>h4⟩
 .rcases hj with rfl| ⟨k,r,rfl,hk,hl⟩
  .exact ag3 p x hx hb
  rw[ahS k r hk] at hl;cases hl
 .rw[hzero aP.cnt λ_ _=>rfl,hzero aP.c4 λ_ _=>rfl,hzero aP.c3 λ_ _=>rfl,hzero aP.c2 λ_ _=>rfl];have:=Md.start (mx:=E.max) (n:=0);simpa using this
 .rw[hzero aP.cnt λ_ _=>rfl];omega
 .exact hMw
 .refine qL.start λx hx=>?_;obtain⟨r,hr,rfl⟩:=a8.1 hx;obtain⟨a,b,rfl⟩:=jA r hr;exact⟨0,rfl⟩
 .by_cases e:j=0
  .subst e;rw[hK0] at hx;rcases qX _ x hx with ⟨_,rfl⟩| ⟨h1,_⟩
   .exact .inl rfl
   exact absurd rfl h1
  rw[hKn j e] at hx;cases hx
 .obtain⟨_,rfl⟩:=hD i r hi;rfl
 .refine .inl ⟨?_,λk r hk hl=>by rw[ahS k r hk] at hl;cases hl⟩;rcases hgx with ⟨b,o,hb,_⟩| ⟨a,ea,e1,_⟩
  .cases hb
  exact aot _ _ hH p x hx (by rw[ea];simp[blk,e1])
 .have:jW D=[]:=by
   unfold jW;rw[List.flatMap_eq_nil_iff];intro r hr;obtain⟨a,b,rfl⟩:=jA r hr;rfl
  rw[this];exact⟨List.Perm.refl _,bQ _⟩
 rw[hzero aP.cnt λ_ _=>rfl];omega
end
section
variable {ι:Type} {E:fY ι} {Fin:Goroutine->Prop}
variable {L0 L L':Nat->Option Obj} {K:Nat->St} {gs:Array Goroutine} {w w':World} {t u:Trace} {D:List (aP ι)} {pend iv nw d0:Nat} {cl cl':yI} {o:Wd} {m:Nat} {l os:List ι} {main:Goroutine} {sl:Option (Nat×Nat)}
 {i:Nat} {r r':aP ι} {g g' child:Goroutine} {s s' ig:St} {es:Array Event} {c:CK} {n:Nat}
def afm:(∀e∈ #[said .disable],u3 E.Wg e)/\(∀e∈ #[said .enable],u3 E.Wg e)/\(∀e∈ #[said (.acquire (stA E.Wg))],u3 E.Wg e)/\(∀e∈ #[rd (stA E.Wg)],u3 E.Wg e)/\(∀e∈ #[rd (stA E.Wg),wr (stA E.Wg)],u3 E.Wg e)/\(∀e∈semEvents (smA E.Wg),u3 E.Wg e):=by
 refine⟨?_,?_,?_,?_,?_,?_⟩
 .intro e he;simp at he;subst he;exact .inl rfl
 .intro e he;simp at he;subst he;exact .inr (.inl rfl)
 .intro e he;simp at he;subst he;exact .inr (.inr (.inr (.inl rfl)))
 .intro e he;simp at he;subst he;exact ru _ 0 _
 .intro e he;simp at he;rcases he with rfl|rfl<;>exact ru _ 0 _
 intro e he;simp[semEvents] at he;rcases he with rfl|rfl|rfl|rfl
 .exact .inl rfl
 .exact ru _ 1 _
 .exact ru _ 1 _
 exact .inr (.inl rfl)
def X6(E:fY ι)(Fin:Goroutine->Prop)(L0:Nat->Option Obj)(K:Nat->St)(gs:Array Goroutine)(w:World)(sl:Option (Nat×Nat))(t:Trace)(D:List (aP ι))(c:CK)(n:Nat)(o:Wd)(m:Nat)(os:List ι):Prop:=
 ∃jN w' u c' n' g' d',runT E.P (crowd gs w sl) 0=(.next (crowd jN w' sl),u)/\dC E Fin L0 K jN w' (t++u) D 0 (some (c',n')) o m os g' d'/\Df (mb E.max (some (c',n'))) (mb E.max (some (c,n)))
section
variable (hb:n8 E L K gs w t D) (hs:Aa E L0 L K gs w t D 0 (some (c,n)) o m l) (hp:E.UX (l++jW D) os) (hm:gs[0]?=some g) (hd:Deaf t 0=d0)
include hb hs hp hm hd
def dC.q4{c':CK}{n':Nat}(hgo:stepG E.P true g w= .go g' w' es)(hw:ek E.oO w w')(nJ:∀e∈es,u3 E.Wg e)
 (j5:∃st sm,WgAt E.ty E.Wg w' st sm/\Md E.max (e8 aP.cnt D) (e8 aP.c4 D) (e8 aP.c3 D) (e8 aP.c2 D) (some c') st sm)(eB:E.mat Fin g' n' c')(hde:deafBehind d0 es=c'.deaf)
 (Gn:Df (mb E.max (some (c',n'))) (mb E.max (some (c,n)))):X6 E Fin L0 K gs w sl t D c n o m os:=by
 obtain⟨jN,u,h1,h2⟩:=dC.ane (cl':=some (c',n')) hb hs hp hm hd hgo hw nJ j5 hs.oZ ⟨eB,hde⟩;exact⟨jN,w',u,c',n',g',_,h1,h2,Gn⟩
def dC.wait(fw:rC E Fin g d0 (some (c,n)))(hsr:g.status= .running)(hna:¬(c= .aq/\n=0)):X6 E Fin L0 K gs w sl t D c n o m os:=by
 obtain⟨eB,hdc⟩:=fw;subst hdc;obtain⟨st,sm,ha,j7⟩:=hs.cells;simp only[ug,dD] at j7;have vo:=hs.oZ;simp only[ug] at vo;obtain⟨s1,s2,s3,s4,s5,s6⟩:=afm (E:=E);have vA:∀ {n':Nat} {g':Goroutine},n=n'+1->(∀w,E.oO.live w->stepG E.P true g w= .go g' w #[])->E.mat Fin g' n' c->X6 E Fin L0 K gs w sl t D c n o m os:=by
  intro n' g' hn dt ark;subst hn;exact dC.q4 hb hs hp hm hd (dt w ⟨st,sm,ha⟩) (ek.refl w) (by simp) ⟨st,sm,ha,j7⟩ ark rfl (u9 (nQ n'))
 cases c with
 |kd=>
  cases n with
  |succ n=>obtain⟨_,g',dt,pU⟩:=eB;exact vA rfl dt pU
  |zero=>
   obtain⟨_,g',dt,n',pU⟩:=eB;obtain⟨rfl,rfl,e4,e3,e2,_⟩:=j7.zero (.inl rfl);refine dC.q4 hb hs hp hm hd (c':= .w1 E.max) (dt w) (ek.refl w) s1 ⟨_,_,ha,?_⟩ pU rfl (eG (by simp[mb,CK.phi]));rw[e4,e3,e2];exact .w1 vo
 |w1 b=>
  cases n with
  |succ n=>
   have:∃g',(∀w,E.oO.live w->stepG E.P true g w= .go g' w #[])/\Pure E.P true E.oO.live (E.W1 Fin b) n g':=eB.2;obtain⟨g',dt,pU⟩:=this;exact vA rfl dt pU
  |zero=>
   obtain⟨rfl,rfl,e4,e3,e2,hbb,_⟩:=j7.zero (.inr (.inl ⟨b,rfl⟩));have hle:=hbb b rfl;rw[e4,e3,e2] at j7;have out:(∃g',(∀w,WgAt E.ty E.Wg w 0 0->stepG E.P true g w= .go g' w #[rd (stA E.Wg)])/\E.pw (E.Ke Fin) g')->e8 aP.cnt D=0->X6 E Fin L0 K gs w sl t D (.w1 b) 0 o m os:=by
    rintro⟨g',dt,n',pU⟩ h0;rw[h0] at ha;have wo:WgAt E.ty E.Wg w 0 0:=by simpa using ha
    refine dC.q4 hb hs hp hm hd (c':= .ke) (dt w wo) (ek.refl w) s4 ⟨_,_,wo,?_⟩ pU rfl (eG (by simp[mb,CK.phi]));rw[e4,e3,e2,h0];exact .over trivial
   cases b with
   |zero=>exact out eB.2 (by omega)
   |succ b=>
    obtain⟨_,h0,hv⟩:=eB;by_cases hz:e8 aP.cnt D=0
    .exact out h0 hz
    obtain⟨g',dt,n',pU⟩:=hv (e8 aP.cnt D) (by omega) hle;refine dC.q4 hb hs hp hm hd (c':= .w2 b (e8 aP.cnt D)) (dt w ha) (ek.refl w) s4 ⟨_,_,ha,?_⟩ pU rfl (eG (by simp only[mb,CK.phi];omega));rw[e4,e3,e2];exact .w2 (bk _) (by omega) hle
 |w2 b v=>
  cases n with
  |succ n=>obtain⟨_,g',dt,pU⟩:=eB;exact vA rfl dt pU
  |zero=>
   obtain⟨rfl,rfl,e4,e3,e2,_,hbb⟩:=j7.zero (.inr (.inr ⟨b,v,rfl⟩));obtain⟨h1,h2,h3⟩:=hbb b v rfl;obtain⟨_,⟨dq,aG0,n1,hp1⟩,aqL⟩:=eB;by_cases hv:e8 aP.cnt D=v
   .rw[hv] at ha;refine dC.q4 hb hs hp hm hd (c':= .wr) (aG0 w ha) (ek.set w 0 _) s5 ⟨_,_,Go.ConcR.WgAt.setSt ha _,?_⟩ hp1 rfl (eG (by simp only[mb,CK.phi];omega));rw[e4,e3,e2,hv];exact .reg trivial h2
   obtain⟨xy,aGZ,n2,hp2⟩:=aqL (e8 aP.cnt D) (by omega);refine dC.q4 hb hs hp hm hd (c':= .w1 b) (aGZ w ha) (ek.refl w) s4 ⟨_,_,ha,?_⟩ hp2 rfl (eG (by simp only[mb,CK.phi];omega));rw[e4,e3,e2];exact .w1 (by omega)
 |wr=>
  cases n with
  |succ n=>obtain⟨_,g',dt,pU⟩:=eB;exact vA rfl dt pU
  |zero=>
   obtain⟨_,g',dt,n',pU⟩:=eB;obtain⟨jN,u,h1,h2⟩:=dC.aAG (sl:=sl) (Fin:=Fin) (cl':=some (.w3,n'+1)) (iv:=0) (wr:=true) hb hs hp hm hd (.inr ⟨rfl,rfl⟩) (dt w) ⟨_,_,ha,j7.waiting trivial trivial (.inl (by simp))⟩ hs.oZ ⟨⟨n',rfl,pU⟩,rfl⟩;exact⟨jN,w,u,.w3,n'+1,g',_,h1,h2,eG (by simp[mb,CK.phi])⟩
 |w3=>
  obtain⟨m',rfl,pU⟩:=eB;cases m' with
  |succ m'=>
   obtain⟨_,g',dt,pU⟩:=pU;exact vA rfl dt ⟨m',rfl,pU⟩
  |zero=>
   have C3:E.W3 Fin g:=pU;obtain⟨h1,h2,hbk,g',dt,n',pU⟩:=pU;rcases j7.up trivial with ⟨_,rfl,rfl⟩| ⟨rfl,rfl,e1,e4,e3,e2⟩
   .exact dC.q4 hb hs hp hm hd (c':= .blk) (n':=0) (hbk w _ ha) (ek.refl w) (by simp) ⟨_,_,ha,j7.waiting trivial trivial (.inr rfl)⟩ ⟨rfl,g,C3,rfl⟩ rfl (u9 (nQ 0))
   refine dC.q4 hb hs hp hm hd (c':= .w4) (dt w ha) (ek.set w 1 _) s6 ⟨_,_,Go.ConcR.WgAt.setSm ha _,?_⟩ pU rfl (eG (by simp[mb,CK.phi]));rw[e1,e4,e3,e2];exact .over trivial
 |blk=>
  obtain⟨_,lu,_,e⟩:=eB;rw[e] at hsr;cases hsr
 |w4=>
  obtain⟨e1,e4,e3,e2,rfl,rfl⟩:=j7.run rfl trivial;cases n with
  |succ n=>obtain⟨_,g',dt,pU⟩:=eB;exact vA rfl dt pU
  |zero=>
   obtain⟨_,g',dt,n',pU⟩:=eB;refine dC.q4 hb hs hp hm hd (c':= .ke) (dt w ha) (ek.refl w) s4 ⟨_,_,ha,?_⟩ pU rfl (eG (by simp[mb,CK.phi]));rw[e1,e4,e3,e2];exact .over trivial
 |ke=>
  obtain⟨e1,e4,e3,e2,rfl,rfl⟩:=j7.run rfl trivial;cases n with
  |succ n=>obtain⟨_,g',dt,pU⟩:=eB;exact vA rfl dt pU
  |zero=>
   obtain⟨_,g',dt,n',pU⟩:=eB;refine dC.q4 hb hs hp hm hd (c':= .aq) (dt w) (ek.refl w) s2 ⟨_,_,ha,?_⟩ pU rfl (eG (by simp[mb,CK.phi]));rw[e1,e4,e3,e2];exact .over trivial
 |aq=>
  cases n with
  |succ n=>obtain⟨_,g',dt,pU⟩:=eB;exact vA rfl dt pU
  |zero=>exact absurd ⟨rfl,rfl⟩ hna
 |run tr=>exact eB.elim
end
theorem afn(h1:r.cnt=0)(h4:r.c4=0)(h3:r.c3=0)(h2:r.c2=0):∃q d c,r= .leave q d c:=by
 cases r with
 |leave q d c=>simp
 |st k n=>cases k<;>simp[aP.cnt,aP.c4,aP.c3,aP.c2] at h1 h4 h3 h2
 |_=>grind [absurd,aP.cnt]
def aUx:aP ι->Nat
 | .leave q _ _=>q
 |_=>0
def Mf(E:fY ι)(L0:Nat->Option Obj)(s:St)(S:Value->List (Nat×Obj)->St):Prop:=
 ∀l v X w,E.Gd l v X->dh s w->(∀b o,L0 b=some o->w.heap[b]?=some o)->(X.map (·.1)).Nodup->(∀b o,(b,o)∈X->w.heap[b]?=some o/\L0 b=none/\Obj.real o=true/\¬s.knows b)->w.heap[E.Hb]?=some (E.full v)->L0 E.Hb=none->¬s.owns E.Hb->
  dh (S v X) w/\∀b,(S v X).knows b->L0 b≠none\/s.knows b\/∃o,(b,o)∈X
theorem dC.finish(hb:n8 E L K gs w t D)(hs:Aa E L0 L K gs w t D 0 (some (.aq,0)) o m l)(hp:E.UX (l++jW D) os)(hm:gs[0]?=some g) (hd:Deaf t 0=0) (hS:Mf E L0 (K 0) S)
 (hgo:stepG E.P true g w= .go g' w #[said (.acquire (stA E.Wg))]):
 ∃jN u q v X,runT E.P (crowd gs w sl) 0=(.next (crowd jN w sl),u)/\Lv E.P fW (λ_=>none) (gV K 0 (S v X)) jN w (t++u) q/\jN[0]?=some g'/\Deaf (t++u) 0=0/\Jv E.os E.out (gV K 0 (S v X)) w (t++u)/\l.Perm os/\E.Gd l v X:=by
 obtain⟨st,sm,ha,j7⟩:=hs.cells;obtain⟨e1,e4,e3,e2,rfl,rfl⟩:=j7.run rfl trivial;have Am:∀(k:Nat) (r:aP ι),D[k]?=some r->∃q d c,r= .leave q d c:=λk r hk=>afn (by have:=zg aP.cnt hk;omega) (by have:=zg aP.c4 hk;omega) (by have:=zg aP.c3 hk;omega) (by have:=zg aP.c2 hk;omega);have dz:=runT_crowd_go (P:=E.P) (sl:=sl) (i:=0) hm (by simpa using hgo);have q1:MemOp.ofEvents 0 g.frame.fn g.frame.place #[said (.acquire (stA E.Wg))]= #[{g:=0,fn:=g.frame.fn,pos:=g.frame.place,act:= .mark (.acquire (stA E.Wg))}]:=by rw[ofEvents_eq];simp[said,Go.ConcR.ofEvent_mk]
 rw[q1] at dz;generalize hu:(#[{g:=0,fn:=g.frame.fn,pos:=g.frame.place,act:= .mark (.acquire (stA E.Wg))}]:Trace)=u at dz;have C2:∀op∈u,op.g=0/\op.act= .mark (.acquire (stA E.Wg)):=by rw[<-hu];intro op aX;simp at aX;subst aX;exact⟨rfl,rfl⟩
 have Ym:∀op∈u,op.act.touch?=none:=λop aX=>by rw[(C2 op aX).2];rfl
 have hr:(t++u)[t.size]?=some {g:=0,fn:=g.frame.fn,pos:=g.frame.place,act:= .mark (.acquire (stA E.Wg))}:=by rw[<-hu];simp
 have heard:(t++u).heard t.size:=⟨0,by simp[Trace.g?,hr],by rw[deaf_old (bk _)];exact hd⟩;have hdu:Deaf (t++u) 0=0:=by
  have:=Deaf_own t 0 g.frame.fn g.frame.place #[said (.acquire (stA E.Wg))];rw[q1,hu,hd] at this;rw[this];rfl
 have eA:∀k,∀op∈u,op.g≠k+1:=λk op aX=>by rw[(C2 op aX).1];omega
 have hdo:∀k,Deaf (t++u) (k+1)=Deaf t (k+1):=λk=>jq _ _ (eA k);have dY:∀k r,D[k]?=some r->fW (t++u) (k+1):=λk r hk=>by
  obtain⟨x,hx,dL⟩:=hb.ok k r hk;obtain⟨q,d,cur,rfl⟩:=Am k r hk;cases cur with
  |false=>exact(dL.2.2.2.2 rfl).other (eA k)
  |true=>
   obtain⟨rr,hrr⟩:=dL.2.2.2.1 rfl;have ei:=lt_of_act? hrr.act;have Q8:HappensBefore (t++u) rr t.size:= .single (.inr ⟨.marked ei (.inr (by rw[act?_old ei];exact hrr.act)) (by rw[act?_of hr]) (λk _ hk=>by rw[act?_old (by omega)];exact hs.norel _ k),(heard_old ei).2 hrr.heard,heard⟩);intro p pU hct;obtain⟨op,ho,akj⟩:=fo.1 pU;rcases getElem?_append_cases ho with ⟨SQ,_⟩| ⟨_,jA⟩
   .have hp1:t.g? p=some (k+1):=by rw[<-g?_old (u:=u) SQ];exact pU
    have bgU:=(counts_old SQ).1 hct;have hle:p<=rr:=Nat.le_of_not_lt λei=>hrr.after p ei hp1 bgU;refine⟨t.size,by simp[Trace.g?,hr],?_⟩;rcases Dr p rr with h1|h1
    .exact(hb_app u (.single (.inl ⟨h1,_,hp1,hrr.g⟩))).trans Q8
    obtain rfl:p=rr:=by omega
    exact Q8
   exact absurd akj (eA k op jA)
 rcases hs.gu with ⟨j,o1,os1,tr1,hj,_⟩| ⟨wX,v,X,WX,kT,hX,hLs,hHb,htk⟩
 .obtain⟨_,_,_,e⟩:=Am j _ hj;cases e
 have Ef:=hb.fit.quiet (u:=u) (w':=w) E.Mu hs.kM hs.lM (bk _) (λ_ _ _=>rfl) Ym;have aa7:∀j,j≠0->∀b,¬(K j).knows b:=λj hj b hk=>by
  rcases Dr j gs.size with h1|h1
  .obtain⟨k,rfl⟩:∃k,j=k+1:=⟨j-1,by omega⟩;have ei:k <D.length:=by have:=hb.size;omega
   obtain⟨x,hx,dL⟩:=hb.ok k _ (ai ei);obtain⟨q,d,c,e⟩:=Am k _ (ai ei);rw[e] at dL;rw[dL.1] at hk;rcases hk with hk| ⟨o,ho⟩
   .exact hk rfl
   cases ho
  exact hb.far j h1 b hk
 have L0n:∀b,L b=none->L0 b=none:=λb hb=>by
  cases h':L0 b with
  |none=>rfl
  |some o=>rw[hLs b o h'] at hb;cases hb
 obtain⟨hS1,hS2⟩:=hS l v X w WX (hb.fit.ny 0) (λb o hl=>hb.fit.C0 b o (hLs b o hl)) kT (λb o hbx=>⟨hb.fit.C0 b o (hX b o hbx).1,(hX b o hbx).2.1,(hX b o hbx).2.2.1,(hX b o hbx).2.2.2 0⟩) hHb (L0n _ hs.lH) (hs.nH 0);have IG:=Ef.alone (i:=0) aa7 (S v X) hS1 (λb hk=>by
  rcases hS2 b hk with h1|h1| ⟨o',h1⟩
  .refine .inl λe=>h1 (L0n b e)
  .exact .inr h1
  .exact .inl (by rw[(hX b o' h1).1];simp)) λb _ p y hy wm hyb=>by
  obtain⟨op,ho,hyo⟩:=touch_of hy;have ei:op.g <gs.size:=by
   rcases oU.1 (mem_of_getElem? ho) with h'|h'
   .exact hb.ops op h'
   rw[(C2 op h').1,hb.size];omega
  cases akj:op.g with
  |zero=>have:=knows_own ho;rwa[akj] at this
  |succ k=>
   have hk:k <D.length:=by have:=hb.size;omega
   obtain⟨j,hj,mB⟩:=dY k _ (ai hk) p (by simp[Trace.g?,ho,akj]) ⟨y,by simpa [touchAt] using hy,by cases hl:y.loc<;>simp_all[blk,Loc.isMemory],.inl (by rw[wm];simp)⟩;obtain⟨z',Ec,hzg⟩:=fo.1 hj;exact⟨j,z',Ec,hzg,.inr mB⟩
 have yM:∀k r x,D[k]?=some r->gs[k+1]?=some x->woken E.P g g' w x=x:=λk r x hk hx=>by
  obtain⟨y,hy,dL⟩:=hb.ok k r hk;rw[hx] at hy;cases hy;obtain⟨q,d,c,rfl⟩:=Am k r hk;unfold Go.Conc.woken;split
  .exact again_running _ dL.2.1.status
  rfl
 have bgc:jW D=[]:=by
  unfold jW;rw[List.flatMap_eq_nil_iff];intro r hr;obtain⟨k,hk⟩:=dV hr;obtain⟨q,d,c,rfl⟩:=Am k r hk;rfl
 refine⟨_,u,D.map aUx,v,X,dz,⟨IG,by simp[hb.size],λk q hk=>?_,λj b hj hk=>?_,λop aX=>?_⟩,?_,hdu,⟨λa=>(hs.norel a).app λop aX=>by rw[(C2 op aX).2];simp,hb.same⟩,?_,WX⟩
 .rw[gi] at hk;obtain⟨r,qY,rfl⟩:=fo.1 hk;obtain⟨x,hx,dL⟩:=hb.ok k r qY;have ep:=dY k r qY;have hw1:=yM k r x qY hx;obtain⟨q,d,c,rfl⟩:=Am k r qY;exact⟨x,d,by rw[iA (by omega) hx,hw1],dL.2.1,by rw[hdo];exact dL.2.2.1,ep⟩
 .rw[bz _ _ hj] at hk;exact aa7 j hj b hk
 .rw[jC,Mj];rcases oU.1 aX with h'|h'
  .exact hb.ops op h'
  rw[(C2 op h').1,hb.size];omega
 .have:=hb.size;rw[oV (by simp;omega)]
 rw[bgc,e9] at hp;exact hp.1
variable {Q:Machine->Outcome->World->Trace->Prop}
def agj(E:fY ι)(Q:Machine->Outcome->World->Trace->Prop)(os:List ι)(S:Value->List (Nat×Obj)->St)(g:Goroutine):Prop:=
 ∀l v X,l.Perm os->E.Gd l v X->TL E.P fW (λ_=>none) (Jv E.os E.out) Q g (S v X)
def aiP(hS:Mf E L0 s S):∀(μ:GM ι) c n K gs w t sl main d0,μ.c=mb E.max (some (c,n))->μ.r=runN gs->
 dC E (agj E Q os S) L0 K gs w t μ.D 0 (some (c,n)) μ.o μ.m os main d0->K 0=s->Ends E.P Q (crowd gs w sl) t:=by
 intro μ
 induction μ using CM.wf.induction with
 |_ μ ih=>
  obtain⟨D,o,m,cc,rn⟩:=μ;intro c n K gs w t sl main d0 hc hr hI hK;simp only at hc hr hI;subst hc hr;obtain⟨i,dq,d,J4,cR,CE,dt⟩:=crowd_pick (P:=E.P) (gs:=gs) (w:=w) (sl:=sl) hI.awake hI.alive;have Cb:=hI.at d;cases i with
  |zero=>
   obtain⟨⟨L,l,hb,hs,hp⟩,hm,hd,fw⟩:=Cb;obtain rfl:dq=main:=by rw[cR] at hm;exact aK hm
   by_cases ha:c= .aq/\n=0
   .obtain⟨rfl,rfl⟩:=ha;obtain⟨⟨_,g',hgo,rq⟩,rfl⟩:=fw;obtain⟨jN,u,q,v,X,h1,h2,h3,h4,h5,h6,h7⟩:=dC.finish (sl:=J4) hb hs hp hm hd (S:=S) (hK▸hS) (hgo _);exact Ends.next (dt.trans h1) (rq l v X h6 h7 _ jN _ _ q J4 h2 h3 (by rw[aV];exact St.le_refl _) h4 h5)
   obtain⟨jN,w',u,c',n',g',d',h1,h2,h3⟩:=dC.wait (sl:=J4) hb hs hp hm hd fw CE ha;exact Ends.next (dt.trans h1) (ih ⟨D,o,m,mb E.max (some (c',n')),runN jN⟩ (.c (bk _) rfl rfl h3) c' n' K jN w' _ J4 g' d' rfl rfl h2 hK)
  |succ i=>
   by_cases hq:∀r,D[i]?=some r->r.quiet=false
   .obtain⟨K',jN,w',u,D',cl',o',m',main',hr,F3,kU,hmn,kp,Uk,ei⟩:=Cb.other (sl:=J4) cR CE hq
    match cl',kp,F3,ei with
    |none,kp,_,_=>exact absurd (kp.2 rfl) (by simp)
    |some (c',n'),_,F3,ei=>exact Ends.next (dt.trans hr) (ih ⟨D',o',m',mb E.max (some (c',n')),runN jN⟩ ei c' n' K' jN w' _ J4 main' d0 rfl rfl F3 (kU.trans hK))
   obtain⟨r,hr⟩:=Classical.not_forall.1 hq;obtain⟨Ff,B6⟩:=Classical.not_imp.1 hr;obtain⟨K',D',F3,kU,Uk,ei⟩:=hI.norm Ff (by simpa using B6);exact ih ⟨D',o,m,mb E.max (some (c,n)),runN gs⟩ (ei _ _) c n K' gs w t sl main d0 rfl rfl F3 (kU.trans hK)
def avn(hS:Mf E L0 s S)(hkd:E.pw (E.Kd (agj E Q os S)) g):TG E (agj E Q os S) L0 Q 0 nw os 0 g s:=by
 intro K gs w t D o m sl hI hn hle;obtain⟨n,hkd⟩:=hkd;have hI:=hI.le0 hle;refine aiP (os:=os) hS ⟨D,o,m,_,runN gs⟩ .kd n (gV K 0 s) gs w t sl g 0 rfl rfl ?_ (aV _ _ _);obtain⟨⟨L,l,hb,hs,hp⟩,hm,hd,fw⟩:=hI;refine⟨⟨L,l,hb,⟨hs.kW,hs.kM,hs.lW,hs.lM,hs.lH,hs.ne,hs.norel,hs.plain,hs.said,?_,hs.oZ,hs.mu,hs.mi,hs.aag,hs.ei,hs.nH,hs.Uc,hs.gu⟩,hp⟩,hm,hd,hkd,rfl⟩;obtain⟨st,sm,ha,j7⟩:=hs.cells;obtain⟨rfl,rfl⟩:=Md.count j7;obtain⟨e4,e3,e2⟩:=hs.aA4;exact⟨_,_,ha,by rw[e4,e3,e2];exact .kd⟩
end
def CG(P:Program)(fr:Frame):Option (Func×Array Value):=
 match fr.mode,fr.todo,fr.roundOf with
 | .run,.inRegion ops (i::_)::_,none=>bif ((ops[i]?).map (Region.wanted · (yielded ops fr.tmps))).getD false&& !(Oe fr.kind) then (match ops[i]? with
  |some o=>match o.op with
   | .call ⟨.value (.func f),ae,_⟩=>match P.funcs[f]? with
    |some fn=>some (fn,ae.map fr.eval)
    |none=>none
   |_=>none
  |none=>none) else none
 |_,_,_=>none
structure Jr(fn:Func)(E:Array Value->Sem Value):Prop where
 name:(fn.name== "runtime.NumGoroutine")=false
 aoY:fn.body.isNone=true
 next:Extern.findNext fn=none
 ext:Extern.find fn=some E
section
variable {P:Program} {main:Bool} {fr:Frame} {fn:Func} {args:Array Value} {E:Array Value->Sem Value}
def Q5(h:CG P fr=some (fn,args)):∃ops i rest k o f ae ats,fr=fr.at ⟨fr.tmps,fr.defers⟩ (.inRegion ops (i::rest)::k)/\ops[i]?=some o/\Region.wanted o (yielded ops fr.tmps)=true/\fr.kind≠ .early/\
 o.op= .call {callee:= .value (.func f),args:=ae,argTypes:=ats}/\P.funcs[f]?=some fn/\ae.map (Act.eval ⟨fr.tmps,fr.defers⟩)=args/\∀v,fr.at ((⟨fr.tmps,fr.defers⟩:Act).put o.dst v) (.inRegion ops rest::k)=fr.finish v:=by
 rcases fr with ⟨fnn,tmps,todo,defers,mode,kind,ro⟩
 unfold CG at h;simp only at h;split at h<;>try (cases h;done)
 rename_i _ _ _ ops i rest k;cases hw:(((ops[i]?).map (Region.wanted · (yielded ops tmps))).getD false&& !(Oe kind)) with
 |false=>rw[hw] at h;cases h
 |true=>
 rw[hw] at h;simp only[cG] at h;simp only[av] at hw;split at h<;>try (cases h;done)
 rename_i o ho;split at h<;>try (cases h;done)
 rename_i f ae ats aX;split at h<;>try (cases h;done)
 rename_i fn' hf;simp only[aB,bL] at h;obtain⟨rfl,rfl⟩:=h;have hk:kind≠ .early:=by cases kind<;>first| (simp;done)|cases hw.2
 have hwn:Region.wanted o (yielded ops tmps)=true:=by simpa [ho] using hw.1
 refine⟨ops,i,rest,k,o,f,ae,ats,rfl,ho,hwn,hk,aX,hf,rfl,λv=>?_⟩;have:=Frame.finish_at (b:=⟨fnn,tmps,.inRegion ops (i::rest)::k,defers,.run,kind,none⟩) (a:=⟨tmps,defers⟩) (ops:=ops) (i:=i) (rest:=rest) (k:=k) (v:=v);rw[ho] at this;exact this.symm
variable {w w':World} {v:Value}
theorem IZ(h:CG P fr=some (fn,args))(hE:Jr fn E){Aw:Array Event}(dz:(E args).run P w= .ok v w')
 (WB:∀f,(E args).events P w #[⟨.mark (.extern f),false,true⟩]= #[⟨.mark (.extern f),false,true⟩]++Aw)(hs:∀x∈Aw,x.sync=true/\∀g,x.loc≠ .mark (.extern g))(cs:List Frame):stepG P main (G fr cs) w= .go (G (fr.finish v) cs) w' Aw:=by
 obtain⟨ops,i,rest,k,o,f,ae,ats,e,ho,hw,hk,aX,hf,ha,rq⟩:=Q5 h;have:=stepG_entry (P:=P) (main:=main) (rest:=rest) (b:=fr) (a:=⟨fr.tmps,fr.defers⟩) (kk:=k) (cs:=cs) ho hw hk aX hf hE.name hE.aoY hE.next hE.ext (v:=v) (w':=w') (w:=w) (by rw[ha];exact dz) (by rw[ha];exact WB f) hs
 grind
def Cc{ad:Addr}{k:IntKind}{x y z:Int}(h:CG P fr=some (fn,#[.pointer (some ad),.int k y,.int k z]))(hE:Jr fn (Extern.Atomic.casT (.int k)))(hc:w.cell? ad=some (.int k x))(hz:w.frozen? ad=false)(eA:x≠y)(cs:List Frame):
 stepG P main (G fr cs) w= .go (G (fr.finish (.bool false)) cs) w #[⟨.cell ad,false,true⟩]:=
 IZ h hE (by rw[casT_eq];exact run_cas_miss_entry hc hz eA) (λf=>by rw[casT_eq,events_cas_miss_entry hc hz eA];rfl) (sync_r ad) cs
def Ll{ad:Addr}{k:IntKind}{y z:Int}(h:CG P fr=some (fn,#[.pointer (some ad),.int k y,.int k z]))(hE:Jr fn (Extern.Atomic.casT (.int k)))(hc:w.cell? ad=some (.int k y))(hz:w.frozen? ad=false)(cs:List Frame):
 stepG P main (G fr cs) w= .go (G (fr.finish (.bool true)) cs) (w.setCell ad (.int k z)) #[⟨.cell ad,false,true⟩,⟨.cell ad,true,true⟩]:=
 IZ h hE (by rw[casT_eq];exact run_cas_hit_entry hc hz) (λf=>by rw[casT_eq,events_cas_hit_entry hc hz];rfl) (sync_rw ad) cs
def UF{k:IntKind}{n:Int}(h:CG P fr=some (fn,#[.int k n]))(hE:Jr fn Extern.Sync.canSpin)(h4:n <4)(cs:List Frame):
 stepG P main (G fr cs) w= .go (G (fr.finish (.bool w.spins)) cs) w.asked #[]:=by
 have h4':¬(n>=4):=by omega
 exact IZ h hE (by rw[canSpin_eq,cy h4'];rfl) (λf=>by simp[canSpin_eq]) (by simp) cs
theorem M1(h:CG P fr=some (fn,args))(hE:Jr fn Extern.OsHooks.nano)(hq:fn.norace=true)(cs:List Frame):
 stepG P main (G fr cs) w= .go (G (fr.finish (.int .i64 ((w.os.mono+w.tick:Nat):Int))) cs) w.later #[]:=by
 obtain⟨ops,i,rest,k,o,f,ae,ats,e,ho,hw,hk,aX,hf,ha,rq⟩:=Q5 h;have:=stepG_nanotime (P:=P) (main:=main) (rest:=rest) (b:=fr) (a:=⟨fr.tmps,fr.defers⟩) (kk:=k) (cs:=cs) (w:=w) ho hw hk aX hf hE.name hE.aoY hE.next hE.ext hq
 grind
end
def tdR(n i:Nat):Code->List Item->Option (List Item)
 | .region m ops _,k=>bif Nat.beq m n then some (.inRegion ops ((List.range ops.size).drop i)::k) else none
 | .seq a b,k=>match tdR n i a (.code b::k) with
  |some r=>some r
  |none=>tdR n i b k
 | .cond _ x y,k=>match tdR n i x k with
  |some r=>some r
  |none=>tdR n i y k
 | .block id c,k=>tdR n i c (.inBlock id::k)
 | .loop c,k=>tdR n i c (.inLoop c::k)
 | .scope c,k=>tdR n i c (.inScope c::k)
 |_,_=>none
def tdB(n:Nat):Code->List Item->Option (List Item)
 | .seq a b,k=>match tdB n a (.code b::k) with
  |some r=>some r
  |none=>tdB n b k
 | .cond _ x y,k=>match tdB n x k with
  |some r=>some r
  |none=>tdB n y k
 | .block id c,k=>bif Nat.beq id n then some (.code (.block id c)::k) else tdB n c (.inBlock id::k)
 | .loop c,k=>tdB n c (.inLoop c::k)
 | .scope c,k=>tdB n c (.inScope c::k)
 |_,_=>none
def atP(P:Program)(f:Nat)(td:Code->List Item->Option (List Item)):List Item:=match P.funcs[f]? with
 |some fn=>match fn.body with
  |some c=>match td c [] with
   |some r=>r
   |none=>[]
  |none=>[]
 |none=>[]
def tdF(P:Program)(f n i:Nat):List Item:=atP P f (tdR n i)
def ovr(v:Nat->Value):List (Nat×Value)->Nat->Value
 | [],i=>v i
 | (j,x)::l,i=>bif Nat.beq i j then x else ovr v l i
def mkT(v:Nat->Value)(l:List (Nat×Value))(n:Nat):Array Value:=((List.range n).map (ovr v l)).toArray
structure FD where
 f:Nat
 td:List Item
 kind:CallKind
 size:Nat
 live:List (Nat×Value)
def FOK(d:FD)(fr:Frame):Prop:=fr.fn=d.f/\fr.todo=d.td/\fr.defers=[]/\fr.mode= .run/\fr.kind=d.kind/\fr.roundOf=none/\fr.tmps.size=d.size/\∀p∈d.live,fr.tmps[p.1]?=some p.2
def agk:List FD->List Frame->Prop
 | [],[]=>True
 |d::ds,f::fs=>FOK d f/\agk ds fs
 |_,_=>False
def AtD(ds:List FD)(cs:List Frame)(g:Goroutine):Prop:=∃f fs,agk ds (f::fs)/\g=G f (fs++cs)
theorem AtD.run{ds:List FD}{g:Goroutine}(h:AtD ds cs g):g.status= .running/\g.offers=none:=by
 obtain⟨f,fs,_,rfl⟩:=h;exact⟨rfl,rfl⟩
def aFS(d:FD)(v:Nat->Value):Frame:=⟨d.f,mkT v d.live d.size,d.td,[],.run,d.kind,none⟩
def fe:List FD->(Nat->Nat->Value)->List Frame
 | [],_=>[]
 |d::ds,v=>aFS d (v 0)::fe ds λk=>v (k+1)
theorem aoC{T:Array Value}:∀ {l:List (Nat×Value)},(∀p∈l,T[p.1]?=some p.2)->∀i,i <T.size->ovr (λi=>T.getD i undef) l i=T.getD i undef
 | [],_,i,_=>rfl
 | (j,x)::l,h,i,hi=>by
  simp only[ovr];cases e:Nat.beq i j with
  |true=>
   simp_all
  |false=>simp only[jI];exact aoC (λp hp=>h p (by simp[hp])) i hi
theorem FOK.mk{d:FD}(h:FOK d fr):fr=aFS d λi=>fr.tmps.getD i undef:=by
 rcases fr with ⟨fn,tmps,todo,defers,mode,kind,ro⟩
 obtain⟨h1,h2,h3,h4,h5,h6,h7,h8⟩:=h;simp only at h1 h2 h3 h4 h5 h6 h7 h8;subst h1 h2 h3 h4 h5 h6;simp only[aFS,Frame.mk.injEq,true_and,Mg];apply w7;intro i;simp only[mkT,<-h7];rcases Dr i tmps.size with hi|hi
 .have:((List.range tmps.size).map (ovr (λi=>tmps.getD i undef) d.live)).toArray[i]?=some (ovr (λi=>tmps.getD i undef) d.live i):=by simp[hi]
  rw[this,aoC h8 i hi,fX,tO hi];rfl
 rw[Array.getElem?_eq_none hi,Array.getElem?_eq_none (by simpa using hi)]
theorem agk.mk:∀ {ds:List FD} {fs:List Frame},agk ds fs->∃v,fs=fe ds v
 | [],[],_=>⟨λ_ _=>undef,rfl⟩
 |d::ds,f::fs,h=>by
  obtain⟨v,hv⟩:=agk.mk h.2;exact⟨λk=>match k with
   |0=>λi=>f.tmps.getD i _
   |k+1=>v k,by simp only[fe];rw[<-FOK.mk h.1,<-hv]⟩
 | [],_::_,h=>h.elim
 |_::_,[],h=>h.elim
abbrev azt:=Nat×List Item×List Deferred×FrameMode×CallKind×Option Nat×Nat×List (Option Value)
def aEv(idx:List Nat)(fr:Frame):azt:=(fr.fn,fr.todo,fr.defers,fr.mode,fr.kind,fr.roundOf,fr.tmps.size,idx.map λi=>fr.tmps[i]?)
def NP(d:FD):azt:=(d.f,d.td,[],.run,d.kind,none,d.size,d.live.map λp=>some p.2)
def sigs:List FD->List Frame->Option (List azt)
 | [],[]=>some []
 |d::ds,f::fs=>match sigs ds fs with
  |some l=>some (aEv (d.live.map (·.1)) f::l)
  |none=>none
 |_,_=>none
def avz{d:FD}(h:aEv (d.live.map (·.1)) fr=NP d):FOK d fr:=by
 simp only[aEv,NP,bL,qU] at h;obtain⟨h1,h2,h3,h4,h5,h6,h7,h8⟩:=h;exact⟨h1,h2,h3,h4,h5,h6,h7,λp hp=>List.map_inj_left.1 h8 p hp⟩
theorem agL:∀ {ds:List FD} {fs:List Frame},sigs ds fs=some (ds.map NP)->agk ds fs
 | [],[],_=>trivial
 |d::ds,f::fs,h=>by
  simp only[sigs] at h;split at h<;>try grind
  rename_i l hl;simp only[bR,aB,iH] at h;exact⟨avz h.1,agL (by rw[hl,h.2])⟩
 | [],_::_,h=>by cases h
 |_::_,[],h=>by cases h
def goS(st:Frame->Bool)(P:Program)(ty:TypeId):Nat->Frame->List Frame->Option (Frame×List Frame×List Nat)
 |0,_,_=>none
 |n+1,fr,jv=>bif st fr then some (fr,jv,[]) else match PM P ty gA fr jv with
  |some (.go oe gQ,[],[],bs)=>match goS st P ty n oe gQ with
   |some (f,s,b)=>some (f,s,bs++b)
   |none=>none
  |_=>some (fr,jv,[])
abbrev Rs:=Option (Frame×List Frame×List (Nat×Value)×List (Nat×Nat)×List Nat)
def Vy(st:Frame->Bool)(P:Program)(ty:TypeId):List Frame->Rs
 |f::s=>match goS st P ty 400 f s with
  |some (f,s,b)=>some (f,s,[],[],b)
  |none=>none
 | []=>none
def mT(st:Frame->Bool)(P:Program)(ty:TypeId)(c:Me):List Frame->Rs
 |fr::jv=>match ac2 P ty c fr jv with
  |some (oe,gQ,ws,ks,b1,b2)=>match goS st P ty 400 oe gQ with
   |some (f,s,b3)=>some (f,s,ws,ks,b1++(b2++b3))
   |none=>none
  |none=>none
 | []=>none
def F4(st:Frame->Bool)(P:Program)(ty:TypeId)(v:Value):List Frame->Rs
 |fr::jv=>Vy st P ty (fr.finish v::jv)
 | []=>none
abbrev Out:=Option (Option (List azt)×List (Nat×Value)×List (Nat×Nat)×List Nat)
def SA(ds:List FD):Rs->Out
 |some (f,s,ws,ks,bs)=>some (sigs ds (f::s),ws,ks,bs)
 |none=>none
def nB:Rs->Nat
 |some (_,_,_,_,bs)=>bs.length
 |none=>0
def Comes(W:Nat)(ds:List FD)(ws:List (Nat×Value))(ks:List (Nat×Nat))(r:Rs):Prop:=SA ds r=some (some (ds.map NP),ws,ks,List.replicate (nB r) W)
section
variable {P:Program} {ty:TypeId} {W:Nat} {main:Bool} {Live:World->Prop} {st:Frame->Bool} {ds Lq:List FD} {cs:List Frame} {g:Goroutine}
def Comes.ok{ws:List (Nat×Value)}{ks:List (Nat×Nat)}{r:Rs}(h:Comes W ds ws ks r):∃f s bs,r=some (f,s,ws,ks,bs)/\agk ds (f::s)/\∀b∈bs,b=W:=by
 unfold Comes SA at h
 match r,h with
 |some (f,s,ws',ks',bs),h=>
  simp only[aB,bL] at h;obtain⟨h1,rfl,rfl,h2⟩:=h;exact⟨f,s,bs,rfl,agL h1,λb hb=>by rw[h2] at hb;exact List.eq_of_mem_replicate hb⟩
def W5{Stop:Goroutine->Prop}(hL:∀w,Live w->j9 ty W w gA):∀ {n:Nat} {fr f:Frame} {jv s:List Frame} {bs:List Nat},goS st P ty n fr jv=some (f,s,bs)->(∀b∈bs,b=W)->
 ∀cs,(∀g,g=G f (s++cs)->Stop g)->∃m,Pure P main Live Stop m (G fr (jv++cs))
 |0,_,_,_,_,_,h,_,_,_=>by cases h
 |n+1,fr,f,jv,s,bs,h,hb,cs,hS=>by
  simp only[goS] at h;cases dt:st fr with
  |true=>
   rw[dt] at h;simp only[cG,aB,bL] at h;obtain⟨rfl,rfl,rfl⟩:=h;exact⟨0,hS _ rfl⟩
  |false=>
  rw[dt] at h;simp only[jI] at h;split at h
  .rename_i oe gQ b1 h0;split at h<;>try (cases h;done)
   rename_i f2 s2 b2 h1;simp only[aB,bL] at h;obtain⟨rfl,rfl,rfl⟩:=h;obtain⟨m,hm⟩:=W5 hL h1 (λb hm=>hb b (by simp[hm])) cs hS;refine⟨m+1,rfl,_,λw hw=>?_,hm⟩;have:=pS h0 (λb hm=>hb b (by simp[hm])) (.inr (hL w hw)) cs main;simp only[OV.is] at this;rw[this];rfl
  simp only[aB,bL] at h;obtain⟨rfl,rfl,rfl⟩:=h;exact⟨0,hS _ rfl⟩
def EY(hL:∀w,Live w->j9 ty W w gA){f:Frame}{s:List Frame}(h:Comes W Lq [] [] (Vy st P ty (f::s)))(cs:List Frame):∃m,Pure P main Live (AtD Lq cs) m (G f (s++cs)):=by
 obtain⟨f',s',bs,h1,h2,h3⟩:=h.ok;simp only[Vy] at h1;split at h1<;>try (cases h1;done)
 rename_i h0;obtain⟨rfl,rfl,_,_,rfl⟩:=h1;exact W5 hL h0 h3 cs λg hg=>⟨_,_,h2,hg⟩
def anE(hL:∀w,Live w->j9 ty W w gA)(h:∀v,Comes W Lq [] [] (Vy st P ty (fe ds v)))(eB:AtD ds cs g):∃m,Pure P main Live (AtD Lq cs) m g:=by
 obtain⟨f,fs,h1,rfl⟩:=eB;obtain⟨v,hv⟩:=h1.mk;exact EY hL (by rw[hv];exact h v) cs
def Vr(hL:∀w,Live w->j9 ty W w gA){c:Me}{ws:List (Nat×Value)}{ks:List (Nat×Nat)}(h:∀v,Comes W Lq ws ks (mT st P ty c (fe ds v)))(eB:AtD ds cs g):
 ∃g',(∀w,j9 ty W w c->stepG P main g w= .go g' (Kh W w ws) (ks.map (Ey W)).toArray)/\∃m,Pure P main Live (AtD Lq cs) m g':=by
 obtain⟨f,fs,h1,rfl⟩:=eB;obtain⟨v,hv⟩:=h1.mk;have h:=h v;rw[<-hv] at h;obtain⟨f',s',bs,h2,h3,h4⟩:=h.ok;simp only[mT] at h2;split at h2<;>try (cases h2;done)
 rename_i oe gQ ws' ks' b1 b2 h5;split at h2<;>try (cases h2;done)
 rename_i f2 s2 b3 h6;simp only[aB,bL] at h2;obtain⟨rfl,rfl,rfl,rfl,rfl⟩:=h2;exact⟨_,λw hw=>HU h5 (λb hm=>h4 b (by simp[hm])) (λb hm=>h4 b (by simp[hm])) (.inr hw) cs main,W5 hL h6 (λb hm=>h4 b (by simp[hm])) cs λg hg=>⟨_,_,h3,hg⟩⟩
theorem aJ0(hL:∀w,Live w->j9 ty W w gA){x:Value}{e:Frame->Option (Func×Array Value)}{r:Func×Array Value}(he:∀v,(fe ds v).head?.bind e=some r)(h:∀v,Comes W Lq [] [] (F4 st P ty x (fe ds v)))(eB:AtD ds cs g):
 ∃f fs,g=G f (fs++cs)/\e f=some r/\∃m,Pure P main Live (AtD Lq cs) m (G (f.finish x) (fs++cs)):=by
 obtain⟨f,fs,h1,rfl⟩:=eB;obtain⟨v,hv⟩:=h1.mk;refine⟨f,fs,rfl,?_,EY (st:=st) hL ?_ cs⟩
 .grind
 have:=h v;rw[<-hv] at this;exact this
end
def y7{F:α->Out}{X:α->Out}{l:List α}(h:l.map F=l.map X){x:α}(hx:x∈l):F x=X x:=by simp_all
end Go.L
