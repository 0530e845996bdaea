/- Part 7 of the proof. -/
import Derived.Test.YtfhaegdkhpdedaaGreatDoorM6
import Derived.Conc.Own
import Derived.KernelRfl
import Derived.Test.YtfhaegdkhpdedaaGreatDoorProg
set_option maxRecDepth 100000
set_option maxHeartbeats 4000000
set_option linter.all false
namespace Go.L
open Go Go.Conc
variable {ro:Nat→Option Obj} {o o':Option JS} {α β ι:Type} {f:FuncId} {Φ:Value→(Nat→Option Obj)→Cells→Prop} {t x:ByteArray} {ats:Array TypeId} {xs:List Int} {b i sz n d off b1 many b2 dL b3 bl bm bt br bg b4:Nat} {ys:List ByteArray} {args l vs:List Value} {vd vl:Value} {p:ByteArray×ByteArray} {NO jq:List Frame} {todo:List Nat} {y:Operand} {T E:TypeId} {Stop:Cells→Prop} {fn:Func} {D S hi r:Int} {ca:Array Value} {q:Bool} {cl fr:Frame}
def tkO(is:List Nat)(o:Option JS):List Sg:=(wL is o).getD []
attribute [irreducible] tkO
abbrev RCG(ro:Nat->Option Obj)(Φ:Value->(Nat->Option Obj)->Cells->Prop)(fr:Cells):Ending->St->Prop:=λen s'=>∃v bU Y,en= .returned v/\Sub ro bU/\(⟨bU,Y++fr⟩:St).le s'/\Φ v bU Y
def azA(P:Program)(f:FuncId)(args:List Value)(ro:Nat->Option Obj)(own:Cells)(Φ:Value->(Nat->Option Obj)->Cells->Prop):Prop:=
 ∀fr,Fn (C0L P) P f ⟨args⟩ ⟨ro,own++fr⟩ (RCG ro Φ fr)
def aBr{P:Program}(hm:P.follows .mixedOrders=true){L:Cells}(own:List Sg)(kn:Cells)(hk:Knows ro kn)(h:∀fr,J (XC P hm f ro (RCG ro Φ fr)) (pI P f args (own++[.l fr]) kn))(hL:den own=L:=by rfl):azA P f args ro L Φ:=by
 subst hL;intro fr;have h:=h fr;unfold pI at h;split at h<;>try exact h.elim
 rename_i fn hf;split at h<;>try exact h.elim
 rename_i c hc;cases hl:Nat.ble args.length fn.ntmps with
 |false=>rw[hl] at h;exact h.elim
 |true=>
  rw[hl] at h;have CM:x6 P f=fn:=by simp only[x6,hf]
  have:=h hk;simp only[JP,XC,KQ,CM] at this;have hd:den (own++[.l fr])=den own++fr:=by rw[rz];rfl
  rw[hd] at this;exact UA B6 hf hc hl this
section
variable {X:Cx} {o:Option JS}
def SG{own:Cells}(ps:List Nat)(hC:∀main T,X.C main T->C0L X.P main T)(hf:azA X.P f vs X.ro own Φ)(hj:∀v bU Y,Sub X.ro bU->Φ v bU Y->J (X.at bU) (rV ps v Y o))(h1:iC X.n (y7 X.P X.n) o=some (f,vs):=by kernel_rfl)(h2:fT ps o=some own:=by kernel_rfl):J X o:=by
 obtain⟨ops,i,todo,k,e,w,kn,p,rfl,ho,hw,hc⟩:=gF h1;obtain⟨ff,x,xs,at_,fi,ca,ws,a8,hx,xD,rfl⟩:=vK hc;intro ep;rcases p with ⟨dst,op,ty,pos,fX,g⟩
 dsimp only at a8;subst a8;have hp:=dN h2;have CM:Fn X.C X.P f ⟨fi++ws++ca⟩ ⟨X.ro,den w⟩ (RCG X.ro Φ (den (gz ps 0 w))):=λmain T hT c cs k1 k2=>
  (X.hC main T hT).mono _ ⟨X.ro,own++den (gz ps 0 w)⟩ _ (gG (J:=[]) (by rw[eR];exact hp) (Sub.refl _)) (Fn.weaken hC (hf _) main T hT c cs k1 k2)
 refine yQ (fi:=⟨fi⟩) (ca:=⟨ca⟩) (ws:=fi++ws++ca) X.hC ho hw hx ff xD (XA fi ws ca) CM (λv' s' hr=>?_) (λch s' hr=>by obtain⟨_,_,_,e,_⟩:=hr;cases e) (λs' hr=>by obtain⟨_,_,_,e,_⟩:=hr;cases e);obtain⟨v,bU,Y,hv,hs,hle,uz⟩:=hr;cases hv;have:=hj _ bU Y hs uz;rw[tx ho] at this;have:=this (ep.up hs);simp only[JP,lv,Na] at this;exact this.more X.hC hle
def aRn{wY:Nat->Option Obj}{fr:Cells}(hq:QR X (RCG wY Φ fr))(v:Value)(ps:List Nat)(Y:Cells)(lG:Sub wY X.ro)(hR:Φ v X.ro Y)(h1:yF (nz X.P X.n X.fn [] o)=some v:=by kernel_rfl)(h2:Yf (nz X.P X.n X.fn [] o)=Ye (nz X.P X.n X.fn [] o):=by kernel_rfl)(h3:fT ps o=some (Y++fr):=by kernel_rfl)(h4:Ha o=true:=by kernel_rfl):J X o:=
 bY hq v [] ps _ (Sub.refl _) ⟨v,X.ro,Y,rfl,lG,St.le_refl _,hR⟩ h1 h2 h3 h4
end
theorem adk{P:Program}{c:Code}{R:Ending->St->Prop}{s:St}{os:Os}{out:Array (Nat×ByteArray)}{Post:Value->World->Prop}(hf:P.funcs[f]?=some fn) (hb:fn.body=some c) (hl:Nat.ble args.length fn.ntmps=true) (hi:P.inits.idxOf? f=none)
 (aa4:∀v s0 w,R (.returned v) s0->cZ s0 w->Go.ConcM.OsLater os w.os->w.output=out->Post v w) (wP:∀ch s,¬R (.panicked ch) s)
 (h:Wp (C0L P) f none c (y9 P fn R) (A fn.ntmps (mC 0 args) []) s):T0L P os out Post (G (Frame.enter P f ⟨args⟩ .normal) []) s:=by
 have hT:C0L P true (T0L P os out Post):=⟨rfl,os,out,Post,rfl⟩;have kp:=Gn P os out Post
 let b:Frame:={(default:Frame) with fn:=f,kind:= .normal,roundOf:=none}
 have oN:Frame.enter P f ⟨args⟩ .normal=dH b (A fn.ntmps (mC 0 args) []) [.code c]:=by
  rw[<-ry args fn.ntmps (Nat.le_of_ble_eq_true hl)];simp[Frame.enter,dH,hf,hb,b]
 rw[oN];refine h true _ hT b [] [] rfl (by simp[b]) rfl λe a' s' q=>?_;have last:∀(todo:List Item),a'.defers=[]->eJ P (results fn a'.tmps) s' (λv s'=>∃s0,s0.le s'/\R (.returned v) s0) (λ_ _=>False)->T0L P os out Post (G {dH b a' todo with mode:= .returning} []) s':=by
  intro todo hd hr;refine ac1 rfl λw yy hos Im=>?_;obtain⟨r,es,dz,hl⟩:=lD _ _ _ _ w #[] hr yy;rw[Array.empty_append] at dz;cases r with
  |ok v w'=>
   obtain⟨s2,ht,s0,hle,hu⟩:=hl;refine⟨v,w',seen P f es,s2,?_,aa4 v s0 w' hu (cZ.of_le hle ht.nk) (by rw[ht.os];exact hos) (ht.output.trans Im),ht.sub (mG _ _ _)⟩;simp only[dH,b,G,stepG,unwind,hf,hd,dz,doReturn,hi,GStep.after,Array.append_empty,Bool.not_true,Bool.false_eq_true,if_false]
  |halt _ _=>obtain⟨_,_,hu⟩:=hl;exact hu.elim
 cases e with
 |normal=>exact kp.go rfl rfl (g':=G {dH b a' [] with mode:= .returning} []) (λw=>by simp[G,stepG,stepG.exec,dH,b]) (last _ q.1 q.2)
 |ret=>exact λtodo=>kp.go rfl rfl (g':=G {dH b a' (.code .ret::todo) with mode:= .returning} []) (λw=>by simp[G,stepG,stepG.exec,dH,b]) (last _ q.1 q.2)
 |panic ch=>exact(wP _ _ q.2).elim
 |exit id=>exact q.elim
 |goto l=>exact q.elim
 |outgrown=>exact q.elim
def aCS(P:Program)(f:FuncId)(args:List Value)(ro:Nat->Option Obj)(Φ:Value->Cells->Prop):Prop:=
 ∀os out (Post:Value->World->Prop),(∀v Y w,Φ v Y->cZ ⟨ro,Y⟩ w->Go.ConcM.OsLater os w.os->w.output=out->Post v w)->T0L P os out Post (G (Frame.enter P f ⟨args⟩ .normal) []) ⟨ro,[]⟩
def aRj{P:Program}(hm:P.follows .mixedOrders=true){Φ:Value->Cells->Prop}(hi:P.inits.idxOf? f=none)(kn:Cells)(hk:Knows ro kn)(h:∀fr,J (XC P hm f ro (RC ro fr Φ)) (pI P f args [.l fr] kn)):aCS P f args ro Φ:=by
 intro os out Post aa4;have h:=h [];unfold pI at h;split at h<;>try exact h.elim
 rename_i fn hf;split at h<;>try exact h.elim
 rename_i c hc;cases hl:Nat.ble args.length fn.ntmps with
 |false=>rw[hl] at h;exact h.elim
 |true=>
  rw[hl] at h;have CM:x6 P f=fn:=by simp only[x6,hf]
  have:=h hk;simp only[JP,XC,KQ,CM] at this;refine adk hf hc hl hi (λv s0 w hr yy hos Im=>?_) (λch s hr=>?_) this
  .obtain⟨v',Y,e,hle,uz⟩:=hr;cases e;refine aa4 _ Y w uz ?_ hos Im;have:=cZ.of_le hle yy;rwa[eR] at this
  obtain⟨v',Y,e,_⟩:=hr;cases e
theorem aRt{X:Cx}{v:Value}(enc:α->List Value){ps:List α}{L:Cells}(b:Nat)(x:α)(i j:Nat)(kO:bJ v sz E enc ps L)(hl:(enc x).length=sz)(hs:(enc x).all single=true)(hb:ps.length+1<=1048576)(hj:∀a c L',bJ (.slice a (ps++[x]).length c) sz E enc (ps++[x]) L'->J X (SA [i] (.slice a (ps++[x]).length c) L' o))
 (hv:iC X.n (apV X.P X.n) o=some (v,.slice (some ⟨b,0,none⟩) 1 1,E,sz):=by kernel_rfl)(h2:fT [i] o=some L:=by kernel_rfl)(h3:fT [j] o=some [(b,.cells ⟨([x].map enc).flatten⟩ E (0,0))]:=by kernel_rfl):J X o:=
 gC [i] [j] _ kO (λs _ hZ=>de [x] (hZ _ (.head _)) (by grind)) (λp hp=>by grind) (by simpa using hb) (λv' L' h=>by obtain⟨a,c,rfl⟩:=h.form;exact hj a c L' h) hv h2 h3
open Go.ConcR (KK wgBlock WgAt stA smA rd wr)
open Go.ConcM (OsLater)
section
variable {X:Cx} {o:Option JS}
def ldH(P:Program)(n:Nat)(p:Oper)(e:Env):Option Addr:=match p.op with
 | .load T x=>match cV P T with
  |some ⟨_,_,_,false⟩=>match dv n e x with
   |some (.pointer (some a))=>some a
   |_=>none
  |_=>none
 |_=>none
def jlh{t:TypeId}{v:Value}(h:X.ro b=some (.pending ⟨l⟩ t))(A3:off≠wB)(hl:nth l off=some v)(hj:J X (JW [] v o))(htt:t<=NI:=by decide)(hv:fp X.n (ldH X.P X.n) o=some ⟨b,off,none⟩:=by kernel_rfl)(hB:fT [] o=some []:=by kernel_rfl):J X o:=by
 refine jGN hv hB (λs p e ho hh hf=>?_) hj;unfold ldH at hf;split at hf<;>try (cases hf;done)
 rename_i T x a8;split at hf<;>try (cases hf;done)
 rename_i d sz z ig;split at hf<;>try (cases hf;done)
 rename_i a hx;simp only[aD] at hf;subst hf;obtain⟨dL,tf⟩:=bA ig;refine⟨by rw[a8];rfl,λs0 Hr EY ops i ho rest hwt s' hs todo Q hk=>qf X.hC ho rest hwt (by rw[a8];rfl) (λs1 fq f hf1 K E hK=>?_) hs hk⟩;simp only[execOp,a8,Instr.loadAt,hf1 _ _ hx,Instr.sureAddr,loadVar,aH,aQ,pS tf,aX,cF];exact⟨rfl,rfl,⟨l⟩,t,(0,0),v,.inr ⟨fq _ _ (Hr _ _ (.inl h)),A3,htt⟩,by rw[xS] at hl;simpa using hl,hK⟩
end
section
variable {P:Program}
def aqy(hi:(P.info? T).map (·.size)=some 1){v:Value}(hv:v.oneCell'=true)(hc:v.cells= #[v]){w:World}{c:Array Value}{t:TypeId}(hw:w.heap[b]?=some (.cells c t (0,0))) (A3:off <c.size):
 (Instr.storeAt T (.pointer (some ⟨b,off,none⟩)) v).run P w= .ok () (w.setCell ⟨b,off,none⟩ v)/\∀es,(Instr.storeAt T (.pointer (some ⟨b,off,none⟩)) v).events P w es=es.push ⟨.cell ⟨b,off,none⟩,true,false⟩:=by
 have jP:w.cell? ⟨b,off,none⟩=some c[off]:=by simp[World.cell?,hw,A3]
 have aS9:w.frozen? ⟨b,off,none⟩=false:=by simp[World.frozen?,hw]
 have akE:(⟨b,off,none⟩:Addr).add 0=⟨b,off,none⟩:=by unfold Addr.add;split<;>simp_all
 cases hq:P.info? T with
 |none=>simp[hq] at hi
 |some i=>
  have hs:i.size=1:=by simp[hq] at hi;exact hi
  have dr:(store ((⟨b,off,none⟩:Addr).add 0) v).run P w= .ok () (w.setCell ⟨b,off,none⟩ v):=by
   rw[akE,run_store P w _ v _ hv,jP];simp[aS9]
  have WA:∀es,(store ((⟨b,off,none⟩:Addr).add 0) v).events P w es=es.push ⟨.cell ⟨b,off,none⟩,true,false⟩:=λes=>by
   rw[akE,events_store P w es _ v _ hv,jP];simp only[aS9,aX,cF];rfl
  simp_all[Instr.storeAt,Instr.sureAddr,storeVar,sizeOf,typeInfo,storeCells]
end
section
variable {ι:Type} {E:fW ι} {l1:List ι} {Stop:Goroutine->St->Prop}
def aR2(i:Nat)(ps:List Nat):Option JS->Option JS
 |some ⟨.KZ ops base Pl Sl k,e,w,kn⟩=>some ⟨.KZ ops base ((i,undef)::Pl) (pending ops i Sl) k,e,gz ps 0 w,⟨[],[]⟩⟩
 |_=>none
def aPt(n i:Nat):Option JS->Bool
 |some ⟨.KZ ops base Pl Sl _,_,_,_⟩=>(pending ops i Sl).all λx=>yP ops n base Pl x.1
 |_=>false
def aR1(P:Program)(n:Nat)(i:Nat)(rest:Env):Option JS->Option (Nat×Nat×Value)
 |some ⟨.KZ ops base Pl Sl k,e,w,kn⟩=>match ops[i]? with
  |some p=>match p.op,p.guard with
   | .store T x y,none=>match cV P T with
    |some ⟨_,sz,_,_⟩=>bif Nat.beq sz 1 then (match dv n (fe ops base i Pl++rest) x with
     |some (.pointer (some ⟨b,off,none⟩))=>match dv n (fe ops base i Pl++rest) y with
      |some v=>some (b,off,v)
      |none=>none
     |_=>none) else none
    |_=>none
   |_,_=>none
  |none=>none
 |_=>none
def jhs{X:Cx}{rest:Env}(hP:X.P=E.P)(hX:∀m T',X.C m T'->m=false/\T'=rA E l1 Stop)(aR7:X.bR=none)(hnr:(E.P.funcs[X.fn]?).any (·.norace)=false) (hK:LK X i o rest todo) (ps:List Nat) {v:Value} {Y:Cells} {c:List Value}
 (qS:X.ro E.Hb=some (.cells ⟨c⟩ E.ht (0,0))) (A3:wB <c.length) (Qx:c.length=E.hc.size) (hce:∀j,j≠wB->c[j]?=E.hc[j]?) (WR:E.Gd l1 v Y) (hv1:v.oneCell'=true) (hv2:v.cells= #[v])
 (hj:J (X.at (lh X.ro E.Hb E.hole)) (aR2 i ps o)) (h1:aR1 X.P X.n i rest o=some (E.Hb,wB,v)) (ayi:fT ps o=some Y) (aSh:aPt X.n i o=true):J X (ajN i rest todo o):=by
 unfold aR1 at h1;split at h1<;>try (cases h1;done)
 rename_i ops base Pl Sl k e w kn;split at h1<;>try (cases h1;done)
 rename_i p hp;split at h1<;>try (cases h1;done)
 rename_i T x y a8 hgd;split at h1<;>try (cases h1;done)
 rename_i d sz z ag ig;cases Wo:Nat.beq sz 1 with
 |false=>rw[Wo] at h1;cases h1
 |true=>
 rw[Wo] at h1;simp only[cH] at h1;have Wo:=eC Wo;subst Wo;split at h1<;>try (cases h1;done)
 rename_i b0 off hx;split at h1<;>try (cases h1;done)
 rename_i v' hy;simp only[Option.some.injEq,Prod.mk.injEq] at h1;obtain⟨rfl,rfl,rfl⟩:=h1;have ayi:=dN ayi;dsimp only at ayi;simp only[ajN];intro ep main T1 hT b Fx cs hf hk hb hQ;obtain⟨rfl,rfl⟩:=hX _ _ hT;refine Mf l1 Stop rfl λwd ha=>?_;have hwb:wd.heap[E.Hb]?=some (.cells ⟨c⟩ E.ht (0,0)):=(ha.ro E.Hb _ qS).elim (·.1) λh=>h.elim (λ⟨_,_,_,e,_⟩=>by cases e) λ⟨_,_,e,_⟩=>by cases e
 have sD:(X.P.info? T).map (·.size)=some 1:=by
  obtain⟨dL,tf⟩:=bA ig;obtain⟨ii,hi1,R3,_⟩:=tf.info;rw[hi1];simp[R3]
 have hr:=aqy (P:=X.P) sD hv1 hv2 hwb (by simpa using A3);have hw:Region.wanted p (yielded ops (A X.n (fe ops base i Pl++rest) X.D).tmps)=true:=jJ _ _ hgd;have hex:execOp (A X.n (fe ops base i Pl++rest) X.D).eval p=(Instr.storeAt T (.pointer (some ⟨E.Hb,wB,none⟩)) v' >>= λ_=>pure Next.skip):=by
  rw[ma];simp only[execOp,a8,bZ hx,bZ hy]
 have dr:=stepG_none (P:=X.P) (main:=false) (b:=b) (k:=Fx) (cs:=cs) (rest:=todo) (a:=A X.n (fe ops base i Pl++rest) X.D) (w:=wd) (w':=wd.setCell ⟨E.Hb,wB,none⟩ v') hp hw hk (by rw[hex];simp[hr.1]);have hli:listed X.P b.fn (A X.n (fe ops base i Pl++rest) X.D) p wd= #[⟨.cell ⟨E.Hb,wB,none⟩,true,false⟩]:=by
  unfold listed;rw[hex];have:(Instr.storeAt T (.pointer (some ⟨E.Hb,wB,none⟩)) v' >>= λ_=>pure Next.skip).events X.P wd #[]= #[⟨.cell ⟨E.Hb,wB,none⟩,true,false⟩]:=by simp[hr.2,hr.1]
  rw[this,seen_def,hP,hf];simp[seenStep,hnr]
 rw[hli] at dr;rw[aR7] at hb;rw[<-KV hb,<-KV hb] at dr;rw[dF] at dr;rw[hP] at dr;refine⟨_,_,_,⟨lh X.ro E.Hb E.hole,den (gz ps 0 w)⟩,dr,rfl,.inr ⟨v',Y,den (gz ps 0 w),⟨c⟩,qS,by simpa using A3,by simpa using Qx,λj hj=>by simpa using hce j hj,ayi,WR,rfl,rfl,St.le_refl _⟩,?_⟩;have CL:∀j u,(j,u)∈pending ops i Sl->yP ops X.n base Pl j=true:=λj u Kt=>by
  have h:=aSh;simp only[aPt] at h;exact c8.1 h (j,u) Kt
 have hpd:db ops i=p.dst:=by simp[db,hp]
 have hj:=hj (λx hx=>by cases hx);simp only[aR2,JP] at hj hK;have key:=hK undef ⟨lh X.ro E.Hb E.hole,den (gz ps 0 w)⟩ (λj u Kt hpb=>by rw[CL j u Kt] at hpb;cases hpb) (λpf=>?_)
 .rw[hpd] at key;exact key _ _ hT b Fx cs hf hk (by rw[aR7];exact hb) hQ
 have:=hj ⟨pf.1,(λj u B Kt hB=>by cases hB)⟩;rw[Na] at this;exact this
end
section
variable {ι:Type} {E:fW ι} {b:Frame} {Fx:List Item} {cs:List Frame} {n:Nat} {D:List Deferred} {ro:Nat->Option Obj} {o:Option JS} {ops:Array Oper} {l1:List ι}
def aN8{o1:ι}{os:List ι}{a:Oper}{x:Operand}{k:List Item}(ho:ops[0]?=some a) (hg:a.guard=none) (a8:a.op= .call ⟨.value (.func f),#[x],ats⟩) (hf:FF E.P f) (hk:b.kind≠ .early) (hr:b.roundOf=none)
 (aSN:∀cs,∃n,E.pu (E.M.At E.Mu (.ld os.length) cs) n (G (Frame.enter E.P f #[.pointer (some ⟨E.Mu,0,none⟩)] .normal) cs)) (qS:ro E.Hb=some E.hole)
 (h:∀l v X,E.Gd l v X->l.length <E.mxl->TT (rA E (l++[o1]) (E.Unl (E.Stp os) os.length)) b k cs n D (lh ro E.Hb (E.full v)) (bkO X (stO a.dst (.tuple #[]) o)))
 (hx:evO n x o=some (.pointer (some ⟨E.Mu,0,none⟩)):=by kernel_rfl):TT (gi E.P false (E.Stp (o1::os))) b (.inRegion ops [0]::k) cs n D ro o:=by
 rintro e w kn rfl ep;have hT:=fH E.P false (E.Stp (o1::os));refine PN (rest:=[]) hT ho hg hk hr a8 hf ?_;have r8:(#[x]:Array Operand).map (A n e D).eval= #[.pointer (some ⟨E.Mu,0,none⟩)]:=by
  rw[ma];simp only[oV,bV,lN,bZ hx]
 rw[r8];refine gi.stop ?_;obtain⟨m,hm⟩:=aSN (dH b (A n e D) (.inRegion ops [0]::k)::cs);refine⟨_,cs,m,hm,qS,λl v X WR NF=>?_⟩;rw[mZ,ho];simp only[oT];rw[dF];have hT1:=sN (E:=E) (l++[o1]) (E.Unl (E.Stp os) os.length);refine rS hT1 ?_;have:=h l v X WR NF _ _ _ (abT X _ _ _ _) (λx hx=>by cases hx);rw[lv] at this;exact this
def avr{os:List ι}{ul:FuncId}(hf:E.P.funcs[f]?=some fn) (FA:fn.results= #[]) (Jm:Hu E.P ul=true)
 (hun:∀cs,∃n,E.pu (E.M.At E.Mu (.ui os.length) cs) n (G (Frame.enter E.P ul #[.pointer (some ⟨E.Mu,0,none⟩)] .deferred) cs)) (qS:ro E.Hb=some E.hole) (ps:List Nat) {Y:Cells}
 (hk:gi E.P false (E.Stp os) (G (cl.finish (.tuple #[])) NO) ⟨ro,Y⟩) (hY:fT ps o=some Y:=by kernel_rfl):
 TT (rA E l1 (E.Unl (E.Stp os) os.length)) (W5 f .normal) [] (cl::NO) n [{target:= .fn (.func ul) ⟨[]⟩,args:=⟨[.pointer (some ⟨E.Mu,0,none⟩)]⟩}] ro o:=by
 rintro e w kn rfl ep;have hT:=sN (E:=E) l1 (E.Unl (E.Stp os) os.length);have hT1:=fH E.P false (E.Stp os);refine hT.go rfl rfl (g':=G {dH (W5 f .normal) (A n e [{target:= .fn (.func ul) ⟨[]⟩,args:=⟨[.pointer (some ⟨E.Mu,0,none⟩)]⟩}]) [] with mode:= .returning} (cl::NO)) (λw=>by simp[G,stepG,stepG.exec,dH,W5])<|nf (C:=CA E.P) (λ_ _ h=>h) hT (.inl rfl) (nT Jm) (ds:=[]) rfl ?_;have Kz:((⟨[.pointer (some ⟨E.Mu,0,none⟩)]⟩:Array Value)++(⟨[]⟩:Array Value))= #[.pointer (some ⟨E.Mu,0,none⟩)]:=by simp
 rw[Kz];refine rA.stop ?_;obtain⟨m,hm⟩:=hun _;refine⟨qS,_,_,m,hm,rfl,?_⟩;have hp:=dN hY;refine xL (C:=CA E.P) (λ_ _ h=>h) (T:=gi E.P false (E.Stp os)) hT1 hf (fr:={dH (W5 f .normal) (A n e []) [] with mode:= .returning}) rfl rfl rfl rfl (R:=λen s'=>en= .returned (.tuple #[])/\s'=⟨ro,Y⟩) ?_ (λv s' hv=>?_)
 .have h1:∀tm,results fn tm=Sem.pure (.tuple #[]):=by intro tm;simp[results,FA];rfl
  rw[h1];exact⟨⟨ro,Y⟩,gG hp (Sub.refl _),rfl,rfl⟩
 obtain⟨hv,rfl⟩:=hv;cases hv;exact hk
def avt{dn:FuncId}{bs:List Nat}(hf:E.P.funcs[b.fn]?=some fn) (FA:fn.results= #[]) (nZ:Hu E.P dn=true) (Uj:B4 E.P E.ty E.max (Frame.enter E.P dn #[.pointer (some ⟨E.Wg,0,none⟩)] .deferred)=some bs) (hbs:∀b∈bs,b=E.Wg) (hk:b.kind= .deferred) (hr:b.roundOf=none):
 TT (gi E.P false (E.Stp [])) b [] [gX E.P] n [{target:= .fn (.func dn) ⟨[]⟩,args:=⟨[.pointer (some ⟨E.Wg,0,none⟩)]⟩}] ro o:=by
 rintro e w kn rfl ep;have hT2:=fH E.P false (E.Stp []);refine hT2.go rfl rfl (g':=G {dH b (A n e [{target:= .fn (.func dn) ⟨[]⟩,args:=⟨[.pointer (some ⟨E.Wg,0,none⟩)]⟩}]) [] with mode:= .returning} [gX E.P]) (λw=>by simp[G,stepG,stepG.exec,dH,hr])<|nf (C:=CA E.P) (λ_ _ h=>h) hT2 (.inl rfl) (nT nZ) (ds:=[]) rfl<|gi.stop ?_;have hq:QuitsD E.P 2 0 (G {dH b (A n e []) [] with mode:= .returning} [gX E.P]):=zv rfl rfl hk hf FA;exact Rg (E:=E.oQ) (.inl rfl) hq Uj hbs
end
section
variable (P:Program) (ty:TypeId)
def y5(nw:Nat)(f:Frame):Bl:=
 E1 P ty 300 f [] λf s=>Ft P ty gq true none [(1,0)] f s λf s=>E1 P ty 300 f s λf s=>
  alk (λv:Nat=>Ft P ty (Hk ((v:Int)*KK) 0) false (some (0,.u64,((v+1:Nat):Int)*KK)) [(7,0),(8,0)] f s λf s=>E1 P ty 300 f s λf s=>
   bif Nat.beq v 0 then Ft P ty gq false none [(5,1)] f s λf s=>E1 P ty 300 f s λf s=>Ft P ty gq true none [(2,0)] f s (goR P ty 300)
   else Ft P ty gq true none [(2,0)] f s (goR P ty 300)) (List.range (nw+1))
end
section
variable {ι:Type} {E:fW ι} {Fin:Goroutine->Prop} {L:Nat->Option Obj} {Q:Machine->Outcome->World->Trace->Prop} {pend nw d0:Nat} {os:List ι} {s:St} {cs:List Frame}
def WV{k:Frame->List Frame->Bl}{bs:List Nat}(h:E1 E.P E.ty n fr jq k=some bs)(hb:∀b∈bs,b=E.Wg)
 (hk:∀n8 gJ tZ,k n8 gJ=some tZ->(∀b∈tZ,b=E.Wg)->TG E Fin L Q pend nw os d0 (G n8 (gJ++cs)) s):TG E Fin L Q pend nw os d0 (G fr (jq++cs)) s:=
 WX h hb _ hk λfr jq n8 gJ h1 hT=>agf rfl rfl (λw hw=>h1 cs _ w (sZ _ hw)) hT
def afA{c:Frame}{f:Frame}{bs:List Nat}(h:y5 E.P E.ty nw f=some bs)(hb:∀b∈bs,b=E.Wg)(u2:nw <E.max)
 (hT:TG E Fin L Q 1 nw os 0 (G (c.finish (.tuple #[])) cs) s):TG E Fin L Q 0 nw os 0 (G f (c::cs)) s:=by
 have CN:∀ {f:Frame} {jq:List Frame} {bs:List Nat},Ft E.P E.ty gq true none [(2,0)] f jq (goR E.P E.ty 300)=some bs->(∀b∈bs,b=E.Wg)->TG E Fin L Q 1 nw os 1 (G f (jq++c::cs)) s:=by
  intro f jq bs h hb;obtain⟨f',s',tZ,h1,h2,h3⟩:=gx h hb;refine Vq (ib:=1) (d':=0) rfl (by omega) λv hv=>⟨_,_,λw hw=>⟨w,h3 _ _ w (.inl ⟨rfl,rfl⟩),dV.refl w,hw⟩,(by intro e he;simp[Ed] at he;subst he;exact .inr (.inl rfl)),rfl,rfl,?_⟩;exact KM (c:=c) (cs:=cs) h1 true (λg=>TG E Fin L Q 1 nw os 0 g s) hT λg g' hg hg' dr hT'=>agf hg hg' (λw _=>dr w) hT'
 refine WV (jq:=[]) h hb λf1 s1 b1 k1 k2=>?_;obtain⟨f',s',tZ,h1,h2,h3⟩:=gx k1 k2;refine Vq (ib:=0) (d':=1) rfl (by omega) λv hv=>⟨_,_,λw hw=>⟨w,h3 _ _ w (.inl ⟨rfl,rfl⟩),dV.refl w,hw⟩,(by intro e he;simp[Ed] at he;subst he;exact .inl rfl),rfl,rfl,?_⟩;refine WV h1 h2 λf2 s2 b2 k1 k2=>?_;refine Vq (ib:=1) (d':=1) rfl (by omega) λv hv=>?_;obtain⟨a,k3,k4⟩:=B9 k1 k2 v (ee.2 (by omega));obtain⟨f',s',tZ,h1,h2,h3⟩:=gx k3 k4;refine⟨_,_,λw hw=>⟨_,h3 _ _ w (.inr ?_),dV.set w 0 _,?_⟩,(by
  intro e he;simp[Ed] at he;rcases he with rfl|rfl<;>exact q7 _ 0 _),rfl,rfl,?_⟩
 .exact kR E.oQ hw
 .exact Go.ConcR.WgAt.setSt hw _
 refine WV h1 h2 λf3 s3 b3 k1 k2=>?_;cases hz:Nat.beq v 0 with
 |false=>
  rw[hz] at k1;simp only[fJ] at k1;exact CN k1 k2
 |true=>
  rw[hz] at k1;simp only[cH] at k1;obtain⟨f',s',tZ,h1,h2,h3⟩:=gx k1 k2;refine avo rfl rfl (λw hw=>h3 _ _ w (.inr (sZ E.oQ hw)))<|WV h1 h2 λf4 s4 b4 k1 k2=>CN k1 k2
end
section
variable {ι:Type} {E:fW ι} {Fin:Goroutine->Prop} {c:Frame} {cs:List Frame}
def uK{Stop:Goroutine->Prop}{k:Frame->List Frame->Bl}{bs:List Nat}(h:E1 E.P E.ty n fr jq k=some bs)(hb:∀b∈bs,b=E.Wg)
 (hk:∀n8 gJ tZ,k n8 gJ=some tZ->(∀b∈tZ,b=E.Wg)->Stop (G n8 (gJ++cs))):E.pw Stop (G fr (jq++cs)):=jR h hb hk
section
variable (hF:Fin (G (c.finish (.tuple #[])) cs)) (kp:∀g g',g.status= .running->g'.status= .running->(∀w,stepG E.P true g w= .go g' w #[])->Fin g'->Fin g)
include hF kp
def ak3{f:Frame}{s:List Frame}{bs:List Nat}(h:atL E.P E.ty f s=some bs)(hb:∀b∈bs,b=E.Wg):E.Aq Fin (G f (s++c::cs)):=by
 obtain⟨f',s',tZ,h1,h2,h3⟩:=gx h hb;exact⟨rfl,_,λw=>h3 _ _ w (.inl ⟨rfl,rfl⟩),KM h1 _ Fin hF kp⟩
def E8{f:Frame}{s:List Frame}{bs:List Nat}(h:UX E.P E.ty f s=some bs)(hb:∀b∈bs,b=E.Wg):E.Ke Fin (G f (s++c::cs)):=by
 obtain⟨f',s',tZ,h1,h2,h3⟩:=gx h hb;exact⟨rfl,_,λw=>h3 _ _ w (.inl ⟨rfl,rfl⟩),uK h1 h2 λ_ _ _ k1 k2=>ak3 hF kp k1 k2⟩
def ak0{f:Frame}{s:List Frame}{bs:List Nat}(h:aty E.P E.ty f s=some bs)(hb:∀b∈bs,b=E.Wg):E.W4 Fin (G f (s++c::cs)):=by
 obtain⟨f',s',tZ,h1,h2,h3⟩:=gx h hb;exact⟨rfl,_,λw hw=>h3 _ _ w (.inr (kR E.oQ hw)),uK h1 h2 λ_ _ _ k1 k2=>E8 hF kp k1 k2⟩
def ak1{f:Frame}{s:List Frame}{bs:List Nat}(h:atA E.P E.ty f s=some bs)(hb:∀b∈bs,b=E.Wg):E.W3 Fin (G f (s++c::cs)):=by
 obtain⟨⟨b1,k1,k2⟩,b2,k3,k4⟩:=y8 h hb;obtain⟨f',s',tZ,h1,h2,h3⟩:=gx k3 k4;refine⟨rfl,rfl,λw n hw=>?_,_,λw hw=>h3 _ _ w (.inr (kR E.oQ hw)),uK h1 h2 λ_ _ _ k1 k2=>ak0 hF kp k1 k2⟩;unfold atT at k1;split at k1<;>try (cases k1;done)
 rename_i h0;simp only[aD] at k1;subst k1;have:=pX h0 k2 (w:=w) (.inr (ang E.oQ hw)) (c::cs) true;simp only[OV.is] at this;rw[this];rfl
def UU{f:Frame}{s:List Frame}{bs:List Nat}(h:ail E.P E.ty f s=some bs)(hb:∀b∈bs,b=E.Wg):E.Wr Fin (G f (s++c::cs)):=by
 obtain⟨f',s',tZ,h1,h2,h3⟩:=gx h hb;exact⟨rfl,_,λw=>h3 _ _ w (.inl ⟨rfl,rfl⟩),uK h1 h2 λ_ _ _ k1 k2=>ak1 hF kp k1 k2⟩
end
end
section
variable {P:Program} {b:Frame} {a:Act} {k:List Item} {cs:List Frame} {ops:Array Oper}
def ayA{main:Bool}{rest:List Nat}{o:Oper}(ho:ops[i]?=some o) (hg:o.guard=none) (hk:b.kind≠ .early) (hb:b.roundOf=none) (a8:o.op= .go ⟨.value y,#[],ats⟩) (hy:a.eval y= .func (.func f) #[] ca) (w:World):
 stepG P main (G (dH b a (.inRegion ops (i::rest)::k)) cs) w= .spawn (G (dH b (a.put o.dst undef) (.inRegion ops rest::k)) cs) (born P {target:= .fn (.func f) ca,args:= #[]}) w #[]:=by
 have hw:Region.wanted o (yielded ops a.tmps)=true:=jJ o _ hg;have hx:execOp a.eval o=Sem.pure (.spawn {target:= .fn (.func f) ca,args:= #[]}):=by
  simp only[execOp,a8,resolve,hy,Deferred.ofValue];show Sem.pure (Next.spawn {target:= .fn (.func f) ca,args:= #[]++Array.map a.eval #[]})=_;simp
 rw[KV hb,KV hb];have:=stepG_spawn (P:=P) (main:=main) (b:=b) (a:=a) (k:=k) (cs:=cs) (w:=w) (w':=w) (d:={target:= .fn (.func f) ca,args:= #[]}) ho hw hk (rest:=rest) (by rw[hx];rfl) rfl;rw[this,listed_none (by rw[hx];rfl)]
end
section
variable {ι:Type} {E:fW ι} {Fin:Goroutine->Prop} {Q:Machine->Outcome->World->Trace->Prop} {b:Frame} {Fx:List Item} {cs:List Frame} {n:Nat} {D:List Deferred} {ro:Nat->Option Obj} {o:Option JS} {ops:Array Oper} {L:Nat->Option Obj}
structure ab8(E:fW ι)(L:Nat->Option Obj)(X:Cells)(ro bU:Nat->Option Obj):Prop where
 of:∀q o,L q=some o->(q,o)∈X
 on:∀q o,(q,o)∈X->L q=some o
 sub:Sub ro bU
 kn:Knows bU X
 nd:(X.map (·.1)).Nodup
 ap:∀q o,(q,o)∈X->ro q=none
 hole:bU E.Hb=some E.hole
 roH:ro E.Hb=none
def abX(E:fW ι)(ro:Nat->Option Obj)(X:Cells):Value->Cells->St:=λv X1=>⟨ro,(E.Hb,E.full v)::(X1++X)⟩
def ab8.back{X:Cells}{bU roK:Nat->Option Obj}{rwK:Cells}(h:ab8 E L X ro bU)(hs:Sub bU roK):LB E L ⟨roK,rwK⟩ (abX E ro X):=by
 intro l v X1 w WR hw hL kP hX hHb hLH hnH;have hKH:roK E.Hb=some E.hole:=hs _ _ h.hole;have hX1:∀q o,(q,o)∈X1->q≠E.Hb/\ro q=none:=λq o hq=>by
  have hk:=(hX q o hq).2.2.2;refine⟨λe=>hk (.inl (by subst e;show roK _≠none;rw[hKH];simp)),?_⟩;cases hr:ro q with
  |none=>rfl
  |some y=>exact absurd (.inl (by show roK q≠none;rw[hs _ _ (h.sub _ _ hr)];simp)) hk
 have hXn:∀q o,(q,o)∈X->q≠E.Hb:=λq o hq e=>by subst e;rw[h.on _ _ hq] at hLH;cases hLH
 refine⟨⟨λq o hq=>hw.ro q o (hs _ _ (h.sub _ _ hq)),λq o hq=>?_,λq o hq=>?_,?_,λq o hq=>?_⟩,λq hq=>?_⟩
 .rcases aS.1 hq with hq|hq
  .cases hq;exact hHb
  rcases bI.1 hq with hq|hq
  .exact(hX q o hq).1
  exact hL q o (h.on q o hq)
 .rcases aS.1 hq with hq|hq
  .cases hq;rfl
  rcases bI.1 hq with hq|hq
  .exact(hX q o hq).2.2.1
  rcases hw.ro q o (hs _ _ (h.kn _ hq)) with h1| ⟨c1,c2,t1,rfl,h2,_⟩| ⟨c1,t1,rfl,h2⟩
  .exact h1.2
  .have h3:=hL q _ (h.on q _ hq);rw[h2] at h3;cases h3
  have h3:=hL q _ (h.on q _ hq);rw[h2] at h3;exact absurd (Nat.le_of_eq (Obj.pending.inj (aJ h3)).2.symm) (Nat.not_le.2 (Nat.lt_add_of_pos_right (Nat.succ_pos NI)))
 .show (((E.Hb,E.full v)::(X1++X)).map (·.1)).Nodup;rw[bV,j8,cC,eF];refine⟨λhm=>?_,kP,h.nd,λq hq q' Qi e=>?_⟩
  .rcases bI.1 hm with hm|hm
   .obtain⟨⟨q,o⟩,h1,h2⟩:=bB.1 hm;exact(hX1 q o h1).1 h2
   obtain⟨⟨q,o⟩,h1,h2⟩:=bB.1 hm;exact hXn q o h1 h2
  subst e;obtain⟨⟨q1,o1⟩,h1,rfl⟩:=bB.1 hq;obtain⟨⟨q2,o2⟩,h2,e2⟩:=bB.1 Qi;simp only at e2;subst e2;have:=(hX _ _ h1).2.1;rw[h.on _ _ h2] at this;cases this
 .rcases aS.1 hq with hq|hq
  .cases hq;exact h.roH
  rcases bI.1 hq with hq|hq
  .exact(hX1 q o hq).2
  exact h.ap q o hq
 rcases hq with hq| ⟨o,hq⟩
 .have hq:ro q≠none:=hq;cases hr:ro q with
  |none=>exact absurd hr hq
  |some o'=>exact .inr (.inl (.inl (by show roK q≠none;rw[hs _ _ (h.sub _ _ hr)];simp)))
 rcases aS.1 hq with hq|hq
 .cases hq;exact .inr (.inl (.inl (by show roK _≠none;rw[hKH];simp)))
 rcases bI.1 hq with hq|hq
 .exact .inr (.inr ⟨o,hq⟩)
 exact .inl (by rw[h.on q o hq];simp)
def avu{v0:Value}(iw im ih:Nat)(X:Cells)(kp:Closed E.P true (TL E.P fU (λ_=>none) (Jc E.os E.out) Q))(WR:E.Gd [] v0 [])
 (h:∀L bU,ab8 E L X ro bU->TT (TG E Fin L Q 0 0 [] 0) b Fx cs n D bU (aai o))
 (hW:fT [iw,im,ih] o=some [(E.Wg,wgBlock E.ty 0 0),(E.Mu,.cells #[.int .i32 0,.int .u32 0] E.tm),(E.Hb,E.full v0)]:=by kernel_rfl)(hX:avI [iw,im,ih] o=some X:=by kernel_rfl):TT (TL E.P fU (λ_=>none) (Jc E.os E.out) Q) b Fx cs n D ro o:=by
 rintro e w kn rfl ep;refine Closed.nk kp rfl λ⟨w0,hw0⟩=>?_;have hp:=dN hW;rw[Tu,Option.some.injEq] at hX;have X5:=hp;dsimp only at X5;rw[hX] at X5;have hm:∀x,x∈den w↔x=(E.Wg,wgBlock E.ty 0 0)\/x=(E.Mu,.cells #[.int .i32 0,.int .u32 0] E.tm)\/x=(E.Hb,E.full v0)\/x∈X:=λx=>by
  rw[X5.mem_iff];simp
 have kP:=(X5.map (·.1)).nodup_iff.1 hw0.nodup;simp only[eg,aL,bV,j8,aS,not_or] at kP;obtain⟨⟨bfD,bfC,hW1⟩,⟨bfB,hM1⟩,hH1,aex⟩:=kP;have uB:∀x∈X,x∈den w:=λx hx=>(hm x).2 (.inr (.inr (.inr hx)));have aTF:=(hm _).2 (.inl rfl);have aTK:=(hm _).2 (.inr (.inl rfl));have aUl:=(hm _).2 (.inr (.inr (.inl rfl)));have aaQ:∀y∈X,y.1≠E.Wg/\y.1≠E.Mu/\y.1≠E.Hb:=λy hy=>⟨λe=>hW1 (e▸bB.2 ⟨_,hy,rfl⟩),λe=>hM1 (e▸bB.2 ⟨_,hy,rfl⟩),λe=>hH1 (e▸bB.2 ⟨_,hy,rfl⟩)⟩
 let L:Nat->Option Obj:=λq=>(X.find? λy=>y.1==q).map (·.2)
 have aID:∀q o,L q=some o->(q,o)∈X:=λq o hq=>by
  obtain⟨y,hy,rfl⟩:=dQ.1 hq;obtain⟨h1,h2⟩:=abt hy;subst h2;exact h1
 have bhN:∀q o,(q,o)∈X->L q=some o:=λq o hq=>by
  show (X.find? λy=>y.1==q).map (·.2)=some o;rw[MO aex hq];rfl
 have sJ:∀q o,(q,o)∈X->ro q=none:=λq o hq=>hw0.apart q o (uB _ hq);have aR0:Sub ro (St.freeze ⟨ro,X⟩).ro:=λq o hq=>St.KP (s:=⟨ro,X⟩) hq λq o hq=>sJ q o hq;have aR6:ro E.Hb=none:=hw0.apart _ _ aUl;have lG:Sub ro (lh (St.freeze ⟨ro,X⟩).ro E.Hb E.hole):=λq o hq=>by
  have:q≠E.Hb:=λe=>by subst e;rw[aR6] at hq;cases hq
  rw[nK _ _ this];exact aR0 q o hq
 have bf1:Knows (St.freeze ⟨ro,X⟩).ro X:=λx hx=>St.KO (s:=⟨ro,X⟩) (by rcases x with ⟨q,o⟩;exact hx) aex;have aSP:ab8 E L X ro (lh (St.freeze ⟨ro,X⟩).ro E.Hb E.hole):=⟨aID,bhN,lG,λx hx=>by rw[nK _ _ (aaQ x hx).2.2];exact bf1 x hx,aex,sJ,lQ _ _ _,aR6⟩;have F4:∀q y,(St.freeze ⟨ro,X⟩).ro q=some y->ro q=some y\/(q,y)∈X:=λq y hq=>by
  simp only[St.freeze] at hq;split at hq
  .rename_i z hz;obtain⟨h1,h2⟩:=abt hz;cases hq;subst h2;exact .inr h1
  exact .inl hq
 refine amT (E:=E) (Fin:=Fin) (L0:=L) (v0:=v0) (s':=⟨lh (St.freeze ⟨ro,X⟩).ro E.Hb E.hole,[]⟩) rfl ⟨bfD,λe=>bfC e.symm,λe=>bfB e.symm⟩ aTF aTK aUl WR rfl (λq x hq=>?_) (λq o hq=>⟨uB _ (aID _ _ hq),aaQ _ (aID _ _ hq)⟩) ?_
 .by_cases e:q=E.Hb
  .subst e;simp only[lQ,aD] at hq;exact .inl ⟨rfl,hq.symm⟩
  simp only[nK _ _ e] at hq;rcases F4 q x hq with h1|h1
  .refine .inr ⟨e,λe=>?_,λe=>?_,.inl h1⟩
   .subst e;have:=hw0.apart _ _ aTF;simp only at this;rw[this] at h1;cases h1
   subst e;have:=hw0.apart _ _ aTK;simp only at this;rw[this] at h1;cases h1
  exact .inr ⟨e,(aaQ _ h1).1,(aaQ _ h1).2.1,.inr (uB _ h1)⟩
 exact h L _ aSP _ _ _ (GK _ _ _ _) (ep.up lG)
def aOd{nw:Nat}{os:List ι}{a:Oper}{x:Operand}{k:List Item}{bs:List Nat}(h:TT (TG E Fin L Q 1 nw os 0) b k cs n D ro (stO a.dst (.tuple #[]) o))(ho:ops[0]?=some a) (hg:a.guard=none) (a8:a.op= .call ⟨.value (.func f),#[x,.const (.int .i64 1)],ats⟩) (hf:FF E.P f) (hk:b.kind≠ .early) (hr:b.roundOf=none) (u2:nw <E.max)
 (akE:y5 E.P E.ty nw (Frame.enter E.P f #[.pointer (some ⟨E.Wg,0,none⟩),.int .i64 1] .normal)=some bs) (hbs:∀b∈bs,b=E.Wg) (hx:evO n x o=some (.pointer (some ⟨E.Wg,0,none⟩)):=by kernel_rfl):TT (TG E Fin L Q 0 nw os 0) b (.inRegion ops [0]::k) cs n D ro o:=by
 rintro e w kn rfl ep;have hT:Closed E.P true (TG E Fin L Q 0 nw os 0):=AB;have hT1:Closed E.P true (TG E Fin L Q 1 nw os 0):=AB;refine PN (rest:=[]) hT ho hg hk hr a8 hf ?_;have r8:(#[x,.const (.int .i64 1)]:Array Operand).map (A n e D).eval= #[.pointer (some ⟨E.Wg,0,none⟩),.int .i64 1]:=by
  rw[ma];simp only[oV,bV,lN,bZ hx];rfl
 rw[r8];refine afA (E:=E) akE hbs u2 ?_;rw[mZ,ho];simp only[oT];rw[dF];exact rS hT1 (h _ _ _ rfl ep)
def ba5{nw:Nat}{os:List ι}(ls:List ι){a:Oper}{ca:List Value}{k:List Item}(L1:Cells)(NF:(os++ls).length<=E.mxl)(ho:ops[i]?=some a) (hg:a.guard=none) (a8:a.op= .go ⟨.value y,#[],ats⟩) (hk:b.kind≠ .early) (hr:b.roundOf=none)
 (h:∀bU,Sub ro bU->Knows bU L1->gi E.P false (E.Stp ls) (born E.P {target:= .fn (.func f) ⟨ca⟩,args:= #[]}) ⟨bU,[]⟩/\TT (TG E Fin L Q 0 (nw+1) (os++ls) 0) b (.inRegion ops todo::k) cs n D bU (aai (stO a.dst undef o)))
 (hy:evO n y o=some (.func (.func f) ⟨[]⟩ ⟨ca⟩):=by kernel_rfl) (hL:avI [] o=some L1:=by kernel_rfl):TT (TG E Fin L Q 1 nw os 0) b (.inRegion ops (i::todo)::k) cs n D ro o:=by
 rintro e w kn rfl ep;have hT1:Closed E.P true (TG E Fin L Q 1 nw os 0):=AB;refine Closed.nk hT1 rfl λyy=>?_;obtain⟨w0,hw0⟩:=yy;have kP:((den w).map (·.1)).Nodup:=hw0.nodup;have sJ:∀q o,(q,o)∈den w->ro q=none:=hw0.apart;have lG:Sub ro (St.freeze ⟨ro,den w⟩).ro:=λq o hq=>St.KP (s:=⟨ro,den w⟩) hq sJ;have bf2:Knows (St.freeze ⟨ro,den w⟩).ro L1:=λx hx=>St.KO (s:=⟨ro,den w⟩) (by rcases x with ⟨q,o⟩;rw[Tu,aD] at hL;rw[<-hL,UL] at hx;exact hx) kP;obtain⟨h1,h2⟩:=h _ lG bf2;have dr:=λw'=>ayA (P:=E.P) (main:=true) (b:=b) (a:=A n e D) (k:=k) (cs:=cs) (rest:=todo) ho hg hk hr a8 (by rw[ma];exact bZ hy) w';have:=h2 _ _ _ (GK _ _ _ _) (ep.up lG);rw[<-dF] at this;exact TG.mono (St.akL ⟨ro,den w⟩) (aiU (E:=E) (ls:=ls) (s:=St.freeze ⟨ro,den w⟩) rfl rfl rfl (λw' _=>dr w') h1 NF this)
def aEx{nw:Nat}{os:List ι}{a:Oper}{x:Operand}{k:List Item}{X:Cells}{wY cK:Nat->Option Obj}(hl:ab8 E L X wY cK)(fq:Sub cK ro)(kp:Closed E.P true (TL E.P fU (λ_=>none) (Jc E.os E.out) Q))
 (h:∀l v X1,l.Perm os->E.Gd l v X1->TT (TL E.P fU (λ_=>none) (Jc E.os E.out) Q) b k cs n D wY (bkO ((E.Hb,E.full v)::(X1++X)) (stO a.dst (.tuple #[]) (aai o))))(ho:ops[0]?=some a) (hg:a.guard=none) (a8:a.op= .call ⟨.value (.func f),#[x],ats⟩) (hf:FF E.P f) (hk:b.kind≠ .early) (hr:b.roundOf=none)
 (ap2:∀(Fin:Goroutine->Prop) (c:Frame) (cs:List Frame),Fin (G (c.finish (.tuple #[])) cs)->(∀g g',g.status= .running->g'.status= .running->(∀w,stepG E.P true g w= .go g' w #[])->Fin g'->Fin g)->E.pw (E.Kd Fin) (G (Frame.enter E.P f #[.pointer (some ⟨E.Wg,0,none⟩)] .normal) (c::cs))) (hx:evO n x o=some (.pointer (some ⟨E.Wg,0,none⟩)):=by kernel_rfl):TT (TG E (af1 E Q os (abX E wY X)) L Q 0 nw os 0) b (.inRegion ops [0]::k) cs n D ro o:=by
 rintro e w kn rfl ep;have hT:Closed E.P true (TG E (af1 E Q os (abX E wY X)) L Q 0 nw os 0):=AB;refine PN (rest:=[]) hT ho hg hk hr a8 hf ?_;have r8:(#[x]:Array Operand).map (A n e D).eval= #[.pointer (some ⟨E.Wg,0,none⟩)]:=by
  rw[ma];simp only[oV,bV,lN,bZ hx]
 rw[r8];refine avn (hl.back fq)<|ap2 _ _ _ (λl v X1 hp WR=>?_) (λg g' h1 h2 dr hF l v X1 hp WR=>kp.go h1 h2 dr (hF l v X1 hp WR));rw[mZ,ho];simp only[oT];rw[dF];refine rS kp ?_;have:=h l v X1 hp WR;rw[GK] at this;have:=this _ _ _ (abT _ _ _ _ _) (λx hx=>by cases hx);rw[lv] at this;simp only[den,eR] at this;exact this
end
def aQu(P:Program)(n:Nat)(p:Oper)(e:Env):Option (TypeId×List Value):=match p.op with
 | .makeSlice T x y=>match cV P T with
  |some ⟨.slice E,_,_,_⟩=>match cV P E with
   |some te=>match dv n e x,dv n e y with
    |some (.int .i64 a),some (.int .i64 b)=>bif (decide (a=1)&&decide (b=1))&&(Nat.beq te.size 1&&Nat.ble (rG P E) 65536) then some (E,te.zero) else none
    |_,_=>none
   |none=>none
  |_=>none
 |_=>none
def aRo{X:Cx}{z:Value}(hj:∀b,J X (rV [] (.slice (some ⟨b,0,none⟩) 1 1) [(b,.cells ⟨[z]⟩ E (0,0))] o))(hv:iC X.n (aQu X.P X.n) o=some (E,[z]):=by kernel_rfl)(hB:fT [] o=some []:=by kernel_rfl):J X o:=by
 refine jS (Φ:=λv L'=>∃b,v= .slice (some ⟨b,0,none⟩) 1 1/\L'=[(b,.cells ⟨[z]⟩ E (0,0))]) [] [] hv hB (λp e hf=>?_) (λv L' uz=>?_)
 .unfold aQu at hf;split at hf<;>try (cases hf;done)
  rename_i T x y a8;split at hf<;>try (cases hf;done)
  rename_i E' _ _ _ ig;split at hf<;>try (cases hf;done)
  rename_i te wo;split at hf<;>try (cases hf;done)
  rename_i a b hx hy;cases hc:((decide (a=1)&&decide (b=1))&&(Nat.beq te.size 1&&Nat.ble (rG X.P E') 65536)) with
  |false=>rw[hc] at hf;cases hf
  |true=>
   rw[hc] at hf;simp only[cH,aD,bP] at hf;obtain⟨rfl,hz⟩:=hf;simp only[au,aA,Nat.beq_eq,Cg] at hc;obtain⟨⟨rfl,rfl⟩,sD,hby⟩:=hc;obtain⟨byT,tf⟩:=bA ig;obtain⟨dL,od⟩:=bA wo;obtain⟨i,hi,hi1,R3,hi3⟩:=od.info;have akz:dL<=65536:=by simp only[rG,hi] at hby;omega
   have aeO:¬((dL:Int)*1>2^48):=by omega
   have w2:IntKind.i64.wrap 1=1:=lB 1 (by omega);have kp:(Sf [z] te.agg).cells=⟨[z]⟩:=by rw[<-hz];exact gW od
   have Kz:((Array.range ((1:Int).toNat*1)).map λx=>(⟨[z]⟩:Array Value)[x % (⟨[z]⟩:Array Value).size]!)=⟨[z]⟩:=by apply Array.ext';simp[Nat.mod_one,List.range,List.range.loop]
   refine⟨by rw[a8];simp,λR Q E hQ=>?_⟩;simp only[execOp,a8,Instr.makeSlice,bZ hx,bZ hy,asInt,asIntOf,aH,cY tf,aQ,qd hi,R3,w2,aeO,show ¬((1:Int) <0) by omega,show ¬((1:Int)>1) by omega,decide_false,Bool.or_self,aX,cF];refine uj ?_;simp only[aH,ez od,sD,show ¬((1:Int).toNat*1=0) by decide,cF,oF od,aQ,hz,kp,Kz,lP];intro b hb;exact hQ _ _ ⟨b,rfl,rfl⟩
 obtain⟨b,rfl,rfl⟩:=uz;exact hj b
def aOo(P:Program)(n:Nat)(p:Oper)(e:Env):Option (Nat×Nat×Int×Int×Nat×Nat):=match p.op with
 | .slice T x (some y) (some z) none=>match cV P T with
  |some ⟨.array len E,_,_,_⟩=>match cV P E with
   |some te=>match dv n e x with
    |some (.pointer (some ⟨b,off,none⟩))=>match dv n e y with
     |some (.int _ lo)=>match dv n e z with
      |some (.int _ hi)=>some (b,off,lo,hi,len,te.size)
      |_=>none
     |_=>none
    |_=>none
   |none=>none
  |_=>none
 |_=>none
def bd2{X:Cx}{len:Nat}(lo hi:Int)(hl:(0<=lo/\lo<=hi)/\hi<=len/\lo <len)(hj:J X (lT (.slice (some ⟨b,off+lo.toNat*sz,none⟩) (hi.toNat-lo.toNat) (len-lo.toNat)) o))(hv:fp X.n (aOo X.P X.n) o=some (b,off,lo,hi,len,sz):=by kernel_rfl):J X o:=by
 refine jG hv (λs p e ho hh hf=>?_) hj;unfold aOo at hf;split at hf<;>try (cases hf;done)
 rename_i T x y z a8;split at hf<;>try (cases hf;done)
 rename_i ajT E _ _ _ ig;split at hf<;>try (cases hf;done)
 rename_i te wo;split at hf<;>try (cases hf;done)
 rename_i b' aoD hx;split at hf<;>try (cases hf;done)
 rename_i ik lo' hy;split at hf<;>try (cases hf;done)
 rename_i ik2 MI hz;simp only[aD,bP] at hf;obtain⟨rfl,rfl,rfl,rfl,rfl,rfl⟩:=hf;obtain⟨dL,tf⟩:=bA ig;obtain⟨CX,tK⟩:=bA wo;have key:∀s,Yields X.P X.n e p s (.slice (some ⟨b',aoD+lo'.toNat*te.size,none⟩) (MI.toNat-lo'.toNat) (ajT-lo'.toNat)):=by
  intro s s' pq f hf K E hK;have h1:0<=MI/\MI<=(ajT:Int):=by omega
  have h2:0<=lo'/\lo'<=(MI.toNat:Int):=by omega
  have h3:¬ajT=lo'.toNat:=by omega
  simp only[execOp,a8,di,j7,Instr.sliceAt,Instr.sliceBounds,Instr.sliceBound,Instr.sureAddr,hf _ _ hx,hf _ _ hy,hf _ _ hz,asIntOf,aH,aQ,cY tf,af3,aX,cF,h1,h2,h3,LC,dI,ez tK,gY];exact hK
 exact⟨by rw[a8];rfl,λ_=>key _,λ_=>key⟩
open Go.Proofs
theorem u2:Tryz.prog.follows .mixedOrders=true:=by rfl
abbrev pV(b:Nat):Value:= .pointer (some ⟨b,0,none⟩)
def Xy(o:Oper):Array TypeId:=match o.op with
 | .call c=>c.argTypes
 | .go c=>c.argTypes
 | .defer c=>c.argTypes
 |_=> #[]
noncomputable def pM(f i:Nat):Array Oper:=fN (codeOf Tryz.prog f) i
noncomputable def azf(f i:Nat):Code:=((codeOf Tryz.prog f)[i]?).getD .skip
noncomputable def I0(f:Nat):Code:=(((Tryz.prog.funcs[f]?).getD default).body).getD .skip
def N7{k W:Nat}:∀b∈List.replicate k W,b=W:=by simp
structure cy where
 (a b c d:Int)
deriving DecidableEq
def cy.at(x:cy):Nat->Int
 |0=>x.a
 |1=>x.b
 |2=>x.c
 |_=>x.d
def jF(x:cy):List Value:=[.int .i64 x.a,.int .i64 x.b,.int .i64 x.c,.int .i64 x.d]
def vt{x:cy}{k:Nat}(h:k <4):nth (jF x) (0+((k:Int)).toNat*1)=some (.int .i64 (x.at k)):=by
 rcases k with _|_|_|_|k<;>first|rfl|omega
def Gz(x:cy)(D S:Int):Nat->List Nat->Bool
 |_,[]=>true
 |f,d::ds=>bif decide ((d:Int) <D)&&decide (x.at d=x.at f) then Gz x D S f ds else
  bif (!decide (x.at f= -1)&&decide ((f:Int)>0))&&decide ((d:Int) <D)&&decide ((d:Int)-f <S) then false else Gz x D S d ds
def awa(x:cy)(D S:Int):Bool:=Gz x D S 0 (List.range' 1 D.toNat)
theorem Zp{x:cy}{k f:Nat}(h:(k:Int)<=D)(hn:n=D.toNat+1-k):Gz x D S f (List.range' k n)=(bif decide ((k:Int) <D)&&decide (x.at k=x.at f) then Gz x D S f (List.range' (k+1) (D.toNat+1-(k+1))) else
 bif (!decide (x.at f= -1)&&decide ((f:Int)>0))&&decide ((k:Int) <D)&&decide ((k:Int)-f <S) then false else Gz x D S k (List.range' (k+1) (D.toNat+1-(k+1)))):=by
 obtain⟨m,rfl⟩:∃m,n=m+1:=⟨n-1,by omega⟩
 grind [List.range'_succ,Gz]
theorem aoa{x:cy}{k f:Nat}(h:(k:Int)<=D)(hc:(k:Int) <D/\x.at k=x.at f):Gz x D S f (List.range' k (D.toNat+1-k))=Gz x D S f (List.range' (k+1) (D.toNat+1-(k+1))):=by
 rw[Zp h rfl,show (decide _&&decide _)=true by grind];rfl
theorem agL{x:cy}{k f:Nat}(h:(k:Int)<=D)(hc:¬((k:Int) <D/\x.at k=x.at f)):Gz x D S f (List.range' k (D.toNat+1-k))=
 bif (!decide (x.at f= -1)&&decide ((f:Int)>0))&&decide ((k:Int) <D)&&decide ((k:Int)-f <S) then false else Gz x D S k (List.range' (k+1) (D.toNat+1-(k+1))):=by
 rw[Zp h rfl,show (decide _&&decide _)=false by grind];rfl
theorem aob{x:cy}{k f:Nat}(h:(k:Int)<=D)(hc:¬((k:Int) <D/\x.at k=x.at f))(h7:((¬x.at f= -1/\(f:Int)>0)/\(k:Int) <D)/\(k:Int)-f <S):Gz x D S f (List.range' k (D.toNat+1-k))=false:=by
 grind [agL,cb,cG]
theorem aoc{x:cy}{k f:Nat}(h:(k:Int)<=D)(hc:¬((k:Int) <D/\x.at k=x.at f))(h7:¬(((¬x.at f= -1/\(f:Int)>0)/\(k:Int) <D)/\(k:Int)-f <S)):Gz x D S f (List.range' k (D.toNat+1-k))=Gz x D S k (List.range' (k+1) (D.toNat+1-(k+1))):=by
 grind [agL]
structure ky where
 (a0 a1 a2 a3 a4 a7 Ln:Value)
 (D S:Int)
 (ha:Option Addr)
 (H iR:Nat)
def ky.cells(W:ky)(v:Value):List Value:=[W.a0,W.a1,W.a2,W.a3,W.a4,.int .i64 W.D,.int .i64 W.S,W.a7,.slice W.ha W.H W.iR,v,W.Ln]
noncomputable def fB(M:EA Tryz.prog 234 4)(Wg Mu Hb:Nat)(W:ky)(mQ:Os)(fE:Array (Nat×ByteArray)):fW cy:=
 ⟨Tryz.prog,240,234,Wg,Mu,Hb,4,5000,⟨W.cells (.slice none 0 0)⟩,113,mQ,fE,λl v X=>bJ v 4 120 jF l X,M,by decide⟩
structure RJ(M:EA Tryz.prog 234 4):Prop where
 lock:∀Mu k cs,∃n,Pure Tryz.prog false (qo 234 Mu) (M.At Mu (.ld k) cs) n (G (Frame.enter Tryz.prog 146 #[pV Mu] .normal) cs)
 unlock:∀Mu k cs,∃n,Pure Tryz.prog false (qo 234 Mu) (M.At Mu (.ui k) cs) n (G (Frame.enter Tryz.prog 147 #[pV Mu] .deferred) cs)
section
variable {M:EA Tryz.prog 234 4} {Wg Mu Hb:Nat} {W:ky} {mQ:Os} {fE:Array (Nat×ByteArray)}
theorem ae8:(fB M Wg Mu Hb W mQ fE).hole= .pending ⟨W.cells (.slice none 0 0)⟩ 113:=rfl
end
def ayR:nS [I0 145]=[.region 0 (pM 145 0) false,.region 1 (pM 145 1) false,.region 2 (pM 145 2) false,azf 145 3]:=by rfl
section
variable {M:EA Tryz.prog 234 4} {Wg Mu Hb:Nat} {W:ky} {mQ:Os} {fE:Array (Nat×ByteArray)}
theorem bdN(hM:RJ M){x:cy}{os:List cy}{L:Cells}
 (h1:ro b1=some (.cells ⟨[pV Hb]⟩ 103 (0,0)))(hH:ro Hb=some (.pending ⟨W.cells (.slice none 0 0)⟩ 113))
 (hk:gi Tryz.prog false ((fB M Wg Mu Hb W mQ fE).Stp os) (G (cl.finish (.tuple #[])) NO) ⟨ro,L⟩):
 gi Tryz.prog false ((fB M Wg Mu Hb W mQ fE).Stp (x::os)) (G (Frame.enter Tryz.prog 145 ⟨[.agg ⟨jF x⟩,pV Mu,pV b1]⟩ .normal) (cl::NO)) ⟨ro,L⟩:=by
 have hT:=fH Tryz.prog false ((fB M Wg Mu Hb W mQ fE).Stp (x::os))
 have eo:b1≠Hb:=fun e=>by subst e;rw[h1] at hH;cases hH
 refine Vt (fn:=(Tryz.prog.funcs[145]?).getD default) (c:=I0 145) (n:=15) (by kernel_rfl) (by kernel_rfl) (by kernel_rfl) (by rfl)<|tL hT ayR fun l1 hl1=>?_
 refine Dq u2 hT<|jn fun b3=>jd 1 []<|Bx<|tL hT hl1 fun l2 Ip=>?_
 show TT _ _ (.inRegion (pM 145 1) [0]::_) _ _ _ _ _
 refine aN8 (E:=fB M Wg Mu Hb W mQ fE) (a:=dZ (pM 145 1) 0) (f:=146) (x:= .tmp 1) (ats:=Xy (dZ (pM 145 1) 0)) (by kernel_rfl) (by kernel_rfl) (by kernel_rfl) (nT (by kernel_rfl)) (by decide) rfl (fun cs=>hM.lock Mu _ cs) hH (fun l v X kO NF=>?_)
 have kO:bJ v 4 120 jF l X:=kO
 have NF:l.length <5000:=NF
 have hT2:=sN (E:=fB M Wg Mu Hb W mQ fE) (l++[x]) ((fB M Wg Mu Hb W mQ fE).Unl ((fB M Wg Mu Hb W mQ fE).Stp os) os.length)
 have g1:lh ro Hb ((fB M Wg Mu Hb W mQ fE).full v) b1=some (.cells ⟨[pV Hb]⟩ 103 (0,0)):=by rw[nK _ _ eo];exact h1
 have gH:lh ro Hb ((fB M Wg Mu Hb W mQ fE).full v) Hb=some (.cells ⟨W.cells v⟩ 113 (0,0)):=by rw[lQ];rfl
 refine tL hT2 Ip fun l3 hl3=>?_
 show TT _ _ (.inRegion (pM 145 2) [0]::_) _ _ _ _ _
 refine amX hT2 (a:=dZ (pM 145 2) 0) (f:=147) (xs:= #[.tmp 1]) (vs:=[pV Mu]) (ats:=Xy (dZ (pM 145 2) 0)) (by kernel_rfl) (by kernel_rfl) (by kernel_rfl) (by decide) rfl<|YK hT2 hl3 fun l4 hl4=>?_
 have:=py hl4
 subst this
 refine amY u2 hT2<|jd 1 []<|jl (b:=b1) (off:=0) (m:=1) (vs:=[pV Hb]) 0 ⟨_,_,_,.inl g1,rfl⟩<|jl (b:=b1) (off:=0) (m:=1) (vs:=[pV Hb]) 0 ⟨_,_,_,.inl g1,rfl⟩<|jd 2 []<|jl (b:=Hb) (off:=0) (m:=11) (vs:=W.cells v) 9 ⟨_,_,_,.inl gH,rfl⟩<|jd 1 [1]<|bX 6 fun z6 t6 KB=>jn fun b22=>eP KB [1,2,3]<|bX 7 fun z7 t7 QB=>aRt jF b22 x 1 0 kO rfl rfl (by omega) fun va vc L23 Wv=>eE QB [[],[]]<|jd 2 []<|bX 10 fun z10 t10 KG=>jhs (E:=fB M Wg Mu Hb W mQ fE) rfl (fun m T' h=>h) rfl (by kernel_rfl) KG [0] (v:= .slice va (l++[x]).length vc) (Y:=L23) (c:=W.cells v) gH (by show 9 <11;omega) rfl ?_ Wv rfl rfl ?_ (by kernel_rfl) (by kernel_rfl) (by kernel_rfl)
 ·intro j hj
  have hj:j≠9:=hj
  show (W.cells v)[j]?=(⟨W.cells (.slice none 0 0)⟩:Array Value)[j]?
  match j,hj with
  |0,_|1,_|2,_|3,_|4,_|5,_|6,_|7,_|8,_|10,_=>rfl
  |j+11,_=>rfl
 refine jd 1 []<|aOb<|avr (E:=fB M Wg Mu Hb W mQ fE) (fn:=(Tryz.prog.funcs[145]?).getD default) (by kernel_rfl) (by kernel_rfl) (by kernel_rfl) (fun cs=>hM.unlock Mu _ cs) (lQ _ _ _) [2] (Y:=L) ?_
 show gi _ _ _ _ ⟨lh (lh ro Hb _) Hb _,_⟩
 have qS:lh (lh ro Hb ((fB M Wg Mu Hb W mQ fE).full v)) Hb (.pending ⟨W.cells (.slice none 0 0)⟩ 113)=ro:=funext fun q=>by
  by_cases e:q=Hb
  ·subst e;rw[lQ,hH]
  rw[nK _ _ e,nK _ _ e]
 rw[ae8]
 erw [qS]
 exact hk
end
section
variable {P:Program} {main:Bool} {T T':Goroutine->St->Prop} {b:Frame} {a:Act} {k:List Item} {cs:List Frame} {ops:Array Oper} {s:St}
def ajE(hT:Closed P main T){rest:List Nat}{o:Oper}(ho:ops[i]?=some o) (hg:o.guard=none) (hk:b.kind≠ .early) (hb:b.roundOf=none) {fi:Array Value} {xs:Array Operand} (a8:o.op= .call ⟨.value y,xs,ats⟩) (hy:a.eval y= .func (.func f) fi ca) (hf:FF P f)
 (h:T (G (Frame.enter P f (fi++xs.map a.eval++ca) .normal) (dH b a (.inRegion ops (i::rest)::k)::cs)) s):T (G (dH b a (.inRegion ops (i::rest)::k)) cs) s:=by
 have my:(b.kind==CallKind.early)=false:=by simpa using hk
 have hw:Region.wanted o (yielded ops a.tmps)=true:=jJ o _ hg;have BS:eJ P (execOp a.eval o) s (λnx s'=>nx= .enter f (fi++xs.map a.eval++ca)/\s'=s) (λ_ _=>False):=by
  simp only[execOp,a8,resolve,hy,Deferred.ofValue,aH,aQ,invoke];exact oG hf ⟨rfl,rfl⟩
 have lq:∀w,stepG P main (G (dH b a (.inRegion ops (i::rest)::k)) cs) w=stepG.apply P true (dH b a (.inRegion ops (i::rest)::k)) cs none (execOp a.eval o) w:=by
  intro w;have he:=uM b a (.inRegion ops (i::rest)::k);simp only[dH] at he;simp only[G,stepG,stepG.exec,dH,ho,di,wH,hw,dI,stepG.oper,Frame.oper?,he];rw[hb]
 refine hT.step _ _ rfl λw yy=>?_;obtain⟨r,es,hr,hl⟩:=lD _ _ _ _ w #[] BS yy;rw[dB] at hr;have sJ:=lq w;simp only[stepG.apply,dI,hr] at sJ;simp only[dH,my,aX,cF] at sJ;cases r with
 |ok nx w'=>
  obtain⟨s',ht,rfl,rfl⟩:=hl;simp only[GStep.after,bQ] at sJ;exact⟨_,_,_,_,sJ,rfl,ht.sub (mG P b.fn es),h⟩
 |halt hh w'=>
  obtain⟨s',ht,hu⟩:=hl;exact hu.elim
end
section
variable {P:Program} {main:Bool} {T T':Goroutine->St->Prop} {b:Frame} {k:List Item} {cs:List Frame} {n:Nat} {D:List Deferred} {ro:Nat->Option Obj} {o:Option JS} {ops:Array Oper}
def ac0(hT:Closed P main T){rest:List Nat}{a:Oper}{fi ca ws:List Value}{xs:Array Operand}(vs:List Value)(ho:ops[i]?=some a) (hg:a.guard=none) (a8:a.op= .call ⟨.value y,xs,ats⟩) (hf:FF P f) (hk:b.kind≠ .early) (hr:b.roundOf=none)
 (fA:∀cl L,T' (G (cl.finish (.tuple #[])) cs) ⟨ro,L⟩->T (G (Frame.enter P f ⟨vs⟩ .normal) (cl::cs)) ⟨ro,L⟩)
 (h:TT T' b (.inRegion ops rest::k) cs n D ro (stO a.dst (.tuple #[]) o))
 (hy:evO n y o=some (.func (.func f) ⟨fi⟩ ⟨ca⟩):=by kernel_rfl) (hx:aU4 n xs.toList o=some ws:=by kernel_rfl) (hvs:fi++ws++ca=vs:=by rfl):TT T b (.inRegion ops (i::rest)::k) cs n D ro o:=by
 rintro e w kn rfl ep;refine ajE hT ho hg hk hr a8 (by rw[ma];exact bZ hy) hf ?_;have e2:xs.map (A n e D).eval=⟨ws⟩:=by rw[ma];exact yd hx
 have e3:(⟨fi⟩:Array Value)++xs.map (A n e D).eval++⟨ca⟩=⟨vs⟩:=by rw[e2,<-hvs];simp
 rw[e3];refine fA _ _ ?_;rw[mZ,ho];rw[dF];exact h _ _ _ rfl ep
def aN9(hT:Closed P main T){q:Nat}{a:Oper}{x:Operand}{U:TypeId}(v:Value)(ho:ops[i]?=some a) (hg:a.guard=none) (a8:a.op= .load U x) (hl:ldv P U l 0=some v) (hk:b.kind≠ .early) (hr:b.roundOf=none) (ps:List Nat) (t:TypeId)
 (h:TT T b (.inRegion ops todo::k) cs n D ro (stO a.dst v o)) (hx:evO n x o=some (.pointer (some ⟨q,0,none⟩)):=by kernel_rfl) (hd:fT ps o=some [(q,.cells ⟨l⟩ t (0,0))]:=by kernel_rfl):TT T b (.inRegion ops (i::todo)::k) cs n D ro o:=by
 rintro e w kn rfl ep;have hb:(⟨ro,den w⟩:St).has q _:= .inr ((dN hd).mem_iff.2 (cR _ (aV.2 rfl)));refine DF hT ho (jJ _ _ hg) hk hr ?_;rw[ma];refine ad6 a8 hx hb hl _ (Ext.refl _) _ (λ_ _ h=>bZ h) _ _ ⟨v,rfl,?_⟩;rw[dF];exact h _ _ _ rfl ep
theorem aOa(hT:Closed P main T)(ps:List Nat)(Y:Cells)(hf:P.funcs[f]?=some fn) (FA:fn.results= #[])
 (hk:T (G (cl.finish (.tuple #[])) NO) ⟨ro,Y⟩) (h3:fT ps o=some Y:=by kernel_rfl):TT T (W5 f .normal) [] (cl::NO) n [] ro o:=by
 rintro e w kn rfl ep;have hp:=dN h3;refine hT.go rfl rfl (g':=G {dH (W5 f .normal) (A n e []) [] with mode:= .returning} (cl::NO)) (λw=>by simp[G,stepG,stepG.exec,dH,W5])<|xL (C:=CA P) (λ_ _ h=>h) (T:=T) hT hf rfl rfl rfl rfl (R:=λen s'=>en= .returned (.tuple #[])/\s'=⟨ro,Y⟩) ?_ (λv s' hv=>?_)
 .have h1:∀tm,results fn tm=Sem.pure (.tuple #[]):=by intro tm;simp[results,FA];rfl
  rw[h1];exact⟨⟨ro,Y⟩,gG hp (Sub.refl _),rfl,rfl⟩
 grind
end
def bE:Tryz.prog.follows .mixedOrders=true:=by kernel_rfl
theorem zB:(∀a b:Bool,((a&&b)=true)=(a=true/\b=true))/\(∀a b:Bool,((a||b)=true)=(a=true\/b=true))/\(∀a b:Bool,((a&&b)=false)=(a=false\/b=false))/\(∀a b:Bool,((a||b)=false)=(a=false/\b=false))/\(∀b:Bool,((!b)=true)=(b=false))/\(∀b:Bool,((!b)=false)=(b=true))/\(∀(p:Prop) [Decidable p],(decide p=true)=p)/\(∀(p:Prop) [Decidable p],(decide p=false)=¬p)/\((¬True)=False)/\(∀p:Prop,(p\/False)=p)/\(∀p:Prop,(False\/p)=p):=
 ⟨au,aF,by simp,by simp,by simp,by simp,by simp,by simp,by simp,by simp,by simp⟩
@[reducible] noncomputable def zT:Program:=Tryz.prog
abbrev zS:Value:= .slice none 0 0
abbrev zP(b:Nat):Value:= .pointer (some ⟨b,0,none⟩)
abbrev zI(n:Int):Value:= .int .i64 n
abbrev zU(n:Int):Value:= .int .u64 n
abbrev zO:List Value:=[zS,zS,zS,zS,zS,zS,zS,zS,zI 0,zI 0,zI 0,zS]
theorem zG(l:List α)(k:Nat)(h:k <l.length:=by first|omega| (simp only[aO];omega)):∃x,l[k]?=some x:=⟨_,af h⟩
def zJ{X:Cx}(t:Nat)(p:Prop)[Decidable p](h1:p->J X (Sn t (.bool true) o))(h2:¬p->J X (Sn t (.bool false) o))(hv:O2 t o=some (.bool (decide p)):=by kernel_rfl):J X o:=
 js t (decide p) (λh=>h1 (ai h)) (λh=>h2 (ah h)) hv
def zD{X:Cx}(k:Nat)(h:J X (res (adv X.P X.n k [] o)))(he:lhs (adv X.P X.n k [] o)=rhs (adv X.P X.n k [] o):=by kernel_rfl):J X o:=jd k [] h he
theorem zL{l:List α}{a:α}(h:l[i]?=some a):a∈l:=aj h
def zR{P:Program}{hm:P.follows .mixedOrders=true}{Φ:Value->Cells->Prop}(v:Value)(hs ps:List Nat)(Y:Cells)(hR:Φ v Y)(h1:yF (nz P (x6 P f).ntmps f hs o)=some v:=by kernel_rfl)(h2:Yf (nz P (x6 P f).ntmps f hs o)=Ye (nz P (x6 P f).ntmps f hs o):=by kernel_rfl)(h3:fT ps o=some Y:=by kernel_rfl)(h4:Ha o=true:=by kernel_rfl):J (X0 P hm f ro (RX ro Φ)) o:=
 bY q0 v hs ps Y (Sub.refl _) ⟨_,_,rfl,rfl,hR⟩ h1 h2 h3 h4
theorem zX{P:Program}{hm:P.follows .mixedOrders=true}{Φ:Value->Cells->Prop}(v:Value)(hR:Φ v [])(h1:yF (nz P (x6 P f).ntmps f [] o)=some v:=by kernel_rfl)(h2:Yf (nz P (x6 P f).ntmps f [] o)=Ye (nz P (x6 P f).ntmps f [] o):=by kernel_rfl)(h3:fT [] o=some []:=by kernel_rfl)(h4:Ha o=true:=by kernel_rfl):J (X0 P hm f ro (RX ro Φ)) o:=
 zR v [] [] [] hR h1 h2 h3 h4
def zE{Φ:Value->Cells->Prop}(h:J (X0 Tryz.prog bE f ro (RX ro Φ)) (pI Tryz.prog f args [] [])):eW Tryz.prog f args ro [] Φ:=dD bE [] [] c9 h
def zC{Φ:Value->Cells->Prop}{L:Cells}(own:List Sg)(h:J (X0 Tryz.prog bE f ro (RX ro Φ)) (pI Tryz.prog f args own []))(hL:den own=L:=by rfl):eW Tryz.prog f args ro L Φ:=dD bE own [] c9 h hL
@[reducible] def zN(a k:Nat):List Nat:=List.range' a k
theorem zM:(∀l m:List α,(l++m).length=l.length+m.length)/\(∀(a:α) (l:List α),(a::l).length=l.length+1)/\([]:List α).length=0:=⟨λ_ _=>aM,λ_ _=>rfl,rfl⟩
def zK{X:Cx}{m:Nat}{e:Env}(h:∀o',wS 0 [] o'=wS m [] o->sY (qg e) o'=some e->J X o')(h1:wS 0 [] o'=wS m [] o:=by kernel_rfl)(h2:sY (qg e) o'=some e:=by kernel_rfl):J X o':=h o' h1 h2
def zY{X:Cx}{K:Act->St->Prop}{ef:ι->Env}{wf:ι->List Sg}{Inv:ι->Prop}{μ:ι->Nat}{m:Nat}(hK:yj X K ef wf Inv μ m)(j:ι)(h:Inv j)(ps:List Nat)(hm:μ j <m:=by first|omega| (dsimp only;omega))
 (h0:VW o=some K:=by kernel_rfl)(h1:sY (qg (ef j)) o=some (ef j):=by kernel_rfl)(h2:wL ps o=some (wf j):=by kernel_rfl):J X o:=dY hK j h hm ps (Sub.refl _) h0 h1 h2
def zF{X:Cx}{K:Act->St->Prop}{ef:ι->Env}{wf:ι->List Sg}{A B:ι->Prop}{μ:ι->Nat}{m:Nat}(hK:yj X K ef wf (λj=>A j/\B j) μ m)(j:ι)(h:B j)(ps:List Nat)(h9:A j:=by dsimp only;omega)(hm:μ j <m:=by first|omega| (dsimp only;omega))
 (h0:VW o=some K:=by kernel_rfl)(h1:sY (qg (ef j)) o=some (ef j):=by kernel_rfl)(h2:wL ps o=some (wf j):=by kernel_rfl):J X o:=dY hK j ⟨h9,h⟩ hm ps (Sub.refl _) h0 h1 h2
theorem zH{X:Cx}{v:Value}{szo:Nat}{T2:TypeId}{enc:α->List Value}{ps:List α}{L:Cells}{x:α}(ix:Int)(sz:Nat)(kO:bJ v szo T2 enc ps L)(hx:ps[ix.toNat]?=some x) (hj:∀b,Td v b->J X (lT (.pointer (some ⟨b,ix.toNat*sz,none⟩)) o)) (he:ix=(ix.toNat:Int):=by first|omega| (simp only[aO] at*;omega)) (hv:fp X.n (ixA X.P X.n) o=some (v,ix,sz):=by kernel_rfl):J X o:=MB ix sz kO hx he hj hv
def zV{X:Cx}{K:Act->St->Prop}{ef:ι->Env}{wf:ι->List Sg}{Inv:ι->Prop}{μ:ι->Nat}{m:Nat}(hK:yj X K ef wf Inv μ m)(j:ι)(h:Inv j)(ps:List (List Nat))(hm:μ j <m:=by first|omega| (dsimp only;omega))
 (h0:VW o=some K:=by kernel_rfl)(h1:sY (qg (ef j)) o=some (ef j):=by kernel_rfl)(h2:gO ps o=some (adh (wf j)):=by kernel_rfl):J X o:=C7 hK j h hm ps (Sub.refl _) h0 h1 h2
def zW{X:Cx}(r:Int)(hj:J X (lT (.int .i64 r) o))(h: -9223372036854775808<=r/\r<=9223372036854775807:=by omega)(hv:fp X.n (au9 X.P X.n) o=some (.int .i64 (IntKind.i64.wrap r)):=by kernel_rfl):J X o:=ja r h hj hv
def zxq{X:Cx}(enc:α->List Value){qs:List α}{a:Option Addr}{o':Nat}(e E i c:Nat)(ha:∀k,k <qs.length->a=some ⟨b,o',none⟩)(hl:∀(i:Nat) (p:α),qs[i]?=some p->eK ⟨X.ro,[]⟩ b (o'+i*sz) sz (enc p)) (hj:∀a' c' L',bJ (.slice a' qs.length c') sz E enc qs L'->J X (SA [i] (.slice a' qs.length c') L' o))
 (hb:qs.length<=1048576:=by first|omega| (simp<;>omega)) (hq:∀p∈qs,∀c∈enc p,single c=true:=by exact λp _=>aG rfl) (hv:iC X.n (apV X.P X.n) o=some (.slice (some ⟨e,0,none⟩) 0 0,.slice a qs.length c,E,sz):=by kernel_rfl) (h2:fT [i] o=some [(e,.cells ⟨[]⟩ E (0,0))]:=by kernel_rfl) (h3:fT [] o=some []:=by kernel_rfl):J X o:=
 gC (ps:=[]) [i] [] [] bD (λ_ he _=>⟨a,b,o',c,rfl,ha,λi p hp=>(hl i p hp).ext he⟩) hq (by simpa using hb) (λv L h=>by rw[aL] at h;obtain⟨a',c',rfl⟩:=h.form;exact hj a' c' L h) hv h2 h3
def zxk{X:Cx}{v:Value}{E:Nat}(enc:α->List Value){ps qs:List α}{L:Cells}{a:Option Addr}{o':Nat}(i c:Nat)(kO:bJ v sz E enc ps L)(ha:∀k,k <qs.length->a=some ⟨b,o',none⟩)(hl:∀(i:Nat) (p:α),qs[i]?=some p->eK ⟨X.ro,[]⟩ b (o'+i*sz) sz (enc p)) (hj:∀a' c' L',bJ (.slice a' (ps++qs).length c') sz E enc (ps++qs) L'->J X (SA [i] (.slice a' (ps++qs).length c') L' o))
 (hb:ps.length+qs.length<=1048576:=by first|omega| (simp<;>omega)) (hq:∀p∈qs,∀c∈enc p,single c=true:=by exact λp _=>aG rfl) (hv:iC X.n (apV X.P X.n) o=some (v,.slice a qs.length c,E,sz):=by kernel_rfl) (h2:fT [i] o=some L:=by kernel_rfl) (h3:fT [] o=some []:=by kernel_rfl):J X o:=
 gC [i] [] [] kO (λ_ he _=>⟨a,b,o',c,rfl,ha,λi p hp=>(hl i p hp).ext he⟩) hq hb (λv L h=>by obtain⟨a',c',rfl⟩:=h.form;exact hj a' c' L h) hv h2 h3
def zxl{X:Cx}{v:Value}(enc:α->List Value){ps:List α}{L:Cells}(b:Nat)(x:α)(i j:Nat)(kO:bJ v sz E enc ps L)(hj:∀a c L',bJ (.slice a (ps++[x]).length c) sz E enc (ps++[x]) L'->J X (SA [i] (.slice a (ps++[x]).length c) L' o))
 (hb:ps.length+[x].length<=1048576:=by first|omega| (simp<;>omega))(hl:(enc x).length=sz:=by rfl)(hs:(enc x).all single=true:=by rfl)(hv:iC X.n (apV X.P X.n) o=some (v,.slice (some ⟨b,0,none⟩) 1 1,E,sz):=by kernel_rfl)(h2:fT [i] o=some L:=by kernel_rfl)(h3:fT [j] o=some [(b,.cells ⟨([x].map enc).flatten⟩ E (0,0))]:=by kernel_rfl):J X o:=
 aRt enc b x i j kO hl hs hb hj hv h2 h3
def zxs{X:Cx}{a:Option Addr}(ps:List α)(k cap sz:Nat)(ha:∀k,k <ps.length->a=some ⟨b,off,none⟩)(hj:∀x,ps[k]?=some x->J X (lT (.pointer (some ⟨b,off+k*sz,none⟩)) o)) (hk:k <ps.length:=by first|omega| (simp only[aO];omega)) (hv:fp X.n (ixA X.P X.n) o=some (.slice a ps.length cap,(k:Int),sz):=by kernel_rfl):J X o:=
 iF cap sz ha (af hk) (hj _ (af hk)) hv
def zxt{X:Cx}{a:Option Addr}{enc:α->List Value}(ps:List α)(k cap sz:Nat)(ha:∀k,k <ps.length->a=some ⟨b,off,none⟩)(hl:∀(i:Nat) (p:α),ps[i]?=some p->eK ⟨X.ro,[]⟩ b (off+i*sz) sz (enc p)) (hj:∀x,ps[k]?=some x->J X (JW [] (ldW X.P X.n 0 (enc x) (lT (.pointer (some ⟨b,off+k*sz,none⟩)) o)) (lT (.pointer (some ⟨b,off+k*sz,none⟩)) o))) (hk:k <ps.length:=by first|omega| (simp only[aO];omega))
 (hv:fp X.n (ixA X.P X.n) o=some (.slice a ps.length cap,(k:Int),sz):=by kernel_rfl) (h2:∀x:α,fp X.n (ldA X.P X.n 0 (enc x)) (lT (.pointer (some ⟨b,off+k*sz,none⟩)) o)=some (some ⟨b,off+k*sz+0,none⟩):=by intro _;kernel_rfl):J X o:=
 zxs ps k cap sz ha (λx hx=>jl 0 (hl _ _ hx) (hj x hx) (h2 x)) hk hv
def zya{p:Bool}(h:p=true):Value.bool q= .bool (p&&q):=by rw[h];rfl
def zyb{p:Bool}(h:p=false):Value.bool false= .bool (p&&q):=by rw[h];rfl
def zyc{p:Bool}(h:p=true):Value.bool true= .bool (p||q):=by rw[h];rfl
def zyd{p:Bool}(h:p=false):Value.bool q= .bool (p||q):=by rw[h];rfl
def zxw{X:Cx}{m:Nat}{e:Env}{w:Value}(t:Nat)(hj:∀o',wS 0 [] o'=wS m [] o->sY (qg e) o'=some e->J X o')(h:w=(mN e t).getD undef)(hv:O2 t o'=some w:=by kernel_rfl)(h1:wS 0 [] (Sn t ((mN e t).getD undef) o')=wS m [] o:=by kernel_rfl)(h2:sY (qg e) (Sn t ((mN e t).getD undef) o')=some e:=by kernel_rfl):J X o':=jw t _ h (hj _ h1 h2) hv
@[reducible] def zxc(b T:Nat)(l:List Value):Sg:= .b b (.cells ⟨l⟩ T (0,0))
def zxp{X:Cx}{V:Value}(vs:List Value)(hf:∀ {cK:Nat->Option Obj},Sub X.ro cK->iz X.P f vs cK V)(hj:J X (JW [] V o))(h1:fp X.n (y7 X.P X.n) o=some (f,vs):=by kernel_rfl)(h3:fT [] o=some []:=by kernel_rfl):J X o:=jp [] [] (λ_ hs _=>hf hs) hj h1 h3
def zxr{X:Cx}{V:Value}(hf:∀ {cK:Nat->Option Obj},Sub X.ro cK->iz X.P f vs cK V)(hj:J X (JW [] V o))(h1:fp X.n (y7 X.P X.n) o=some (f,vs):=by kernel_rfl)(h3:fT [] o=some []:=by kernel_rfl):J X o:=jp [] [] (λ_ hs _=>hf hs) hj h1 h3
def zxo{X:Cx}(i:Nat)(h:∀ {rest:Env} {todo:List Nat},LK X i o rest todo->J X (ajN i rest todo o))(hb:aag [i] o=true:=by kernel_rfl):J X o:=bX i (λ_ _=>h) hb
def pF(n lo hi:Int):Bool:=decide (lo<=n)&&decide (n<=hi)
def bM(p:α->Bool):List α->Nat->Int
 | [],_=> -1
 |x::l,k=>bif p x then k else bM p l (k+1)
theorem lg{l:List α}{k:Nat}{x:α}(h:l[k]?=some x):l.drop k=x::l.drop (k+1):=by
 grind [aB,gI]
theorem pz{l:List α}{k:Nat}(h:¬k <l.length):l.drop k=[]:=by simp_all
theorem p5{p:α->Bool}{l:List α}{k:Nat}{x:α}(h:l[k]?=some x):bM p (l.drop k) k=bif p x then (k:Int) else bM p (l.drop (k+1)) (k+1):=by rw[lg h];rfl
theorem A9{p:α->Bool}{l:List α}{k:Nat}(h:¬k <l.length):bM p (l.drop k) k= -1:=by rw[pz h];rfl
abbrev eI(x:Int):List Value:=[zI x]
def jD(n:Nat):List Int:=(List.range n).map λ(i:Nat)=>(i:Int)
theorem Mo(n:Nat):jD (n+1)=jD n++[(n:Int)]:=by simp[jD,Gi]
theorem Pb(n:Nat):(jD n).length=n:=by simp[jD]
def fo(v:Value)(xs:List Int)(d:Nat)(X:Cells):Prop:=∃(k:Nat) (fR:Int),k<=xs.length/\X=[(d,.cells ⟨[v,zI k,zU fR]⟩ 155 (0,0))]
def Dn(ro:Nat->Option Obj)(v:Value)(xs:List Int):Prop:=dq ro v 1 eI xs/\xs.length<=4611686018427387904
def Dn.up{bU:Nat->Option Obj}{v:Value}(h:Dn ro v xs)(hs:Sub ro bU):Dn bU v xs:=⟨h.1.up hs,h.2⟩
theorem toNonzero{n:Int}(h0:¬n <1)(h1:n<=1000000):IntKind.u64.wrap (n+1)≠0:=by
 rw[Ax _ rfl _ (by omega) (by grind [IntKind.bits])];omega
theorem toRange{n w:Int}(h0:¬n <1)(h1:n<=1000000)(hw:0<=w):0<=IntKind.i64.wrap (Int.tmod (mV .u64 w 16) (IntKind.u64.wrap (n+1)))/\IntKind.i64.wrap (Int.tmod (mV .u64 w 16) (IntKind.u64.wrap (n+1)))<=n:=by
 have e:IntKind.u64.wrap (n+1)=n+1:=Ax .u64 rfl _ (by omega) (by simp[IntKind.bits];omega);rw[e];have h2:0<=mV .u64 w 16:=Int.fdiv_nonneg hw (by decide);have h3:=wI (n+1) h2;have h4:=wT (mV .u64 w 16) (show 0 <n+1 by omega)
 grind [lB]
def biX{X:Cells}(hN:Dn ro vd xs)(hD:fo vd xs d X):eW zT 100 [zP d] ro X (λr Y=>∃w:Int,r= zU w/\0<=w/\w <18446744073709551616/\fo vd xs d Y):=by
 obtain⟨k,fR,hk,rfl⟩:=hD;obtain⟨hl,hn⟩:=hN;obtain⟨fQ,rK,rJ,fg,rfl,tJ,nj,nY⟩:=hl;refine zC [zxc d 155 [.slice fQ xs.length fg,zI (k:Int),zU fR]]<|jd 19 [0,0]<|zxo 13 λtT=>jd 1 [0]<|eE tT []<|jd 16 [0,0]<|zxo 13 λDX=>jd 1 [0]<|eE DX []<|jd 16 [0,0]<|zxo 13 λwA=>jd 1 [0]<|eE wA []<|jd 15 [0,0]<|zJ 52 ((k:Int) <(xs.length:Int)) (λh4=>?_) λh4=>?_
 ·
  refine jd 16 [0,0,0]<|zxt xs k fg 1 nj nY λx66 aj7=>zD 5<|zxo 20 λuD=>jd 1 [0]<|eE uD []<|jd 6 [0]<|zW ((k:Int)+1)<|jd 30 [0,0]<|zR (zU (gr .u64 (IntKind.u64.wrap ((gr .u64 (IntKind.u64.wrap ((gr .u64 (gr .u64 (gr .u64 fR (iA .u64 fR 13)) (mV .u64 (gr .u64 fR (iA .u64 fR 13)) 7)) (iA .u64 (gr .u64 (gr .u64 fR (iA .u64 fR 13)) (mV .u64 (gr .u64 fR (iA .u64 fR 13)) 7)) 17))+(IntKind.u64.wrap ((IntKind.u64.wrap x66)*13787848793156543929)))) (mV .u64 (IntKind.u64.wrap ((gr .u64 (gr .u64 (gr .u64 fR (iA .u64 fR 13)) (mV .u64 (gr .u64 fR (iA .u64 fR 13)) 7)) (iA .u64 (gr .u64 (gr .u64 fR (iA .u64 fR 13)) (mV .u64 (gr .u64 fR (iA .u64 fR 13)) 7)) 17))+(IntKind.u64.wrap ((IntKind.u64.wrap x66)*13787848793156543929)))) 30))*10723151780598845931)) (mV .u64 (IntKind.u64.wrap ((gr .u64 (IntKind.u64.wrap ((gr .u64 (gr .u64 (gr .u64 fR (iA .u64 fR 13)) (mV .u64 (gr .u64 fR (iA .u64 fR 13)) 7)) (iA .u64 (gr .u64 (gr .u64 fR (iA .u64 fR 13)) (mV .u64 (gr .u64 fR (iA .u64 fR 13)) 7)) 17))+(IntKind.u64.wrap ((IntKind.u64.wrap x66)*13787848793156543929)))) (mV .u64 (IntKind.u64.wrap ((gr .u64 (gr .u64 (gr .u64 fR (iA .u64 fR 13)) (mV .u64 (gr .u64 fR (iA .u64 fR 13)) 7)) (iA .u64 (gr .u64 (gr .u64 fR (iA .u64 fR 13)) (mV .u64 (gr .u64 fR (iA .u64 fR 13)) 7)) 17))+(IntKind.u64.wrap ((IntKind.u64.wrap x66)*13787848793156543929)))) 30))*10723151780598845931)) 31))) [] [0] [(d,.cells ⟨[.slice fQ xs.length fg,zI ((k:Int)+1),zU (IntKind.u64.wrap ((gr .u64 (gr .u64 (gr .u64 fR (iA .u64 fR 13)) (mV .u64 (gr .u64 fR (iA .u64 fR 13)) 7)) (iA .u64 (gr .u64 (gr .u64 fR (iA .u64 fR 13)) (mV .u64 (gr .u64 fR (iA .u64 fR 13)) 7)) 17))+(IntKind.u64.wrap ((IntKind.u64.wrap x66)*13787848793156543929))))]⟩ 155 (0,0))] ⟨_,rfl,(BQ _ _).1,(BQ _ _).2,k+1,_,(by omega),rfl⟩
 refine jd 28 [0]<|zR (zU (gr .u64 (IntKind.u64.wrap ((gr .u64 (gr .u64 (gr .u64 (gr .u64 fR (iA .u64 fR 13)) (mV .u64 (gr .u64 fR (iA .u64 fR 13)) 7)) (iA .u64 (gr .u64 (gr .u64 fR (iA .u64 fR 13)) (mV .u64 (gr .u64 fR (iA .u64 fR 13)) 7)) 17)) (mV .u64 (gr .u64 (gr .u64 (gr .u64 fR (iA .u64 fR 13)) (mV .u64 (gr .u64 fR (iA .u64 fR 13)) 7)) (iA .u64 (gr .u64 (gr .u64 fR (iA .u64 fR 13)) (mV .u64 (gr .u64 fR (iA .u64 fR 13)) 7)) 17)) 30))*10723151780598845931)) (mV .u64 (IntKind.u64.wrap ((gr .u64 (gr .u64 (gr .u64 (gr .u64 fR (iA .u64 fR 13)) (mV .u64 (gr .u64 fR (iA .u64 fR 13)) 7)) (iA .u64 (gr .u64 (gr .u64 fR (iA .u64 fR 13)) (mV .u64 (gr .u64 fR (iA .u64 fR 13)) 7)) 17)) (mV .u64 (gr .u64 (gr .u64 (gr .u64 fR (iA .u64 fR 13)) (mV .u64 (gr .u64 fR (iA .u64 fR 13)) 7)) (iA .u64 (gr .u64 (gr .u64 fR (iA .u64 fR 13)) (mV .u64 (gr .u64 fR (iA .u64 fR 13)) 7)) 17)) 30))*10723151780598845931)) 31))) [] [0] [(d,.cells ⟨[.slice fQ xs.length fg,zI (k:Int),zU (gr .u64 (gr .u64 (gr .u64 fR (iA .u64 fR 13)) (mV .u64 (gr .u64 fR (iA .u64 fR 13)) 7)) (iA .u64 (gr .u64 (gr .u64 fR (iA .u64 fR 13)) (mV .u64 (gr .u64 fR (iA .u64 fR 13)) 7)) 17))]⟩ 155 (0,0))] ⟨_,rfl,(BQ _ _).1,(BQ _ _).2,k,_,(by omega),rfl⟩
def dTo{X:Cells}{n:Int}(hN:Dn ro vd xs)(hD:fo vd xs d X)(hn:n<=1000000):eW zT 48 [zP d,zI n] ro X (λr Y=>∃w:Int,r= zI w/\0<=w/\(w<=n\/w=0)/\fo vd xs d Y):=by
 refine zC [.l X]<|zD 10<|zJ 6 (n <1) (λh1=>?_) λh1=>?_
 ·
  refine zD 6<|zR (zI 0) [] [0] X ⟨_,rfl,(by omega),(by omega),hD⟩
 refine zD 5<|jc [0] (biX hN hD) ?_;rintro _ X8 ⟨w8,rfl,hw8,hx8,hD8⟩;refine zD 2<|zW (n+1)<|zD 1<|jrm (k:= .u64) (a:=(mV .u64 w8 16)) (b:=(IntKind.u64.wrap (n+1))) 153 (toNonzero h1 hn)<|zD 4<|zR (zI (IntKind.i64.wrap (Int.tmod (mV .u64 w8 16) (IntKind.u64.wrap (n+1))))) [] [0] X8 ⟨_,rfl,(toRange h1 hn hw8).1,.inl (toRange h1 hn hw8).2,hD8⟩
def Ee{X:Cells}{lo:Int}(hN:Dn ro vd xs)(hD:fo vd xs d X)(qL: -1000<=lo/\lo<=1000)(hhi: -1000<=hi/\hi<=1000):eW zT 127 [zP d,zI lo,zI hi] ro X (λr Y=>∃w:Int,r= zI w/\lo<=w/\(w<=hi\/w=lo)/\fo vd xs d Y):=by
 refine zC [.l X]<|zD 10<|zW (hi-lo)<|jc (vs:=[zP d,zI (hi-lo)]) [0] (dTo hN hD (by omega)) ?_;rintro _ X12 ⟨w12,rfl,bsv,uA,bio⟩;refine zW (lo+w12)<|zD 3<|zR (zI (lo+w12)) [] [0] _ ⟨_,rfl,(by omega),(by omega),bio⟩
def abG{X:Cells}{n:Int}(hN:Dn ro vd xs)(hD:fo vd xs d X)(hn:0<=n/\n<=1000):eW zT 47 [zP d,zI n] ro X (λr Y=>∃w:Bool,r= .bool w/\fo vd xs d Y):=by
 refine zC [.l X]<|zD 8<|zW (n-1)<|jc (vs:=[zP d,zI (n-1)]) [0] (dTo hN hD (by omega)) ?_;rintro _ X8 ⟨w8,rfl,hw8,hx8,hD8⟩;refine zD 4<|zR (.bool (decide (w8=0))) [] [0] X8 ⟨_,rfl,hD8⟩
def bs(l:List Nat):ByteArray:=⟨(l.map UInt8.ofNat).toArray⟩
abbrev nU(x:ByteArray):List Value:=[.string x]
structure gA where
 f:ByteArray
 t:ByteArray
variable {rs:List gA}
abbrev jT(x:gA):List Value:=[.string x.f,.string x.t]
structure aP where
 k:Int
 st:Int
 ot:Int
 fn:Int
 fl:Int
 tn:Int
 tl:Int
abbrev mO(x:aP):List Value:=[.int .i64 x.k,.int .i64 x.st,.int .i64 x.ot,.int .i64 x.fn,.int .i64 x.fl,.int .i64 x.tn,.int .i64 x.tl]
def EL{ps:List α}{k:Nat}{x y:α}(h1:ps[i]?=some x) (h2:ps[k]?=some y):((ps.set i y).set k x).Perm ps:=by
 obtain⟨a,rfl⟩:=aB.1 h1;obtain⟨b,rfl⟩:=aB.1 h2;exact List.set_set_perm a b
def aCv{X:Cells}{vm:Value}(hN:Dn ro vd xs)(hD:fo vd xs d X)(hm:dq ro vm 1 nU ys)(hy:0 <ys.length/\ys.length<=1000):eW zT 95 [zP d,vm] ro X (λr Y=>∃w:ByteArray,r= .string w/\w∈ys/\fo vd xs d Y):=by
 obtain⟨qma,qmb,qmo,qmc,rfl,qmk,qmh,qml⟩:=hm;refine zC [.l X]<|zD 10<|zW ((ys.length:Int)-1)<|jc (vs:=[zP d,zI ((ys.length:Int)-1)]) [0] (dTo hN hD (by omega)) ?_;rintro _ X10 ⟨Js,rfl,aGN,Kg,KH⟩;obtain⟨x11,aaC⟩:=zG ys (Js.toNat);refine jsi Js qmc 1 qmh aaC (by omega)<|jl 0 (qml _ _ aaC)<|zD 3<|zR _ [] [0] _ ⟨_,rfl,zL aaC,KH⟩
def aJ5{X:Cells}(hN:Dn ro vd xs)(hD:fo vd xs d X)(hn:n<=100):eW zT 162 [zP d,zI (n:Int)] ro X (λr Y=>∃(ps:List Int) (L X':Cells),bJ r 1 3 eI ps L/\ps.Perm (jD n)/\Y=L++X'/\fo vd xs d X'):=by
 refine zC [.l X]<|zD 14<|wN<|iE [1,1,0,1,0,0] [] (λ(zz:Nat×Value×Cells)=>[(0,zP d),(1,zI (n:Int)),(4,zS),(5,zz.2.1),(6,zI (zz.1:Int))]) (λzz=>[.l zz.2.2,.l X]) (λzz=>zz.1<=n/\bJ zz.2.1 1 3 eI (jD zz.1) zz.2.2) (λzz=>n-zz.1) (⟨0,zS,[]⟩) ⟨by omega,bJ.nil _ _ _⟩ [0,1] ?_;rintro⟨k,v,L⟩ hI K1 cX rest;dsimp only at hI;refine zD 7<|zJ 12 ((k:Int) <(n:Int)) (λh1=>?_) λh1=>?_
 ·
  refine zD 7<|jn λb17=>zxl eI b17 (k:Int) 1 0 (hI.2) (λrD rC C0 dE=>?_) (hb:=by simp[jD];omega);refine zD 4<|zW ((k:Int)+1)<|zD 2<|zY cX (⟨k+1,(.slice rD ((jD k++[(k:Int)])).length rC),C0⟩) ⟨by omega,by rw[Mo];exact dE⟩ [0,2]
 refine zD 6<|zW ((n:Int)-1)<|zD 3<|iE [1,1,1,0,1,0,0] [] (λ(zz:Int×Value×Cells×(List Int)×Cells)=>[(0,zP d),(4,zS),(5,zz.2.1),(7,zI zz.1)]) (λzz=>[.l zz.2.2.1,.l zz.2.2.2.2]) (λzz=>(-1<=zz.1/\zz.1 <n)/\bJ zz.2.1 1 3 eI zz.2.2.2.1 zz.2.2.1/\zz.2.2.2.1.Perm (jD n)/\fo vd xs d zz.2.2.2.2) (λzz=>zz.1.toNat) (⟨(n:Int)-1,v,L,jD k,X⟩) ⟨by omega,hI.2,(by rw[show k=n by omega]),hD⟩ [0,1] ?_;rintro⟨j,v,L,ps,X⟩ Iw K2 mb rest;dsimp only at Iw;have hlen:ps.length=n:=by rw[Iw.2.2.1.length_eq,Pb]
 refine zD 6<|zJ 22 (j>0) (λh2=>?_) λh2=>?_
 ·
  refine zD 8<|jc (vs:=[zP d,zI j]) [1] (dTo hN Iw.2.2.2 (by omega)) ?_;rintro _ X27 ⟨w27,rfl,bss,A2,bik⟩;refine zD 6 ?_;obtain⟨Fp,s7⟩:=zG ps (j.toNat);refine MB j 1 Iw.2.1 s7 (by omega) λb30 arb=>zx 0 [1] L (λs _ hZ=>lS Iw.2.1 arb hZ s7)<|zD 8 ?_;obtain⟨XY,wm⟩:=zG ps (w27.toNat);refine MB w27 1 Iw.2.1 wm (by omega) λb36 bhq=>zx 0 [1] L (λs _ hZ=>lS Iw.2.1 bhq hZ wm) ?_;obtain⟨x38,GV⟩:=zG ps (j.toNat);refine MB j 1 Iw.2.1 GV (by omega) λb38 bhp=>jso 1 0 [zI XY] XY Iw.2.1 bhp GV rfl rfl (cT rfl) λL3 ho4=>zD 5 ?_;obtain⟨x42,SJ⟩:=zG ((ps.set j.toNat XY)) (w27.toNat) (by first|omega| (simp only[aO,zM];omega));refine MB w27 1 ho4 SJ (by omega) λb42 bhm=>jso 0 0 [zI Fp] Fp ho4 bhm SJ rfl rfl (cT rfl) λL5 ho6=>zD 3<|zW (j-1)<|zD 2<|zY mb (⟨j-1,v,L5,((ps.set j.toNat XY).set w27.toNat Fp),X27⟩) ⟨by omega,ho6,(EL s7 wm).trans Iw.2.2.1,bik⟩ [0,1]
 refine zD 8<|zR _ [] [0,1] _ ⟨_,_,_,Iw.2.1,Iw.2.2.1,rfl,Iw.2.2.2⟩
def aCo:List ByteArray:=[bs [101],bs [121],bs [115,104],bs [97],bs [110,110],bs [116,104],bs [109]]
def toW:List ByteArray:=[bs [],bs [105],bs [115],bs [116],bs [97,101],bs [106],bs [110]]
def XI(r:gA):Prop:=r.f∈aCo/\r.t∈toW
def Rx{p:α->Prop}{l:List α}{x:α}(h:∀y∈l,p y)(hx:p x):∀y∈l++[x],p y:=λy hy=>by
 rcases bI.1 hy with h1|h1
 .exact h y h1
 rw[aV] at h1;subst h1;exact hx
def aJ4{X:Cells}{many:Int}(hN:Dn ro vd xs)(hD:fo vd xs d X)(hn:0<=many/\many<=100):eW zT 39 [zP d,zI many] ro X (λr Y=>∃(ps:List gA) (L X':Cells),bJ r 2 169 jT ps L/\ps.length<=many/\(∀r∈ps,XI r)/\Y=L++X'/\fo vd xs d X'):=by
 refine zC [.l X]<|zD 13<|jc (vs:=[zP d,zI many]) [0] (dTo hN hD (by omega)) ?_;rintro _ X10 ⟨Js,rfl,aGN,Kg,KH⟩;refine zD 3<|wN<|iE [1,1,0,1,0,0] [] (λ(zz:Int×Value×Cells×(List gA)×Cells)=>[(0,zP d),(4,zS),(5,zz.2.1),(6,zI zz.1)]) (λzz=>[.l zz.2.2.1,.l zz.2.2.2.2]) (λzz=>(0<=zz.1/\zz.2.2.2.1.length+zz.1<=many)/\bJ zz.2.1 2 169 jT zz.2.2.2.1 zz.2.2.1/\(∀r∈zz.2.2.2.1,XI r)/\fo vd xs d zz.2.2.2.2) (λzz=>zz.1.toNat) (⟨Js,zS,[],[],X10⟩) ⟨by simp only[List.length_nil];omega,bJ.nil _ _ _,(λ_ h=>by cases h),KH⟩ [0,1] ?_;rintro⟨j,v,L,ps,X⟩ hI K1 cX rest;dsimp only at hI;refine zD 6<|zJ 12 (j>0) (λh1=>?_) λh1=>?_
 ·
  refine zD 7<|jn λb16=>jcL (vs:=[zP d,.slice (some ⟨b16,0,none⟩) 7 7]) [2] [0] [(b16,.cells ⟨([(bs [101]),(bs [121]),(bs [115,104]),(bs [97]),(bs [110,110]),(bs [116,104]),(bs [109])].map nU).flatten⟩ 9 (0,0))] (λcK hs hZ=>aCv (hN.up hs) hI.2.2.2 (fK [(bs [101]),(bs [121]),(bs [115,104]),(bs [97]),(bs [110,110]),(bs [116,104]),(bs [109])] hZ.head (by intro p hp;rfl)) (by decide)) ?_;rintro _ X17 ⟨w17,rfl,aRQ,aJg⟩;refine zD 1<|jn λXx=>jcL (vs:=[zP d,.slice (some ⟨Xx,0,none⟩) 7 7]) [1] [0] [(Xx,.cells ⟨([(bs []),(bs [105]),(bs [115]),(bs [116]),(bs [97,101]),(bs [106]),(bs [110])].map nU).flatten⟩ 9 (0,0))] (λcK hs hZ=>aCv (hN.up hs) aJg (fK [(bs []),(bs [105]),(bs [115]),(bs [116]),(bs [97,101]),(bs [106]),(bs [110])] hZ.head (by intro p hp;rfl)) (by decide)) ?_;rintro _ X20 ⟨w20,rfl,aRP,akH⟩;refine zD 1<|jn λb7=>jd 5 [0,0]<|jn λb24=>zxl jT b24 (⟨w17,w20⟩:gA) 5 0 (hI.2.1) λbah aZZ L25 aqq=>zD 4<|zW (j-1)<|zD 2<|zY cX (⟨j-1,(.slice bah ((ps++[(⟨w17,w20⟩:gA)])).length aZZ),L25,(ps++[(⟨w17,w20⟩:gA)]),X20⟩) ⟨by simp only[zM];omega,aqq,Rx hI.2.2.1 ⟨aRQ,aRP⟩,akH⟩ [0,3]
 refine zD 8<|zR _ [] [0,1] _ ⟨_,_,_,hI.2.1,(by omega),hI.2.2.1,rfl,hI.2.2.2⟩
def Nt(b:UInt8):Bool:=Nat.ble 97 b.toNat&&Nat.ble b.toNat 122
def PM(b:UInt8):Bool:=Nat.ble 65 b.toNat&&(Nat.ble b.toNat 90&& !(Nat.beq b.toNat 72||Nat.beq b.toNat 81||Nat.beq b.toNat 87))
def Script(w:ByteArray):Prop:=(∀b∈w.data.toList,Nt b=true)\/(∀b∈w.data.toList,PM b=true)
def iZ{enc:α->List Value}(ps:List α)(hn:ps.length=n)(hl:∀p∈ps,(enc p).length=sz):bJ (.slice (some ⟨b,0,none⟩) n n) sz T enc ps [(b,.cells ⟨(ps.map enc).flatten⟩ T (0,0))]:=by
 subst hn;exact .inr ⟨b,_,ps.length,rfl,rfl,rh ps hl,bu _,hl,by rw[<-rh ps hl,List.take_length]⟩
inductive kA{α β:Type}(R:α->β->Prop):List α->List β->Prop
 |nil:kA R [] []
 |cons {a:α} {b:β} {l:List α} {m:List β}:R a b->kA R l m->kA R (a::l) (b::m)
def kA.snoc{R:α->β->Prop}{l:List α}{m:List β}{a:α}{b:β}(h:kA R l m)(k:R a b):kA R (l++[a]) (m++[b]):=by
 induction h with
 |nil=>exact .cons k .nil
 |cons h1 _ ih=>exact .cons h1 ih
theorem kA.len{R:α->β->Prop}{l:List α}{m:List β}(h:kA R l m):l.length=m.length:=by
 induction h with
 |nil=>rfl
 |cons _ _ ih=>grind
theorem kA.get{R:α->β->Prop}{l:List α}{m:List β}(h:kA R l m){a:α}(ha:l[i]?=some a):∃b,m[i]?=some b/\R a b:=by
 induction h generalizing i with
 |nil=>grind
 |cons h1 _ ih=>
  grind
def kA.imp{R S:α->β->Prop}{l:List α}{m:List β}(h:kA R l m)(k:∀a b,R a b->S a b):kA S l m:=by
 induction h with
 |nil=>exact .nil
 |cons h1 _ ih=>exact .cons (k _ _ h1) ih
def wh{l:List α}{R:α->α->Prop}(h:l.Pairwise R){j:Nat}{a b:α}(Of:i <j)(ha:l[i]?=some a) (hb:l[j]?=some b):R a b:=by
 obtain⟨h1,rfl⟩:=aB.1 ha;obtain⟨h2,rfl⟩:=aB.1 hb;exact List.pairwise_iff_getElem.1 h i j h1 h2 Of
abbrev ri(x:Value):List Value:=[x]
structure ax where
 n:Int
 l:Int
abbrev cu(x:ax):List Value:=[zI x.n,zI x.l]
def mH(x y:ax):Prop:=x.n <y.n\/(x.n=y.n/\x.l <y.l)
def p7(x:ax):Prop:=(1<=x.n/\x.n<=40)/\0<=x.l/\x.l<=4
structure cg(S:List (List ax)):Prop where
 two:1<=S.length/\S.length<=2
 len:∀l∈S,l.length<=6
 jB:(S.map List.length).sum<=6
 ok:∀l∈S,∀x∈l,p7 x
 Sb:∀l∈S,l.Pairwise mH
def bH(ro:Nat->Option Obj)(v:Value)(S:List (List ax)):Prop:=∃ws,dq ro v 1 ri ws/\kA (λw l=>dq ro w 2 cu l) ws S
def kL(ro:Nat->Option Obj)(v:Value)(ways:List (List aP)):Prop:=∃ws,dq ro v 1 ri ws/\kA (λw l=>dq ro w 7 mO l) ws ways
def bH.up{bU:Nat->Option Obj}{v:Value}{S:List (List ax)}(h:bH ro v S)(hs:Sub ro bU):bH bU v S:=by
 obtain⟨ws,h1,h2⟩:=h;exact⟨ws,h1.up hs,h2.imp λ_ _ k=>k.up hs⟩
def kL.up{bU:Nat->Option Obj}{v:Value}{w:List (List aP)}(h:kL ro v w)(hs:Sub ro bU):kL bU v w:=by
 obtain⟨ws,h1,h2⟩:=h;exact⟨ws,h1.up hs,h2.imp λ_ _ k=>k.up hs⟩
def biY(hl:dq ro vd 1 eI xs):eW zT 28 [vd] ro [] (λr Y=>∃d,r= zP d/\fo vd xs d Y):=by
 obtain⟨fQ,rK,rJ,fg,rfl,tJ,nj,nY⟩:=hl;refine zE<|zD 8<|jn λb5=>zD 3<|zR (zP b5) [] [0] [(b5,.cells ⟨[.slice fQ xs.length fg,zI 0,zU 11400714819323198485]⟩ 155 (0,0))] ⟨_,rfl,0,_,bK _,rfl⟩
structure iy where
 a:Int
 b:Int
 c:Int
 d:Int
 e:Int
 f:Int
abbrev oA(x:iy):List Value:=[zI x.a,zI x.b,zI x.c,zI x.d,zI x.e,zI x.f]
theorem oH{v:Value}{enc:α->List Value}{ps:List α}(h:dq ro v sz enc ps):single v=true:=by
 obtain⟨a,b,o,c,rfl,_⟩:=h;rfl
def tP{P:Prop}{p:α}(h:([]:List α)[i]?=some p):P:=by simp at h
theorem cU{l:List α}{a:α}(h:l[i]?=some a):l.take (i+1)=l.take i++[a]:=by
 rw[List.take_succ,h];rfl
def Bf{R:α->β->Prop}{ws:List α}{ls:List β}{w:α}{l:β}(h:kA R ws (ls.take i))(hl:ls[i]?=some l) (hr:R w l):kA R (ws++[w]) (ls.take (i+1)):=by
 rw[cU hl];exact h.snoc hr
def hqw:ByteArray:=bs [72,81,87]
def kindOf(r:Int):Int:=if 97<=r/\r<=122 then 1 else if (65<=r/\r<=90)/\ixb hqw (UInt8.ofNat (IntKind.u8.wrap r).toNat) <0 then 2 else 0
def aVa:EF zT 338 Extern.BytealgIndexByte.indexByte:=⟨Tryz.f338,Tryz.func338,by kernel_rfl,by kernel_rfl,by kernel_rfl,by kernel_rfl⟩
def aj1{a:ByteArray}{b:Int}:iz zT 320 [.string a,.int .u8 b] ro (zI (ixb a (b).toNat.toUInt8)):=by
 refine zE<|zD 8<|jib (a:=a) (b:=b) aVa<|zD 3<|zX _ ⟨rfl,rfl⟩
def aj2{a:ByteArray}{b:Int}:iz zT 286 [.string a,.int .u8 b] ro (zI (ixb a (b).toNat.toUInt8)):=by
 refine zE<|zD 8<|zxp [.string a,.int .u8 b] (λhs=>aj1)<|zD 3<|zX _ ⟨rfl,rfl⟩
theorem aGu{a:ByteArray}(hr:0<=r/\r <128):iz zT 253 [.string a,.int .i32 r] ro (zI (ixb a (IntKind.u8.wrap r).toNat.toUInt8)):=by
 refine zE<|zD 10<|jj 3 [(0,.string a),(1,.int .i32 r),(4,zI 0),(166,.bool ((decide (0<=r))&&(decide (r <128))))] (λni=>?_) (λhj=>?_);rotate_left;refine js 163 (decide (0<=r)) (λh1=>?_) (λh1=>?_)
 ·
  have mA:=h1;refine zD 3<|zxw 166 hj (zya h1)
 ·
  grind
 refine zD 2<|js 160 ((decide (0<=r))&&(decide (r <128))) (λh2=>?_) (λh2=>?_)
 ·
  refine zD 6<|zxp [.string a,.int .u8 (IntKind.u8.wrap r)] (λhs=>aj2)<|zD 3<|zX _ ⟨rfl,rfl⟩
 grind
def aym{a:ByteArray}(hr:0<=r/\r <128):iz zT 218 [.string a,.int .i32 r] ro (.bool (decide (ixb a (IntKind.u8.wrap r).toNat.toUInt8>=0))):=by
 refine zE<|zD 8<|zxp [.string a,.int .i32 r] (λhs=>aGu (by omega))<|zD 4<|zX _ ⟨rfl,rfl⟩
def aA7{r:Int}{ro:Nat->Option Obj}:iz zT 158 [.int .i32 r] ro (zI (kindOf r)):=by
 refine zE<|zD 11<|jj 3 [(0,.int .i32 r),(2,zI 0),(9,.bool ((decide (r>=97))&&(decide (r<=122))))] (λni=>?_) (λhj=>?_);rotate_left;refine js 6 (decide (r>=97)) (λh1=>?_) (λh1=>?_)
 ·
  have mA:=h1;replace mA:=ai mA;refine zD 3<|zxw 9 hj (zya h1)
 ·
  have mA:=h1;replace mA:=ah mA;refine zD 3<|zxw 9 hj (zyb h1)
 refine zD 2<|js 3 ((decide (r>=97))&&(decide (r<=122))) (λh2=>?_) (λh2=>?_)
 ·
  refine zD 6<|zX (zI 1) ⟨by simp only[kindOf,hqw];congr 1;(try simp at*);(repeat' split)<;>omega,rfl⟩
 try simp only[zB] at h2
 refine zD 6<|jj 3 [(0,.int .i32 r),(2,zI 0),(16,.bool ((decide (r>=65))&&(decide (r<=90))))] (λni=>?_) (λhj=>?_);rotate_left;refine js 13 (decide (r>=65)) (λh3=>?_) (λh3=>?_)
 ·
  have wC:=h3;replace wC:=ai wC;refine zD 3<|zxw 16 hj (zya h3)
 ·
  have wC:=h3;replace wC:=ah wC;refine zD 3<|zxw 16 hj (zyb h3)
 refine zD 1<|jj 4 [(2,zI 0),(21,.bool (((decide (r>=65))&&(decide (r<=90)))&&(!(decide (ixb (bs [72,81,87]) (IntKind.u8.wrap r).toNat.toUInt8>=0)))))] (λni=>?_) (λhj=>?_);rotate_left;refine js 17 ((decide (r>=65))&&(decide (r<=90))) (λh4=>?_) (λh4=>?_)
 ·
  have KJ:=h4
  try simp only[zB] at KJ
  refine zD 1<|zxp [.string (bs [72,81,87]),.int .i32 r] (λhs=>aym (by omega))<|zD 2<|zxw 21 hj (zya h4)
 ·
  have KJ:=h4;refine zD 4<|zxw 21 hj (zyb h4)
 refine zD 2<|js 10 (((decide (r>=65))&&(decide (r<=90)))&&(!(decide (ixb (bs [72,81,87]) (IntKind.u8.wrap r).toNat.toUInt8>=0)))) (λh5=>?_) (λh5=>?_)
 ·
  refine zD 6<|zX (zI 2) ⟨by simp only[kindOf,hqw];congr 1;(try simp at*);(repeat' split)<;>omega,rfl⟩
 refine zD 7<|zX (zI 0) ⟨by simp only[kindOf,hqw];congr 1;(try simp at*);(repeat' split)<;>omega,rfl⟩
def apy:((List.range 256).all λn=> !Nt (UInt8.ofNat n)||decide (kindOf (n:Int)=1))=true:=by kernel_rfl
def apx:((List.range 256).all λn=> !PM (UInt8.ofNat n)||decide (kindOf (n:Int)=2))=true:=by kernel_rfl
def aiF(w:ByteArray)(k:Int):Prop:=∀b∈w.data.toList,b.toNat <128/\kindOf (b.toNat:Int)=k
theorem YV{w:ByteArray}(h:Script w):∃k:Int,(k=1\/k=2)/\aiF w k:=by
 have hb:∀b:UInt8,UInt8.ofNat b.toNat=b:=λb=>by simp
 rcases h with h|h
 .refine⟨1,.inl rfl,λb mz=>?_⟩;have h1:=h b mz;have h2:=c8.1 apy b.toNat (ee.2 b.toNat_lt);rw[hb,h1] at h2;simp only[Nt,au,Cg] at h1;exact⟨by omega,by simpa using h2⟩
 refine⟨2,.inr rfl,λb mz=>?_⟩;have h1:=h b mz;have h2:=c8.1 apx b.toNat (ee.2 b.toNat_lt);rw[hb,h1] at h2;simp only[PM,au,Cg] at h1;exact⟨by omega,by simpa using h2⟩
theorem awE{w:ByteArray}{k:Int}(hs:1<=w.size/\w.size<=6)(hk:k=1\/k=2)(hK:aiF w k):iz zT 117 [.string w] ro (zI 0):=by
 refine zE<|zD 11<|zJ 9 ((w.size:Int)=0) (λh1=>?_) λh1=>?_
 ·
  exfalso;omega
 refine zD 9<|zJ 12 ((w.size:Int)>6) (λh2=>?_) λh2=>?_
 ·
  exfalso;omega
 refine zD 10<|jn λr14=>zD 2<|iE [1,1,1,1,0,1,0,0] [] (λ(zz:Nat×Int)=>[(3,zI zz.2),(14,zP r14)]) (λzz=>[.b r14 (.stringIter w zz.1)]) (λzz=>zz.1<=w.data.toList.length/\(zz.2=0\/zz.2=k)) (λzz=>w.data.toList.length-zz.1) (⟨0,0⟩) ⟨by omega,.inl rfl⟩ [0] ?_;rintro⟨p,sc⟩ hI K1 cX rest;dsimp only at hI;refine zD 2 ?_;cases aaS:w.data.toList[p]? with
 |some Fs=>
  refine jnA r14 0 aaS (hK _ (zL aaS)).1<|zD 7 ?_;have hkk:=(hK _ (zL aaS)).2;refine zD 7<|zxp [.int .i32 (Fs.toNat:Int)] (λhs=>aA7)<|zD 8<|zJ 21 (sc=0) (λh3=>?_) λh3=>?_
  ·
   refine zD 10<|jj 4 [(3,zI (kindOf (Fs.toNat:Int))),(14,zP r14),(29,.bool ((decide ((kindOf (Fs.toNat:Int))=0))||(!decide ((kindOf (Fs.toNat:Int))=(kindOf (Fs.toNat:Int))))))] (λni=>?_) (λhj=>?_);rotate_left;refine js 25 (decide ((kindOf (Fs.toNat:Int))=0)) (λh4=>?_) (λh4=>?_)
   ·
    grind
   ·
    have KJ:=h4;replace KJ:=ah KJ;refine zD 4<|zxw 29 hj (zyd h4)
   refine zD 1<|js 29 ((decide ((kindOf (Fs.toNat:Int))=0))||(!decide ((kindOf (Fs.toNat:Int))=(kindOf (Fs.toNat:Int))))) (λh5=>?_) (λh5=>?_)
   ·
    try simp only[zB] at h5
    exfalso;omega
   try simp only[zB] at h5
   refine zD 2<|dY cX (⟨p+1,(kindOf (Fs.toNat:Int))⟩) ⟨by have:=(List.getElem?_eq_some_iff.1 aaS).1;dsimp only;omega,by dsimp only;omega⟩ (by have:=(List.getElem?_eq_some_iff.1 aaS).1;dsimp only;omega) [0] (Sub.refl _)
  refine zD 7<|jj 4 [(3,zI sc),(14,zP r14),(29,.bool ((decide ((kindOf (Fs.toNat:Int))=0))||(!decide ((kindOf (Fs.toNat:Int))=sc))))] (λni=>?_) (λhj=>?_);rotate_left;refine js 25 (decide ((kindOf (Fs.toNat:Int))=0)) (λh6=>?_) (λh6=>?_)
  ·
   grind
  ·
   have G5:=h6;replace G5:=ah G5;refine zD 4<|zxw 29 hj (zyd h6)
  refine zD 1<|js 29 ((decide ((kindOf (Fs.toNat:Int))=0))||(!decide ((kindOf (Fs.toNat:Int))=sc))) (λh7=>?_) (λh7=>?_)
  ·
   try simp only[zB] at h7
   exfalso;omega
  try simp only[zB] at h7
  refine zD 2<|dY cX (⟨p+1,sc⟩) ⟨by have:=(List.getElem?_eq_some_iff.1 aaS).1;dsimp only;omega,by dsimp only;omega⟩ (by have:=(List.getElem?_eq_some_iff.1 aaS).1;dsimp only;omega) [0] (Sub.refl _)
 |none=>
  refine jnZ r14 0 aaS<|zD 10<|zX _ ⟨rfl,rfl⟩
def rF:=(qV Tryz.typeInfo3 Tryz.underlying3 rfl rfl rfl rfl rfl rfl:TF zT 3 _ 1 8 _ false)
def aby(a b c d:Int)(dep:Nat):EqD zT (dep+2) 39 (.agg ⟨[zI a,zI b]⟩) (.agg ⟨[zI c,zI d]⟩) (a==c&&(b==d&&true)):=
 B3 (qV Tryz.typeInfo39 Tryz.underlying39 rfl rfl rfl rfl rfl rfl) Tryz.stoodInHeld39 (.cons (by simp) (oJ rF rfl) (oJ rF rfl) (tq rF _ _) (.cons (by simp) (oJ rF rfl) (oJ rF rfl) (tq rF _ _) .nil))
def ye(a b c d:Int):EqV zT 39 (.agg ⟨[zI a,zI b]⟩) (.agg ⟨[zI c,zI d]⟩) (a==c&&(b==d&&true)):=afn (aby a b c d _)
def Q6(a b c d e f:Int):EqV zT 41 (.agg ⟨[zI a,zI b,zI c]⟩) (.agg ⟨[zI d,zI e,zI f]⟩) (a==d&&(b==e&&(c==f&&true)&&true)):=
 afn (B3 (qV Tryz.typeInfo41 Tryz.underlying41 rfl rfl rfl rfl rfl rfl) Tryz.stoodInHeld41 (.cons (by simp) (oJ rF rfl) (oJ rF rfl) (tq rF _ _) (.cons (by simp) (BF (qV Tryz.typeInfo39 Tryz.underlying39 rfl rfl rfl rfl rfl rfl) rfl) (BF (qV Tryz.typeInfo39 Tryz.underlying39 rfl rfl rfl rfl rfl rfl) rfl) (aby _ _ _ _ _) .nil)))
def GF:Cc zT 39:=Tryz.eqGuardType39
def ZS:Cc zT 41:=Tryz.eqGuardType41
def cz(n l:Int)(y:ax):Bool:=n==y.n&&(l==y.l&&true)
theorem adM{w:ByteArray}(hs:1<=w.size/\w.size<=6)(h:Script w):iz zT 117 [.string w] ro (zI 0):=by
 grind [YV,awE]
def P9{v:Value}{ps:List ax}{n l:Int}(hp:dq ro v 2 cu ps)(hn:ps.length<=1000):iz zT 300 [v,.agg ⟨[zI n,zI l]⟩] ro (zI (bM (cz n l) ps 0)):=by
 obtain⟨iD,zr,zo,g9,rfl,CE,zq,zp⟩:=hp;refine zE<|zD 2<|jn λb3=>zD 10<|iE [1,0,1,0,0] [] (λ(zz:Nat)=>[(0,.slice iD ps.length g9),(3,zP b3),(7,zI (ps.length:Int)),(8,zI (zz:Int))]) (λzz=>[zxc b3 39 [zI n,zI l]]) (λzz=>zz<=ps.length/\bM (cz n l) ps 0=bM (cz n l) (ps.drop zz) zz) (λzz=>ps.length-zz) 0 ⟨by omega,rfl⟩ [0] ?_;rintro k hI K1 cX rest;refine zD 5<|zJ 9 ((k:Int) <(ps.length:Int)) (λh1=>?_) λh1=>?_
 ·
  refine jd 14 [0]<|zxt ps k g9 2 zq zp λu4 iB=>jeq GF (ye n l u4.n u4.l)<|zD 1<|js 16 (n==u4.n&&(l==u4.l&&true)) (λh2=>?_) (λh2=>?_)
  ·
   refine zD 7<|zX (zI (k:Int)) ⟨by rw[hI.2,p5 iB,show cz n l u4=true from (by assumption)];rfl,rfl⟩
  refine zD 3<|zW ((k:Int)+1)<|zD 2<|zY cX (k+1) ⟨by omega,by rw[hI.2,p5 iB,show cz n l u4=false from (by assumption)];rfl⟩ [0]
 refine zD 7<|zX (zI (-1)) ⟨by rw[hI.2,A9 (by omega)],rfl⟩
def Kb{v:Value}{ps:List ax}{n l:Int}(hp:dq ro v 2 cu ps)(hn:ps.length<=1000):iz zT 299 [v,.agg ⟨[zI n,zI l]⟩] ro (.bool (decide (bM (cz n l) ps 0>=0))):=by
 obtain⟨iD,zr,zo,g9,rfl,CE,zq,zp⟩:=hp;refine zE<|zD 2<|jn λb3=>jd 6 [0]<|zxp [.slice iD ps.length g9,.agg ⟨[zI n,zI l]⟩] (λhs=>P9 ((show dq _ _ _ _ _ from ⟨iD,zr,zo,g9,rfl,CE,zq,zp⟩).up hs) (by first|omega| (simp only[aO,zM];omega))) ?_;refine zD 4<|zX _ ⟨rfl,rfl⟩
def S6(a b:ByteArray):Int:=bif strLt a b then-1 else bif !(strLt a b||jo a b) then 1 else 0
def Xn:List ByteArray->List ByteArray->Int
 | [],[]=>0
 | [],_::_=> -1
 |_::_,[]=>1
 |x::xs,y::ys=>if S6 x y=0 then Xn xs ys else S6 x y
theorem aik{xs:List ByteArray}{k:Nat}{y:ByteArray}(hx:xs[k]?=some x) (hy:ys[k]?=some y):Xn (xs.drop k) (ys.drop k)=if S6 x y=0 then Xn (xs.drop (k+1)) (ys.drop (k+1)) else S6 x y:=by rw[lg hx,lg hy];rfl
theorem att{xs:List ByteArray}{k:Nat}(hx:xs[k]?=some x) (hy:¬k <ys.length):Xn (xs.drop k) (ys.drop k)=1:=by rw[lg hx,pz hy];rfl
theorem abL{xs:List ByteArray}{k:Nat}(hx:¬k <xs.length):Xn (xs.drop k) (ys.drop k)=if k <ys.length then-1 else 0:=by
 rw[pz hx];split
 .rename_i h;rw[gI h];rfl
 rename_i h;rw[pz h];rfl
def AS(s p:ByteArray):Bool:=decide (s.size>=p.size)&&jo (s.extract 0 p.size) p
structure ar where
 h:Int
 n:Int
 l:Int
abbrev bL(x:ar):List Value:=[zI x.h,zI x.n,zI x.l]
def qK(h n l:Int)(y:ar):Bool:=h==y.h&&(n==y.n&&(l==y.l&&true)&&true)
def aVv{a:ByteArray}:iz zT 318 [.string a] ro (.bool false):=by
 refine zE<|zD 12<|zX (.bool (!(jo a a))) ⟨by rw[AE.2 rfl];rfl,rfl⟩
def bi6{a b:ByteArray}:iz zT 274 [.string a,.string b] ro (zI (S6 a b)):=by
 refine zE<|zD 7<|zxp [.string a] (λhs=>aVv)<|zD 5<|zxp [.string b] (λhs=>aVv)<|zD 23<|js 16 (strLt a b) (λh1=>?_) (λh1=>?_)
 ·
  refine zD 6<|zX (zI (-1)) ⟨by simp_all[S6],rfl⟩
 refine zD 9<|js 19 (!(strLt a b||jo a b)) (λh2=>?_) (λh2=>?_)
 ·
  try simp only[zB] at h2
  refine zD 6<|zX (zI 1) ⟨by simp_all[S6],rfl⟩
 try simp only[zB] at h2
 refine zD 7<|zX (zI 0) ⟨by simp_all[S6],rfl⟩
def bbq{v w:Value}{xs:List ByteArray}(hv:dq ro v 1 nU xs)(hw:dq ro w 1 nU ys)(hx:xs.length<=1000)(hy:ys.length<=1000):iz zT 230 [v,w] ro (zI (Xn xs ys)):=by
 obtain⟨VL,qvb,qvo,Jd,rfl,qvk,Za,Y9⟩:=hv;obtain⟨tI,Mq,Mp,qN,rfl,qwk,C4,C3⟩:=hw;refine zE<|zD 12<|iE [1,0,1,0,0] [] (λ(zz:Nat)=>[(0,.slice VL xs.length Jd),(1,.slice tI ys.length qN),(9,.slice VL xs.length Jd),(10,zI (xs.length:Int)),(11,zI (zz:Int))]) (λzz=>[]) (λzz=>(zz<=xs.length/\zz<=ys.length)/\Xn xs ys=Xn (xs.drop zz) (ys.drop zz)) (λzz=>xs.length-zz) 0 ⟨by omega,rfl⟩ [] ?_;rintro k hI K1 cX rest;refine zD 5<|zJ 12 ((k:Int) <(xs.length:Int)) (λh1=>?_) λh1=>?_
 ·
  refine zD 7<|zxt xs k Jd 1 Za Y9 λu4 iB=>zD 11<|zJ 19 ((k:Int)>=(ys.length:Int)) (λh2=>?_) λh2=>?_
  ·
   refine zD 6<|zX _ ⟨by rw[hI.2,att iB (by omega)],rfl⟩
  refine zD 6<|zxt ys k qN 1 C4 C3 λLY iQ=>zD 6<|zxp [.string u4,.string LY] (λhs=>bi6)<|zD 7<|js 28 (!decide ((S6 u4 LY)=0)) (λh3=>?_) (λh3=>?_)
  ·
   replace h3:=ah (by simpa using h3);refine zD 7<|zX _ ⟨by rw[hI.2,aik iB iQ,cJ (by omega)],rfl⟩
  replace h3:=ai (by simpa using h3);refine zD 3<|zW ((k:Int)+1)<|zD 2<|zY cX (k+1) ⟨by omega,by rw[hI.2,aik iB iQ,dW (by omega)]⟩ []
 refine zD 11<|zJ 35 ((xs.length:Int) <(ys.length:Int)) (λh4=>?_) λh4=>?_
 ·
  refine zD 6<|zX _ ⟨by rw[hI.2,abL (by omega),dW (by omega)],rfl⟩
 refine zD 7<|zX _ ⟨by rw[hI.2,abL (by omega),cJ (by omega)],rfl⟩
def akB{a b:ByteArray}(hn:a.size<=1000/\b.size<=1000):iz zT 349 [.string a,.string b] ro (.bool (AS a b)):=by
 refine zE<|zD 12<|js 10 (decide ((a.size:Int)>=(b.size:Int))) (λh1=>?_) (λh1=>?_)
 ·
  have mA:=h1;replace mA:=ai mA;refine zD 3<|jtH (b:=a) (hi:=(b.size:Int)) (by omega)<|zD 6<|zX (.bool (jo (a.extract 0 (b.size:Int).toNat) b)) ⟨by simp_all[AS]<;>(intro;omega),rfl⟩
 have mA:=h1;replace mA:=ah mA;refine zD 10<|zX (.bool false) ⟨by simp_all[AS]<;>(intro;omega),rfl⟩
def akC{a b:ByteArray}(hn:a.size<=1000/\b.size<=1000):iz zT 337 [.string a,.string b] ro (.bool (AS a b)):=by
 refine zE<|zD 8<|zxp [.string a,.string b] (λhs=>(akB (by omega)))<|zD 3<|zX _ ⟨rfl,rfl⟩
def aao{v:Value}{ps:List ar}{h n l:Int}(hp:dq ro v 3 bL ps)(hn:ps.length<=1000):iz zT 133 [v,.agg ⟨[zI h,zI n,zI l]⟩] ro (zI (bM (qK h n l) ps 0)):=by
 obtain⟨iD,zr,zo,g9,rfl,CE,zq,zp⟩:=hp;refine zE<|zD 2<|jn λb3=>zD 10<|iE [1,0,1,0,0] [] (λ(zz:Nat)=>[(0,.slice iD ps.length g9),(3,zP b3),(7,zI (ps.length:Int)),(8,zI (zz:Int))]) (λzz=>[zxc b3 41 [zI h,zI n,zI l]]) (λzz=>zz<=ps.length/\bM (qK h n l) ps 0=bM (qK h n l) (ps.drop zz) zz) (λzz=>ps.length-zz) 0 ⟨by omega,rfl⟩ [0] ?_;rintro k hI K1 cX rest;refine zD 5<|zJ 9 ((k:Int) <(ps.length:Int)) (λh1=>?_) λh1=>?_
 ·
  refine jd 14 [0]<|zxt ps k g9 3 zq zp λu4 iB=>jeq ZS (Q6 h n l u4.h u4.n u4.l)<|zD 1<|js 16 (h==u4.h&&(n==u4.n&&(l==u4.l&&true)&&true)) (λh2=>?_) (λh2=>?_)
  ·
   refine zD 7<|zX (zI (k:Int)) ⟨by rw[hI.2,p5 iB,show qK h n l u4=true from (by assumption)];rfl,rfl⟩
  refine zD 3<|zW ((k:Int)+1)<|zD 2<|zY cX (k+1) ⟨by omega,by rw[hI.2,p5 iB,show qK h n l u4=false from (by assumption)];rfl⟩ [0]
 refine zD 7<|zX (zI (-1)) ⟨by rw[hI.2,A9 (by omega)],rfl⟩
def T9{v:Value}{ps:List ar}{h n l:Int}(hp:dq ro v 3 bL ps)(hn:ps.length<=1000):iz zT 98 [v,.agg ⟨[zI h,zI n,zI l]⟩] ro (.bool (decide (bM (qK h n l) ps 0>=0))):=by
 obtain⟨iD,zr,zo,g9,rfl,CE,zq,zp⟩:=hp;refine zE<|zD 2<|jn λb3=>jd 6 [0]<|zxp [.slice iD ps.length g9,.agg ⟨[zI h,zI n,zI l]⟩] (λhs=>aao ((show dq _ _ _ _ _ from ⟨iD,zr,zo,g9,rfl,CE,zq,zp⟩).up hs) (by first|omega| (simp only[aO,zM];omega))) ?_;refine zD 4<|zX _ ⟨rfl,rfl⟩
def aoX{v:Value}{ws:List ByteArray}(hv:dq ro v 1 nU ws)(hn:ws.length<=1000)(hW:∀w∈ws,(1<=w.size/\w.size<=6)/\Script w):iz zT 177 [v] ro (zI 0):=by
 obtain⟨VL,qvb,qvo,Jd,rfl,qvk,Za,Y9⟩:=hv;refine zE<|zD 12<|iE [1,0,1,0,0] [] (λ(zz:Nat)=>[(6,.slice VL ws.length Jd),(7,zI (ws.length:Int)),(8,zI (zz:Int))]) (λzz=>[]) (λzz=>zz<=ws.length) (λzz=>ws.length-zz) 0 (by omega) [] ?_;rintro k hI K1 cX rest;refine zD 5<|zJ 9 ((k:Int) <(ws.length:Int)) (λh1=>?_) λh1=>?_
 ·
  refine zD 6<|zxt ws k Jd 1 Za Y9 λx10 Kg=>zD 5<|zxp [.string x10] (λhs=>(adM (hW _ (zL Kg)).1 (hW _ (zL Kg)).2))<|zD 10<|zW ((k:Int)+1)<|zD 2<|zY cX (k+1) (by omega) []
 refine zD 7<|zX _ ⟨rfl,rfl⟩
def Ff(w:ByteArray):Prop:=∀b∈w.data.toList,b.toNat <128/\kindOf (b.toNat:Int)=1
def awN(w:ByteArray):Bool:=w.data.toList.all λb=>Nat.blt b.toNat 128&&decide (kindOf (b.toNat:Int)=1)
theorem adX{w:ByteArray}(h:awN w=true):Ff w:=λb hb=>by
 have:=c8.1 h b hb;simp only[au,af4,aA] at this;exact this
structure zg(r:gA):Prop where
 f1:1<=r.f.size/\r.f.size<=2
 t1:r.t.size<=2
 fl:Ff r.f
 tl:Ff r.t
 ne:jo r.f r.t=false
def aP0:iz zT 269 [.int .i32 r] ro (.bool (!decide (kindOf r=1))):=by
 refine zE<|zD 7<|zxp [.int .i32 r] (λhs=>aA7)<|zD 4<|zX _ ⟨rfl,rfl⟩
def bbp{w:ByteArray}(hK:Ff w):iz zT 328 [.string w,.func (.func 269) ⟨[]⟩ ⟨[]⟩,.bool true] ro (zI (-1)):=by
 refine zE<|zD 8<|jn λr10=>zD 2<|iE [1,0,1,0,0] [] (λ(zz:Nat)=>[(1,.func (.func 269) ⟨[]⟩ ⟨[]⟩),(2,.bool true),(10,zP r10)]) (λzz=>[.b r10 (.stringIter w zz)]) (λzz=>zz<=w.data.toList.length) (λzz=>w.data.toList.length-zz) 0 (by omega) [0] ?_;rintro p hI K1 cX rest;refine zD 2 ?_;cases akk:w.data.toList[p]? with
 |some x11=>
  refine jnA r10 0 akk (hK _ (zL akk)).1<|zD 14 ?_;have hkk:=(hK _ (zL akk)).2;refine zD 3<|zxp [.int .i32 (x11.toNat:Int)] (λhs=>aP0)<|zD 1<|je (.bool ((!decide (kindOf (x11.toNat:Int)=1))==true)) rfl<|zD 1<|js 19 ((!decide (kindOf (x11.toNat:Int)=1))==true) (λh1=>?_) (λh1=>?_)
  ·
   exfalso;rw[hkk] at h1;cases h1
  refine zD 2<|dY cX (p+1) (by have:=(aB.1 akk).1;omega) (by have:=(aB.1 akk).1;omega) [0] (Sub.refl _)
 |none=>
  refine jnZ r10 0 akk<|zD 10<|zX _ ⟨rfl,rfl⟩
def aOt{w:ByteArray}(hK:Ff w):iz zT 309 [.string w,.func (.func 269) ⟨[]⟩ ⟨[]⟩] ro (zI (-1)):=by
 refine zE<|zD 8<|zxp [.string w,.func (.func 269) ⟨[]⟩ ⟨[]⟩,.bool true] (λhs=>(bbp hK))<|zD 3<|zX _ ⟨rfl,rfl⟩
def aOu{w:ByteArray}(hK:Ff w):iz zT 268 [.string w,.func (.func 269) ⟨[]⟩ ⟨[]⟩] ro (.bool false):=by
 refine zE<|zD 8<|zxp [.string w,.func (.func 269) ⟨[]⟩ ⟨[]⟩] (λhs=>(aOt hK))<|zD 4<|zX _ ⟨rfl,rfl⟩
def ZY{w:ByteArray}{lo:Int}(hK:Ff w)(hn:w.size<=1000):iz zT 226 [.string w,zI lo,zI hi] ro (.bool (decide (lo<=w.size)&&decide ((w.size:Int)<=hi))):=by
 refine zE<|zD 11<|jj 5 [(0,.string w),(6,.bool false),(16,.bool ((decide (lo<=(w.size:Int)))&&(decide ((w.size:Int)<=hi))))] (λni=>?_) (λhj=>?_);rotate_left;refine js 11 (decide (lo<=(w.size:Int))) (λh1=>?_) (λh1=>?_)
 ·
  have mA:=h1;replace mA:=ai mA;refine zD 5<|zxw 16 hj (zya h1)
 ·
  have mA:=h1;replace mA:=ah mA;refine zD 5<|zxw 16 hj (zyb h1)
 refine zD 1<|jj 4 [(6,.bool false),(21,.bool (((decide (lo<=(w.size:Int)))&&(decide ((w.size:Int)<=hi)))&&true))] (λni=>?_) (λhj=>?_);rotate_left;refine js 17 ((decide (lo<=(w.size:Int)))&&(decide ((w.size:Int)<=hi))) (λh2=>?_) (λh2=>?_)
 ·
  have n6:=h2
  try simp only[zB] at n6
  refine zD 1<|zxp [.string w,.func (.func 269) ⟨[]⟩ ⟨[]⟩] (λhs=>(aOu hK))<|zD 2<|zxw 21 hj (zya h2)
 ·
  have n6:=h2
  try simp only[zB] at n6
  refine zD 4<|zxw 21 hj (zyb h2)
 refine zD 3<|zX (.bool (((decide (lo<=(w.size:Int)))&&(decide ((w.size:Int)<=hi)))&&true)) ⟨by simp_all,rfl⟩
def TU{w:ByteArray}{lo:Int}(hK:Ff w)(h1:lo<=w.size)(h2:(w.size:Int)<=hi)(h3:w.size<=1000):iz zT 226 [.string w,zI lo,zI hi] ro (.bool true):=by
 have:=ZY (ro:=ro) hK h3 (lo:=lo) (hi:=hi);rw[cb h1,cb h2] at this;exact this
def ajI{v:Value}(hv:dq ro v 2 jT rs)(hn:rs.length<=4)(hR:∀r∈rs,zg r):iz zT 176 [v] ro (zI 0):=by
 obtain⟨VL,qvb,qvo,Jd,rfl,qvk,Za,Y9⟩:=hv;refine zE<|zD 11<|zJ 7 ((rs.length:Int)>4) (λh1=>?_) λh1=>?_
 ·
  exfalso;omega
 refine zD 10<|iE [1,1,0,1,0,0] [] (λ(zz:Nat)=>[(8,.slice VL rs.length Jd),(9,zI (rs.length:Int)),(10,zI (zz:Int))]) (λzz=>[]) (λzz=>zz<=rs.length) (λzz=>rs.length-zz) 0 (by omega) [] ?_;rintro k hI K1 cX rest;refine zD 5<|zJ 11 ((k:Int) <(rs.length:Int)) (λh2=>?_) λh2=>?_
 ·
  refine zD 6<|zxt rs k Jd 2 Za Y9 λAw uA=>jn λb4=>jd 3 [0] ?_;have hrp:=(hR _ (zL uA));have hrf:=hrp.f1;have hrt:=hrp.t1;refine jd 3 [0]<|zxp [.string Aw.f,zI 1,zI 2] (λhs=>(TU hrp.fl (by omega) (by omega) (by omega)))<|jd 4 [0]<|zxp [.string Aw.t,zI 0,zI 2] (λhs=>(TU hrp.tl (by omega) (by omega) (by omega)))<|jd 10 [0,0]<|js 30 (jo Aw.f Aw.t) (λh3=>?_) (λh3=>?_)
  ·
   exfalso;rw[hrp.ne] at h3;cases h3
  refine zD 3<|zW ((k:Int)+1)<|zD 2<|zY cX (k+1) (by omega) []
 refine zD 7<|zX _ ⟨rfl,rfl⟩
theorem yS{xs:List α}{a:Option Addr}{o:Nat}(h:∀k,k <xs.length->a=some ⟨b,o,none⟩)(hn:a.isNone=true):xs=[]:=by
 cases xs with
 |nil=>rfl
 |cons x l=>rw[h 0 (by simp)] at hn;cases hn
def aEO{v:Value}{xs:List ByteArray}(hl:dq ro v 1 nU xs)(hn:xs.length<=1000):eW zT 118 [v] ro [] (λr Y=>∃L,bJ r 1 9 nU xs L/\Y=L):=by
 obtain⟨fQ,rK,rJ,fg,rfl,tJ,nj,nY⟩:=hl;refine zE<|zD 8<|jsn 29 (a:=fQ) (l:=xs.length) (c:=fg)<|zD 1<|js 4 (fQ.isNone) (λh1=>?_) (λh1=>?_)
 ·
  refine zD 6<|zX _ ⟨[],by rw[yS nj (by assumption)];exact bJ.nil _ _ _,rfl⟩
 refine zD 4<|jn λb5=>zD 1<|zxq nU b5 9 0 fg nj nY λva7 vc7 L7 xX=>zD 3<|zR _ [] [0] L7 ⟨_,xX,rfl⟩
theorem yb{r:Value}{A B:Prop}(h:(r= .bool true/\A)\/(r= .bool false/\B)):∃c,r= .bool c/\(c=true->A)/\(c=false->B):=by grind
def Cj(w f t:ByteArray)(i:Nat):ByteArray:=w.extract 0 (i:Int).toNat++t++w.extract ((i:Int)+(f.size:Int)).toNat w.size
def xM(w f t:ByteArray)(i:Nat):Option ByteArray:=if AS (w.extract i w.size) f=true/\1<=(Cj w f t i).size/\(Cj w f t i).size<=12 then some (Cj w f t i) else none
def Cy(w f t:ByteArray)(k:Nat):List ByteArray:=(List.range k).filterMap (xM w f t)
def Mn(w f t:ByteArray):List ByteArray:=Cy w f t (w.size+1)
theorem JK(w f t:ByteArray)(k:Nat):Cy w f t (k+1)=Cy w f t k++(xM w f t k).toList:=by
 grind [Cy,Gi,xM]
def anC(w f t:ByteArray){k:Nat}(h:k<=n):∃l,Cy w f t n=Cy w f t k++l:=by
 induction n with
 |zero=>exact⟨[],by rw[show k=0 by omega];simp⟩
 |succ n ih=>
  by_cases hk:k=n+1
  .exact⟨[],by rw[hk];simp⟩
  obtain⟨l,hl⟩:=ih (by omega);exact⟨l++(xM w f t n).toList,by rw[JK,hl,bC]⟩
theorem Y0{w f:ByteArray}{k:Nat}(hk:k <n)(h:xM w f t k=some x):(Cy w f t n)[(Cy w f t k).length]?=some x/\(Cy w f t (k+1)).length=(Cy w f t k).length+1:=by
 obtain⟨l,hl⟩:=anC w f t (k:=k+1) (n:=n) hk;rw[hl,JK,h]
 grind
theorem agv{w f:ByteArray}{k:Nat}(h:xM w f t k=none):(Cy w f t (k+1)).length=(Cy w f t k).length:=by
 grind [JK]
abbrev aCs(l:List ByteArray):(Nat->Option Obj)->Nat->List Value->Cells->Prop:=λ_ k vs LL=>∃x,l[k]?=some x/\vs=[.string x]/\LL=[]
theorem Ff.ext{w:ByteArray}(h:Ff w)(i j:Nat):Ff (w.extract i j):=by
 intro b hb;refine h b ?_
 grind [ByteArray.data_extract,Array.toList_extract]
def Ff.app{v w:ByteArray}(h:Ff v)(k:Ff w):Ff (v++w):=by
 intro b hb;have:(v++w).data.toList=v.data.toList++w.data.toList:=by rfl
 exact(bI.1 hb).elim (h b) (k b)
theorem Tv{w f:ByteArray}(hw:Ff w)(ht:Ff t):Ff (Cj w f t i):=((hw.ext _ _).app ht).app (hw.ext _ _)
theorem an9{a b:ByteArray}(h:AS a b=true):b.size<=a.size:=by
 grind [AS]
def apn(w:ByteArray):Bool:=decide ((1:Int)<=w.size)&&decide ((w.size:Int)<=12)
theorem adn{w f:ByteArray}{k:Nat}(h:AS (w.extract (k:Int).toNat w.size) f=false):xM w f t k=none:=cJ λx=>(by grind)
theorem aje{w f:ByteArray}{k:Nat}(h:apn (Cj w f t k)=false):xM w f t k=none:=cJ λx=>by
 grind [apn,av,ak]
def adm{w f:ByteArray}{k:Nat}(h:AS (w.extract (k:Int).toNat w.size) f=true)(h2:apn (Cj w f t k)=true):xM w f t k=some (Cj w f t k):=dW ⟨h,by
 simp only[apn,au,aA] at h2;omega⟩
theorem adl{w f:ByteArray}{k:Nat}(h:w.size<=100/\f.size<=100/\t.size<=100):(Cj w f t k).size<=1000:=by
 grind [Cj,ByteArray.size_append,ByteArray.size_extract]
def avL{w f:ByteArray}{k:Nat}(hk:k<=w.size)(h:xM w f t k=some (Cj w f t k)):(Cy w f t k).length <(Mn w f t).length/\(Mn w f t)[(Cy w f t k).length]?=some (Cj w f t k):=by
 have:=(Y0 (n:=w.size+1) (by omega) h).1;exact⟨(aB.1 this).1,this⟩
def afk(w:ByteArray)(a b:Nat):(w.extract a b).size<=w.size:=by simp;omega
theorem asV(w:ByteArray)(i:Nat)(h:i<=w.size):(w.extract i w.size).size=w.size-i:=by simp
def awD{w f:ByteArray}(g1:ro b1=some (.cells ⟨[.string w]⟩ 263 (0,0)))(g2:ro b2=some (.cells ⟨[.string f]⟩ 9 (0,0)))(g3:ro b3=some (.cells ⟨[.string t]⟩ 9 (0,0)))(hw:Ff w)(ht:Ff t)(hn:w.size<=100/\f.size<=100/\t.size<=100):ItX zT 336 [] [zP b1,zP b2,zP b3] ro [] (Mn w f t).length (aCs (Mn w f t)) (λZ=>Z=[]):=by
 intro bl cK Inv Stop hs hy B hB;replace g1:=hs _ _ g1;replace g2:=hs _ _ g2;replace g3:=hs _ _ g3;refine zC [.l B]<|zD 2<|jl (b:=b1) (off:=0) (m:=1) (vs:=[.string w]) 0 ⟨_,_,_,.inl g1,rfl⟩<|zD 1<|zW ((w.size:Int)+1)<|zD 3<|iE [1,0,0] [] (λ(zz:Nat×Cells)=>[(0,(.func (.yield bl) #[] #[])),(1,zP b1),(2,zP b2),(3,zP b3),(9,zI ((w.size:Int)+1)),(10,zI (zz.1:Int))]) (λzz=>[.l zz.2]) (λzz=>zz.1<=w.size+1/\Inv (Cy w f t zz.1).length zz.2) (λzz=>w.size+1-zz.1) (⟨0,B⟩) ⟨by dsimp only;omega,hB⟩ [0] ?_;rintro⟨k,B⟩ hI K1 cX rest;dsimp only at hI;refine zD 5<|zJ 11 ((k:Int) <((w.size:Int)+1)) (λh1=>?_) λh1=>?_
 ·
  refine zD 11 ?_;have he1:=afk w (k:Int).toNat w.size;refine zD 1<|jl (b:=b1) (off:=0) (m:=1) (vs:=[.string w]) 0 ⟨_,_,_,.inl g1,rfl⟩<|zD 1<|jtL (b:=w) (lo:=(k:Int)) (by omega)<|jl (b:=b2) (off:=0) (m:=1) (vs:=[.string f]) 0 ⟨_,_,_,.inl g2,rfl⟩<|zxp [.string (w.extract (k:Int).toNat w.size),.string f] (λhs=>(akC (by omega)))<|zD 2<|js 18 (!(AS (w.extract (k:Int).toNat w.size) f)) (λh2=>?_) (λh2=>?_)
  ·
   try simp only[zB] at h2
   refine zD 3<|zW ((k:Int)+1)<|zD 2<|zF cX (⟨k+1,B⟩) (by dsimp only;rw[agv (adn (by assumption))];exact hI.2) [0]
  try simp only[zB] at h2
  refine zD 3 ?_;have he2:=afk w 0 (k:Int).toNat;have he3:=afk w ((k:Int)+(f.size:Int)).toNat w.size;have he4:(w.extract 0 (k:Int).toNat++t).size=_:=ByteArray.size_append;have hpr:AS (w.extract (k:Int).toNat w.size) f=true:=by assumption
  have xE:=an9 hpr;rw[asV _ _ (by omega)] at xE;refine zD 1<|jl (b:=b1) (off:=0) (m:=1) (vs:=[.string w]) 0 ⟨_,_,_,.inl g1,rfl⟩<|zD 1<|jtH (b:=w) (hi:=(k:Int)) (by omega)<|jl (b:=b3) (off:=0) (m:=1) (vs:=[.string t]) 0 ⟨_,_,_,.inl g3,rfl⟩<|jsa (a:=(w.extract 0 (k:Int).toNat)) (b:=t) 263 (by omega)<|jl (b:=b1) (off:=0) (m:=1) (vs:=[.string w]) 0 ⟨_,_,_,.inl g1,rfl⟩<|zD 1<|jl (b:=b2) (off:=0) (m:=1) (vs:=[.string f]) 0 ⟨_,_,_,.inl g2,rfl⟩<|zD 1<|zW ((k:Int)+(f.size:Int))<|jtL (b:=w) (lo:=((k:Int)+(f.size:Int))) (by omega)<|jsa (a:=((w.extract 0 (k:Int).toNat)++t)) (b:=(w.extract ((k:Int)+(f.size:Int)).toNat w.size)) 263 (by omega)<|zD 5<|zxp [.string (((w.extract 0 (k:Int).toNat)++t)++(w.extract ((k:Int)+(f.size:Int)).toNat w.size)),zI 1,zI 12] (λhs=>(ZY (Tv (i:=k) hw ht) (adl hn)))<|zD 1<|js 33 (apn (Cj w f t k)) (λh3=>?_) (λh3=>?_)
  ·
   have hry:=adm (t:=t) hpr (by assumption);have NB:=avL (by omega) hry;refine zD 2<|jyc [0] (hy (Cy w f t k).length _ [] B cK NB.1 ⟨_,NB.2,rfl,rfl⟩ hI.2 (Sub.refl _)) (Sub.refl _) ?_;intro v4 Y4 hy4;obtain⟨c4,rfl,hc4,hd4⟩:=yb hy4;refine zD 3<|js 38 (!c4) (λh5=>?_) (λh5=>?_)
   ·
    try simp only[zB] at h5
    refine zD 2<|zR (.tuple ⟨[]⟩) [] [0] Y4 ⟨[],Y4,rfl,rfl,.inr (hd4 (by simp_all))⟩
   try simp only[zB] at h5
   refine zD 3<|zW ((k:Int)+1)<|zD 2<|zF cX (⟨k+1,Y4⟩) (by dsimp only;rw[(Y0 (n:=k+1) (by omega) hry).2];exact hc4 (by assumption)) [0]
  refine zD 9<|zW ((k:Int)+1)<|zD 2<|zF cX (⟨k+1,B⟩) (by dsimp only;rw[agv (aje (by assumption))];exact hI.2) [0]
 refine zD 2<|zR (.tuple ⟨[]⟩) [] [0] B ⟨[],B,rfl,rfl,.inl (by have:=hI.2;rwa[show k=w.size+1 by omega] at this)⟩
def xQ(rs:List gA):List (ByteArray×ByteArray):=rs.flatMap λr=>[(r.f,r.t),(r.t,r.f)]
abbrev eP2(x:ByteArray×ByteArray):List Value:=[.string x.1,.string x.2]
def pR(w:ByteArray)(ps:List (ByteArray×ByteArray)):List ByteArray:=ps.flatMap λp=>Mn w p.1 p.2
def Az(w:ByteArray)(rs:List gA):List ByteArray:=pR w (xQ rs)
theorem TO:∀(rs:List gA),(xQ rs).length=2*rs.length
 | []=>rfl
 |r::rs=>by have:=TO rs;grind [xQ,zM]
def Zz:∀ {rs:List gA} {k q:Nat} {r:gA} {p:ByteArray×ByteArray},rs[k]?=some r->[(r.f,r.t),(r.t,r.f)][q]?=some p->(xQ rs)[2*k+q]?=some p
 | [],_,_,_,_,h,_=>by simp at h
 |r::rs,0,q,_,p,h,h2=>by
  simp only[jN,aD] at h;subst h;simp only[xQ,iH,Nat.mul_zero,iV];rw[iP (by have:=(aB.1 h2).1;exact this)];exact h2
 |r::rs,k+1,q,_,p,h,h2=>by
  have:=Zz (rs:=rs) (k:=k) (by simpa using h) h2;simp only[xQ,iH];rw[rX (by simp;omega)];rw[show 2*(k+1)+q- [(r.f,r.t),(r.t,r.f)].length=2*k+q by simp;omega];exact this
theorem ON{w:ByteArray}{ps:List (ByteArray×ByteArray)}{k:Nat}(h:ps[k]?=some p):pR w (ps.take (k+1))=pR w (ps.take k)++Mn w p.1 p.2:=by
 simp_all[pR,cU]
theorem avc{w:ByteArray}{ps:List (ByteArray×ByteArray)}{k j:Nat}(h:ps[k]?=some p) (hx:(Mn w p.1 p.2)[j]?=some x):(pR w (ps.take k)).length+j <(pR w ps).length/\(pR w ps)[(pR w (ps.take k)).length+j]?=some x:=by
 have e:pR w ps=pR w (ps.take (k+1))++pR w (ps.drop (k+1)):=by rw[pR,pR,pR,<-jC,fF]
 grind [aB,pR,ON,bC,rX,iP]
theorem awe{r:gA}{q:Nat}(h:zg r)(hp: [(r.f,r.t),(r.t,r.f)][q]?=some p):Ff p.2/\(p.1.size<=100/\p.2.size<=100):=by
 have:=zL hp;have h1:=h.f1;have h2:=h.t1;simp_all;rcases this with rfl|rfl
 .exact⟨h.tl,by dsimp only;omega,by dsimp only;omega⟩
 exact⟨h.fl,by grind,by dsimp only;omega⟩
def ajJ{w f:ByteArray}:eW zT 317 [.string w,.string f,.string t] ro [] (λr Y=>∃b3 b4 b5,r= .func (.func 336) ⟨[]⟩ ⟨[zP b3,zP b4,zP b5]⟩/\Y=[(b3,.cells ⟨[.string w]⟩ 263 (0,0)),(b4,.cells ⟨[.string f]⟩ 9 (0,0)),(b5,.cells ⟨[.string t]⟩ 9 (0,0))]):=by
 refine zE<|zD 2<|jn λb3=>jn λb4=>jn λb5=>zD 8<|zR (.func (.func 336) ⟨[]⟩ ⟨[zP b3,zP b4,zP b5]⟩) [] [2,1,0] _ ⟨_,_,_,rfl,rfl⟩
def aFI{w:ByteArray}(hl:dq ro vl 2 jT rs):eW zT 273 [.string w,vl] ro [] (λr Y=>∃b2 b3,r= .func (.func 316) ⟨[]⟩ ⟨[zP b3,zP b2]⟩/\Y=[(b2,.cells ⟨[.string w]⟩ 263 (0,0)),(b3,.cells ⟨[vl]⟩ 30 (0,0))]):=by
 obtain⟨fQ,rK,rJ,fg,rfl,tJ,nj,nY⟩:=hl;refine zE<|zD 2<|jn λb2=>jn λb3=>zD 8<|zR (.func (.func 316) ⟨[]⟩ ⟨[zP b3,zP b2]⟩) [] [1,0] _ ⟨_,_,rfl,rfl⟩
def awC{w:ByteArray}(g1:ro b1=some (.cells ⟨[vl]⟩ 30 (0,0)))(hl:dq ro vl 2 jT rs)(hR:∀r∈rs,zg r)(g2:ro b2=some (.cells ⟨[.string w]⟩ 263 (0,0)))(hw:Ff w)(hn:w.size<=100)(hq:rs.length<=100):ItX zT 316 [] [zP b1,zP b2] ro [] (Az w rs).length (aCs (Az w rs)) (λZ=>Z=[]):=by
 intro bl cK Inv Stop hs hy B hB;replace g1:=hs _ _ g1;replace g2:=hs _ _ g2;replace hl:=hl.up hs;obtain⟨fQ,rK,rJ,fg,rfl,tJ,nj,nY⟩:=hl;refine aed bE [.l B] [] c9<|zD 2<|jn λb3=>jf [0] [(b3,.cells ⟨[(.func (.yield bl) #[] #[])]⟩ 388 (0,0))] λAH fq gV=>zD 3<|jl (b:=b1) (off:=0) (m:=1) (vs:=[.slice fQ rs.length fg]) 0 ⟨_,_,_,.inl (fq _ _ g1),rfl⟩<|zD 4<|wN<|aRs [1,1,0,0] [] (λ(zz:Nat×(List Nat)×Cells)=>[(2,zP b2),(3,zP b3),(9,.slice fQ rs.length fg),(10,zI (rs.length:Int)),(11,zI (zz.1:Int))]) (λzz=>[.l (mk zz.2.1),.l zz.2.2]) (λzz=>(zz.2.1.map jM)) (λzz=>zz.1<=rs.length/\Inv (pR w ((xQ rs).take (2*zz.1))).length zz.2.2) (λzz=>rs.length-zz.1) (⟨0,[],B⟩) ⟨by dsimp only;omega,hB⟩ [0,1] ?_;rintro⟨k,B7,B⟩ hI K1 cX rest;dsimp only at hI;refine zD 5<|zJ 12 ((k:Int) <(rs.length:Int)) (λh4=>?_) λh4=>?_
 ·
  refine zD 6<|zxs rs k fg 2 nj λx13 aep=>jl 0 ((nY _ _ aep).ext (nG fq))<|jn λb5=>jd 14 [0,0,0,0,0]<|jn λb25=>zD 4<|aRs [1,1,0,0,1,1,0,0,1,1,0,0] [K1] (λ(zz:Nat×(List Nat)×Cells)=>[(2,zP b2),(3,zP b3),(9,.slice fQ rs.length fg),(10,zI (rs.length:Int)),(11,zI (k:Int)),(25,.slice (some ⟨b25,0,none⟩) 2 2),(26,zI 2),(27,zI (zz.1:Int))]) (λzz=>[.l (mk zz.2.1),.l zz.2.2,zxc b25 389 [.string x13.f,.string x13.t,.string x13.t,.string x13.f]]) (λzz=>(zz.2.1.map jM)) (λzz=>zz.1<=2/\Inv (pR w ((xQ rs).take (2*k+zz.1))).length zz.2.2) (λzz=>2-zz.1) (⟨0,B7,B⟩) ⟨by dsimp only;omega,hI.2⟩ [2,3,0] ?_;rintro⟨q,B7,B⟩ hJ K2 mb rest;dsimp only at hJ;refine zD 5<|zJ 28 ((q:Int) <2) (λh5=>?_) λh5=>?_
  ·
   refine zD 6 ?_;obtain⟨LV,w7⟩:=zG ([(x13.f,x13.t),(x13.t,x13.f)]:List _) q (show q <2 from by omega);refine iF (a:=(some ⟨b25,0,none⟩)) (b:=b25) (off:=0) 2 2 (λ_ _=>rfl) w7<|zx (m:=2) 0 [2] [(b25,.cells ⟨([(x13.f,x13.t),(x13.t,x13.f)].map eP2).flatten⟩ 389 (0,0))] (λs _ hZ=>JN (hZ _ (.head _)) (by intro p hp;rfl) w7) ?_;refine jn λb7=>jd 3 [0] ?_;have hpx:=Zz aep w7;have hpk:=awe (hR _ (zL aep)) w7;refine zD 1<|jl (b:=b2) (off:=0) (m:=1) (vs:=[.string w]) 0 ⟨_,_,_,.inl (fq _ _ g2),rfl⟩<|jd 4 [0,0]<|jc (vs:=[.string w,.string LV.1,.string LV.2]) [] (ajJ) ?_;rintro _ _ ⟨aBb,aBa,aA9,rfl,rfl⟩;refine jg 0 [zxc aBb 263 [.string w],zxc aBa 9 [.string LV.1],zxc aA9 9 [.string LV.2]]<|jf [0,1,2] ((aBb,.cells ⟨[.string w]⟩ 263 (0,0))::((aBa,.cells ⟨[.string LV.1]⟩ 9 (0,0))::[(aA9,.cells ⟨[.string LV.2]⟩ 9 (0,0))])) λro8 SL hk7=>zD 2<|jrf [] (awD (hk7 _ (.head _)) (hk7 _ (.tail _ (.head _))) (hk7 _ (.tail _ (.tail _ (.head _)))) hw hpk.1 ⟨hn,hpk.2⟩) (by rintro _ _ _ _ ⟨_,_,rfl,_⟩;rfl) (λ(zz:Cells)=>[.l zz]) (λkk=>(λ(zz:Cells)=>Inv ((pR w ((xQ rs).take (2*k+q))).length+kk) zz)) (λjump=>(λ(zz:Cells)=>jump= .ret/\Stop zz)) B (show Inv (_+0) _ from hJ.2) [2] ?_ ?_ ?_
   ·
    rintro bl9 bd9 kk9 vs9 LL9 B ro9 Qs aH0 hL hs9;obtain⟨x9,hx9,rfl,rfl⟩:=aH0;have hu:=avc hpx hx9;refine zD 3<|jbg<|zD 3<|jl (b:=b3) (off:=0) (m:=1) (vs:=[(.func (.yield bl) #[] #[])]) 0 ⟨_,_,_,.inl (hs9 _ _ (SL _ _ (gV _ (.head _)))),rfl⟩<|zD 1<|jyc [1] (hy ((pR w ((xQ rs).take (2*k+q))).length+kk9) _ [] B ro9 hu.1 ⟨_,hu.2,rfl,rfl⟩ hL ((fq.trans SL).trans hs9)) (Sub.refl _) ?_;intro v10 Y10 bes;obtain⟨c10,rfl,aIn,aIg⟩:=yb bes;refine zD 2<|js 41 (!c10) (λwD=>?_) (λwD=>?_)
    ·
     try simp only[zB] at wD
     refine zD 2<|jys qy0 (Sub.refl _) .ret Y10 ⟨rfl,aIg (by simp_all)⟩ [1,0]
    try simp only[zB] at wD
    refine zD 2<|jyn qy0 (Sub.refl _) Y10 (aIn (by simp_all)) [1,0]
   ·
    rintro bd9 B Z9 hL hZ9;subst hZ9;refine zD 1<|zW ((q:Int)+1)<|zD 2<|jnD mb (⟨q+1,(bd9::B7),B⟩) ⟨by dsimp only;omega,by dsimp only;rw[<-Nat.add_assoc,ON hpx,List.length_append];exact hL⟩ (by dsimp only;omega) [[0,4],[2],[5]] SL
   rintro bd9 B Z9 jump hS hZ9;obtain⟨rfl,hS⟩:=hS;subst hZ9;exact jrM qm0.a.w.w.a.m (.tuple ⟨[]⟩) [0,4] [] [1] B (fq.trans SL) ⟨[],B,rfl,rfl,.inr hS⟩
  refine zD 3<|zW ((k:Int)+1)<|zD 2<|jnD cX (⟨k+1,B7,B⟩) ⟨by dsimp only;omega,by have:=hJ.2;dsimp only;rwa[show 2*(k+1)=2*k+q by omega]⟩ (by dsimp only;omega) [[0],[1]] (Sub.refl _)
 refine zD 2<|jrM qm0.a.w (.tuple ⟨[]⟩) [0] [] [0] B fq ⟨[],B,rfl,rfl,.inl (by have:=hI.2;rwa[show k=rs.length by omega,bF (by rw[TO];exact bu _)] at this)⟩
instance:LawfulBEq ByteArray where
 eq_of_beq:=λh=>by rw[Xw] at h;exact ai h
 rfl:=λ{a}=>by rw[Xw];exact cb rfl
def dd(l:List ByteArray):List ByteArray:=l.foldl (λa x=>if x∈a then a else a++[x]) []
theorem Xj(l:List ByteArray)(x:ByteArray):dd (l++[x])=if x∈dd l then dd l else dd l++[x]:=by grind [dd]
theorem aJ2(a:List ByteArray):∀b:List ByteArray,∃r,dd (a++b)=dd a++r:=by
 intro b
 induction b generalizing a with
 |nil=>simp
 |cons x b ih=>
  obtain⟨r,hr⟩:=ih (a++[x])
  grind [Xj]
abbrev kvS:ByteArray->Value:=λa=> .string a
def mF(m:List ByteArray):List (ByteArray×Value):=m.map λx=>(x,.bool true)
theorem afc(k:ByteArray):∀(m:List ByteArray) (i:Nat),(tV k (mF m) i).map (·.2)=if k∈m then some (.bool true) else none
 | [],_=>rfl
 |x::m,i=>by
  simp only[mF,bV,tV];by_cases h:k=x
  .grind
  have:=afc k m (i+1)
  grind [mF]
theorem aQA{k:ByteArray}{m:List ByteArray}:RV (.bool false) false k (mF m)= .bool (decide (k∈m)):=by
 grind [RV,lkM,afc]
theorem aD2{k:ByteArray}{m:List ByteArray}(h:decide (k∈m)=false):jL k (.bool true) (mF m)=mF (m++[k]):=by
 grind [afc,jL,tV,mF]
theorem atm{l:List ByteArray}{k:Nat}(hx:l[k]?=some x) (h:decide (x∈dd (l.take k))=true):dd (l.take (k+1))=dd (l.take k):=by
 rw[cU hx,Xj,dW (ai h)]
theorem afu{l:List ByteArray}{k:Nat}(hx:l[k]?=some x) (h:decide (x∈dd (l.take k))=false):dd (l.take (k+1))=dd (l.take k)++[x]:=by
 rw[cU hx,Xj,cJ (ah h)]
theorem aJ3{l:List ByteArray}{k:Nat}(hx:l[k]?=some x) (h:decide (x∈dd (l.take k))=false):∃r,dd l=dd (l.take k)++[x]++r:=by
 obtain⟨r,hr⟩:=aJ2 (l.take (k+1)) (l.drop (k+1))
 grind [fF,afu]
def Yg(rs:List gA)(to:ByteArray):Nat->ByteArray->List ByteArray->List (List ByteArray)
 |0,w,b=>if jo w to=true then [b++[w]] else []
 |n+1,w,b=>(dd (Az w rs)).flatMap λs=>Yg rs to n s (b++[w])
theorem Xp{to:ByteArray}:∀ {n:Nat} {w:ByteArray} {b x:List ByteArray},x∈Yg rs to n w b->x.length=b.length+n+1
 |0,w,b,x,h=>by
  grind [Yg]
 |n+1,w,b,x,h=>by
  simp only[Yg,eZ] at h;obtain⟨s,_,h2⟩:=h;have:=Xp h2
  grind
theorem avb{w:ByteArray}(hR:∀r∈rs,zg r)(hw:Ff w)(h:x∈Az w rs):Ff x/\x.size<=12:=by
 simp only[Az,pR,xQ,eZ,Mn,Cy,List.mem_filterMap] at h;obtain⟨p,⟨r,hr,hp⟩,i,_,hi⟩:=h;have ht:Ff p.2:=by
  simp_all;rcases hp with rfl|rfl
  .exact(hR r hr).tl
  exact(hR r hr).fl
 grind [xM,Tv]
abbrev ay4(L:List (List ByteArray)):(Nat->Option Obj)->Nat->List Value->Cells->Prop:=λ_ k vs LL=>∃x v,L[k]?=some x/\vs=[v]/\bJ v 1 9 nU x LL
structure aui(ro:Nat->Option Obj)(bl:Nat)(rs:List gA)(to:ByteArray)(many bm bt dL br bg:Nat)(vl:Value):Prop where
 m:ro bm=some (.cells ⟨[zI (many:Int)]⟩ 3 (0,0))
 t:ro bt=some (.cells ⟨[.string to]⟩ 263 (0,0))
 y:ro dL=some (.cells ⟨[.func (.yield bl) #[] #[]]⟩ 346 (0,0))
 r:ro br=some (.cells ⟨[vl]⟩ 30 (0,0))
 g:ro bg=some (.cells ⟨[.func (.func 272) ⟨[]⟩ ⟨[zP bm,zP bt,zP dL,zP br,zP bg]⟩]⟩ 347 (0,0))
 l:dq ro vl 2 jT rs
def aui.up{bU:Nat->Option Obj}{to:ByteArray}(h:aui ro bl rs to many bm bt dL br bg vl)(hs:Sub ro bU):aui bU bl rs to many bm bt dL br bg vl:=
 ⟨hs _ _ h.m,hs _ _ h.t,hs _ _ h.y,hs _ _ h.r,hs _ _ h.g,h.l.up hs⟩
def aCY(bl:Nat)(rs:List gA)(to:ByteArray)(many bm bt dL br bg:Nat)(vl:Value)(L:List (List ByteArray))(Inv:Nat->Cells->Prop)(Stop:Cells->Prop)(n:Nat):Prop:=
 ∀(ro:Nat->Option Obj) (w:ByteArray) (b:List ByteArray) (v:Value) (p:Nat) (B:Cells),aui ro bl rs to many bm bt dL br bg vl->dq ro v 1 nU b->b.length+n=many->Ff w->w.size<=100->Part L p (Yg rs to n w b)->Inv p B->YOK zT bl ro L.length (ay4 L) Inv Stop->
  eW zT 272 [.string w,v,zP bm,zP bt,zP dL,zP br,zP bg] ro B (λr Y=>∃c,r= .bool c/\(c=true->Inv (p+(Yg rs to n w b).length) Y)/\(c=false->Stop Y))
def aFK{w:ByteArray}{b:List ByteArray}{v:Value}{p:Nat}{B:Cells}{to:ByteArray}{L:List (List ByteArray)}{Inv:Nat->Cells->Prop}(ih:∀m,m <n->aCY bl rs to many bm bt dL br bg vl L Inv Stop m)(hR:∀r∈rs,zg r)(hq:rs.length<=100)(ahK:many<=100)(aa0:aui ro bl rs to many bm bt dL br bg vl)(hb:dq ro v 1 nU b)(hbn:b.length+n=many)(hw:Ff w)(xD:w.size<=100)(hP:Part L p (Yg rs to n w b))(hB:Inv p B)(hy:YOK zT bl ro L.length (ay4 L) Inv Stop):eW zT 272 [.string w,v,zP bm,zP bt,zP dL,zP br,zP bg] ro B (λr Y=>∃c,r= .bool c/\(c=true->Inv (p+(Yg rs to n w b).length) Y)/\(c=false->Stop Y)):=by
 obtain⟨gm,gt,gy,gl,gg,hl⟩:=id aa0;obtain⟨fQ,rK,rJ,fg,rfl,tJ,nj,nY⟩:=hl;obtain⟨aO2,bbZ,bbV,aO1,rfl,bbX,bbY,bbW⟩:=hb;refine aed bE [.l B] [] c9<|zD 2<|jn λb9=>zD 4<|jc (vs:=[.slice aO2 b.length aO1]) [] (aEO (show dq _ _ _ _ _ from ⟨aO2,bbZ,bbV,aO1,rfl,bbX,bbY,bbW⟩) (by first|omega| (simp only[aO,zM];omega))) ?_;rintro RS Ao ⟨_,Kj,rfl⟩;refine zD 1<|jn λb16=>zxl nU b16 w 1 0 (Kj) (λNg Nf L17 aeu=>?_) (hb:=by simp only[aK,aT];omega);refine jn λFL=>jd 7 [0,0]<|jl (b:=bm) (off:=0) (m:=1) (vs:=[zI (many:Int)]) 0 ⟨_,_,_,.inl gm,rfl⟩<|zD 2<|zJ 21 (((b++[w]).length:Int)>(many:Int)) (λh1=>?_) λh1=>?_
 ·
  refine zD 2 ?_;obtain rfl:n=0:=by simp only[zM] at*;omega
  refine zD 2<|jl (b:=bt) (off:=0) (m:=1) (vs:=[.string to]) 0 ⟨_,_,_,.inl gt,rfl⟩<|zD 2<|js 25 (!(jo w to)) (λh2=>?_) (λh2=>?_)
  ·
   have n6:=h2
   try simp only[zB] at n6
   refine jd 7 [3]<|jrM qm0 (.bool true) [] [3] [4] B (Sub.refl _) ⟨_,rfl,(λ_=>by rw[show Yg rs to 0 w b=[] from cJ (by simp_all)];exact hB),nofun⟩
  have n6:=h2
  try simp only[zB] at n6
  have aq1:Yg rs to 0 w b=[b++[w]]:=dW (by simp_all);have hel:=Part.get (i:=0) (x:=b++[w]) hP (by rw[aq1];rfl);refine jl (b:=dL) (off:=0) (m:=1) (vs:=[(.func (.yield bl) #[] #[])]) 0 ⟨_,_,_,.inl gy,rfl⟩<|jd 1 [0]<|jyc [1,4] (hy p [(.slice Ng ((b++[w])).length Nf)] L17 B ro hel.1 ⟨_,_,hel.2,rfl,aeu⟩ hB (Sub.refl _)) (Sub.refl _) ?_;intro v28 Y28 ber;obtain⟨c28,rfl,bhf,bg1⟩:=yb ber;refine jd 4 [3]<|jrM qm0 (.bool c28) [] [3] [0] Y28 (Sub.refl _) ⟨_,rfl,(λh=>by rw[aq1];exact bhf h),bg1⟩
 refine zD 3 ?_;obtain⟨m,rfl⟩:∃m,n=m+1:=⟨n-1,by simp only[zM] at*;omega⟩;refine zD 1<|jmk kvS λAI L30 ako=>jn λwE=>jd 5 [0]<|jf [2,0,3] ((FL,.cells ⟨[(.slice Ng ((b++[w])).length Nf)]⟩ 29 (0,0))::((wE,.cells ⟨[(.map (some AI))]⟩ 348 (0,0))::L17)) (λro5 hs3 hk4=>?_);have Om:=aeu.jI hk4.tail.tail;replace aa0:=aa0.up hs3;replace hy:=hy.up hs3;refine zD 1<|jl (b:=br) (off:=0) (m:=1) (vs:=[.slice fQ rs.length fg]) 0 ⟨_,_,_,.inl (hs3 _ _ gl),rfl⟩<|jc (vs:=[.string w,.slice fQ rs.length fg]) [] (aFI ((show dq _ _ _ _ _ from ⟨fQ,rK,rJ,fg,rfl,tJ,nj,nY⟩).up hs3)) ?_;rintro _ _ ⟨aBd,aBc,rfl,rfl⟩;refine jg 0 [zxc aBd 263 [.string w],zxc aBc 30 [.slice fQ rs.length fg]]<|jf [0,1] ((aBd,.cells ⟨[.string w]⟩ 263 (0,0))::[(aBc,.cells ⟨[.slice fQ rs.length fg]⟩ 30 (0,0))]) λro8 SL hk7=>zD 2<|jrf [] (awC (hk7 _ (.tail _ (.head _))) (aa0.l.up SL) hR (hk7 _ (.head _)) hw xD hq) (by rintro _ _ _ _ ⟨_,_,rfl,_⟩;rfl) (λ(zz:Bool×Cells×Cells)=>[zxc b9 4 [.bool zz.1],.l zz.2.1,.l zz.2.2]) (λkk=>(λ(zz:Bool×Cells×Cells)=>Inv (p+((dd ((Az w rs).take kk)).flatMap λs=>Yg rs to m s (b++[w])).length) zz.2.2/\iq AI kvS (mF (dd ((Az w rs).take kk))) zz.2.1)) (λjump=>(λ(zz:Bool×Cells×Cells)=>jump= .ret/\(zz.1=false/\Stop zz.2.2))) (⟨false,L30,B⟩) ⟨hB,ako⟩ [2,0,3] ?_ ?_ ?_
 ·
  rintro bl9 bd9 kk9 vs9 LL9 ⟨rv,Lm,B⟩ ro9 Qs aH0 hL hs9;obtain⟨x9,hx9,rfl,rfl⟩:=aH0;have hue:=avb hR hw (zL hx9);refine zD 3<|jbg<|zD 4<|jl (b:=wE) (off:=0) (m:=1) (vs:=[(.map (some AI))]) 0 ⟨_,_,_,.inl (hs9 _ _ (SL _ _ (hk4 _ (.tail _ (.head _))))),rfl⟩<|zD 1<|jlu (kv:=kvS) (F:=(mF (dd ((Az w rs).take kk9)))) (r:=AI) (K:=263) x9 (.bool false) false [2] Lm (ahj (T:=263) (by kernel_rfl)) (λs _ hZ=>hL.2.has hZ)<|jw 37 (.bool (decide (x9∈(dd ((Az w rs).take kk9))))) aQA<|zD 1<|js 37 (decide (x9∈(dd ((Az w rs).take kk9)))) (λxF=>?_) (λxF=>?_)
  ·
   refine zD 2<|jyn qy0 (Sub.refl _) ⟨rv,Lm,B⟩ ⟨by rw[atm hx9 (by assumption)];exact hL.1,by rw[atm hx9 (by assumption)];exact hL.2⟩ (zN 0 4)
  have A4:decide (x9∈dd ((Az w rs).take kk9))=false:=by assumption
  obtain⟨rr,hrr⟩:=aJ3 hx9 A4;have aSi:=Part.flat (G:=λs=>Yg rs to m s (b++[w])) hP hrr;refine zD 4<|jl (b:=wE) (off:=0) (m:=1) (vs:=[(.map (some AI))]) 0 ⟨_,_,_,.inl (hs9 _ _ (SL _ _ (hk4 _ (.tail _ (.head _))))),rfl⟩<|zD 1<|XZ (kv:=kvS) (F:=(mF (dd ((Az w rs).take kk9)))) (r:=AI) (K:=263) 2 x9 (.bool true) (ahj (T:=263) (by kernel_rfl)) hL.2 λalx aeA=>zD 3<|jl (b:=bg) (off:=0) (m:=1) (vs:=[.func (.func 272) ⟨[]⟩ ⟨[zP bm,zP bt,zP dL,zP br,zP bg]⟩]) 0 ⟨_,_,_,.inl (hs9 _ _ (SL _ _ (hs3 _ _ gg))),rfl⟩<|zD 1<|jl (b:=FL) (off:=0) (m:=1) (vs:=[(.slice Ng ((b++[w])).length Nf)]) 0 ⟨_,_,_,.inl (hs9 _ _ (SL _ _ (hk4 _ (.head _)))),rfl⟩<|jc (vs:=[.string x9,(.slice Ng ((b++[w])).length Nf),zP bm,zP bt,zP dL,zP br,zP bg]) [3] (ih m (by omega) _ _ _ _ (p+((dd ((Az w rs).take kk9)).flatMap λs=>Yg rs to m s (b++[w])).length) _ (aa0.up (SL.trans hs9)) (Om.up (SL.trans hs9)) (by simp only[zM];omega) hue.1 (by omega) aSi hL.1 (hy.up (SL.trans hs9))) ?_;rintro _ Y43 ⟨c43,rfl,bhc,bgZ⟩;refine zD 2<|js 44 (!c43) (λYc=>?_) (λYc=>?_)
  ·
   try simp only[zB] at Yc
   refine jd 6 [3]<|jys qy0 (Sub.refl _) .ret ⟨false,alx,Y43⟩ ⟨rfl,rfl,bgZ (by simp_all)⟩ [2,3,1,0]
  try simp only[zB] at Yc
  refine zD 2<|jyn qy0 (Sub.refl _) ⟨rv,alx,Y43⟩ ⟨by rw[afu hx9 A4,jC,aM,<-Nat.add_assoc];have:=bhc (by simp_all);simpa using this,by rw[afu hx9 A4,<-aD2 A4];exact aeA⟩ [2,3,1,0]
 ·
  rintro bd9 ⟨rv,Lm,B⟩ Z9 hL hZ9;subst hZ9;refine jd 5 [2]<|jrM qm0.a.a.m (.bool true) [0] [1] [3] B (hs3.trans SL) ⟨_,rfl,(λ_=>by have:=hL.1;rwa[bF (bu _)] at this),nofun⟩
 rintro bd9 ⟨rv,Lm,B⟩ Z9 jump hS hZ9;obtain⟨rfl,hS⟩:=hS;obtain⟨rfl,hS⟩:=hS;subst hZ9;exact jrM qm0.a.a.m (.bool false) [0] [1] [3] B (hs3.trans SL) ⟨_,rfl,nofun,λ_=>hS⟩
def aP1{to:ByteArray}{L:List (List ByteArray)}{Inv:Nat->Cells->Prop}(hR:∀r∈rs,zg r)(hq:rs.length<=100)(ahK:many<=100):∀n,aCY bl rs to many bm bt dL br bg vl L Inv Stop n:=by
 intro n
 induction n using Nat.strongRecOn with
 |_ n ih=>exact λro w b v p B hc hb hbn hw xD hP hB hy=>aFK ih hR hq ahK hc hb hbn hw xD hP hB hy
def ajK{w to:ByteArray}(g1:ro b1=some (.cells ⟨[zI (many:Int)]⟩ 3 (0,0)))(g2:ro b2=some (.cells ⟨[.string to]⟩ 263 (0,0)))(g3:ro b3=some (.cells ⟨[vl]⟩ 30 (0,0)))(g4:ro b4=some (.cells ⟨[.string w]⟩ 263 (0,0)))(hl:dq ro vl 2 jT rs)(hR:∀r∈rs,zg r)(hw:Ff w)(xD:w.size<=100)(hq:rs.length<=100)(ahK:many<=100):ItX zT 271 [] [zP b1,zP b2,zP b3,zP b4] ro [] (Yg rs to many w []).length (ay4 (Yg rs to many w [])) (λZ=>Z=[]):=by
 intro bl cK Inv Stop hs hy B hB;replace g1:=hs _ _ g1;replace g2:=hs _ _ g2;replace g3:=hs _ _ g3;replace g4:=hs _ _ g4;replace hl:=hl.up hs;have hlr:=hl;obtain⟨fQ,rK,rJ,fg,rfl,tJ,nj,nY⟩:=hl;refine zC [.l B]<|zD 2<|jn λb5=>zD 3<|jn λb6=>jd 8 [0,0]<|jl (b:=b4) (off:=0) (m:=1) (vs:=[.string w]) 0 ⟨_,_,_,.inl g4,rfl⟩<|jf [1,0] ((b5,.cells ⟨[(.func (.yield bl) #[] #[])]⟩ 346 (0,0))::[(b6,.cells ⟨[.func (.func 272) ⟨[]⟩ ⟨[zP b1,zP b2,zP b5,zP b3,zP b6]⟩]⟩ 347 (0,0))]) λAH fq gV=>jc (vs:=[.string w,zS,zP b1,zP b2,zP b5,zP b3,zP b6]) [0] (aP1 hR hq ahK many _ _ _ _ 0 _ ⟨fq _ _ g1,fq _ _ g2,gV _ (.head _),fq _ _ g3,gV _ (.tail _ (.head _)),hlr.up fq⟩ (dq.nil _ _ _ _ _) (by simp) hw xD ⟨[],[],by simp,rfl⟩ hB (YOK.up hy fq)) ?_;rintro _ Y10 ⟨c10,rfl,aIn,aIg⟩;refine zD 1<|bY q0.a (.tuple ⟨[]⟩) [] [0] Y10 fq ⟨_,_,rfl,rfl,[],Y10,rfl,rfl,by cases c10 with|true=>exact .inl (by simpa using aIn rfl)|false=>exact .inr (aIg rfl)⟩
def aoY{w to:ByteArray}{many:Int}(hl:dq ro vl 2 jT rs):eW zT 229 [.string w,vl,.string to,zI many] ro [] (λr Y=>∃b4 b5 b6 b7,r= .func (.func 271) ⟨[]⟩ ⟨[zP b7,zP b6,zP b5,zP b4]⟩/\Y=[(b4,.cells ⟨[.string w]⟩ 263 (0,0)),(b5,.cells ⟨[vl]⟩ 30 (0,0)),(b6,.cells ⟨[.string to]⟩ 263 (0,0)),(b7,.cells ⟨[zI many]⟩ 3 (0,0))]):=by
 obtain⟨fQ,rK,rJ,fg,rfl,tJ,nj,nY⟩:=hl;refine zE<|zD 2<|jn λb4=>jn λb5=>jn λb6=>jn λb7=>zD 8<|zR (.func (.func 271) ⟨[]⟩ ⟨[zP b7,zP b6,zP b5,zP b4]⟩) [] [3,2,1,0] _ ⟨_,_,_,_,rfl,rfl⟩
def aFL{L:List (List ByteArray)}(hit:ItX zT 271 [] [zP b1,zP b2,zP b3,zP b4] ro [] L.length (ay4 L) (λZ=>Z=[]))(hL:∀x∈L,x.length<=1000):eW zT 228 [.func (.func 271) ⟨[]⟩ ⟨[zP b1,zP b2,zP b3,zP b4]⟩,.func (.func 230) ⟨[]⟩ ⟨[]⟩] ro [] (λr Y=>∃v,r= .tuple ⟨[v,.bool (decide (0 <L.length))]⟩/\∃ps,bJ v 1 9 nU ps Y/\(0 <L.length->ps∈L)):=by
 refine aed bE [] [] c9<|zD 2<|jn λb3=>zD 2<|jf [0] [(b3,.cells ⟨[.func (.func 230) ⟨[]⟩ ⟨[]⟩]⟩ 315 (0,0))] λAH fq gV=>zD 3<|jn λb6=>zD 3<|jn λb7=>jd 8 [0]<|wN<|jrf [] (hit.up fq) (by rintro _ _ _ _ ⟨_,_,_,rfl,_⟩;rfl) (λ(zz:Value×(List ByteArray)×Cells×Bool)=>[zxc b6 29 [zz.1],zxc b7 4 [.bool zz.2.2.2],.l zz.2.2.1]) (λkk=>(λ(zz:Value×(List ByteArray)×Cells×Bool)=>bJ zz.1 1 9 nU zz.2.1 zz.2.2.1/\zz.2.2.2=decide (0 <kk)/\(0 <kk->zz.2.1∈L)/\zz.2.1.length<=1000)) (λjump=>(λ(zz:Value×(List ByteArray)×Cells×Bool)=>False)) (⟨zS,[],[],false⟩) ⟨bJ.nil _ _ _,rfl,nofun,by simp⟩ [2,1,0] ?_ ?_ ?_
 ·
  rintro bl4 bd4 kk4 vs4 LL4 ⟨v,ps,Lb,sm⟩ ro4 hk4 aeI hI sE;obtain⟨x4,v4,hx4,rfl,ho4⟩:=aeI;have hxl:=hL _ (zL hx4);have xE:=hI.2.2.2;refine zD 3<|jbg<|jd 6 [2]<|js 13 (!sm) (λh5=>?_) (λh5=>?_)
  ·
   have QG:=h5
   try simp only[zB] at QG
   refine zD 10 ?_;obtain⟨va6,vc6,he6⟩:=ho4.form;subst he6;refine jd 3 [1,2]<|jyn qy0 (Sub.refl _) ⟨(.slice va6 (x4).length vc6),x4,LL4,true⟩ ⟨ho4,rfl,λ_=>zL hx4,hxl⟩ [0,1,2,4]
  have QG:=h5
  try simp only[zB] at QG
  refine jl (b:=b3) (off:=0) (m:=1) (vs:=[.func (.func 230) ⟨[]⟩ ⟨[]⟩]) 0 ⟨_,_,_,.inl (sE _ _ (gV _ (.head _))),rfl⟩<|jd 2 [1]<|jp (vs:=[v4,v]) [4,3] (LL4++Lb) (λcK hs hZ=>bbq (ho4.jI hZ.left) (hI.1.jI hZ.right) (by first|omega| (simp only[aO,zM];omega)) (by first|omega| (simp only[aO,zM];omega))) ?_;refine zD 3<|zJ 19 ((Xn x4 ps) <0) (λh7=>?_) λh7=>?_
  ·
   refine zD 3 ?_;obtain⟨va8,vc8,he8⟩:=ho4.form;subst he8;refine jd 3 [1,2]<|jyn qy0 (Sub.refl _) ⟨(.slice va8 (x4).length vc8),x4,LL4,true⟩ ⟨ho4,rfl,λ_=>zL hx4,hxl⟩ [0,1,2,4]
  refine zD 2<|jyn qy0 (Sub.refl _) ⟨v,ps,Lb,sm⟩ ⟨hI.1,by have:=hI.2.1;simp_all,λ_=>hI.2.2.1 (by have:=hI.2.1;simp_all),xE⟩ (zN 0 4)
 ·
  rintro bd4 ⟨v,ps,Lb,sm⟩ Z4 hI hZ4;subst hZ4;refine jd 8 [2,3]<|jrM qm0.a.m (.tuple ⟨[v,.bool sm]⟩) [0] [] [3] Lb fq ⟨v,by rw[<-hI.2.1],ps,hI.1,hI.2.2.1⟩
 rintro bd4 ⟨v,ps,Lb,sm⟩ Z4 jump hS hZ4;exact hS.elim
abbrev eBy(x:Int):List Value:=[.int .u8 x]
def aVb:EF zT 345 (Extern.BytealgMakeNoZero.makeNoZero #[3] #[377]):=⟨Tryz.f345,Tryz.func345,by kernel_rfl,by kernel_rfl,by kernel_rfl,by kernel_rfl⟩
def aEv:=(qV Tryz.typeInfo377 Tryz.underlying377 rfl rfl rfl rfl rfl rfl:TF zT 377 _ 1 24 _ false)
def aoq:bJ (.slice (some ⟨b,0,none⟩) 0 l.length) 1 T eBy ([]:List Int) [(b,.cells ⟨l⟩ T (0,0))]:= .inr ⟨b,l,_,rfl,rfl,by simp,by simp,by simp,by rfl⟩
theorem awg{v:Value}{c:Int}{L:Cells}(h:bJ v 1 T eBy [c] L):∃b l cap,cap≠0/\v= .slice (some ⟨b,0,none⟩) 1 cap/\L=[(b,.cells ⟨.int .u8 c::l⟩ T (0,0))]:=by
 rcases h with ⟨_,h,_⟩| ⟨b,l,cap,h1,h2,h3,h4,_,h6⟩
 .cases h
 simp only[aK,aT] at h1 h4 h6;cases l with
 |nil=>simp at h3;omega
 |cons x l=>
  grind
def akZ(n:Int):ByteArray:=⟨#[n.toNat.toUInt8]⟩
def aVc:EF zT 344 Extern.AbiNoEscape.same:=⟨Tryz.f344,Tryz.func344,by kernel_rfl,by kernel_rfl,by kernel_rfl,by kernel_rfl⟩
def aVG{v:Value}:eW zT 329 [zP b] ro [(b,.cells ⟨[.pointer none,v]⟩ 379 (0,0))] (λr Y=>Y=[(b,.cells ⟨[zP b,v]⟩ 379 (0,0))]):=by
 refine zC [zxc b 379 [.pointer none,v]]<|jd 12 [0]<|jmo [0] [0,0] [(b,.cells ⟨[.pointer none,v]⟩ 379 (0,0))] (zP b)<|jg 0 [zxc b 379 [.pointer none,v]]<|bdS (v:= zP b) aVc<|jmo [0] [0,0] [(b,.cells ⟨[.pointer none,v]⟩ 379 (0,0))] (zP b)<|jg 0 [zxc b 379 [.pointer none,v]]<|jd 4 [0]<|zR (.tuple ⟨[]⟩) [] [0] _ rfl
def aVF{v:Value}:eW zT 329 [zP b] ro [(b,.cells ⟨[zP b,v]⟩ 379 (0,0))] (λr Y=>Y=[(b,.cells ⟨[zP b,v]⟩ 379 (0,0))]):=by
 refine zC [zxc b 379 [zP b,v]]<|jd 16 [0,0]<|jpn (b:=b)<|jg 0 []<|zD 3<|zR (.tuple ⟨[]⟩) [] [0] _ rfl
def aVA:eW zT 330 [zP b,zI 1] ro [(b,.cells ⟨[zP b,zS]⟩ 379 (0,0))] (λr Y=>∃v L,bJ v 1 5 eBy ([]:List Int) L/\Y=(b,.cells ⟨[zP b,v]⟩ 379 (0,0))::L):=by
 refine zC [zxc b 379 [zP b,zS]]<|jd 6 [0]<|jcp (c:=0)<|jd 8 [0]<|zxo 8 λtT=>jnz (n:=1) aVb rfl aEv (by omega) λbb lz hlz=>jg 0 [.b bb (.cells ⟨lz⟩ 5 (0,0))]<|eP tT [1]<|js0 (a:=⟨bb,0,none⟩) (l:=1) (c:=lz.length)<|jd 9 [1]<|jmo [] [] [] (zI 0)<|jg 0 []<|jd 8 [1]<|zR (.tuple ⟨[]⟩) [] [1,0] ((b,.cells ⟨[zP b,(.slice (some ⟨bb,0,none⟩) 0 lz.length)]⟩ 379 (0,0))::[(bb,.cells ⟨lz⟩ 5 (0,0))]) ⟨_,_,aoq,rfl⟩
def aVE:eW zT 310 [zP b,zI 1] ro [(b,.cells ⟨[.pointer none,zS]⟩ 379 (0,0))] (λr Y=>∃v L,bJ v 1 5 eBy ([]:List Int) L/\Y=(b,.cells ⟨[zP b,v]⟩ 379 (0,0))::L):=by
 refine zC [zxc b 379 [.pointer none,zS]]<|zD 3<|jc (vs:=[zP b]) [0] (aVG (v:= zS)) ?_;rintro _ _ rfl;refine jg 0 [zxc b 379 [zP b,zS]]<|jd 15 [0]<|jcp (c:=0)<|jd 13 [0]<|jc (vs:=[zP b,zI 1]) [0] (aVA) ?_;rintro _ _ ⟨v,L,hv,rfl⟩;refine jg 0 [zxc b 379 [zP b,v],.l L]<|zD 1<|zR (.tuple ⟨[]⟩) [] [0,1] _ ⟨v,L,hv,rfl⟩
def aVH{v:Value}{L:Cells}{c:Int}(ho:bJ v 1 5 eBy ([]:List Int) L):eW zT 312 [zP b,.int .u8 c] ro ((b,.cells ⟨[zP b,v]⟩ 379 (0,0))::L) (λr Y=>∃v' L',bJ v' 1 5 eBy [c] L'/\Y=(b,.cells ⟨[zP b,v']⟩ 379 (0,0))::L'):=by
 refine zC [zxc b 379 [zP b,v],.l L]<|zD 7<|jc (vs:=[zP b]) [0] (aVF (v:=v)) ?_;rintro _ _ rfl;refine jg 0 [zxc b 379 [zP b,v]]<|jd 9 [0]<|jn λBe=>gC (sz:=1) (ps:=[]) (qs:=[c]) (enc:=eBy) (w:= .slice (some ⟨Be,0,none⟩) 1 1) [2] [0] [(Be,.cells ⟨([c].map eBy).flatten⟩ 5 (0,0))] (ho) (λs _ hZ=>de [c] (hZ _ (.head _)) (by intro p hp;rfl)) (λp _=>aG rfl) (by simp) (λRS Ao dg=>?_);rw[aL] at dg;obtain⟨nu,nq,mX⟩:=dg.form;subst mX;refine jd 9 [2]<|zR (.nilIface) [] [2,0] _ ⟨_,_,dg,rfl⟩
def bjk{bb cap:Nat}{c:Int}(iR:cap≠0):eW zT 313 [zP b] ro [(b,.cells ⟨[zP b,.slice (some ⟨bb,0,none⟩) 1 cap]⟩ 379 (0,0)),(bb,.cells ⟨.int .u8 c::l⟩ 5 (0,0))] (λr Y=>r= .string (akZ c)):=by
 refine zC [zxc b 379 [zP b,.slice (some ⟨bb,0,none⟩) 1 cap],.b bb (.cells ⟨.int .u8 c::l⟩ 5 (0,0))]<|jd 15 [0,0]<|zxo 4 λtT=>jsd (a:=⟨bb,0,none⟩) (l:=1) iR<|jg 0 []<|eP tT [0,1]<|zxo 10 λDX=>jus (b:=bb) (E:=5) [1] c l λL9=>eE DX [[1]]<|zD 3<|zX _ rfl
def BI(u:UInt8):ByteArray:=⟨#[u]⟩
def ay2{u:UInt8}(h:u.toNat <128):Value.string (Utf8.encode (u.toNat:Int))= .string (BI u):=by
 have hv:Utf8.valid (u.toNat:Int)=true:=by simp only[Utf8.valid];simp;omega
 simp_all[Utf8.encode,dI,LI,dW,BI]
theorem aUN{u:UInt8}(hu:(97<=u.toNat/\u.toNat<=122)):iz zT 270 [.string (BI u)] ro (.string (BI u)):=by
 have sD:(BI u).size=1:=rfl;refine zE<|zD 15<|iE [1,1,0,1,0,0] [] (λ(zz:Nat×Bool)=>[(0,.string (BI u)),(2,.string (bs [])),(3,.bool true),(4,.bool zz.2),(5,zI (zz.1:Int))]) (λzz=>[]) (λzz=>(zz.1=0/\zz.2=false)\/(zz.1=1/\zz.2=false)) (λzz=>1-zz.1) (⟨0,false⟩) (.inl ⟨rfl,rfl⟩) [] ?_;rintro⟨i,q⟩ hI K1 cX rest;dsimp only at hI;refine zD 8<|zJ 14 ((i:Int) <((BI u).size:Int)) (λh1=>?_) λh1=>?_
 ·
  refine zD 5 ?_;obtain⟨hi0,X4⟩:i=0/\q=false:=by rcases hI with h|h;exact h;omega
  refine jw 5 (zI 0) (show Value.int .i64 (i:Int)= zI 0 by rw[hi0];rfl) ?_;refine jw 4 (.bool false) (show Value.bool q= .bool false by rw[X4])<|zD 12<|zJ 21 ((u.toNat:Int)>=128) (λh2=>?_) λh2=>?_
  ·
   exfalso;omega
  refine zD 8<|js 26 (decide (65<=(u.toNat:Int))) (λh3=>?_) (λh3=>?_)
  ·
   have wC:=h3;replace wC:=ai wC;refine zD 11<|zY cX (⟨1,decide ((u.toNat:Int)<=90)⟩) (.inr ⟨rfl,cG (by omega)⟩) []
  have wC:=h3;replace wC:=ah wC;exfalso;omega
 refine zD 4 ?_;obtain⟨hi1,hq1⟩:i=1/\q=false:=by rcases hI with h|h;omega;exact h
 refine jw 4 (.bool false) (show Value.bool q= .bool false by rw[hq1])<|zD 17<|zX _ ⟨rfl,rfl⟩
theorem aUM{u:UInt8}(hu:(65<=u.toNat/\u.toNat<=90)):iz zT 270 [.string (BI u)] ro (.string (akZ (IntKind.u8.wrap ((u.toNat:Int)+32)))):=by
 have sD:(BI u).size=1:=rfl;refine zE<|zD 15<|iE [1,1,0,1,0,0] [] (λ(zz:Nat×Bool)=>[(0,.string (BI u)),(2,.string (bs [])),(3,.bool true),(4,.bool zz.2),(5,zI (zz.1:Int))]) (λzz=>[]) (λzz=>(zz.1=0/\zz.2=false)\/(zz.1=1/\zz.2=true)) (λzz=>1-zz.1) (⟨0,false⟩) (.inl ⟨rfl,rfl⟩) [] ?_;rintro⟨i,q⟩ hI K1 cX rest;dsimp only at hI;refine zD 8<|zJ 14 ((i:Int) <((BI u).size:Int)) (λh1=>?_) λh1=>?_
 ·
  refine zD 5 ?_;obtain⟨hi0,X4⟩:i=0/\q=false:=by rcases hI with h|h;exact h;omega
  refine jw 5 (zI 0) (show Value.int .i64 (i:Int)= zI 0 by rw[hi0];rfl) ?_;refine jw 4 (.bool false) (show Value.bool q= .bool false by rw[X4])<|zD 12<|zJ 21 ((u.toNat:Int)>=128) (λh2=>?_) λh2=>?_
  ·
   exfalso;omega
  refine zD 8<|js 26 (decide (65<=(u.toNat:Int))) (λh3=>?_) (λh3=>?_)
  ·
   have wC:=h3;replace wC:=ai wC;refine zD 11<|zY cX (⟨1,decide ((u.toNat:Int)<=90)⟩) (.inr ⟨rfl,cb (by omega)⟩) []
  have wC:=h3;replace wC:=ah wC;exfalso;omega
 refine zD 4 ?_;obtain⟨hi1,hq1⟩:i=1/\q=true:=by rcases hI with h|h;omega;exact h
 refine jw 4 (.bool true) (show Value.bool q= .bool true by rw[hq1])<|zD 14<|jn λb7=>zD 9<|jc (vs:=[zP b7,zI 1]) [0] (aVE) ?_;rintro _ _ ⟨v,L,hv,rfl⟩;refine jg 0 [zxc b7 379 [zP b7,v],.l L]<|zD 7<|iE [1,1,1,0,1,0,1,1,1,1,0,1,0,0] [] (λ(zz:Nat×Int×Value×Cells×(List Int))=>[(0,.string (BI u)),(2,.string (bs [])),(7,zP b7),(8,zI zz.2.1),(9,zI (zz.1:Int))]) (λzz=>[zxc b7 379 [zP b7,zz.2.2.1],.l zz.2.2.2.1]) (λzz=>bJ zz.2.2.1 1 5 eBy zz.2.2.2.2 zz.2.2.2.1/\((zz.1=0/\zz.2.1=0/\zz.2.2.2.2=[])\/(zz.1=1/\zz.2.1=1/\zz.2.2.2.2=[(IntKind.u8.wrap ((u.toNat:Int)+32))]))) (λzz=>1-zz.1) (⟨0,0,v,L,[]⟩) ⟨hv,.inl ⟨rfl,rfl,rfl⟩⟩ [0,1] ?_;rintro⟨j,p,v,L,xs⟩ hJ K2 mb rest;dsimp only at hJ;refine zD 8<|zJ 41 ((j:Int) <((BI u).size:Int)) (λh4=>?_) λh4=>?_
 ·
  refine zD 5 ?_;obtain⟨hj0,C9,Hr⟩:j=0/\p=0/\xs=[]:=by rcases hJ.2 with h|h;exact h;omega
  refine jw 9 (zI 0) (show Value.int .i64 (j:Int)= zI 0 by rw[hj0];rfl) ?_;refine jw 8 (zI 0) (show Value.int .i64 p= zI 0 by rw[C9])<|zD 11<|js 49 (decide (65<=(u.toNat:Int))) (λh5=>?_) (λh5=>?_)
  ·
   have QG:=h5;replace QG:=ai QG;refine zD 4<|zJ 52 ((u.toNat:Int)<=90) (λh6=>?_) λh6=>?_
   ·
    refine zD 19<|jc (vs:=[zP b7,.int .u8 (IntKind.u8.wrap ((u.toNat:Int)+32))]) [0,1] (aVH (by have:=hJ.1;rwa[Hr] at this)) ?_;rintro _ _ ⟨v2,L2,Ug,rfl⟩;refine jg 0 [zxc b7 379 [zP b7,v2],.l L2]<|zD 11<|zY mb (⟨1,1,v2,L2,[(IntKind.u8.wrap ((u.toNat:Int)+32))]⟩) ⟨Ug,.inr ⟨rfl,rfl,rfl⟩⟩ [0,1]
   exfalso;omega
  have QG:=h5;replace QG:=ah QG;exfalso;omega
 refine zD 4 ?_;obtain⟨hj1,hp1,hx1⟩:j=1/\p=1/\xs=[(IntKind.u8.wrap ((u.toNat:Int)+32))]:=by rcases hJ.2 with h|h;omega;exact h
 refine jw 8 (zI 1) (show Value.int .i64 p= zI 1 by rw[hp1])<|zD 9 ?_;obtain⟨bb,lz,cap,iR,rfl,rfl⟩:=awg (by have:=hJ.1;rwa[hx1] at this);refine zD 1<|jc (vs:=[zP b7]) [0,1] (bjk (bb:=bb) (l:=lz) (c:=(IntKind.u8.wrap ((u.toNat:Int)+32))) iR) ?_;rintro _ Yz rfl;refine zD 3<|zX _ ⟨rfl,rfl⟩
def apf(u:UInt8):ByteArray:=if u.toNat <97 then akZ (IntKind.u8.wrap ((u.toNat:Int)+32)) else BI u
theorem biB{u:UInt8}(h:Nt u=true\/PM u=true):iz zT 270 [.string (BI u)] ro (.string (apf u)):=by
 unfold apf;rcases h with h|h
 .simp_all[Nt,cJ,aUN]
 simp only[PM,au,Cg] at h
 grind [aUM]
end Go.L
