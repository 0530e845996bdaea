/- Part 7 of the proof. -/
import Derived.Test.YtfhaegdkhpdedaaGreatDoorS6
import Derived.Conc.Own
import Derived.KernelRfl
import Derived.Test.YtfhaegdkhpdedaaGreatDoorProg
set_option maxRecDepth 100000
set_option maxHeartbeats 4000000
set_option linter.all false
namespace Go.L
open Go Go.Conc
variable {ro:Nat→Option Obj} {o o':Option JS} {α β ι:Type} {f:FuncId} {Φ:Value→(Nat→Option Obj)→Cells→Prop} {t x:ByteArray} {ats:Array TypeId} {xs:List Int} {b i sz n d off b1 many b2 dP b3 bl bm bt br bg b4:Nat} {ys:List ByteArray} {args l vs:List Value} {vd vl:Value} {p:ByteArray×ByteArray} {NT jv:List Frame} {todo:List Nat} {y:Operand} {T E:TypeId} {Stop:Cells→Prop} {fn:Func} {D S hi r:Int} {ca:Array Value} {q:Bool} {cl fr:Frame}
def tkO(is:List Nat)(o:Option JS):List Sg:=(wT is o).getD []
attribute [irreducible] tkO
abbrev RCG(ro:Nat->Option Obj)(Φ:Value->(Nat->Option Obj)->Cells->Prop)(fr:Cells):Ending->St->Prop:=λen s'=>∃v bU Y,en= .returned v/\Sub ro bU/\(⟨bU,Y++fr⟩:St).le s'/\Φ v bU Y
def azy(P:Program)(f:FuncId)(args:List Value)(ro:Nat->Option Obj)(own:Cells)(Φ:Value->(Nat->Option Obj)->Cells->Prop):Prop:=
 ∀fr,Fn (C0L P) P f ⟨args⟩ ⟨ro,own++fr⟩ (RCG ro Φ fr)
def aBp{P:Program}(hm:P.follows .mixedOrders=true){L:Cells}(own:List Sg)(kn:Cells)(hk:Knows ro kn)(h:∀fr,J (XC P hm f ro (RCG ro Φ fr)) (pJ P f args (own++[.l fr]) kn))(hL:den own=L:=by rfl):azy P f args ro L Φ:=by
 subst hL;intro fr;have h:=h fr;unfold pJ at h;split at h<;>try exact h.elim
 rename_i fn hf;split at h<;>try exact h.elim
 rename_i c hc;cases hl:Nat.ble args.length fn.ntmps with
 |false=>rw[hl] at h;exact h.elim
 |true=>
  rw[hl] at h;have C4:yx P f=fn:=by simp only[yx,hf]
  have:=h hk;simp only[JP,XC,KQ,C4] at this;have hd:den (own++[.l fr])=den own++fr:=by rw[rH];rfl
  rw[hd] at this;exact Uy Ck hf hc hl this
section
variable {X:Cx} {o:Option JS}
def Qb{own:Cells}(ps:List Nat)(hC:∀main T,X.C main T->C0L X.P main T)(hf:azy X.P f vs X.ro own Φ)(hj:∀v bU Y,Sub X.ro bU->Φ v bU Y->J (X.at bU) (r8 ps v Y o))(h1:iJ X.n (zt X.P X.n) o=some (f,vs):=by kernel_rfl)(h2:fV ps o=some own:=by kernel_rfl):J X o:=by
 obtain⟨ops,i,todo,k,e,w,kn,p,rfl,ho,hw,hc⟩:=gK h1;obtain⟨ff,x,xs,at_,fi,ca,ws,aX,hx,xP,rfl⟩:=we hc;intro ep;rcases p with ⟨dst,op,ty,pos,gf,g⟩
 dsimp only at aX;subst aX;have hp:=dS h2;have C4:Fn X.C X.P f ⟨fi++ws++ca⟩ ⟨X.ro,den w⟩ (RCG X.ro Φ (den (gG ps 0 w))):=λmain T hT c cs k1 k2=>
  (X.hC main T hT).mono _ ⟨X.ro,own++den (gG ps 0 w)⟩ _ (gM (J:=[]) (by rw[e9];exact hp) (Sub.refl _)) (Fn.weaken hC (hf _) main T hT c cs k1 k2)
 refine zd (fi:=⟨fi⟩) (ca:=⟨ca⟩) (ws:=fi++ws++ca) X.hC ho hw hx ff xP (XN fi ws ca) C4 (λv' s' hr=>?_) (λch s' hr=>by obtain⟨_,_,_,e,_⟩:=hr;cases e) (λs' hr=>by obtain⟨_,_,_,e,_⟩:=hr;cases e);obtain⟨v,bU,Y,hv,hs,hle,uK⟩:=hr;cases hv;have:=hj _ bU Y hs uK;rw[tF ho] at this;have:=this (ep.up hs);simp only[JP,lG,Nh] at this;exact this.more X.hC hle
def aRx{xd:Nat->Option Obj}{fr:Cells}(hq:QR X (RCG xd Φ fr))(v:Value)(ps:List Nat)(Y:Cells)(lO:Sub xd X.ro)(hR:Φ v X.ro Y)(h1:yY (nG X.P X.n X.fn [] o)=some v:=by kernel_rfl)(h2:Yx (nG X.P X.n X.fn [] o)=Yw (nG X.P X.n X.fn [] o):=by kernel_rfl)(h3:fV ps o=some (Y++fr):=by kernel_rfl)(h4:Hr o=true:=by kernel_rfl):J X o:=
 cd hq v [] ps _ (Sub.refl _) ⟨v,X.ro,Y,rfl,lO,St.le_refl _,hR⟩ h1 h2 h3 h4
end
theorem adE{P:Program}{c:Code}{R:Ending->St->Prop}{s:St}{os:Os}{out:Array (Nat×ByteArray)}{Post:Value->World->Prop}(hf:P.funcs[f]?=some fn) (hb:fn.body=some c) (hl:Nat.ble args.length fn.ntmps=true) (hi:P.inits.idxOf? f=none)
 (abk:∀v s0 w,R (.returned v) s0->dh s0 w->Go.ConcM.OsLater os w.os->w.output=out->Post v w) (wX:∀ch s,¬R (.panicked ch) s)
 (h:Wp (C0L P) f none c (zv P fn R) (A fn.ntmps (mE 0 args) []) s):T0L P os out Post (G (Frame.enter P f ⟨args⟩ .normal) []) s:=by
 have hT:C0L P true (T0L P os out Post):=⟨rfl,os,out,Post,rfl⟩;have kp:=GG P os out Post
 let b:Frame:={(default:Frame) with fn:=f,kind:= .normal,roundOf:=none}
 have oL:Frame.enter P f ⟨args⟩ .normal=dJ b (A fn.ntmps (mE 0 args) []) [.code c]:=by
  rw[<-rG args fn.ntmps (Nat.le_of_ble_eq_true hl)];simp[Frame.enter,dJ,hf,hb,b]
 rw[oL];refine h true _ hT b [] [] rfl (by simp[b]) rfl λe a' s' q=>?_;have last:∀(todo:List Item),a'.defers=[]->eN P (results fn a'.tmps) s' (λv s'=>∃s0,s0.le s'/\R (.returned v) s0) (λ_ _=>False)->T0L P os out Post (G {dJ b a' todo with mode:= .returning} []) s':=by
  intro todo hd hr;refine adk rfl λw yO hos IB=>?_;obtain⟨r,es,dz,hl⟩:=lK _ _ _ _ w #[] hr yO;rw[Array.empty_append] at dz;cases r with
  |ok v w'=>
   obtain⟨s2,ht,s0,hle,hu⟩:=hl;refine⟨v,w',seen P f es,s2,?_,abk v s0 w' hu (dh.of_le hle ht.ny) (by rw[ht.os];exact hos) (ht.output.trans IB),ht.sub (mJ _ _ _)⟩;simp only[dJ,b,G,stepG,unwind,hf,hd,dz,doReturn,hi,GStep.after,Array.append_empty,Bool.not_true,Bool.false_eq_true,if_false]
  |halt _ _=>obtain⟨_,_,hu⟩:=hl;exact hu.elim
 cases e with
 |normal=>exact kp.go rfl rfl (g':=G {dJ b a' [] with mode:= .returning} []) (λw=>by simp[G,stepG,stepG.exec,dJ,b]) (last _ q.1 q.2)
 |ret=>exact λtodo=>kp.go rfl rfl (g':=G {dJ b a' (.code .ret::todo) with mode:= .returning} []) (λw=>by simp[G,stepG,stepG.exec,dJ,b]) (last _ q.1 q.2)
 |panic ch=>exact(wX _ _ q.2).elim
 |exit id=>exact q.elim
 |goto l=>exact q.elim
 |outgrown=>exact q.elim
def aCR(P:Program)(f:FuncId)(args:List Value)(ro:Nat->Option Obj)(Φ:Value->Cells->Prop):Prop:=
 ∀os out (Post:Value->World->Prop),(∀v Y w,Φ v Y->dh ⟨ro,Y⟩ w->Go.ConcM.OsLater os w.os->w.output=out->Post v w)->T0L P os out Post (G (Frame.enter P f ⟨args⟩ .normal) []) ⟨ro,[]⟩
def aRt{P:Program}(hm:P.follows .mixedOrders=true){Φ:Value->Cells->Prop}(hi:P.inits.idxOf? f=none)(kn:Cells)(hk:Knows ro kn)(h:∀fr,J (XC P hm f ro (RC ro fr Φ)) (pJ P f args [.l fr] kn)):aCR P f args ro Φ:=by
 intro os out Post abk;have h:=h [];unfold pJ at h;split at h<;>try exact h.elim
 rename_i fn hf;split at h<;>try exact h.elim
 rename_i c hc;cases hl:Nat.ble args.length fn.ntmps with
 |false=>rw[hl] at h;exact h.elim
 |true=>
  rw[hl] at h;have C4:yx P f=fn:=by simp only[yx,hf]
  have:=h hk;simp only[JP,XC,KQ,C4] at this;refine adE hf hc hl hi (λv s0 w hr yO hos IB=>?_) (λch s hr=>?_) this
  .obtain⟨v',Y,e,hle,uK⟩:=hr;cases e;refine abk _ Y w uK ?_ hos IB;have:=dh.of_le hle yO;rwa[e9] at this
  obtain⟨v',Y,e,_⟩:=hr;cases e
theorem aRA{X:Cx}{v:Value}(enc:α->List Value){ps:List α}{L:Cells}(b:Nat)(x:α)(i j:Nat)(kS:bI v sz E enc ps L)(hl:(enc x).length=sz)(hs:(enc x).all single=true)(hb:ps.length+1<=1048576)(hj:∀a c L',bI (.slice a (ps++[x]).length c) sz E enc (ps++[x]) L'->J X (SE [i] (.slice a (ps++[x]).length c) L' o))
 (hv:iJ X.n (apV X.P X.n) o=some (v,.slice (some ⟨b,0,none⟩) 1 1,E,sz):=by kernel_rfl)(h2:fV [i] o=some L:=by kernel_rfl)(h3:fV [j] o=some [(b,.cells ⟨([x].map enc).flatten⟩ E (0,0))]:=by kernel_rfl):J X o:=
 gB [i] [j] _ kS (λs _ hZ=>dg [x] (hZ _ (.head _)) (by grind)) (λp hp=>by grind) (by simpa using hb) (λv' L' h=>by obtain⟨a,c,rfl⟩:=h.form;exact hj a c L' h) hv h2 h3
open Go.ConcR (KK wgBlock WgAt stA smA rd wr)
open Go.ConcM (OsLater)
section
variable {X:Cx} {o:Option JS}
def ldH(P:Program)(n:Nat)(p:Oper)(e:Env):Option Addr:=match p.op with
 | .load T x=>match c9 P T with
  |some ⟨_,_,_,false⟩=>match dv n e x with
   |some (.pointer (some a))=>some a
   |_=>none
  |_=>none
 |_=>none
def jlh{t:TypeId}{v:Value}(h:X.ro b=some (.pending ⟨l⟩ t))(Be:off≠wL)(hl:nth l off=some v)(hj:J X (Kj [] v o))(htt:t<=NL:=by decide)(hv:fp X.n (ldH X.P X.n) o=some ⟨b,off,none⟩:=by kernel_rfl)(hB:fV [] o=some []:=by kernel_rfl):J X o:=by
 refine jGN hv hB (λs p e ho hh hf=>?_) hj;unfold ldH at hf;split at hf<;>try (cases hf;done)
 rename_i T x aX;split at hf<;>try (cases hf;done)
 rename_i d sz z iy;split at hf<;>try (cases hf;done)
 rename_i a hx;simp only[aB] at hf;subst hf;obtain⟨dP,tf⟩:=bA iy;refine⟨by rw[aX];rfl,λs0 HJ Fh ops i ho rest hwt s' hs todo Q hk=>qk X.hC ho rest hwt (by rw[aX];rfl) (λs1 fq f hf1 K E hK=>?_) hs hk⟩;simp only[execOp,aX,Instr.loadAt,hf1 _ _ hx,Instr.sureAddr,loadVar,aI,aQ,pQ tf,aW,cJ];exact⟨rfl,rfl,⟨l⟩,t,(0,0),v,.inr ⟨fq _ _ (HJ _ _ (.inl h)),Be,htt⟩,by rw[yd] at hl;simpa using hl,hK⟩
end
section
variable {P:Program}
def aqB(hi:(P.info? T).map (·.size)=some 1){v:Value}(hv:v.oneCell'=true)(hc:v.cells= #[v]){w:World}{c:Array Value}{t:TypeId}(hw:w.heap[b]?=some (.cells c t (0,0))) (Be:off <c.size):
 (Instr.storeAt T (.pointer (some ⟨b,off,none⟩)) v).run P w= .ok () (w.setCell ⟨b,off,none⟩ v)/\∀es,(Instr.storeAt T (.pointer (some ⟨b,off,none⟩)) v).events P w es=es.push ⟨.cell ⟨b,off,none⟩,true,false⟩:=by
 have jV:w.cell? ⟨b,off,none⟩=some c[off]:=by simp[World.cell?,hw,Be]
 have aTg:w.frozen? ⟨b,off,none⟩=false:=by simp[World.frozen?,hw]
 have akt:(⟨b,off,none⟩:Addr).add 0=⟨b,off,none⟩:=by unfold Addr.add;split<;>simp_all
 cases hq:P.info? T with
 |none=>simp[hq] at hi
 |some i=>
  have hs:i.size=1:=by simp[hq] at hi;exact hi
  have dt:(store ((⟨b,off,none⟩:Addr).add 0) v).run P w= .ok () (w.setCell ⟨b,off,none⟩ v):=by
   rw[akt,run_store P w _ v _ hv,jV];simp[aTg]
  have WB:∀es,(store ((⟨b,off,none⟩:Addr).add 0) v).events P w es=es.push ⟨.cell ⟨b,off,none⟩,true,false⟩:=λes=>by
   rw[akt,events_store P w es _ v _ hv,jV];simp only[aTg,aW,cJ];rfl
  simp_all[Instr.storeAt,Instr.sureAddr,storeVar,sizeOf,typeInfo,storeCells]
end
section
variable {ι:Type} {E:fY ι} {l1:List ι} {Stop:Goroutine->St->Prop}
def aSe(i:Nat)(ps:List Nat):Option JS->Option JS
 |some ⟨.Lr ops base Pl Sl k,e,w,kn⟩=>some ⟨.Lr ops base ((i,undef)::Pl) (pending ops i Sl) k,e,gG ps 0 w,⟨[],[]⟩⟩
 |_=>none
def aPy(n i:Nat):Option JS->Bool
 |some ⟨.Lr ops base Pl Sl _,_,_,_⟩=>(pending ops i Sl).all λx=>zb ops n base Pl x.1
 |_=>false
def aSd(P:Program)(n:Nat)(i:Nat)(rest:Env):Option JS->Option (Nat×Nat×Value)
 |some ⟨.Lr ops base Pl Sl k,e,w,kn⟩=>match ops[i]? with
  |some p=>match p.op,p.guard with
   | .store T x y,none=>match c9 P T with
    |some ⟨_,sz,_,_⟩=>bif Nat.beq sz 1 then (match dv n (fg ops base i Pl++rest) x with
     |some (.pointer (some ⟨b,off,none⟩))=>match dv n (fg ops base i Pl++rest) y with
      |some v=>some (b,off,v)
      |none=>none
     |_=>none) else none
    |_=>none
   |_,_=>none
  |none=>none
 |_=>none
def jhs{X:Cx}{rest:Env}(hP:X.P=E.P)(hX:∀m T',X.C m T'->m=false/\T'=rI E l1 Stop)(aSi:X.bW=none)(hnr:(E.P.funcs[X.fn]?).any (·.norace)=false) (hK:LK X i o rest todo) (ps:List Nat) {v:Value} {Y:Cells} {c:List Value}
 (qX:X.ro E.Hb=some (.cells ⟨c⟩ E.ht (0,0))) (Be:wL <c.length) (QA:c.length=E.hc.size) (hce:∀j,j≠wL->c[j]?=E.hc[j]?) (WX:E.Gd l1 v Y) (hv1:v.oneCell'=true) (hv2:v.cells= #[v])
 (hj:J (X.at (lD X.ro E.Hb E.hole)) (aSe i ps o)) (h1:aSd X.P X.n i rest o=some (E.Hb,wL,v)) (ayc:fV ps o=some Y) (aSr:aPy X.n i o=true):J X (ajL i rest todo o):=by
 unfold aSd at h1;split at h1<;>try (cases h1;done)
 rename_i ops base Pl Sl k e w kn;split at h1<;>try (cases h1;done)
 rename_i p hp;split at h1<;>try (cases h1;done)
 rename_i T x y aX hgd;split at h1<;>try (cases h1;done)
 rename_i d sz z ag iy;cases Wn:Nat.beq sz 1 with
 |false=>rw[Wn] at h1;cases h1
 |true=>
 rw[Wn] at h1;simp only[cG] at h1;have Wn:=dW Wn;subst Wn;split at h1<;>try (cases h1;done)
 rename_i b0 off hx;split at h1<;>try (cases h1;done)
 rename_i v' hy;simp only[Option.some.injEq,Prod.mk.injEq] at h1;obtain⟨rfl,rfl,rfl⟩:=h1;have ayc:=dS ayc;dsimp only at ayc;simp only[ajL];intro ep main T1 hT b FQ cs hf hk hb hQ;obtain⟨rfl,rfl⟩:=hX _ _ hT;refine Mp l1 Stop rfl λwd ha=>?_;have hwb:wd.heap[E.Hb]?=some (.cells ⟨c⟩ E.ht (0,0)):=(ha.ro E.Hb _ qX).elim (·.1) λh=>h.elim (λ⟨_,_,_,e,_⟩=>by cases e) λ⟨_,_,e,_⟩=>by cases e
 have sO:(X.P.info? T).map (·.size)=some 1:=by
  obtain⟨dP,tf⟩:=bA iy;obtain⟨ii,hi1,Sb,_⟩:=tf.info;rw[hi1];simp[Sb]
 have hr:=aqB (P:=X.P) sO hv1 hv2 hwb (by simpa using Be);have hw:Region.wanted p (yielded ops (A X.n (fg ops base i Pl++rest) X.D).tmps)=true:=jM _ _ hgd;have hex:execOp (A X.n (fg ops base i Pl++rest) X.D).eval p=(Instr.storeAt T (.pointer (some ⟨E.Hb,wL,none⟩)) v' >>= λ_=>pure Next.skip):=by
  rw[mf];simp only[execOp,aX,cg hx,cg hy]
 have dt:=stepG_none (P:=X.P) (main:=false) (b:=b) (k:=FQ) (cs:=cs) (rest:=todo) (a:=A X.n (fg ops base i Pl++rest) X.D) (w:=wd) (w':=wd.setCell ⟨E.Hb,wL,none⟩ v') hp hw hk (by rw[hex];simp[hr.1]);have hli:listed X.P b.fn (A X.n (fg ops base i Pl++rest) X.D) p wd= #[⟨.cell ⟨E.Hb,wL,none⟩,true,false⟩]:=by
  unfold listed;rw[hex];have:(Instr.storeAt T (.pointer (some ⟨E.Hb,wL,none⟩)) v' >>= λ_=>pure Next.skip).events X.P wd #[]= #[⟨.cell ⟨E.Hb,wL,none⟩,true,false⟩]:=by simp[hr.2,hr.1]
  rw[this,seen_def,hP,hf];simp[seenStep,hnr]
 rw[hli] at dt;rw[aSi] at hb;rw[<-Lj hb,<-Lj hb] at dt;rw[dH] at dt;rw[hP] at dt;refine⟨_,_,_,⟨lD X.ro E.Hb E.hole,den (gG ps 0 w)⟩,dt,rfl,.inr ⟨v',Y,den (gG ps 0 w),⟨c⟩,qX,by simpa using Be,by simpa using QA,λj hj=>by simpa using hce j hj,ayc,WX,rfl,rfl,St.le_refl _⟩,?_⟩;have Bd:∀j u,(j,u)∈pending ops i Sl->zb ops X.n base Pl j=true:=λj u KP=>by
  have h:=aSr;simp only[aPy] at h;exact cM.1 h (j,u) KP
 have hpd:di ops i=p.dst:=by simp[di,hp]
 have hj:=hj (λx hx=>by cases hx);simp only[aSe,JP] at hj hK;have key:=hK undef ⟨lD X.ro E.Hb E.hole,den (gG ps 0 w)⟩ (λj u KP hpb=>by rw[Bd j u KP] at hpb;cases hpb) (λpf=>?_)
 .rw[hpd] at key;exact key _ _ hT b FQ cs hf hk (by rw[aSi];exact hb) hQ
 have:=hj ⟨pf.1,(λj u B KP hB=>by cases hB)⟩;rw[Nh] at this;exact this
end
section
variable {ι:Type} {E:fY ι} {b:Frame} {FQ:List Item} {cs:List Frame} {n:Nat} {D:List Deferred} {ro:Nat->Option Obj} {o:Option JS} {ops:Array Oper} {l1:List ι}
def aN9{o1:ι}{os:List ι}{a:Oper}{x:Operand}{k:List Item}(ho:ops[0]?=some a) (hg:a.guard=none) (aX:a.op= .call ⟨.value (.func f),#[x],ats⟩) (hf:FF E.P f) (hk:b.kind≠ .early) (hr:b.roundOf=none)
 (aSX:∀cs,∃n,E.pu (E.M.At E.Mu (.ld os.length) cs) n (G (Frame.enter E.P f #[.pointer (some ⟨E.Mu,0,none⟩)] .normal) cs)) (qX:ro E.Hb=some E.hole)
 (h:∀l v X,E.Gd l v X->l.length <E.mxl->TT (rI E (l++[o1]) (E.Unl (E.Stp os) os.length)) b k cs n D (lD ro E.Hb (E.full v)) (bkO X (stO a.dst (.tuple #[]) o)))
 (hx:evO n x o=some (.pointer (some ⟨E.Mu,0,none⟩)):=by kernel_rfl):TT (gx E.P false (E.Stp (o1::os))) b (.inRegion ops [0]::k) cs n D ro o:=by
 rintro e w kn rfl ep;have hT:=fJ E.P false (E.Stp (o1::os));refine PK (rest:=[]) hT ho hg hk hr aX hf ?_;have sD:(#[x]:Array Operand).map (A n e D).eval= #[.pointer (some ⟨E.Mu,0,none⟩)]:=by
  rw[mf];simp only[oT,bR,lR,cg hx]
 rw[sD];refine gx.stop ?_;obtain⟨m,hm⟩:=aSX (dJ b (A n e D) (.inRegion ops [0]::k)::cs);refine⟨_,cs,m,hm,qX,λl v X WX NI=>?_⟩;rw[ng,ho];simp only[oR];rw[dH];have hT1:=sZ (E:=E) (l++[o1]) (E.Unl (E.Stp os) os.length);refine rY hT1 ?_;have:=h l v X WX NI _ _ _ (ab7 X _ _ _ _) (λx hx=>by cases hx);rw[lG] at this;exact this
def avr{os:List ι}{ul:FuncId}(hf:E.P.funcs[f]?=some fn) (FU:fn.results= #[]) (JF:HM E.P ul=true)
 (hun:∀cs,∃n,E.pu (E.M.At E.Mu (.ui os.length) cs) n (G (Frame.enter E.P ul #[.pointer (some ⟨E.Mu,0,none⟩)] .deferred) cs)) (qX:ro E.Hb=some E.hole) (ps:List Nat) {Y:Cells}
 (hk:gx E.P false (E.Stp os) (G (cl.finish (.tuple #[])) NT) ⟨ro,Y⟩) (hY:fV ps o=some Y:=by kernel_rfl):
 TT (rI E l1 (E.Unl (E.Stp os) os.length)) (Xc f .normal) [] (cl::NT) n [{target:= .fn (.func ul) ⟨[]⟩,args:=⟨[.pointer (some ⟨E.Mu,0,none⟩)]⟩}] ro o:=by
 rintro e w kn rfl ep;have hT:=sZ (E:=E) l1 (E.Unl (E.Stp os) os.length);have hT1:=fJ E.P false (E.Stp os);refine hT.go rfl rfl (g':=G {dJ (Xc f .normal) (A n e [{target:= .fn (.func ul) ⟨[]⟩,args:=⟨[.pointer (some ⟨E.Mu,0,none⟩)]⟩}]) [] with mode:= .returning} (cl::NT)) (λw=>by simp[G,stepG,stepG.exec,dJ,Xc])<|ni (C:=CA E.P) (λ_ _ h=>h) hT (.inl rfl) (n5 JF) (ds:=[]) rfl ?_;have KV:((⟨[.pointer (some ⟨E.Mu,0,none⟩)]⟩:Array Value)++(⟨[]⟩:Array Value))= #[.pointer (some ⟨E.Mu,0,none⟩)]:=by simp
 rw[KV];refine rI.stop ?_;obtain⟨m,hm⟩:=hun _;refine⟨qX,_,_,m,hm,rfl,?_⟩;have hp:=dS hY;refine xU (C:=CA E.P) (λ_ _ h=>h) (T:=gx E.P false (E.Stp os)) hT1 hf (fr:={dJ (Xc f .normal) (A n e []) [] with mode:= .returning}) rfl rfl rfl rfl (R:=λen s'=>en= .returned (.tuple #[])/\s'=⟨ro,Y⟩) ?_ (λv s' hv=>?_)
 .have h1:∀tm,results fn tm=Sem.pure (.tuple #[]):=by intro tm;simp[results,FU];rfl
  rw[h1];exact⟨⟨ro,Y⟩,gM hp (Sub.refl _),rfl,rfl⟩
 obtain⟨hv,rfl⟩:=hv;cases hv;exact hk
def avs{dn:FuncId}{bs:List Nat}(hf:E.P.funcs[b.fn]?=some fn) (FU:fn.results= #[]) (od:HM E.P dn=true) (Ui:Ci E.P E.ty E.max (Frame.enter E.P dn #[.pointer (some ⟨E.Wg,0,none⟩)] .deferred)=some bs) (hbs:∀b∈bs,b=E.Wg) (hk:b.kind= .deferred) (hr:b.roundOf=none):
 TT (gx E.P false (E.Stp [])) b [] [iq E.P] n [{target:= .fn (.func dn) ⟨[]⟩,args:=⟨[.pointer (some ⟨E.Wg,0,none⟩)]⟩}] ro o:=by
 rintro e w kn rfl ep;have hT2:=fJ E.P false (E.Stp []);refine hT2.go rfl rfl (g':=G {dJ b (A n e [{target:= .fn (.func dn) ⟨[]⟩,args:=⟨[.pointer (some ⟨E.Wg,0,none⟩)]⟩}]) [] with mode:= .returning} [iq E.P]) (λw=>by simp[G,stepG,stepG.exec,dJ,hr])<|ni (C:=CA E.P) (λ_ _ h=>h) hT2 (.inl rfl) (n5 od) (ds:=[]) rfl<|gx.stop ?_;have hq:QuitsD E.P 2 0 (G {dJ b (A n e []) [] with mode:= .returning} [iq E.P]):=Ai rfl rfl hk hf FU;exact Ri (E:=E.oO) (.inl rfl) hq Ui hbs
end
section
variable (P:Program) (ty:TypeId)
def zq(nw:Nat)(f:Frame):Bl:=
 Fo P ty 300 f [] λf s=>FM P ty gA true none [(1,0)] f s λf s=>Fo P ty 300 f s λf s=>
  ala (λv:Nat=>FM P ty (HB ((v:Int)*KK) 0) false (some (0,.u64,((v+1:Nat):Int)*KK)) [(7,0),(8,0)] f s λf s=>Fo P ty 300 f s λf s=>
   bif Nat.beq v 0 then FM P ty gA false none [(5,1)] f s λf s=>Fo P ty 300 f s λf s=>FM P ty gA true none [(2,0)] f s (goR P ty 300)
   else FM P ty gA true none [(2,0)] f s (goR P ty 300)) (List.range (nw+1))
end
section
variable {ι:Type} {E:fY ι} {Fin:Goroutine->Prop} {L:Nat->Option Obj} {Q:Machine->Outcome->World->Trace->Prop} {pend nw d0:Nat} {os:List ι} {s:St} {cs:List Frame}
def W6{k:Frame->List Frame->Bl}{bs:List Nat}(h:Fo E.P E.ty n fr jv k=some bs)(hb:∀b∈bs,b=E.Wg)
 (hk:∀oe gQ uu,k oe gQ=some uu->(∀b∈uu,b=E.Wg)->TG E Fin L Q pend nw os d0 (G oe (gQ++cs)) s):TG E Fin L Q pend nw os d0 (G fr (jv++cs)) s:=
 W8 h hb _ hk λfr jv oe gQ h1 hT=>agA rfl rfl (λw hw=>h1 cs _ w (tq _ hw)) hT
def afT{c:Frame}{f:Frame}{bs:List Nat}(h:zq E.P E.ty nw f=some bs)(hb:∀b∈bs,b=E.Wg)(vo:nw <E.max)
 (hT:TG E Fin L Q 1 nw os 0 (G (c.finish (.tuple #[])) cs) s):TG E Fin L Q 0 nw os 0 (G f (c::cs)) s:=by
 have C5:∀ {f:Frame} {jv:List Frame} {bs:List Nat},FM E.P E.ty gA true none [(2,0)] f jv (goR E.P E.ty 300)=some bs->(∀b∈bs,b=E.Wg)->TG E Fin L Q 1 nw os 1 (G f (jv++c::cs)) s:=by
  intro f jv bs h hb;obtain⟨f',s',uu,h1,h2,h3⟩:=gE h hb;refine Vl (iv:=1) (d':=0) rfl (by omega) λv hv=>⟨_,_,λw hw=>⟨w,h3 _ _ w (.inl ⟨rfl,rfl⟩),ek.refl w,hw⟩,(by intro e he;simp[Ey] at he;subst he;exact .inr (.inl rfl)),rfl,rfl,?_⟩;exact Lc (c:=c) (cs:=cs) h1 true (λg=>TG E Fin L Q 1 nw os 0 g s) hT λg g' hg hg' dt hT'=>agA hg hg' (λw _=>dt w) hT'
 refine W6 (jv:=[]) h hb λf1 s1 b1 k1 k2=>?_;obtain⟨f',s',uu,h1,h2,h3⟩:=gE k1 k2;refine Vl (iv:=0) (d':=1) rfl (by omega) λv hv=>⟨_,_,λw hw=>⟨w,h3 _ _ w (.inl ⟨rfl,rfl⟩),ek.refl w,hw⟩,(by intro e he;simp[Ey] at he;subst he;exact .inl rfl),rfl,rfl,?_⟩;refine W6 h1 h2 λf2 s2 b2 k1 k2=>?_;refine Vl (iv:=1) (d':=1) rfl (by omega) λv hv=>?_;obtain⟨a,k3,k4⟩:=Cp k1 k2 v (dZ.2 (by omega));obtain⟨f',s',uu,h1,h2,h3⟩:=gE k3 k4;refine⟨_,_,λw hw=>⟨_,h3 _ _ w (.inr ?_),ek.set w 0 _,?_⟩,(by
  intro e he;simp[Ey] at he;rcases he with rfl|rfl<;>exact ru _ 0 _),rfl,rfl,?_⟩
 .exact kX E.oO hw
 .exact Go.ConcR.WgAt.setSt hw _
 refine W6 h1 h2 λf3 s3 b3 k1 k2=>?_;cases hz:Nat.beq v 0 with
 |false=>
  rw[hz] at k1;simp only[jI] at k1;exact C5 k1 k2
 |true=>
  rw[hz] at k1;simp only[cG] at k1;obtain⟨f',s',uu,h1,h2,h3⟩:=gE k1 k2;refine avo rfl rfl (λw hw=>h3 _ _ w (.inr (tq E.oO hw)))<|W6 h1 h2 λf4 s4 b4 k1 k2=>C5 k1 k2
end
section
variable {ι:Type} {E:fY ι} {Fin:Goroutine->Prop} {c:Frame} {cs:List Frame}
def uV{Stop:Goroutine->Prop}{k:Frame->List Frame->Bl}{bs:List Nat}(h:Fo E.P E.ty n fr jv k=some bs)(hb:∀b∈bs,b=E.Wg)
 (hk:∀oe gQ uu,k oe gQ=some uu->(∀b∈uu,b=E.Wg)->Stop (G oe (gQ++cs))):E.pw Stop (G fr (jv++cs)):=jY h hb hk
section
variable (hF:Fin (G (c.finish (.tuple #[])) cs)) (kp:∀g g',g.status= .running->g'.status= .running->(∀w,stepG E.P true g w= .go g' w #[])->Fin g'->Fin g)
include hF kp
def akV{f:Frame}{s:List Frame}{bs:List Nat}(h:atH E.P E.ty f s=some bs)(hb:∀b∈bs,b=E.Wg):E.Aq Fin (G f (s++c::cs)):=by
 obtain⟨f',s',uu,h1,h2,h3⟩:=gE h hb;exact⟨rfl,_,λw=>h3 _ _ w (.inl ⟨rfl,rfl⟩),Lc h1 _ Fin hF kp⟩
def Fw{f:Frame}{s:List Frame}{bs:List Nat}(h:UT E.P E.ty f s=some bs)(hb:∀b∈bs,b=E.Wg):E.Ke Fin (G f (s++c::cs)):=by
 obtain⟨f',s',uu,h1,h2,h3⟩:=gE h hb;exact⟨rfl,_,λw=>h3 _ _ w (.inl ⟨rfl,rfl⟩),uV h1 h2 λ_ _ _ k1 k2=>akV hF kp k1 k2⟩
def akS{f:Frame}{s:List Frame}{bs:List Nat}(h:atu E.P E.ty f s=some bs)(hb:∀b∈bs,b=E.Wg):E.W4 Fin (G f (s++c::cs)):=by
 obtain⟨f',s',uu,h1,h2,h3⟩:=gE h hb;exact⟨rfl,_,λw hw=>h3 _ _ w (.inr (kX E.oO hw)),uV h1 h2 λ_ _ _ k1 k2=>Fw hF kp k1 k2⟩
def akT{f:Frame}{s:List Frame}{bs:List Nat}(h:atw E.P E.ty f s=some bs)(hb:∀b∈bs,b=E.Wg):E.W3 Fin (G f (s++c::cs)):=by
 obtain⟨⟨b1,k1,k2⟩,b2,k3,k4⟩:=zu h hb;obtain⟨f',s',uu,h1,h2,h3⟩:=gE k3 k4;refine⟨rfl,rfl,λw n hw=>?_,_,λw hw=>h3 _ _ w (.inr (kX E.oO hw)),uV h1 h2 λ_ _ _ k1 k2=>akS hF kp k1 k2⟩;unfold atQ at k1;split at k1<;>try (cases k1;done)
 rename_i h0;simp only[aB] at k1;subst k1;have:=pS h0 k2 (w:=w) (.inr (anq E.oO hw)) (c::cs) true;simp only[OV.is] at this;rw[this];rfl
def UR{f:Frame}{s:List Frame}{bs:List Nat}(h:aim E.P E.ty f s=some bs)(hb:∀b∈bs,b=E.Wg):E.Wr Fin (G f (s++c::cs)):=by
 obtain⟨f',s',uu,h1,h2,h3⟩:=gE h hb;exact⟨rfl,_,λw=>h3 _ _ w (.inl ⟨rfl,rfl⟩),uV h1 h2 λ_ _ _ k1 k2=>akT hF kp k1 k2⟩
end
end
section
variable {P:Program} {b:Frame} {a:Act} {k:List Item} {cs:List Frame} {ops:Array Oper}
def ayn{main:Bool}{rest:List Nat}{o:Oper}(ho:ops[i]?=some o) (hg:o.guard=none) (hk:b.kind≠ .early) (hb:b.roundOf=none) (aX:o.op= .go ⟨.value y,#[],ats⟩) (hy:a.eval y= .func (.func f) #[] ca) (w:World):
 stepG P main (G (dJ b a (.inRegion ops (i::rest)::k)) cs) w= .spawn (G (dJ b (a.put o.dst undef) (.inRegion ops rest::k)) cs) (born P {target:= .fn (.func f) ca,args:= #[]}) w #[]:=by
 have hw:Region.wanted o (yielded ops a.tmps)=true:=jM o _ hg;have hx:execOp a.eval o=Sem.pure (.spawn {target:= .fn (.func f) ca,args:= #[]}):=by
  simp only[execOp,aX,resolve,hy,Deferred.ofValue];show Sem.pure (Next.spawn {target:= .fn (.func f) ca,args:= #[]++Array.map a.eval #[]})=_;simp
 rw[Lj hb,Lj hb];have:=stepG_spawn (P:=P) (main:=main) (b:=b) (a:=a) (k:=k) (cs:=cs) (w:=w) (w':=w) (d:={target:= .fn (.func f) ca,args:= #[]}) ho hw hk (rest:=rest) (by rw[hx];rfl) rfl;rw[this,listed_none (by rw[hx];rfl)]
end
section
variable {ι:Type} {E:fY ι} {Fin:Goroutine->Prop} {Q:Machine->Outcome->World->Trace->Prop} {b:Frame} {FQ:List Item} {cs:List Frame} {n:Nat} {D:List Deferred} {ro:Nat->Option Obj} {o:Option JS} {ops:Array Oper} {L:Nat->Option Obj}
structure acp(E:fY ι)(L:Nat->Option Obj)(X:Cells)(ro bU:Nat->Option Obj):Prop where
 of:∀q o,L q=some o->(q,o)∈X
 on:∀q o,(q,o)∈X->L q=some o
 sub:Sub ro bU
 kn:Knows bU X
 nd:(X.map (·.1)).Nodup
 ap:∀q o,(q,o)∈X->ro q=none
 hole:bU E.Hb=some E.hole
 roH:ro E.Hb=none
def acb(E:fY ι)(ro:Nat->Option Obj)(X:Cells):Value->Cells->St:=λv X1=>⟨ro,(E.Hb,E.full v)::(X1++X)⟩
def acp.back{X:Cells}{bU roK:Nat->Option Obj}{rwK:Cells}(h:acp E L X ro bU)(hs:Sub bU roK):Mf E L ⟨roK,rwK⟩ (acb E ro X):=by
 intro l v X1 w WX hw hL kT hX hHb hLH hnH;have hKH:roK E.Hb=some E.hole:=hs _ _ h.hole;have hX1:∀q o,(q,o)∈X1->q≠E.Hb/\ro q=none:=λq o hq=>by
  have hk:=(hX q o hq).2.2.2;refine⟨λe=>hk (.inl (by subst e;show roK _≠none;rw[hKH];simp)),?_⟩;cases hr:ro q with
  |none=>rfl
  |some y=>exact absurd (.inl (by show roK q≠none;rw[hs _ _ (h.sub _ _ hr)];simp)) hk
 have hXn:∀q o,(q,o)∈X->q≠E.Hb:=λq o hq e=>by subst e;rw[h.on _ _ hq] at hLH;cases hLH
 refine⟨⟨λq o hq=>hw.ro q o (hs _ _ (h.sub _ _ hq)),λq o hq=>?_,λq o hq=>?_,?_,λq o hq=>?_⟩,λq hq=>?_⟩
 .rcases aN.1 hq with hq|hq
  .cases hq;exact hHb
  rcases bJ.1 hq with hq|hq
  .exact(hX q o hq).1
  exact hL q o (h.on q o hq)
 .rcases aN.1 hq with hq|hq
  .cases hq;rfl
  rcases bJ.1 hq with hq|hq
  .exact(hX q o hq).2.2.1
  rcases hw.ro q o (hs _ _ (h.kn _ hq)) with h1| ⟨c1,c2,t1,rfl,h2,_⟩| ⟨c1,t1,rfl,h2⟩
  .exact h1.2
  .have h3:=hL q _ (h.on q _ hq);rw[h2] at h3;cases h3
  have h3:=hL q _ (h.on q _ hq);rw[h2] at h3;exact absurd (Nat.le_of_eq (Obj.pending.inj (aK h3)).2.symm) (Nat.not_le.2 (Nat.lt_add_of_pos_right (Nat.succ_pos NL)))
 .show (((E.Hb,E.full v)::(X1++X)).map (·.1)).Nodup;rw[bR,iG,cw,eo];refine⟨λhm=>?_,kT,h.nd,λq hq q' Qi e=>?_⟩
  .rcases bJ.1 hm with hm|hm
   .obtain⟨⟨q,o⟩,h1,h2⟩:=a8.1 hm;exact(hX1 q o h1).1 h2
   obtain⟨⟨q,o⟩,h1,h2⟩:=a8.1 hm;exact hXn q o h1 h2
  subst e;obtain⟨⟨q1,o1⟩,h1,rfl⟩:=a8.1 hq;obtain⟨⟨q2,o2⟩,h2,e2⟩:=a8.1 Qi;simp only at e2;subst e2;have:=(hX _ _ h1).2.1;rw[h.on _ _ h2] at this;cases this
 .rcases aN.1 hq with hq|hq
  .cases hq;exact h.roH
  rcases bJ.1 hq with hq|hq
  .exact(hX1 q o hq).2
  exact h.ap q o hq
 rcases hq with hq| ⟨o,hq⟩
 .have hq:ro q≠none:=hq;cases hr:ro q with
  |none=>exact absurd hr hq
  |some o'=>exact .inr (.inl (.inl (by show roK q≠none;rw[hs _ _ (h.sub _ _ hr)];simp)))
 rcases aN.1 hq with hq|hq
 .cases hq;exact .inr (.inl (.inl (by show roK _≠none;rw[hKH];simp)))
 rcases bJ.1 hq with hq|hq
 .exact .inr (.inr ⟨o,hq⟩)
 exact .inl (by rw[h.on q o hq];simp)
def avt{v0:Value}(iw im ih:Nat)(X:Cells)(kp:Closed E.P true (TL E.P fW (λ_=>none) (Jv E.os E.out) Q))(WX:E.Gd [] v0 [])
 (h:∀L bU,acp E L X ro bU->TT (TG E Fin L Q 0 0 [] 0) b FQ cs n D bU (aaw o))
 (hW:fV [iw,im,ih] o=some [(E.Wg,wgBlock E.ty 0 0),(E.Mu,.cells #[.int .i32 0,.int .u32 0] E.tm),(E.Hb,E.full v0)]:=by kernel_rfl)(hX:avH [iw,im,ih] o=some X:=by kernel_rfl):TT (TL E.P fW (λ_=>none) (Jv E.os E.out) Q) b FQ cs n D ro o:=by
 rintro e w kn rfl ep;refine Closed.ny kp rfl λ⟨w0,hw0⟩=>?_;have hp:=dS hW;rw[Tq,Option.some.injEq] at hX;have hp2:=hp;dsimp only at hp2;rw[hX] at hp2;have hm:∀x,x∈den w↔x=(E.Wg,wgBlock E.ty 0 0)\/x=(E.Mu,.cells #[.int .i32 0,.int .u32 0] E.tm)\/x=(E.Hb,E.full v0)\/x∈X:=λx=>by
  rw[hp2.mem_iff];simp
 have kT:=(hp2.map (·.1)).nodup_iff.1 hw0.nodup;simp only[dK,aY,bR,iG,aN,not_or] at kT;obtain⟨⟨bfy,bfx,hW1⟩,⟨bfw,hM1⟩,hH1,aeQ⟩:=kT;have uM:∀x∈X,x∈den w:=λx hx=>(hm x).2 (.inr (.inr (.inr hx)));have aTI:=(hm _).2 (.inl rfl);have aTM:=(hm _).2 (.inr (.inl rfl));have aUn:=(hm _).2 (.inr (.inr (.inl rfl)));have aa6:∀y∈X,y.1≠E.Wg/\y.1≠E.Mu/\y.1≠E.Hb:=λy hy=>⟨λe=>hW1 (e▸a8.2 ⟨_,hy,rfl⟩),λe=>hM1 (e▸a8.2 ⟨_,hy,rfl⟩),λe=>hH1 (e▸a8.2 ⟨_,hy,rfl⟩)⟩
 let L:Nat->Option Obj:=λq=>(X.find? λy=>y.1==q).map (·.2)
 have aIM:∀q o,L q=some o->(q,o)∈X:=λq o hq=>by
  obtain⟨y,hy,rfl⟩:=fo.1 hq;obtain⟨h1,h2⟩:=abH hy;subst h2;exact h1
 have bhB:∀q o,(q,o)∈X->L q=some o:=λq o hq=>by
  show (X.find? λy=>y.1==q).map (·.2)=some o;rw[MY aeQ hq];rfl
 have sW:∀q o,(q,o)∈X->ro q=none:=λq o hq=>hw0.apart q o (uM _ hq);have aSc:Sub ro (St.freeze ⟨ro,X⟩).ro:=λq o hq=>St.Lf (s:=⟨ro,X⟩) hq λq o hq=>sW q o hq;have aSh:ro E.Hb=none:=hw0.apart _ _ aUn;have lO:Sub ro (lD (St.freeze ⟨ro,X⟩).ro E.Hb E.hole):=λq o hq=>by
  have:q≠E.Hb:=λe=>by subst e;rw[aSh] at hq;cases hq
  rw[nS _ _ this];exact aSc q o hq
 have bfW:Knows (St.freeze ⟨ro,X⟩).ro X:=λx hx=>St.Le (s:=⟨ro,X⟩) (by rcases x with ⟨q,o⟩;exact hx) aeQ;have aSZ:acp E L X ro (lD (St.freeze ⟨ro,X⟩).ro E.Hb E.hole):=⟨aIM,bhB,lO,λx hx=>by rw[nS _ _ (aa6 x hx).2.2];exact bfW x hx,aeQ,sW,lV _ _ _,aSh⟩;have Gq:∀q y,(St.freeze ⟨ro,X⟩).ro q=some y->ro q=some y\/(q,y)∈X:=λq y hq=>by
  simp only[St.freeze] at hq;split at hq
  .rename_i z hz;obtain⟨h1,h2⟩:=abH hz;cases hq;subst h2;exact .inr h1
  exact .inl hq
 refine am2 (E:=E) (Fin:=Fin) (L0:=L) (v0:=v0) (s':=⟨lD (St.freeze ⟨ro,X⟩).ro E.Hb E.hole,[]⟩) rfl ⟨bfy,λe=>bfx e.symm,λe=>bfw e.symm⟩ aTI aTM aUn WX rfl (λq x hq=>?_) (λq o hq=>⟨uM _ (aIM _ _ hq),aa6 _ (aIM _ _ hq)⟩) ?_
 .by_cases e:q=E.Hb
  .subst e;simp only[lV,aB] at hq;exact .inl ⟨rfl,hq.symm⟩
  simp only[nS _ _ e] at hq;rcases Gq q x hq with h1|h1
  .refine .inr ⟨e,λe=>?_,λe=>?_,.inl h1⟩
   .subst e;have:=hw0.apart _ _ aTI;simp only at this;rw[this] at h1;cases h1
   subst e;have:=hw0.apart _ _ aTM;simp only at this;rw[this] at h1;cases h1
  exact .inr ⟨e,(aa6 _ h1).1,(aa6 _ h1).2.1,.inr (uM _ h1)⟩
 exact h L _ aSZ _ _ _ (G3 _ _ _ _) (ep.up lO)
def aOe{nw:Nat}{os:List ι}{a:Oper}{x:Operand}{k:List Item}{bs:List Nat}(h:TT (TG E Fin L Q 1 nw os 0) b k cs n D ro (stO a.dst (.tuple #[]) o))(ho:ops[0]?=some a) (hg:a.guard=none) (aX:a.op= .call ⟨.value (.func f),#[x,.const (.int .i64 1)],ats⟩) (hf:FF E.P f) (hk:b.kind≠ .early) (hr:b.roundOf=none) (vo:nw <E.max)
 (akt:zq E.P E.ty nw (Frame.enter E.P f #[.pointer (some ⟨E.Wg,0,none⟩),.int .i64 1] .normal)=some bs) (hbs:∀b∈bs,b=E.Wg) (hx:evO n x o=some (.pointer (some ⟨E.Wg,0,none⟩)):=by kernel_rfl):TT (TG E Fin L Q 0 nw os 0) b (.inRegion ops [0]::k) cs n D ro o:=by
 rintro e w kn rfl ep;have hT:Closed E.P true (TG E Fin L Q 0 nw os 0):=AO;have hT1:Closed E.P true (TG E Fin L Q 1 nw os 0):=AO;refine PK (rest:=[]) hT ho hg hk hr aX hf ?_;have sD:(#[x,.const (.int .i64 1)]:Array Operand).map (A n e D).eval= #[.pointer (some ⟨E.Wg,0,none⟩),.int .i64 1]:=by
  rw[mf];simp only[oT,bR,lR,cg hx];rfl
 rw[sD];refine afT (E:=E) akt hbs vo ?_;rw[ng,ho];simp only[oR];rw[dH];exact rY hT1 (h _ _ _ rfl ep)
def bbh{nw:Nat}{os:List ι}(ls:List ι){a:Oper}{ca:List Value}{k:List Item}(L1:Cells)(NI:(os++ls).length<=E.mxl)(ho:ops[i]?=some a) (hg:a.guard=none) (aX:a.op= .go ⟨.value y,#[],ats⟩) (hk:b.kind≠ .early) (hr:b.roundOf=none)
 (h:∀bU,Sub ro bU->Knows bU L1->gx E.P false (E.Stp ls) (born E.P {target:= .fn (.func f) ⟨ca⟩,args:= #[]}) ⟨bU,[]⟩/\TT (TG E Fin L Q 0 (nw+1) (os++ls) 0) b (.inRegion ops todo::k) cs n D bU (aaw (stO a.dst undef o)))
 (hy:evO n y o=some (.func (.func f) ⟨[]⟩ ⟨ca⟩):=by kernel_rfl) (hL:avH [] o=some L1:=by kernel_rfl):TT (TG E Fin L Q 1 nw os 0) b (.inRegion ops (i::todo)::k) cs n D ro o:=by
 rintro e w kn rfl ep;have hT1:Closed E.P true (TG E Fin L Q 1 nw os 0):=AO;refine Closed.ny hT1 rfl λyO=>?_;obtain⟨w0,hw0⟩:=yO;have kT:((den w).map (·.1)).Nodup:=hw0.nodup;have sW:∀q o,(q,o)∈den w->ro q=none:=hw0.apart;have lO:Sub ro (St.freeze ⟨ro,den w⟩).ro:=λq o hq=>St.Lf (s:=⟨ro,den w⟩) hq sW;have bfX:Knows (St.freeze ⟨ro,den w⟩).ro L1:=λx hx=>St.Le (s:=⟨ro,den w⟩) (by rcases x with ⟨q,o⟩;rw[Tq,aB] at hL;rw[<-hL,UI] at hx;exact hx) kT;obtain⟨h1,h2⟩:=h _ lO bfX;have dt:=λw'=>ayn (P:=E.P) (main:=true) (b:=b) (a:=A n e D) (k:=k) (cs:=cs) (rest:=todo) ho hg hk hr aX (by rw[mf];exact cg hy) w';have:=h2 _ _ _ (G3 _ _ _ _) (ep.up lO);rw[<-dH] at this;exact TG.mono (St.akC ⟨ro,den w⟩) (aiT (E:=E) (ls:=ls) (s:=St.freeze ⟨ro,den w⟩) rfl rfl rfl (λw' _=>dt w') h1 NI this)
def aEp{nw:Nat}{os:List ι}{a:Oper}{x:Operand}{k:List Item}{X:Cells}{xd cK:Nat->Option Obj}(hl:acp E L X xd cK)(fq:Sub cK ro)(kp:Closed E.P true (TL E.P fW (λ_=>none) (Jv E.os E.out) Q))
 (h:∀l v X1,l.Perm os->E.Gd l v X1->TT (TL E.P fW (λ_=>none) (Jv E.os E.out) Q) b k cs n D xd (bkO ((E.Hb,E.full v)::(X1++X)) (stO a.dst (.tuple #[]) (aaw o))))(ho:ops[0]?=some a) (hg:a.guard=none) (aX:a.op= .call ⟨.value (.func f),#[x],ats⟩) (hf:FF E.P f) (hk:b.kind≠ .early) (hr:b.roundOf=none)
 (ap8:∀(Fin:Goroutine->Prop) (c:Frame) (cs:List Frame),Fin (G (c.finish (.tuple #[])) cs)->(∀g g',g.status= .running->g'.status= .running->(∀w,stepG E.P true g w= .go g' w #[])->Fin g'->Fin g)->E.pw (E.Kd Fin) (G (Frame.enter E.P f #[.pointer (some ⟨E.Wg,0,none⟩)] .normal) (c::cs))) (hx:evO n x o=some (.pointer (some ⟨E.Wg,0,none⟩)):=by kernel_rfl):TT (TG E (agj E Q os (acb E xd X)) L Q 0 nw os 0) b (.inRegion ops [0]::k) cs n D ro o:=by
 rintro e w kn rfl ep;have hT:Closed E.P true (TG E (agj E Q os (acb E xd X)) L Q 0 nw os 0):=AO;refine PK (rest:=[]) hT ho hg hk hr aX hf ?_;have sD:(#[x]:Array Operand).map (A n e D).eval= #[.pointer (some ⟨E.Wg,0,none⟩)]:=by
  rw[mf];simp only[oT,bR,lR,cg hx]
 rw[sD];refine avn (hl.back fq)<|ap8 _ _ _ (λl v X1 hp WX=>?_) (λg g' h1 h2 dt hF l v X1 hp WX=>kp.go h1 h2 dt (hF l v X1 hp WX));rw[ng,ho];simp only[oR];rw[dH];refine rY kp ?_;have:=h l v X1 hp WX;rw[G3] at this;have:=this _ _ _ (ab7 _ _ _ _ _) (λx hx=>by cases hx);rw[lG] at this;simp only[den,e9] at this;exact this
end
def aQy(P:Program)(n:Nat)(p:Oper)(e:Env):Option (TypeId×List Value):=match p.op with
 | .makeSlice T x y=>match c9 P T with
  |some ⟨.slice E,_,_,_⟩=>match c9 P E with
   |some te=>match dv n e x,dv n e y with
    |some (.int .i64 a),some (.int .i64 b)=>bif (decide (a=1)&&decide (b=1))&&(Nat.beq te.size 1&&Nat.ble (rO P E) 65536) then some (E,te.zero) else none
    |_,_=>none
   |none=>none
  |_=>none
 |_=>none
def aRy{X:Cx}{z:Value}(hj:∀b,J X (r8 [] (.slice (some ⟨b,0,none⟩) 1 1) [(b,.cells ⟨[z]⟩ E (0,0))] o))(hv:iJ X.n (aQy X.P X.n) o=some (E,[z]):=by kernel_rfl)(hB:fV [] o=some []:=by kernel_rfl):J X o:=by
 refine jS (Φ:=λv L'=>∃b,v= .slice (some ⟨b,0,none⟩) 1 1/\L'=[(b,.cells ⟨[z]⟩ E (0,0))]) [] [] hv hB (λp e hf=>?_) (λv L' uK=>?_)
 .unfold aQy at hf;split at hf<;>try (cases hf;done)
  rename_i T x y aX;split at hf<;>try (cases hf;done)
  rename_i E' _ _ _ iy;split at hf<;>try (cases hf;done)
  rename_i te wH;split at hf<;>try (cases hf;done)
  rename_i a b hx hy;cases hc:((decide (a=1)&&decide (b=1))&&(Nat.beq te.size 1&&Nat.ble (rO X.P E') 65536)) with
  |false=>rw[hc] at hf;cases hf
  |true=>
   rw[hc] at hf;simp only[cG,aB,bL] at hf;obtain⟨rfl,hz⟩:=hf;simp only[av,aC,Nat.beq_eq,si] at hc;obtain⟨⟨rfl,rfl⟩,sO,hby⟩:=hc;obtain⟨byT,tf⟩:=bA iy;obtain⟨dP,og⟩:=bA wH;obtain⟨i,hi,hi1,Sb,hi3⟩:=og.info;have ako:dP<=65536:=by simp only[rO,hi] at hby;omega
   have ae7:¬((dP:Int)*1>2^48):=by omega
   have w2:IntKind.i64.wrap 1=1:=lJ 1 (by omega);have kp:(Sq [z] te.agg).cells=⟨[z]⟩:=by rw[<-hz];exact ij og
   have KV:((Array.range ((1:Int).toNat*1)).map λx=>(⟨[z]⟩:Array Value)[x % (⟨[z]⟩:Array Value).size]!)=⟨[z]⟩:=by apply Array.ext';simp[Nat.mod_one,List.range,List.range.loop]
   refine⟨by rw[aX];simp,λR Q E hQ=>?_⟩;simp only[execOp,aX,Instr.makeSlice,cg hx,cg hy,asInt,asIntOf,aI,db tf,aQ,qh hi,Sb,w2,ae7,show ¬((1:Int) <0) by omega,show ¬((1:Int)>1) by omega,decide_false,Bool.or_self,aW,cJ];refine uA ?_;simp only[aI,eE og,sO,show ¬((1:Int).toNat*1=0) by decide,cJ,oE og,aQ,hz,kp,KV,lT];intro b hb;exact hQ _ _ ⟨b,rfl,rfl⟩
 obtain⟨b,rfl,rfl⟩:=uK;exact hj b
def aOp(P:Program)(n:Nat)(p:Oper)(e:Env):Option (Nat×Nat×Int×Int×Nat×Nat):=match p.op with
 | .slice T x (some y) (some z) none=>match c9 P T with
  |some ⟨.array len E,_,_,_⟩=>match c9 P E with
   |some te=>match dv n e x with
    |some (.pointer (some ⟨b,off,none⟩))=>match dv n e y with
     |some (.int _ lo)=>match dv n e z with
      |some (.int _ hi)=>some (b,off,lo,hi,len,te.size)
      |_=>none
     |_=>none
    |_=>none
   |none=>none
  |_=>none
 |_=>none
def bd1{X:Cx}{len:Nat}(lo hi:Int)(hl:(0<=lo/\lo<=hi)/\hi<=len/\lo <len)(hj:J X (lX (.slice (some ⟨b,off+lo.toNat*sz,none⟩) (hi.toNat-lo.toNat) (len-lo.toNat)) o))(hv:fp X.n (aOp X.P X.n) o=some (b,off,lo,hi,len,sz):=by kernel_rfl):J X o:=by
 refine jG hv (λs p e ho hh hf=>?_) hj;unfold aOp at hf;split at hf<;>try (cases hf;done)
 rename_i T x y z aX;split at hf<;>try (cases hf;done)
 rename_i ajQ E _ _ _ iy;split at hf<;>try (cases hf;done)
 rename_i te wH;split at hf<;>try (cases hf;done)
 rename_i b' aoM hx;split at hf<;>try (cases hf;done)
 rename_i ik lo' hy;split at hf<;>try (cases hf;done)
 rename_i ik2 MN hz;simp only[aB,bL] at hf;obtain⟨rfl,rfl,rfl,rfl,rfl,rfl⟩:=hf;obtain⟨dP,tf⟩:=bA iy;obtain⟨Db,tT⟩:=bA wH;have key:∀s,Yields X.P X.n e p s (.slice (some ⟨b',aoM+lo'.toNat*te.size,none⟩) (MN.toNat-lo'.toNat) (ajQ-lo'.toNat)):=by
  intro s s' pg f hf K E hK;have h1:0<=MN/\MN<=(ajQ:Int):=by omega
  have h2:0<=lo'/\lo'<=(MN.toNat:Int):=by omega
  have h3:¬ajQ=lo'.toNat:=by omega
  simp only[execOp,aX,dD,lQ,Instr.sliceAt,Instr.sliceBounds,Instr.sliceBound,Instr.sureAddr,hf _ _ hx,hf _ _ hy,hf _ _ hz,asIntOf,aI,aQ,db tf,Option.isSome_none,aW,cJ,h1,h2,h3,Tb,dF,eE tT,ir];exact hK
 exact⟨by rw[aX];rfl,λ_=>key _,λ_=>key⟩
open Go.Proofs
theorem vo:Tryz.prog.follows .mixedOrders=true:=by rfl
abbrev pV(b:Nat):Value:= .pointer (some ⟨b,0,none⟩)
def XJ(o:Oper):Array TypeId:=match o.op with
 | .call c=>c.argTypes
 | .go c=>c.argTypes
 | .defer c=>c.argTypes
 |_=> #[]
noncomputable def pM(f i:Nat):Array Oper:=fP (codeOf Tryz.prog f) i
noncomputable def ay2(f i:Nat):Code:=((codeOf Tryz.prog f)[i]?).getD .skip
noncomputable def Jh(f:Nat):Code:=(((Tryz.prog.funcs[f]?).getD default).body).getD .skip
def N9{k W:Nat}:∀b∈List.replicate k W,b=W:=by simp
structure cz where
 (a b c d:Int)
deriving DecidableEq
def cz.at(x:cz):Nat->Int
 |0=>x.a
 |1=>x.b
 |2=>x.c
 |_=>x.d
def jH(x:cz):List Value:=[.int .i64 x.a,.int .i64 x.b,.int .i64 x.c,.int .i64 x.d]
def vD{x:cz}{k:Nat}(h:k <4):nth (jH x) (0+((k:Int)).toNat*1)=some (.int .i64 (x.at k)):=by
 rcases k with _|_|_|_|k<;>first|rfl|omega
def GU(x:cz)(D S:Int):Nat->List Nat->Bool
 |_,[]=>true
 |f,d::ds=>bif decide ((d:Int) <D)&&decide (x.at d=x.at f) then GU x D S f ds else
  bif (!decide (x.at f= -1)&&decide ((f:Int)>0))&&decide ((d:Int) <D)&&decide ((d:Int)-f <S) then false else GU x D S d ds
def awc(x:cz)(D S:Int):Bool:=GU x D S 0 (List.range' 1 D.toNat)
theorem ZG{x:cz}{k f:Nat}(h:(k:Int)<=D)(hn:n=D.toNat+1-k):GU x D S f (List.range' k n)=(bif decide ((k:Int) <D)&&decide (x.at k=x.at f) then GU x D S f (List.range' (k+1) (D.toNat+1-(k+1))) else
 bif (!decide (x.at f= -1)&&decide ((f:Int)>0))&&decide ((k:Int) <D)&&decide ((k:Int)-f <S) then false else GU x D S k (List.range' (k+1) (D.toNat+1-(k+1)))):=by
 obtain⟨m,rfl⟩:∃m,n=m+1:=⟨n-1,by omega⟩
 grind [List.range'_succ,GU]
theorem aom{x:cz}{k f:Nat}(h:(k:Int)<=D)(hc:(k:Int) <D/\x.at k=x.at f):GU x D S f (List.range' k (D.toNat+1-k))=GU x D S f (List.range' (k+1) (D.toNat+1-(k+1))):=by
 rw[ZG h rfl,show (decide _&&decide _)=true by grind];rfl
theorem ag0{x:cz}{k f:Nat}(h:(k:Int)<=D)(hc:¬((k:Int) <D/\x.at k=x.at f)):GU x D S f (List.range' k (D.toNat+1-k))=
 bif (!decide (x.at f= -1)&&decide ((f:Int)>0))&&decide ((k:Int) <D)&&decide ((k:Int)-f <S) then false else GU x D S k (List.range' (k+1) (D.toNat+1-(k+1))):=by
 rw[ZG h rfl,show (decide _&&decide _)=false by grind];rfl
theorem aon{x:cz}{k f:Nat}(h:(k:Int)<=D)(hc:¬((k:Int) <D/\x.at k=x.at f))(h7:((¬x.at f= -1/\(f:Int)>0)/\(k:Int) <D)/\(k:Int)-f <S):GU x D S f (List.range' k (D.toNat+1-k))=false:=by
 grind [ag0,cN,cX]
theorem aoo{x:cz}{k f:Nat}(h:(k:Int)<=D)(hc:¬((k:Int) <D/\x.at k=x.at f))(h7:¬(((¬x.at f= -1/\(f:Int)>0)/\(k:Int) <D)/\(k:Int)-f <S)):GU x D S f (List.range' k (D.toNat+1-k))=GU x D S k (List.range' (k+1) (D.toNat+1-(k+1))):=by
 grind [ag0]
structure kg where
 (a0 a1 a2 a3 a4 a7 LJ:Value)
 (D S:Int)
 (ha:Option Addr)
 (H iK:Nat)
def kg.cells(W:kg)(v:Value):List Value:=[W.a0,W.a1,W.a2,W.a3,W.a4,.int .i64 W.D,.int .i64 W.S,W.a7,.slice W.ha W.H W.iK,v,W.LJ]
noncomputable def fB(M:ES Tryz.prog 234 4)(Wg Mu Hb:Nat)(W:kg)(mS:Os)(fE:Array (Nat×ByteArray)):fY cz:=
 ⟨Tryz.prog,240,234,Wg,Mu,Hb,4,5000,⟨W.cells (.slice none 0 0)⟩,113,mS,fE,λl v X=>bI v 4 120 jH l X,M,by decide⟩
structure RL(M:ES Tryz.prog 234 4):Prop where
 lock:∀Mu k cs,∃n,Pure Tryz.prog false (qx 234 Mu) (M.At Mu (.ld k) cs) n (G (Frame.enter Tryz.prog 146 #[pV Mu] .normal) cs)
 unlock:∀Mu k cs,∃n,Pure Tryz.prog false (qx 234 Mu) (M.At Mu (.ui k) cs) n (G (Frame.enter Tryz.prog 147 #[pV Mu] .deferred) cs)
section
variable {M:ES Tryz.prog 234 4} {Wg Mu Hb:Nat} {W:kg} {mS:Os} {fE:Array (Nat×ByteArray)}
theorem afp:(fB M Wg Mu Hb W mS fE).hole= .pending ⟨W.cells (.slice none 0 0)⟩ 113:=rfl
end
def ayE:nZ [Jh 145]=[.region 0 (pM 145 0) false,.region 1 (pM 145 1) false,.region 2 (pM 145 2) false,ay2 145 3]:=by rfl
section
variable {M:ES Tryz.prog 234 4} {Wg Mu Hb:Nat} {W:kg} {mS:Os} {fE:Array (Nat×ByteArray)}
theorem bdP(hM:RL M){x:cz}{os:List cz}{L:Cells}
 (h1:ro b1=some (.cells ⟨[pV Hb]⟩ 103 (0,0)))(hH:ro Hb=some (.pending ⟨W.cells (.slice none 0 0)⟩ 113))
 (hk:gx Tryz.prog false ((fB M Wg Mu Hb W mS fE).Stp os) (G (cl.finish (.tuple #[])) NT) ⟨ro,L⟩):
 gx Tryz.prog false ((fB M Wg Mu Hb W mS fE).Stp (x::os)) (G (Frame.enter Tryz.prog 145 ⟨[.agg ⟨jH x⟩,pV Mu,pV b1]⟩ .normal) (cl::NT)) ⟨ro,L⟩:=by
 have hT:=fJ Tryz.prog false ((fB M Wg Mu Hb W mS fE).Stp (x::os))
 have eA:b1≠Hb:=fun e=>by subst e;rw[h1] at hH;cases hH
 refine Vo (fn:=(Tryz.prog.funcs[145]?).getD default) (c:=Jh 145) (n:=15) (by kernel_rfl) (by kernel_rfl) (by kernel_rfl) (by rfl)<|tV hT ayE fun l1 hl1=>?_
 refine DC vo hT<|jn fun b3=>jd 1 []<|BG<|tV hT hl1 fun l2 ID=>?_
 show TT _ _ (.inRegion (pM 145 1) [0]::_) _ _ _ _ _
 refine aN9 (E:=fB M Wg Mu Hb W mS fE) (a:=ez (pM 145 1) 0) (f:=146) (x:= .tmp 1) (ats:=XJ (ez (pM 145 1) 0)) (by kernel_rfl) (by kernel_rfl) (by kernel_rfl) (n5 (by kernel_rfl)) (by decide) rfl (fun cs=>hM.lock Mu _ cs) hH (fun l v X kS NI=>?_)
 have kS:bI v 4 120 jH l X:=kS
 have NI:l.length <5000:=NI
 have hT2:=sZ (E:=fB M Wg Mu Hb W mS fE) (l++[x]) ((fB M Wg Mu Hb W mS fE).Unl ((fB M Wg Mu Hb W mS fE).Stp os) os.length)
 have g1:lD ro Hb ((fB M Wg Mu Hb W mS fE).full v) b1=some (.cells ⟨[pV Hb]⟩ 103 (0,0)):=by rw[nS _ _ eA];exact h1
 have gH:lD ro Hb ((fB M Wg Mu Hb W mS fE).full v) Hb=some (.cells ⟨W.cells v⟩ 113 (0,0)):=by rw[lV];rfl
 refine tV hT2 ID fun l3 hl3=>?_
 show TT _ _ (.inRegion (pM 145 2) [0]::_) _ _ _ _ _
 refine am6 hT2 (a:=ez (pM 145 2) 0) (f:=147) (xs:= #[.tmp 1]) (vs:=[pV Mu]) (ats:=XJ (ez (pM 145 2) 0)) (by kernel_rfl) (by kernel_rfl) (by kernel_rfl) (by decide) rfl<|Y6 hT2 hl3 fun l4 hl4=>?_
 have:=px hl4
 subst this
 refine am7 vo hT2<|jd 1 []<|jl (b:=b1) (off:=0) (m:=1) (vs:=[pV Hb]) 0 ⟨_,_,_,.inl g1,rfl⟩<|jl (b:=b1) (off:=0) (m:=1) (vs:=[pV Hb]) 0 ⟨_,_,_,.inl g1,rfl⟩<|jd 2 []<|jl (b:=Hb) (off:=0) (m:=11) (vs:=W.cells v) 9 ⟨_,_,_,.inl gH,rfl⟩<|jd 1 [1]<|bX 6 fun z6 t6 KX=>jn fun b22=>eH KX [1,2,3]<|bX 7 fun z7 t7 KW=>aRA jH b22 x 1 0 kS rfl rfl (by omega) fun va vc L23 Wv=>ee KW [[],[]]<|jd 2 []<|bX 10 fun z10 t10 Hm=>jhs (E:=fB M Wg Mu Hb W mS fE) rfl (fun m T' h=>h) rfl (by kernel_rfl) Hm [0] (v:= .slice va (l++[x]).length vc) (Y:=L23) (c:=W.cells v) gH (by show 9 <11;omega) rfl ?_ Wv rfl rfl ?_ (by kernel_rfl) (by kernel_rfl) (by kernel_rfl)
 ·intro j hj
  have hj:j≠9:=hj
  show (W.cells v)[j]?=(⟨W.cells (.slice none 0 0)⟩:Array Value)[j]?
  match j,hj with
  |0,_|1,_|2,_|3,_|4,_|5,_|6,_|7,_|8,_|10,_=>rfl
  |j+11,_=>rfl
 refine jd 1 []<|aOc<|avr (E:=fB M Wg Mu Hb W mS fE) (fn:=(Tryz.prog.funcs[145]?).getD default) (by kernel_rfl) (by kernel_rfl) (by kernel_rfl) (fun cs=>hM.unlock Mu _ cs) (lV _ _ _) [2] (Y:=L) ?_
 show gx _ _ _ _ ⟨lD (lD ro Hb _) Hb _,_⟩
 have qX:lD (lD ro Hb ((fB M Wg Mu Hb W mS fE).full v)) Hb (.pending ⟨W.cells (.slice none 0 0)⟩ 113)=ro:=funext fun q=>by
  by_cases e:q=Hb
  ·subst e;rw[lV,hH]
  rw[nS _ _ e,nS _ _ e]
 rw[afp]
 erw [qX]
 exact hk
end
section
variable {P:Program} {main:Bool} {T T':Goroutine->St->Prop} {b:Frame} {a:Act} {k:List Item} {cs:List Frame} {ops:Array Oper} {s:St}
def ajC(hT:Closed P main T){rest:List Nat}{o:Oper}(ho:ops[i]?=some o) (hg:o.guard=none) (hk:b.kind≠ .early) (hb:b.roundOf=none) {fi:Array Value} {xs:Array Operand} (aX:o.op= .call ⟨.value y,xs,ats⟩) (hy:a.eval y= .func (.func f) fi ca) (hf:FF P f)
 (h:T (G (Frame.enter P f (fi++xs.map a.eval++ca) .normal) (dJ b a (.inRegion ops (i::rest)::k)::cs)) s):T (G (dJ b a (.inRegion ops (i::rest)::k)) cs) s:=by
 have mA:(b.kind==CallKind.early)=false:=by simpa using hk
 have hw:Region.wanted o (yielded ops a.tmps)=true:=jM o _ hg;have B4:eN P (execOp a.eval o) s (λnx s'=>nx= .enter f (fi++xs.map a.eval++ca)/\s'=s) (λ_ _=>False):=by
  simp only[execOp,aX,resolve,hy,Deferred.ofValue,aI,aQ,invoke];exact oF hf ⟨rfl,rfl⟩
 have lE:∀w,stepG P main (G (dJ b a (.inRegion ops (i::rest)::k)) cs) w=stepG.apply P true (dJ b a (.inRegion ops (i::rest)::k)) cs none (execOp a.eval o) w:=by
  intro w;have he:=uX b a (.inRegion ops (i::rest)::k);simp only[dJ] at he;simp only[G,stepG,stepG.exec,dJ,ho,dD,wP,hw,dF,stepG.oper,Frame.oper?,he];rw[hb]
 refine hT.step _ _ rfl λw yO=>?_;obtain⟨r,es,hr,hl⟩:=lK _ _ _ _ w #[] B4 yO;rw[dA] at hr;have sW:=lE w;simp only[stepG.apply,dF,hr] at sW;simp only[dJ,mA,aW,cJ] at sW;cases r with
 |ok nx w'=>
  obtain⟨s',ht,rfl,rfl⟩:=hl;simp only[GStep.after,bV] at sW;exact⟨_,_,_,_,sW,rfl,ht.sub (mJ P b.fn es),h⟩
 |halt hh w'=>
  obtain⟨s',ht,hu⟩:=hl;exact hu.elim
end
section
variable {P:Program} {main:Bool} {T T':Goroutine->St->Prop} {b:Frame} {k:List Item} {cs:List Frame} {n:Nat} {D:List Deferred} {ro:Nat->Option Obj} {o:Option JS} {ops:Array Oper}
def adj(hT:Closed P main T){rest:List Nat}{a:Oper}{fi ca ws:List Value}{xs:Array Operand}(vs:List Value)(ho:ops[i]?=some a) (hg:a.guard=none) (aX:a.op= .call ⟨.value y,xs,ats⟩) (hf:FF P f) (hk:b.kind≠ .early) (hr:b.roundOf=none)
 (fA:∀cl L,T' (G (cl.finish (.tuple #[])) cs) ⟨ro,L⟩->T (G (Frame.enter P f ⟨vs⟩ .normal) (cl::cs)) ⟨ro,L⟩)
 (h:TT T' b (.inRegion ops rest::k) cs n D ro (stO a.dst (.tuple #[]) o))
 (hy:evO n y o=some (.func (.func f) ⟨fi⟩ ⟨ca⟩):=by kernel_rfl) (hx:aUU n xs.toList o=some ws:=by kernel_rfl) (hvs:fi++ws++ca=vs:=by rfl):TT T b (.inRegion ops (i::rest)::k) cs n D ro o:=by
 rintro e w kn rfl ep;refine ajC hT ho hg hk hr aX (by rw[mf];exact cg hy) hf ?_;have e2:xs.map (A n e D).eval=⟨ws⟩:=by rw[mf];exact yy hx
 have e3:(⟨fi⟩:Array Value)++xs.map (A n e D).eval++⟨ca⟩=⟨vs⟩:=by rw[e2,<-hvs];simp
 rw[e3];refine fA _ _ ?_;rw[ng,ho];rw[dH];exact h _ _ _ rfl ep
def aOa(hT:Closed P main T){q:Nat}{a:Oper}{x:Operand}{U:TypeId}(v:Value)(ho:ops[i]?=some a) (hg:a.guard=none) (aX:a.op= .load U x) (hl:ldv P U l 0=some v) (hk:b.kind≠ .early) (hr:b.roundOf=none) (ps:List Nat) (t:TypeId)
 (h:TT T b (.inRegion ops todo::k) cs n D ro (stO a.dst v o)) (hx:evO n x o=some (.pointer (some ⟨q,0,none⟩)):=by kernel_rfl) (hd:fV ps o=some [(q,.cells ⟨l⟩ t (0,0))]:=by kernel_rfl):TT T b (.inRegion ops (i::todo)::k) cs n D ro o:=by
 rintro e w kn rfl ep;have hb:(⟨ro,den w⟩:St).has q _:= .inr ((dS hd).mem_iff.2 (cZ _ (aU.2 rfl)));refine DU hT ho (jM _ _ hg) hk hr ?_;rw[mf];refine aer aX hx hb hl _ (Ext.refl _) _ (λ_ _ h=>cg h) _ _ ⟨v,rfl,?_⟩;rw[dH];exact h _ _ _ rfl ep
theorem aOb(hT:Closed P main T)(ps:List Nat)(Y:Cells)(hf:P.funcs[f]?=some fn) (FU:fn.results= #[])
 (hk:T (G (cl.finish (.tuple #[])) NT) ⟨ro,Y⟩) (h3:fV ps o=some Y:=by kernel_rfl):TT T (Xc f .normal) [] (cl::NT) n [] ro o:=by
 rintro e w kn rfl ep;have hp:=dS h3;refine hT.go rfl rfl (g':=G {dJ (Xc f .normal) (A n e []) [] with mode:= .returning} (cl::NT)) (λw=>by simp[G,stepG,stepG.exec,dJ,Xc])<|xU (C:=CA P) (λ_ _ h=>h) (T:=T) hT hf rfl rfl rfl rfl (R:=λen s'=>en= .returned (.tuple #[])/\s'=⟨ro,Y⟩) ?_ (λv s' hv=>?_)
 .have h1:∀tm,results fn tm=Sem.pure (.tuple #[]):=by intro tm;simp[results,FU];rfl
  rw[h1];exact⟨⟨ro,Y⟩,gM hp (Sub.refl _),rfl,rfl⟩
 grind
end
def bD:Tryz.prog.follows .mixedOrders=true:=by kernel_rfl
theorem zB:(∀a b:Bool,((a&&b)=true)=(a=true/\b=true))/\(∀a b:Bool,((a||b)=true)=(a=true\/b=true))/\(∀a b:Bool,((a&&b)=false)=(a=false\/b=false))/\(∀a b:Bool,((a||b)=false)=(a=false/\b=false))/\(∀b:Bool,((!b)=true)=(b=false))/\(∀b:Bool,((!b)=false)=(b=true))/\(∀(p:Prop) [Decidable p],(decide p=true)=p)/\(∀(p:Prop) [Decidable p],(decide p=false)=¬p)/\((¬True)=False)/\(∀p:Prop,(p\/False)=p)/\(∀p:Prop,(False\/p)=p):=
 ⟨av,aF,by simp,by simp,by simp,by simp,by simp,by simp,by simp,by simp,by simp⟩
@[reducible] noncomputable def zT:Program:=Tryz.prog
abbrev zS:Value:= .slice none 0 0
abbrev zP(b:Nat):Value:= .pointer (some ⟨b,0,none⟩)
abbrev zI(n:Int):Value:= .int .i64 n
abbrev zU(n:Int):Value:= .int .u64 n
abbrev zO:List Value:=[zS,zS,zS,zS,zS,zS,zS,zS,zI 0,zI 0,zI 0,zS]
theorem zG(l:List α)(k:Nat)(h:k <l.length:=by first|omega| (simp only[aM];omega)):∃x,l[k]?=some x:=⟨_,ai h⟩
def zJ{X:Cx}(t:Nat)(p:Prop)[Decidable p](h1:p->J X (Su t (.bool true) o))(h2:¬p->J X (Su t (.bool false) o))(hv:O1 t o=some (.bool (decide p)):=by kernel_rfl):J X o:=
 js t (decide p) (λh=>h1 (ah h)) (λh=>h2 (af h)) hv
def zD{X:Cx}(k:Nat)(h:J X (res (adv X.P X.n k [] o)))(he:lhs (adv X.P X.n k [] o)=rhs (adv X.P X.n k [] o):=by kernel_rfl):J X o:=jd k [] h he
theorem zL{l:List α}{a:α}(h:l[i]?=some a):a∈l:=aj h
def zR{P:Program}{hm:P.follows .mixedOrders=true}{Φ:Value->Cells->Prop}(v:Value)(hs ps:List Nat)(Y:Cells)(hR:Φ v Y)(h1:yY (nG P (yx P f).ntmps f hs o)=some v:=by kernel_rfl)(h2:Yx (nG P (yx P f).ntmps f hs o)=Yw (nG P (yx P f).ntmps f hs o):=by kernel_rfl)(h3:fV ps o=some Y:=by kernel_rfl)(h4:Hr o=true:=by kernel_rfl):J (X0 P hm f ro (RX ro Φ)) o:=
 cd q0 v hs ps Y (Sub.refl _) ⟨_,_,rfl,rfl,hR⟩ h1 h2 h3 h4
theorem zX{P:Program}{hm:P.follows .mixedOrders=true}{Φ:Value->Cells->Prop}(v:Value)(hR:Φ v [])(h1:yY (nG P (yx P f).ntmps f [] o)=some v:=by kernel_rfl)(h2:Yx (nG P (yx P f).ntmps f [] o)=Yw (nG P (yx P f).ntmps f [] o):=by kernel_rfl)(h3:fV [] o=some []:=by kernel_rfl)(h4:Hr o=true:=by kernel_rfl):J (X0 P hm f ro (RX ro Φ)) o:=
 zR v [] [] [] hR h1 h2 h3 h4
def zE{Φ:Value->Cells->Prop}(h:J (X0 Tryz.prog bD f ro (RX ro Φ)) (pJ Tryz.prog f args [] [])):eT Tryz.prog f args ro [] Φ:=dB bD [] [] de h
def zC{Φ:Value->Cells->Prop}{L:Cells}(own:List Sg)(h:J (X0 Tryz.prog bD f ro (RX ro Φ)) (pJ Tryz.prog f args own []))(hL:den own=L:=by rfl):eT Tryz.prog f args ro L Φ:=dB bD own [] de h hL
@[reducible] def zN(a k:Nat):List Nat:=List.range' a k
theorem zM:(∀l m:List α,(l++m).length=l.length+m.length)/\(∀(a:α) (l:List α),(a::l).length=l.length+1)/\([]:List α).length=0:=⟨λ_ _=>aL,λ_ _=>rfl,rfl⟩
def zK{X:Cx}{m:Nat}{e:Env}(h:∀o',w5 0 [] o'=w5 m [] o->tj (ql e) o'=some e->J X o')(h1:w5 0 [] o'=w5 m [] o:=by kernel_rfl)(h2:tj (ql e) o'=some e:=by kernel_rfl):J X o':=h o' h1 h2
def zY{X:Cx}{K:Act->St->Prop}{ef:ι->Env}{wf:ι->List Sg}{Inv:ι->Prop}{μ:ι->Nat}{m:Nat}(hK:yE X K ef wf Inv μ m)(j:ι)(h:Inv j)(ps:List Nat)(hm:μ j <m:=by first|omega| (dsimp only;omega))
 (h0:VV o=some K:=by kernel_rfl)(h1:tj (ql (ef j)) o=some (ef j):=by kernel_rfl)(h2:wT ps o=some (wf j):=by kernel_rfl):J X o:=dX hK j h hm ps (Sub.refl _) h0 h1 h2
def zF{X:Cx}{K:Act->St->Prop}{ef:ι->Env}{wf:ι->List Sg}{A B:ι->Prop}{μ:ι->Nat}{m:Nat}(hK:yE X K ef wf (λj=>A j/\B j) μ m)(j:ι)(h:B j)(ps:List Nat)(h9:A j:=by dsimp only;omega)(hm:μ j <m:=by first|omega| (dsimp only;omega))
 (h0:VV o=some K:=by kernel_rfl)(h1:tj (ql (ef j)) o=some (ef j):=by kernel_rfl)(h2:wT ps o=some (wf j):=by kernel_rfl):J X o:=dX hK j ⟨h9,h⟩ hm ps (Sub.refl _) h0 h1 h2
theorem zH{X:Cx}{v:Value}{szo:Nat}{T2:TypeId}{enc:α->List Value}{ps:List α}{L:Cells}{x:α}(ix:Int)(sz:Nat)(kS:bI v szo T2 enc ps L)(hx:ps[ix.toNat]?=some x) (hj:∀b,Ta v b->J X (lX (.pointer (some ⟨b,ix.toNat*sz,none⟩)) o)) (he:ix=(ix.toNat:Int):=by first|omega| (simp only[aM] at*;omega)) (hv:fp X.n (ixA X.P X.n) o=some (v,ix,sz):=by kernel_rfl):J X o:=Iw ix sz kS hx he hj hv
def zV{X:Cx}{K:Act->St->Prop}{ef:ι->Env}{wf:ι->List Sg}{Inv:ι->Prop}{μ:ι->Nat}{m:Nat}(hK:yE X K ef wf Inv μ m)(j:ι)(h:Inv j)(ps:List (List Nat))(hm:μ j <m:=by first|omega| (dsimp only;omega))
 (h0:VV o=some K:=by kernel_rfl)(h1:tj (ql (ef j)) o=some (ef j):=by kernel_rfl)(h2:gO ps o=some (adB (wf j)):=by kernel_rfl):J X o:=B0 hK j h hm ps (Sub.refl _) h0 h1 h2
def zW{X:Cx}(r:Int)(hj:J X (lX (.int .i64 r) o))(h: -9223372036854775808<=r/\r<=9223372036854775807:=by omega)(hv:fp X.n (avc X.P X.n) o=some (.int .i64 (IntKind.i64.wrap r)):=by kernel_rfl):J X o:=ja r h hj hv
def zxq{X:Cx}(enc:α->List Value){qs:List α}{a:Option Addr}{o':Nat}(e E i c:Nat)(ha:∀k,k <qs.length->a=some ⟨b,o',none⟩)(hl:∀(i:Nat) (p:α),qs[i]?=some p->eW ⟨X.ro,[]⟩ b (o'+i*sz) sz (enc p)) (hj:∀a' c' L',bI (.slice a' qs.length c') sz E enc qs L'->J X (SE [i] (.slice a' qs.length c') L' o))
 (hb:qs.length<=1048576:=by first|omega| (simp<;>omega)) (hq:∀p∈qs,∀c∈enc p,single c=true:=by exact λp _=>aG rfl) (hv:iJ X.n (apV X.P X.n) o=some (.slice (some ⟨e,0,none⟩) 0 0,.slice a qs.length c,E,sz):=by kernel_rfl) (h2:fV [i] o=some [(e,.cells ⟨[]⟩ E (0,0))]:=by kernel_rfl) (h3:fV [] o=some []:=by kernel_rfl):J X o:=
 gB (ps:=[]) [i] [] [] bC (λ_ he _=>⟨a,b,o',c,rfl,ha,λi p hp=>(hl i p hp).ext he⟩) hq (by simpa using hb) (λv L h=>by rw[aY] at h;obtain⟨a',c',rfl⟩:=h.form;exact hj a' c' L h) hv h2 h3
def zxk{X:Cx}{v:Value}{E:Nat}(enc:α->List Value){ps qs:List α}{L:Cells}{a:Option Addr}{o':Nat}(i c:Nat)(kS:bI v sz E enc ps L)(ha:∀k,k <qs.length->a=some ⟨b,o',none⟩)(hl:∀(i:Nat) (p:α),qs[i]?=some p->eW ⟨X.ro,[]⟩ b (o'+i*sz) sz (enc p)) (hj:∀a' c' L',bI (.slice a' (ps++qs).length c') sz E enc (ps++qs) L'->J X (SE [i] (.slice a' (ps++qs).length c') L' o))
 (hb:ps.length+qs.length<=1048576:=by first|omega| (simp<;>omega)) (hq:∀p∈qs,∀c∈enc p,single c=true:=by exact λp _=>aG rfl) (hv:iJ X.n (apV X.P X.n) o=some (v,.slice a qs.length c,E,sz):=by kernel_rfl) (h2:fV [i] o=some L:=by kernel_rfl) (h3:fV [] o=some []:=by kernel_rfl):J X o:=
 gB [i] [] [] kS (λ_ he _=>⟨a,b,o',c,rfl,ha,λi p hp=>(hl i p hp).ext he⟩) hq hb (λv L h=>by obtain⟨a',c',rfl⟩:=h.form;exact hj a' c' L h) hv h2 h3
def zxl{X:Cx}{v:Value}(enc:α->List Value){ps:List α}{L:Cells}(b:Nat)(x:α)(i j:Nat)(kS:bI v sz E enc ps L)(hj:∀a c L',bI (.slice a (ps++[x]).length c) sz E enc (ps++[x]) L'->J X (SE [i] (.slice a (ps++[x]).length c) L' o))
 (hb:ps.length+[x].length<=1048576:=by first|omega| (simp<;>omega))(hl:(enc x).length=sz:=by rfl)(hs:(enc x).all single=true:=by rfl)(hv:iJ X.n (apV X.P X.n) o=some (v,.slice (some ⟨b,0,none⟩) 1 1,E,sz):=by kernel_rfl)(h2:fV [i] o=some L:=by kernel_rfl)(h3:fV [j] o=some [(b,.cells ⟨([x].map enc).flatten⟩ E (0,0))]:=by kernel_rfl):J X o:=
 aRA enc b x i j kS hl hs hb hj hv h2 h3
def zxs{X:Cx}{a:Option Addr}(ps:List α)(k cap sz:Nat)(ha:∀k,k <ps.length->a=some ⟨b,off,none⟩)(hj:∀x,ps[k]?=some x->J X (lX (.pointer (some ⟨b,off+k*sz,none⟩)) o)) (hk:k <ps.length:=by first|omega| (simp only[aM];omega)) (hv:fp X.n (ixA X.P X.n) o=some (.slice a ps.length cap,(k:Int),sz):=by kernel_rfl):J X o:=
 jK cap sz ha (ai hk) (hj _ (ai hk)) hv
def zxt{X:Cx}{a:Option Addr}{enc:α->List Value}(ps:List α)(k cap sz:Nat)(ha:∀k,k <ps.length->a=some ⟨b,off,none⟩)(hl:∀(i:Nat) (p:α),ps[i]?=some p->eW ⟨X.ro,[]⟩ b (off+i*sz) sz (enc p)) (hj:∀x,ps[k]?=some x->J X (Kj [] (ldW X.P X.n 0 (enc x) (lX (.pointer (some ⟨b,off+k*sz,none⟩)) o)) (lX (.pointer (some ⟨b,off+k*sz,none⟩)) o))) (hk:k <ps.length:=by first|omega| (simp only[aM];omega))
 (hv:fp X.n (ixA X.P X.n) o=some (.slice a ps.length cap,(k:Int),sz):=by kernel_rfl) (h2:∀x:α,fp X.n (ldA X.P X.n 0 (enc x)) (lX (.pointer (some ⟨b,off+k*sz,none⟩)) o)=some (some ⟨b,off+k*sz+0,none⟩):=by intro _;kernel_rfl):J X o:=
 zxs ps k cap sz ha (λx hx=>jl 0 (hl _ _ hx) (hj x hx) (h2 x)) hk hv
def zya{p:Bool}(h:p=true):Value.bool q= .bool (p&&q):=by rw[h];rfl
def zyb{p:Bool}(h:p=false):Value.bool false= .bool (p&&q):=by rw[h];rfl
def zyc{p:Bool}(h:p=true):Value.bool true= .bool (p||q):=by rw[h];rfl
def zyd{p:Bool}(h:p=false):Value.bool q= .bool (p||q):=by rw[h];rfl
def zxw{X:Cx}{m:Nat}{e:Env}{w:Value}(t:Nat)(hj:∀o',w5 0 [] o'=w5 m [] o->tj (ql e) o'=some e->J X o')(h:w=(mP e t).getD undef)(hv:O1 t o'=some w:=by kernel_rfl)(h1:w5 0 [] (Su t ((mP e t).getD undef) o')=w5 m [] o:=by kernel_rfl)(h2:tj (ql e) (Su t ((mP e t).getD undef) o')=some e:=by kernel_rfl):J X o':=jw t _ h (hj _ h1 h2) hv
@[reducible] def zxc(b T:Nat)(l:List Value):Sg:= .b b (.cells ⟨l⟩ T (0,0))
def zxp{X:Cx}{V:Value}(vs:List Value)(hf:∀ {cK:Nat->Option Obj},Sub X.ro cK->iI X.P f vs cK V)(hj:J X (Kj [] V o))(h1:fp X.n (zt X.P X.n) o=some (f,vs):=by kernel_rfl)(h3:fV [] o=some []:=by kernel_rfl):J X o:=jp [] [] (λ_ hs _=>hf hs) hj h1 h3
def zxr{X:Cx}{V:Value}(hf:∀ {cK:Nat->Option Obj},Sub X.ro cK->iI X.P f vs cK V)(hj:J X (Kj [] V o))(h1:fp X.n (zt X.P X.n) o=some (f,vs):=by kernel_rfl)(h3:fV [] o=some []:=by kernel_rfl):J X o:=jp [] [] (λ_ hs _=>hf hs) hj h1 h3
def zxo{X:Cx}(i:Nat)(h:∀ {rest:Env} {todo:List Nat},LK X i o rest todo->J X (ajL i rest todo o))(hb:aau [i] o=true:=by kernel_rfl):J X o:=bX i (λ_ _=>h) hb
def pE(n lo hi:Int):Bool:=decide (lo<=n)&&decide (n<=hi)
def bM(p:α->Bool):List α->Nat->Int
 | [],_=> -1
 |x::l,k=>bif p x then k else bM p l (k+1)
theorem lB{l:List α}{k:Nat}{x:α}(h:l[k]?=some x):l.drop k=x::l.drop (k+1):=by
 grind [aA,gN]
theorem py{l:List α}{k:Nat}(h:¬k <l.length):l.drop k=[]:=by simp_all
theorem pZ{p:α->Bool}{l:List α}{k:Nat}{x:α}(h:l[k]?=some x):bM p (l.drop k) k=bif p x then (k:Int) else bM p (l.drop (k+1)) (k+1):=by rw[lB h];rfl
theorem Bj{p:α->Bool}{l:List α}{k:Nat}(h:¬k <l.length):bM p (l.drop k) k= -1:=by rw[py h];rfl
abbrev eC(x:Int):List Value:=[zI x]
def aGs{v:Value}{xs:List Int}{n:Int}{ro:Nat->Option Obj}(hl:dk ro v 1 eC xs)(hn:xs.length<=1000000):iI zT 35 [v,zI n] ro (zI (bM (λy=>decide (y=n)) xs 0)):=by
 obtain⟨fO,rh,q9,fb,rfl,sV,mR,nN⟩:=hl;refine zE<|zD 10<|iz [1,0,1,0,0] [] (λ(zz:Nat)=>[(0,.slice fO xs.length fb),(1,zI n),(5,zI (zz:Int))]) (λzz=>[]) (λzz=>zz<=xs.length/\bM (λy=>decide (y=n)) xs 0=bM (λy=>decide (y=n)) (xs.drop zz) zz) (λzz=>xs.length-zz) 0 ⟨by omega,rfl⟩ [] ?_;rintro k hI K1 cU rest;refine zD 8<|zJ 9 ((k:Int) <(xs.length:Int)) (λh1=>?_) λh1=>?_
 ·
  refine zD 8<|zxt xs k fb 1 mR nN λvt iD=>zD 3<|zJ 17 (vt=n) (λh2=>?_) λh2=>?_
  ·
   refine zD 7<|zX (zI (k:Int)) ⟨by rw[hI.2,pZ iD];simp[*],rfl⟩
  refine zD 4<|zW ((k:Int)+1)<|zD 2<|zY cU (k+1) ⟨by omega,by rw[hI.2,pZ iD];simp[*]⟩ []
 refine zD 7<|zX (zI (-1)) ⟨by rw[hI.2,Bj (by omega)],rfl⟩
def jE(n:Nat):List Int:=(List.range n).map λ(i:Nat)=>(i:Int)
theorem Mz(n:Nat):jE (n+1)=jE n++[(n:Int)]:=by simp[jE,GC]
theorem Pa(n:Nat):(jE n).length=n:=by simp[jE]
def eL(v:Value)(xs:List Int)(d:Nat)(X:Cells):Prop:=∃(k:Nat) (fT:Int),k<=xs.length/\X=[(d,.cells ⟨[v,zI k,zU fT]⟩ 155 (0,0))]
def Dn(ro:Nat->Option Obj)(v:Value)(xs:List Int):Prop:=dk ro v 1 eC xs/\xs.length<=4611686018427387904
def Dn.up{bU:Nat->Option Obj}{v:Value}(h:Dn ro v xs)(hs:Sub ro bU):Dn bU v xs:=⟨h.1.up hs,h.2⟩
theorem toNonzero{n:Int}(h0:¬n <1)(h1:n<=1000000):IntKind.u64.wrap (n+1)≠0:=by
 rw[AI _ rfl _ (by omega) (by grind [IntKind.bits])];omega
theorem toRange{n w:Int}(h0:¬n <1)(h1:n<=1000000)(hw:0<=w):0<=IntKind.i64.wrap (Int.tmod (mY .u64 w 16) (IntKind.u64.wrap (n+1)))/\IntKind.i64.wrap (Int.tmod (mY .u64 w 16) (IntKind.u64.wrap (n+1)))<=n:=by
 have e:IntKind.u64.wrap (n+1)=n+1:=AI .u64 rfl _ (by omega) (by simp[IntKind.bits];omega);rw[e];have h2:0<=mY .u64 w 16:=Int.fdiv_nonneg hw (by decide);have h3:=wQ (n+1) h2;have h4:=w6 (mY .u64 w 16) (show 0 <n+1 by omega)
 grind [lJ]
def biS{X:Cells}(hN:Dn ro vd xs)(hD:eL vd xs d X):eT zT 100 [zP d] ro X (λr Y=>∃w:Int,r= zU w/\0<=w/\w <18446744073709551616/\eL vd xs d Y):=by
 obtain⟨k,fT,hk,rfl⟩:=hD;obtain⟨hl,hn⟩:=hN;obtain⟨fO,rh,q9,fb,rfl,sV,mR,nN⟩:=hl;refine zC [zxc d 155 [.slice fO xs.length fb,zI (k:Int),zU fT]]<|jd 19 [0,0]<|zxo 13 λuk=>jd 1 [0]<|ee uk []<|jd 16 [0,0]<|zxo 13 λC7=>jd 1 [0]<|ee C7 []<|jd 16 [0,0]<|zxo 13 λtx=>jd 1 [0]<|ee tx []<|jd 15 [0,0]<|zJ 52 ((k:Int) <(xs.length:Int)) (λh4=>?_) λh4=>?_
 ·
  refine jd 16 [0,0,0]<|zxt xs k fb 1 mR nN λx66 aRO=>zD 5<|zxo 20 λtw=>jd 1 [0]<|ee tw []<|jd 6 [0]<|zW ((k:Int)+1)<|jd 30 [0,0]<|zR (zU (gC .u64 (IntKind.u64.wrap ((gC .u64 (IntKind.u64.wrap ((gC .u64 (gC .u64 (gC .u64 fT (iU .u64 fT 13)) (mY .u64 (gC .u64 fT (iU .u64 fT 13)) 7)) (iU .u64 (gC .u64 (gC .u64 fT (iU .u64 fT 13)) (mY .u64 (gC .u64 fT (iU .u64 fT 13)) 7)) 17))+(IntKind.u64.wrap ((IntKind.u64.wrap x66)*13787848793156543929)))) (mY .u64 (IntKind.u64.wrap ((gC .u64 (gC .u64 (gC .u64 fT (iU .u64 fT 13)) (mY .u64 (gC .u64 fT (iU .u64 fT 13)) 7)) (iU .u64 (gC .u64 (gC .u64 fT (iU .u64 fT 13)) (mY .u64 (gC .u64 fT (iU .u64 fT 13)) 7)) 17))+(IntKind.u64.wrap ((IntKind.u64.wrap x66)*13787848793156543929)))) 30))*10723151780598845931)) (mY .u64 (IntKind.u64.wrap ((gC .u64 (IntKind.u64.wrap ((gC .u64 (gC .u64 (gC .u64 fT (iU .u64 fT 13)) (mY .u64 (gC .u64 fT (iU .u64 fT 13)) 7)) (iU .u64 (gC .u64 (gC .u64 fT (iU .u64 fT 13)) (mY .u64 (gC .u64 fT (iU .u64 fT 13)) 7)) 17))+(IntKind.u64.wrap ((IntKind.u64.wrap x66)*13787848793156543929)))) (mY .u64 (IntKind.u64.wrap ((gC .u64 (gC .u64 (gC .u64 fT (iU .u64 fT 13)) (mY .u64 (gC .u64 fT (iU .u64 fT 13)) 7)) (iU .u64 (gC .u64 (gC .u64 fT (iU .u64 fT 13)) (mY .u64 (gC .u64 fT (iU .u64 fT 13)) 7)) 17))+(IntKind.u64.wrap ((IntKind.u64.wrap x66)*13787848793156543929)))) 30))*10723151780598845931)) 31))) [] [0] [(d,.cells ⟨[.slice fO xs.length fb,zI ((k:Int)+1),zU (IntKind.u64.wrap ((gC .u64 (gC .u64 (gC .u64 fT (iU .u64 fT 13)) (mY .u64 (gC .u64 fT (iU .u64 fT 13)) 7)) (iU .u64 (gC .u64 (gC .u64 fT (iU .u64 fT 13)) (mY .u64 (gC .u64 fT (iU .u64 fT 13)) 7)) 17))+(IntKind.u64.wrap ((IntKind.u64.wrap x66)*13787848793156543929))))]⟩ 155 (0,0))] ⟨_,rfl,(B1 _ _).1,(B1 _ _).2,k+1,_,(by omega),rfl⟩
 refine jd 28 [0]<|zR (zU (gC .u64 (IntKind.u64.wrap ((gC .u64 (gC .u64 (gC .u64 (gC .u64 fT (iU .u64 fT 13)) (mY .u64 (gC .u64 fT (iU .u64 fT 13)) 7)) (iU .u64 (gC .u64 (gC .u64 fT (iU .u64 fT 13)) (mY .u64 (gC .u64 fT (iU .u64 fT 13)) 7)) 17)) (mY .u64 (gC .u64 (gC .u64 (gC .u64 fT (iU .u64 fT 13)) (mY .u64 (gC .u64 fT (iU .u64 fT 13)) 7)) (iU .u64 (gC .u64 (gC .u64 fT (iU .u64 fT 13)) (mY .u64 (gC .u64 fT (iU .u64 fT 13)) 7)) 17)) 30))*10723151780598845931)) (mY .u64 (IntKind.u64.wrap ((gC .u64 (gC .u64 (gC .u64 (gC .u64 fT (iU .u64 fT 13)) (mY .u64 (gC .u64 fT (iU .u64 fT 13)) 7)) (iU .u64 (gC .u64 (gC .u64 fT (iU .u64 fT 13)) (mY .u64 (gC .u64 fT (iU .u64 fT 13)) 7)) 17)) (mY .u64 (gC .u64 (gC .u64 (gC .u64 fT (iU .u64 fT 13)) (mY .u64 (gC .u64 fT (iU .u64 fT 13)) 7)) (iU .u64 (gC .u64 (gC .u64 fT (iU .u64 fT 13)) (mY .u64 (gC .u64 fT (iU .u64 fT 13)) 7)) 17)) 30))*10723151780598845931)) 31))) [] [0] [(d,.cells ⟨[.slice fO xs.length fb,zI (k:Int),zU (gC .u64 (gC .u64 (gC .u64 fT (iU .u64 fT 13)) (mY .u64 (gC .u64 fT (iU .u64 fT 13)) 7)) (iU .u64 (gC .u64 (gC .u64 fT (iU .u64 fT 13)) (mY .u64 (gC .u64 fT (iU .u64 fT 13)) 7)) 17))]⟩ 155 (0,0))] ⟨_,rfl,(B1 _ _).1,(B1 _ _).2,k,_,(by omega),rfl⟩
def Oq{X:Cells}{n:Int}(hN:Dn ro vd xs)(hD:eL vd xs d X)(hn:n<=1000000):eT zT 48 [zP d,zI n] ro X (λr Y=>∃w:Int,r= zI w/\0<=w/\(w<=n\/w=0)/\eL vd xs d Y):=by
 refine zC [.l X]<|zD 10<|zJ 6 (n <1) (λh1=>?_) λh1=>?_
 ·
  refine zD 6<|zR (zI 0) [] [0] X ⟨_,rfl,(by omega),(by omega),hD⟩
 refine zD 5<|jc [0] (biS hN hD) ?_;rintro _ X8 ⟨w8,rfl,hw8,hx8,hD8⟩;refine zD 2<|zW (n+1)<|zD 1<|jrm (k:= .u64) (a:=(mY .u64 w8 16)) (b:=(IntKind.u64.wrap (n+1))) 153 (toNonzero h1 hn)<|zD 4<|zR (zI (IntKind.i64.wrap (Int.tmod (mY .u64 w8 16) (IntKind.u64.wrap (n+1))))) [] [0] X8 ⟨_,rfl,(toRange h1 hn hw8).1,.inl (toRange h1 hn hw8).2,hD8⟩
def zp{X:Cells}{lo:Int}(hN:Dn ro vd xs)(hD:eL vd xs d X)(qP: -1000<=lo/\lo<=1000)(hhi: -1000<=hi/\hi<=1000):eT zT 127 [zP d,zI lo,zI hi] ro X (λr Y=>∃w:Int,r= zI w/\lo<=w/\(w<=hi\/w=lo)/\eL vd xs d Y):=by
 refine zC [.l X]<|zD 10<|zW (hi-lo)<|jc (vs:=[zP d,zI (hi-lo)]) [0] (Oq hN hD (by omega)) ?_;rintro _ X12 ⟨w12,rfl,bq4,uL,bic⟩;refine zW (lo+w12)<|zD 3<|zR (zI (lo+w12)) [] [0] _ ⟨_,rfl,(by omega),(by omega),bic⟩
def Gv{X:Cells}{n:Int}(hN:Dn ro vd xs)(hD:eL vd xs d X)(hn:0<=n/\n<=1000):eT zT 47 [zP d,zI n] ro X (λr Y=>∃w:Bool,r= .bool w/\eL vd xs d Y):=by
 refine zC [.l X]<|zD 8<|zW (n-1)<|jc (vs:=[zP d,zI (n-1)]) [0] (Oq hN hD (by omega)) ?_;rintro _ X8 ⟨w8,rfl,hw8,hx8,hD8⟩;refine zD 4<|zR (.bool (decide (w8=0))) [] [0] X8 ⟨_,rfl,hD8⟩
def bs(l:List Nat):ByteArray:=⟨(l.map UInt8.ofNat).toArray⟩
abbrev mG(x:ByteArray):List Value:=[.string x]
structure fR where
 f:ByteArray
 t:ByteArray
variable {rs:List fR}
abbrev jO(x:fR):List Value:=[.string x.f,.string x.t]
structure aT where
 k:Int
 st:Int
 ot:Int
 fn:Int
 fl:Int
 tn:Int
 tl:Int
abbrev p6(x:aT):List Value:=[.int .i64 x.k,.int .i64 x.st,.int .i64 x.ot,.int .i64 x.fn,.int .i64 x.fl,.int .i64 x.tn,.int .i64 x.tl]
def E4{ps:List α}{k:Nat}{x y:α}(h1:ps[i]?=some x) (h2:ps[k]?=some y):((ps.set i y).set k x).Perm ps:=by
 obtain⟨a,rfl⟩:=aA.1 h1;obtain⟨b,rfl⟩:=aA.1 h2;exact List.set_set_perm a b
def ath{X:Cells}{vm:Value}(hN:Dn ro vd xs)(hD:eL vd xs d X)(hm:dk ro vm 1 mG ys)(hy:0 <ys.length/\ys.length<=1000):eT zT 95 [zP d,vm] ro X (λr Y=>∃w:ByteArray,r= .string w/\w∈ys/\eL vd xs d Y):=by
 obtain⟨qma,qmb,qmo,qmc,rfl,qmk,qmh,qml⟩:=hm;refine zC [.l X]<|zD 10<|zW ((ys.length:Int)-1)<|jc (vs:=[zP d,zI ((ys.length:Int)-1)]) [0] (Oq hN hD (by omega)) ?_;rintro _ X10 ⟨JK,rfl,aGQ,KE,Hn⟩;obtain⟨x11,aaO⟩:=zG ys (JK.toNat);refine Yj JK qmc 1 qmh aaO (by omega)<|jl 0 (qml _ _ aaO)<|zD 3<|zR _ [] [0] _ ⟨_,rfl,zL aaO,Hn⟩
def aKa{X:Cells}(hN:Dn ro vd xs)(hD:eL vd xs d X)(hn:n<=100):eT zT 162 [zP d,zI (n:Int)] ro X (λr Y=>∃(ps:List Int) (L X':Cells),bI r 1 3 eC ps L/\ps.Perm (jE n)/\Y=L++X'/\eL vd xs d X'):=by
 refine zC [.l X]<|zD 14<|uI<|iz [1,1,0,1,0,0] [] (λ(zz:Nat×Value×Cells)=>[(0,zP d),(1,zI (n:Int)),(4,zS),(5,zz.2.1),(6,zI (zz.1:Int))]) (λzz=>[.l zz.2.2,.l X]) (λzz=>zz.1<=n/\bI zz.2.1 1 3 eC (jE zz.1) zz.2.2) (λzz=>n-zz.1) (⟨0,zS,[]⟩) ⟨by omega,bI.nil _ _ _⟩ [0,1] ?_;rintro⟨k,v,L⟩ hI K1 cU rest;dsimp only at hI;refine zD 7<|zJ 12 ((k:Int) <(n:Int)) (λh1=>?_) λh1=>?_
 ·
  refine zD 7<|jn λb17=>zxl eC b17 (k:Int) 1 0 (hI.2) (λrL rJ Dg dG=>?_) (hb:=by simp[jE];omega);refine zD 4<|zW ((k:Int)+1)<|zD 2<|zY cU (⟨k+1,(.slice rL ((jE k++[(k:Int)])).length rJ),Dg⟩) ⟨by omega,by rw[Mz];exact dG⟩ [0,2]
 refine zD 6<|zW ((n:Int)-1)<|zD 3<|iz [1,1,1,0,1,0,0] [] (λ(zz:Int×Value×Cells×(List Int)×Cells)=>[(0,zP d),(4,zS),(5,zz.2.1),(7,zI zz.1)]) (λzz=>[.l zz.2.2.1,.l zz.2.2.2.2]) (λzz=>(-1<=zz.1/\zz.1 <n)/\bI zz.2.1 1 3 eC zz.2.2.2.1 zz.2.2.1/\zz.2.2.2.1.Perm (jE n)/\eL vd xs d zz.2.2.2.2) (λzz=>zz.1.toNat) (⟨(n:Int)-1,v,L,jE k,X⟩) ⟨by omega,hI.2,(by rw[show k=n by omega]),hD⟩ [0,1] ?_;rintro⟨j,v,L,ps,X⟩ F3 K2 kU rest;dsimp only at F3;have hlen:ps.length=n:=by rw[F3.2.2.1.length_eq,Pa]
 refine zD 6<|zJ 22 (j>0) (λh2=>?_) λh2=>?_
 ·
  refine zD 8<|jc (vs:=[zP d,zI j]) [1] (Oq hN F3.2.2.2 (by omega)) ?_;rintro _ X27 ⟨w27,rfl,bq2,KB,bh8⟩;refine zD 6 ?_;obtain⟨FK,tv⟩:=zG ps (j.toNat);refine Iw j 1 F3.2.1 tv (by omega) λb30 ari=>yL 0 [1] L (λs _ hZ=>kN F3.2.1 ari hZ tv)<|zD 8 ?_;obtain⟨Ye,wG⟩:=zG ps (w27.toNat);refine Iw w27 1 F3.2.1 wG (by omega) λb36 bhe=>yL 0 [1] L (λs _ hZ=>kN F3.2.1 bhe hZ wG) ?_;obtain⟨x38,Ha⟩:=zG ps (j.toNat);refine Iw j 1 F3.2.1 Ha (by omega) λb38 bhd=>jso 1 0 [zI Ye] Ye F3.2.1 bhd Ha rfl rfl (cP rfl) λL3 ho4=>zD 5 ?_;obtain⟨x42,Iz⟩:=zG ((ps.set j.toNat Ye)) (w27.toNat) (by first|omega| (simp only[aM,zM];omega));refine Iw w27 1 ho4 Iz (by omega) λb42 bha=>jso 0 0 [zI FK] FK ho4 bha Iz rfl rfl (cP rfl) λL5 ho6=>zD 3<|zW (j-1)<|zD 2<|zY kU (⟨j-1,v,L5,((ps.set j.toNat Ye).set w27.toNat FK),X27⟩) ⟨by omega,ho6,(E4 tv wG).trans F3.2.2.1,bh8⟩ [0,1]
 refine zD 8<|zR _ [] [0,1] _ ⟨_,_,_,F3.2.1,F3.2.2.1,rfl,F3.2.2.2⟩
def ah5:List ByteArray:=[bs [101],bs [121],bs [115,104],bs [97],bs [110,110],bs [116,104],bs [109]]
def toW:List ByteArray:=[bs [],bs [105],bs [115],bs [116],bs [97,101],bs [106],bs [110]]
def XU(r:fR):Prop:=r.f∈ah5/\r.t∈toW
def RA{p:α->Prop}{l:List α}{x:α}(h:∀y∈l,p y)(hx:p x):∀y∈l++[x],p y:=λy hy=>by
 rcases bJ.1 hy with h1|h1
 .exact h y h1
 rw[aU] at h1;subst h1;exact hx
def ati{X:Cells}{many:Int}(hN:Dn ro vd xs)(hD:eL vd xs d X)(hn:0<=many/\many<=100):eT zT 39 [zP d,zI many] ro X (λr Y=>∃(ps:List fR) (L X':Cells),bI r 2 169 jO ps L/\ps.length<=many/\(∀r∈ps,XU r)/\Y=L++X'/\eL vd xs d X'):=by
 refine zC [.l X]<|zD 13<|jc (vs:=[zP d,zI many]) [0] (Oq hN hD (by omega)) ?_;rintro _ X10 ⟨JK,rfl,aGQ,KE,Hn⟩;refine zD 3<|uI<|iz [1,1,0,1,0,0] [] (λ(zz:Int×Value×Cells×(List fR)×Cells)=>[(0,zP d),(4,zS),(5,zz.2.1),(6,zI zz.1)]) (λzz=>[.l zz.2.2.1,.l zz.2.2.2.2]) (λzz=>(0<=zz.1/\zz.2.2.2.1.length+zz.1<=many)/\bI zz.2.1 2 169 jO zz.2.2.2.1 zz.2.2.1/\(∀r∈zz.2.2.2.1,XU r)/\eL vd xs d zz.2.2.2.2) (λzz=>zz.1.toNat) (⟨JK,zS,[],[],X10⟩) ⟨by simp only[List.length_nil];omega,bI.nil _ _ _,(λ_ h=>by cases h),Hn⟩ [0,1] ?_;rintro⟨j,v,L,ps,X⟩ hI K1 cU rest;dsimp only at hI;refine zD 6<|zJ 12 (j>0) (λh1=>?_) λh1=>?_
 ·
  refine zD 7<|jn λb16=>jcL (vs:=[zP d,.slice (some ⟨b16,0,none⟩) 7 7]) [2] [0] [(b16,.cells ⟨([(bs [101]),(bs [121]),(bs [115,104]),(bs [97]),(bs [110,110]),(bs [116,104]),(bs [109])].map mG).flatten⟩ 9 (0,0))] (λcK hs hZ=>ath (hN.up hs) hI.2.2.2 (eZ [(bs [101]),(bs [121]),(bs [115,104]),(bs [97]),(bs [110,110]),(bs [116,104]),(bs [109])] hZ.head (by intro p hp;rfl)) (by decide)) ?_;rintro _ X17 ⟨w17,rfl,aR2,aJn⟩;refine zD 1<|jn λEI=>jcL (vs:=[zP d,.slice (some ⟨EI,0,none⟩) 7 7]) [1] [0] [(EI,.cells ⟨([(bs []),(bs [105]),(bs [115]),(bs [116]),(bs [97,101]),(bs [106]),(bs [110])].map mG).flatten⟩ 9 (0,0))] (λcK hs hZ=>ath (hN.up hs) aJn (eZ [(bs []),(bs [105]),(bs [115]),(bs [116]),(bs [97,101]),(bs [106]),(bs [110])] hZ.head (by intro p hp;rfl)) (by decide)) ?_;rintro _ X20 ⟨w20,rfl,aR1,aky⟩;refine zD 1<|jn λb7=>jd 5 [0,0]<|jn λb24=>zxl jO b24 (⟨w17,w20⟩:fR) 5 0 (hI.2.1) λamF amz L25 Qo=>zD 4<|zW (j-1)<|zD 2<|zY cU (⟨j-1,(.slice amF ((ps++[(⟨w17,w20⟩:fR)])).length amz),L25,(ps++[(⟨w17,w20⟩:fR)]),X20⟩) ⟨by simp only[zM];omega,Qo,RA hI.2.2.1 ⟨aR2,aR1⟩,aky⟩ [0,3]
 refine zD 8<|zR _ [] [0,1] _ ⟨_,_,_,hI.2.1,(by omega),hI.2.2.1,rfl,hI.2.2.2⟩
def Iv(b:UInt8):Bool:=Nat.ble 97 b.toNat&&Nat.ble b.toNat 122
def PJ(b:UInt8):Bool:=Nat.ble 65 b.toNat&&(Nat.ble b.toNat 90&& !(Nat.beq b.toNat 72||Nat.beq b.toNat 81||Nat.beq b.toNat 87))
def Script(w:ByteArray):Prop:=(∀b∈w.data.toList,Iv b=true)\/(∀b∈w.data.toList,PJ b=true)
def gR{enc:α->List Value}(ps:List α)(hn:ps.length=n)(hl:∀p∈ps,(enc p).length=sz):bI (.slice (some ⟨b,0,none⟩) n n) sz T enc ps [(b,.cells ⟨(ps.map enc).flatten⟩ T (0,0))]:=by
 subst hn;exact .inr ⟨b,_,ps.length,rfl,rfl,rA ps hl,bk _,hl,by rw[<-rA ps hl,List.take_length]⟩
inductive kz{α β:Type}(R:α->β->Prop):List α->List β->Prop
 |nil:kz R [] []
 |cons {a:α} {b:β} {l:List α} {m:List β}:R a b->kz R l m->kz R (a::l) (b::m)
def kz.snoc{R:α->β->Prop}{l:List α}{m:List β}{a:α}{b:β}(h:kz R l m)(k:R a b):kz R (l++[a]) (m++[b]):=by
 induction h with
 |nil=>exact .cons k .nil
 |cons h1 _ ih=>exact .cons h1 ih
theorem kz.len{R:α->β->Prop}{l:List α}{m:List β}(h:kz R l m):l.length=m.length:=by
 induction h with
 |nil=>rfl
 |cons _ _ ih=>grind
theorem kz.get{R:α->β->Prop}{l:List α}{m:List β}(h:kz R l m){a:α}(ha:l[i]?=some a):∃b,m[i]?=some b/\R a b:=by
 induction h generalizing i with
 |nil=>grind
 |cons h1 _ ih=>
  grind
theorem kz.imp{R S:α->β->Prop}{l:List α}{m:List β}(h:kz R l m)(k:∀a b,R a b->S a b):kz S l m:=by
 induction h with
 |nil=>exact .nil
 |cons h1 _ ih=>exact .cons (k _ _ h1) ih
def wD{l:List α}{R:α->α->Prop}(h:l.Pairwise R){j:Nat}{a b:α}(Og:i <j)(ha:l[i]?=some a) (hb:l[j]?=some b):R a b:=by
 obtain⟨h1,rfl⟩:=aA.1 ha;obtain⟨h2,rfl⟩:=aA.1 hb;exact List.pairwise_iff_getElem.1 h i j h1 h2 Og
abbrev qa(x:Value):List Value:=[x]
structure au where
 n:Int
 l:Int
abbrev cv(x:au):List Value:=[zI x.n,zI x.l]
def mL(x y:au):Prop:=x.n <y.n\/(x.n=y.n/\x.l <y.l)
def p8(x:au):Prop:=(1<=x.n/\x.n<=40)/\0<=x.l/\x.l<=4
structure cq(S:List (List au)):Prop where
 two:1<=S.length/\S.length<=2
 len:∀l∈S,l.length<=6
 jD:(S.map List.length).sum<=6
 ok:∀l∈S,∀x∈l,p8 x
 Sk:∀l∈S,l.Pairwise mL
def bH(ro:Nat->Option Obj)(v:Value)(S:List (List au)):Prop:=∃ws,dk ro v 1 qa ws/\kz (λw l=>dk ro w 2 cv l) ws S
def ku(ro:Nat->Option Obj)(v:Value)(ways:List (List aT)):Prop:=∃ws,dk ro v 1 qa ws/\kz (λw l=>dk ro w 7 p6 l) ws ways
def bH.up{bU:Nat->Option Obj}{v:Value}{S:List (List au)}(h:bH ro v S)(hs:Sub ro bU):bH bU v S:=by
 obtain⟨ws,h1,h2⟩:=h;exact⟨ws,h1.up hs,h2.imp λ_ _ k=>k.up hs⟩
def ku.up{bU:Nat->Option Obj}{v:Value}{w:List (List aT)}(h:ku ro v w)(hs:Sub ro bU):ku bU v w:=by
 obtain⟨ws,h1,h2⟩:=h;exact⟨ws,h1.up hs,h2.imp λ_ _ k=>k.up hs⟩
def biT(hl:dk ro vd 1 eC xs):eT zT 28 [vd] ro [] (λr Y=>∃d,r= zP d/\eL vd xs d Y):=by
 obtain⟨fO,rh,q9,fb,rfl,sV,mR,nN⟩:=hl;refine zE<|zD 8<|jn λb5=>zD 3<|zR (zP b5) [] [0] [(b5,.cells ⟨[.slice fO xs.length fb,zI 0,zU 11400714819323198485]⟩ 155 (0,0))] ⟨_,rfl,0,_,bQ _,rfl⟩
structure jo where
 a:Int
 b:Int
 c:Int
 d:Int
 e:Int
 f:Int
abbrev p5(x:jo):List Value:=[zI x.a,zI x.b,zI x.c,zI x.d,zI x.e,zI x.f]
theorem oG{v:Value}{enc:α->List Value}{ps:List α}(h:dk ro v sz enc ps):single v=true:=by
 obtain⟨a,b,o,c,rfl,_⟩:=h;rfl
def wU{P:Prop}{p:α}(h:([]:List α)[i]?=some p):P:=by simp at h
theorem c8{l:List α}{a:α}(h:l[i]?=some a):l.take (i+1)=l.take i++[a]:=by
 rw[List.take_succ,h];rfl
def Br{R:α->β->Prop}{ws:List α}{ls:List β}{w:α}{l:β}(h:kz R ws (ls.take i))(hl:ls[i]?=some l) (hr:R w l):kz R (ws++[w]) (ls.take (i+1)):=by
 rw[c8 hl];exact h.snoc hr
def hqw:ByteArray:=bs [72,81,87]
def kindOf(r:Int):Int:=if 97<=r/\r<=122 then 1 else if (65<=r/\r<=90)/\ixb hqw (UInt8.ofNat (IntKind.u8.wrap r).toNat) <0 then 2 else 0
def aU6:EF zT 338 Extern.BytealgIndexByte.indexByte:=⟨Tryz.f338,Tryz.func338,by kernel_rfl,by kernel_rfl,by kernel_rfl,by kernel_rfl⟩
def ajV{a:ByteArray}{b:Int}:iI zT 320 [.string a,.int .u8 b] ro (zI (ixb a (b).toNat.toUInt8)):=by
 refine zE<|zD 8<|jib (a:=a) (b:=b) aU6<|zD 3<|zX _ ⟨rfl,rfl⟩
def ajW{a:ByteArray}{b:Int}:iI zT 286 [.string a,.int .u8 b] ro (zI (ixb a (b).toNat.toUInt8)):=by
 refine zE<|zD 8<|zxp [.string a,.int .u8 b] (λhs=>ajV)<|zD 3<|zX _ ⟨rfl,rfl⟩
theorem aGv{a:ByteArray}(hr:0<=r/\r <128):iI zT 253 [.string a,.int .i32 r] ro (zI (ixb a (IntKind.u8.wrap r).toNat.toUInt8)):=by
 refine zE<|zD 10<|jj 3 [(0,.string a),(1,.int .i32 r),(4,zI 0),(166,.bool ((decide (0<=r))&&(decide (r <128))))] (λoX=>?_) (λhj=>?_);rotate_left;refine js 163 (decide (0<=r)) (λh1=>?_) (λh1=>?_)
 ·
  have lF:=h1;refine zD 3<|zxw 166 hj (zya h1)
 ·
  grind
 refine zD 2<|js 160 ((decide (0<=r))&&(decide (r <128))) (λh2=>?_) (λh2=>?_)
 ·
  refine zD 6<|zxp [.string a,.int .u8 (IntKind.u8.wrap r)] (λhs=>ajW)<|zD 3<|zX _ ⟨rfl,rfl⟩
 grind
def ayg{a:ByteArray}(hr:0<=r/\r <128):iI zT 218 [.string a,.int .i32 r] ro (.bool (decide (ixb a (IntKind.u8.wrap r).toNat.toUInt8>=0))):=by
 refine zE<|zD 8<|zxp [.string a,.int .i32 r] (λhs=>aGv (by omega))<|zD 4<|zX _ ⟨rfl,rfl⟩
def aA6{r:Int}{ro:Nat->Option Obj}:iI zT 158 [.int .i32 r] ro (zI (kindOf r)):=by
 refine zE<|zD 11<|jj 3 [(0,.int .i32 r),(2,zI 0),(9,.bool ((decide (r>=97))&&(decide (r<=122))))] (λoX=>?_) (λhj=>?_);rotate_left;refine js 6 (decide (r>=97)) (λh1=>?_) (λh1=>?_)
 ·
  have lF:=h1;replace lF:=ah lF;refine zD 3<|zxw 9 hj (zya h1)
 ·
  have lF:=h1;replace lF:=af lF;refine zD 3<|zxw 9 hj (zyb h1)
 refine zD 2<|js 3 ((decide (r>=97))&&(decide (r<=122))) (λh2=>?_) (λh2=>?_)
 ·
  refine zD 6<|zX (zI 1) ⟨by simp only[kindOf,hqw];congr 1;(try simp at*);(repeat' split)<;>omega,rfl⟩
 try simp only[zB] at h2
 refine zD 6<|jj 3 [(0,.int .i32 r),(2,zI 0),(16,.bool ((decide (r>=65))&&(decide (r<=90))))] (λoX=>?_) (λhj=>?_);rotate_left;refine js 13 (decide (r>=65)) (λh3=>?_) (λh3=>?_)
 ·
  have yW:=h3;replace yW:=ah yW;refine zD 3<|zxw 16 hj (zya h3)
 ·
  have yW:=h3;replace yW:=af yW;refine zD 3<|zxw 16 hj (zyb h3)
 refine zD 1<|jj 4 [(2,zI 0),(21,.bool (((decide (r>=65))&&(decide (r<=90)))&&(!(decide (ixb (bs [72,81,87]) (IntKind.u8.wrap r).toNat.toUInt8>=0)))))] (λoX=>?_) (λhj=>?_);rotate_left;refine js 17 ((decide (r>=65))&&(decide (r<=90))) (λh4=>?_) (λh4=>?_)
 ·
  have K0:=h4
  try simp only[zB] at K0
  refine zD 1<|zxp [.string (bs [72,81,87]),.int .i32 r] (λhs=>ayg (by omega))<|zD 2<|zxw 21 hj (zya h4)
 ·
  have K0:=h4;refine zD 4<|zxw 21 hj (zyb h4)
 refine zD 2<|js 10 (((decide (r>=65))&&(decide (r<=90)))&&(!(decide (ixb (bs [72,81,87]) (IntKind.u8.wrap r).toNat.toUInt8>=0)))) (λh5=>?_) (λh5=>?_)
 ·
  refine zD 6<|zX (zI 2) ⟨by simp only[kindOf,hqw];congr 1;(try simp at*);(repeat' split)<;>omega,rfl⟩
 refine zD 7<|zX (zI 0) ⟨by simp only[kindOf,hqw];congr 1;(try simp at*);(repeat' split)<;>omega,rfl⟩
def apI:((List.range 256).all λn=> !Iv (UInt8.ofNat n)||decide (kindOf (n:Int)=1))=true:=by kernel_rfl
def apH:((List.range 256).all λn=> !PJ (UInt8.ofNat n)||decide (kindOf (n:Int)=2))=true:=by kernel_rfl
def aiG(w:ByteArray)(k:Int):Prop:=∀b∈w.data.toList,b.toNat <128/\kindOf (b.toNat:Int)=k
theorem Zl{w:ByteArray}(h:Script w):∃k:Int,(k=1\/k=2)/\aiG w k:=by
 have hb:∀b:UInt8,UInt8.ofNat b.toNat=b:=λb=>by simp
 rcases h with h|h
 .refine⟨1,.inl rfl,λb mB=>?_⟩;have h1:=h b mB;have h2:=cM.1 apI b.toNat (dZ.2 b.toNat_lt);rw[hb,h1] at h2;simp only[Iv,av,si] at h1;exact⟨by omega,by simpa using h2⟩
 refine⟨2,.inr rfl,λb mB=>?_⟩;have h1:=h b mB;have h2:=cM.1 apH b.toNat (dZ.2 b.toNat_lt);rw[hb,h1] at h2;simp only[PJ,av,si] at h1;exact⟨by omega,by simpa using h2⟩
theorem awE{w:ByteArray}{k:Int}(hs:1<=w.size/\w.size<=6)(hk:k=1\/k=2)(hK:aiG w k):iI zT 117 [.string w] ro (zI 0):=by
 refine zE<|zD 11<|zJ 9 ((w.size:Int)=0) (λh1=>?_) λh1=>?_
 ·
  exfalso;omega
 refine zD 9<|zJ 12 ((w.size:Int)>6) (λh2=>?_) λh2=>?_
 ·
  exfalso;omega
 refine zD 10<|jn λr14=>zD 2<|iz [1,1,1,1,0,1,0,0] [] (λ(zz:Nat×Int)=>[(3,zI zz.2),(14,zP r14)]) (λzz=>[.b r14 (.stringIter w zz.1)]) (λzz=>zz.1<=w.data.toList.length/\(zz.2=0\/zz.2=k)) (λzz=>w.data.toList.length-zz.1) (⟨0,0⟩) ⟨by omega,.inl rfl⟩ [0] ?_;rintro⟨p,sc⟩ hI K1 cU rest;dsimp only at hI;refine zD 2 ?_;cases aa8:w.data.toList[p]? with
 |some FL=>
  refine jnA r14 0 aa8 (hK _ (zL aa8)).1<|zD 7 ?_;have hkk:=(hK _ (zL aa8)).2;refine zD 7<|zxp [.int .i32 (FL.toNat:Int)] (λhs=>aA6)<|zD 8<|zJ 21 (sc=0) (λh3=>?_) λh3=>?_
  ·
   refine zD 10<|jj 4 [(3,zI (kindOf (FL.toNat:Int))),(14,zP r14),(29,.bool ((decide ((kindOf (FL.toNat:Int))=0))||(!decide ((kindOf (FL.toNat:Int))=(kindOf (FL.toNat:Int))))))] (λoX=>?_) (λhj=>?_);rotate_left;refine js 25 (decide ((kindOf (FL.toNat:Int))=0)) (λh4=>?_) (λh4=>?_)
   ·
    grind
   ·
    have K0:=h4;replace K0:=af K0;refine zD 4<|zxw 29 hj (zyd h4)
   refine zD 1<|js 29 ((decide ((kindOf (FL.toNat:Int))=0))||(!decide ((kindOf (FL.toNat:Int))=(kindOf (FL.toNat:Int))))) (λh5=>?_) (λh5=>?_)
   ·
    try simp only[zB] at h5
    exfalso;omega
   try simp only[zB] at h5
   refine zD 2<|dX cU (⟨p+1,(kindOf (FL.toNat:Int))⟩) ⟨by have:=(List.getElem?_eq_some_iff.1 aa8).1;dsimp only;omega,by dsimp only;omega⟩ (by have:=(List.getElem?_eq_some_iff.1 aa8).1;dsimp only;omega) [0] (Sub.refl _)
  refine zD 7<|jj 4 [(3,zI sc),(14,zP r14),(29,.bool ((decide ((kindOf (FL.toNat:Int))=0))||(!decide ((kindOf (FL.toNat:Int))=sc))))] (λoX=>?_) (λhj=>?_);rotate_left;refine js 25 (decide ((kindOf (FL.toNat:Int))=0)) (λh6=>?_) (λh6=>?_)
  ·
   grind
  ·
   have Ho:=h6;replace Ho:=af Ho;refine zD 4<|zxw 29 hj (zyd h6)
  refine zD 1<|js 29 ((decide ((kindOf (FL.toNat:Int))=0))||(!decide ((kindOf (FL.toNat:Int))=sc))) (λh7=>?_) (λh7=>?_)
  ·
   try simp only[zB] at h7
   exfalso;omega
  try simp only[zB] at h7
  refine zD 2<|dX cU (⟨p+1,sc⟩) ⟨by have:=(List.getElem?_eq_some_iff.1 aa8).1;dsimp only;omega,by dsimp only;omega⟩ (by have:=(List.getElem?_eq_some_iff.1 aa8).1;dsimp only;omega) [0] (Sub.refl _)
 |none=>
  refine jnZ r14 0 aa8<|zD 10<|zX _ ⟨rfl,rfl⟩
def rN:=(q6 Tryz.typeInfo3 Tryz.underlying3 rfl rfl rfl rfl rfl rfl:TF zT 3 _ 1 8 _ false)
def abM(a b c d:Int)(dep:Nat):EqD zT (dep+2) 39 (.agg ⟨[zI a,zI b]⟩) (.agg ⟨[zI c,zI d]⟩) (a==c&&(b==d&&true)):=
 Cg (q6 Tryz.typeInfo39 Tryz.underlying39 rfl rfl rfl rfl rfl rfl) Tryz.stoodInHeld39 (.cons (by simp) (oI rN rfl) (oI rN rfl) (tE rN _ _) (.cons (by simp) (oI rN rfl) (oI rN rfl) (tE rN _ _) .nil))
def yz(a b c d:Int):EqV zT 39 (.agg ⟨[zI a,zI b]⟩) (.agg ⟨[zI c,zI d]⟩) (a==c&&(b==d&&true)):=afF (abM a b c d _)
def Xq(a b c d e f:Int):EqV zT 41 (.agg ⟨[zI a,zI b,zI c]⟩) (.agg ⟨[zI d,zI e,zI f]⟩) (a==d&&(b==e&&(c==f&&true)&&true)):=
 afF (Cg (q6 Tryz.typeInfo41 Tryz.underlying41 rfl rfl rfl rfl rfl rfl) Tryz.stoodInHeld41 (.cons (by simp) (oI rN rfl) (oI rN rfl) (tE rN _ _) (.cons (by simp) (BP (q6 Tryz.typeInfo39 Tryz.underlying39 rfl rfl rfl rfl rfl rfl) rfl) (BP (q6 Tryz.typeInfo39 Tryz.underlying39 rfl rfl rfl rfl rfl rfl) rfl) (abM _ _ _ _ _) .nil)))
def GY:Cs zT 39:=Tryz.eqGuardType39
def aha:Cs zT 41:=Tryz.eqGuardType41
def cD(n l:Int)(y:au):Bool:=n==y.n&&(l==y.l&&true)
theorem aea{w:ByteArray}(hs:1<=w.size/\w.size<=6)(h:Script w):iI zT 117 [.string w] ro (zI 0):=by
 grind [Zl,awE]
def P9{v:Value}{ps:List au}{n l:Int}(hp:dk ro v 2 cv ps)(hn:ps.length<=1000):iI zT 300 [v,.agg ⟨[zI n,zI l]⟩] ro (zI (bM (cD n l) ps 0)):=by
 obtain⟨gX,xY,xX,gF,rfl,A2,xk,xj⟩:=hp;refine zE<|zD 2<|jn λb3=>zD 10<|iz [1,0,1,0,0] [] (λ(zz:Nat)=>[(0,.slice gX ps.length gF),(3,zP b3),(7,zI (ps.length:Int)),(8,zI (zz:Int))]) (λzz=>[zxc b3 39 [zI n,zI l]]) (λzz=>zz<=ps.length/\bM (cD n l) ps 0=bM (cD n l) (ps.drop zz) zz) (λzz=>ps.length-zz) 0 ⟨by omega,rfl⟩ [0] ?_;rintro k hI K1 cU rest;refine zD 5<|zJ 9 ((k:Int) <(ps.length:Int)) (λh1=>?_) λh1=>?_
 ·
  refine jd 14 [0]<|zxt ps k gF 2 xk xj λvt iD=>jeq GY (yz n l vt.n vt.l)<|zD 1<|js 16 (n==vt.n&&(l==vt.l&&true)) (λh2=>?_) (λh2=>?_)
  ·
   refine zD 7<|zX (zI (k:Int)) ⟨by rw[hI.2,pZ iD,show cD n l vt=true from (by assumption)];rfl,rfl⟩
  refine zD 3<|zW ((k:Int)+1)<|zD 2<|zY cU (k+1) ⟨by omega,by rw[hI.2,pZ iD,show cD n l vt=false from (by assumption)];rfl⟩ [0]
 refine zD 7<|zX (zI (-1)) ⟨by rw[hI.2,Bj (by omega)],rfl⟩
def KA{v:Value}{ps:List au}{n l:Int}(hp:dk ro v 2 cv ps)(hn:ps.length<=1000):iI zT 299 [v,.agg ⟨[zI n,zI l]⟩] ro (.bool (decide (bM (cD n l) ps 0>=0))):=by
 obtain⟨gX,xY,xX,gF,rfl,A2,xk,xj⟩:=hp;refine zE<|zD 2<|jn λb3=>jd 6 [0]<|zxp [.slice gX ps.length gF,.agg ⟨[zI n,zI l]⟩] (λhs=>P9 ((show dk _ _ _ _ _ from ⟨gX,xY,xX,gF,rfl,A2,xk,xj⟩).up hs) (by first|omega| (simp only[aM,zM];omega))) ?_;refine zD 4<|zX _ ⟨rfl,rfl⟩
def S3(a b:ByteArray):Int:=bif strLt a b then-1 else bif !(strLt a b||jQ a b) then 1 else 0
def Xw:List ByteArray->List ByteArray->Int
 | [],[]=>0
 | [],_::_=> -1
 |_::_,[]=>1
 |x::xs,y::ys=>if S3 x y=0 then Xw xs ys else S3 x y
theorem ail{xs:List ByteArray}{k:Nat}{y:ByteArray}(hx:xs[k]?=some x) (hy:ys[k]?=some y):Xw (xs.drop k) (ys.drop k)=if S3 x y=0 then Xw (xs.drop (k+1)) (ys.drop (k+1)) else S3 x y:=by rw[lB hx,lB hy];rfl
theorem ato{xs:List ByteArray}{k:Nat}(hx:xs[k]?=some x) (hy:¬k <ys.length):Xw (xs.drop k) (ys.drop k)=1:=by rw[lB hx,py hy];rfl
theorem abZ{xs:List ByteArray}{k:Nat}(hx:¬k <xs.length):Xw (xs.drop k) (ys.drop k)=if k <ys.length then-1 else 0:=by
 rw[py hx];split
 .rename_i h;rw[gN h];rfl
 rename_i h;rw[py h];rfl
def A3(s p:ByteArray):Bool:=decide (s.size>=p.size)&&jQ (s.extract 0 p.size) p
structure ak where
 h:Int
 n:Int
 l:Int
abbrev bO(x:ak):List Value:=[zI x.h,zI x.n,zI x.l]
def uh(h n l:Int)(y:ak):Bool:=h==y.h&&(n==y.n&&(l==y.l&&true)&&true)
def aVD{a:ByteArray}:iI zT 318 [.string a] ro (.bool false):=by
 refine zE<|zD 12<|zX (.bool (!(jQ a a))) ⟨by rw[EX.2 rfl];rfl,rfl⟩
def bi1{a b:ByteArray}:iI zT 274 [.string a,.string b] ro (zI (S3 a b)):=by
 refine zE<|zD 7<|zxp [.string a] (λhs=>aVD)<|zD 5<|zxp [.string b] (λhs=>aVD)<|zD 23<|js 16 (strLt a b) (λh1=>?_) (λh1=>?_)
 ·
  refine zD 6<|zX (zI (-1)) ⟨by simp_all[S3],rfl⟩
 refine zD 9<|js 19 (!(strLt a b||jQ a b)) (λh2=>?_) (λh2=>?_)
 ·
  try simp only[zB] at h2
  refine zD 6<|zX (zI 1) ⟨by simp_all[S3],rfl⟩
 try simp only[zB] at h2
 refine zD 7<|zX (zI 0) ⟨by simp_all[S3],rfl⟩
def bbB{v w:Value}{xs:List ByteArray}(hv:dk ro v 1 mG xs)(hw:dk ro w 1 mG ys)(hx:xs.length<=1000)(hy:ys.length<=1000):iI zT 230 [v,w] ro (zI (Xw xs ys)):=by
 obtain⟨Zs,qvb,qvo,Nq,rfl,qvk,qvh,qvl⟩:=hv;obtain⟨wC,R3,R2,uF,rfl,qwk,MB,MA⟩:=hw;refine zE<|zD 12<|iz [1,0,1,0,0] [] (λ(zz:Nat)=>[(0,.slice Zs xs.length Nq),(1,.slice wC ys.length uF),(9,.slice Zs xs.length Nq),(10,zI (xs.length:Int)),(11,zI (zz:Int))]) (λzz=>[]) (λzz=>(zz<=xs.length/\zz<=ys.length)/\Xw xs ys=Xw (xs.drop zz) (ys.drop zz)) (λzz=>xs.length-zz) 0 ⟨by omega,rfl⟩ [] ?_;rintro k hI K1 cU rest;refine zD 5<|zJ 12 ((k:Int) <(xs.length:Int)) (λh1=>?_) λh1=>?_
 ·
  refine zD 7<|zxt xs k Nq 1 qvh qvl λvt iD=>zD 11<|zJ 19 ((k:Int)>=(ys.length:Int)) (λh2=>?_) λh2=>?_
  ·
   refine zD 6<|zX _ ⟨by rw[hI.2,ato iD (by omega)],rfl⟩
  refine zD 6<|zxt ys k uF 1 MB MA λNm jL=>zD 6<|zxp [.string vt,.string Nm] (λhs=>bi1)<|zD 7<|js 28 (!decide ((S3 vt Nm)=0)) (λh3=>?_) (λh3=>?_)
  ·
   replace h3:=af (by simpa using h3);refine zD 7<|zX _ ⟨by rw[hI.2,ail iD jL,cy (by omega)],rfl⟩
  replace h3:=ah (by simpa using h3);refine zD 3<|zW ((k:Int)+1)<|zD 2<|zY cU (k+1) ⟨by omega,by rw[hI.2,ail iD jL,dN (by omega)]⟩ []
 refine zD 11<|zJ 35 ((xs.length:Int) <(ys.length:Int)) (λh4=>?_) λh4=>?_
 ·
  refine zD 6<|zX _ ⟨by rw[hI.2,abZ (by omega),dN (by omega)],rfl⟩
 refine zD 7<|zX _ ⟨by rw[hI.2,abZ (by omega),cy (by omega)],rfl⟩
def akq{a b:ByteArray}(hn:a.size<=1000/\b.size<=1000):iI zT 349 [.string a,.string b] ro (.bool (A3 a b)):=by
 refine zE<|zD 12<|js 10 (decide ((a.size:Int)>=(b.size:Int))) (λh1=>?_) (λh1=>?_)
 ·
  have lF:=h1;replace lF:=ah lF;refine zD 3<|jtH (b:=a) (hi:=(b.size:Int)) (by omega)<|zD 6<|zX (.bool (jQ (a.extract 0 (b.size:Int).toNat) b)) ⟨by simp_all[A3]<;>(intro;omega),rfl⟩
 have lF:=h1;replace lF:=af lF;refine zD 10<|zX (.bool false) ⟨by simp_all[A3]<;>(intro;omega),rfl⟩
def akr{a b:ByteArray}(hn:a.size<=1000/\b.size<=1000):iI zT 337 [.string a,.string b] ro (.bool (A3 a b)):=by
 refine zE<|zD 8<|zxp [.string a,.string b] (λhs=>(akq (by omega)))<|zD 3<|zX _ ⟨rfl,rfl⟩
def aaC{v:Value}{ps:List ak}{h n l:Int}(hp:dk ro v 3 bO ps)(hn:ps.length<=1000):iI zT 133 [v,.agg ⟨[zI h,zI n,zI l]⟩] ro (zI (bM (uh h n l) ps 0)):=by
 obtain⟨gX,xY,xX,gF,rfl,A2,xk,xj⟩:=hp;refine zE<|zD 2<|jn λb3=>zD 10<|iz [1,0,1,0,0] [] (λ(zz:Nat)=>[(0,.slice gX ps.length gF),(3,zP b3),(7,zI (ps.length:Int)),(8,zI (zz:Int))]) (λzz=>[zxc b3 41 [zI h,zI n,zI l]]) (λzz=>zz<=ps.length/\bM (uh h n l) ps 0=bM (uh h n l) (ps.drop zz) zz) (λzz=>ps.length-zz) 0 ⟨by omega,rfl⟩ [0] ?_;rintro k hI K1 cU rest;refine zD 5<|zJ 9 ((k:Int) <(ps.length:Int)) (λh1=>?_) λh1=>?_
 ·
  refine jd 14 [0]<|zxt ps k gF 3 xk xj λvt iD=>jeq aha (Xq h n l vt.h vt.n vt.l)<|zD 1<|js 16 (h==vt.h&&(n==vt.n&&(l==vt.l&&true)&&true)) (λh2=>?_) (λh2=>?_)
  ·
   refine zD 7<|zX (zI (k:Int)) ⟨by rw[hI.2,pZ iD,show uh h n l vt=true from (by assumption)];rfl,rfl⟩
  refine zD 3<|zW ((k:Int)+1)<|zD 2<|zY cU (k+1) ⟨by omega,by rw[hI.2,pZ iD,show uh h n l vt=false from (by assumption)];rfl⟩ [0]
 refine zD 7<|zX (zI (-1)) ⟨by rw[hI.2,Bj (by omega)],rfl⟩
def T6{v:Value}{ps:List ak}{h n l:Int}(hp:dk ro v 3 bO ps)(hn:ps.length<=1000):iI zT 98 [v,.agg ⟨[zI h,zI n,zI l]⟩] ro (.bool (decide (bM (uh h n l) ps 0>=0))):=by
 obtain⟨gX,xY,xX,gF,rfl,A2,xk,xj⟩:=hp;refine zE<|zD 2<|jn λb3=>jd 6 [0]<|zxp [.slice gX ps.length gF,.agg ⟨[zI h,zI n,zI l]⟩] (λhs=>aaC ((show dk _ _ _ _ _ from ⟨gX,xY,xX,gF,rfl,A2,xk,xj⟩).up hs) (by first|omega| (simp only[aM,zM];omega))) ?_;refine zD 4<|zX _ ⟨rfl,rfl⟩
def ao8{v:Value}{ws:List ByteArray}(hv:dk ro v 1 mG ws)(hn:ws.length<=1000)(hW:∀w∈ws,(1<=w.size/\w.size<=6)/\Script w):iI zT 177 [v] ro (zI 0):=by
 obtain⟨Zs,qvb,qvo,Nq,rfl,qvk,qvh,qvl⟩:=hv;refine zE<|zD 12<|iz [1,0,1,0,0] [] (λ(zz:Nat)=>[(6,.slice Zs ws.length Nq),(7,zI (ws.length:Int)),(8,zI (zz:Int))]) (λzz=>[]) (λzz=>zz<=ws.length) (λzz=>ws.length-zz) 0 (by omega) [] ?_;rintro k hI K1 cU rest;refine zD 5<|zJ 9 ((k:Int) <(ws.length:Int)) (λh1=>?_) λh1=>?_
 ·
  refine zD 6<|zxt ws k Nq 1 qvh qvl λx10 KE=>zD 5<|zxp [.string x10] (λhs=>(aea (hW _ (zL KE)).1 (hW _ (zL KE)).2))<|zD 10<|zW ((k:Int)+1)<|zD 2<|zY cU (k+1) (by omega) []
 refine zD 7<|zX _ ⟨rfl,rfl⟩
def FB(w:ByteArray):Prop:=∀b∈w.data.toList,b.toNat <128/\kindOf (b.toNat:Int)=1
def awP(w:ByteArray):Bool:=w.data.toList.all λb=>Nat.blt b.toNat 128&&decide (kindOf (b.toNat:Int)=1)
theorem aej{w:ByteArray}(h:awP w=true):FB w:=λb hb=>by
 have:=cM.1 h b hb;simp only[av,agl,aC] at this;exact this
def aAI(r:fR):Bool:=(Nat.ble 1 r.f.size&&Nat.ble r.f.size 2)&&(Nat.ble r.t.size 2&&(awP r.f&&(awP r.t&& !jQ r.f r.t)))
def ai9:(ah5.all λf=>toW.all λt=>aAI ⟨f,t⟩)=true:=by kernel_rfl
structure wh(r:fR):Prop where
 f1:1<=r.f.size/\r.f.size<=2
 t1:r.t.size<=2
 fl:FB r.f
 tl:FB r.t
 ne:jQ r.f r.t=false
def adC{r:fR}(h:XU r):wh r:=by
 have:=cM.1 (cM.1 ai9 r.f h.1) r.t h.2;simp only[aAI,av,si,az] at this;exact⟨this.1,this.2.1,aej this.2.2.1,aej this.2.2.2.1,this.2.2.2.2⟩
def aP4:iI zT 269 [.int .i32 r] ro (.bool (!decide (kindOf r=1))):=by
 refine zE<|zD 7<|zxp [.int .i32 r] (λhs=>aA6)<|zD 4<|zX _ ⟨rfl,rfl⟩
def bbA{w:ByteArray}(hK:FB w):iI zT 328 [.string w,.func (.func 269) ⟨[]⟩ ⟨[]⟩,.bool true] ro (zI (-1)):=by
 refine zE<|zD 8<|jn λr10=>zD 2<|iz [1,0,1,0,0] [] (λ(zz:Nat)=>[(1,.func (.func 269) ⟨[]⟩ ⟨[]⟩),(2,.bool true),(10,zP r10)]) (λzz=>[.b r10 (.stringIter w zz)]) (λzz=>zz<=w.data.toList.length) (λzz=>w.data.toList.length-zz) 0 (by omega) [0] ?_;rintro p hI K1 cU rest;refine zD 2 ?_;cases akb:w.data.toList[p]? with
 |some x11=>
  refine jnA r10 0 akb (hK _ (zL akb)).1<|zD 14 ?_;have hkk:=(hK _ (zL akb)).2;refine zD 3<|zxp [.int .i32 (x11.toNat:Int)] (λhs=>aP4)<|zD 1<|je (.bool ((!decide (kindOf (x11.toNat:Int)=1))==true)) rfl<|zD 1<|js 19 ((!decide (kindOf (x11.toNat:Int)=1))==true) (λh1=>?_) (λh1=>?_)
  ·
   exfalso;rw[hkk] at h1;cases h1
  refine zD 2<|dX cU (p+1) (by have:=(aA.1 akb).1;omega) (by have:=(aA.1 akb).1;omega) [0] (Sub.refl _)
 |none=>
  refine jnZ r10 0 akb<|zD 10<|zX _ ⟨rfl,rfl⟩
def aOu{w:ByteArray}(hK:FB w):iI zT 309 [.string w,.func (.func 269) ⟨[]⟩ ⟨[]⟩] ro (zI (-1)):=by
 refine zE<|zD 8<|zxp [.string w,.func (.func 269) ⟨[]⟩ ⟨[]⟩,.bool true] (λhs=>(bbA hK))<|zD 3<|zX _ ⟨rfl,rfl⟩
def aOv{w:ByteArray}(hK:FB w):iI zT 268 [.string w,.func (.func 269) ⟨[]⟩ ⟨[]⟩] ro (.bool false):=by
 refine zE<|zD 8<|zxp [.string w,.func (.func 269) ⟨[]⟩ ⟨[]⟩] (λhs=>(aOu hK))<|zD 4<|zX _ ⟨rfl,rfl⟩
def aai{w:ByteArray}{lo:Int}(hK:FB w)(hn:w.size<=1000):iI zT 226 [.string w,zI lo,zI hi] ro (.bool (decide (lo<=w.size)&&decide ((w.size:Int)<=hi))):=by
 refine zE<|zD 11<|jj 5 [(0,.string w),(6,.bool false),(16,.bool ((decide (lo<=(w.size:Int)))&&(decide ((w.size:Int)<=hi))))] (λoX=>?_) (λhj=>?_);rotate_left;refine js 11 (decide (lo<=(w.size:Int))) (λh1=>?_) (λh1=>?_)
 ·
  have lF:=h1;replace lF:=ah lF;refine zD 5<|zxw 16 hj (zya h1)
 ·
  have lF:=h1;replace lF:=af lF;refine zD 5<|zxw 16 hj (zyb h1)
 refine zD 1<|jj 4 [(6,.bool false),(21,.bool (((decide (lo<=(w.size:Int)))&&(decide ((w.size:Int)<=hi)))&&true))] (λoX=>?_) (λhj=>?_);rotate_left;refine js 17 ((decide (lo<=(w.size:Int)))&&(decide ((w.size:Int)<=hi))) (λh2=>?_) (λh2=>?_)
 ·
  have nu:=h2
  try simp only[zB] at nu
  refine zD 1<|zxp [.string w,.func (.func 269) ⟨[]⟩ ⟨[]⟩] (λhs=>(aOv hK))<|zD 2<|zxw 21 hj (zya h2)
 ·
  have nu:=h2
  try simp only[zB] at nu
  refine zD 4<|zxw 21 hj (zyb h2)
 refine zD 3<|zX (.bool (((decide (lo<=(w.size:Int)))&&(decide ((w.size:Int)<=hi)))&&true)) ⟨by simp_all,rfl⟩
def TP{w:ByteArray}{lo:Int}(hK:FB w)(h1:lo<=w.size)(h2:(w.size:Int)<=hi)(h3:w.size<=1000):iI zT 226 [.string w,zI lo,zI hi] ro (.bool true):=by
 have:=aai (ro:=ro) hK h3 (lo:=lo) (hi:=hi);rw[cN h1,cN h2] at this;exact this
def ajG{v:Value}(hv:dk ro v 2 jO rs)(hn:rs.length<=4)(hR:∀r∈rs,wh r):iI zT 176 [v] ro (zI 0):=by
 obtain⟨Zs,qvb,qvo,Nq,rfl,qvk,qvh,qvl⟩:=hv;refine zE<|zD 11<|zJ 7 ((rs.length:Int)>4) (λh1=>?_) λh1=>?_
 ·
  exfalso;omega
 refine zD 10<|iz [1,1,0,1,0,0] [] (λ(zz:Nat)=>[(8,.slice Zs rs.length Nq),(9,zI (rs.length:Int)),(10,zI (zz:Int))]) (λzz=>[]) (λzz=>zz<=rs.length) (λzz=>rs.length-zz) 0 (by omega) [] ?_;rintro k hI K1 cU rest;refine zD 5<|zJ 11 ((k:Int) <(rs.length:Int)) (λh2=>?_) λh2=>?_
 ·
  refine zD 6<|zxt rs k Nq 2 qvh qvl λAH uL=>jn λb4=>jd 3 [0] ?_;have hrp:=(hR _ (zL uL));have hrf:=hrp.f1;have hrt:=hrp.t1;refine jd 3 [0]<|zxp [.string AH.f,zI 1,zI 2] (λhs=>(TP hrp.fl (by omega) (by omega) (by omega)))<|jd 4 [0]<|zxp [.string AH.t,zI 0,zI 2] (λhs=>(TP hrp.tl (by omega) (by omega) (by omega)))<|jd 10 [0,0]<|js 30 (jQ AH.f AH.t) (λh3=>?_) (λh3=>?_)
  ·
   exfalso;rw[hrp.ne] at h3;cases h3
  refine zD 3<|zW ((k:Int)+1)<|zD 2<|zY cU (k+1) (by omega) []
 refine zD 7<|zX _ ⟨rfl,rfl⟩
theorem zf{xs:List α}{a:Option Addr}{o:Nat}(h:∀k,k <xs.length->a=some ⟨b,o,none⟩)(hn:a.isNone=true):xs=[]:=by
 cases xs with
 |nil=>rfl
 |cons x l=>rw[h 0 (by simp)] at hn;cases hn
def aEE{v:Value}{xs:List ByteArray}(hl:dk ro v 1 mG xs)(hn:xs.length<=1000):eT zT 118 [v] ro [] (λr Y=>∃L,bI r 1 9 mG xs L/\Y=L):=by
 obtain⟨fO,rh,q9,fb,rfl,sV,mR,nN⟩:=hl;refine zE<|zD 8<|jsn 29 (a:=fO) (l:=xs.length) (c:=fb)<|zD 1<|js 4 (fO.isNone) (λh1=>?_) (λh1=>?_)
 ·
  refine zD 6<|zX _ ⟨[],by rw[zf mR (by assumption)];exact bI.nil _ _ _,rfl⟩
 refine zD 4<|jn λb5=>zD 1<|zxq mG b5 9 0 fb mR nN λva7 vc7 L7 yl=>zD 3<|zR _ [] [0] L7 ⟨_,yl,rfl⟩
theorem yb{r:Value}{A B:Prop}(h:(r= .bool true/\A)\/(r= .bool false/\B)):∃c,r= .bool c/\(c=true->A)/\(c=false->B):=by grind
def Cz(w f t:ByteArray)(i:Nat):ByteArray:=w.extract 0 (i:Int).toNat++t++w.extract ((i:Int)+(f.size:Int)).toNat w.size
def xV(w f t:ByteArray)(i:Nat):Option ByteArray:=if A3 (w.extract i w.size) f=true/\1<=(Cz w f t i).size/\(Cz w f t i).size<=12 then some (Cz w f t i) else none
def CW(w f t:ByteArray)(k:Nat):List ByteArray:=(List.range k).filterMap (xV w f t)
def My(w f t:ByteArray):List ByteArray:=CW w f t (w.size+1)
theorem J7(w f t:ByteArray)(k:Nat):CW w f t (k+1)=CW w f t k++(xV w f t k).toList:=by
 grind [CW,GC,xV]
def anL(w f t:ByteArray){k:Nat}(h:k<=n):∃l,CW w f t n=CW w f t k++l:=by
 induction n with
 |zero=>exact⟨[],by rw[show k=0 by omega];simp⟩
 |succ n ih=>
  by_cases hk:k=n+1
  .exact⟨[],by rw[hk];simp⟩
  obtain⟨l,hl⟩:=ih (by omega);exact⟨l++(xV w f t n).toList,by rw[J7,hl,bx]⟩
theorem Zn{w f:ByteArray}{k:Nat}(hk:k <n)(h:xV w f t k=some x):(CW w f t n)[(CW w f t k).length]?=some x/\(CW w f t (k+1)).length=(CW w f t k).length+1:=by
 obtain⟨l,hl⟩:=anL w f t (k:=k+1) (n:=n) hk;rw[hl,J7,h]
 grind
theorem agO{w f:ByteArray}{k:Nat}(h:xV w f t k=none):(CW w f t (k+1)).length=(CW w f t k).length:=by
 grind [J7]
abbrev aCr(l:List ByteArray):(Nat->Option Obj)->Nat->List Value->Cells->Prop:=λ_ k vs LL=>∃x,l[k]?=some x/\vs=[.string x]/\LL=[]
theorem FB.ext{w:ByteArray}(h:FB w)(i j:Nat):FB (w.extract i j):=by
 intro b hb;refine h b ?_
 grind [ByteArray.data_extract,Array.toList_extract]
def FB.app{v w:ByteArray}(h:FB v)(k:FB w):FB (v++w):=by
 intro b hb;have:(v++w).data.toList=v.data.toList++w.data.toList:=by rfl
 exact(bJ.1 hb).elim (h b) (k b)
theorem Tt{w f:ByteArray}(hw:FB w)(ht:FB t):FB (Cz w f t i):=((hw.ext _ _).app ht).app (hw.ext _ _)
theorem aol{a b:ByteArray}(h:A3 a b=true):b.size<=a.size:=by
 grind [A3]
def apy(w:ByteArray):Bool:=decide ((1:Int)<=w.size)&&decide ((w.size:Int)<=12)
theorem adI{w f:ByteArray}{k:Nat}(h:A3 (w.extract (k:Int).toNat w.size) f=false):xV w f t k=none:=cy λx=>(by grind)
theorem ajb{w f:ByteArray}{k:Nat}(h:apy (Cz w f t k)=false):xV w f t k=none:=cy λx=>by
 grind [apy,ax,ar]
def adH{w f:ByteArray}{k:Nat}(h:A3 (w.extract (k:Int).toNat w.size) f=true)(h2:apy (Cz w f t k)=true):xV w f t k=some (Cz w f t k):=dN ⟨h,by
 simp only[apy,av,aC] at h2;omega⟩
theorem adG{w f:ByteArray}{k:Nat}(h:w.size<=100/\f.size<=100/\t.size<=100):(Cz w f t k).size<=1000:=by
 grind [Cz,ByteArray.size_append,ByteArray.size_extract]
def avL{w f:ByteArray}{k:Nat}(hk:k<=w.size)(h:xV w f t k=some (Cz w f t k)):(CW w f t k).length <(My w f t).length/\(My w f t)[(CW w f t k).length]?=some (Cz w f t k):=by
 have:=(Zn (n:=w.size+1) (by omega) h).1;exact⟨(aA.1 this).1,this⟩
def afC(w:ByteArray)(a b:Nat):(w.extract a b).size<=w.size:=by simp;omega
theorem asQ(w:ByteArray)(i:Nat)(h:i<=w.size):(w.extract i w.size).size=w.size-i:=by simp
def awD{w f:ByteArray}(g1:ro b1=some (.cells ⟨[.string w]⟩ 263 (0,0)))(g2:ro b2=some (.cells ⟨[.string f]⟩ 9 (0,0)))(g3:ro b3=some (.cells ⟨[.string t]⟩ 9 (0,0)))(hw:FB w)(ht:FB t)(hn:w.size<=100/\f.size<=100/\t.size<=100):ItX zT 336 [] [zP b1,zP b2,zP b3] ro [] (My w f t).length (aCr (My w f t)) (λZ=>Z=[]):=by
 intro bl cK Inv Stop hs hy B hB;replace g1:=hs _ _ g1;replace g2:=hs _ _ g2;replace g3:=hs _ _ g3;refine zC [.l B]<|zD 2<|jl (b:=b1) (off:=0) (m:=1) (vs:=[.string w]) 0 ⟨_,_,_,.inl g1,rfl⟩<|zD 1<|zW ((w.size:Int)+1)<|zD 3<|iz [1,0,0] [] (λ(zz:Nat×Cells)=>[(0,(.func (.yield bl) #[] #[])),(1,zP b1),(2,zP b2),(3,zP b3),(9,zI ((w.size:Int)+1)),(10,zI (zz.1:Int))]) (λzz=>[.l zz.2]) (λzz=>zz.1<=w.size+1/\Inv (CW w f t zz.1).length zz.2) (λzz=>w.size+1-zz.1) (⟨0,B⟩) ⟨by dsimp only;omega,hB⟩ [0] ?_;rintro⟨k,B⟩ hI K1 cU rest;dsimp only at hI;refine zD 5<|zJ 11 ((k:Int) <((w.size:Int)+1)) (λh1=>?_) λh1=>?_
 ·
  refine zD 11 ?_;have he1:=afC w (k:Int).toNat w.size;refine zD 1<|jl (b:=b1) (off:=0) (m:=1) (vs:=[.string w]) 0 ⟨_,_,_,.inl g1,rfl⟩<|zD 1<|jtL (b:=w) (lo:=(k:Int)) (by omega)<|jl (b:=b2) (off:=0) (m:=1) (vs:=[.string f]) 0 ⟨_,_,_,.inl g2,rfl⟩<|zxp [.string (w.extract (k:Int).toNat w.size),.string f] (λhs=>(akr (by omega)))<|zD 2<|js 18 (!(A3 (w.extract (k:Int).toNat w.size) f)) (λh2=>?_) (λh2=>?_)
  ·
   try simp only[zB] at h2
   refine zD 3<|zW ((k:Int)+1)<|zD 2<|zF cU (⟨k+1,B⟩) (by dsimp only;rw[agO (adI (by assumption))];exact hI.2) [0]
  try simp only[zB] at h2
  refine zD 3 ?_;have he2:=afC w 0 (k:Int).toNat;have he3:=afC w ((k:Int)+(f.size:Int)).toNat w.size;have he4:(w.extract 0 (k:Int).toNat++t).size=_:=ByteArray.size_append;have hpr:A3 (w.extract (k:Int).toNat w.size) f=true:=by assumption
  have wm:=aol hpr;rw[asQ _ _ (by omega)] at wm;refine zD 1<|jl (b:=b1) (off:=0) (m:=1) (vs:=[.string w]) 0 ⟨_,_,_,.inl g1,rfl⟩<|zD 1<|jtH (b:=w) (hi:=(k:Int)) (by omega)<|jl (b:=b3) (off:=0) (m:=1) (vs:=[.string t]) 0 ⟨_,_,_,.inl g3,rfl⟩<|jsa (a:=(w.extract 0 (k:Int).toNat)) (b:=t) 263 (by omega)<|jl (b:=b1) (off:=0) (m:=1) (vs:=[.string w]) 0 ⟨_,_,_,.inl g1,rfl⟩<|zD 1<|jl (b:=b2) (off:=0) (m:=1) (vs:=[.string f]) 0 ⟨_,_,_,.inl g2,rfl⟩<|zD 1<|zW ((k:Int)+(f.size:Int))<|jtL (b:=w) (lo:=((k:Int)+(f.size:Int))) (by omega)<|jsa (a:=((w.extract 0 (k:Int).toNat)++t)) (b:=(w.extract ((k:Int)+(f.size:Int)).toNat w.size)) 263 (by omega)<|zD 5<|zxp [.string (((w.extract 0 (k:Int).toNat)++t)++(w.extract ((k:Int)+(f.size:Int)).toNat w.size)),zI 1,zI 12] (λhs=>(aai (Tt (i:=k) hw ht) (adG hn)))<|zD 1<|js 33 (apy (Cz w f t k)) (λh3=>?_) (λh3=>?_)
  ·
   have hry:=adH (t:=t) hpr (by assumption);have ND:=avL (by omega) hry;refine zD 2<|jyc [0] (hy (CW w f t k).length _ [] B cK ND.1 ⟨_,ND.2,rfl,rfl⟩ hI.2 (Sub.refl _)) (Sub.refl _) ?_;intro v4 Y4 hy4;obtain⟨c4,rfl,hc4,hd4⟩:=yb hy4;refine zD 3<|js 38 (!c4) (λh5=>?_) (λh5=>?_)
   ·
    try simp only[zB] at h5
    refine zD 2<|zR (.tuple ⟨[]⟩) [] [0] Y4 ⟨[],Y4,rfl,rfl,.inr (hd4 (by simp_all))⟩
   try simp only[zB] at h5
   refine zD 3<|zW ((k:Int)+1)<|zD 2<|zF cU (⟨k+1,Y4⟩) (by dsimp only;rw[(Zn (n:=k+1) (by omega) hry).2];exact hc4 (by assumption)) [0]
  refine zD 9<|zW ((k:Int)+1)<|zD 2<|zF cU (⟨k+1,B⟩) (by dsimp only;rw[agO (ajb (by assumption))];exact hI.2) [0]
 refine zD 2<|zR (.tuple ⟨[]⟩) [] [0] B ⟨[],B,rfl,rfl,.inl (by have:=hI.2;rwa[show k=w.size+1 by omega] at this)⟩
def x5(rs:List fR):List (ByteArray×ByteArray):=rs.flatMap λr=>[(r.f,r.t),(r.t,r.f)]
abbrev eP2(x:ByteArray×ByteArray):List Value:=[.string x.1,.string x.2]
def pP(w:ByteArray)(ps:List (ByteArray×ByteArray)):List ByteArray:=ps.flatMap λp=>My w p.1 p.2
def AK(w:ByteArray)(rs:List fR):List ByteArray:=pP w (x5 rs)
theorem TJ:∀(rs:List fR),(x5 rs).length=2*rs.length
 | []=>rfl
 |r::rs=>by have:=TJ rs;grind [x5,zM]
def ZR:∀ {rs:List fR} {k q:Nat} {r:fR} {p:ByteArray×ByteArray},rs[k]?=some r->[(r.f,r.t),(r.t,r.f)][q]?=some p->(x5 rs)[2*k+q]?=some p
 | [],_,_,_,_,h,_=>by simp at h
 |r::rs,0,q,_,p,h,h2=>by
  simp only[my,aB] at h;subst h;simp only[x5,iL,Nat.mul_zero,iE];rw[kD (by have:=(aA.1 h2).1;exact this)];exact h2
 |r::rs,k+1,q,_,p,h,h2=>by
  have:=ZR (rs:=rs) (k:=k) (by simpa using h) h2;simp only[x5,iL];rw[sj (by simp;omega)];rw[show 2*(k+1)+q- [(r.f,r.t),(r.t,r.f)].length=2*k+q by simp;omega];exact this
theorem OM{w:ByteArray}{ps:List (ByteArray×ByteArray)}{k:Nat}(h:ps[k]?=some p):pP w (ps.take (k+1))=pP w (ps.take k)++My w p.1 p.2:=by
 simp_all[pP,c8]
theorem avf{w:ByteArray}{ps:List (ByteArray×ByteArray)}{k j:Nat}(h:ps[k]?=some p) (hx:(My w p.1 p.2)[j]?=some x):(pP w (ps.take k)).length+j <(pP w ps).length/\(pP w ps)[(pP w (ps.take k)).length+j]?=some x:=by
 have e:pP w ps=pP w (ps.take (k+1))++pP w (ps.drop (k+1)):=by rw[pP,pP,pP,<-iF,fH]
 grind [aA,pP,OM,bx,sj,kD]
theorem awf{r:fR}{q:Nat}(h:wh r)(hp: [(r.f,r.t),(r.t,r.f)][q]?=some p):FB p.2/\(p.1.size<=100/\p.2.size<=100):=by
 have:=zL hp;have h1:=h.f1;have h2:=h.t1;simp_all;rcases this with rfl|rfl
 .exact⟨h.tl,by dsimp only;omega,by dsimp only;omega⟩
 exact⟨h.fl,by grind,by dsimp only;omega⟩
def ajH{w f:ByteArray}:eT zT 317 [.string w,.string f,.string t] ro [] (λr Y=>∃b3 b4 b5,r= .func (.func 336) ⟨[]⟩ ⟨[zP b3,zP b4,zP b5]⟩/\Y=[(b3,.cells ⟨[.string w]⟩ 263 (0,0)),(b4,.cells ⟨[.string f]⟩ 9 (0,0)),(b5,.cells ⟨[.string t]⟩ 9 (0,0))]):=by
 refine zE<|zD 2<|jn λb3=>jn λb4=>jn λb5=>zD 8<|zR (.func (.func 336) ⟨[]⟩ ⟨[zP b3,zP b4,zP b5]⟩) [] [2,1,0] _ ⟨_,_,_,rfl,rfl⟩
def aFE{w:ByteArray}(hl:dk ro vl 2 jO rs):eT zT 273 [.string w,vl] ro [] (λr Y=>∃b2 b3,r= .func (.func 316) ⟨[]⟩ ⟨[zP b3,zP b2]⟩/\Y=[(b2,.cells ⟨[.string w]⟩ 263 (0,0)),(b3,.cells ⟨[vl]⟩ 30 (0,0))]):=by
 obtain⟨fO,rh,q9,fb,rfl,sV,mR,nN⟩:=hl;refine zE<|zD 2<|jn λb2=>jn λb3=>zD 8<|zR (.func (.func 316) ⟨[]⟩ ⟨[zP b3,zP b2]⟩) [] [1,0] _ ⟨_,_,rfl,rfl⟩
def awC{w:ByteArray}(g1:ro b1=some (.cells ⟨[vl]⟩ 30 (0,0)))(hl:dk ro vl 2 jO rs)(hR:∀r∈rs,wh r)(g2:ro b2=some (.cells ⟨[.string w]⟩ 263 (0,0)))(hw:FB w)(hn:w.size<=100)(hq:rs.length<=100):ItX zT 316 [] [zP b1,zP b2] ro [] (AK w rs).length (aCr (AK w rs)) (λZ=>Z=[]):=by
 intro bl cK Inv Stop hs hy B hB;replace g1:=hs _ _ g1;replace g2:=hs _ _ g2;replace hl:=hl.up hs;obtain⟨fO,rh,q9,fb,rfl,sV,mR,nN⟩:=hl;refine aew bD [.l B] [] de<|zD 2<|jn λb3=>jf [0] [(b3,.cells ⟨[(.func (.yield bl) #[] #[])]⟩ 388 (0,0))] λAD fq iu=>zD 3<|jl (b:=b1) (off:=0) (m:=1) (vs:=[.slice fO rs.length fb]) 0 ⟨_,_,_,.inl (fq _ _ g1),rfl⟩<|zD 4<|uI<|aRz [1,1,0,0] [] (λ(zz:Nat×(List Nat)×Cells)=>[(2,zP b2),(3,zP b3),(9,.slice fO rs.length fb),(10,zI (rs.length:Int)),(11,zI (zz.1:Int))]) (λzz=>[.l (mk zz.2.1),.l zz.2.2]) (λzz=>(zz.2.1.map jP)) (λzz=>zz.1<=rs.length/\Inv (pP w ((x5 rs).take (2*zz.1))).length zz.2.2) (λzz=>rs.length-zz.1) (⟨0,[],B⟩) ⟨by dsimp only;omega,hB⟩ [0,1] ?_;rintro⟨k,Cn,B⟩ hI K1 cU rest;dsimp only at hI;refine zD 5<|zJ 12 ((k:Int) <(rs.length:Int)) (λh4=>?_) λh4=>?_
 ·
  refine zD 6<|zxs rs k fb 2 mR λx13 aaN=>jl 0 ((nN _ _ aaN).ext (xB fq))<|jn λb5=>jd 14 [0,0,0,0,0]<|jn λb25=>zD 4<|aRz [1,1,0,0,1,1,0,0,1,1,0,0] [K1] (λ(zz:Nat×(List Nat)×Cells)=>[(2,zP b2),(3,zP b3),(9,.slice fO rs.length fb),(10,zI (rs.length:Int)),(11,zI (k:Int)),(25,.slice (some ⟨b25,0,none⟩) 2 2),(26,zI 2),(27,zI (zz.1:Int))]) (λzz=>[.l (mk zz.2.1),.l zz.2.2,zxc b25 389 [.string x13.f,.string x13.t,.string x13.t,.string x13.f]]) (λzz=>(zz.2.1.map jP)) (λzz=>zz.1<=2/\Inv (pP w ((x5 rs).take (2*k+zz.1))).length zz.2.2) (λzz=>2-zz.1) (⟨0,Cn,B⟩) ⟨by dsimp only;omega,hI.2⟩ [2,3,0] ?_;rintro⟨q,Cn,B⟩ hJ K2 kU rest;dsimp only at hJ;refine zD 5<|zJ 28 ((q:Int) <2) (λh5=>?_) λh5=>?_
  ·
   refine zD 6 ?_;obtain⟨Ml,xu⟩:=zG ([(x13.f,x13.t),(x13.t,x13.f)]:List _) q (show q <2 from by omega);refine jK (a:=(some ⟨b25,0,none⟩)) (b:=b25) (off:=0) 2 2 (λ_ _=>rfl) xu<|yL (m:=2) 0 [2] [(b25,.cells ⟨([(x13.f,x13.t),(x13.t,x13.f)].map eP2).flatten⟩ 389 (0,0))] (λs _ hZ=>Ka (hZ _ (.head _)) (by intro p hp;rfl) xu) ?_;refine jn λb7=>jd 3 [0] ?_;have hpx:=ZR aaN xu;have hpk:=awf (hR _ (zL aaN)) xu;refine zD 1<|jl (b:=b2) (off:=0) (m:=1) (vs:=[.string w]) 0 ⟨_,_,_,.inl (fq _ _ g2),rfl⟩<|jd 4 [0,0]<|jc (vs:=[.string w,.string Ml.1,.string Ml.2]) [] (ajH) ?_;rintro _ _ ⟨aBa,aA9,aA8,rfl,rfl⟩;refine jg 0 [zxc aBa 263 [.string w],zxc aA9 9 [.string Ml.1],zxc aA8 9 [.string Ml.2]]<|jf [0,1,2] ((aBa,.cells ⟨[.string w]⟩ 263 (0,0))::((aA9,.cells ⟨[.string Ml.1]⟩ 9 (0,0))::[(aA8,.cells ⟨[.string Ml.2]⟩ 9 (0,0))])) λro8 SN hk7=>zD 2<|jrf [] (awD (hk7 _ (.head _)) (hk7 _ (.tail _ (.head _))) (hk7 _ (.tail _ (.tail _ (.head _)))) hw hpk.1 ⟨hn,hpk.2⟩) (by rintro _ _ _ _ ⟨_,_,rfl,_⟩;rfl) (λ(zz:Cells)=>[.l zz]) (λkk=>(λ(zz:Cells)=>Inv ((pP w ((x5 rs).take (2*k+q))).length+kk) zz)) (λjump=>(λ(zz:Cells)=>jump= .ret/\Stop zz)) B (show Inv (_+0) _ from hJ.2) [2] ?_ ?_ ?_
   ·
    rintro bl9 bd9 kk9 vs9 LL9 B ro9 SV aIa hL hs9;obtain⟨x9,hx9,rfl,rfl⟩:=aIa;have hu:=avf hpx hx9;refine zD 3<|jbg<|zD 3<|jl (b:=b3) (off:=0) (m:=1) (vs:=[(.func (.yield bl) #[] #[])]) 0 ⟨_,_,_,.inl (hs9 _ _ (SN _ _ (iu _ (.head _)))),rfl⟩<|zD 1<|jyc [1] (hy ((pP w ((x5 rs).take (2*k+q))).length+kk9) _ [] B ro9 hu.1 ⟨_,hu.2,rfl,rfl⟩ hL ((fq.trans SN).trans hs9)) (Sub.refl _) ?_;intro v10 Y10 ber;obtain⟨c10,rfl,aIy,aIr⟩:=yb ber;refine zD 2<|js 41 (!c10) (λyX=>?_) (λyX=>?_)
    ·
     try simp only[zB] at yX
     refine zD 2<|jys qy0 (Sub.refl _) .ret Y10 ⟨rfl,aIr (by simp_all)⟩ [1,0]
    try simp only[zB] at yX
    refine zD 2<|jyn qy0 (Sub.refl _) Y10 (aIy (by simp_all)) [1,0]
   ·
    rintro bd9 B Z9 hL hZ9;subst hZ9;refine zD 1<|zW ((q:Int)+1)<|zD 2<|jnD kU (⟨q+1,(bd9::Cn),B⟩) ⟨by dsimp only;omega,by dsimp only;rw[<-Nat.add_assoc,OM hpx,List.length_append];exact hL⟩ (by dsimp only;omega) [[0,4],[2],[5]] SN
   rintro bd9 B Z9 jump hS hZ9;obtain⟨rfl,hS⟩:=hS;subst hZ9;exact jrM qm0.a.w.w.a.m (.tuple ⟨[]⟩) [0,4] [] [1] B (fq.trans SN) ⟨[],B,rfl,rfl,.inr hS⟩
  refine zD 3<|zW ((k:Int)+1)<|zD 2<|jnD cU (⟨k+1,Cn,B⟩) ⟨by dsimp only;omega,by have:=hJ.2;dsimp only;rwa[show 2*(k+1)=2*k+q by omega]⟩ (by dsimp only;omega) [[0],[1]] (Sub.refl _)
 refine zD 2<|jrM qm0.a.w (.tuple ⟨[]⟩) [0] [] [0] B fq ⟨[],B,rfl,rfl,.inl (by have:=hI.2;rwa[show k=rs.length by omega,bF (by rw[TJ];exact bk _)] at this)⟩
instance:LawfulBEq ByteArray where
 eq_of_beq:=λh=>by rw[XI] at h;exact ah h
 rfl:=λ{a}=>by rw[XI];exact cN rfl
def dd(l:List ByteArray):List ByteArray:=l.foldl (λa x=>if x∈a then a else a++[x]) []
theorem Xs(l:List ByteArray)(x:ByteArray):dd (l++[x])=if x∈dd l then dd l else dd l++[x]:=by grind [dd]
theorem aJ8(a:List ByteArray):∀b:List ByteArray,∃r,dd (a++b)=dd a++r:=by
 intro b
 induction b generalizing a with
 |nil=>simp
 |cons x b ih=>
  obtain⟨r,hr⟩:=ih (a++[x])
  grind [Xs]
abbrev kvS:ByteArray->Value:=λa=> .string a
def mF(m:List ByteArray):List (ByteArray×Value):=m.map λx=>(x,.bool true)
theorem afu(k:ByteArray):∀(m:List ByteArray) (i:Nat),(ub k (mF m) i).map (·.2)=if k∈m then some (.bool true) else none
 | [],_=>rfl
 |x::m,i=>by
  simp only[mF,bR,ub];by_cases h:k=x
  .grind
  have:=afu k m (i+1)
  grind [mF]
theorem aQH{k:ByteArray}{m:List ByteArray}:R5 (.bool false) false k (mF m)= .bool (decide (k∈m)):=by
 grind [R5,lkM,afu]
theorem aDV{k:ByteArray}{m:List ByteArray}(h:decide (k∈m)=false):iS k (.bool true) (mF m)=mF (m++[k]):=by
 grind [afu,iS,ub,mF]
theorem atg{l:List ByteArray}{k:Nat}(hx:l[k]?=some x) (h:decide (x∈dd (l.take k))=true):dd (l.take (k+1))=dd (l.take k):=by
 rw[c8 hx,Xs,dN (ah h)]
theorem afM{l:List ByteArray}{k:Nat}(hx:l[k]?=some x) (h:decide (x∈dd (l.take k))=false):dd (l.take (k+1))=dd (l.take k)++[x]:=by
 rw[c8 hx,Xs,cy (af h)]
theorem aJ9{l:List ByteArray}{k:Nat}(hx:l[k]?=some x) (h:decide (x∈dd (l.take k))=false):∃r,dd l=dd (l.take k)++[x]++r:=by
 obtain⟨r,hr⟩:=aJ8 (l.take (k+1)) (l.drop (k+1))
 grind [fH,afM]
def Yy(rs:List fR)(to:ByteArray):Nat->ByteArray->List ByteArray->List (List ByteArray)
 |0,w,b=>if jQ w to=true then [b++[w]] else []
 |n+1,w,b=>(dd (AK w rs)).flatMap λs=>Yy rs to n s (b++[w])
theorem Xy{to:ByteArray}:∀ {n:Nat} {w:ByteArray} {b x:List ByteArray},x∈Yy rs to n w b->x.length=b.length+n+1
 |0,w,b,x,h=>by
  grind [Yy]
 |n+1,w,b,x,h=>by
  simp only[Yy,fG] at h;obtain⟨s,_,h2⟩:=h;have:=Xy h2
  grind
theorem ave{w:ByteArray}(hR:∀r∈rs,wh r)(hw:FB w)(h:x∈AK w rs):FB x/\x.size<=12:=by
 simp only[AK,pP,x5,fG,My,CW,List.mem_filterMap] at h;obtain⟨p,⟨r,hr,hp⟩,i,_,hi⟩:=h;have ht:FB p.2:=by
  simp_all;rcases hp with rfl|rfl
  .exact(hR r hr).tl
  exact(hR r hr).fl
 grind [xV,Tt]
abbrev ayQ(L:List (List ByteArray)):(Nat->Option Obj)->Nat->List Value->Cells->Prop:=λ_ k vs LL=>∃x v,L[k]?=some x/\vs=[v]/\bI v 1 9 mG x LL
structure auj(ro:Nat->Option Obj)(bl:Nat)(rs:List fR)(to:ByteArray)(many bm bt dP br bg:Nat)(vl:Value):Prop where
 m:ro bm=some (.cells ⟨[zI (many:Int)]⟩ 3 (0,0))
 t:ro bt=some (.cells ⟨[.string to]⟩ 263 (0,0))
 y:ro dP=some (.cells ⟨[.func (.yield bl) #[] #[]]⟩ 346 (0,0))
 r:ro br=some (.cells ⟨[vl]⟩ 30 (0,0))
 g:ro bg=some (.cells ⟨[.func (.func 272) ⟨[]⟩ ⟨[zP bm,zP bt,zP dP,zP br,zP bg]⟩]⟩ 347 (0,0))
 l:dk ro vl 2 jO rs
def auj.up{bU:Nat->Option Obj}{to:ByteArray}(h:auj ro bl rs to many bm bt dP br bg vl)(hs:Sub ro bU):auj bU bl rs to many bm bt dP br bg vl:=
 ⟨hs _ _ h.m,hs _ _ h.t,hs _ _ h.y,hs _ _ h.r,hs _ _ h.g,h.l.up hs⟩
def aCW(bl:Nat)(rs:List fR)(to:ByteArray)(many bm bt dP br bg:Nat)(vl:Value)(L:List (List ByteArray))(Inv:Nat->Cells->Prop)(Stop:Cells->Prop)(n:Nat):Prop:=
 ∀(ro:Nat->Option Obj) (w:ByteArray) (b:List ByteArray) (v:Value) (p:Nat) (B:Cells),auj ro bl rs to many bm bt dP br bg vl->dk ro v 1 mG b->b.length+n=many->FB w->w.size<=100->Part L p (Yy rs to n w b)->Inv p B->YOK zT bl ro L.length (ayQ L) Inv Stop->
  eT zT 272 [.string w,v,zP bm,zP bt,zP dP,zP br,zP bg] ro B (λr Y=>∃c,r= .bool c/\(c=true->Inv (p+(Yy rs to n w b).length) Y)/\(c=false->Stop Y))
def aFG{w:ByteArray}{b:List ByteArray}{v:Value}{p:Nat}{B:Cells}{to:ByteArray}{L:List (List ByteArray)}{Inv:Nat->Cells->Prop}(ih:∀m,m <n->aCW bl rs to many bm bt dP br bg vl L Inv Stop m)(hR:∀r∈rs,wh r)(hq:rs.length<=100)(ahM:many<=100)(abg:auj ro bl rs to many bm bt dP br bg vl)(hb:dk ro v 1 mG b)(hbn:b.length+n=many)(hw:FB w)(xP:w.size<=100)(hP:Part L p (Yy rs to n w b))(hB:Inv p B)(hy:YOK zT bl ro L.length (ayQ L) Inv Stop):eT zT 272 [.string w,v,zP bm,zP bt,zP dP,zP br,zP bg] ro B (λr Y=>∃c,r= .bool c/\(c=true->Inv (p+(Yy rs to n w b).length) Y)/\(c=false->Stop Y)):=by
 obtain⟨gm,gt,gy,gl,gg,hl⟩:=id abg;obtain⟨fO,rh,q9,fb,rfl,sV,mR,nN⟩:=hl;obtain⟨aO8,bb5,bbZ,aO7,rfl,bb3,bb4,bb0⟩:=hb;refine aew bD [.l B] [] de<|zD 2<|jn λb9=>zD 4<|jc (vs:=[.slice aO8 b.length aO7]) [] (aEE (show dk _ _ _ _ _ from ⟨aO8,bb5,bbZ,aO7,rfl,bb3,bb4,bb0⟩) (by first|omega| (simp only[aM,zM];omega))) ?_;rintro RV Bu ⟨_,KH,rfl⟩;refine zD 1<|jn λb16=>zxl mG b16 w 1 0 (KH) (λNo Nn L17 aeN=>?_) (hb:=by simp only[aJ,aO];omega);refine jn λCH=>jd 7 [0,0]<|jl (b:=bm) (off:=0) (m:=1) (vs:=[zI (many:Int)]) 0 ⟨_,_,_,.inl gm,rfl⟩<|zD 2<|zJ 21 (((b++[w]).length:Int)>(many:Int)) (λh1=>?_) λh1=>?_
 ·
  refine zD 2 ?_;obtain rfl:n=0:=by simp only[zM] at*;omega
  refine zD 2<|jl (b:=bt) (off:=0) (m:=1) (vs:=[.string to]) 0 ⟨_,_,_,.inl gt,rfl⟩<|zD 2<|js 25 (!(jQ w to)) (λh2=>?_) (λh2=>?_)
  ·
   have nu:=h2
   try simp only[zB] at nu
   refine jd 7 [3]<|jrM qm0 (.bool true) [] [3] [4] B (Sub.refl _) ⟨_,rfl,(λ_=>by rw[show Yy rs to 0 w b=[] from cy (by simp_all)];exact hB),nofun⟩
  have nu:=h2
  try simp only[zB] at nu
  have aq5:Yy rs to 0 w b=[b++[w]]:=dN (by simp_all);have hel:=Part.get (i:=0) (x:=b++[w]) hP (by rw[aq5];rfl);refine jl (b:=dP) (off:=0) (m:=1) (vs:=[(.func (.yield bl) #[] #[])]) 0 ⟨_,_,_,.inl gy,rfl⟩<|jd 1 [0]<|jyc [1,4] (hy p [(.slice No ((b++[w])).length Nn)] L17 B ro hel.1 ⟨_,_,hel.2,rfl,aeN⟩ hB (Sub.refl _)) (Sub.refl _) ?_;intro v28 Y28 bep;obtain⟨c28,rfl,bg3,bgQ⟩:=yb bep;refine jd 4 [3]<|jrM qm0 (.bool c28) [] [3] [0] Y28 (Sub.refl _) ⟨_,rfl,(λh=>by rw[aq5];exact bg3 h),bgQ⟩
 refine zD 3 ?_;obtain⟨m,rfl⟩:∃m,n=m+1:=⟨n-1,by simp only[zM] at*;omega⟩;refine zD 1<|jmk kvS λAT L30 ake=>jn λwM=>jd 5 [0]<|jf [2,0,3] ((CH,.cells ⟨[(.slice No ((b++[w])).length Nn)]⟩ 29 (0,0))::((wM,.cells ⟨[(.map (some AT))]⟩ 348 (0,0))::L17)) (λro5 hs3 hk4=>?_);have Om:=aeN.ju hk4.tail.tail;replace abg:=abg.up hs3;replace hy:=hy.up hs3;refine zD 1<|jl (b:=br) (off:=0) (m:=1) (vs:=[.slice fO rs.length fb]) 0 ⟨_,_,_,.inl (hs3 _ _ gl),rfl⟩<|jc (vs:=[.string w,.slice fO rs.length fb]) [] (aFE ((show dk _ _ _ _ _ from ⟨fO,rh,q9,fb,rfl,sV,mR,nN⟩).up hs3)) ?_;rintro _ _ ⟨aBc,aBb,rfl,rfl⟩;refine jg 0 [zxc aBc 263 [.string w],zxc aBb 30 [.slice fO rs.length fb]]<|jf [0,1] ((aBc,.cells ⟨[.string w]⟩ 263 (0,0))::[(aBb,.cells ⟨[.slice fO rs.length fb]⟩ 30 (0,0))]) λro8 SN hk7=>zD 2<|jrf [] (awC (hk7 _ (.tail _ (.head _))) (abg.l.up SN) hR (hk7 _ (.head _)) hw xP hq) (by rintro _ _ _ _ ⟨_,_,rfl,_⟩;rfl) (λ(zz:Bool×Cells×Cells)=>[zxc b9 4 [.bool zz.1],.l zz.2.1,.l zz.2.2]) (λkk=>(λ(zz:Bool×Cells×Cells)=>Inv (p+((dd ((AK w rs).take kk)).flatMap λs=>Yy rs to m s (b++[w])).length) zz.2.2/\g9 AT kvS (mF (dd ((AK w rs).take kk))) zz.2.1)) (λjump=>(λ(zz:Bool×Cells×Cells)=>jump= .ret/\(zz.1=false/\Stop zz.2.2))) (⟨false,L30,B⟩) ⟨hB,ake⟩ [2,0,3] ?_ ?_ ?_
 ·
  rintro bl9 bd9 kk9 vs9 LL9 ⟨rv,Lm,B⟩ ro9 SV aIa hL hs9;obtain⟨x9,hx9,rfl,rfl⟩:=aIa;have hue:=ave hR hw (zL hx9);refine zD 3<|jbg<|zD 4<|jl (b:=wM) (off:=0) (m:=1) (vs:=[(.map (some AT))]) 0 ⟨_,_,_,.inl (hs9 _ _ (SN _ _ (hk4 _ (.tail _ (.head _))))),rfl⟩<|zD 1<|jlu (kv:=kvS) (F:=(mF (dd ((AK w rs).take kk9)))) (r:=AT) (K:=263) x9 (.bool false) false [2] Lm (ahq (T:=263) (by kernel_rfl)) (λs _ hZ=>hL.2.has hZ)<|jw 37 (.bool (decide (x9∈(dd ((AK w rs).take kk9))))) aQH<|zD 1<|js 37 (decide (x9∈(dd ((AK w rs).take kk9)))) (λwq=>?_) (λwq=>?_)
  ·
   refine zD 2<|jyn qy0 (Sub.refl _) ⟨rv,Lm,B⟩ ⟨by rw[atg hx9 (by assumption)];exact hL.1,by rw[atg hx9 (by assumption)];exact hL.2⟩ (zN 0 4)
  have Bf:decide (x9∈dd ((AK w rs).take kk9))=false:=by assumption
  obtain⟨rr,hrr⟩:=aJ9 hx9 Bf;have aSs:=Part.flat (G:=λs=>Yy rs to m s (b++[w])) hP hrr;refine zD 4<|jl (b:=wM) (off:=0) (m:=1) (vs:=[(.map (some AT))]) 0 ⟨_,_,_,.inl (hs9 _ _ (SN _ _ (hk4 _ (.tail _ (.head _))))),rfl⟩<|zD 1<|We (kv:=kvS) (F:=(mF (dd ((AK w rs).take kk9)))) (r:=AT) (K:=263) 2 x9 (.bool true) (ahq (T:=263) (by kernel_rfl)) hL.2 λalk aeT=>zD 3<|jl (b:=bg) (off:=0) (m:=1) (vs:=[.func (.func 272) ⟨[]⟩ ⟨[zP bm,zP bt,zP dP,zP br,zP bg]⟩]) 0 ⟨_,_,_,.inl (hs9 _ _ (SN _ _ (hs3 _ _ gg))),rfl⟩<|zD 1<|jl (b:=CH) (off:=0) (m:=1) (vs:=[(.slice No ((b++[w])).length Nn)]) 0 ⟨_,_,_,.inl (hs9 _ _ (SN _ _ (hk4 _ (.head _)))),rfl⟩<|jc (vs:=[.string x9,(.slice No ((b++[w])).length Nn),zP bm,zP bt,zP dP,zP br,zP bg]) [3] (ih m (by omega) _ _ _ _ (p+((dd ((AK w rs).take kk9)).flatMap λs=>Yy rs to m s (b++[w])).length) _ (abg.up (SN.trans hs9)) (Om.up (SN.trans hs9)) (by simp only[zM];omega) hue.1 (by omega) aSs hL.1 (hy.up (SN.trans hs9))) ?_;rintro _ Y43 ⟨c43,rfl,bg1,bgN⟩;refine zD 2<|js 44 (!c43) (λYu=>?_) (λYu=>?_)
  ·
   try simp only[zB] at Yu
   refine jd 6 [3]<|jys qy0 (Sub.refl _) .ret ⟨false,alk,Y43⟩ ⟨rfl,rfl,bgN (by simp_all)⟩ [2,3,1,0]
  try simp only[zB] at Yu
  refine zD 2<|jyn qy0 (Sub.refl _) ⟨rv,alk,Y43⟩ ⟨by rw[afM hx9 Bf,iF,aL,<-Nat.add_assoc];have:=bg1 (by simp_all);simpa using this,by rw[afM hx9 Bf,<-aDV Bf];exact aeT⟩ [2,3,1,0]
 ·
  rintro bd9 ⟨rv,Lm,B⟩ Z9 hL hZ9;subst hZ9;refine jd 5 [2]<|jrM qm0.a.a.m (.bool true) [0] [1] [3] B (hs3.trans SN) ⟨_,rfl,(λ_=>by have:=hL.1;rwa[bF (bk _)] at this),nofun⟩
 rintro bd9 ⟨rv,Lm,B⟩ Z9 jump hS hZ9;obtain⟨rfl,hS⟩:=hS;obtain⟨rfl,hS⟩:=hS;subst hZ9;exact jrM qm0.a.a.m (.bool false) [0] [1] [3] B (hs3.trans SN) ⟨_,rfl,nofun,λ_=>hS⟩
def aP5{to:ByteArray}{L:List (List ByteArray)}{Inv:Nat->Cells->Prop}(hR:∀r∈rs,wh r)(hq:rs.length<=100)(ahM:many<=100):∀n,aCW bl rs to many bm bt dP br bg vl L Inv Stop n:=by
 intro n
 induction n using Nat.strongRecOn with
 |_ n ih=>exact λro w b v p B hc hb hbn hw xP hP hB hy=>aFG ih hR hq ahM hc hb hbn hw xP hP hB hy
def ajI{w to:ByteArray}(g1:ro b1=some (.cells ⟨[zI (many:Int)]⟩ 3 (0,0)))(g2:ro b2=some (.cells ⟨[.string to]⟩ 263 (0,0)))(g3:ro b3=some (.cells ⟨[vl]⟩ 30 (0,0)))(g4:ro b4=some (.cells ⟨[.string w]⟩ 263 (0,0)))(hl:dk ro vl 2 jO rs)(hR:∀r∈rs,wh r)(hw:FB w)(xP:w.size<=100)(hq:rs.length<=100)(ahM:many<=100):ItX zT 271 [] [zP b1,zP b2,zP b3,zP b4] ro [] (Yy rs to many w []).length (ayQ (Yy rs to many w [])) (λZ=>Z=[]):=by
 intro bl cK Inv Stop hs hy B hB;replace g1:=hs _ _ g1;replace g2:=hs _ _ g2;replace g3:=hs _ _ g3;replace g4:=hs _ _ g4;replace hl:=hl.up hs;have hlr:=hl;obtain⟨fO,rh,q9,fb,rfl,sV,mR,nN⟩:=hl;refine zC [.l B]<|zD 2<|jn λb5=>zD 3<|jn λb6=>jd 8 [0,0]<|jl (b:=b4) (off:=0) (m:=1) (vs:=[.string w]) 0 ⟨_,_,_,.inl g4,rfl⟩<|jf [1,0] ((b5,.cells ⟨[(.func (.yield bl) #[] #[])]⟩ 346 (0,0))::[(b6,.cells ⟨[.func (.func 272) ⟨[]⟩ ⟨[zP b1,zP b2,zP b5,zP b3,zP b6]⟩]⟩ 347 (0,0))]) λAD fq iu=>jc (vs:=[.string w,zS,zP b1,zP b2,zP b5,zP b3,zP b6]) [0] (aP5 hR hq ahM many _ _ _ _ 0 _ ⟨fq _ _ g1,fq _ _ g2,iu _ (.head _),fq _ _ g3,iu _ (.tail _ (.head _)),hlr.up fq⟩ (dk.nil _ _ _ _ _) (by simp) hw xP ⟨[],[],by simp,rfl⟩ hB (YOK.up hy fq)) ?_;rintro _ Y10 ⟨c10,rfl,aIy,aIr⟩;refine zD 1<|cd q0.a (.tuple ⟨[]⟩) [] [0] Y10 fq ⟨_,_,rfl,rfl,[],Y10,rfl,rfl,by cases c10 with|true=>exact .inl (by simpa using aIy rfl)|false=>exact .inr (aIr rfl)⟩
def ao9{w to:ByteArray}{many:Int}(hl:dk ro vl 2 jO rs):eT zT 229 [.string w,vl,.string to,zI many] ro [] (λr Y=>∃b4 b5 b6 b7,r= .func (.func 271) ⟨[]⟩ ⟨[zP b7,zP b6,zP b5,zP b4]⟩/\Y=[(b4,.cells ⟨[.string w]⟩ 263 (0,0)),(b5,.cells ⟨[vl]⟩ 30 (0,0)),(b6,.cells ⟨[.string to]⟩ 263 (0,0)),(b7,.cells ⟨[zI many]⟩ 3 (0,0))]):=by
 obtain⟨fO,rh,q9,fb,rfl,sV,mR,nN⟩:=hl;refine zE<|zD 2<|jn λb4=>jn λb5=>jn λb6=>jn λb7=>zD 8<|zR (.func (.func 271) ⟨[]⟩ ⟨[zP b7,zP b6,zP b5,zP b4]⟩) [] [3,2,1,0] _ ⟨_,_,_,_,rfl,rfl⟩
def aFH{L:List (List ByteArray)}(hit:ItX zT 271 [] [zP b1,zP b2,zP b3,zP b4] ro [] L.length (ayQ L) (λZ=>Z=[]))(hL:∀x∈L,x.length<=1000):eT zT 228 [.func (.func 271) ⟨[]⟩ ⟨[zP b1,zP b2,zP b3,zP b4]⟩,.func (.func 230) ⟨[]⟩ ⟨[]⟩] ro [] (λr Y=>∃v,r= .tuple ⟨[v,.bool (decide (0 <L.length))]⟩/\∃ps,bI v 1 9 mG ps Y/\(0 <L.length->ps∈L)):=by
 refine aew bD [] [] de<|zD 2<|jn λb3=>zD 2<|jf [0] [(b3,.cells ⟨[.func (.func 230) ⟨[]⟩ ⟨[]⟩]⟩ 315 (0,0))] λAD fq iu=>zD 3<|jn λb6=>zD 3<|jn λb7=>jd 8 [0]<|uI<|jrf [] (hit.up fq) (by rintro _ _ _ _ ⟨_,_,_,rfl,_⟩;rfl) (λ(zz:Value×(List ByteArray)×Cells×Bool)=>[zxc b6 29 [zz.1],zxc b7 4 [.bool zz.2.2.2],.l zz.2.2.1]) (λkk=>(λ(zz:Value×(List ByteArray)×Cells×Bool)=>bI zz.1 1 9 mG zz.2.1 zz.2.2.1/\zz.2.2.2=decide (0 <kk)/\(0 <kk->zz.2.1∈L)/\zz.2.1.length<=1000)) (λjump=>(λ(zz:Value×(List ByteArray)×Cells×Bool)=>False)) (⟨zS,[],[],false⟩) ⟨bI.nil _ _ _,rfl,nofun,by simp⟩ [2,1,0] ?_ ?_ ?_
 ·
  rintro bl4 bd4 kk4 vs4 LL4 ⟨v,ps,Lb,sm⟩ ro4 hk4 ae2 hI yj;obtain⟨x4,v4,hx4,rfl,ho4⟩:=ae2;have hxl:=hL _ (zL hx4);have wm:=hI.2.2.2;refine zD 3<|jbg<|jd 6 [2]<|js 13 (!sm) (λh5=>?_) (λh5=>?_)
  ·
   have IP:=h5
   try simp only[zB] at IP
   refine zD 10 ?_;obtain⟨va6,vc6,he6⟩:=ho4.form;subst he6;refine jd 3 [1,2]<|jyn qy0 (Sub.refl _) ⟨(.slice va6 (x4).length vc6),x4,LL4,true⟩ ⟨ho4,rfl,λ_=>zL hx4,hxl⟩ [0,1,2,4]
  have IP:=h5
  try simp only[zB] at IP
  refine jl (b:=b3) (off:=0) (m:=1) (vs:=[.func (.func 230) ⟨[]⟩ ⟨[]⟩]) 0 ⟨_,_,_,.inl (yj _ _ (iu _ (.head _))),rfl⟩<|jd 2 [1]<|jp (vs:=[v4,v]) [4,3] (LL4++Lb) (λcK hs hZ=>bbB (ho4.ju hZ.left) (hI.1.ju hZ.right) (by first|omega| (simp only[aM,zM];omega)) (by first|omega| (simp only[aM,zM];omega))) ?_;refine zD 3<|zJ 19 ((Xw x4 ps) <0) (λh7=>?_) λh7=>?_
  ·
   refine zD 3 ?_;obtain⟨va8,vc8,he8⟩:=ho4.form;subst he8;refine jd 3 [1,2]<|jyn qy0 (Sub.refl _) ⟨(.slice va8 (x4).length vc8),x4,LL4,true⟩ ⟨ho4,rfl,λ_=>zL hx4,hxl⟩ [0,1,2,4]
  refine zD 2<|jyn qy0 (Sub.refl _) ⟨v,ps,Lb,sm⟩ ⟨hI.1,by have:=hI.2.1;simp_all,λ_=>hI.2.2.1 (by have:=hI.2.1;simp_all),wm⟩ (zN 0 4)
 ·
  rintro bd4 ⟨v,ps,Lb,sm⟩ Z4 hI hZ4;subst hZ4;refine jd 8 [2,3]<|jrM qm0.a.m (.tuple ⟨[v,.bool sm]⟩) [0] [] [3] Lb fq ⟨v,by rw[<-hI.2.1],ps,hI.1,hI.2.2.1⟩
 rintro bd4 ⟨v,ps,Lb,sm⟩ Z4 jump hS hZ4;exact hS.elim
abbrev eBy(x:Int):List Value:=[.int .u8 x]
def aU7:EF zT 345 (Extern.BytealgMakeNoZero.makeNoZero #[3] #[377]):=⟨Tryz.f345,Tryz.func345,by kernel_rfl,by kernel_rfl,by kernel_rfl,by kernel_rfl⟩
def aEn:=(q6 Tryz.typeInfo377 Tryz.underlying377 rfl rfl rfl rfl rfl rfl:TF zT 377 _ 1 24 _ false)
def aoA:bI (.slice (some ⟨b,0,none⟩) 0 l.length) 1 T eBy ([]:List Int) [(b,.cells ⟨l⟩ T (0,0))]:= .inr ⟨b,l,_,rfl,rfl,by simp,by simp,by simp,by rfl⟩
theorem awh{v:Value}{c:Int}{L:Cells}(h:bI v 1 T eBy [c] L):∃b l cap,cap≠0/\v= .slice (some ⟨b,0,none⟩) 1 cap/\L=[(b,.cells ⟨.int .u8 c::l⟩ T (0,0))]:=by
 rcases h with ⟨_,h,_⟩| ⟨b,l,cap,h1,h2,h3,h4,_,h6⟩
 .cases h
 simp only[aJ,aO] at h1 h4 h6;cases l with
 |nil=>simp at h3;omega
 |cons x l=>
  grind
def akR(n:Int):ByteArray:=⟨#[n.toNat.toUInt8]⟩
def aU8:EF zT 344 Extern.AbiNoEscape.same:=⟨Tryz.f344,Tryz.func344,by kernel_rfl,by kernel_rfl,by kernel_rfl,by kernel_rfl⟩
def aVY{v:Value}:eT zT 329 [zP b] ro [(b,.cells ⟨[.pointer none,v]⟩ 379 (0,0))] (λr Y=>Y=[(b,.cells ⟨[zP b,v]⟩ 379 (0,0))]):=by
 refine zC [zxc b 379 [.pointer none,v]]<|jd 12 [0]<|jmo [0] [0,0] [(b,.cells ⟨[.pointer none,v]⟩ 379 (0,0))] (zP b)<|jg 0 [zxc b 379 [.pointer none,v]]<|bdU (v:= zP b) aU8<|jmo [0] [0,0] [(b,.cells ⟨[.pointer none,v]⟩ 379 (0,0))] (zP b)<|jg 0 [zxc b 379 [.pointer none,v]]<|jd 4 [0]<|zR (.tuple ⟨[]⟩) [] [0] _ rfl
def aVX{v:Value}:eT zT 329 [zP b] ro [(b,.cells ⟨[zP b,v]⟩ 379 (0,0))] (λr Y=>Y=[(b,.cells ⟨[zP b,v]⟩ 379 (0,0))]):=by
 refine zC [zxc b 379 [zP b,v]]<|jd 16 [0,0]<|jpn (b:=b)<|jg 0 []<|zD 3<|zR (.tuple ⟨[]⟩) [] [0] _ rfl
def aVI:eT zT 330 [zP b,zI 1] ro [(b,.cells ⟨[zP b,zS]⟩ 379 (0,0))] (λr Y=>∃v L,bI v 1 5 eBy ([]:List Int) L/\Y=(b,.cells ⟨[zP b,v]⟩ 379 (0,0))::L):=by
 refine zC [zxc b 379 [zP b,zS]]<|jd 6 [0]<|jcp (c:=0)<|jd 8 [0]<|zxo 8 λuk=>jnz (n:=1) aU7 rfl aEn (by omega) λbb lz hlz=>jg 0 [.b bb (.cells ⟨lz⟩ 5 (0,0))]<|eH uk [1]<|js0 (a:=⟨bb,0,none⟩) (l:=1) (c:=lz.length)<|jd 9 [1]<|jmo [] [] [] (zI 0)<|jg 0 []<|jd 8 [1]<|zR (.tuple ⟨[]⟩) [] [1,0] ((b,.cells ⟨[zP b,(.slice (some ⟨bb,0,none⟩) 0 lz.length)]⟩ 379 (0,0))::[(bb,.cells ⟨lz⟩ 5 (0,0))]) ⟨_,_,aoA,rfl⟩
def aVW:eT zT 310 [zP b,zI 1] ro [(b,.cells ⟨[.pointer none,zS]⟩ 379 (0,0))] (λr Y=>∃v L,bI v 1 5 eBy ([]:List Int) L/\Y=(b,.cells ⟨[zP b,v]⟩ 379 (0,0))::L):=by
 refine zC [zxc b 379 [.pointer none,zS]]<|zD 3<|jc (vs:=[zP b]) [0] (aVY (v:= zS)) ?_;rintro _ _ rfl;refine jg 0 [zxc b 379 [zP b,zS]]<|jd 15 [0]<|jcp (c:=0)<|jd 13 [0]<|jc (vs:=[zP b,zI 1]) [0] (aVI) ?_;rintro _ _ ⟨v,L,hv,rfl⟩;refine jg 0 [zxc b 379 [zP b,v],.l L]<|zD 1<|zR (.tuple ⟨[]⟩) [] [0,1] _ ⟨v,L,hv,rfl⟩
def aVZ{v:Value}{L:Cells}{c:Int}(ho:bI v 1 5 eBy ([]:List Int) L):eT zT 312 [zP b,.int .u8 c] ro ((b,.cells ⟨[zP b,v]⟩ 379 (0,0))::L) (λr Y=>∃v' L',bI v' 1 5 eBy [c] L'/\Y=(b,.cells ⟨[zP b,v']⟩ 379 (0,0))::L'):=by
 refine zC [zxc b 379 [zP b,v],.l L]<|zD 7<|jc (vs:=[zP b]) [0] (aVX (v:=v)) ?_;rintro _ _ rfl;refine jg 0 [zxc b 379 [zP b,v]]<|jd 9 [0]<|jn λGy=>gB (sz:=1) (ps:=[]) (qs:=[c]) (enc:=eBy) (w:= .slice (some ⟨Gy,0,none⟩) 1 1) [2] [0] [(Gy,.cells ⟨([c].map eBy).flatten⟩ 5 (0,0))] (ho) (λs _ hZ=>dg [c] (hZ _ (.head _)) (by intro p hp;rfl)) (λp _=>aG rfl) (by simp) (λRV Bu dj=>?_);rw[aY] at dj;obtain⟨nE,nC,nf⟩:=dj.form;subst nf;refine jd 9 [2]<|zR (.nilIface) [] [2,0] _ ⟨_,_,dj,rfl⟩
def bje{bb cap:Nat}{c:Int}(iK:cap≠0):eT zT 313 [zP b] ro [(b,.cells ⟨[zP b,.slice (some ⟨bb,0,none⟩) 1 cap]⟩ 379 (0,0)),(bb,.cells ⟨.int .u8 c::l⟩ 5 (0,0))] (λr Y=>r= .string (akR c)):=by
 refine zC [zxc b 379 [zP b,.slice (some ⟨bb,0,none⟩) 1 cap],.b bb (.cells ⟨.int .u8 c::l⟩ 5 (0,0))]<|jd 15 [0,0]<|zxo 4 λuk=>jsd (a:=⟨bb,0,none⟩) (l:=1) iK<|jg 0 []<|eH uk [0,1]<|zxo 10 λC7=>jus (b:=bb) (E:=5) [1] c l λL9=>ee C7 [[1]]<|zD 3<|zX _ rfl
def BS(u:UInt8):ByteArray:=⟨#[u]⟩
def ayO{u:UInt8}(h:u.toNat <128):Value.string (Utf8.encode (u.toNat:Int))= .string (BS u):=by
 have hv:Utf8.valid (u.toNat:Int)=true:=by simp only[Utf8.valid];simp;omega
 simp_all[Utf8.encode,dF,Int.toNat_natCast,dN,BS]
theorem aUD{u:UInt8}(hu:(97<=u.toNat/\u.toNat<=122)):iI zT 270 [.string (BS u)] ro (.string (BS u)):=by
 have sO:(BS u).size=1:=rfl;refine zE<|zD 15<|iz [1,1,0,1,0,0] [] (λ(zz:Nat×Bool)=>[(0,.string (BS u)),(2,.string (bs [])),(3,.bool true),(4,.bool zz.2),(5,zI (zz.1:Int))]) (λzz=>[]) (λzz=>(zz.1=0/\zz.2=false)\/(zz.1=1/\zz.2=false)) (λzz=>1-zz.1) (⟨0,false⟩) (.inl ⟨rfl,rfl⟩) [] ?_;rintro⟨i,q⟩ hI K1 cU rest;dsimp only at hI;refine zD 8<|zJ 14 ((i:Int) <((BS u).size:Int)) (λh1=>?_) λh1=>?_
 ·
  refine zD 5 ?_;obtain⟨hi0,Ym⟩:i=0/\q=false:=by rcases hI with h|h;exact h;omega
  refine jw 5 (zI 0) (show Value.int .i64 (i:Int)= zI 0 by rw[hi0];rfl) ?_;refine jw 4 (.bool false) (show Value.bool q= .bool false by rw[Ym])<|zD 12<|zJ 21 ((u.toNat:Int)>=128) (λh2=>?_) λh2=>?_
  ·
   exfalso;omega
  refine zD 8<|js 26 (decide (65<=(u.toNat:Int))) (λh3=>?_) (λh3=>?_)
  ·
   have yW:=h3;replace yW:=ah yW;refine zD 11<|zY cU (⟨1,decide ((u.toNat:Int)<=90)⟩) (.inr ⟨rfl,cX (by omega)⟩) []
  have yW:=h3;replace yW:=af yW;exfalso;omega
 refine zD 4 ?_;obtain⟨hi1,hq1⟩:i=1/\q=false:=by rcases hI with h|h;omega;exact h
 refine jw 4 (.bool false) (show Value.bool q= .bool false by rw[hq1])<|zD 17<|zX _ ⟨rfl,rfl⟩
theorem aUC{u:UInt8}(hu:(65<=u.toNat/\u.toNat<=90)):iI zT 270 [.string (BS u)] ro (.string (akR (IntKind.u8.wrap ((u.toNat:Int)+32)))):=by
 have sO:(BS u).size=1:=rfl;refine zE<|zD 15<|iz [1,1,0,1,0,0] [] (λ(zz:Nat×Bool)=>[(0,.string (BS u)),(2,.string (bs [])),(3,.bool true),(4,.bool zz.2),(5,zI (zz.1:Int))]) (λzz=>[]) (λzz=>(zz.1=0/\zz.2=false)\/(zz.1=1/\zz.2=true)) (λzz=>1-zz.1) (⟨0,false⟩) (.inl ⟨rfl,rfl⟩) [] ?_;rintro⟨i,q⟩ hI K1 cU rest;dsimp only at hI;refine zD 8<|zJ 14 ((i:Int) <((BS u).size:Int)) (λh1=>?_) λh1=>?_
 ·
  refine zD 5 ?_;obtain⟨hi0,Ym⟩:i=0/\q=false:=by rcases hI with h|h;exact h;omega
  refine jw 5 (zI 0) (show Value.int .i64 (i:Int)= zI 0 by rw[hi0];rfl) ?_;refine jw 4 (.bool false) (show Value.bool q= .bool false by rw[Ym])<|zD 12<|zJ 21 ((u.toNat:Int)>=128) (λh2=>?_) λh2=>?_
  ·
   exfalso;omega
  refine zD 8<|js 26 (decide (65<=(u.toNat:Int))) (λh3=>?_) (λh3=>?_)
  ·
   have yW:=h3;replace yW:=ah yW;refine zD 11<|zY cU (⟨1,decide ((u.toNat:Int)<=90)⟩) (.inr ⟨rfl,cN (by omega)⟩) []
  have yW:=h3;replace yW:=af yW;exfalso;omega
 refine zD 4 ?_;obtain⟨hi1,hq1⟩:i=1/\q=true:=by rcases hI with h|h;omega;exact h
 refine jw 4 (.bool true) (show Value.bool q= .bool true by rw[hq1])<|zD 14<|jn λb7=>zD 9<|jc (vs:=[zP b7,zI 1]) [0] (aVW) ?_;rintro _ _ ⟨v,L,hv,rfl⟩;refine jg 0 [zxc b7 379 [zP b7,v],.l L]<|zD 7<|iz [1,1,1,0,1,0,1,1,1,1,0,1,0,0] [] (λ(zz:Nat×Int×Value×Cells×(List Int))=>[(0,.string (BS u)),(2,.string (bs [])),(7,zP b7),(8,zI zz.2.1),(9,zI (zz.1:Int))]) (λzz=>[zxc b7 379 [zP b7,zz.2.2.1],.l zz.2.2.2.1]) (λzz=>bI zz.2.2.1 1 5 eBy zz.2.2.2.2 zz.2.2.2.1/\((zz.1=0/\zz.2.1=0/\zz.2.2.2.2=[])\/(zz.1=1/\zz.2.1=1/\zz.2.2.2.2=[(IntKind.u8.wrap ((u.toNat:Int)+32))]))) (λzz=>1-zz.1) (⟨0,0,v,L,[]⟩) ⟨hv,.inl ⟨rfl,rfl,rfl⟩⟩ [0,1] ?_;rintro⟨j,p,v,L,xs⟩ hJ K2 kU rest;dsimp only at hJ;refine zD 8<|zJ 41 ((j:Int) <((BS u).size:Int)) (λh4=>?_) λh4=>?_
 ·
  refine zD 5 ?_;obtain⟨hj0,C3,HJ⟩:j=0/\p=0/\xs=[]:=by rcases hJ.2 with h|h;exact h;omega
  refine jw 9 (zI 0) (show Value.int .i64 (j:Int)= zI 0 by rw[hj0];rfl) ?_;refine jw 8 (zI 0) (show Value.int .i64 p= zI 0 by rw[C3])<|zD 11<|js 49 (decide (65<=(u.toNat:Int))) (λh5=>?_) (λh5=>?_)
  ·
   have IP:=h5;replace IP:=ah IP;refine zD 4<|zJ 52 ((u.toNat:Int)<=90) (λh6=>?_) λh6=>?_
   ·
    refine zD 19<|jc (vs:=[zP b7,.int .u8 (IntKind.u8.wrap ((u.toNat:Int)+32))]) [0,1] (aVZ (by have:=hJ.1;rwa[HJ] at this)) ?_;rintro _ _ ⟨v2,L2,Ud,rfl⟩;refine jg 0 [zxc b7 379 [zP b7,v2],.l L2]<|zD 11<|zY kU (⟨1,1,v2,L2,[(IntKind.u8.wrap ((u.toNat:Int)+32))]⟩) ⟨Ud,.inr ⟨rfl,rfl,rfl⟩⟩ [0,1]
   exfalso;omega
  have IP:=h5;replace IP:=af IP;exfalso;omega
 refine zD 4 ?_;obtain⟨hj1,hp1,hx1⟩:j=1/\p=1/\xs=[(IntKind.u8.wrap ((u.toNat:Int)+32))]:=by rcases hJ.2 with h|h;omega;exact h
 refine jw 8 (zI 1) (show Value.int .i64 p= zI 1 by rw[hp1])<|zD 9 ?_;obtain⟨bb,lz,cap,iK,rfl,rfl⟩:=awh (by have:=hJ.1;rwa[hx1] at this);refine zD 1<|jc (vs:=[zP b7]) [0,1] (bje (bb:=bb) (l:=lz) (c:=(IntKind.u8.wrap ((u.toNat:Int)+32))) iK) ?_;rintro _ Yz rfl;refine zD 3<|zX _ ⟨rfl,rfl⟩
def apq(u:UInt8):ByteArray:=if u.toNat <97 then akR (IntKind.u8.wrap ((u.toNat:Int)+32)) else BS u
theorem bix{u:UInt8}(h:Iv u=true\/PJ u=true):iI zT 270 [.string (BS u)] ro (.string (apq u)):=by
 unfold apq;rcases h with h|h
 .simp_all[Iv,cy,aUD]
 simp only[PJ,av,si] at h
 grind [aUC]
end Go.L
