/- Part 5 of the proof. -/
import Derived.Test.YtfhaegdkhpdedaaGreatDoorM4
import Derived.KernelRfl
import GoSem.Extern.Table
set_option maxRecDepth 100000
set_option maxHeartbeats 4000000
set_option linter.all false
namespace Go.L
open Go Go.Conc Go.Proofs
open Go.ConcR (KK wgBlock WgAt stA smA rd wr)
open Go.ConcM (OsLater)
variable {ro:Nat→Option Obj} {x y:Operand} {vs l:List Value} {α β:Type} {f:FuncId} {T T' E T2:TypeId} {sv ws main:Bool} {b:ByteArray} {sz n it off p r i szo:Nat} {todo pq ps:List Nat} {e:Env} {xs:Array Operand} {at_:Array TypeId} {fz:Nat×Nat} {o:Oper} {cs:List Frame} {Live:World→Prop} {args fi ca:Array Value} {V:Value} {w':World}
noncomputable def mfn(f:Nat):Func:=match MP.funcs[f]? with
 |some fn=>fn
 |none=>default
noncomputable def hdE(l:List Frame):Option (Func×Array Value):=l.head?.bind (Cp MP)
theorem biU(W:Nat)(v:Nat->Nat->Value):hdE (e9 (sL0 W) v)=some (mfn 244,#[mp W 0,iW 0,iW 1]):=by kernel_rfl
theorem aVf(W:Nat)(y it:Value)(aw sv:Bool)(x:Int)(v:Nat->Nat->Value):hdE (e9 (sSq W y it aw sv x) v)=some (mfn 279,#[it]):=by kernel_rfl
theorem aVh(W:Nat)(y it:Value)(sv:Bool)(x n:Int)(v:Nat->Nat->Value):hdE (e9 (sC1 W y it sv x n) v)=some (mfn 244,#[mp W 0,iW x,iW n]):=by kernel_rfl
theorem aVg(W:Nat)(y it:Value)(aw sv:Bool)(x n:Int)(v:Nat->Nat->Value):hdE (e9 (sC2 W y it aw sv x n) v)=some (mfn 244,#[mp W 0,iW x,iW n]):=by kernel_rfl
theorem biT(W:Nat)(sv b:Bool)(v:Nat->Nat->Value):hdE (e9 (sT1 W sv b) v)=some (mfn 282,#[]):=by kernel_rfl
theorem biS(W:Nat)(y:Value)(v:Nat->Nat->Value):hdE (e9 (sT2 W y) v)=some (mfn 282,#[]):=by kernel_rfl
theorem aVe(W:Nat)(x n:Int)(v:Nat->Nat->Value):hdE (e9 (sUc W x n) v)=some (mfn 244,#[mp W 0,iW x,iW n]):=by kernel_rfl
theorem OA:I8 (mfn 244) (Extern.Atomic.casT (.int .i32)):=⟨by rfl,by rfl,by rfl,by rfl⟩
theorem acI:I8 (mfn 279) Extern.Sync.canSpin:=⟨by rfl,by rfl,by rfl,by rfl⟩
theorem amc:I8 (mfn 282) Extern.OsHooks.nano:=⟨by rfl,by rfl,by rfl,by rfl⟩
theorem af7:(mfn 282).norace=true:=by rfl
abbrev BkT:=Option (List (Nat×Value)×List (Nat×Nat)×List Nat×List Nat×Bl)
noncomputable def UZ(go:Frame->List Frame->Bl):List Frame->BkT
 |f::s=>match acO MP 234 gq f s with
  |some (n8,gJ,ws,ks,b1,b2)=>some (ws,ks,b1,b2,go n8 gJ)
  |none=>none
 | []=>none
def goD(P:Program)(ty:TypeId):Nat->Frame->List Frame->Bl
 |0,_,_=>none
 |n+1,fr,jq=>match PO P ty gq fr jq with
  |some (.go n8 gJ,[],[],[])=>goD P ty n n8 gJ
  |some (.avK,[],[],[])=>some []
  |_=>none
theorem aQ7(W:Nat)(v:Nat->Nat->Value):UZ (goR MP 234 300) (e9 (aEM W) v)=some ([],[(4,0)],[],[W],some []):=by kernel_rfl
theorem aQ6(W:Nat)(v:Nat->Nat->Value):UZ (goR MP 234 300) (e9 (aEL W) v)=some ([],[(4,0)],[],[W],some []):=by kernel_rfl
theorem bdz(v:Nat->Nat->Value):UZ (goD MP 234 300) (e9 sUe v)=some ([],[(2,0)],[],[],some []):=by kernel_rfl
noncomputable def amq:List Frame->Bool
 |f::_=>mayWake MP (G f [])
 | []=>false
theorem aho(W:Nat)(v:Nat->Nat->Value):amq (e9 (anq W) v)=true:=by rfl
theorem ahn(W:Nat)(v:Nat->Nat->Value):amq (e9 (anp W) v)=true:=by rfl
theorem ajM:∀L W S,∀c,c <8->(⟨L,W,S,c⟩:Wd)∈words:=by intro L W S;cases L<;>cases W<;>cases S<;>decide+kernel
theorem Oo{a b:Wd}(h:a.enc=b.enc):a=b:=by
 obtain⟨L,W,S,c⟩:=a;obtain⟨L',W',S',c'⟩:=b
 grind [Wd.enc]
def AZ{o:Wd}(h:o.c<=7):o∈words:=ajM o.L o.W o.S o.c (by omega)
def ag5{o:Wd}{aw:Bool}(h:o.c<=7)(h1:aw=true->o.W=true/\o.S=false)(h2:sv=true->aw=true):(o,aw,sv)∈Qx:=by
 refine eZ.2 ⟨o,AZ h,?_⟩;cases aw
 all_goals simp_all
def xO{P:Program}{A B:Goroutine->Prop}(h:∀g,A g->∃m,Pure P main Live B m g):∀ {n:Nat} {g:Goroutine},Pure P main Live A n g->∃m,Pure P main Live B m g
 |0,_,ha=>h _ ha
 |n+1,_,⟨h1,g',h2,h3⟩=>by
  obtain⟨m,hm⟩:=xO h h3;exact⟨m+1,h1,g',h2,hm⟩
def pure_mono{P:Program}{A B:Goroutine->Prop}(h:∀g,A g->B g){g:Goroutine}(hp:Pure P main Live A n g):∃m,Pure P main Live B m g:=xO (λg ha=>⟨0,h g ha⟩) hp
theorem mT{W:Nat}{w:World}{a b:Int}(h:MuAt 234 W w a b):j6 234 W w (cW a)/\j6 234 W w (cS b)/\j6 234 W w gq:=
 ⟨⟨_,_,h,(λx hx=>by cases hx;rfl),(λx hx=>by grind)⟩,⟨_,_,h,(λx hx=>by grind),(λx hx=>by grind)⟩,⟨_,_,h,(λx hx=>by grind),(λx hx=>by grind)⟩⟩
def BM{W:Nat}:∀w,qo 234 W w->j6 234 W w gq:=λw ⟨a,b,h⟩=>(mT h).2.2
theorem qw{W:Nat}{w:World}{o:Wd}{m:Nat}(h:MuAt 234 W w o.enc (m:Nat))(hh:w'.heap=w.heap)(hl:mP w w'):Ez 234 W w w' o m:=⟨by grind,λb _=>by grind,hl,by grind [MuAt]⟩
def mE{W:Nat}{w:World}{o:Wd}{m:Nat}(h:MuAt 234 W w o.enc (m:Nat)):Ez 234 W w (JU W w []) o m:=qw h rfl (mP.refl w)
theorem xw{W:Nat}{w:World}{o o':Wd}{m:Nat}{e:Int}(h:MuAt 234 W w o.enc (m:Nat))(he:e=o'.enc):Ez 234 W w (w.setCell ⟨W,0,none⟩ (iW e)) o' m:=by
 subst he;refine⟨by simp[World.setCell],λb hb=>by simp[World.setCell,fG,ju hb],⟨OsLater.refl _,rfl⟩,?_⟩
 grind [MuAt,World.setCell,iW]
theorem xy{W:Nat}{w:World}{o:Wd}{m m':Nat}(h:MuAt 234 W w o.enc (m:Nat)):Ez 234 W w (w.setCell ⟨W,1,none⟩ (.int .u32 (m':Nat))) o m':=by
 refine⟨by simp[World.setCell],λb hb=>by simp[World.setCell,fG,ju hb],⟨OsLater.refl _,rfl⟩,?_⟩
 grind [MuAt,World.setCell]
def okK(k:Nat×Nat):Bool:=k.1 != 5&&k.1 != 6&&(if k.1==3||k.1==4 then k.2==0 else true)
def aFz{W:Nat}{ks:List (Nat×Nat)}(h:ks.all okK=true):∀e∈(ks.map (Ed W)).toArray,uU W e:=by
 intro e he;simp only[List.mem_toArray,bB] at he;obtain⟨⟨k,o⟩,hk,rfl⟩:=he;have:=c8.1 h _ hk;simp only[okK,au,bne_iff_ne,ne_eq] at this;obtain⟨⟨h5,h6⟩,h3⟩:=this;unfold Ed
 match k,h5,h6,h3 with
 |0,_,_,_=>exact .inr (.inr (.inr (.inr ⟨_,_,rfl,rfl⟩)))
 |1,_,_,_=>exact .inl rfl
 |2,_,_,_=>exact .inr (.inl rfl)
 |3,_,_,h3=>simp at h3;subst h3;exact .inr (.inr (.inl rfl))
 |4,_,_,h3=>simp at h3;subst h3;exact .inr (.inr (.inr (.inl rfl)))
 |5,h5,_,_=>exact absurd rfl h5
 |6,_,h6,_=>exact absurd rfl h6
 |7,_,_,_=>exact .inr (.inr (.inr (.inr ⟨_,_,rfl,rfl⟩)))
 |k+8,_,_,_=>exact .inr (.inr (.inr (.inr ⟨_,_,rfl,rfl⟩)))
section
variable (W:Nat)
def pN:cq->List Frame->Goroutine->Prop
 | .ld _,cs,g=>AtD (sLd W) cs g
 | .l0 _,cs,g=>AtD (sL0 W) cs g
 | .r0 _,cs,g=>AtD (sR0 W) cs g
 | .sq _ o aw sv it ws,cs,g=>o.c<=7/\∃n,AtD (sSq W (yv ws n) (iT (it:Nat)) aw sv o.enc) cs g
 | .c1 _ o aw sv it ws,cs,g=>∃n,AtD (sC1 W (yv ws n) (iT (it:Nat)) sv o.enc (Wd.enc ⟨o.L,true,o.S,o.c⟩)) cs g
 | .r1 _ aw sv it ws,cs,g=>∃n,AtD (sR1 W (yv ws n) (iT ((it+1:Nat):Int)) aw sv) cs g
 | .c2 _ o aw sv it ws,cs,g=>∃n,AtD (sC2 W (yv ws n) (iT (it:Nat)) aw sv o.enc (o.nw aw sv).enc) cs g
 | .r3 _ aw sv it ws,cs,g=>∃n,AtD (sR3 W (yv ws n) (iT (it:Nat)) aw sv) cs g
 | .t1 _ sv,cs,g=>∃b,AtD (sT1 W sv b) cs g
 | .s1 _ sv,cs,g=>∃(y:Nat) (b:Bool),AtD (sS1 W (iT y) sv b) cs g
 | .t2 _ sv,cs,g=>sv=false/\∃y:Nat,AtD (sT2 W (iT y)) cs g
 | .r2 _ sv,cs,g=>∃y:Nat,AtD (sR2 W (iT y) sv) cs g
 | .a1 _ ex,cs,g=>AtD (sA1 W (dlt ex)) cs g
 | .le _,cs,g=>AtD (aEK W) cs g\/AtD (avE W) cs g
 | .la _,cs,g=>AtD (aEM W) cs g\/AtD (aEL W) cs g
 | .ui _,cs,g=>AtD (sUi W) cs g
 | .ur _,cs,g=>AtD (sUr W) cs g
 | .ud _,cs,g=>AtD (sUd W) cs g
 | .u0 _,cs,g=>AtD (sU0 W) cs g
 | .uc _ o,cs,g=>AtD (sUc W o.enc (Wd.enc ⟨o.L,true,o.S,o.c-1⟩)) cs g
 | .ux _,cs,g=>AtD (sUx W) cs g
 | .us _,cs,g=>AtD (anq W) cs g\/AtD (anp W) cs g
 | .ue _,cs,g=>AtD sUe cs g
 | .out _,_,_=>False
 | .own _,_,_=>False
end
def ao2{W:Nat}{x:cq}{g:Goroutine}(h:pN W x cs g):g.status= .running/\g.offers=none:=by
 cases x<;>simp only[pN] at h
 case sq=>obtain⟨_,_,h⟩:=h;exact h.run
 case t2=>obtain⟨_,_,h⟩:=h;exact h.run
 case s1=>obtain⟨_,_,h⟩:=h;exact h.run
 case le=>exact h.elim AtD.run AtD.run
 case la=>exact h.elim AtD.run AtD.run
 case us=>exact h.elim AtD.run AtD.run
 all_goals first|exact h.run| (obtain⟨_,h⟩:=h;exact h.run)
def oC(W:Nat)(x:cq)(o:Wd)(m:Nat)(cs:List Frame)(g:Goroutine)(w:World):Prop:=
 ∃g' w' es x' o' m',Nx x o m x' o' m'/\stepG MP false g w= .go g' w' es/\Ez 234 W w w' o' m'/\(∀e∈es,uU W e)/\deafBehind x.deaf es=x'.deaf/\
  (∀k,x= .ur k->es= #[said (.releaseMerge (stA W))])/\((∃k,x= .us k)->mayWake MP g=true)/\∃n,Pure MP false (qo 234 W) (pN W x' cs) n g'
section
variable {W:Nat} {x x':cq} {o o':Wd} {m m':Nat} {cs:List Frame} {g:Goroutine} {w w':World} {ds KY:List FD}
def iI{st:Frame->Bool}{c:LA}{ws:List (Nat×Value)}{ks:List (Nat×Nat)}(ei:AtD ds cs g)(h:∀v,Comes W KY ws ks (mR st MP 234 c (e9 ds v)))(hc:j6 234 W w c)(Kk:Nx x o m x' o' m')(htu:Ez 234 W w (JU W w ws) o' m')
 (hks:ks.all okK=true)(hde:deafBehind x.deaf (ks.map (Ed W)).toArray=x'.deaf)(hur:∀k,x= .ur k->ks=[(3,0)])(hus:(∃k,x= .us k)->mayWake MP g=true)(uB:∀g,AtD KY cs g->∃n,Pure MP false (qo 234 W) (pN W x' cs) n g):oC W x o m cs g w:=by
 obtain⟨g',h1,n,h2⟩:=Vw BM h ei;obtain⟨n',h3⟩:=xO uB h2;exact⟨g',_,_,x',o',m',Kk,h1 w hc,htu,aFz hks,hde,λk e=>by rw[hur k e];rfl,hus,n',h3⟩
def uY{st:Frame->Bool}{r:Func×Array Value}{v0:Value}(ei:AtD ds cs g)(he:∀v,hdE (e9 ds v)=some r)(h:∀v,Comes W KY [] [] (FJ st MP 234 v0 (e9 ds v))){es:Array Event}
 (dr:∀f fs,Cp MP f=some r->stepG MP false (G f fs) w= .go (G (f.finish v0) fs) w' es)(Kk:Nx x o m x' o' m')(htu:Ez 234 W w w' o' m')
 (hks:∀e∈es,uU W e)(hde:deafBehind x.deaf es=x'.deaf)(hur:∀k,x≠ .ur k)(hus:∀k,x≠ .us k)(uB:∀g,AtD KY cs g->∃n,Pure MP false (qo 234 W) (pN W x' cs) n g):oC W x o m cs g w:=by
 obtain⟨f,fs,rfl,h1,n,h2⟩:=aJT (main:=false) BM he h ei;obtain⟨n',h3⟩:=xO uB h2;exact⟨_,w',es,x',o',m',Kk,dr f _ h1,htu,hks,hde,λk e=>absurd e (hur k),λ⟨k,e⟩=>absurd e (hus k),n',h3⟩
def FM{x:cq}{g:Goroutine}(h:pN W x cs g):∃n,Pure MP false (qo 234 W) (pN W x cs) n g:=⟨0,h⟩
def aiA{k:Nat}{aw:Bool}(hc:o.c<=7)(h1:aw=true->o.W=true/\o.S=false)(h2:sv=true->aw=true)(h:AtD (sHd W (yv ws n) (iT (it:Nat)) aw sv o.enc) cs g):∃n,Pure MP false (qo 234 W) (pN W (G3 k o aw sv it ws) cs) n g:=by
 obtain⟨m,hm⟩:=anu (main:=false) BM (λv=>yL (bdK W (yv ws n) (iT (it:Nat)) v) (ag5 hc h1 h2)) h;refine pure_mono (λg hg=>?_) hm;unfold G3;simp only[aq4] at hg;split<;>rename_i hh
 .rw[dW hh] at hg;exact⟨hc,n,hg⟩
 rw[cJ hh] at hg;exact⟨n,hg⟩
def am3(W:Nat):∀e∈(#[⟨.cell ⟨W,0,none⟩,false,true⟩,⟨.cell ⟨W,0,none⟩,true,true⟩]:Array Event),uU W e:=by
 intro e he;simp at he;rcases he with rfl|rfl<;>exact .inr (.inr (.inr (.inr ⟨_,_,rfl,rfl⟩)))
def agk(W:Nat):∀e∈(#[⟨.cell ⟨W,0,none⟩,false,true⟩]:Array Event),uU W e:=by
 intro e he;simp at he;subst he;exact .inr (.inr (.inr (.inr ⟨_,_,rfl,rfl⟩)))
theorem kD{a b:Int}(h:MuAt 234 W w a b):w.cell? ⟨W,0,none⟩=some (.int .i32 a)/\w.frozen? ⟨W,0,none⟩=false:=by
 grind [MuAt,World.cell?,World.frozen?]
end
section
variable {W:Nat} {o:Wd} {m:Nat} {cs:List Frame} {g:Goroutine} {w:World}
def asX{P:Program}{fr:Frame}{fn:Func}{k:IntKind}{n:Int}(h:Cp P fr=some (fn,#[.int k n]))(hE:I8 fn Extern.Sync.canSpin)(h4:4<=n)(cs:List Frame):
 stepG P main (G fr cs) w= .go (G (fr.finish (.bool false)) cs) w #[]:=
 IG h hE (by simp_all[canSpin_eq]) (λf=>by simp[canSpin_eq]) (by simp) cs
def aDn(y:Nat):∃ws n,(iT y:Value)=yv ws n:=by
 cases y with
 |zero=>exact⟨false,0,rfl⟩
 |succ n=>exact⟨true,n,rfl⟩
theorem aee(h:it <4):itn (it:Nat)=iT ((it+1:Nat):Int):=by
 unfold itn;have:∀k,k <4->IntKind.wrap .i64 ((k:Nat)+1:Int)=((k+1:Nat):Int):=by decide+kernel
 grind
def azv:∀c,c <8->1<=c->∀ex,IntKind.wrap .i32 (Wd.enc ⟨false,false,true,c⟩+dlt ex)=Wd.enc ⟨true,false,true&& !ex,c-1⟩:=by
 intro c hc h1 ex;have:∀c,c <8->1<=c->IntKind.wrap .i32 (Wd.enc ⟨false,false,true,c⟩+(-11))=Wd.enc ⟨true,false,false,c-1⟩/\IntKind.wrap .i32 (Wd.enc ⟨false,false,true,c⟩+(-7))=Wd.enc ⟨true,false,true,c-1⟩:=by decide+kernel
 obtain⟨h2,h3⟩:=this c hc h1;cases ex
 .exact h3
 exact h2
def Mi(w:World):mP w w.asked:=⟨OsLater.refl _,rfl⟩
def MX(w:World):mP w w.later:=⟨⟨_,rfl⟩,rfl⟩
theorem aQl{k:Nat}(ei:pN W (cq.ld k) cs g)(hm:MuAt 234 W w o.enc (m:Nat))(hc:o.c<=7)(oM:m<=1)(dJ:(cq.ld k).Ok)(gM:p8 (cq.ld k) o)(hS:(cq.ld k).FY=true->m=1):oC W (cq.ld k) o m cs g w:=by
 obtain⟨c0,NN,cn⟩:=mT hm;exact iI ei (bdJ W) cn .ld (mE hm) rfl rfl (λk e=>by grind) (λ⟨k,e⟩=>by grind) λg hg=>FM hg
def aQn{k:Nat}(ei:pN W (cq.l0 k) cs g)(hm:MuAt 234 W w o.enc (m:Nat))(hc:o.c<=7)(oM:m<=1)(dJ:(cq.l0 k).Ok)(gM:p8 (cq.l0 k) o)(hS:(cq.l0 k).FY=true->m=1):oC W (cq.l0 k) o m cs g w:=by
 obtain⟨c0,NN,cn⟩:=mT hm;obtain⟨jP,F4⟩:=kD hm;by_cases e:o=⟨false,false,false,0⟩
 .subst e;exact iI (m':=m) ei (aQ8 W) c0 .l0y (xw hm rfl) rfl rfl (λk e=>by cases e) (λ⟨k,e⟩=>by cases e) λg hg=>FM (x:= .le k) (.inl hg)
 exact uY (o':=o) (m':=m) ei (biU W) (aQ9 W) (λf fs hf=>BZ hf OA jP F4 (λh=>e (Oo h)) fs) (.l0n e) (qw hm rfl (mP.refl w)) (agk W) rfl (λk e=>by cases e) (λk e=>by cases e) λg hg=>FM (x:= .r0 k) hg
theorem aQj{k:Nat}(ei:pN W (cq.r0 k) cs g)(hm:MuAt 234 W w o.enc (m:Nat))(hc:o.c<=7)(oM:m<=1)(dJ:(cq.r0 k).Ok)(gM:p8 (cq.r0 k) o)(hS:(cq.r0 k).FY=true->m=1):oC W (cq.r0 k) o m cs g w:=by
 obtain⟨c0,NN,cn⟩:=mT hm;exact iI ei (bdI W _) c0 .r0 (mE hm) rfl (by unfold G3;split<;>rfl) (λk e=>by cases e) (λ⟨k,e⟩=>by grind) λg hg=>aiA (n:=0) hc (λe=>by cases e) (λe=>by cases e) hg
theorem awI{q:Wd}{aw:Bool}(hq:q.c<=7)(hL:q.L=true)(hSt:q.S=false)(hW:aw=true->q.W=true)(hsv:sv=true->aw=true):(q,aw,sv)∈qcs:=
 cN.2 ⟨ag5 hq (λe=>⟨hW e,hSt⟩) hsv,by grind⟩
def aKd{q:Wd}{aw:Bool}(h:(q,aw,sv)∈qcs)(y it:Value)(v:Nat->Nat->Value):Comes W (sC2 W y it aw sv q.enc (q.nw aw sv).enc) [] [] (FJ zy MP 234 (bT false) (e9 (sSq W y it aw sv q.enc) v)):=by
 have:=yL (aQZ W y it v) h;simp only[anT,anU] at this;exact this
def aKc{q:Wd}{aw:Bool}(h:(q,aw,sv)∈qcs)(y:Value)(n:Int)(v:Nat->Nat->Value):Comes W (agD W y n (q,aw,sv)) [] [] (FJ zy MP 234 (bT true) (e9 (sSq W y (iT n) aw sv q.enc) v)):=by
 have:=yL (aQY W y n v) h;exact this
theorem ao0{k:Nat}{q:Wd}{aw:Bool}(hm:MuAt 234 W w o.enc (m:Nat))(h:(q,aw,sv)∈qcs)(ei:AtD (sSq W (yv ws n) (iT (it:Nat)) aw sv q.enc) cs g)(hl:mP w w')(hh:w'.heap=w.heap)
 (dr:∀f fs,Cp MP f=some (mfn 279,#[iT (it:Nat)])->stepG MP false (G f fs) w= .go (G (f.finish (.bool false)) fs) w' #[]):oC W (.sq k q aw sv it ws) o m cs g w:=
 uY ei (aVf W _ _ _ _ _) (aKd h _ _) dr .sqn (qw hm hh hl) (by simp) rfl (λk e=>by grind) (λk e=>by grind) λg hg=>FM ⟨n,hg⟩
def aFO{k:Nat}{q:Wd}{aw:Bool}(hm:MuAt 234 W w o.enc (m:Nat))(h:(q,aw,sv)∈qcs)(ei:AtD (sSq W (yv ws n) (iT (it:Nat)) aw sv q.enc) cs g)(h4:it <4)(Ud:w.spins=true):oC W (.sq k q aw sv it ws) o m cs g w:=by
 refine uY (o':=o) (m':=m) ei (aVf W _ _ _ _ _) (aKc h (yv ws n) (it:Nat)) (w':=w.asked) (es:= #[]) (λf fs hf=>by have:=UH (main:=false) (w:=w) hf acI (by omega) fs;rw[Ud] at this;exact this)
  (.sqy h4) (qw hm rfl (Mi w)) (by simp) (by split<;>rfl) (λk e=>by cases e) (λk e=>by cases e) λg hg=>?_
 simp only[agD] at hg;split<;>rename_i hh
 .rw[dW hh] at hg;exact FM (x:= .c1 k q aw sv it ws) ⟨n,hg⟩
 rw[cJ hh,aee h4] at hg;exact FM (x:= .r1 k aw sv it ws) ⟨n,hg⟩
theorem aQe{k:Nat}{q:Wd}{aw:Bool}(ei:pN W (cq.sq k q aw sv it ws) cs g)(hm:MuAt 234 W w o.enc (m:Nat))(hc:o.c<=7)(oM:m<=1)(dJ:(cq.sq k q aw sv it ws).Ok)(gM:p8 (cq.sq k q aw sv it ws) o)(hS:(cq.sq k q aw sv it ws).FY=true->m=1):oC W (cq.sq k q aw sv it ws) o m cs g w:=by
 obtain⟨hq,n,ei⟩:=ei;obtain⟨hL,hSt,hW,hsv,hit⟩:=dJ;have jv:=awI hq hL hSt hW hsv;by_cases h4:it <4
 .cases Ud:w.spins with
  |false=>exact ao0 hm jv ei (Mi w) rfl λf fs hf=>by have:=UH (main:=false) (w:=w) hf acI (by omega) fs;grind
  |true=>exact aFO hm jv ei h4 Ud
 exact ao0 hm jv ei (mP.refl w) rfl λf fs hf=>asX hf acI (by omega) fs
theorem aQp{k:Nat}{q:Wd}{aw:Bool}(ei:pN W (cq.c1 k q aw sv it ws) cs g)(hm:MuAt 234 W w o.enc (m:Nat))(hc:o.c<=7)(oM:m<=1)(dJ:(cq.c1 k q aw sv it ws).Ok)(gM:p8 (cq.c1 k q aw sv it ws) o)(hS:(cq.c1 k q aw sv it ws).FY=true->m=1):oC W (cq.c1 k q aw sv it ws) o m cs g w:=by
 obtain⟨jP,F4⟩:=kD hm;obtain⟨n,ei⟩:=ei;obtain⟨hL,hSt,hW,hqc,haw,hsv,hit⟩:=dJ;by_cases e:o=q
 .subst e;exact uY (m':=m) ei (aVh W _ _ _ _ _) (aRc W _ _ _ _ _) (λf fs hf=>KW hf OA jP F4 fs) .c1y (xw hm rfl) (am3 W) rfl (λk e=>by cases e) (λk e=>by cases e) λg hg=>FM (x:= .r1 k true sv it ws) ⟨n,by rw[aee hit] at hg;exact hg⟩
 exact uY (o':=o) (m':=m) ei (aVh W _ _ _ _ _) (aRd W _ _ _ _ _) (λf fs hf=>BZ hf OA jP F4 (λh=>e (Oo h)) fs) (.c1n e) (qw hm rfl (mP.refl w)) (agk W) rfl (λk e=>by cases e) (λk e=>by cases e) λg hg=>FM (x:= .r1 k aw sv it ws) ⟨n,by grind [aee]⟩
def aQi{k:Nat}{aw:Bool}(ei:pN W (cq.r1 k aw sv it ws) cs g)(hm:MuAt 234 W w o.enc (m:Nat))(hc:o.c<=7)(oM:m<=1)(dJ:(cq.r1 k aw sv it ws).Ok)(gM:p8 (cq.r1 k aw sv it ws) o)(hS:(cq.r1 k aw sv it ws).FY=true->m=1):oC W (cq.r1 k aw sv it ws) o m cs g w:=by
 obtain⟨c0,NN,cn⟩:=mT hm;obtain⟨n,ei⟩:=ei;exact iI ei (bdH W _ _ aw sv o.enc) c0 .r1 (mE hm) rfl (by unfold G3;split<;>rfl) (λk e=>by cases e) (λ⟨k,e⟩=>by cases e) λg hg=>aiA (n:=n) hc gM dJ.1 hg
def aQo{k:Nat}{q:Wd}{aw:Bool}(ei:pN W (cq.c2 k q aw sv it ws) cs g)(hm:MuAt 234 W w o.enc (m:Nat))(hc:o.c<=7)(oM:m<=1)(dJ:(cq.c2 k q aw sv it ws).Ok)(gM:p8 (cq.c2 k q aw sv it ws) o)(hS:(cq.c2 k q aw sv it ws).FY=true->m=1):oC W (cq.c2 k q aw sv it ws) o m cs g w:=by
 obtain⟨c0,NN,cn⟩:=mT hm;obtain⟨jP,F4⟩:=kD hm;obtain⟨n,ei⟩:=ei;by_cases e:o=q
 .subst e;refine uY (o':=o.nw aw sv) (m':=m) ei (aVg W _ _ _ _ _ _) (λv=>yL (aRa W n (iT (it:Nat)) aw sv (o.nw aw sv).enc v) (x:=(o,ws)) (eZ.2 ⟨o,AZ hc,by cases ws<;>simp⟩)) (λf fs hf=>KW hf OA jP F4 fs) .c2y (xw hm rfl) (am3 W)
   (by split<;>(try split)<;>rfl) (λk e=>by cases e) (λk e=>by cases e) λg hg=>?_
  simp only[atP] at hg;split<;>rename_i hh
  .rw[dW hh] at hg;cases ws
   .exact FM (x:= .t1 k sv) ⟨false,hg⟩
   exact FM (x:= .s1 k sv) ⟨n+1,true,hg⟩
  rw[cJ hh] at hg;exact FM (x:= .le k) (.inr hg)
 exact uY (o':=o) (m':=m) ei (aVg W _ _ _ _ _ _) (aRb W _ _ _ _ _ _) (λf fs hf=>BZ hf OA jP F4 (λh=>e (Oo h)) fs) (.c2n e) (qw hm rfl (mP.refl w)) (agk W) rfl (λk e=>by cases e) (λk e=>by cases e) λg hg=>FM (x:= .r3 k aw sv it ws) ⟨n,hg⟩
def aQg{k:Nat}{aw:Bool}(ei:pN W (cq.r3 k aw sv it ws) cs g)(hm:MuAt 234 W w o.enc (m:Nat))(hc:o.c<=7)(oM:m<=1)(dJ:(cq.r3 k aw sv it ws).Ok)(gM:p8 (cq.r3 k aw sv it ws) o)(hS:(cq.r3 k aw sv it ws).FY=true->m=1):oC W (cq.r3 k aw sv it ws) o m cs g w:=by
 obtain⟨c0,NN,cn⟩:=mT hm;obtain⟨n,ei⟩:=ei;exact iI ei (bdF W _ _ aw sv o.enc) c0 .r3 (mE hm) rfl (by unfold G3;split<;>rfl) (λk e=>by cases e) (λ⟨k,e⟩=>by cases e) λg hg=>aiA hc gM dJ.1 hg
theorem aQd{k:Nat}(ei:pN W (cq.t1 k sv) cs g)(hm:MuAt 234 W w o.enc (m:Nat))(hc:o.c<=7)(oM:m<=1)(dJ:(cq.t1 k sv).Ok)(gM:p8 (cq.t1 k sv) o)(hS:(cq.t1 k sv).FY=true->m=1):oC W (cq.t1 k sv) o m cs g w:=by
 obtain⟨b,ei⟩:=ei;exact uY ei (biT W _ _) (bdE W sv b _) (λf fs hf=>MT hf amc af7 fs) .t1 (qw hm rfl (MX w)) (by simp) rfl (λk e=>by grind) (λk e=>by grind) λg hg=>FM ⟨_,b,hg⟩
def aQf{k:Nat}(ei:pN W (cq.s1 k sv) cs g)(hm:MuAt 234 W w o.enc (m:Nat))(hc:o.c<=7)(oM:m<=1)(dJ:(cq.s1 k sv).Ok)(gM:p8 (cq.s1 k sv) o)(hS:(cq.s1 k sv).FY=true->m=1):oC W (cq.s1 k sv) o m cs g w:=by
 obtain⟨c0,NN,cn⟩:=mT hm;obtain⟨jP,F4⟩:=kD hm;obtain⟨y,b,ei⟩:=ei;have:=hS rfl;subst this;cases sv
 .exact iI (o':=o) (m':=0) ei (aQ1 W _ b) NN .s1 (xy (m':=0) hm) rfl rfl (λk e=>by cases e) (λ⟨k,e⟩=>by cases e) λg hg=>FM (x:= .t2 k false) ⟨rfl,y,hg⟩
 exact iI (o':=o) (m':=0) ei (aQ0 W _ b) NN .s1s (xy (m':=0) hm) rfl rfl (λk e=>by cases e) (λ⟨k,e⟩=>by cases e) λg hg=>FM (x:= .r2 k true) ⟨y,hg⟩
def aQc{k:Nat}(ei:pN W (cq.t2 k sv) cs g)(hm:MuAt 234 W w o.enc (m:Nat))(hc:o.c<=7)(oM:m<=1)(dJ:(cq.t2 k sv).Ok)(gM:p8 (cq.t2 k sv) o)(hS:(cq.t2 k sv).FY=true->m=1):oC W (cq.t2 k sv) o m cs g w:=by
 obtain⟨c0,NN,cn⟩:=mT hm;obtain⟨jP,F4⟩:=kD hm;obtain⟨rfl,y,f,fs,h1,rfl⟩:=ei;obtain⟨v,hv⟩:=h1.mk;have he:=biS W (iT y) v;rw[<-hv] at he;have hcm:=bdD W y ((w.os.mono+w.tick:Nat):Int) v;unfold am0 at hcm;rw[<-hv] at hcm;obtain⟨n,hn⟩:=EH (main:=false) (Live:=qo 234 W) (st:=aGw) BM hcm cs;obtain⟨n',hn'⟩:=xO (B:=pN W (.r2 k _) cs) (λg hg=>by
  obtain⟨n,h⟩:=anu (main:=false) (Live:=qo 234 W) BM (bdC W _ _) hg;exact pure_mono (λg hg=>⟨y,by simpa using hg⟩) h) hn
 exact⟨_,w.later,#[],_,o,m,.t2 _,MT he amc af7 _,qw hm rfl (MX w),by simp,rfl,(λk e=>by cases e),(λ⟨k,e⟩=>by cases e),n',hn'⟩
def aQh{k:Nat}(ei:pN W (cq.r2 k sv) cs g)(hm:MuAt 234 W w o.enc (m:Nat))(hc:o.c<=7)(oM:m<=1)(dJ:(cq.r2 k sv).Ok)(gM:p8 (cq.r2 k sv) o)(hS:(cq.r2 k sv).FY=true->m=1):oC W (cq.r2 k sv) o m cs g w:=by
 obtain⟨c0,NN,cn⟩:=mT hm;obtain⟨y,ei⟩:=ei;obtain⟨g1,g2⟩:=gM;cases hS':o.S with
 |false=>
  obtain⟨ws,n,hy⟩:=aDn y;exact iI (o':=o) (m':=m) ei (λv=>yL (bdG W (iT y) sv v) (cN.2 ⟨AZ hc,by simp[hS']⟩)) c0 (.r2n ws hS') (mE hm) rfl (by unfold G3;split<;>rfl) (λk e=>by cases e) (λ⟨k,e⟩=>by cases e) λg hg=>aiA (ws:=ws) (n:=n) (it:=0) hc (λ_=>⟨g2 hS',hS'⟩) (λ_=>rfl) (by rw[<-hy];exact hg)
 |true=>
  obtain⟨e1,e2,e3⟩:=g1 hS';exact iI (o':=o) (m':=m) ei (λv=>yL (aQ3 W (iT y) v) (x:=(o,sv)) (eZ.2 ⟨o,cN.2 ⟨AZ hc,by simp[hS',e1,e2];omega⟩,by cases sv<;>simp⟩)) c0 (.r2y hS') (mE hm) rfl rfl (λk e=>by cases e) (λ⟨k,e⟩=>by cases e) λg hg=>FM hg
def aQq{k:Nat}{ex:Bool}(ei:pN W (cq.a1 k ex) cs g)(hm:MuAt 234 W w o.enc (m:Nat))(hc:o.c<=7)(oM:m<=1)(dJ:(cq.a1 k ex).Ok)(gM:p8 (cq.a1 k ex) o)(hS:(cq.a1 k ex).FY=true->m=1):oC W (cq.a1 k ex) o m cs g w:=by
 obtain⟨c0,NN,cn⟩:=mT hm;obtain⟨e1,e2,e3,e4⟩:=gM;obtain⟨L,Wk,S,c⟩:=o;simp_all;exact iI (m':=m) ei (bdL W _ (dlt ex)) c0 .a1 (xw hm (azv c (by omega) e4 ex)) rfl rfl (λk e=>by cases e) (λ⟨k,e⟩=>by cases e) λg hg=>FM (x:= .le k) (.inr hg)
def aQk{k:Nat}(ei:pN W (cq.le k) cs g)(hm:MuAt 234 W w o.enc (m:Nat))(hc:o.c<=7)(oM:m<=1)(dJ:(cq.le k).Ok)(gM:p8 (cq.le k) o)(hS:(cq.le k).FY=true->m=1):oC W (cq.le k) o m cs g w:=by
 obtain⟨c0,NN,cn⟩:=mT hm;obtain⟨jP,F4⟩:=kD hm;rcases ei with ei|ei
 .exact iI (o':=o) (m':=m) ei (aQ5 W) cn .le (mE hm) rfl rfl (λk e=>by cases e) (λ⟨k,e⟩=>by cases e) λg hg=>FM (x:= .la k) (.inl hg)
 exact iI (o':=o) (m':=m) ei (aQ4 W) cn .le (mE hm) rfl rfl (λk e=>by cases e) (λ⟨k,e⟩=>by cases e) λg hg=>FM (x:= .la k) (.inr hg)
theorem aP7{k:Nat}(ei:pN W (cq.ui k) cs g)(hm:MuAt 234 W w o.enc (m:Nat))(hc:o.c<=7)(oM:m<=1)(dJ:(cq.ui k).Ok)(gM:p8 (cq.ui k) o)(hS:(cq.ui k).FY=true->m=1):oC W (cq.ui k) o m cs g w:=by
 obtain⟨c0,NN,cn⟩:=mT hm;exact iI ei (bdy W _) c0 .ui (mE hm) rfl rfl (λk e=>by grind) (λ⟨k,e⟩=>by grind) λg hg=>FM hg
theorem aP6{k:Nat}(ei:pN W (cq.ur k) cs g)(hm:MuAt 234 W w o.enc (m:Nat))(hc:o.c<=7)(oM:m<=1)(dJ:(cq.ur k).Ok)(gM:p8 (cq.ur k) o)(hS:(cq.ur k).FY=true->m=1):oC W (cq.ur k) o m cs g w:=by
 obtain⟨c0,NN,cn⟩:=mT hm;exact iI ei (bdx W) cn .ur (mE hm) rfl rfl (λk e=>rfl) (λ⟨k,e⟩=>by grind) λg hg=>FM hg
theorem aP9{k:Nat}(ei:pN W (cq.ud k) cs g)(hm:MuAt 234 W w o.enc (m:Nat))(hc:o.c<=7)(oM:m<=1)(dJ:(cq.ud k).Ok)(gM:p8 (cq.ud k) o)(hS:(cq.ud k).FY=true->m=1):oC W (cq.ud k) o m cs g w:=by
 obtain⟨c0,NN,cn⟩:=mT hm;exact iI ei (bdA W) cn .ud (mE hm) rfl rfl (λk e=>by grind) (λ⟨k,e⟩=>by grind) λg hg=>FM hg
def aQb{k:Nat}(ei:pN W (cq.u0 k) cs g)(hm:MuAt 234 W w o.enc (m:Nat))(hc:o.c<=7)(oM:m<=1)(dJ:(cq.u0 k).Ok)(gM:p8 (cq.u0 k) o)(hS:(cq.u0 k).FY=true->m=1):oC W (cq.u0 k) o m cs g w:=by
 obtain⟨c0,NN,cn⟩:=mT hm;obtain⟨jP,F4⟩:=kD hm;refine iI (o':=⟨false,o.W,o.S,o.c⟩) (m':=m) ei (λv=>yL (bdB W v) (cN.2 ⟨AZ hc,gM⟩)) c0 .u0 (xw hm rfl) rfl (by unfold ucL;split<;>(try split)<;>rfl) (λk e=>by cases e) (λ⟨k,e⟩=>by cases e) λg hg=>?_;simp only[amC] at hg;split<;>rename_i hh
 .rw[dW hh] at hg;exact FM (x:= .us k) (.inr hg)
 rw[cJ hh] at hg;unfold ucL;simp only[YB] at hg;split<;>rename_i hr
 .rw[dW hr] at hg;exact FM (x:= .ue k) hg
 rw[cJ hr] at hg;exact FM (x:= .uc k ⟨false,o.W,o.S,o.c⟩) hg
def aQa{k:Nat}{q:Wd}(ei:pN W (cq.uc k q) cs g)(hm:MuAt 234 W w o.enc (m:Nat))(hc:o.c<=7)(oM:m<=1)(dJ:(cq.uc k q).Ok)(gM:p8 (cq.uc k q) o)(hS:(cq.uc k q).FY=true->m=1):oC W (cq.uc k q) o m cs g w:=by
 obtain⟨jP,F4⟩:=kD hm;by_cases e:o=q
 .subst e;exact uY (m':=m) ei (aVe W _ _) (aQW W _ _) (λf fs hf=>KW hf OA jP F4 fs) .ucy (xw hm rfl) (am3 W) rfl (λk e=>by cases e) (λk e=>by cases e) λg hg=>FM (.inl hg)
 exact uY (o':=o) (m':=m) ei (aVe W _ _) (aQX W _ _) (λf fs hf=>BZ hf OA jP F4 (λh=>e (Oo h)) fs) (.ucn e) (qw hm rfl (mP.refl w)) (agk W) rfl (λk e=>by cases e) (λk e=>by cases e) λg hg=>FM hg
def aP4{k:Nat}(ei:pN W (cq.ux k) cs g)(hm:MuAt 234 W w o.enc (m:Nat))(hc:o.c<=7)(oM:m<=1)(dJ:(cq.ux k).Ok)(gM:p8 (cq.ux k) o)(hS:(cq.ux k).FY=true->m=1):oC W (cq.ux k) o m cs g w:=by
 obtain⟨c0,NN,cn⟩:=mT hm;refine iI (o':=o) (m':=m) ei (λv=>yL (bdw W v) (AZ hc)) c0 .ux (mE hm) rfl (by unfold ucL;split<;>rfl) (λk e=>by cases e) (λ⟨k,e⟩=>by cases e) λg hg=>?_;unfold ucL;simp only[YB] at hg;split<;>rename_i hr
 .rw[dW hr] at hg;exact FM (x:= .ue k) hg
 rw[cJ hr] at hg;exact FM (x:= .uc k o) hg
def aP5{k:Nat}(ei:pN W (cq.us k) cs g)(hm:MuAt 234 W w o.enc (m:Nat))(hc:o.c<=7)(oM:m<=1)(dJ:(cq.us k).Ok)(gM:p8 (cq.us k) o)(hS:(cq.us k).FY=true->m=1):oC W (cq.us k) o m cs g w:=by
 obtain⟨c0,NN,cn⟩:=mT hm;obtain⟨jP,F4⟩:=kD hm;have wk:∀ {ds:List FD},(∀v,amq (e9 ds v)=true)->AtD ds cs g->mayWake MP g=true:=λh ei=>by
  obtain⟨f,fs,h1,rfl⟩:=ei;obtain⟨v,hv⟩:=h1.mk;have:=h v;rw[<-hv] at this;exact this
 have m2:m=0\/m=1:=by omega
 rcases ei with ei|ei<;>rcases m2 with rfl|rfl
 .exact iI (o':=o) (m':=1) ei (aQV W) NN .us (xy (m':=1) hm) rfl rfl (λk e=>by cases e) (λ_=>wk (aho W) ei) λg hg=>FM (x:= .ue k) hg
 .exact iI (o':=o) (m':=2) ei (aGd W) NN .us (xy (m':=2) hm) rfl rfl (λk e=>by cases e) (λ_=>wk (aho W) ei) λg hg=>FM (x:= .ue k) hg
 .exact iI (o':=o) (m':=1) ei (aQU W) NN .us (xy (m':=1) hm) rfl rfl (λk e=>by cases e) (λ_=>wk (ahn W) ei) λg hg=>FM (x:= .ue k) hg
 exact iI (o':=o) (m':=2) ei (aGc W) NN .us (xy (m':=2) hm) rfl rfl (λk e=>by cases e) (λ_=>wk (ahn W) ei) λg hg=>FM (x:= .ue k) hg
def awH{x:cq}(ei:pN W x cs g)(hm:MuAt 234 W w o.enc (m:Nat))(hc:o.c<=7)(oM:m<=1)(dJ:x.Ok)(gM:p8 x o)(FB:x.mid=true)(hS:x.FY=true->m=1):oC W x o m cs g w:=by
 cases x with
 |out k=>cases FB
 |own k=>cases FB
 |la k=>cases FB
 |ue k=>cases FB
 |ld k=>exact aQl ei hm hc oM dJ gM hS
 |l0 k=>exact aQn ei hm hc oM dJ gM hS
 |r0 k=>exact aQj ei hm hc oM dJ gM hS
 |sq k q aw sv it ws=>exact aQe ei hm hc oM dJ gM hS
 |c1 k q aw sv it ws=>exact aQp ei hm hc oM dJ gM hS
 |r1 k aw sv it ws=>exact aQi ei hm hc oM dJ gM hS
 |c2 k q aw sv it ws=>exact aQo ei hm hc oM dJ gM hS
 |r3 k aw sv it ws=>exact aQg ei hm hc oM dJ gM hS
 |t1 k sv=>exact aQd ei hm hc oM dJ gM hS
 |s1 k sv=>exact aQf ei hm hc oM dJ gM hS
 |t2 k sv=>exact aQc ei hm hc oM dJ gM hS
 |r2 k sv=>exact aQh ei hm hc oM dJ gM hS
 |a1 k ex=>exact aQq ei hm hc oM dJ gM hS
 |le k=>exact aQk ei hm hc oM dJ gM hS
 |ui k=>exact aP7 ei hm hc oM dJ gM hS
 |ur k=>exact aP6 ei hm hc oM dJ gM hS
 |ud k=>exact aP9 ei hm hc oM dJ gM hS
 |u0 k=>exact aQb ei hm hc oM dJ gM hS
 |uc k q=>exact aQa ei hm hc oM dJ gM hS
 |ux k=>exact aP4 ei hm hc oM dJ gM hS
 |us k=>exact aP5 ei hm hc oM dJ gM hS
def ao1{k:Nat}(ei:pN W (.s1 k sv) cs g)(hm:MuAt 234 W w o.enc 0):stepG MP false g w= .go {g with status:= .blocked} w #[]:=by
 obtain⟨y,b,f,fs,h1,rfl⟩:=ei;obtain⟨v,hv⟩:=h1.mk;have h2:=aQ2 W (iT y) sv b v;rw[<-hv] at h2;simp only[aKl] at h2;have hc:j6 234 W w (cS 0):=⟨_,_,hm,(λx hx=>by cases hx),(λx hx=>by cases hx;rfl)⟩;unfold atT at h2;split at h2<;>try (cases h2;done)
 rename_i bs h0;simp only[aD,wH] at h2;have:=pX h0 (λb hb=>by rw[h2] at hb;exact List.eq_of_mem_replicate hb) (w:=w) (.inr hc) cs false;simp only[OV.is] at this;rw[this];rfl
def aix{go:Frame->List Frame->Bl}{k:Nat×Nat}{b2:List Nat}{l:List Frame}{f:Frame}{fs:List Frame}(h:UZ go (f::fs)=some ([],[k],[],b2,some []))(hb:∀b∈b2,b=W)(cs:List Frame):
 ∃f' s',go f' s'=some []/\∀w,stepG MP false (G f (fs++cs)) w= .go (G f' (s'++cs)) w #[Ed W k]:=by
 unfold UZ at h;simp only at h;split at h<;>try (cases h;done)
 rename_i n8 gJ ws ks b1 b2' h0;simp_all;obtain⟨rfl,rfl,rfl,rfl,h5⟩:=h;exact⟨n8,gJ,h5,λw=>HF h0 (by simp) hb (w:=w) (.inl ⟨rfl,rfl⟩) cs false⟩
def aso{P:Program}{ty:TypeId}{c:Frame}(hc:c.mode= .returning):∀ {n:Nat} {fr:Frame} {jq:List Frame} {bs:List Nat},goD P ty n fr jq=some bs->∃m,Pure P false (λ_=>True) (· =G c cs) m (G fr (jq++c::cs))
 |0,_,_,_,h=>by cases h
 |n+1,fr,jq,bs,h=>by
  simp only[goD] at h;split at h
  .rename_i n8 gJ h0;obtain⟨m,hm⟩:=aso hc h;refine⟨m+1,rfl,_,λw _=>?_,hm⟩;have:=pX (W:=0) (w:=w) h0 (by simp) (.inl ⟨rfl,rfl⟩) (c::cs) false;simp only[OV.is] at this;rw[this];rfl
  .rename_i h0;refine⟨1,rfl,_,λw _=>?_,rfl⟩;have:=pX (W:=0) (w:=w) h0 (by simp) (.inl ⟨rfl,rfl⟩) (c::cs) false;simp only[OV.is] at this;have h2:=this c cs rfl (.inl hc);rw[h2];rfl
  cases h
def aQm{k:Nat}{c:Frame}(ei:pN W (.la k) (c::cs) g):∃g',(∀w,stepG MP false g w= .go g' w #[said (.acquire (stA W))])/\∃n,Pure MP false (λ_=>True) (· =G (c.finish (.tuple #[])) cs) n g':=by
 have key:∀ {ds:List FD},(∀v,UZ (goR MP 234 300) (e9 ds v)=some ([],[(4,0)],[],[W],some []))->AtD ds (c::cs) g->∃g',(∀w,stepG MP false g w= .go g' w #[said (.acquire (stA W))])/\∃n,Pure MP false (λ_=>True) (· =G (c.finish (.tuple #[])) cs) n g':=λh ei=>by
  obtain⟨f,fs,h1,rfl⟩:=ei;obtain⟨v,hv⟩:=h1.mk;have h2:=h v;rw[<-hv] at h2;obtain⟨f',s',h3,h4⟩:=aix (W:=W) (l:=[]) h2 (by simp) (c::cs);refine⟨_,h4,?_⟩;exact KM (c:=c) (cs:=cs) h3 false (λg=>∃n,Pure MP false (λ_=>True) (· =G (c.finish (.tuple #[])) cs) n g) ⟨0,rfl⟩ λg g' hg hg' dr ⟨n,hn⟩=>⟨n+1,hg,g',λw _=>dr w,hn⟩
 rcases ei with ei|ei
 .exact key (aQ7 W) ei
 exact key (aQ6 W) ei
def aP8{k:Nat}{c:Frame}(ei:pN W (.ue k) (c::cs) g)(hc:c.mode= .returning):∃g',(∀w,stepG MP false g w= .go g' w #[said .enable])/\∃n,Pure MP false (λ_=>True) (· =G c cs) n g':=by
 obtain⟨f,fs,h1,rfl⟩:=ei;obtain⟨v,hv⟩:=h1.mk;have h2:=bdz v;rw[<-hv] at h2;obtain⟨f',s',h3,h4⟩:=aix (W:=W) (l:=[]) h2 (by simp) (c::cs);exact⟨_,h4,aso hc h3⟩
noncomputable def TV:EA MP 234 7 where
 At:=pN
 running:=ao2
 step:=λei hm hc oM dJ gM FB hS=>awH ei hm hc oM dJ gM FB hS
 block:=ao1
 la:=aQm
 ue:=aP8
def ad0(k:Nat):∃n,Pure MP false (qo 234 W) (pN W (.ld k) cs) n (G (Frame.enter MP 146 ⟨[mp W 0]⟩ .normal) cs):=
 EH BM (aGe W) cs
def Vm(k:Nat):∃n,Pure MP false (qo 234 W) (pN W (.ui k) cs) n (G (Frame.enter MP 147 ⟨[mp W 0]⟩ .deferred) cs):=
 EH BM (apF W) cs
end
abbrev CP(P:Program):Class:=λmain T=>Closed P main T
theorem kH{P:Program}:∀main T,CP P main T->Closed P main T:=by simp
abbrev Cells:=List (Nat×Obj)
variable {Φ:Value→Cells→Prop} {fr R Y rw' rw:Cells}
def Sub(ro bU:Nat->Option Obj):Prop:=∀b o,ro b=some o->bU b=some o
def Sub.refl(ro:Nat->Option Obj):Sub ro ro:=λ_ _ h=>h
theorem Sub.trans{a b c:Nat->Option Obj}(h:Sub a b)(k:Sub b c):Sub a c:=λx o hx=>k x o (h x o hx)
structure alC(fr B:Cells)(ro:Nat->Option Obj)(s1 s:St):Prop where
 rw:s.rw.Perm (s1.rw++fr)
 cK:∀b o,s1.ro b=some o->s.ro b=some o\/(b,o)∈B
 keep:Sub ro s.ro
theorem E7{P:Program}{T:Goroutine->St->Prop}(hT:Closed P main T){g:Goroutine}{s:St}(hg:g.status= .running)(h:(∃w,cZ s w)->T g s):T g s:=by
 by_cases hw:∃w,cZ s w
 .grind
 exact hT.step g s hg λw yy=>absurd ⟨w,yy⟩ hw
def Iz{P:Program}{T:Goroutine->St->Prop}(hT:Closed P main T){B:Cells}(hB:∀x∈B,x∈fr)(ro:Nat->Option Obj):
 Closed P main (λg s1=>g.status= .running->∀s,alC fr B ro s1 s->T g s) where
 step:=λg s1 hg h _ s hc=>by
  refine hT.step g s hg λw hw=>?_;have Qh:∀x,x∈s.rw↔x∈s1.rw\/x∈fr:=λx=>by rw[hc.rw.mem_iff,bI]
  have kP:=(hc.rw.map (·.1)).nodup_iff.1 hw.nodup;rw[cC,eF] at kP;obtain⟨hn1,hn2,hn3⟩:=kP;have aTp:∀b o o',(b,o)∈s1.rw->(b,o')∈fr->False:=λb o o' h1 h2=>hn3 b (bB.2 ⟨_,h1,rfl⟩) b (bB.2 ⟨_,h2,rfl⟩) rfl;have bhx:cZ s1 w:=by
   refine⟨λb o hb=>?_,λb o hb=>hw.rw b o ((Qh _).2 (.inl hb)),λb o hb=>hw.real b o ((Qh _).2 (.inl hb)),hn1,λb o hb=>?_⟩
   .rcases hc.cK b o hb with h1|h1
    .exact hw.ro b o h1
    exact .inl ⟨hw.rw b o ((Qh _).2 (.inr (hB _ h1))),hw.real b o ((Qh _).2 (.inr (hB _ h1)))⟩
   cases hr:s1.ro b with
   |none=>rfl
   |some o'=>
    rcases hc.cK b o' hr with h1|h1
    .rw[hw.apart b o ((Qh _).2 (.inl hb))] at h1;cases h1
    exact(aTp b o o' hb (hB _ h1)).elim
  obtain⟨g',w',es,Gs,dr,dz,ht,hT'⟩:=h w bhx;have aqY:∀b o,(b,o)∈fr->b <w.heap.size:=λb o hb=>hw.lt (.inr ((Qh _).2 (.inr hb)));have aHV:∀b o,(b,o)∈fr->¬s1.owns b:=λb o hb ⟨o',ho'⟩=>aTp b o' o ho' hb;have aG7:∀b,s.ro b≠none->¬s1.owns b:=λb hb ⟨o',ho'⟩=>hb (hw.apart b o' ((Qh _).2 (.inl ho')));have aqa:∀b,s.ro b≠none->b <w.heap.size:=λb hb=>by
   cases hr:s.ro b with
   |none=>exact absurd hr hb
   |some o=>exact hw.lt (.inl hr)
  have bgl:∀b o,(b,o)∈fr->w'.heap[b]?=some o:=λb o hb=>by
   rw[ht.frame b (aqY b o hb) (aHV b o hb)];exact hw.rw b o ((Qh _).2 (.inr hb))
  classical
  let bU:Nat->Option Obj:=λb=>if ∃o,(b,o)∈fr then none else match Gs.ro b with
   |some o=>some o
   |none=>s.ro b
  have aG8:∀b o,bU b=some o->¬(∃o,(b,o)∈fr)/\(Gs.ro b=some o\/(Gs.ro b=none/\s.ro b=some o)):=λb o hb=>by
   simp only[bU] at hb;split at hb
   .cases hb
   rename_i hn;refine⟨hn,?_⟩;cases h1:Gs.ro b with
   |none=>rw[h1] at hb;exact .inr ⟨rfl,hb⟩
   |some o2=>rw[h1] at hb;exact .inl hb
  have bhw:cZ ⟨bU,Gs.rw++fr⟩ w':=by
   refine⟨λb o hb=>?_,λb o hb=>?_,λb o hb=>?_,?_,λb o hb=>?_⟩
   .obtain⟨_,h1| ⟨_,h2⟩⟩:=aG8 b o hb
    .exact ht.nk.ro b o h1
    have eo:s.ro b≠none:=by rw[h2];simp
    rw[ht.frame b (aqa b eo) (aG7 b eo)];exact hw.ro b o h2
   .rcases bI.1 hb with hb|hb
    .exact ht.nk.rw b o hb
    exact bgl b o hb
   .rcases bI.1 hb with hb|hb
    .exact ht.nk.real b o hb
    exact hw.real b o ((Qh _).2 (.inr hb))
   .show ((Gs.rw++fr).map (·.1)).Nodup;rw[List.map_append,List.nodup_append];refine⟨ht.nk.nodup,hn2,λx hx y hy e=>?_⟩;obtain⟨⟨b,o⟩,h1,rfl⟩:=List.mem_map.1 hx;obtain⟨⟨b2,o2⟩,h2,rfl⟩:=List.mem_map.1 hy;dsimp only at e;subst e;rcases ht.own b ⟨o,h1⟩ with h3|h3
    .exact absurd (aqY b o2 h2) (by omega)
    exact aHV b o2 h2 h3
   show bU b=none;rcases bI.1 hb with hb|hb
   .cases hr:bU b with
    |none=>rfl
    |some o'=>
     obtain⟨hn,h1| ⟨_,h2⟩⟩:=aG8 b o' hr
     .rw[ht.nk.apart b o hb] at h1;cases h1
     have eo:s.ro b≠none:=by rw[h2];simp
     rcases ht.own b ⟨o,hb⟩ with h3|h3
     .exact absurd (aqa b eo) (by omega)
     exact(aG7 b eo h3).elim
   simp only[bU];rw[dW ⟨o,hb⟩]
  have aTu:alC fr B ro Gs ⟨bU,Gs.rw++fr⟩:=by
   refine⟨.refl _,λb o hb=>?_,λb o hb=>?_⟩
   .by_cases hf:∃o,(b,o)∈fr
    .obtain⟨o2,Ug⟩:=hf;rcases ht.RU b (by rw[hb];simp) with h1|h1|h1
     .exact absurd (aqY b _ Ug) (by omega)
     .rw[hb] at h1;rcases hc.cK b o h1.symm with h3|h3
      .rw[hw.apart b _ ((Qh _).2 (.inr Ug))] at h3;cases h3
      exact .inr h3
     exact(aHV b _ Ug h1).elim
    left;show bU b=some o;simp only[bU];rw[cJ hf,hb]
   have h1:=hc.keep b o hb;have eo:s.ro b≠none:=by rw[h1];simp
   have hf:¬ ∃o,(b,o)∈fr:=λ⟨o2,Ug⟩=>eo (hw.apart b o2 ((Qh _).2 (.inr Ug)));show bU b=some o;simp only[bU];rw[cJ hf];cases h2:Gs.ro b with
   |none=>exact h1
   |some o2=>
    rcases ht.RU b (by rw[h2];simp) with h3|h3|h3
    .exact absurd (aqa b eo) (by omega)
    .rw[h2] at h3;rcases hc.cK b o2 h3.symm with h4|h4
     .rw[h1] at h4;exact h4.symm
     exact absurd ⟨_,hB _ h4⟩ hf
    exact(aG7 b eo h3).elim
  refine⟨g',w',es,⟨bU,Gs.rw++fr⟩,dr,dz,⟨bhw,ht.size,λb hb hn=>?_,λb hb=>?_,λb hb=>?_,ht.os,ht.output,ht.tape,λe he=>?_,ht.low⟩,hT' dz _ aTu⟩
  .exact ht.frame b hb λ⟨o,ho⟩=>hn ⟨o,(Qh _).2 (.inl ho)⟩
  .obtain⟨o,ho⟩:=hb;rcases bI.1 ho with ho|ho
   .rcases ht.own b ⟨o,ho⟩ with h3| ⟨o3,h3⟩
    .exact .inl h3
    exact .inr ⟨o3,(Qh _).2 (.inl h3)⟩
   exact .inr ⟨o,(Qh _).2 (.inr ho)⟩
  .have hb:bU b≠none:=hb;cases hr:bU b with
   |none=>exact absurd hr hb
   |some o=>
    obtain⟨hn,h1| ⟨_,h2⟩⟩:=aG8 b o hr
    .rcases ht.RU b (by rw[h1];simp) with h3|h3| ⟨o3,h3⟩
     .exact .inl h3
     .rw[h1] at h3;rcases hc.cK b o h3.symm with h5|h5
      .exact .inr (.inl (by show bU b=s.ro b;rw[hr,h5]))
      exact absurd ⟨_,hB _ h5⟩ hn
     exact .inr (.inr ⟨o3,(Qh _).2 (.inl h3)⟩)
    exact .inr (.inl (by show bU b=s.ro b;rw[hr,h2]))
  have WA:=ht.Am e he;have aBU:∀b,(∃o,(b,o)∈s1.rw)->s.owns b:=λb ⟨o,ho⟩=>⟨o,(Qh _).2 (.inl ho)⟩;have beZ:∀b,s1.ro b≠none->s.ro b≠none\/s.owns b:=λb hb=>by
   cases h4:s1.ro b with
   |none=>exact absurd h4 hb
   |some o4=>
    rcases hc.cK b o4 h4 with h5|h5
    .exact .inl (by rw[h5];simp)
    exact .inr ⟨o4,(Qh _).2 (.inr (hB _ h5))⟩
  unfold NU at*;split at WA
  .refine⟨WA.1,?_⟩;rcases WA.2 with h1|h1| ⟨h1,h2⟩
   .exact .inl h1
   .exact .inr (.inl (aBU _ h1))
   cases h4:s1.ro _ with
   |none=>exact absurd h4 h2.1
   |some o4=>
    rcases hc.cK _ o4 h4 with h5|h5
    .exact .inr (.inr ⟨h1,by rw[h5,<-h4];exact h2⟩)
    exact .inr (.inl ⟨o4,(Qh _).2 (.inr (hB _ h5))⟩)
  .refine⟨WA.1,?_⟩;rcases WA.2 with h1|h1| ⟨h1,h2⟩
   .exact .inl h1
   .exact .inr (.inl (aBU _ h1))
   rcases beZ _ h2 with h3|h3
   .exact .inr (.inr ⟨h1,h3⟩)
   exact .inr (.inl h3)
  .exact WA
  exact WA
 mono:=λg s1 Gs hl h dz s hc=>by
  refine E7 hT dz λ⟨w,hw⟩=>?_;obtain⟨R,hR,qS⟩:=hl;have Qh:∀x,x∈s.rw↔x∈Gs.rw\/x∈fr:=λx=>by rw[hc.rw.mem_iff,bI]
  have aIA:∀x,x∈R->x∈s.rw:=λx hx=>(Qh x).2 (.inl (hR.mem_iff.2 (gv _ hx)))
  classical
  let wY:Nat->Option Obj:=λb=>if hx:∃o,(b,o)∈R then some (Classical.choose hx) else s.ro b
  have Qj:∀b o,(b,o)∈R->wY b=some o:=λb o hb=>by
   have hx:∃o,(b,o)∈R:=⟨o,hb⟩;simp only[wY];rw[dif_pos hx];have h1:=hw.rw b _ (aIA _ (ou hx));rw[hw.rw b o (aIA _ hb)] at h1;cases h1;rfl
  have Iq:∀b o,s.ro b=some o->wY b=some o:=λb o hb=>by
   simp only[wY];rw[dif_neg]
   .exact hb
   rintro⟨o2,Ug⟩;rw[hw.apart b o2 (aIA _ Ug)] at hb;cases hb
  refine hT.mono g ⟨wY,s1.rw++fr⟩ s ⟨R,?_,λb o hb=>?_⟩ (h dz _ ⟨.refl _,λb o hb=>?_,λb o hb=>Iq b o (hc.keep b o hb)⟩)
  .refine hc.rw.trans ((Nc fr hR).trans ?_);rw[bC,bC];exact Ar _ ir
  .simp only[wY] at hb;split at hb
   .rename_i hx;simp only[aD] at hb;exact .inr (hb▸ou hx)
   exact .inl hb
  rcases qS b o hb with h1|h1
  .exact(hc.cK b o h1).imp (Iq b o) id
  exact .inl (Qj b o h1)
theorem Fn.frame{P:Program}{s1 s:St}{R:Ending->St->Prop}{B:Cells}(hf:Fn (CP P) P f args s1 R)(hB:∀x∈B,x∈fr)(hc:alC fr B ro s1 s):
 Fn (CP P) P f args s (λen s'=>∃Gs,R en Gs/\alC fr B ro Gs s'):=
 λmain T hT c cs k1 k2=>hf _ _ (Iz hT hB ro) c cs (λv Gs hv _ s' Bp=>k1 v s' ⟨Gs,hv,Bp⟩) (λch Gs hv _ s' Bp=>k2 ch s' ⟨Gs,hv,Bp⟩) rfl s hc
def eW(P:Program)(f:FuncId)(args:List Value)(ro:Nat->Option Obj)(own:Cells)(Φ:Value->Cells->Prop):Prop:=
 Fn (CP P) P f ⟨args⟩ ⟨ro,own⟩ (λen s'=>∃v X,en= .returned v/\s'=⟨ro,X⟩/\Φ v X)
abbrev iz(P:Program)(f:FuncId)(args:List Value)(ro:Nat->Option Obj)(V:Value):Prop:=eW P f args ro [] (λv X=>v=V/\X=[])
def eW.mono{P:Program}{args:List Value}{own:Cells}{Φ':Value->Cells->Prop}(h:eW P f args ro own Φ)(hk:∀v X,Φ v X->Φ' v X):eW P f args ro own Φ':=
 Fn.mono h λ_ _ ⟨v,X,h1,h2,h3⟩=>⟨v,X,h1,h2,hk v X h3⟩
theorem Xd:Ext ⟨ro,[]⟩ ⟨ro,rw⟩:=λ_ _ h=>h.elim .inl (λh=>by grind)
theorem nG{bU:Nat->Option Obj}(h:Sub ro bU):Ext ⟨ro,[]⟩ ⟨bU,[]⟩:=λb o hb=>hb.elim (λhb=> .inl (h b o hb)) (λhb=>by grind)
def dq(ro:Nat->Option Obj)(v:Value)(sz:Nat)(enc:α->List Value)(ps:List α):Prop:=
 ∃a b o cap,v= .slice a ps.length cap/\ps.length<=cap/\(∀k,k <ps.length->a=some ⟨b,o,none⟩)/\∀i p,ps[i]?=some p->eK ⟨ro,[]⟩ b (o+i*sz) sz (enc p)
theorem dq.nil(ro:Nat->Option Obj)(sz:Nat)(enc:α->List Value)(a:Option Addr)(cap:Nat):dq ro (.slice a 0 cap) sz enc []:=⟨a,0,0,cap,rfl,bK _,λk h=>absurd h (gB k),λi p hp=>by grind⟩
def dq.up{bU:Nat->Option Obj}{v:Value}{enc:α->List Value}{ps:List α}(h:dq ro v sz enc ps)(hs:Sub ro bU):dq bU v sz enc ps:=by
 obtain⟨a,b,o,cap,h1,h4,h2,h3⟩:=h;exact⟨a,b,o,cap,h1,h4,h2,λi p hp=>(h3 i p hp).ext (nG hs)⟩
section rules
variable {P:Program} {C:Class} {fn:FuncId} {bR:Option Nat} {Q:Post} {s:St} {n:Nat} {env:Env} {D:List Deferred}
variable {ops:Array Oper} {i:Nat} {rest:List Nat} {dst:Option Tmp} {ty:TypeId} {pos:String} {fX:Array Edge} {g:Option (Nat×Bool)}
variable {T:TypeId} {d:TypeDesc} {sz dL:Nat} {z:List Value} {ag:Bool} {ro:Nat->Option Obj} {rw:Cells}
def aR.more{a:Act}(hC:∀main T,C main T->Closed P main T){s':St}(hl:s.le s')(h:aR C fn bR ops todo Q a s):aR C fn bR ops todo Q a s':=
 λmain T hT b k cs h1 h2 h3 h4=>(hC _ _ hT).mono _ _ _ hl (h _ T hT b k cs h1 h2 h3 h4)
def awj{a:Act}(hC:∀main T,C main T->Closed P main T)(h:(∃w,cZ s w)->aR C fn bR ops todo Q a s):aR C fn bR ops todo Q a s:=
 λmain T hT b k cs h1 h2 h3 h4=>E7 (hC _ _ hT) rfl λhw=>h hw _ T hT b k cs h1 h2 h3 h4
def aDE{a:Act}{c:Code}(hC:∀main T,C main T->Closed P main T)(h:(∃w,cZ s w)->Wp C fn bR c Q a s):Wp C fn bR c Q a s:=
 λmain T hT b k cs h1 h2 h3 h4=>E7 (hC _ _ hT) rfl λhw=>h hw _ T hT b k cs h1 h2 h3 h4
def asH{R:Ending->St->Prop}(hC:∀main T,C main T->Closed P main T)(h:(∃w,cZ s w)->Fn C P f args s R):Fn C P f args s R:=
 λmain T hT c cs h1 h2=>E7 (hC _ _ hT) rfl λhw=>h hw _ T hT c cs h1 h2
def W0{X:Cells}(hp:rw.Perm (X++s.rw))(hw:∃w,cZ ⟨s.ro,rw⟩ w):∃bU,Sub s.ro bU/\(∀x∈X,bU x.1=some x.2)/\(⟨bU,s.rw⟩:St).le ⟨s.ro,rw⟩:=by
 classical
 obtain⟨w,hw⟩:=hw;have uB:∀x,x∈X->x∈rw:=λx hx=>hp.mem_iff.2 (cR _ hx);refine⟨λb=>if hx:∃o,(b,o)∈X then some (Classical.choose hx) else s.ro b,λb o hb=>?_,λx hx=>?_,X,hp.trans ir,λb o hb=>?_⟩
 .simp only;rw[dif_neg]
  .exact hb
  rintro⟨o2,Ug⟩;have:=hw.apart b o2 (uB _ Ug);rw[show s.ro b=none from this] at hb;cases hb
 .obtain⟨b,o⟩:=x;have mL:∃o,(b,o)∈X:=⟨o,hx⟩;simp only;rw[dif_pos mL];have h1:=hw.rw b _ (uB _ (ou mL));rw[hw.rw b o (uB _ hx)] at h1;cases h1;rfl
 simp only at hb;split at hb
 .rename_i hx;simp only[aD] at hb;exact .inr (hb▸ou hx)
 exact .inl hb
def aiK{a:Act}{c:Code}(hC:∀main T,C main T->Closed P main T){X:Cells}(hp:rw'.Perm (X++rw))(h:∀bU,Sub ro bU->(∀x∈X,bU x.1=some x.2)->Wp C fn bR c Q a ⟨bU,rw⟩):Wp C fn bR c Q a ⟨ro,rw'⟩:=
 aDE hC λhw=>by
  obtain⟨bU,h1,h2,h3⟩:=W0 (s:=⟨ro,rw⟩) hp hw;exact(h bU h1 h2).more hC h3
def adF{a:Act}(hC:∀main T,C main T->Closed P main T){X:Cells}(hp:rw'.Perm (X++rw))(h:∀bU,Sub ro bU->(∀x∈X,bU x.1=some x.2)->aR C fn bR ops todo Q a ⟨bU,rw⟩):aR C fn bR ops todo Q a ⟨ro,rw'⟩:=
 awj hC λhw=>by
  obtain⟨bU,h1,h2,h3⟩:=W0 (s:=⟨ro,rw⟩) hp hw;exact(h bU h1 h2).more hC h3
def eW.use{own B:Cells}(hp:s.rw.Perm (own++fr))(hB:∀x∈B,x∈fr)(hf:∀cK,Sub s.ro cK->(∀x∈B,cK x.1=some x.2)->eW P f vs cK own Φ):
 Fn (CP P) P f ⟨vs⟩ s (λen s'=>∃v X,en= .returned v/\Φ v X/\(⟨s.ro,X++fr⟩:St).le s'):=by
 refine asH kH λ⟨w,hw⟩=>?_
 classical
 have uB:∀x,x∈B->x∈s.rw:=λx hx=>hp.mem_iff.2 (gv _ (hB x hx))
 let cK:Nat->Option Obj:=λb=>if hx:∃o,(b,o)∈B then some (Classical.choose hx) else s.ro b
 have h1:Sub s.ro cK:=λb o hb=>by
  simp only[cK];rw[dif_neg]
  .exact hb
  rintro⟨o2,Ug⟩;rw[hw.apart b o2 (uB _ Ug)] at hb;cases hb
 have h2:∀x∈B,cK x.1=some x.2:=λ⟨b,o⟩ hx=>by
  have mL:∃o,(b,o)∈B:=⟨o,hx⟩;simp only[cK];rw[dif_pos mL];have h3:=hw.rw b _ (uB _ (ou mL));rw[hw.rw b o (uB _ hx)] at h3;cases h3;rfl
 refine Fn.mono (Fn.frame (fr:=fr) (B:=B) (ro:=s.ro) (s:=s) (hf cK h1 h2) hB ⟨hp,λb o hb=>?_,Sub.refl _⟩) λen s' wz=>?_
 .simp only[cK] at hb;split at hb
  .rename_i hx;simp only[aD] at hb;exact .inr (hb▸ou hx)
  exact .inl hb
 obtain⟨Gs,⟨v,X,rfl,rfl,uz⟩,hc⟩:=wz;exact⟨v,X,rfl,uz,[],by simpa using hc.rw,λb o hb=> .inl (hc.keep b o hb)⟩
theorem aoK(hC:∀main T,C main T->Closed P main T){ws:List Value}{own B:Cells}(ho:ops[i]?=some ⟨dst,.call ⟨.value x,xs,at_⟩,ty,pos,fX,g⟩) (hw:bN ops n env g=true)
 (hv:dv n env x=some (.func (.func f) fi ca)) (ff:FF P f) (hx:Am n env xs=some vs) (xD:fi++⟨vs⟩++ca=⟨ws⟩) (hp:s.rw.Perm (own++fr)) (hB:∀x∈B,x∈fr) (hf:∀cK,Sub s.ro cK->(∀x∈B,cK x.1=some x.2)->eW P f ws cK own Φ)
 (h:∀v X,Φ v X->aR C fn bR ops rest Q (A n (upd dst v env) D) ⟨s.ro,X++fr⟩):aR C fn bR ops (i::rest) Q (A n env D) s:=
 yQ hC ho hw hv ff hx xD ((eW.use hp hB hf).weaken hC) (λv' s' hr=>by obtain⟨v,X,e,h1,h2⟩:=hr;cases e;exact(h _ X h1).more hC h2) (λch s' hr=>by grind) (λs' hr=>by grind)
theorem iz.use{sz:St}(hez:Ext s sz)(hf:∀cK,(∀b o,s.has b o->cK b=some o)->iz P f vs cK V):Fn (CP P) P f ⟨vs⟩ sz (λe s'=>e= .returned V/\sz.le s'):=by
 refine Fn.mono (eW.use (s:=sz) (.refl _) (λ_ h=>h) (λcK h1 h2=>hf cK λb o hb=>?_)) λen s' wz=>?_
 .rcases hez b o hb with h3|h3
  .exact h1 b o h3
  grind
 obtain⟨v,X,e,⟨h1,h2⟩,h3⟩:=wz;simp_all
theorem ZM(hC:∀main T,C main T->Closed P main T){ws:List Value}{s0:St}(ho:ops[i]?=some ⟨dst,.call ⟨.value x,xs,at_⟩,ty,pos,fX,g⟩) (hw:bN ops n env g=true)
 (hv:dv n env x=some (.func (.func f) fi ca)) (ff:FF P f) (hx:Am n env xs=some vs) (xD:fi++⟨vs⟩++ca=⟨ws⟩) (hez:Ext s0 s) (hf:∀cK,(∀b o,s0.has b o->cK b=some o)->iz P f ws cK V) (h:aR C fn bR ops rest Q (A n (upd dst V env) D) s):aR C fn bR ops (i::rest) Q (A n env D) s:=
 yQ hC ho hw hv ff hx xD ((iz.use hez hf).weaken hC) (λv' s' hr=>by obtain⟨e,h1⟩:=hr;cases e;exact h.more hC h1) (λch s' hr=>by grind) (λs' hr=>by grind)
def OX{cK:Nat->Option Obj}(h:∀b o,(⟨ro,rw⟩:St).has b o->cK b=some o):Sub ro cK:=λb o hb=>h b o (.inl hb)
theorem bJ.jI{v:Value}{enc:α->List Value}{ps:List α}{L:Cells}{cK:Nat->Option Obj}(h:bJ v sz T enc ps L)(hL:∀x∈L,cK x.1=some x.2):dq cK v sz enc ps:=by
 obtain⟨a,b,o,cap,h1,h2,h3⟩:=h.sl (s:=⟨cK,[]⟩) λx hx=> .inl (hL x hx);refine⟨a,b,o,cap,h1,?_,h2,h3⟩;rcases h with ⟨_,g2,_⟩| ⟨b',l,aVu,g1,_,_,g4,_⟩
 all_goals grind
end rules
section rules
variable {P:Program} {C:Class} {fn:FuncId} {bR:Option Nat} {Q:Post} {s:St} {n:Nat} {env:Env} {D:List Deferred}
variable {ops:Array Oper} {i:Nat} {rest:List Nat} {dst:Option Tmp} {ty:TypeId} {pos:String} {fX:Array Edge} {g:Option (Nat×Bool)}
variable {T:TypeId} {d:TypeDesc} {sz dL:Nat} {z:List Value} {ag:Bool}
def adJ(hC:∀main T,C main T->Closed P main T)(ho:ops[i]?=some ⟨dst,.range T x,ty,pos,fX,g⟩) (hw:bN ops n env g=true) (tf:TF P T .string sz dL z ag) (hx:dv n env x=some (.string b))
 (h:∀r,¬s.knows r->aR C fn bR ops rest Q (A n (upd dst (.pointer (some ⟨r,0,none⟩)) env) D) ⟨s.ro,(r,.stringIter b 0)::s.rw⟩):aR C fn bR ops (i::rest) Q (A n env D) s:=by
 refine eA hC ho hw (by simp) ?_;simp only[execOp,Instr.range,aH,cY tf,bZ hx,aQ,u7];refine⟨rfl,?_⟩;intro r hr;have:=h r hr;rw[<-dF] at this;exact this
def ajF(hC:∀main T,C main T->Closed P main T){L:Cells}(ho:ops[i]?=some ⟨dst,.next x true,ty,pos,fX,g⟩) (hw:bN ops n env g=true) (hx:dv n env x=some (.pointer (some ⟨r,0,none⟩))) (hs:s.rw=L++(r,.stringIter b p)::R) (hp:p <b.size)
 (h:aR C fn bR ops rest Q (A n (upd dst (.tuple ⟨[.bool true,.int .i64 p,.int .i32 (Utf8.decode b p).1]⟩) env) D) ⟨s.ro,L++(r,.stringIter b (p+(Utf8.decode b p).2))::R⟩):aR C fn bR ops (i::rest) Q (A n env D) s:=by
 refine eA hC ho hw (by simp) ?_;simp only[execOp,Instr.next,aH,bZ hx];refine fL (o:= .stringIter b p) (.inr (by rw[hs];simp)) rfl rfl ?_;simp only[aH,hp,dI];refine iX (o:= .stringIter b (p+(Utf8.decode b p).2)) rfl hs rfl ?_;rw[<-dF] at h;exact h
def ajG(hC:∀main T,C main T->Closed P main T){L:Cells}(ho:ops[i]?=some ⟨dst,.next x true,ty,pos,fX,g⟩) (hw:bN ops n env g=true) (hx:dv n env x=some (.pointer (some ⟨r,0,none⟩))) (hs:s.rw=L++(r,.stringIter b p)::R) (hp:¬p <b.size)
 (h:aR C fn bR ops rest Q (A n (upd dst (.tuple ⟨[.bool false]⟩) env) D) s):aR C fn bR ops (i::rest) Q (A n env D) s:=by
 refine eA hC ho hw (by simp) ?_;simp only[execOp,Instr.next,aH,bZ hx];refine fL (o:= .stringIter b p) (.inr (by rw[hs];simp)) rfl rfl ?_;simp only[aH,hp,cF];rw[<-dF] at h;exact h
end rules
theorem eK.part{s:St}{b o m:Nat}{ws:List Value}(h:eK s b o m vs)(j k:Nat)(hj:sub vs j k=some ws):eK s b (o+j) k ws:=by
 obtain⟨l,t,fz,h1,h2⟩:=h;obtain⟨h3,h4⟩:=sub_eq _ _ _ _ h2;obtain⟨h5,h6⟩:=sub_eq _ _ _ _ hj;refine⟨l,t,fz,h1,?_⟩;have hlen:(o+j)+k<=l.length:=by
  rcases Fj k with h0|h0
  .subst h0;have:o+j<=l.length:=by
    have h7:sub vs j 0=some ws:=hj;have hjl:j<=vs.length:=by
     have key:∀(l:List Value) (j:Nat) (ws:List Value),sub l j 0=some ws->j<=l.length:=by
      intro l
      induction l with
      |nil=>intro j ws h;cases j with
       |zero=>simp
       |succ j=>simp[sub] at h
      |cons x l ih=>intro j ws h;cases j with
       |zero=>simp
       |succ j=>have:=ih j ws (by simpa [sub] using h);simp;omega
     exact key _ _ _ h7
    have Uf:o+m<=l.length\/m=0:=by
     rcases Fj m with h8|h8
     .exact .inr h8
     left;have:=h4 (m-1) vs[m-1] (by rw[af]);have:=(aB.1 this).1;omega
    rcases Uf with h9|h9
    .omega
    have bdv:∀(l:List Value) (o:Nat) (ws:List Value),sub l o 0=some ws->o<=l.length:=by
     intro l
     induction l with
     |nil=>intro j ws h;cases j with
      |zero=>simp
      |succ j=>simp[sub] at h
     |cons x l ih=>intro j ws h;cases j with
      |zero=>simp
      |succ j=>have:=ih j ws (by simpa [sub] using h);simp;omega
    rw[h9] at h2;have:=bdv _ _ _ h2;omega
   omega
  have:=h6 (k-1) ws[k-1] (by rw[af]);have:=h4 _ _ this;have:=(aB.1 this).1;omega
 rw[ox hlen];congr 1;apply pH;intro i;by_cases hi:i <k
 .have h7:=h4 _ _ (h6 i ws[i] (by rw[af]));rw[List.getElem?_take_of_lt hi,List.getElem?_drop,af (show i <ws.length by omega),<-h7,Nat.add_assoc]
 rw[Ap (by simp;omega),Ap (by omega)]
section rules
variable {P:Program} {C:Class} {fn:FuncId} {bR:Option Nat} {Q:Post} {s:St} {n:Nat} {env:Env} {D:List Deferred}
variable {ops:Array Oper} {i:Nat} {rest:List Nat} {dst:Option Tmp} {ty:TypeId} {pos:String} {fX:Array Edge} {g:Option (Nat×Bool)}
def oa(hC:∀main T,C main T->Closed P main T){v:Value}(ho:ops[i]?=some ⟨dst,.assign x,ty,pos,fX,none⟩) (hx:dv n env x=some (v)) (h:aR C fn bR ops rest Q (A n (upd dst v env) D) s):aR C fn bR ops (i::rest) Q (A n env D) s:=aoL hC ho rfl hx h
end rules
def mV(k:IntKind)(a b:Int):Int:=a.fdiv (2^(min b.toNat k.bits))
def iA(k:IntKind)(a b:Int):Int:=k.wrap (a*2^(min b.toNat k.bits))
def aj5(k:IntKind)(a b:Int):Int:=k.wrap (BitVec.ofInt k.bits a&&& BitVec.ofInt k.bits b).toNat
def iOr(k:IntKind)(a b:Int):Int:=k.wrap (BitVec.ofInt k.bits a|||BitVec.ofInt k.bits b).toNat
def gr(k:IntKind)(a b:Int):Int:=k.wrap (BitVec.ofInt k.bits a^^^BitVec.ofInt k.bits b).toNat
def Yq(k:IntKind)(h:k.signed=false)(n:Int):0<=k.wrap n/\k.wrap n <2^k.bits:=by
 simp only[IntKind.wrap,h,wJ,aX,cF];omega
theorem Ax(k:IntKind)(h:k.signed=false)(n:Int)(h0:0<=n)(h1:n <2^k.bits):k.wrap n=n:=by
 grind [IntKind.wrap,Int.emod_eq_of_lt]
def BQ(a b:Int):0<=gr .u64 a b/\gr .u64 a b <18446744073709551616:=Yq _ rfl _
theorem eW.aD0{P:Program}{s:St}{own:Cells}(hp:s.rw.Perm (own++fr))(hf:eW P f vs s.ro own Φ):
 Fn (CP P) P f ⟨vs⟩ s (λen s'=>∃v X,en= .returned v/\Φ v X/\(⟨s.ro,X++fr⟩:St).le s'):=by
 refine Fn.mono (Fn.frame (B:=[]) hf (λ_ h=>(by grind)) ⟨hp,λb o hb=> .inl hb,Sub.refl _⟩) λen s' wz=>?_;obtain⟨Gs,⟨v,X,rfl,rfl,uz⟩,hc⟩:=wz;exact⟨v,X,rfl,uz,[],by simpa using hc.rw,λb o hb=> .inl (hc.keep b o hb)⟩
def Knows(ro:Nat->Option Obj)(X:Cells):Prop:=∀x∈X,ro x.1=some x.2
def Knows.up{bU:Nat->Option Obj}{X:Cells}(h:Knows ro X)(hs:Sub ro bU):Knows bU X:=λx hx=>hs _ _ (h x hx)
def Knows.left{X:Cells}(h:Knows ro (X++Y)):Knows ro X:=λx hx=>h x (cR _ hx)
def Knows.right{X:Cells}(h:Knows ro (X++Y)):Knows ro Y:=λx hx=>h x (gv _ hx)
theorem Knows.tail{x:Nat×Obj}(h:Knows ro (x::Y)):Knows ro Y:=λy hy=>h y (cm _ hy)
theorem Knows.head{x:Nat×Obj}(h:Knows ro (x::Y)):ro x.1=some x.2:=h x dX
theorem JN{s:St}{b:Nat}{enc:α->List Value}{ps:List α}(h:s.has b (.cells ⟨(ps.map enc).flatten⟩ T fz))(hl:∀p∈ps,(enc p).length=sz){k:Nat}{x:α}(hx:ps[k]?=some x):eK s b (0+k*sz) sz (enc x):=by
 have h2:=KR ps hl k x hx;have hm:x∈ps:=aj hx;refine⟨_,T,fz,h,?_⟩;rw[iV,ox,h2]
 grind
def fK{b:Nat}{enc:α->List Value}(ps:List α)(h:ro b=some (.cells ⟨(ps.map enc).flatten⟩ T fz))(hl:∀p∈ps,(enc p).length=sz):dq ro (.slice (some ⟨b,0,none⟩) ps.length ps.length) sz enc ps:=
 ⟨_,b,0,_,rfl,bu _,λ_ _=>rfl,λ_ _ hx=>JN (.inl h) hl hx⟩
section rules
variable {P:Program} {C:Class} {fn:FuncId} {bR:Option Nat} {Q:Post} {s:St} {n:Nat} {env:Env} {D:List Deferred}
variable {ops:Array Oper} {i:Nat} {rest:List Nat} {dst:Option Tmp} {ty:TypeId} {pos:String} {fX:Array Edge} {g:Option (Nat×Bool)}
variable {T:TypeId} {d:TypeDesc} {sz dL:Nat} {z:List Value} {ag:Bool}
def aPG(hC:∀main T,C main T->Closed P main T){k k':IntKind}{a b:Int}(ho:ops[i]?=some ⟨dst,.binOp .shr T x y T',ty,pos,fX,g⟩) (hw:bN ops n env g=true)
 (hx:dv n env x=some (.int k a)) (hy:dv n env y=some (.int k' b)) (hb:0<=b) (h:aR C fn bR ops rest Q (A n (upd dst (.int k (mV k a b)) env) D) s):aR C fn bR ops (i::rest) Q (A n env D) s:=by
 refine AW hC ho hw (by simp) ?_ h;simp only[execOp,bZ hx,bZ hy];have he:eqGuard .shr T x y (.int k a) (.int k' b)=Sem.pure ():=rfl;have hv:binOp .shr T (.int k a) (.int k' b)=Sem.pure (.int k (mV k a b)):=by
  show Op.shift .shr k a k' b=_;simp only[Op.shift,show ¬b <0 by omega,cF];rfl
 rw[he];simp only[Sem.bind,hv];rfl
def aPH(hC:∀main T,C main T->Closed P main T){k k':IntKind}{a b:Int}(ho:ops[i]?=some ⟨dst,.binOp .shl T x y T',ty,pos,fX,g⟩) (hw:bN ops n env g=true)
 (hx:dv n env x=some (.int k a)) (hy:dv n env y=some (.int k' b)) (hb:0<=b) (h:aR C fn bR ops rest Q (A n (upd dst (.int k (iA k a b)) env) D) s):aR C fn bR ops (i::rest) Q (A n env D) s:=by
 refine AW hC ho hw (by simp) ?_ h;simp only[execOp,bZ hx,bZ hy];have he:eqGuard .shl T x y (.int k a) (.int k' b)=Sem.pure ():=rfl;have hv:binOp .shl T (.int k a) (.int k' b)=Sem.pure (.int k (iA k a b)):=by
  show Op.shift .shl k a k' b=_;simp only[Op.shift,show ¬b <0 by omega,cF];rfl
 rw[he];simp only[Sem.bind,hv];rfl
end rules
def de{s:St}{b cap:Nat}{enc:α->List Value}(ps:List α)(h:s.has b (.cells ⟨(ps.map enc).flatten⟩ T fz))(hl:∀p∈ps,(enc p).length=sz):Sl s (.slice (some ⟨b,0,none⟩) ps.length cap) sz enc ps:=
 ⟨_,b,0,cap,rfl,λ_ _=>rfl,λ_ _ hx=>JN h hl hx⟩
def bD{b:Nat}{enc:α->List Value}:bJ (.slice (some ⟨b,0,none⟩) 0 0) sz T enc ([]:List α) [(b,.cells ⟨[]⟩ T (0,0))]:=
 .inr ⟨b,[],0,rfl,rfl,by simp,by simp,by simp,by simp⟩
theorem bJ.form{v:Value}{enc:α->List Value}{ps:List α}{L:Cells}(h:bJ v sz T enc ps L):∃a c,v= .slice a ps.length c:=by
 rcases h with ⟨h1,h2,_⟩| ⟨b,l,cap,h1,_⟩
 all_goals grind
def Td(v:Value)(b:Nat):Prop:=∃n c,v= .slice (some ⟨b,0,none⟩) n c
theorem lS{s:St}{v:Value}{enc:α->List Value}{ps:List α}{L:Cells}(h:bJ v sz T enc ps L){b:Nat}(hb:Td v b)(hs:∀x∈L,s.has x.1 x.2){k:Nat}{x:α}(hx:ps[k]?=some x):eK s b (k*sz) sz (enc x):=by
 obtain⟨a,b',o,c,h1,h2,h3⟩:=h.sl hs;have hk:=(aB.1 hx).1;obtain⟨n,c',h5⟩:=hb
 grind
theorem aPy{v:Value}{enc:α->List Value}{ps:List α}{L:Cells}(h:bJ v sz T enc ps L){k:Nat}(hk:k <ps.length):∃b,Td v b:=by
 rcases h with ⟨_,h2,_⟩| ⟨b,l,cap,h1,_⟩
 .grind
 exact⟨b,_,_,h1⟩
def abo{enc:α->List Value}:∀(ps:List α),(∀p∈ps,(enc p).length=sz)->∀(k:Nat) (x:α),(enc x).length=sz->k <ps.length->∀l:List Value,l.take (ps.length*sz)=(ps.map enc).flatten->(gZ l (k*sz) (enc x)).take (ps.length*sz)=((ps.set k x).map enc).flatten:=by
 intro ps hps k x hx hk l hl;have hle:ps.length*sz<=l.length:=by
  have h1:=rh ps hps;rw[<-hl,cw] at h1;omega
 have hks:k*sz+sz<=ps.length*sz:=by
  have:(k+1)*sz<=ps.length*sz:=jV _ (by omega);rw[Nat.succ_mul] at this;exact this
 have hA:((ps.take k).map enc).flatten.length=k*sz:=by
  rw[rh _ (λp hp=>hps p (List.mem_of_mem_take hp)),cw,Nat.min_eq_left (by omega)]
 have hC:((ps.drop (k+1)).map enc).flatten.length=(ps.length-(k+1))*sz:=by
  rw[rh _ (λp hp=>hps p (Ci hp)),rq]
 have hB:=hps ps[k] (Au hk);have aGY:(ps.map enc).flatten=((ps.take k).map enc).flatten++(enc ps[k]++((ps.drop (k+1)).map enc).flatten):=by
  have h3:ps=ps.take k++ps[k]::ps.drop (k+1):=by rw[<-gI hk,fF]
  have h4:=qt (λq:List α=>(q.map enc).flatten) h3;simp only[cC,bV,Yk,List.flatten_cons] at h4;exact h4
 have Ip:l=((ps.take k).map enc).flatten++(enc ps[k]++(((ps.drop (k+1)).map enc).flatten++l.drop (ps.length*sz))):=by
  have h3:=(fF (ps.length*sz) l).symm;rw[hl,aGY] at h3;simp only[bC] at h3;exact h3
 have wq:((ps.set k x).map enc).flatten=((ps.take k).map enc).flatten++(enc x++((ps.drop (k+1)).map enc).flatten):=by
  rw[List.set_eq_take_append_cons_drop,dW hk];simp only[cC,bV,Yk,List.flatten_cons]
 have bfc:gZ l (k*sz) (enc x)=((ps.take k).map enc).flatten++(enc x++(((ps.drop (k+1)).map enc).flatten++l.drop (ps.length*sz))):=by
  rw[BB _ _ _ (by omega),hx,bC];congr 1
  .conv=>lhs;rw[Ip]
   rw[<-hA,List.take_left]
  congr 1
  conv=>lhs;rw[Ip]
  rw[<-bC,<-bC,bC _ _ (List.drop _ _)];rw[show k*sz+sz=(((ps.take k).map enc).flatten++enc ps[k]).length by rw[aM,hA,hB],List.drop_left]
 rw[bfc,wq,<-bC,<-bC];have hlen:(((ps.take k).map enc).flatten++enc x++((ps.drop (k+1)).map enc).flatten).length=ps.length*sz:=by
  rw[aM,aM,hA,hx,hC];have:ps.length*sz=(k+1+(ps.length-(k+1)))*sz:=by congr 1;omega
  rw[this,Hz,Nat.succ_mul]
 rw[<-hlen,List.take_left,bC]
section rules
variable {P:Program} {C:Class} {fn:FuncId} {bR:Option Nat} {Q:Post} {s:St} {n:Nat} {env:Env} {D:List Deferred}
variable {ops:Array Oper} {i:Nat} {rest:List Nat} {dst:Option Tmp} {ty:TypeId} {pos:String} {fX:Array Edge} {g:Option (Nat×Bool)}
variable {T:TypeId} {d:TypeDesc} {sz dL:Nat} {z:List Value} {ag:Bool}
def ZJ(hC:∀main T,C main T->Closed P main T){w:Operand}{k':IntKind}{hi:Int}(ho:ops[i]?=some ⟨dst,.slice T x none (some w) none,ty,pos,fX,g⟩) (hw:bN ops n env g=true) (tf:TF P T .string sz dL z ag)
 (hx:dv n env x=some (.string b)) (hz:dv n env w=some (.int k' hi)) (hl:0<=hi/\hi<=b.size) (h:aR C fn bR ops rest Q (A n (upd dst (.string (b.extract 0 hi.toNat)) env) D) s):aR C fn bR ops (i::rest) Q (A n env D) s:=by
 refine eA hC ho hw (by simp) ?_;simp only[execOp,di,j7,Instr.sliceAt,Instr.slice,bZ hx,bZ hz,aH,cY tf,Instr.sliceBounds,Instr.sliceBound,asIntOf,aQ,af3,aX,cF,hl,dI];rw[<-dF] at h;exact h
def ZI(hC:∀main T,C main T->Closed P main T){k:IntKind}{lo:Int}(ho:ops[i]?=some ⟨dst,.slice T x (some y) none none,ty,pos,fX,g⟩) (hw:bN ops n env g=true) (tf:TF P T .string sz dL z ag)
 (hx:dv n env x=some (.string b)) (hy:dv n env y=some (.int k lo)) (hl:0<=lo/\lo<=b.size) (h:aR C fn bR ops rest Q (A n (upd dst (.string (b.extract lo.toNat b.size)) env) D) s):aR C fn bR ops (i::rest) Q (A n env D) s:=by
 refine eA hC ho hw (by simp) ?_;simp only[execOp,di,j7,Instr.sliceAt,Instr.slice,bZ hx,bZ hy,aH,cY tf,Instr.sliceBounds,Instr.sliceBound,asIntOf,aQ,af3,aX,cF,hl,LC,dI];rw[<-dF] at h;exact h
theorem dq.part{a:Option Addr}{len cap:Nat}{enc:α->List Value}{ps:List α}(hs:dq ro (.slice a len cap) sz enc ps){l h:Nat}(hl:l<=h)(hh:h<=ps.length):dq ro (.slice (if cap=l then a else a.map (·.add (l*sz))) (h-l) (cap-l)) sz enc ((ps.take h).drop l):=by
 obtain⟨a',b,o,aVu,h1,h2,h3,h4⟩:=hs;cases h1;have hlen:((ps.take h).drop l).length=h-l:=by rw[rq,cw];omega
 refine⟨_,b,o+l*sz,_,by rw[hlen],by omega,λk hk=>?_,λi p hp=>?_⟩
 .have:=h3 0 (by omega);subst this;rw[cJ (by omega)];simp[gY]
 grind
theorem aoG(hC:∀main T,C main T->Closed P main T){v:Value}{enc:α->List Value}{ps:List α}{L:Cells}(ho:ops[i]?=some ⟨dst,.call ⟨.builtin .len,#[x],#[T]⟩,ty,pos,fX,g⟩) (hw:bN ops n env g=true)
 (tf:TF P T (.slice E) sz dL z ag) (hx:dv n env x=some v) (kO:bJ v szo T2 enc ps L) (h:aR C fn bR ops rest Q (A n (upd dst (.int .i64 ps.length) env) D) s):aR C fn bR ops (i::rest) Q (A n env D) s:=by
 obtain⟨a,c,rfl⟩:=kO.form
 grind [aPM]
end rules
def gG{bU:Nat->Option Obj}{K J:Cells}(hp:rw'.Perm (K++J))(h:Sub ro bU):(⟨ro,K⟩:St).le ⟨bU,rw'⟩:=⟨J,hp,λb o hb=> .inl (h b o hb)⟩
theorem aG(h:l.all single=true):∀v∈l,single v=true:=by grind
section any
variable {P:Program} {C:Class} {fn:FuncId} {bR:Option Nat} {Q:Post} {s:St} {n:Nat} {D:List Deferred} {ops:Array Oper} {base:Env}
def aCT(C:Class)(fn:FuncId)(bR:Option Nat)(ops:Array Oper)(n:Nat)(D:List Deferred)(base:Env)(Pl Sl:List (Nat×Value))(Q:Post)(s:St)(i:Nat):Prop:=
 ∀rest todo,(∀v s',(∀j w,(j,w)∈pending ops i Sl->ku C fn bR ops n D j w (fe ops base j Pl) s->ku C fn bR ops n D j w (fe ops base j Pl) s')->
  Bj C fn bR ops n D base ((i,v)::Pl) (pending ops i Sl) Q s'->aR C fn bR ops todo Q (A n (upd (db ops i) v (fe ops base i Pl++rest)) D) s')->
  aR C fn bR ops (i::todo) Q (A n (fe ops base i Pl++rest) D) s
def Fg(C:Class)(fn:FuncId)(bR:Option Nat)(ops:Array Oper)(n:Nat)(D:List Deferred)(base:Env)(Pl Sl:List (Nat×Value))(Q:Post)(s:St):List Nat->Prop
 | []=>True
 |i::is=>aCT C fn bR ops n D base Pl Sl Q s i/\Fg C fn bR ops n D base Pl Sl Q s is
theorem Fg.mem{Pl Sl:List (Nat×Value)}:∀ {is:List Nat},Fg C fn bR ops n D base Pl Sl Q s is->∀i∈is,aCT C fn bR ops n D base Pl Sl Q s i
 | [],_,i,hi=>by grind
 |k::is,h,i,hi=>by
  rcases aS.1 hi with rfl|hi
  .exact h.1
  exact Fg.mem h.2 i hi
def aoy(ops:Array Oper)(ks:List Nat)(is:List Nat):Bool:=
 (List.range ops.size).all λj=>dG j ks||dG j is||(dK ops j).any λk=> !dG k ks
def ali{Pl Sl:List (Nat×Value)}(is:List Nat)(sJ:kG ops=true)(his:(is.all λi=>Nat.blt i ops.size&& !dG i (bx Pl))=true)(kP:nodupB (bx Pl)=true)(my:wj ops (bx Pl)=true)(hs:kI (bx Sl) (bx Pl)=true)(ho:aoy ops (bx Pl) is=true)
 (h:Fg C fn bR ops n D base Pl Sl Q s is)(eo:is.isEmpty=false):Bj C fn bR ops n D base Pl Sl Q s:=by
 have yE:∀i∈is,i∉bx Pl:=λi hi hm=>by
  have:=(c8.1 his) i hi;rw[cE.2 hm] at this;simp at this
 have MI:∀i∈is,i <ops.size:=λi hi=>by
  have:=(c8.1 his) i hi;simp only[au,af4] at this;exact this.1
 have Qe:∀(l:List (Nat×Value)),nodupB (bx l)=true->∀j v w,(j,v)∈l->(j,w)∈l->w=v:=by
  intro l
  induction l with
  |nil=>intro _ j v w h;cases h
  |cons x l ih=>
   rcases x with ⟨k,u⟩
   intro hb j v w h1 h2;simp only[bx,nodupB,au,az] at hb;have hk:k∉bx l:=λhm=>by rw[cE.2 hm] at hb;cases hb.1
   rcases aS.1 h1 with h1|h1<;>rcases aS.1 h2 with h2|h2
   .cases h1;cases h2;rfl
   .cases h1;exact absurd (cP.2 ⟨_,h2⟩) hk
   .cases h2;exact absurd (cP.2 ⟨_,h1⟩) hk
   exact ih hb.2 j v w h1 h2
 intro hSl X l
 induction l generalizing X with
 |nil=>
  intro env hX hl wu hf;cases is with
  |nil=>cases eo
  |cons i is=>exact absurd (hX i (wu i (MI i dX))) (yE i dX)
 |cons j l ih=>
  intro env hX hl wu hf;obtain⟨h1,h2,h3,h4⟩:=wu;by_cases hj:j∈bx Pl
  ·
   obtain⟨w,hw⟩:=cP.1 hj;obtain⟨rest,hr⟩:=D6 (n:=n) (D:=D) hf j h3 h2;rw[hr];refine hSl j w (hl j w hw h2) s (Ext.refl s) rest l Q ?_;rw[<-Mc hr];refine ih (j::X) _ (λk hk=>?_) (λk u hk Jj=>hl k u hk (λh=>Jj (cm _ h))) h4 (A7 sJ hf h1 h2 h3 (λu hu=>Qe Pl kP j w u hw hu));rcases aS.1 hk with rfl|hk
   .exact hj
   exact hX k hk
  by_cases Ht:j∈is
  .have h:=Fg.mem h j Ht;have yE:=yE j Ht;obtain⟨rest,hr⟩:=D6 (n:=n) (D:=D) hf j h3 h2;rw[hr];refine h rest l λv s' hp ha=>?_;rw[<-Mc hr];have SZ:∀k,k∈bx Pl->j∉dK ops k:=by
    intro k hk hm;have:=(c8.1 my) k hk;exact yE (eO.1 this j hm)
   have hps:∀k u,(k,u)∈pending ops j Sl->(k,u)∈Sl:=λk u hk=>(cN.1 hk).1;refine ha (λk u hk=>?_) (j::X) l _ (λk hk=>?_) (λk u hk Jj=>?_) h4 ?_
   .rw[gD (SZ k (eO.1 hs k (cP.2 ⟨u,hps k u hk⟩)))];exact hp k u hk (hSl k u (hps k u hk))
   .rcases aS.1 hk with rfl|hk
    .simp[bx]
    exact cm _ (hX k hk)
   .rcases aS.1 hk with hk|hk
    .cases hk;exact absurd (by simp) Jj
    have Wz:k∉X:=λh=>Jj (cm _ h);refine cN.2 ⟨hl k u hk Wz,?_⟩;cases hm:dG k (dK ops j) with
    |false=>rfl
    |true=>exact absurd (h3 k (cE.1 hm)) Wz
   refine A7 sJ (KS hf h2) h1 h2 h3 λu hu=>?_;rcases aS.1 hu with hu|hu
   .cases hu;rfl
   exact absurd (cP.2 ⟨_,hu⟩) yE
  exfalso;have:=(c8.1 ho) j (ee.2 h1);have e1:dG j (bx Pl)=false:=by
   cases hm:dG j (bx Pl) with
   |false=>rfl
   |true=>exact absurd (cE.1 hm) hj
  have e2:dG j is=false:=by
   cases hm:dG j is with
   |false=>rfl
   |true=>exact absurd (cE.1 hm) Ht
  rw[e1,e2] at this;simp only[Bool.false_or,List.any_eq_true,az] at this;obtain⟨k,hk,ep⟩:=this;have:=hX k (h3 k hk);rw[cE.2 this] at ep;cases ep
end any
section rules
variable {P:Program} {C:Class} {fn:FuncId} {bR:Option Nat} {Q:Post} {s:St} {n:Nat} {env:Env} {D:List Deferred}
variable {ops:Array Oper} {i:Nat} {rest:List Nat} {dst:Option Tmp} {ty:TypeId} {pos:String} {fX:Array Edge} {g:Option (Nat×Bool)}
variable {T:TypeId} {d:TypeDesc} {sz dL:Nat} {z:List Value} {ag:Bool} {ro:Nat->Option Obj}
theorem DC{a:Act}(hC:∀main T,C main T->Closed P main T)(hp:rw'.Perm rw)(h:aR C fn bR ops todo Q a ⟨ro,rw⟩):aR C fn bR ops todo Q a ⟨ro,rw'⟩:=
 aR.more (s:=⟨ro,rw⟩) hC ⟨[],by grind,λb o hb=> .inl hb⟩ h
def oap(hC:∀main T,C main T->Closed P main T){v w:Value}{enc:α->List Value}{ps qs:List α}{L R:List (Nat×Obj)}{d':TypeDesc}{E2:TypeId}{ny CY sz2 CX:Nat}{z' z2:List Value}{Eu ag2:Bool}{U:TypeId}
 (ho:ops[i]?=some ⟨dst,.call ⟨.builtin .append,#[x,y],#[T,U]⟩,ty,pos,fX,g⟩) (hw:bN ops n env g=true) (tf:TF P T (.slice E) sz dL z ag) (tfU:TF P U (.slice E2) sz2 CX z2 ag2) (od:TF P E d' ny CY z' Eu) (hz:z'.length=ny)
 (hx:dv n env x=some v) (hy:dv n env y=some w) (kO:bJ v ny E enc ps L) (Bn:Sl ⟨ro,L++R⟩ w ny enc qs) (hq:∀p∈qs,∀c∈enc p,single c=true) (hb:DG (ps.length+qs.length) CY)
 (h:∀v' L',bJ v' ny E enc (ps++qs) L'->aR C fn bR ops rest Q (A n (upd dst v' env) D) ⟨ro,L'++R⟩):aR C fn bR ops (i::rest) Q (A n env D) ⟨ro,L++R⟩:=
 ZN hC ho hw tf tfU od hz hx hy kO Bn (pre:=[]) rfl hq hb h
def ost(hC:∀main T,C main T->Closed P main T){b o:Nat}{v:Value}{R:List (Nat×Obj)}{c:List Value}{e:TypeId}(ho:ops[i]?=some ⟨dst,.store T x y,ty,pos,fX,g⟩) (hw:bN ops n env g=true) (tf:TF P T d sz dL z ag)
 (hx:dv n env x=some (.pointer (some ⟨b,o,none⟩))) (hy:dv n env y=some (v)) (hl:v.cells=⟨l⟩) (hn:l.length=sz) (h1:∀v∈l,single v=true) (hb:o+l.length<=c.length)
 (h:aR C fn bR ops rest Q (A n (upd dst undef env) D) ⟨ro,(b,.cells ⟨gZ c o l⟩ e (0,0))::R⟩):aR C fn bR ops (i::rest) Q (A n env D) ⟨ro,(b,.cells ⟨c⟩ e (0,0))::R⟩:=
 Oa hC ho hw tf hx hy hl hn h1 (L:=[]) rfl hb h
end rules
section rules
variable {P:Program} {C:Class} {fn:FuncId} {bR:Option Nat} {Q:Post} {s:St} {n:Nat} {env:Env} {D:List Deferred}
variable {ops:Array Oper} {i:Nat} {rest:List Nat} {dst:Option Tmp} {ty:TypeId} {pos:String} {fX:Array Edge} {g:Option (Nat×Bool)}
def aFD(hC:∀main T,C main T->Closed P main T){U:TypeId}{k:IntKind}{a b:Int}(ho:ops[i]?=some ⟨dst,.call ⟨.builtin .min,#[x,y],#[T,U]⟩,ty,pos,fX,g⟩) (hw:bN ops n env g=true)
 (hx:dv n env x=some (.int k a)) (hy:dv n env y=some (.int k b)) (h:aR C fn bR ops rest Q (A n (upd dst (.int k (min a b)) env) D) s):aR C fn bR ops (i::rest) Q (A n env D) s:=by
 refine eA hC ho hw (by simp) ?_;have e:(if b <a then b else a)=min a b:=by omega
 simp only[execOp,resolve,invoke,builtin,Builtin.min_,oV,bV,lN,bZ hx,bZ hy,List.foldlM_cons,Builtin.min2,aH,aQ,e];rw[<-dF] at h;exact h
def aFE(hC:∀main T,C main T->Closed P main T){U:TypeId}{k:IntKind}{a b:Int}(ho:ops[i]?=some ⟨dst,.call ⟨.builtin .max,#[x,y],#[T,U]⟩,ty,pos,fX,g⟩) (hw:bN ops n env g=true)
 (hx:dv n env x=some (.int k a)) (hy:dv n env y=some (.int k b)) (h:aR C fn bR ops rest Q (A n (upd dst (.int k (max a b)) env) D) s):aR C fn bR ops (i::rest) Q (A n env D) s:=by
 refine eA hC ho hw (by simp) ?_;have e:(if a <b then b else a)=max a b:=by omega
 simp only[execOp,resolve,invoke,builtin,Builtin.max_,oV,bV,bZ hx,bZ hy,List.foldlM_cons,Builtin.max2,aH,aQ,e];rw[<-dF] at h;exact h
end rules
def jo(a b:ByteArray):Bool:=a.toList==b.toList
def strLt(a b:ByteArray):Bool:=Op.bytesLess a.toList b.toList
section rules
variable {P:Program} {C:Class} {fn:FuncId} {bR:Option Nat} {Q:Post} {s:St} {n:Nat} {env:Env} {D:List Deferred}
variable {ops:Array Oper} {i:Nat} {rest:List Nat} {dst:Option Tmp} {ty:TypeId} {pos:String} {fX:Array Edge} {g:Option (Nat×Bool)}
def aFA(hC:∀main T,C main T->Closed P main T){a:ByteArray}(ho:ops[i]?=some ⟨dst,.binOp .add T x y T',ty,pos,fX,g⟩) (hw:bN ops n env g=true)
 (hx:dv n env x=some (.string a)) (hy:dv n env y=some (.string b)) (hb:(a.size:Int)+b.size<=9223372036854775807) (h:aR C fn bR ops rest Q (A n (upd dst (.string (a++b)) env) D) s):aR C fn bR ops (i::rest) Q (A n env D) s:=
 H5 hC ho hw hx hy (by
  simp only[Op.stringOp];rw[cJ]
  .rfl
  simp_all) rfl h
end rules
theorem aKp(b:ByteArray)(i:Nat)(h:i <b.size):b.get! i=b.data.toList[i]'(by simpa using h):=by
 show b.data[i]! =_
 grind
theorem aiy(b:ByteArray):∀(n i:Nat) (r:List UInt8),b.size-i=n->ByteArray.toList.loop b i r=r.reverse++b.data.toList.drop i
 |0,i,r,h=>by
  unfold ByteArray.toList.loop;rw[cJ (by omega),LG]
  .simp
  show b.data.toList.length<=i;rw[Ym];have:b.data.size=b.size:=rfl;omega
 |n+1,i,r,h=>by
  unfold ByteArray.toList.loop;have hi:i <b.size:=by omega
  rw[dW hi,aiy b n (i+1) _ (by omega),aKp b i hi];have hl:i <b.data.toList.length:=by rw[Ym];exact hi
  rw[gI hl];simp
theorem Fb(b:ByteArray):b.toList=b.data.toList:=by
 show ByteArray.toList.loop b 0 []=_;rw[aiy b _ 0 [] rfl];simp
theorem AE{a:ByteArray}:jo a b=true↔a=b:=by
 unfold jo;rw[Fb,Fb];simp only[beq_iff_eq];constructor
 .intro h;have:=Array.toList_inj.1 h;cases a;simp_all
 rintro rfl;rfl
def FnG(P:Program)(f:FuncId)(args:List Value)(ro:Nat->Option Obj)(own:Cells)(Φ:Value->(Nat->Option Obj)->Cells->Prop):Prop:=
 Fn (CP P) P f ⟨args⟩ ⟨ro,own⟩ (λen s'=>∃v bU X,en= .returned v/\s'=⟨bU,X⟩/\Sub ro bU/\Φ v bU X)
theorem FnG.use{P:Program}{s:St}{own:Cells}{Φ:Value->(Nat->Option Obj)->Cells->Prop}(hp:s.rw.Perm (own++fr))(hf:FnG P f vs s.ro own Φ):
 Fn (CP P) P f ⟨vs⟩ s (λen s'=>∃v bU X,en= .returned v/\Sub s.ro bU/\Φ v bU X/\(⟨bU,X++fr⟩:St).le s'):=by
 refine Fn.mono (Fn.frame (fr:=fr) (B:=[]) (s:=s) hf (λ_ h=>(by cases h)) ⟨hp,λb o hb=> .inl hb,Sub.refl _⟩) λen s' wz=>?_;obtain⟨Gs,⟨v,bU,X,rfl,rfl,hs,uz⟩,hc⟩:=wz;refine⟨v,bU,X,rfl,hs,uz,[],by simpa using hc.rw,λb o hb=>?_⟩;rcases hc.cK b o hb with h|h
 all_goals grind
theorem PA:∀(A l:List Value) (o:Nat) (c:List Value),gZ (A++l) (A.length+o) c=A++gZ l o c
 | [],l,o,c=>by simp
 |a::A,l,o,[]=>by simp[sS]
 |a::A,l,o,v::c=>by
  have:=PA A l o (v::c);rw[show (a::A).length+o=A.length+o+1 by grind]
  grind [gZ]
theorem TB{m B:List Value}{o:Nat}{c:List Value}(h:o+c.length<=m.length):gZ (m++B) o c=gZ m o c++B:=by
 grind [BB,aM,bC]
theorem ajv{m c:List Value}(h:c.length=m.length):gZ m 0 c=c:=by
 grind [BB]
def afe{enc:α->List Value}{ps:List α}(hps:∀p∈ps,(enc p).length=sz){k:Nat}{x:α}(hx:ps[k]?=some x) (hl:l.take (ps.length*sz)=(ps.map enc).flatten):∃A B,A.length=k*sz/\l=A++(enc x++B):=by
 obtain⟨hk,rfl⟩:=aB.1 hx;refine⟨((ps.take k).map enc).flatten,((ps.drop (k+1)).map enc).flatten++l.drop (ps.length*sz),?_,?_⟩
 .rw[rh _ (λp hp=>hps p (List.mem_of_mem_take hp)),cw,Nat.min_eq_left (by omega)]
 have h3:ps=ps.take k++ps[k]::ps.drop (k+1):=by rw[<-gI hk,fF]
 have h4:=qt (λq:List α=>(q.map enc).flatten) h3;simp only[cC,bV,Yk,List.flatten_cons] at h4;have h5:=(fF (ps.length*sz) l).symm;rw[hl,h4] at h5;simpa only[bC] using h5
theorem ajw{enc:α->List Value}{ps:List α}(hps:∀p∈ps,(enc p).length=sz){k:Nat}{x:α}(hx:ps[k]?=some x) (hl:l.take (ps.length*sz)=(ps.map enc).flatten) {o:Nat} {c:List Value} (h:o+c.length<=sz):
 gZ l (k*sz+o) c=gZ l (k*sz) (gZ (enc x) o c):=by
 have hxl:=hps x (aj hx);obtain⟨A,B,h1,rfl⟩:=afe hps hx hl;have e0:∀q,gZ (A++(enc x++B)) A.length q=A++gZ (enc x++B) 0 q:=λq=>PA A _ 0 q;rw[<-h1,PA,e0,TB (by omega),TB (by rw[q4];omega),ajv (q4 _ _ _)]
section rules
variable {P:Program} {C:Class} {fn:FuncId} {bR:Option Nat} {Q:Post} {ro:Nat->Option Obj} {n:Nat} {env:Env} {D:List Deferred}
variable {ops:Array Oper} {i:Nat} {rest:List Nat} {dst:Option Tmp} {ty:TypeId} {pos:String} {fX:Array Edge} {g:Option (Nat×Bool)}
variable {T:TypeId} {d:TypeDesc} {tsz dL:Nat} {z:List Value} {ag:Bool}
def aPB(hC:∀main T,C main T->Closed P main T){b k o:Nat}{v w:Value}{a e:α}{c:List Value}{enc:α->List Value}{ps:List α}{L:Cells}(ho:ops[i]?=some ⟨dst,.store T x y,ty,pos,fX,g⟩) (hw:bN ops n env g=true) (tf:TF P T d tsz dL z ag)
 (hx:dv n env x=some (.pointer (some ⟨b,k*sz+o,none⟩))) (hy:dv n env y=some w) (hl:w.cells=⟨c⟩) (hn:c.length=tsz) (h1:∀v∈c,single v=true) (kO:bJ v sz E enc ps L) (hb:Td v b) (hk:ps[k]?=some a) (he:enc e=gZ (enc a) o c) (hf:o+c.length<=sz)
 (h:∀L',bJ v sz E enc (ps.set k e) L'->aR C fn bR ops rest Q (A n (upd dst undef env) D) ⟨ro,L'++R⟩):aR C fn bR ops (i::rest) Q (A n env D) ⟨ro,L++R⟩:=by
 have hk1:k <ps.length:=(aB.1 hk).1;rcases kO with ⟨_,h2,_⟩| ⟨b',l,cap,g1,g2,g3,g4,g5,g6⟩
 .subst h2;simp at hk
 obtain⟨n',c',mz⟩:=hb;rw[g1] at mz;cases mz;subst g2;have hea:(enc a).length=sz:=g5 a (aj hk);have wz:(enc e).length=sz:=by rw[he,q4,hea]
 have hks:k*sz+sz<=ps.length*sz:=by
  have:(k+1)*sz<=ps.length*sz:=jV _ (by omega);rw[Nat.succ_mul] at this;exact this
 have iR:ps.length*sz<=cap*sz:=jV _ g4;refine Oa (L:=[]) (R:=R) hC ho hw tf hx hy hl hn h1 rfl (by omega)<|h [(b,.cells ⟨gZ l (k*sz+o) c⟩ E (0,0))] (.inr ⟨b,_,cap,by rw[g1,aO],rfl,by rw[q4,g3],by rw[aO];exact g4,λp hp=>?_,?_⟩)
 .rcases List.mem_or_eq_of_mem_set hp with h5|h5
  .exact g5 p h5
  subst h5;exact wz
 rw[aO,ajw g5 hk g6 hf,<-he];exact abo ps g5 k e wz hk1 l g6
end rules
section rules
variable {P:Program} {C:Class} {fn:FuncId} {bR:Option Nat} {Q:Post} {s:St} {n:Nat} {env:Env} {D:List Deferred}
variable {ops:Array Oper} {i:Nat} {rest:List Nat} {dst:Option Tmp} {ty:TypeId} {pos:String} {fX:Array Edge} {g:Option (Nat×Bool)}
structure EF(P:Program)(f:FuncId)(e:Array Value->Sem Value):Prop where
 ef:∃fn,P.funcs[f]?=some fn/\(fn.name== "runtime.NumGoroutine")=false/\fn.body.isNone=true/\(Extern.findNext fn).isNone=true/\Extern.find fn=some e
def aoJ(hC:∀main T,C main T->Closed P main T){e:Array Value->Sem Value}(ho:ops[i]?=some ⟨dst,.call ⟨.value (.func f),xs,at_⟩,ty,pos,fX,g⟩) (hw:bN ops n env g=true)
 (ef:EF P f e) (hx:Am n env xs=some vs) (h:eJ P (e ⟨vs⟩) s (λv s'=>aR C fn bR ops rest Q (A n (upd dst v env) D) s') (λ_ _=>False)):aR C fn bR ops (i::rest) Q (A n env D) s:=by
 obtain⟨fn',h1,h2,h3,h4,h5⟩:=ef.ef;have h4':Extern.findNext fn'=none:=by
  cases hh:Extern.findNext fn' with
  |none=>rfl
  |some x=>rw[hh] at h4;cases h4
 refine eA hC ho hw (by simp) ?_;simp only[execOp,resolve,ev,Deferred.ofValue,aQ,yd hx];simp only[invoke,bQ,dB,callFunc,jH,h1,h2,h3,h4',h5,dI,aX,cF];refine⟨rfl,?_⟩;refine YD (e ⟨vs⟩) (λv=>(pure (Next.value v):Sem Next)) _ _ _<|Di _ _ _ _ _ _ (λv s' hv=>?_) (λ_ _ (hf:False)=>hf.elim) h;rw[<-dF] at hv;exact hv
end rules
def ixb(a:ByteArray)(b:UInt8):Int:=
 match (List.range a.size).find? λi=>a[i]! ==b with
 |some i=>i
 |none=> -1
section rules
variable {P:Program} {C:Class} {fn:FuncId} {bR:Option Nat} {Q:Post} {s:St} {n:Nat} {env:Env} {D:List Deferred}
variable {ops:Array Oper} {i:Nat} {rest:List Nat} {dst:Option Tmp} {ty:TypeId} {pos:String} {fX:Array Edge} {g:Option (Nat×Bool)}
def aoH(hC:∀main T,C main T->Closed P main T){a:ByteArray}{b:Int}(ho:ops[i]?=some ⟨dst,.call ⟨.value (.func f),xs,at_⟩,ty,pos,fX,g⟩) (hw:bN ops n env g=true)
 (ef:EF P f Extern.BytealgIndexByte.indexByte) (hx:Am n env xs=some [.string a,.int .u8 b]) (h:aR C fn bR ops rest Q (A n (upd dst (.int .i64 (ixb a b.toNat.toUInt8)) env) D) s):aR C fn bR ops (i::rest) Q (A n env D) s:=by
 refine aoJ hC ho hw ef hx ?_;unfold ixb at h;show eJ P (match (List.range a.size).find? λi=>a[i]! ==b.toNat.toUInt8 with|some i=>pure (goInt i)|none=>pure (goInt (-1))) s _ _;split
 .rename_i j hj;rw[hj] at h;exact h
 rename_i hj;rw[hj] at h;exact h
def awp(hC:∀main T,C main T->Closed P main T){v:Value}(ho:ops[i]?=some ⟨dst,.call ⟨.value (.func f),xs,at_⟩,ty,pos,fX,g⟩) (hw:bN ops n env g=true)
 (ef:EF P f Extern.AbiNoEscape.same) (hx:Am n env xs=some [v]) (h:aR C fn bR ops rest Q (A n (upd dst v env) D) s):aR C fn bR ops (i::rest) Q (A n env D) s:=
 aoJ hC ho hw ef hx h
end rules
def akU{c:UInt8}(h:b.data.toList[p]?=some c) (ha:c.toNat <128):p <b.size/\Utf8.decode b p=(c.toNat,1):=by
 rw[Array.getElem?_toList] at h;obtain⟨h1,h2⟩:=Array.getElem?_eq_some_iff.1 h;refine⟨h1,?_⟩;have h3:b.get! (p+0)=c:=by
  show b.data[p+0]! =c;rw[tO,getElem!_pos b.data p h1,h2]
 simp only[Utf8.decode,h3];rw[dW (by omega)]
section rules
variable {P:Program} {C:Class} {fn:FuncId} {bR:Option Nat} {Q:Post} {ro:Nat->Option Obj} {n:Nat} {env:Env} {D:List Deferred}
variable {ops:Array Oper} {i:Nat} {rest:List Nat} {dst:Option Tmp} {ty:TypeId} {pos:String} {fX:Array Edge} {g:Option (Nat×Bool)}
theorem awr(hC:∀main T,C main T->Closed P main T){c:UInt8}(ho:ops[i]?=some ⟨dst,.next x true,ty,pos,fX,g⟩) (hw:bN ops n env g=true) (hx:dv n env x=some (.pointer (some ⟨r,0,none⟩))) (hp:b.data.toList[p]?=some c) (ha:c.toNat <128)
 (h:aR C fn bR ops rest Q (A n (upd dst (.tuple ⟨[.bool true,.int .i64 p,.int .i32 c.toNat]⟩) env) D) ⟨ro,(r,.stringIter b (p+1))::R⟩):aR C fn bR ops (i::rest) Q (A n env D) ⟨ro,(r,.stringIter b p)::R⟩:=by
 obtain⟨h1,h2⟩:=akU hp ha;refine ajF hC ho hw hx (L:=[]) rfl h1 ?_
 grind
def awq(hC:∀main T,C main T->Closed P main T)(ho:ops[i]?=some ⟨dst,.next x true,ty,pos,fX,g⟩) (hw:bN ops n env g=true) (hx:dv n env x=some (.pointer (some ⟨r,0,none⟩))) (hp:b.data.toList[p]?=none)
 (h:aR C fn bR ops rest Q (A n (upd dst (.tuple ⟨[.bool false]⟩) env) D) ⟨ro,(r,.stringIter b p)::R⟩):aR C fn bR ops (i::rest) Q (A n env D) ⟨ro,(r,.stringIter b p)::R⟩:=by
 refine ajG hC ho hw hx (L:=[]) rfl ?_ h;simp_all
end rules
def OQ(ops:Array Oper)(n:Nat)(env:Env)(D:List Deferred)(o:Oper)(j:Nat)(want:Bool)(d:Tmp)(hg:o.guard=some (j,want))(hd:(ops[j]?).bind (·.dst)=some d)
 (hv:dv n env (.tmp d)=some undef):Region.wanted o (yielded ops (A n env D).tmps)=false:=by
 unfold Region.wanted;rw[hg];simp only[dv] at hv;by_cases dS:d <n
 .rw[show Nat.blt d n=true from by simpa [af4] using dS] at hv;simp only[yielded,hd,oT,XW];rw[dW dS,tb hv];rfl
 rw[show Nat.blt d n=false from by simpa [af4,<-Bool.not_eq_true] using dS] at hv;cases hv
section rules
variable {P:Program} {C:Class} {fn:FuncId} {bR:Option Nat} {Q:Post} {s:St} {n:Nat} {env:Env} {D:List Deferred}
variable {ops:Array Oper} {i:Nat} {rest:List Nat} {dst:Option Tmp} {ty:TypeId} {pos:String} {fX:Array Edge} {g:Option (Nat×Bool)}
theorem awo(hC:∀main T,C main T->Closed P main T){op:Op}{j:Nat}{want:Bool}{d:Tmp}(ho:ops[i]?=some ⟨dst,op,ty,pos,fX,some (j,want)⟩) (hd:(ops[j]?).bind (·.dst)=some d)
 (hv:dv n env (.tmp d)=some undef) (h:aR C fn bR ops rest Q (A n (upd dst undef env) D) s):aR C fn bR ops (i::rest) Q (A n env D) s:=by
 refine BG hC ho (OQ _ _ _ _ _ _ _ _ rfl hd hv) ?_
 grind [dF]
end rules
section rules
variable {P:Program} {C:Class} {fn:FuncId} {bR:Option Nat} {Q:Post} {s:St} {n:Nat} {env:Env} {D:List Deferred}
variable {ops:Array Oper} {i:Nat} {rest:List Nat} {dst:Option Tmp} {ty:TypeId} {pos:String} {fX:Array Edge} {g:Option (Nat×Bool)}
variable {T:TypeId} {sz dL:Nat} {z:List Value} {ag:Bool}
def awn(hC:∀main T,C main T->Closed P main T){a:Option Addr}{l c:Nat}(ho:ops[i]?=some ⟨dst,.binOp .eql T x y T',ty,pos,fX,g⟩) (hw:bN ops n env g=true) (tf:TF P T (.slice E) sz dL z ag)
 (hx:dv n env x=some (.slice a l c)) (hy:dv n env y=some (.slice none 0 0)) (h:aR C fn bR ops rest Q (A n (upd dst (.bool a.isNone) env) D) s):aR C fn bR ops (i::rest) Q (A n env D) s:=by
 refine eA hC ho hw (by simp) ?_;have hg:eqGuard .eql T x y (.slice a l c) (.slice none 0 0)=Sem.pure ():=by cases a<;>rfl
 have hb:binOp .eql T (.slice a l c) (.slice none 0 0)=(Op.equal T (.slice a l c) (.slice none 0 0) >>= λr=>pure (.bool r)):=by cases a<;>rfl
 have he:∀ {α:Type} (K:Bool->Sem α) (Q:α->St->Prop) (E:Halt->St->Prop),eJ P (K a.isNone) s Q E->eJ P (Op.equal T (.slice a l c) (.slice none 0 0) >>= K) s Q E:=by
  intro α K Q E hK;have gen:∀d,eJ P (Op.equalIn (d+1) T (.slice a l c) (.slice none 0 0) >>= K) s Q E:=by
   intro d;cases a<;>(simp only[Op.equalIn,aH,cY tf,aQ,Option.isNone];exact hK)
  exact gen 9999
 simp only[execOp,bZ hx,bZ hy,hg,hb];show eJ P ((Op.equal T (.slice a l c) (.slice none 0 0) >>= λr=>(pure (Value.bool r):Sem Value)) >>= λx=>(pure (Next.value x):Sem Next)) s _ _;simp only[aH];refine he _ _ _ ?_;rw[<-dF] at h;exact h
end rules
def an8:Op->Option (List Operand)
 | .move x=>some [x]
 | .assign x=>some [x]
 | .extract x _=>some [x]
 | .nilCheck x=>some [x]
 | .fieldAddr _ x _=>some [x]
 | .makeInterface _ x=>some [x]
 | .indexAddr _ x y=>some [x,y]
 |op=>PD op
theorem Zn{xs:List Operand}(h:an8 o.op=some xs){f g:Operand->Value}(hfg:∀x∈xs,f x=g x):execOp f o=execOp g o:=by
 unfold an8 at h;split at h
 all_goals first
  | (rename_i heq;simp only[aD] at h;subst h;simp[execOp,heq,hfg];done)
  |exact BC h hfg
def evj(n:Nat)(e:Env)(x:Operand):Value:=(dv n e x).getD undef
theorem Xf{f:Operand->Value}(hf:Ev n e f):∀ {xs:List Operand} {vs:List Value},FK n e xs=some vs->∀x∈xs,f x=evj n e x
 |y::l,vs,h,x,hx=>by
  simp only[FK] at h;cases hv:dv n e y with
  |none=>rw[hv] at h;cases h
  |some v=>
   rw[hv] at h;cases hr:FK n e l with
   |none=>rw[hr] at h;cases h
   |some r=>
    rcases aS.1 hx with rfl|hx
    .rw[hf _ _ hv,evj,hv];rfl
    exact Xf hf hr x hx
def aER(P:Program)(n:Nat)(e:Env)(o:Oper):Option Value:=
 match an8 o.op with
 |some xs=>match FK n e xs with
  |some _=>match dP P (execOp (evj n e) o) with
   |some (.value v)=>some v
   |_=>none
  |none=>none
 |none=>none
def aQC(P:Program)(n:Nat)(e:Env)(x:Operand)(T:TypeId):Option Value:=
 match cV P T with
 |some ⟨.slice _,_,_,_⟩=>match dv n e x with
  |some (.slice _ len _)=>some (.int .i64 len)
  |_=>none
 |some ⟨.string,_,_,_⟩=>match dv n e x with
  |some (.string b)=>some (.int .i64 b.size)
  |_=>none
 |_=>none
def afE(P:Program)(n:Nat)(e:Env)(T:TypeId)(ps:Array (Nat×Operand)):Option Value:=
 match cV P T with
 |some ⟨.struct fields,_,z,_⟩=>match EJ P fields.toList with
  |some pl=>match Yd n e ps.toList with
   |some pv=>match vG (λi=>pl[i]?) z (BE pv) with
    |some l=>some (.agg ⟨l⟩)
    |none=>none
   |none=>none
  |none=>none
 |some ⟨.array _ E,_,z,_⟩=>match cV P E with
  |some te=>match Yd n e ps.toList with
   |some pv=>match vG (λi=>some (i*te.size,te.size)) z (BE pv) with
    |some l=>some (.agg ⟨l⟩)
    |none=>none
   |none=>none
  |none=>none
 |_=>none
def amw(P:Program)(n:Nat)(e:Env)(o:Oper):Option Value:=
 match o.op with
 | .pick c x y=>match dv n e c with
  |some (.bool true)=>dv n e x
  |some (.bool false)=>dv n e y
  |_=>none
 | .makeFunc f x y=>match FK n e x.toList with
  |some x'=>match FK n e y.toList with
   |some y'=>some (.func f ⟨x'⟩ ⟨y'⟩)
   |none=>none
  |none=>none
 | .build T ps=>afE P n e T ps
 | .call ⟨.builtin .len,⟨[x]⟩,⟨[T]⟩⟩=>aQC P n e x T
 |_=>aER P n e o
section val
variable {P:Program} {n:Nat} {e:Env} {o:Oper} {s:St} {v:Value}
def avH(h:aER P n e o=some v):Yields P n e o s v:=by
 unfold aER at h;split at h<;>try (cases h;done)
 rename_i xs hx;split at h<;>try (cases h;done)
 rename_i vs hvs;split at h<;>try (cases h;done)
 rename_i w hr;cases h;intro s' _ f hf K E hK;rw[Zn hx (Xf hf hvs)];exact vi hr hK
theorem ak6{ps:Array (Nat×Operand)}(heq:o.op= .build T ps)(h:afE P n e T ps=some v):Yields P n e o s v:=by
 unfold afE at h
 split at h<;>try (cases h;done)
 ·rename_i fields _ z _ ig
  obtain⟨dL,tf⟩:=bA ig
  split at h<;>try (cases h;done)
  rename_i pl xE
  split at h<;>try (cases h;done)
  rename_i pv SO
  split at h<;>try (cases h;done)
  rename_i l hl
  cases h
  intro s' pq f hf K E hK
  simp only[execOp,heq,Instr.build,aH,oF tf,cY tf,gW tf]
  rw[Array.mapM_eq_mapM_toList]
  simp only[map_eq_pure_bind,aH,aQ]
  rw[uX (GA xE)]
  rw[qx] at hl
  have h1:=fill_eq _ _ _ _ hl
  have h3:(fun x=>(pl.toArray)[x]?:Nat→Option (Nat×Nat))=fun i=>pl[i]?:=by funext i;simp
  simp only[h3,hf.Dy SO,h1,aQ]
  exact hK
 rename_i len E _ z _ ig
 obtain⟨dL,tf⟩:=bA ig
 split at h<;>try (cases h;done)
 rename_i te wo
 obtain⟨CX,tK⟩:=bA wo
 split at h<;>try (cases h;done)
 rename_i pv SO
 split at h<;>try (cases h;done)
 rename_i l hl
 cases h
 intro s' pq f hf K E hK
 simp only[execOp,heq,Instr.build,aH,oF tf,cY tf,gW tf,ez tK]
 rw[qx] at hl
 have h1:=fill_eq _ _ _ _ hl
 simp only[hf.Dy SO,h1,aQ]
 exact hK
def HH(h:amw P n e o=some v):Yields P n e o s v:=by
 unfold amw at h;split at h
 .rename_i c x y heq;split at h<;>try (cases h;done)
  .rename_i hc;intro s' _ f hf K E hK;simp only[execOp,heq,hf _ _ hc,hf _ _ h];exact hK
  rename_i hc;intro s' _ f hf K E hK;simp only[execOp,heq,hf _ _ hc,hf _ _ h];exact hK
 .rename_i g x y heq;split at h<;>try (cases h;done)
  rename_i x' hx;split at h<;>try (cases h;done)
  rename_i y' hy;cases h;intro s' _ f hf K E hK;simp only[execOp,heq,hf.arr hx,hf.arr hy];exact hK
 .rename_i T ps heq;exact ak6 heq h
 .rename_i x T heq;unfold aQC at h;split at h<;>try (cases h;done)
  .rename_i ig;obtain⟨dL,tf⟩:=bA ig;split at h<;>try (cases h;done)
   rename_i hx;cases h;intro s' _ f hf K E hK;simp only[execOp,heq,resolve,invoke,builtin,Builtin.len_,oV,bV,lN,hf _ _ hx,aQ,su,jN,cY tf,aH];exact hK
  rename_i ig;obtain⟨dL,tf⟩:=bA ig;split at h<;>try (cases h;done)
  rename_i hx;cases h;intro s' _ f hf K E hK;simp only[execOp,heq,resolve,invoke,builtin,Builtin.len_,oV,bV,lN,hf _ _ hx,aQ,su,jN,cY tf,aH];exact hK
 exact avH h
end val
def ldv(P:Program)(T:TypeId)(l:List Value)(off:Nat):Option Value:=
 match cV P T with
 |some ti=>bif ti.agg then (match sub l off ti.size with
  |some vs=>some (.agg ⟨vs⟩)
  |none=>none) else nth l off
 |none=>none
def ad6{P:Program}{s:St}{v:Value}{b:Nat}{t:TypeId}(heq:o.op= .load T x)(hx:dv n e x=some (.pointer (some ⟨b,off,none⟩)))(hb:s.has b (.cells ⟨l⟩ t fz))(h:ldv P T l off=some v):Yields P n e o s v:=by
 unfold ldv at h;split at h<;>try (cases h;done)
 rename_i ti ig;obtain⟨dL,tf⟩:=bA ig;intro s' hs f hf K E hK;cases ha:ti.agg with
 |true=>
  rw[ha] at h tf;simp only[cH] at h;split at h<;>try (cases h;done)
  rename_i vs hvs;cases h;simp only[execOp,heq,Instr.loadAt,hf _ _ hx,Instr.sureAddr,loadVar,aH,aQ,pS tf,dI,ez tf];exact ov ⟨_,_,_,hs _ _ hb,hvs⟩ hK
 |false=>
  rw[ha] at h tf;simp only[fJ] at h;simp only[execOp,heq,Instr.loadAt,hf _ _ hx,Instr.sureAddr,loadVar,aH,aQ,pS tf,aX,cF];exact Dp ⟨_,_,_,hs _ _ hb,h⟩ hK
def aFZ{P:Program}{s:St}{v:Value}{b m:Nat}(k:Nat)(heq:o.op= .load T x)(hx:dv n e x=some (.pointer (some ⟨b,off+k,none⟩)))(hb:eK s b off m l)(h:ldv P T l k=some v):Yields P n e o s v:=by
 unfold ldv at h;split at h<;>try (cases h;done)
 rename_i ti ig;obtain⟨dL,tf⟩:=bA ig;intro s' hs f hf K E hK;cases ha:ti.agg with
 |true=>
  rw[ha] at h tf;simp only[cH] at h;split at h<;>try (cases h;done)
  rename_i vs hvs;cases h;simp only[execOp,heq,Instr.loadAt,hf _ _ hx,Instr.sureAddr,loadVar,aH,aQ,pS tf,dI,ez tf];exact ov ((hb.ext hs).part k ti.size hvs) hK
 |false=>
  rw[ha] at h tf;simp only[fJ] at h;simp only[execOp,heq,Instr.loadAt,hf _ _ hx,Instr.sureAddr,loadVar,aH,aQ,pS tf,aX,cF];exact Dp ((hb.ext hs).cell k v (by rw[<-xS];exact h)) hK
structure Cx where
 P:Program
 C:Class
 hC:∀main T,C main T->Closed P main T
 hm:P.follows .mixedOrders=true
 fn:FuncId
 bR:Option Nat
 n:Nat
 D:List Deferred
 ro:Nat->Option Obj
 Q:Post
def Cx.at(X:Cx)(ro:Nat->Option Obj):Cx:={X with ro:=ro}
inductive KI where
 |seq (b:Code)
 |block (id:Nat)
 |next (K:Act->St->Prop)
inductive Sg where
 |b (i:Nat) (o:Obj)
 |l (L:Cells)
def den:List Sg->Cells
 | []=>[]
 | [.l L]=>L
 | .b i o::r=>(i,o)::den r
 | .l L::r=>L++den r
theorem p6(i:Nat)(o:Obj)(r:List Sg):den (.b i o::r)=(i,o)::den r:=by rfl
theorem lv(L:Cells)(r:List Sg):den (.l L::r)=L++den r:=by grind [den]
inductive Pos where
 |ops (ops:Array Oper) (todo:List Nat) (k:List KI)
 |code (c:Code) (k:List KI)
 |nxt (K:Act->St->Prop)
 |KZ (ops:Array Oper) (base:Env) (Pl Sl:List (Nat×Value)) (k:List KI)
 |fin (e:Exit)
structure Kn where
 c:Cells
 nd:List (Nat×Cells)
variable {kn:Kn}
structure JS where
 pos:Pos
 env:Env
 rw:List Sg
 kn:Kn
variable {s':JS}
def KQ(X:Cx):List KI->Post
 | []=>X.Q
 | .seq b::k=>rY (λa s=>Wp X.C X.fn X.bR b (KQ X k) a s) (KQ X k)
 | .block id::k=>yg id (KQ X k)
 | .next K::k=>rY K (KQ X k)
def Mt:Op->Bool
 | .load .. =>false
 | .lookup .. =>false
 | .call ⟨.value _,_,_⟩=>false
 | .call ⟨.invoke ..,_,_⟩=>false
 |_=>true
def DY(ops:Array Oper)(n:Nat)(e:Env):Option (Nat×Bool)->Option Bool
 |none=>some true
 |some (j,want)=>match db ops j with
  |some d=>match dv n e (.tmp d) with
   |some (.bool true)=>some want
   |some (.bool false)=>some (!want)
   |some (.tuple ⟨[]⟩)=>some false
   |_=>none
  |none=>none
def yP(ops:Array Oper)(n:Nat)(base:Env)(Pl:List (Nat×Value))(j:Nat):Bool:=match ops[j]? with
 |some p=>Mt p.op||(match DY ops n (fe ops base j Pl) p.guard with
  |some false=>true
  |_=>false)
 |none=>false
def PF(X:Cx)(nd:List (Nat×Cells))(ops:Array Oper)(base:Env)(Pl Sl:List (Nat×Value)):Prop:=
 (∀j u,(j,u)∈Sl->yP ops X.n base Pl j=true->∀s,ku X.C X.fn X.bR ops X.n X.D j u (fe ops base j Pl) s)/\
 ∀j u B,(j,u)∈Sl->(j,B)∈nd->∀s,Ext ⟨X.ro,[]⟩ s->(∀x∈B,s.has x.1 x.2)->ku X.C X.fn X.bR ops X.n X.D j u (fe ops base j Pl) s
def ndK:List (Nat×Cells)->List Nat
 | []=>[]
 | (i,_)::l=>i::ndK l
theorem V1{B:Cells}:∀ {l:List (Nat×Cells)},(i,B)∈l->i∈ndK l
 | (j,C)::l,h=>by
  simp only[ndK];rcases aS.1 h with h|h
  .grind
  exact cm _ (V1 h)
def JP(X:Cx)(kn:Kn)(e:Env)(w:List Sg):Pos->Prop
 | .ops ops todo k=>aR X.C X.fn X.bR ops todo (KQ X k) (A X.n e X.D) ⟨X.ro,den w⟩
 | .code c k=>Wp X.C X.fn X.bR c (KQ X k) (A X.n e X.D) ⟨X.ro,den w⟩
 | .nxt K=>K (A X.n e X.D) ⟨X.ro,den w⟩
 | .KZ ops base Pl Sl k=>PF X kn.nd ops base Pl Sl->Bj X.C X.fn X.bR ops X.n X.D base Pl Sl (KQ X k) ⟨X.ro,den w⟩
 | .fin e'=>X.Q e' (A X.n e X.D) ⟨X.ro,den w⟩
def J(X:Cx):Option JS->Prop
 |none=>False
 |some s=>Knows X.ro s.kn.c->JP X s.kn s.env s.rw s.pos
def Zq:List KI->Pos
 | []=> .fin .normal
 | .seq b::k=> .code b k
 | .block _::k=>Zq k
 | .next K::_=> .nxt K
def BD{X:Cx}{w:List Sg}:∀ {k:List KI},JP X kn e w (Zq k)->KQ X k .normal (A X.n e X.D) ⟨X.ro,den w⟩
 | [],h=>h
 | .seq _::_,h=>h
 | .block _::k,h=>BD (k:=k) h
 | .next _::_,h=>h
def II(id:Nat):List KI->Option Pos
 | []=>some (.fin (.exit id))
 | .seq _::k=>II id k
 | .block i::k=>bif Nat.beq id i then some (Zq k) else II id k
 | .next _::k=>II id k
def D8{X:Cx}{w:List Sg}{id:Nat}{p:Pos}:∀ {k:List KI},II id k=some p->JP X kn e w p->KQ X k (.exit id) (A X.n e X.D) ⟨X.ro,den w⟩
 | [],h,hj=>by simp only[II,aD] at h;subst h;exact hj
 | .seq _::k,h,hj=>D8 (k:=k) h hj
 | .next _::k,h,hj=>D8 (k:=k) h hj
 | .block i::k,h,hj=>by
  simp only[II] at h;cases hb:Nat.beq id i with
  |true=>
   rw[hb] at h;simp only[cH,aD] at h;subst h;have:=eC hb;subst this;exact M3 (BD hj)
  |false=>
   rw[hb] at h;simp only[fJ] at h;exact M1 hb (D8 (k:=k) h hj)
def HS{X:Cx}{a:Act}{s:St}(h:X.Q .ret a s):∀(k:List KI),KQ X k .ret a s
 | []=>h
 | .seq _::k=>HS h k
 | .next _::k=>HS h k
 | .block _::k=>HS h k
def aOg:Op->Bool
 | .move _| .assign _| .pick .. | .makeFunc .. | .extract .. | .nilCheck _| .fieldAddr .. | .makeInterface .. | .indexAddr .. | .index .. | .field .. | .binOp .. | .unOp .. | .convert .. | .build .. | .load .. | .lookup .. | .slice .. =>true
 | .call ⟨.builtin .len,_,_⟩| .call ⟨.builtin .cap,_,_⟩| .call ⟨.builtin .min,_,_⟩| .call ⟨.builtin .max,_,_⟩=>true
 |_=>false
def aOh(ops:Array Oper)(i:Nat):Bool:=match ops[i]? with
 |some o=>aOg o.op
 |none=>false
def enabled(ops:Array Oper)(ks:List Nat)(i:Nat):Bool:= !dG i ks&&kI (dK ops i) ks
def ah9(f:Nat->Bool):Nat->Nat->Option Nat
 |0,_=>none
 |k+1,i=>bif f i then some i else ah9 f k (i+1)
def aKg(ops:Array Oper)(i:Nat):Bool:=match ops[i]? with
 |some ⟨_,.call ⟨.value _,_,_⟩,_,_,_,_⟩=>true
 |_=>false
def aza(ops:Array Oper)(ks:List Nat):Option Nat:=
 match ah9 (λi=>enabled ops ks i&&aOh ops i) ops.size 0 with
 |some i=>some i
 |none=>match ah9 (λi=>enabled ops ks i&&aKg ops i) ops.size 0 with
  |some i=>some i
  |none=>ah9 (enabled ops ks) ops.size 0
def xY(n:Nat):JS->Option (Bool×Oper×Env)
 | ⟨.ops ops (i::_) _,e,_,_⟩=>match ops[i]? with
  |some o=>match DY ops n e o.guard with
   |some g=>some (g,o,e)
   |none=>none
  |none=>none
 | ⟨.KZ ops base Pl _ _,_,_,_⟩=>match aza ops (bx Pl) with
  |some i=>match ops[i]? with
   |some o=>match DY ops n (fe ops base i Pl) o.guard with
    |some g=>some (g,o,fe ops base i Pl)
    |none=>none
   |none=>none
  |none=>none
 |_=>none
def PB(v:Value):JS->Option JS
 | ⟨.ops ops (i::todo) k,e,w,kn⟩=>match ops[i]? with
  |some o=>some ⟨.ops ops todo k,upd o.dst v e,w,kn⟩
  |none=>none
 | ⟨.KZ ops base Pl Sl k,e,w,kn⟩=>match aza ops (bx Pl) with
  |some i=>bif !dG i (bx Pl)&&(kI (dK ops i) (bx Pl)&&(wj ops (bx Pl)&&(kI (bx Sl) (bx Pl)&& !dG i (ndK kn.nd)))) then some ⟨.KZ ops base ((i,v)::Pl) ((i,v)::Sl) k,e,w,kn⟩ else none
  |none=>none
 |_=>none
def uF{ops:Array Oper}{g:Option (Nat×Bool)}(h:DY ops n e g=some true)(rest:Env):bN ops n (e++rest) g=true:=by
 unfold DY at h;split at h
 .rfl
 rename_i j want;split at h<;>try (cases h;done)
 rename_i d hd;have hd:(ops[j]?).bind (·.dst)=some d:=hd;split at h<;>try (cases h;done)
 .rename_i hb;simp only[aD] at h;subst h;exact Bt hd (cM hb) rfl
 rename_i hb;simp only[aD,az] at h;subst h;exact Bt hd (cM hb) rfl
section
variable {X:Cx}
def G7{ops:Array Oper}{Q:Post}{s:St}(ho:ops[i]?=some o) (h:DY ops X.n e o.guard=some false) (rest:Env) (hk:aR X.C X.fn X.bR ops todo Q (A X.n (upd o.dst undef (e++rest)) X.D) s):aR X.C X.fn X.bR ops (i::todo) Q (A X.n (e++rest) X.D) s:=by
 unfold DY at h;split at h
 .cases h
 rename_i j want hg;split at h<;>try (cases h;done)
 rename_i d hd;have hd:(ops[j]?).bind (·.dst)=some d:=hd;split at h<;>try (cases h;done)
 .rename_i hb;simp only[aD] at h;subst h;exact BK X.hC ho hg hd (cM hb) rfl hk
 .rename_i hb;simp only[aD,aC] at h;subst h;exact BK X.hC ho hg hd (cM hb) rfl hk
 rename_i hb;rcases o with ⟨dst,op,ty,pos,fX,g⟩
 dsimp only at hg;subst hg;exact awo X.hC ho hd (cM hb) hk
def Rz(X:Cx)(e:Env)(o:Oper)(s:St)(v:Value):Prop:=
 ∀(ops:Array Oper) (i:Nat),ops[i]?=some o->∀rest,bN ops X.n (e++rest) o.guard=true->∀s',Ext s s'->∀todo Q,aR X.C X.fn X.bR ops todo Q (A X.n (upd o.dst v (e++rest)) X.D) s'->aR X.C X.fn X.bR ops (i::todo) Q (A X.n (e++rest) X.D) s'
def jyS{s:JS}{g:Bool}{v:Value}(hh:xY X.n s=some (g,o,e))(hp:PB v s=some s')
 (hv:match g with|true=>(Knows X.ro s.kn.c->Rz X e o ⟨X.ro,den s.rw⟩ v)/\(Mt o.op=true->∀s,Rz X e o s v)|false=>v=undef)(hj:J X (some s')):J X (some s):=by
 intro ep;rcases s with ⟨p,e0,w,kn⟩
 cases p with
 |ops ops todo k=>
  cases todo with
  |nil=>cases hh
  |cons i todo=>
   simp only[xY] at hh;split at hh<;>try (cases hh;done)
   rename_i o1 ho;split at hh<;>try (cases hh;done)
   rename_i g1 hg;cases hh;simp only[PB,ho,aD] at hp;subst hp;have hk:aR X.C X.fn X.bR ops todo (KQ X k) (A X.n (upd o.dst v e) X.D) ⟨X.ro,den w⟩:=hj ep;show aR X.C X.fn X.bR ops (i::todo) (KQ X k) (A X.n e X.D) ⟨X.ro,den w⟩;cases g with
   |true=>
    have:=hv.1 ep ops i ho [] (uF hg []) _ (Ext.refl _) todo (KQ X k);rw[eR] at this;exact this hk
   |false=>
    dsimp only at hv;subst hv;have:=G7 (Q:=KQ X k) (s:=⟨X.ro,den w⟩) (todo:=todo) ho hg [];rw[List.append_nil] at this;exact this hk
 |KZ ops base Pl Sl k=>
  simp only[xY] at hh;split at hh<;>try (cases hh;done)
  rename_i i hi;split at hh<;>try (cases hh;done)
  rename_i o1 ho;split at hh<;>try (cases hh;done)
  rename_i g1 hg;cases hh;simp only[PB,hi] at hp;cases hc:(!dG i (bx Pl)&&(kI (dK ops i) (bx Pl)&&(wj ops (bx Pl)&&(kI (bx Sl) (bx Pl)&& !dG i (ndK kn.nd))))) with
  |false=>rw[hc] at hp;cases hp
  |true=>
   rw[hc] at hp;simp only[cH,aD] at hp;subst hp;simp only[au,az] at hc;have NH:db ops i=o.dst:=by simp only[db,ho,oT]
   intro hpf;have yE:∀j,j∈bx Sl->i∉dK ops j:=λj hj hd=>by
    have h1:=eO.1 hc.2.2.2.1 j hj;have h2:=eO.1 (c8.1 hc.2.2.1 j h1) i hd;rw[cE.2 h2] at hc;exact absurd hc.1 (by simp)
   refine Rw i hc.1 hc.2.1 hc.2.2.1 hc.2.2.2.1 ?_ (hj ep ⟨λj u Kt hp s0=>?_,λj u B Kt hB s0 Hr EY=>?_⟩)
   .intro s1 hx rest todo Q hk;rw[NH] at hk;cases g with
    |true=>exact hv.1 ep ops _ ho rest (uF hg rest) _ hx _ _ hk
    |false=>dsimp only at hv;subst hv;exact G7 ho hg rest hk
   .have hii:i∉dK ops i:=λhd=>by
     have h2:=eO.1 hc.2.1 i hd;rw[cE.2 h2] at hc;exact absurd hc.1 (by simp)
    rcases aS.1 Kt with h1|h1
    .obtain⟨Ht,rfl⟩:=Prod.mk.inj h1;subst Ht;rw[gD hii];intro s1 hx rest todo Q hk;rw[NH] at hk;cases g with
     |true=>
      have hpk:Mt o.op=true:=by
       simp only[yP,ho,gD hii,hg,Bool.or_false] at hp;exact hp
      exact hv.2 hpk s0 ops _ ho rest (uF hg rest) _ hx _ _ hk
     |false=>dsimp only at hv;subst hv;exact G7 ho hg rest hk
    have Jl:j∈bx Sl:=cP.2 ⟨u,h1⟩;rw[gD (yE j Jl)];exact hpf.1 j u h1 (by simp only[yP,gD (yE j Jl)] at hp;exact hp) s0
   rcases aS.1 Kt with h1|h1
   .obtain⟨Ht,rfl⟩:=Prod.mk.inj h1;subst Ht;have:=V1 hB;rw[cE.2 this] at hc;exact absurd hc.2.2.2.2 (by simp)
   rw[gD (yE j (cP.2 ⟨u,h1⟩))];exact hpf.2 j u B h1 hB s0 Hr EY
 |_=>cases hh
def av7(B:Cells)(v:Value):JS->Option JS
 | ⟨.ops ops (i::todo) k,e,w,kn⟩=>match ops[i]? with
  |some o=>some ⟨.ops ops todo k,upd o.dst v e,w,kn⟩
  |none=>none
 | ⟨.KZ ops base Pl Sl k,e,w,kn⟩=>match aza ops (bx Pl) with
  |some i=>bif !dG i (bx Pl)&&(kI (dK ops i) (bx Pl)&&(wj ops (bx Pl)&&(kI (bx Sl) (bx Pl)&& !dG i (ndK kn.nd)))) then some ⟨.KZ ops base ((i,v)::Pl) ((i,v)::Sl) k,e,w,⟨kn.c,(i,B)::kn.nd⟩⟩ else none
  |none=>none
 |_=>none
def jyN{s:JS}{v:Value}{B:Cells}(hh:xY X.n s=some (true,o,e))(hp:av7 B v s=some s')(hB:∀x∈B,(⟨X.ro,den s.rw⟩:St).has x.1 x.2)(hnp:Mt o.op=false)
 (hv:∀s0,Ext ⟨X.ro,[]⟩ s0->(∀x∈B,s0.has x.1 x.2)->Rz X e o s0 v)(hj:J X (some s')):J X (some s):=by
 intro ep;rcases s with ⟨p,e0,w,kn⟩
 cases p with
 |ops ops todo k=>
  have:PB v ⟨.ops ops todo k,e0,w,kn⟩=some s':=by
   cases todo with
   |nil=>cases hh
   |cons i todo=>exact hp
  exact jyS hh this ⟨λ_=>hv _ Xd hB,λh=>by rw[hnp] at h;cases h⟩ hj ep
 |KZ ops base Pl Sl k=>
  simp only[xY] at hh;split at hh<;>try (cases hh;done)
  rename_i i hi;split at hh<;>try (cases hh;done)
  rename_i o1 ho;split at hh<;>try (cases hh;done)
  rename_i g1 hg;cases hh;simp only[av7,hi] at hp;cases hc:(!dG i (bx Pl)&&(kI (dK ops i) (bx Pl)&&(wj ops (bx Pl)&&(kI (bx Sl) (bx Pl)&& !dG i (ndK kn.nd))))) with
  |false=>rw[hc] at hp;cases hp
  |true=>
   rw[hc] at hp;simp only[cH,aD] at hp;subst hp;simp only[au,az] at hc;have NH:db ops i=o.dst:=by simp only[db,ho,oT]
   intro hpf;have yE:∀j,j∈bx Sl->i∉dK ops j:=λj hj hd=>by
    have h1:=eO.1 hc.2.2.2.1 j hj;have h2:=eO.1 (c8.1 hc.2.2.1 j h1) i hd;rw[cE.2 h2] at hc;exact absurd hc.1 (by simp)
   have hii:i∉dK ops i:=λhd=>by
    have h2:=eO.1 hc.2.1 i hd;rw[cE.2 h2] at hc;exact absurd hc.1 (by simp)
   have dr:∀s0,Ext ⟨X.ro,[]⟩ s0->(∀x∈B,s0.has x.1 x.2)->ku X.C X.fn X.bR ops X.n X.D i v (fe ops base i Pl) s0:=by
    intro s0 Hr EY s1 hx rest todo Q hk;rw[NH] at hk;exact hv s0 Hr EY ops _ ho rest (uF hg rest) _ hx _ _ hk
   have bfy:yP ops X.n base ((i,v)::Pl) i=false:=by
    simp only[yP,ho,hnp,gD hii,hg,Bool.or_false]
   refine Rw i hc.1 hc.2.1 hc.2.2.1 hc.2.2.2.1 (dr _ Xd hB) (hj ep ⟨λj u Kt hp s0=>?_,λj u B' Kt hB' s0 Hr EY=>?_⟩)
   .rcases aS.1 Kt with h1|h1
    .obtain⟨Ht,rfl⟩:=Prod.mk.inj h1;subst Ht;rw[bfy] at hp;cases hp
    have Jl:j∈bx Sl:=cP.2 ⟨u,h1⟩;rw[gD (yE j Jl)];exact hpf.1 j u h1 (by simp only[yP,gD (yE j Jl)] at hp;exact hp) s0
   rcases aS.1 Kt with h1|h1
   .obtain⟨Ht,rfl⟩:=Prod.mk.inj h1;subst Ht;rw[gD hii];rcases aS.1 hB' with h2|h2
    .cases h2;exact dr s0 Hr EY
    have:=V1 h2;rw[cE.2 this] at hc;exact absurd hc.2.2.2.2 (by simp)
   have Jl:j∈bx Sl:=cP.2 ⟨u,h1⟩;rw[gD (yE j Jl)];rcases aS.1 hB' with h2|h2
   .obtain⟨Ht,rfl⟩:=Prod.mk.inj h2;subst Ht;have h3:=eO.1 hc.2.2.2.1 _ Jl;rw[cE.2 h3] at hc;exact absurd hc.1 (by simp)
   exact hpf.2 j u B' h1 h2 s0 Hr EY
 |_=>cases hh
def jy{s:JS}{g:Bool}{v:Value}(hh:xY X.n s=some (g,o,e))(hp:PB v s=some s')
 (hv:match g with|true=>jb o.op=true/\(Knows X.ro s.kn.c->Yields X.P X.n e o ⟨X.ro,den s.rw⟩ v)/\(Mt o.op=true->∀s,Yields X.P X.n e o s v)|false=>v=undef)(hj:J X (some s')):J X (some s):=by
 refine jyS hh hp ?_ hj;cases g with
 |true=>exact⟨λep ops i ho rest hw s' hx todo Q hk=>qf X.hC ho _ hw hv.1 (hv.2.1 ep) hx hk,λhp s ops i ho rest hw s' hx todo Q hk=>qf X.hC ho _ hw hv.1 (hv.2.2 hp s) hx hk⟩
 |false=>exact hv
end
def H6:List Sg->Nat->Option Sg
 | [],_=>none
 |x::_,0=>some x
 |_::l,i+1=>H6 l i
def ade:List Sg->Nat->Sg->List Sg
 | [],_,_=>[]
 |_::l,0,y=>y::l
 |x::l,i+1,y=>x::ade l i y
def awv:Cells->Nat->Option (Nat×Obj)
 | [],_=>none
 |x::_,0=>some x
 |_::l,i+1=>awv l i
def IW(w:List Sg)(kn:Cells)(h:Nat):Option (Nat×List Value):=
 match H6 w h with
 |some (.b b (.cells ⟨l⟩ _ _))=>some (b,l)
 |some _=>none
 |none=>match awv kn (h-64) with
  |some (b,.cells ⟨l⟩ _ _)=>some (b,l)
  |_=>none
def am9(P:Program)(n:Nat)(e:Env)(w:List Sg)(h:Nat):Op->Option (List Sg×Nat×Nat)
 | .store T x y=>match dv n e x with
  |some (.pointer (some ⟨b,off,none⟩))=>match dv n e y with
   |some v=>match H6 w h with
    |some (.b b' (.cells ⟨c⟩ t (0,0)))=>match cV P T with
     |some ti=>bif Nat.beq (iL v).length ti.size&&(Nat.ble (off+(iL v).length) c.length&&(iL v).all single) then some (ade w h (.b b' (.cells ⟨gZ c off (iL v)⟩ t (0,0))),b,b') else none
     |none=>none
    |_=>none
   |none=>none
  |_=>none
 |_=>none
abbrev aCR:=Option (JS×List Nat×List (Nat×Nat))
def aJ8(n:Nat)(e:Env)(k:List KI):Code->Option Pos
 | .skip=>some (Zq k)
 | .seq a b=>some (.code a (.seq b::k))
 | .block id c=>some (.code c (.block id::k))
 | .region _ ops d=>bif d then (bif Hh ops then some (.KZ ops e [] [] k) else none) else some (.ops ops (List.range ops.size) k)
 | .exit id=>II id k
 | .ret=>some (.fin .ret)
 | .scope c=>some (.code c k)
 | .label _=>some (Zq k)
 | .cond c a b=>match dv n e c with
  |some (.bool true)=>some (.code a k)
  |some (.bool false)=>some (.code b k)
  |_=>none
 |_=>none
def atj(ops:Array Oper)(Pl:List (Nat×Value)):Bool:=kG ops&&(nodupB (bx Pl)&&(kI (List.range ops.size) (bx Pl)&&kI (bx Pl) (List.range ops.size)))
def opJ(P:Program)(n:Nat)(hs:List Nat)(s:JS):aCR:=
 match xY n s with
 |some (g,o,e)=>bif g then (match o.op with
  | .store .. =>match s,hs with
   | ⟨.ops ops (_::todo) k,_,w,kn⟩,h::hs=>match am9 P n e w h o.op with
    |some (w',b,b')=>some (⟨.ops ops todo k,upd o.dst undef e,w',kn⟩,hs,[(b,b')])
    |none=>none
   |_,_=>none
  | .load T x=>match hs with
   |h::hs=>match dv n e x with
    |some (.pointer (some ⟨b,off,none⟩))=>match IW s.rw s.kn.c h with
     |some (b',l)=>match ldv P T l off with
      |some v=>match PB v s with
       |some s'=>some (s',hs,[(b',b)])
       |none=>none
      |none=>none
     |none=>none
    |_=>none
   | []=>none
  |_=>bif jb o.op then (match amw P n e o with
   |some v=>match PB v s with
    |some s'=>some (s',hs,[])
    |none=>none
   |none=>none) else none) else (match PB undef s with
  |some s'=>some (s',hs,[])
  |none=>none)
 |none=>none
def stepJ(P:Program)(n:Nat)(hs:List Nat)(s:JS):aCR:=
 match s.pos with
 | .ops _ [] k=>some (⟨Zq k,s.env,s.rw,s.kn⟩,hs,[])
 | .code c k=>match aJ8 n s.env k c with
  |some p=>some (⟨p,s.env,s.rw,⟨s.kn.c,[]⟩⟩,hs,[])
  |none=>none
 | .KZ ops base Pl _ k=>match aza ops (bx Pl) with
  |none=>bif atj ops Pl then some (⟨Zq k,oP ops base Pl,s.rw,s.kn⟩,hs,[]) else none
  |some _=>opJ P n hs s
 |_=>opJ P n hs s
section
variable {X:Cx}
theorem HO:∀ {w:List Sg} {h b:Nat} {o:Obj},H6 w h=some (.b b o)->∃L R,den w=L++(b,o)::R/\∀o',den (ade w h (.b b o'))=L++(b,o')::R
 | [],_,_,_,h=>by cases h
 |x::w,0,b,o,h=>by
  simp only[H6,aD] at h;subst h;exact⟨[],den w,by simp[p6],λo'=>by simp[ade,p6]⟩
 |x::w,i+1,b,o,h=>by
  obtain⟨L,R,h1,h2⟩:=HO (w:=w) (h:=i) h;cases x with
  |b i' o1=>grind [p6,ade]
  |l L1=>exact⟨L1++L,R,by simp[lv,h1],λo'=>by simp[ade,lv,h2]⟩
theorem ZO:∀ {l:Cells} {i:Nat} {x:Nat×Obj},awv l i=some x->x∈l
 | [],_,_,h=>by cases h
 |y::l,0,x,h=>by grind [awv]
 |y::l,i+1,x,h=>cm _ (ZO h)
def Hj{w:List Sg}{kn:Cells}{h b:Nat}(hk:Knows X.ro kn)(hc:IW w kn h=some (b,l)):∃t fz,(⟨X.ro,den w⟩:St).has b (.cells ⟨l⟩ t fz):=by
 unfold IW at hc;split at hc
 .rename_i hn;cases hc;obtain⟨L,R,h1,_⟩:=HO hn;exact⟨_,_,.inr (by show (_,_)∈den w;rw[h1];exact jE)⟩
 .cases hc
 split at hc<;>try (cases hc;done)
 rename_i hn;cases hc;exact⟨_,_,.inl (hk _ (ZO hn))⟩
def azc{w:List Sg}{k:List KI}{c:Code}{p:Pos}(h:aJ8 X.n e k c=some p)(hj:JP X ⟨kn.c,[]⟩ e w p):JP X kn e w (.code c k):=by
 unfold aJ8 at h;split at h
 .cases h;exact wp_skip X.hC (BD hj)
 .cases h;exact wp_seq X.hC hj
 .cases h;exact wp_block X.hC hj
 .rename_i id ops d;cases d with
  |true=>
   simp only[cH] at h;cases hd:Hh ops with
   |false=>rw[hd] at h;cases h
   |true=>
    rw[hd] at h;simp only[cH,aD] at h;subst h;exact alh X.hC X.hm hd (hj ⟨λ_ _ h=>(mj h).elim,λ_ _ _ h=>(mj h).elim⟩)
  |false=>simp only[fJ,aD] at h;subst h;exact wp_region X.hC hj
 .exact wp_exit X.hC (D8 h hj)
 .cases h;exact wp_ret (HS hj k)
 .cases h;exact Ys X.hC hj
 .cases h;exact wp_label X.hC (BD hj)
 .split at h<;>try (cases h;done)
  .rename_i hc;cases h;exact af8 X.hC hc rfl hj
  rename_i hc;cases h;exact af9 X.hC hc rfl hj
 cases h
def aox{hs:List Nat}{s:JS}{q:List (Nat×Nat)}(h:opJ X.P X.n hs s=some (s',pq,q))(hq:∀p∈q,p.1=p.2)(hj:J X (some s')):J X (some s):=by
 unfold opJ at h;split at h<;>try (cases h;done)
 rename_i g o e hh;cases g with
 |false=>
  simp only[fJ] at h;split at h<;>try (cases h;done)
  rename_i s1 hp;cases h;exact jy hh hp rfl hj
 |true=>
  simp only[cH] at h;split at h
  .rename_i T x y a8;split at h<;>try (cases h;done)
   rename_i ops i todo k e1 w kn h0 hsx;split at h<;>try (cases h;done)
   rename_i w' b b' dr;cases h;have hbb:b=b':=hq _ dX;subst hbb;simp only[xY] at hh;split at hh<;>try (cases hh;done)
   rename_i o1 ho;split at hh<;>try (cases hh;done)
   rename_i g1 hg;simp only[aD,bP] at hh;obtain⟨rfl,rfl,rfl⟩:=hh;intro ep;have hj:=hj ep;rw[a8] at dr;simp only[am9] at dr;split at dr<;>try (cases dr;done)
   rename_i b0 off hx;split at dr<;>try (cases dr;done)
   rename_i v hy;split at dr<;>try (cases dr;done)
   rename_i b1 c t hn;split at dr<;>try (cases dr;done)
   rename_i ti ig;cases hc:(Nat.beq (iL v).length ti.size&&(Nat.ble (off+(iL v).length) c.length&&(iL v).all single)) with
   |false=>rw[hc] at dr;cases dr
   |true=>
    rw[hc] at dr;simp only[cH,aD,bP] at dr;obtain⟨rfl,rfl,rfl⟩:=dr;simp only[au,Cg] at hc;obtain⟨dL,tf⟩:=bA ig;obtain⟨L,R,h1,h2⟩:=HO hn;rcases o1 with ⟨dst,op,ty,pos,fX,gd⟩
    dsimp only at a8;subst a8;have hw:=uF hg [];rw[List.append_nil] at hw;refine Oa (v:=v) (l:=iL v) (L:=L) (R:=R) (c:=c) (e:=t) X.hC ho hw tf hx hy (by rw[sj]) (Nat.eq_of_beq_eq_true hc.1) (List.all_eq_true.1 hc.2.2) h1 hc.2.1 ?_;have hj:aR X.C X.fn X.bR ops todo (KQ X k) _ ⟨X.ro,den _⟩:=hj;rw[h2] at hj;exact hj
  .rename_i T x a8;split at h<;>try (cases h;done)
   rename_i h0 fq;split at h<;>try (cases h;done)
   rename_i b off hx;split at h<;>try (cases h;done)
   rename_i b' l hc;split at h<;>try (cases h;done)
   rename_i v hv;split at h<;>try (cases h;done)
   rename_i s1 hp;cases h;have hbb:b'=b:=hq _ dX;subst hbb;refine jy hh hp ⟨by rw[a8];rfl,λep=>?_,λhk=>by rw[a8] at hk;cases hk⟩ hj;obtain⟨t,fz,hb⟩:=Hj ep hc;exact ad6 a8 hx hb hv
  cases hn:jb o.op with
  |false=>rw[hn] at h;cases h
  |true=>
   rw[hn] at h;simp only[cH] at h;split at h<;>try (cases h;done)
   rename_i v hv;split at h<;>try (cases h;done)
   rename_i s1 hp;cases h;exact jy hh hp ⟨hn,λ_=>HH hv,λ_ _=>HH hv⟩ hj
def anb{hs:List Nat}{s:JS}{q:List (Nat×Nat)}(h:stepJ X.P X.n hs s=some (s',pq,q))(hq:∀p∈q,p.1=p.2)(hj:J X (some s')):J X (some s):=by
 unfold stepJ at h;split at h
 .rename_i ops k hp;cases h;rcases s with ⟨p,e,w,kn⟩
  dsimp only at hp;subst hp;exact λep=>BH X.hC (BD (hj ep))
 .rename_i c k hp;rcases s with ⟨p,e,w,kn⟩
  dsimp only at hp;subst hp;split at h<;>try (cases h;done)
  rename_i p hc;cases h;exact λep=>azc hc (hj ep)
 .rename_i ops base Pl Sl k hp;split at h
  .cases hd:atj ops Pl with
   |false=>rw[hd] at h;cases h
   |true=>
    rw[hd] at h;simp only[cH,aD,bP] at h;obtain⟨rfl,rfl,rfl⟩:=h;rcases s with ⟨p,e,w,kn⟩
    dsimp only at hp;subst hp;simp only[atj,Bool.and_eq_true] at hd;exact λep _=>at1 X.hC hd.1 hd.2.1 hd.2.2.1 hd.2.2.2 (BD (hj ep))
  exact aox h hq hj
 exact aox h hq hj
end
def aln(P:Program)(n:Nat):Nat->List Nat->JS->List (Nat×Nat)->Option (JS×List (Nat×Nat))
 |0,_,s,q=>some (s,q)
 |k+1,hs,s,q=>match stepJ P n hs s with
  |some (s',pq,q')=>aln P n k pq s' (q'++q)
  |none=>none
def adv(P:Program)(n k:Nat)(hs:List Nat):Option JS->Option (JS×List (Nat×Nat))
 |some s=>aln P n k hs s []
 |none=>none
def res:Option (JS×List (Nat×Nat))->Option JS
 |some (s,_)=>some s
 |none=>none
def afa:List (Nat×Nat)->List Nat
 | []=>[]
 | (a,_)::l=>a::afa l
def ac7:List (Nat×Nat)->List Nat
 | []=>[]
 | (_,b)::l=>b::ac7 l
def lhs:Option (JS×List (Nat×Nat))->List Nat
 |some (_,q)=>afa q
 |none=>[0]
def rhs:Option (JS×List (Nat×Nat))->List Nat
 |some (_,q)=>ac7 q
 |none=>[1]
def sg:∀ {q:List (Nat×Nat)},afa q=ac7 q->∀p∈q,p.1=p.2
 | (a,b)::l,h,p,hp=>by
  simp only[afa,ac7,lO] at h;rcases aS.1 hp with rfl|hp
  .omega
  exact sg h.2 p hp
def aiD{X:Cx}:∀ {k:Nat} {hs:List Nat} {s s':JS} {q q':List (Nat×Nat)},aln X.P X.n k hs s q=some (s',q')->(∀p∈q',p.1=p.2)->(J X (some s')->J X (some s))/\∀p∈q,p∈q'
 |0,_,_,_,_,_,h,_=>by simp only[aln,aD,bP] at h;obtain⟨rfl,rfl⟩:=h;exact⟨id,λ_ h=>h⟩
 |k+1,hs,s,s',q,q',h,hq=>by
  simp only[aln] at h;split at h<;>try (cases h;done)
  rename_i s1 fq q1 dr;obtain⟨h1,h2⟩:=aiD h hq;exact⟨λhj=>anb dr (λp hp=>hq p (h2 p (cR _ hp))) (h1 hj),λp hp=>h2 p (gv _ hp)⟩
def jd{X:Cx}{o:Option JS}(k:Nat)(hs:List Nat)(h:J X (res (adv X.P X.n k hs o)))(he:lhs (adv X.P X.n k hs o)=rhs (adv X.P X.n k hs o):=by kernel_rfl):J X o:=by
 cases o with
 |none=>exact h
 |some s=>
  simp only[adv] at he h;cases hc:aln X.P X.n k hs s [] with
  |none=>rw[hc] at h;exact h.elim
  |some x=>
   rw[hc] at he h;exact(aiD hc (sg he)).1 h
attribute [irreducible] adv res lhs rhs
def fp(n:Nat)(f:Oper->Env->Option β):Option JS->Option β
 |some s=>match xY n s with
  |some (true,p,e)=>f p e
  |_=>none
 |none=>none
def lT(v:Value):Option JS->Option JS
 |some s=>PB v s
 |none=>none
def Zs:List Nat->List Sg->Option (List Sg)
 | [],_=>some []
 |i::is,w=>match H6 w i with
  |some x=>match Zs is w with
   |some r=>some (x::r)
   |none=>none
  |none=>none
def gz(is:List Nat):Nat->List Sg->List Sg
 |_,[]=>[]
 |k,x::w=>bif dG k is then gz is (k+1) w else x::gz is (k+1) w
def PQ:List Nat->Bool
 | []=>true
 |i::is=> !dG i is&&PQ is
def wL(is:List Nat):Option JS->Option (List Sg)
 |some s=>bif PQ is then Zs is s.rw else none
 |none=>none
def fT(is:List Nat)(o:Option JS):Option Cells:=match wL is o with
 |some w=>some (den w)
 |none=>none
def lkE:List Nat->Env->Option Env
 | [],_=>some []
 |t::ts,e=>match mN e t with
  |some v=>match lkE ts e with
   |some r=>some ((t,v)::r)
   |none=>none
  |none=>none
def qg:Env->List Nat
 | []=>[]
 | (t,_)::e=>t::qg e
def sY(ts:List Nat):Option JS->Option Env
 |some s=>lkE ts s.env
 |none=>none
theorem A1{ts:List Nat}{s:JS}:sY ts (some s)=lkE ts s.env:=rfl
theorem qz{e:Env}:∀ {ts:List Nat} {r:Env},lkE ts e=some r->qJ e r
 | [],r,h=>by simp only[lkE,Option.some.injEq] at h;subst h;trivial
 |t::ts,r,h=>by
  simp only[lkE] at h;split at h<;>try grind
  rename_i v hv;split at h<;>try grind
  rename_i r' hr;cases h;exact⟨hv,qz hr⟩
theorem rz:∀(a b:List Sg),den (a++b)=den a++den b
 | [],b=>rfl
 | .b i o::a,b=>by simp[p6,rz a b]
 | .l L::a,b=>by simp[lv,rz a b]
theorem E6:∀(w:List Sg) (k:Nat),gz [] k w=w
 | [],_=>rfl
 |x::w,k=>by simp[gz,dG,E6 w _]
def Q9:∀ {w:List Sg} {i k:Nat} {is:List Nat} {x:Sg},H6 w i=some x->dG (k+i) is=false->(den (gz is k w)).Perm (den [x]++den (gz ((k+i)::is) k w))
 | [],_,_,_,_,h,_=>by cases h
 |y::w,0,k,is,x,h,hi=>by
  simp only[H6,aD] at h;subst h;have hz:∀(w:List Sg) (j:Nat),k <j->gz (k::is) j w=gz is j w:=by
   intro w
   induction w with
   |nil=>intro j _;rfl
   |cons z w ih=>
    intro j hj;have:Nat.beq j k=false:=beq_false (by omega);simp only[gz,dG,this,Bool.false_or,ih (j+1) (by omega)]
  simp only[tO] at hi ⊢;simp only[gz,hi,fJ,dG,Nat.beq_refl,Bool.true_or,cH,hz w (k+1) (by omega)];cases y with
  |b i o=>rw[p6];exact .refl _
  |l L=>rw[lv];exact .refl _
 |y::w,i+1,k,is,x,h,hi=>by
  have e:k+(i+1)=(k+1)+i:=by omega
  rw[e] at hi ⊢;have hr:=Q9 (w:=w) (k:=k+1) (is:=is) h hi;have eo:Nat.beq k ((k+1)+i)=false:=beq_false (by omega);simp only[gz,dG,eo,Bool.false_or];cases dG k is with
  |true=>simp only[cH];exact hr
  |false=>
   simp only[fJ];cases y with
   |b i' o=>rw[p6,p6];exact(hr.cons _).trans jz.symm
   |l L=>
    rw[lv,lv];refine(hr.append_left L).trans ?_;rw[<-bC,<-bC];exact Nc _ ir
theorem EK{w:List Sg}:∀ {is:List Nat} {r:List Sg},Zs is w=some r->PQ is=true->(den w).Perm (den r++den (gz is 0 w))
 | [],r,h,_=>by simp only[Zs,aD] at h;subst h;rw[E6];exact .refl _
 |i::is,r,h,ho=>by
  simp only[Zs] at h;split at h<;>try (cases h;done)
  rename_i x hx;split at h<;>try (cases h;done)
  rename_i r' hr;cases h;simp only[PQ,au,az] at ho;have h1:=EK hr ho.2;have h2:=Q9 (k:=0) (is:=is) hx (by rw[iV];exact ho.1);rw[iV] at h2;refine h1.trans ((Ar _ h2).trans ?_);have:den (x::r')=den [x]++den r':=by rw[<-rz];rfl
  rw[this,<-bC];exact Nc _ ir
theorem rL{is:List Nat}{s:JS}{w:List Sg}(h:wL is (some s)=some w):(den s.rw).Perm (den w++den (gz is 0 s.rw)):=by
 grind [wL,PQ,EK]
theorem dN{is:List Nat}{s:JS}{L:Cells}(h:fT is (some s)=some L):(den s.rw).Perm (L++den (gz is 0 s.rw)):=by
 grind [fT,rL]
def abD{X:Cx}{is:List Nat}{s:JS}{L:Cells}(h:fT is (some s)=some L):∀x∈L,(⟨X.ro,den s.rw⟩:St).has x.1 x.2:=λx hx=> .inr ((dN h).mem_iff.2 (cR _ hx))
section
variable {X:Cx} {o:Option JS}
theorem Ay{f:Oper->Env->Option β}{r:β}(h:fp n f o=some r):∃s p e,o=some s/\xY n s=some (true,p,e)/\f p e=some r:=by
 unfold fp at h
 grind
def jG{v:Value}{f:Oper->Env->Option β}{r:β}(h:fp X.n f o=some r)(hy:∀s p e,o=some s->xY X.n s=some (true,p,e)->f p e=some r->jb p.op=true/\(Knows X.ro s.kn.c->Yields X.P X.n e p ⟨X.ro,den s.rw⟩ v)/\(Mt p.op=true->∀s,Yields X.P X.n e p s v))(hj:J X (lT v o)):J X o:=by
 obtain⟨s,p,e,rfl,hh,hf⟩:=Ay h;obtain⟨h1,h2,h3⟩:=hy s p e rfl hh hf;simp only[lT] at hj;cases hp:PB v s with
 |none=>rw[hp] at hj;exact hj.elim
 |some s'=>rw[hp] at hj;exact jy hh hp ⟨h1,h2,h3⟩ hj
theorem jGS{v:Value}{f:Oper->Env->Option β}{r:β}(h:fp X.n f o=some r)(hy:∀s p e,o=some s->f p e=some r->Rz X e p ⟨X.ro,den s.rw⟩ v/\(Mt p.op=true->∀s,Rz X e p s v))(hj:J X (lT v o)):J X o:=by
 obtain⟨s,p,e,rfl,hh,hf⟩:=Ay h;simp only[lT] at hj;cases hp:PB v s with
 |none=>rw[hp] at hj;exact hj.elim
 |some s'=>rw[hp] at hj;exact jyS hh hp ⟨λ_=>(hy s p e rfl hf).1,(hy s p e rfl hf).2⟩ hj
def JW(B:Cells)(v:Value):Option JS->Option JS
 |some s=>av7 B v s
 |none=>none
def jGN{v:Value}{f:Oper->Env->Option β}{r:β}{B:Cells}(h:fp X.n f o=some r)(hB:fT ps o=some B)(hy:∀s p e,o=some s->xY X.n s=some (true,p,e)->f p e=some r->Mt p.op=false/\∀s0,Ext ⟨X.ro,[]⟩ s0->(∀x∈B,s0.has x.1 x.2)->Rz X e p s0 v)(hj:J X (JW B v o)):J X o:=by
 obtain⟨s,p,e,rfl,hh,hf⟩:=Ay h;obtain⟨h1,h2⟩:=hy s p e rfl hh hf;simp only[JW] at hj;cases hp:av7 B v s with
 |none=>rw[hp] at hj;exact hj.elim
 |some s'=>rw[hp] at hj;exact jyN hh hp (abD hB) h1 h2 hj
theorem SH{v:Value}{f:Oper->Env->Option β}{r:β}(h:fp X.n f o=some r)(hy:∀s p e,o=some s->f p e=some r->∀s0,Rz X e p s0 v)(hj:J X (lT v o)):J X o:=
 by grind [jGS]
def au9(P:Program)(n:Nat)(p:Oper)(e:Env):Option Value:=bif jb p.op then amw P n e p else none
theorem je(v:Value){w:Value}(hw:w=v)(hj:J X (lT v o))(hv:fp X.n (au9 X.P X.n) o=some w:=by kernel_rfl):J X o:=by
 subst hw;refine jG hv (λs p e _ _ hf=>?_) hj;unfold au9 at hf;cases hn:jb _ with
 |false=>grind
 |true=>rw[hn] at hf;exact⟨rfl,λ_=>HH hf,λ_ _=>HH hf⟩
theorem ja(r:Int)(h: -9223372036854775808<=r/\r<=9223372036854775807)(hj:J X (lT (.int .i64 r) o))(hv:fp X.n (au9 X.P X.n) o=some (.int .i64 (IntKind.i64.wrap r)):=by kernel_rfl):J X o:=by grind [je,lB]
def ldA(P:Program)(n k:Nat)(vs:List Value)(p:Oper)(e:Env):Option (Option Addr):=match p.op with
 | .load T x=>match ldv P T vs k with
  |some _=>match dv n e x with
   |some (.pointer a)=>some a
   |_=>none
  |none=>none
 |_=>none
def ldW(P:Program)(n k:Nat)(vs:List Value)(o:Option JS):Value:=(fp n (λp _=>match p.op with
 | .load T _=>ldv P T vs k
 |_=>none) o).getD undef
def zx{b m:Nat}(k:Nat)(ps:List Nat)(B:Cells)(hr:∀s:St,Ext ⟨X.ro,[]⟩ s->(∀x∈B,s.has x.1 x.2)->eK s b off m vs)(hj:J X (JW B (ldW X.P X.n k vs o) o))(hv:fp X.n (ldA X.P X.n k vs) o=some (some ⟨b,off+k,none⟩):=by kernel_rfl)(hB:fT ps o=some B:=by kernel_rfl):J X o:=by
 refine jGN hv hB (λs p e ho hh hf=>?_) hj;subst ho;unfold ldA at hf;split at hf<;>try (cases hf;done)
 rename_i T x a8;split at hf<;>try (cases hf;done)
 rename_i v hv2;split at hf<;>try (cases hf;done)
 rename_i a hx;simp only[aD] at hf;subst hf;have hw:ldW X.P X.n k vs (some s)=v:=by simp only[ldW,fp,hh,a8,hv2,wH]
 rw[hw];exact⟨by rw[a8];rfl,λs0 Hr EY ops i ho rest hwt s' hs todo Q hk=>qf X.hC ho rest hwt (by rw[a8];rfl) (aFZ k a8 hx (hr s0 Hr EY) hv2) hs hk⟩
def jl{b m:Nat}(k:Nat)(hr:eK ⟨X.ro,[]⟩ b off m vs)(hj:J X (JW [] (ldW X.P X.n k vs o) o))(hv:fp X.n (ldA X.P X.n k vs) o=some (some ⟨b,off+k,none⟩):=by kernel_rfl):J X o:=by
 have hB:fT [] o=some []:=by
  obtain⟨s,_,_,rfl,_⟩:=Ay hv;rfl
 exact zx k [] [] (λs hs _=>hr.ext hs) hj hv hB
def ixA(P:Program)(n:Nat)(p:Oper)(e:Env):Option (Value×Int×Nat):=match p.op with
 | .indexAddr T x y=>match cV P T with
  |some ⟨.slice E,_,_,_⟩=>match cV P E with
   |some te=>match dv n e x with
    |some v=>match dv n e y with
     |some (.int _ ix)=>some (v,ix,te.size)
     |_=>none
    |none=>none
   |none=>none
  |_=>none
 |_=>none
def jix{a:Option Addr}{b len:Nat}(ix:Int)(cap sz:Nat)(ha:a=some ⟨b,off,none⟩)(hi:0<=ix/\ix <len)(hj:J X (lT (.pointer (some ⟨b,off+ix.toNat*sz,none⟩)) o))(hv:fp X.n (ixA X.P X.n) o=some (.slice a len cap,ix,sz):=by kernel_rfl):J X o:=by
 refine jG hv (λs p e ho hh hf=>?_) hj;unfold ixA at hf;split at hf<;>try (cases hf;done)
 rename_i T x y a8;split at hf<;>try (cases hf;done)
 rename_i E _ _ _ ig;split at hf<;>try (cases hf;done)
 rename_i te wo;split at hf<;>try (cases hf;done)
 rename_i v hx;split at hf<;>try (cases hf;done)
 rename_i ik ix' hy;simp only[aD,bP] at hf;obtain⟨rfl,rfl,rfl⟩:=hf;subst ha;obtain⟨dL,tf⟩:=bA ig;obtain⟨CX,tK⟩:=bA wo;have key:∀s,Yields X.P X.n e p s (.pointer (some ⟨b,off+ix'.toNat*te.size,none⟩)):=by
  intro s s' pq f hf K E hK;simp only[execOp,a8,Instr.indexAt,hf _ _ hx,hf _ _ hy,asIntOf,aH,aQ,cY tf,hi,LC,dI,ez tK,gY];exact hK
 exact⟨by rw[a8];rfl,λ_=>key _,λ_=>key⟩
theorem iF{ps:List α}{k b:Nat}{x:α}{a:Option Addr}(cap sz:Nat)(ha:∀k,k <ps.length->a=some ⟨b,off,none⟩)(hx:ps[k]?=some x) (hj:J X (lT (.pointer (some ⟨b,off+k*sz,none⟩)) o)) (hv:fp X.n (ixA X.P X.n) o=some (.slice a ps.length cap,(k:Int),sz):=by kernel_rfl):J X o:=
 have hk:=(aB.1 hx).1
 jix (k:Int) cap sz (ha k hk) (by omega) hj hv
theorem jsi{ps:List α}{k b:Nat}{x:α}{a:Option Addr}(ix:Int)(cap sz:Nat)(ha:∀k,k <ps.length->a=some ⟨b,off,none⟩)(hx:ps[k]?=some x) (he:ix=(k:Int)) (hj:J X (lT (.pointer (some ⟨b,off+k*sz,none⟩)) o)) (hv:fp X.n (ixA X.P X.n) o=some (.slice a ps.length cap,ix,sz):=by kernel_rfl):J X o:=by
 grind [iF]
theorem jxo{v:Value}{enc:α->List Value}{ps:List α}{L:Cells}{k:Nat}{x:α}(sz:Nat)(kO:bJ v szo T2 enc ps L)(hx:ps[k]?=some x) (hj:∀b,Td v b->J X (lT (.pointer (some ⟨b,k*sz,none⟩)) o)) (hv:fp X.n (ixA X.P X.n) o=some (v,(k:Int),sz):=by kernel_rfl):J X o:=by
 have hk:k <ps.length:=(aB.1 hx).1;obtain⟨b,hb⟩:=aPy kO hk;have kQ:=hb;obtain⟨n0,c,rfl⟩:=kQ;have hn:n0=ps.length:=by
  obtain⟨a,c',he⟩:=kO.form;cases he;rfl
 subst hn;have hj:=hj b hb;exact jix (off:=0) (k:Int) c sz rfl (by omega) (by rw[iV];exact hj) hv
theorem MB{v:Value}{enc:α->List Value}{ps:List α}{L:Cells}{k:Nat}{x:α}(ix:Int)(sz:Nat)(kO:bJ v szo T2 enc ps L)(hx:ps[k]?=some x) (he:ix=(k:Int)) (hj:∀b,Td v b->J X (lT (.pointer (some ⟨b,k*sz,none⟩)) o)) (hv:fp X.n (ixA X.P X.n) o=some (v,ix,sz):=by kernel_rfl):J X o:=by
 grind [jxo]
end
attribute [irreducible] fp lT JW fT wL sY ldW
section
variable {X:Cx} {o:Option JS}
theorem XV{D:List Deferred}{t:Nat}{v:Value}(h:mN e t=some v):A n ((t,v)::e) D=A n e D:=by
 grind [A,get,Nat.beq,eC,tb]
def YS(j:Nat)(v:Value):List (Nat×Value)->List (Nat×Value)
 | []=>[]
 | (i,w)::r=>bif Nat.beq i j then (i,v)::r else (i,w)::YS j v r
theorem O3{j:Nat}{v:Value}:∀ {l:List (Nat×Value)},Zr l j=some v->YS j v l=l
 | (i,w)::r,h=>by
  simp only[Zr] at h;simp only[YS];cases hb:Nat.beq i j with
  |true=>grind
  |false=>rw[hb] at h;simp;rw[O3 h]
def aAC(t:Nat):JS->Option Value
 | ⟨.KZ _ _ Pl _ _,_,_,_⟩=>Zr Pl t
 |s=>mN s.env t
def O2(t:Nat):Option JS->Option Value
 |some s=>aAC t s
 |none=>none
def ai4(t:Nat)(v:Value):JS->JS
 | ⟨.KZ ops base Pl Sl k,e,w,kn⟩=>⟨.KZ ops base (YS t v Pl) Sl k,e,w,kn⟩
 | ⟨p,e,w,kn⟩=>⟨p,(t,v)::e,w,kn⟩
def Sn(t:Nat)(v:Value):Option JS->Option JS
 |some s=>some (ai4 t v s)
 |none=>none
theorem jw(t:Nat)(v:Value){w:Value}(hw:w=v)(hj:J X (Sn t v o))(hv:O2 t o=some w:=by kernel_rfl):J X o:=by
 subst hw;cases o with
 |none=>exact hj
 |some s=>
  rcases s with ⟨p,e,rw_,kn⟩
  intro ep;have hj:=hj;cases p with
  |KZ ops base Pl Sl k=>
   simp only[O2,aAC] at hv;have:YS t w Pl=Pl:=O3 hv;simp only[Sn,ai4,this] at hj;exact hj ep
  |ops a b c=>have:=hj ep;simp only[ai4,JP] at this;rw[XV hv] at this;exact this
  |code a b=>have:=hj ep;simp only[ai4,JP] at this;rw[XV hv] at this;exact this
  |nxt a=>have:=hj ep;simp only[ai4,JP] at this;rw[XV hv] at this;exact this
  |fin a=>have:=hj ep;simp only[ai4,JP] at this;rw[XV hv] at this;exact this
theorem ji(t:Nat){c b:Bool}(h:c=b)(hj:J X (Sn t (.bool b) o))(hv:O2 t o=some (.bool c):=by kernel_rfl):J X o:=by grind [jw]
theorem js(t:Nat)(c:Bool)(h1:c=true->J X (Sn t (.bool true) o))(h2:c=false->J X (Sn t (.bool false) o))(hv:O2 t o=some (.bool c):=by kernel_rfl):J X o:=by
 cases hc:c with
 |true=>grind [ji]
 |false=>grind [ji]
def aPW(P:Program)(n:Nat)(p:Oper)(e:Env):Option (Obj×Option Nat):=match p.op with
 | .alloc T=>match cV P T with
  |some ti=>some (.cells ⟨ti.zero⟩ T (0,0),none)
  |none=>none
 | .box T x=>match dv n e x with
  |some v=>some (.cells ⟨iL v⟩ T (0,0),none)
  |none=>none
 | .buildSlice T m ps=>match cV P T with
  |some ⟨.slice E,_,_,_⟩=>match cV P E with
   |some te=>match Yd n e ps.toList with
    |some pv=>match vG (λi=>some (i*te.size,te.size)) (fZ te.zero m) (BE pv) with
     |some l=>bif Nat.beq te.zero.length te.size&&Nat.ble (m*te.size) 16777216 then some (.cells ⟨l⟩ E (0,0),some m) else none
     |none=>none
    |none=>none
   |none=>none
  |_=>none
 | .range T x=>match cV P T with
  |some ⟨.string,_,_,_⟩=>match dv n e x with
   |some (.string b)=>some (.stringIter b 0,none)
   |_=>none
  |_=>none
 |_=>none
def aoV(b:Nat):Option Nat->Value
 |some m=> .slice (some ⟨b,0,none⟩) m m
 |none=> .pointer (some ⟨b,0,none⟩)
def aFG(P:Program)(n b:Nat):Option JS->Option JS
 |some ⟨.ops ops (i::todo) k,e,w,kn⟩=>match xY n ⟨.ops ops (i::todo) k,e,w,kn⟩ with
  |some (true,p,_)=>match aPW P n p e with
   |some (ob,m)=>some ⟨.ops ops todo k,upd p.dst (aoV b m) e,.b b ob::w,kn⟩
   |none=>none
  |_=>none
 |_=>none
def aaV{ops:Array Oper}{k:List KI}{e':Env}{w:List Sg}{g:Bool}{p:Oper}(h:xY n ⟨.ops ops (i::todo) k,e,w,kn⟩=some (g,p,e')):ops[i]?=some p/\e'=e/\(g=true->bN ops n e p.guard=true):=by
 simp only[xY] at h;split at h<;>try (cases h;done)
 rename_i p1 ho;split at h<;>try (cases h;done)
 rename_i g1 hg;cases h;refine⟨ho,rfl,λhg'=>?_⟩;subst hg';have:=uF hg [];rwa[eR] at this
def jn(hj:∀b,J X (aFG X.P X.n b o)):J X o:=by
 unfold aFG at hj;split at hj
 .rename_i ops i todo k e w kn;split at hj
  .rename_i p e' hh;obtain⟨ho,rfl,hw⟩:=aaV hh;have hw:=hw rfl;intro ep;rcases p with ⟨dst,op,ty,pos,fX,g⟩
   split at hj
   .rename_i ob m hn;have key:∀b,aR X.C X.fn X.bR ops todo (KQ X k) (A X.n (upd dst (aoV b m) e') X.D) ⟨X.ro,(b,ob)::den w⟩:=λb=>by
     have:=hj b ep;simp only[JP,p6] at this;exact this
    unfold aPW at hn;split at hn
    .rename_i T a8;dsimp only at a8;subst a8;split at hn<;>try (cases hn;done)
     rename_i ti ig;cases hn;obtain⟨dL,tf⟩:=bA ig;exact awu X.hC ho hw tf λb _=>key b
    .rename_i T x a8;dsimp only at a8;subst a8;split at hn<;>try (cases hn;done)
     rename_i v hx;cases hn;exact aPQ X.hC ho hw hx (by rw[sj]) λb _=>key b
    .rename_i T m0 ps a8;dsimp only at a8;subst a8;split at hn<;>try (cases hn;done)
     rename_i E _ _ _ ig;split at hn<;>try (cases hn;done)
     rename_i te wo;split at hn<;>try (cases hn;done)
     rename_i pv SO;split at hn<;>try (cases hn;done)
     rename_i l hl;cases hc:(Nat.beq te.zero.length te.size&&Nat.ble (m0*te.size) 16777216) with
     |false=>rw[hc] at hn;cases hn
     |true=>
      rw[hc] at hn;simp only[cH,aD,bP] at hn;obtain⟨rfl,rfl⟩:=hn;simp only[au] at hc;obtain⟨dL,tf⟩:=bA ig;obtain⟨CX,tK⟩:=bA wo;exact VV X.hC ho hw tf tK hc.1 SO hc.2 hl λb _=>key b
    .rename_i T x a8;dsimp only at a8;subst a8;split at hn<;>try (cases hn;done)
     rename_i ig;split at hn<;>try (cases hn;done)
     rename_i bs hx;cases hn;obtain⟨dL,tf⟩:=bA ig;exact adJ X.hC ho hw tf hx λb _=>key b
    cases hn
   exact(hj 0).elim
  exact(hj 0).elim
 exact(hj 0).elim
def ain(n:Nat)(p:Oper)(e:Env):Option (FuncId×List Value):=match p.op with
 | .call ⟨.value x,xs,_⟩=>match dv n e x with
  |some (.func (.func f) ⟨fi⟩ ⟨ca⟩)=>match FK n e xs.toList with
   |some vs=>some (f,fi++vs++ca)
   |none=>none
  |_=>none
 |_=>none
def y7(P:Program)(n:Nat)(p:Oper)(e:Env):Option (FuncId×List Value):=match ain n p e with
 |some (f,vs)=>bif Hu P f then some (f,vs) else none
 |none=>none
def vK{P:Program}{p:Oper}(h:y7 P n p e=some (f,vs)):FF P f/\∃x xs at_ fi ca ws,p.op= .call ⟨.value x,xs,at_⟩/\dv n e x=some (.func (.func f) ⟨fi⟩ ⟨ca⟩)/\Am n e xs=some ws/\vs=fi++ws++ca:=by
 unfold y7 at h;split at h<;>try (cases h;done)
 rename_i f' vU hc;cases hb:Hu P f' with
 |false=>rw[hb] at h;cases h
 |true=>
  rw[hb] at h;simp only[cH,aD,bP] at h;obtain⟨rfl,rfl⟩:=h;refine⟨nT hb,?_⟩;unfold ain at hc;split at hc<;>try (cases hc;done)
  rename_i x xs at_ a8;split at hc<;>try (cases hc;done)
  rename_i f fi ca hx;split at hc<;>try (cases hc;done)
  rename_i ws xD;cases hc;exact⟨x,xs,at_,fi,ca,ws,a8,hx,xD,rfl⟩
theorem XA(a b c:List Value):(⟨a⟩:Array Value)++⟨b⟩++⟨c⟩=⟨a++b++c⟩:=by simp
def rV(ps:List Nat)(v:Value)(Y:Cells):Option JS->Option JS
 |some ⟨.ops ops (i::todo) k,e,w,kn⟩=>match ops[i]? with
  |some p=>some ⟨.ops ops todo k,upd p.dst v e,.l Y::gz ps 0 w,kn⟩
  |none=>none
 |_=>none
def iC(n:Nat)(f:Oper->Env->Option β):Option JS->Option β
 |some ⟨.ops a b c,e,w,kn⟩=>fp n f (some ⟨.ops a b c,e,w,kn⟩)
 |_=>none
def gF{f:Oper->Env->Option β}{r:β}(h:iC n f o=some r):∃ops i todo k e w kn p,o=some ⟨.ops ops (i::todo) k,e,w,kn⟩/\ops[i]?=some p/\bN ops n e p.guard=true/\f p e=some r:=by
 unfold iC at h;split at h<;>try (cases h;done)
 rename_i ops todo k e w kn;obtain⟨s,p,e',hs,hh,hf⟩:=Ay h;cases hs;cases todo with
 |nil=>cases hh
 |cons i todo=>
  obtain⟨ho,rfl,hw⟩:=aaV hh;exact⟨ops,i,todo,k,e',w,kn,p,rfl,ho,hw rfl,hf⟩
def aBk(ps lp:List Nat):Option JS->Option Cells
 |some s=>fT lp (some {s with rw:=gz ps 0 s.rw})
 |none=>none
theorem tx{ops:Array Oper}{k:List KI}{w:List Sg}{p:Oper}{v:Value}(ho:ops[i]?=some p):rV ps v Y (some ⟨.ops ops (i::todo) k,e,w,kn⟩)=some ⟨.ops ops todo k,upd p.dst v e,.l Y::gz ps 0 w,kn⟩:=by
 grind [rV]
def jcL{own:Cells}(ps lp:List Nat)(B:Cells)(hf:∀cK,Sub X.ro cK->Knows cK B->eW X.P f vs cK own Φ)(hj:∀v Y,Φ v Y->J X (rV ps v Y o))(h1:iC X.n (y7 X.P X.n) o=some (f,vs):=by kernel_rfl)(h2:fT ps o=some own:=by kernel_rfl)(h3:aBk ps lp o=some B:=by kernel_rfl):J X o:=by
 obtain⟨ops,i,todo,k,e,w,kn,p,rfl,ho,hw,hc⟩:=gF h1;obtain⟨ff,x,xs,at_,fi,ca,ws,a8,hx,xD,rfl⟩:=vK hc;intro ep;rcases p with ⟨dst,op,ty,pos,fX,g⟩
 dsimp only at a8;subst a8;have hp:=dN h2;refine aoK (own:=own) (B:=B) (Φ:=Φ) X.hC ho hw hx ff xD (XA fi ws ca) hp (λy hy=>(dN h3).mem_iff.2 (List.mem_append_left _ hy)) (λcK hs hB=>hf cK hs hB) (λv Y uz=>?_);have:=hj v Y uz;simp only[rV,ho] at this;have:=this ep;simp only[JP,lv] at this;exact this
def jc{own:Cells}(ps:List Nat)(hf:eW X.P f vs X.ro own Φ)(hj:∀v Y,Φ v Y->J X (rV ps v Y o))(h1:iC X.n (y7 X.P X.n) o=some (f,vs):=by kernel_rfl)(h2:fT ps o=some own:=by kernel_rfl):J X o:=by
 obtain⟨ops,i,todo,k,e,w,kn,p,rfl,ho,hw,hc⟩:=gF h1;obtain⟨ff,x,xs,at_,fi,ca,ws,a8,hx,xD,rfl⟩:=vK hc;intro ep;rcases p with ⟨dst,op,ty,pos,fX,g⟩
 dsimp only at a8;subst a8;have hp:=dN h2;refine yQ (fi:=⟨fi⟩) (ca:=⟨ca⟩) (ws:=fi++ws++ca) X.hC ho hw hx ff xD (XA fi ws ca) (Fn.weaken X.hC (eW.aD0 (s:=⟨X.ro,den w⟩) hp hf)) (λv' s' hr=>?_) (λch s' hr=>by obtain⟨_,_,e,_⟩:=hr;cases e) (λs' hr=>by obtain⟨_,_,e,_⟩:=hr;cases e);obtain⟨v,Y,hv,uz,hle⟩:=hr;cases hv;have:=hj _ Y uz;simp only[rV,ho] at this;have:=this ep;simp only[JP,lv] at this;exact this.more X.hC hle
def jp(lp:List Nat)(B:Cells)(hf:∀cK,Sub X.ro cK->Knows cK B->iz X.P f vs cK V)(hj:J X (JW B V o))(h1:fp X.n (y7 X.P X.n) o=some (f,vs):=by kernel_rfl)(h3:fT lp o=some B:=by kernel_rfl):J X o:=by
 refine jGN h1 h3 (λs p e ho hh hc=>?_) hj;obtain⟨ff,x,xs,at_,fi,ca,ws,a8,hx,xD,rfl⟩:=vK hc;rcases p with ⟨dst,op,ty,pos,fX,g⟩
 dsimp only at a8;subst a8;refine⟨rfl,λs0 Hr EY ops i vy rest hw s' hs todo Q hk=>?_⟩;have hez:Ext ⟨X.ro,B⟩ s':=λb ob hb=>hs _ _ (hb.elim (λh=>Hr _ _ (.inl h)) λh=>EY (b,ob) h);exact ZM X.hC vy hw (cM hx) ff (E5 xD) (XA fi ws ca) hez (λcK h1=>hf cK (OX h1) λy hy=>h1 _ _ (.inr hy)) hk
end
attribute [irreducible] iC Sn O2 aFG rV aBk
end Go.L
