/- Part 5 of the proof. -/
import Derived.Test.YtfhaegdkhpdedaaGreatDoorS4
import Derived.KernelRfl
import GoSem.Extern.Table
set_option maxRecDepth 100000
set_option maxHeartbeats 4000000
set_option linter.all false
namespace Go.L
open Go Go.Conc Go.Proofs
open Go.ConcR (KK wgBlock WgAt stA smA rd wr)
open Go.ConcM (OsLater)
variable {ro:Nat→Option Obj} {x y:Operand} {vs l:List Value} {α β:Type} {f:FuncId} {T T' E T2:TypeId} {sv ws main:Bool} {b:ByteArray} {sz n it off p r i szo:Nat} {todo pg ps:List Nat} {e:Env} {xs:Array Operand} {at_:Array TypeId} {fz:Nat×Nat} {o:Oper} {cs:List Frame} {Live:World→Prop} {args fi ca:Array Value} {V:Value} {w':World}
noncomputable def mfn(f:Nat):Func:=match MP.funcs[f]? with
 |some fn=>fn
 |none=>default
noncomputable def hdE(l:List Frame):Option (Func×Array Value):=l.head?.bind (CG MP)
theorem biO(W:Nat)(v:Nat->Nat->Value):hdE (fe (sL0 W) v)=some (mfn 244,#[mp W 0,iW 0,iW 1]):=by kernel_rfl
theorem aVl(W:Nat)(y it:Value)(aw sv:Bool)(x:Int)(v:Nat->Nat->Value):hdE (fe (sSq W y it aw sv x) v)=some (mfn 279,#[it]):=by kernel_rfl
theorem aVn(W:Nat)(y it:Value)(sv:Bool)(x n:Int)(v:Nat->Nat->Value):hdE (fe (sC1 W y it sv x n) v)=some (mfn 244,#[mp W 0,iW x,iW n]):=by kernel_rfl
theorem aVm(W:Nat)(y it:Value)(aw sv:Bool)(x n:Int)(v:Nat->Nat->Value):hdE (fe (sC2 W y it aw sv x n) v)=some (mfn 244,#[mp W 0,iW x,iW n]):=by kernel_rfl
theorem biN(W:Nat)(sv b:Bool)(v:Nat->Nat->Value):hdE (fe (sT1 W sv b) v)=some (mfn 282,#[]):=by kernel_rfl
theorem biM(W:Nat)(y:Value)(v:Nat->Nat->Value):hdE (fe (sT2 W y) v)=some (mfn 282,#[]):=by kernel_rfl
theorem aVk(W:Nat)(x n:Int)(v:Nat->Nat->Value):hdE (fe (sUc W x n) v)=some (mfn 244,#[mp W 0,iW x,iW n]):=by kernel_rfl
theorem OB:Jr (mfn 244) (Extern.Atomic.casT (.int .i32)):=⟨by rfl,by rfl,by rfl,by rfl⟩
theorem acX:Jr (mfn 279) Extern.Sync.canSpin:=⟨by rfl,by rfl,by rfl,by rfl⟩
theorem amg:Jr (mfn 282) Extern.OsHooks.nano:=⟨by rfl,by rfl,by rfl,by rfl⟩
theorem agq:(mfn 282).norace=true:=by rfl
abbrev BkT:=Option (List (Nat×Value)×List (Nat×Nat)×List Nat×List Nat×Bl)
noncomputable def UW(go:Frame->List Frame->Bl):List Frame->BkT
 |f::s=>match ac2 MP 234 gA f s with
  |some (oe,gQ,ws,ks,b1,b2)=>some (ws,ks,b1,b2,go oe gQ)
  |none=>none
 | []=>none
def goD(P:Program)(ty:TypeId):Nat->Frame->List Frame->Bl
 |0,_,_=>none
 |n+1,fr,jv=>match PM P ty gA fr jv with
  |some (.go oe gQ,[],[],[])=>goD P ty n oe gQ
  |some (.avK,[],[],[])=>some []
  |_=>none
theorem aRh(W:Nat)(v:Nat->Nat->Value):UW (goR MP 234 300) (fe (aEC W) v)=some ([],[(4,0)],[],[W],some []):=by kernel_rfl
theorem aRg(W:Nat)(v:Nat->Nat->Value):UW (goR MP 234 300) (fe (aEB W) v)=some ([],[(4,0)],[],[W],some []):=by kernel_rfl
theorem bdB(v:Nat->Nat->Value):UW (goD MP 234 300) (fe sUe v)=some ([],[(2,0)],[],[],some []):=by kernel_rfl
noncomputable def amt:List Frame->Bool
 |f::_=>mayWake MP (G f [])
 | []=>false
theorem ahv(W:Nat)(v:Nat->Nat->Value):amt (fe (anA W) v)=true:=by rfl
theorem ahu(W:Nat)(v:Nat->Nat->Value):amt (fe (anz W) v)=true:=by rfl
theorem ajK:∀L W S,∀c,c <8->(⟨L,W,S,c⟩:Wd)∈words:=by intro L W S;cases L<;>cases W<;>cases S<;>decide+kernel
theorem Oo{a b:Wd}(h:a.enc=b.enc):a=b:=by
 obtain⟨L,W,S,c⟩:=a;obtain⟨L',W',S',c'⟩:=b
 grind [Wd.enc]
def A9{o:Wd}(h:o.c<=7):o∈words:=ajK o.L o.W o.S o.c (by omega)
def ahf{o:Wd}{aw:Bool}(h:o.c<=7)(h1:aw=true->o.W=true/\o.S=false)(h2:sv=true->aw=true):(o,aw,sv)∈QA:=by
 refine fG.2 ⟨o,A9 h,?_⟩;cases aw
 all_goals simp_all
def xZ{P:Program}{A B:Goroutine->Prop}(h:∀g,A g->∃m,Pure P main Live B m g):∀ {n:Nat} {g:Goroutine},Pure P main Live A n g->∃m,Pure P main Live B m g
 |0,_,ha=>h _ ha
 |n+1,_,⟨h1,g',h2,h3⟩=>by
  obtain⟨m,hm⟩:=xZ h h3;exact⟨m+1,h1,g',h2,hm⟩
def pure_mono{P:Program}{A B:Goroutine->Prop}(h:∀g,A g->B g){g:Goroutine}(hp:Pure P main Live A n g):∃m,Pure P main Live B m g:=xZ (λg ha=>⟨0,h g ha⟩) hp
theorem mV{W:Nat}{w:World}{a b:Int}(h:MuAt 234 W w a b):j9 234 W w (cW a)/\j9 234 W w (cS b)/\j9 234 W w gA:=
 ⟨⟨_,_,h,(λx hx=>by cases hx;rfl),(λx hx=>by grind)⟩,⟨_,_,h,(λx hx=>by grind),(λx hx=>by grind)⟩,⟨_,_,h,(λx hx=>by grind),(λx hx=>by grind)⟩⟩
def BW{W:Nat}:∀w,qx 234 W w->j9 234 W w gA:=λw ⟨a,b,h⟩=>(mV h).2.2
theorem qA{W:Nat}{w:World}{o:Wd}{m:Nat}(h:MuAt 234 W w o.enc (m:Nat))(hh:w'.heap=w.heap)(hl:mQ w w'):EP 234 W w w' o m:=⟨by grind,λb _=>by grind,hl,by grind [MuAt]⟩
def mI{W:Nat}{w:World}{o:Wd}{m:Nat}(h:MuAt 234 W w o.enc (m:Nat)):EP 234 W w (Kh W w []) o m:=qA h rfl (mQ.refl w)
theorem xJ{W:Nat}{w:World}{o o':Wd}{m:Nat}{e:Int}(h:MuAt 234 W w o.enc (m:Nat))(he:e=o'.enc):EP 234 W w (w.setCell ⟨W,0,none⟩ (iW e)) o' m:=by
 subst he;refine⟨by simp[World.setCell],λb hb=>by simp[World.setCell,fI,jz hb],⟨OsLater.refl _,rfl⟩,?_⟩
 grind [MuAt,World.setCell,iW]
theorem xK{W:Nat}{w:World}{o:Wd}{m m':Nat}(h:MuAt 234 W w o.enc (m:Nat)):EP 234 W w (w.setCell ⟨W,1,none⟩ (.int .u32 (m':Nat))) o m':=by
 refine⟨by simp[World.setCell],λb hb=>by simp[World.setCell,fI,jz hb],⟨OsLater.refl _,rfl⟩,?_⟩
 grind [MuAt,World.setCell]
def okK(k:Nat×Nat):Bool:=k.1 != 5&&k.1 != 6&&(if k.1==3||k.1==4 then k.2==0 else true)
def aFu{W:Nat}{ks:List (Nat×Nat)}(h:ks.all okK=true):∀e∈(ks.map (Ey W)).toArray,u3 W e:=by
 intro e he;simp only[List.mem_toArray,a8] at he;obtain⟨⟨k,o⟩,hk,rfl⟩:=he;have:=cM.1 h _ hk;simp only[okK,av,bne_iff_ne,ne_eq] at this;obtain⟨⟨h5,h6⟩,h3⟩:=this;unfold Ey
 match k,h5,h6,h3 with
 |0,_,_,_=>exact .inr (.inr (.inr (.inr ⟨_,_,rfl,rfl⟩)))
 |1,_,_,_=>exact .inl rfl
 |2,_,_,_=>exact .inr (.inl rfl)
 |3,_,_,h3=>simp at h3;subst h3;exact .inr (.inr (.inl rfl))
 |4,_,_,h3=>simp at h3;subst h3;exact .inr (.inr (.inr (.inl rfl)))
 |5,h5,_,_=>exact absurd rfl h5
 |6,_,h6,_=>exact absurd rfl h6
 |7,_,_,_=>exact .inr (.inr (.inr (.inr ⟨_,_,rfl,rfl⟩)))
 |k+8,_,_,_=>exact .inr (.inr (.inr (.inr ⟨_,_,rfl,rfl⟩)))
section
variable (W:Nat)
def pN:cu->List Frame->Goroutine->Prop
 | .ld _,cs,g=>AtD (sLd W) cs g
 | .l0 _,cs,g=>AtD (sL0 W) cs g
 | .r0 _,cs,g=>AtD (sR0 W) cs g
 | .sq _ o aw sv it ws,cs,g=>o.c<=7/\∃n,AtD (sSq W (yv ws n) (iT (it:Nat)) aw sv o.enc) cs g
 | .c1 _ o aw sv it ws,cs,g=>∃n,AtD (sC1 W (yv ws n) (iT (it:Nat)) sv o.enc (Wd.enc ⟨o.L,true,o.S,o.c⟩)) cs g
 | .r1 _ aw sv it ws,cs,g=>∃n,AtD (sR1 W (yv ws n) (iT ((it+1:Nat):Int)) aw sv) cs g
 | .c2 _ o aw sv it ws,cs,g=>∃n,AtD (sC2 W (yv ws n) (iT (it:Nat)) aw sv o.enc (o.nw aw sv).enc) cs g
 | .r3 _ aw sv it ws,cs,g=>∃n,AtD (sR3 W (yv ws n) (iT (it:Nat)) aw sv) cs g
 | .t1 _ sv,cs,g=>∃b,AtD (sT1 W sv b) cs g
 | .s1 _ sv,cs,g=>∃(y:Nat) (b:Bool),AtD (sS1 W (iT y) sv b) cs g
 | .t2 _ sv,cs,g=>sv=false/\∃y:Nat,AtD (sT2 W (iT y)) cs g
 | .r2 _ sv,cs,g=>∃y:Nat,AtD (sR2 W (iT y) sv) cs g
 | .a1 _ ex,cs,g=>AtD (sA1 W (dlt ex)) cs g
 | .le _,cs,g=>AtD (aEA W) cs g\/AtD (avD W) cs g
 | .la _,cs,g=>AtD (aEC W) cs g\/AtD (aEB W) cs g
 | .ui _,cs,g=>AtD (sUi W) cs g
 | .ur _,cs,g=>AtD (sUr W) cs g
 | .ud _,cs,g=>AtD (sUd W) cs g
 | .u0 _,cs,g=>AtD (sU0 W) cs g
 | .uc _ o,cs,g=>AtD (sUc W o.enc (Wd.enc ⟨o.L,true,o.S,o.c-1⟩)) cs g
 | .ux _,cs,g=>AtD (sUx W) cs g
 | .us _,cs,g=>AtD (anA W) cs g\/AtD (anz W) cs g
 | .ue _,cs,g=>AtD sUe cs g
 | .out _,_,_=>False
 | .own _,_,_=>False
end
def apd{W:Nat}{x:cu}{g:Goroutine}(h:pN W x cs g):g.status= .running/\g.offers=none:=by
 cases x<;>simp only[pN] at h
 case sq=>obtain⟨_,_,h⟩:=h;exact h.run
 case t2=>obtain⟨_,_,h⟩:=h;exact h.run
 case s1=>obtain⟨_,_,h⟩:=h;exact h.run
 case le=>exact h.elim AtD.run AtD.run
 case la=>exact h.elim AtD.run AtD.run
 case us=>exact h.elim AtD.run AtD.run
 all_goals first|exact h.run| (obtain⟨_,h⟩:=h;exact h.run)
def oB(W:Nat)(x:cu)(o:Wd)(m:Nat)(cs:List Frame)(g:Goroutine)(w:World):Prop:=
 ∃g' w' es x' o' m',Nx x o m x' o' m'/\stepG MP false g w= .go g' w' es/\EP 234 W w w' o' m'/\(∀e∈es,u3 W e)/\deafBehind x.deaf es=x'.deaf/\
  (∀k,x= .ur k->es= #[said (.releaseMerge (stA W))])/\((∃k,x= .us k)->mayWake MP g=true)/\∃n,Pure MP false (qx 234 W) (pN W x' cs) n g'
section
variable {W:Nat} {x x':cu} {o o':Wd} {m m':Nat} {cs:List Frame} {g:Goroutine} {w w':World} {ds Lq:List FD}
def iM{st:Frame->Bool}{c:Me}{ws:List (Nat×Value)}{ks:List (Nat×Nat)}(eB:AtD ds cs g)(h:∀v,Comes W Lq ws ks (mT st MP 234 c (fe ds v)))(hc:j9 234 W w c)(KJ:Nx x o m x' o' m')(htu:EP 234 W w (Kh W w ws) o' m')
 (hks:ks.all okK=true)(hde:deafBehind x.deaf (ks.map (Ey W)).toArray=x'.deaf)(hur:∀k,x= .ur k->ks=[(3,0)])(hus:(∃k,x= .us k)->mayWake MP g=true)(uM:∀g,AtD Lq cs g->∃n,Pure MP false (qx 234 W) (pN W x' cs) n g):oB W x o m cs g w:=by
 obtain⟨g',h1,n,h2⟩:=Vr BW h eB;obtain⟨n',h3⟩:=xZ uM h2;exact⟨g',_,_,x',o',m',KJ,h1 w hc,htu,aFu hks,hde,λk e=>by rw[hur k e];rfl,hus,n',h3⟩
def u7{st:Frame->Bool}{r:Func×Array Value}{v0:Value}(eB:AtD ds cs g)(he:∀v,hdE (fe ds v)=some r)(h:∀v,Comes W Lq [] [] (F4 st MP 234 v0 (fe ds v))){es:Array Event}
 (dt:∀f fs,CG MP f=some r->stepG MP false (G f fs) w= .go (G (f.finish v0) fs) w' es)(KJ:Nx x o m x' o' m')(htu:EP 234 W w w' o' m')
 (hks:∀e∈es,u3 W e)(hde:deafBehind x.deaf es=x'.deaf)(hur:∀k,x≠ .ur k)(hus:∀k,x≠ .us k)(uM:∀g,AtD Lq cs g->∃n,Pure MP false (qx 234 W) (pN W x' cs) n g):oB W x o m cs g w:=by
 obtain⟨f,fs,rfl,h1,n,h2⟩:=aJ0 (main:=false) BW he h eB;obtain⟨n',h3⟩:=xZ uM h2;exact⟨_,w',es,x',o',m',KJ,dt f _ h1,htu,hks,hde,λk e=>absurd e (hur k),λ⟨k,e⟩=>absurd e (hus k),n',h3⟩
def F6{x:cu}{g:Goroutine}(h:pN W x cs g):∃n,Pure MP false (qx 234 W) (pN W x cs) n g:=⟨0,h⟩
def aiB{k:Nat}{aw:Bool}(hc:o.c<=7)(h1:aw=true->o.W=true/\o.S=false)(h2:sv=true->aw=true)(h:AtD (sHd W (yv ws n) (iT (it:Nat)) aw sv o.enc) cs g):∃n,Pure MP false (qx 234 W) (pN W (Hi k o aw sv it ws) cs) n g:=by
 obtain⟨m,hm⟩:=anE (main:=false) BW (λv=>y7 (bdM W (yv ws n) (iT (it:Nat)) v) (ahf hc h1 h2)) h;refine pure_mono (λg hg=>?_) hm;unfold Hi;simp only[ara] at hg;split<;>rename_i hh
 .rw[dN hh] at hg;exact⟨hc,n,hg⟩
 rw[cy hh] at hg;exact⟨n,hg⟩
def anc(W:Nat):∀e∈(#[⟨.cell ⟨W,0,none⟩,false,true⟩,⟨.cell ⟨W,0,none⟩,true,true⟩]:Array Event),u3 W e:=by
 intro e he;simp at he;rcases he with rfl|rfl<;>exact .inr (.inr (.inr (.inr ⟨_,_,rfl,rfl⟩)))
def agE(W:Nat):∀e∈(#[⟨.cell ⟨W,0,none⟩,false,true⟩]:Array Event),u3 W e:=by
 intro e he;simp at he;subst he;exact .inr (.inr (.inr (.inr ⟨_,_,rfl,rfl⟩)))
theorem kF{a b:Int}(h:MuAt 234 W w a b):w.cell? ⟨W,0,none⟩=some (.int .i32 a)/\w.frozen? ⟨W,0,none⟩=false:=by
 grind [MuAt,World.cell?,World.frozen?]
end
section
variable {W:Nat} {o:Wd} {m:Nat} {cs:List Frame} {g:Goroutine} {w:World}
def asS{P:Program}{fr:Frame}{fn:Func}{k:IntKind}{n:Int}(h:CG P fr=some (fn,#[.int k n]))(hE:Jr fn Extern.Sync.canSpin)(h4:4<=n)(cs:List Frame):
 stepG P main (G fr cs) w= .go (G (fr.finish (.bool false)) cs) w #[]:=
 IZ h hE (by simp_all[canSpin_eq]) (λf=>by simp[canSpin_eq]) (by simp) cs
def aDm(y:Nat):∃ws n,(iT y:Value)=yv ws n:=by
 cases y with
 |zero=>exact⟨false,0,rfl⟩
 |succ n=>exact⟨true,n,rfl⟩
theorem aey(h:it <4):itn (it:Nat)=iT ((it+1:Nat):Int):=by
 unfold itn;have:∀k,k <4->IntKind.wrap .i64 ((k:Nat)+1:Int)=((k+1:Nat):Int):=by decide+kernel
 grind
def azq:∀c,c <8->1<=c->∀ex,IntKind.wrap .i32 (Wd.enc ⟨false,false,true,c⟩+dlt ex)=Wd.enc ⟨true,false,true&& !ex,c-1⟩:=by
 intro c hc h1 ex;have:∀c,c <8->1<=c->IntKind.wrap .i32 (Wd.enc ⟨false,false,true,c⟩+(-11))=Wd.enc ⟨true,false,false,c-1⟩/\IntKind.wrap .i32 (Wd.enc ⟨false,false,true,c⟩+(-7))=Wd.enc ⟨true,false,true,c-1⟩:=by decide+kernel
 obtain⟨h2,h3⟩:=this c hc h1;cases ex
 .exact h3
 exact h2
def Ms(w:World):mQ w w.asked:=⟨OsLater.refl _,rfl⟩
def M5(w:World):mQ w w.later:=⟨⟨_,rfl⟩,rfl⟩
theorem aQp{k:Nat}(eB:pN W (cu.ld k) cs g)(hm:MuAt 234 W w o.enc (m:Nat))(hc:o.c<=7)(oK:m<=1)(dL:(cu.ld k).Ok)(gT:p9 (cu.ld k) o)(hS:(cu.ld k).Gl=true->m=1):oB W (cu.ld k) o m cs g w:=by
 obtain⟨c0,NS,cn⟩:=mV hm;exact iM eB (bdL W) cn .ld (mI hm) rfl rfl (λk e=>by grind) (λ⟨k,e⟩=>by grind) λg hg=>F6 hg
def aQr{k:Nat}(eB:pN W (cu.l0 k) cs g)(hm:MuAt 234 W w o.enc (m:Nat))(hc:o.c<=7)(oK:m<=1)(dL:(cu.l0 k).Ok)(gT:p9 (cu.l0 k) o)(hS:(cu.l0 k).Gl=true->m=1):oB W (cu.l0 k) o m cs g w:=by
 obtain⟨c0,NS,cn⟩:=mV hm;obtain⟨jV,Gq⟩:=kF hm;by_cases e:o=⟨false,false,false,0⟩
 .subst e;exact iM (m':=m) eB (aRi W) c0 .l0y (xJ hm rfl) rfl rfl (λk e=>by cases e) (λ⟨k,e⟩=>by cases e) λg hg=>F6 (x:= .le k) (.inl hg)
 exact u7 (o':=o) (m':=m) eB (biO W) (aRj W) (λf fs hf=>Cc hf OB jV Gq (λh=>e (Oo h)) fs) (.l0n e) (qA hm rfl (mQ.refl w)) (agE W) rfl (λk e=>by cases e) (λk e=>by cases e) λg hg=>F6 (x:= .r0 k) hg
theorem aQn{k:Nat}(eB:pN W (cu.r0 k) cs g)(hm:MuAt 234 W w o.enc (m:Nat))(hc:o.c<=7)(oK:m<=1)(dL:(cu.r0 k).Ok)(gT:p9 (cu.r0 k) o)(hS:(cu.r0 k).Gl=true->m=1):oB W (cu.r0 k) o m cs g w:=by
 obtain⟨c0,NS,cn⟩:=mV hm;exact iM eB (bdK W _) c0 .r0 (mI hm) rfl (by unfold Hi;split<;>rfl) (λk e=>by cases e) (λ⟨k,e⟩=>by grind) λg hg=>aiB (n:=0) hc (λe=>by cases e) (λe=>by cases e) hg
theorem awJ{q:Wd}{aw:Bool}(hq:q.c<=7)(hL:q.L=true)(hSt:q.S=false)(hW:aw=true->q.W=true)(hsv:sv=true->aw=true):(q,aw,sv)∈qcs:=
 cQ.2 ⟨ahf hq (λe=>⟨hW e,hSt⟩) hsv,by grind⟩
def aKj{q:Wd}{aw:Bool}(h:(q,aw,sv)∈qcs)(y it:Value)(v:Nat->Nat->Value):Comes W (sC2 W y it aw sv q.enc (q.nw aw sv).enc) [] [] (F4 Ak MP 234 (bT false) (fe (sSq W y it aw sv q.enc) v)):=by
 have:=y7 (aQ9 W y it v) h;simp only[an3,an4] at this;exact this
def aKi{q:Wd}{aw:Bool}(h:(q,aw,sv)∈qcs)(y:Value)(n:Int)(v:Nat->Nat->Value):Comes W (agX W y n (q,aw,sv)) [] [] (F4 Ak MP 234 (bT true) (fe (sSq W y (iT n) aw sv q.enc) v)):=by
 have:=y7 (aQ8 W y n v) h;exact this
theorem apb{k:Nat}{q:Wd}{aw:Bool}(hm:MuAt 234 W w o.enc (m:Nat))(h:(q,aw,sv)∈qcs)(eB:AtD (sSq W (yv ws n) (iT (it:Nat)) aw sv q.enc) cs g)(hl:mQ w w')(hh:w'.heap=w.heap)
 (dt:∀f fs,CG MP f=some (mfn 279,#[iT (it:Nat)])->stepG MP false (G f fs) w= .go (G (f.finish (.bool false)) fs) w' #[]):oB W (.sq k q aw sv it ws) o m cs g w:=
 u7 eB (aVl W _ _ _ _ _) (aKj h _ _) dt .sqn (qA hm hh hl) (by simp) rfl (λk e=>by grind) (λk e=>by grind) λg hg=>F6 ⟨n,hg⟩
def aFK{k:Nat}{q:Wd}{aw:Bool}(hm:MuAt 234 W w o.enc (m:Nat))(h:(q,aw,sv)∈qcs)(eB:AtD (sSq W (yv ws n) (iT (it:Nat)) aw sv q.enc) cs g)(h4:it <4)(Ua:w.spins=true):oB W (.sq k q aw sv it ws) o m cs g w:=by
 refine u7 (o':=o) (m':=m) eB (aVl W _ _ _ _ _) (aKi h (yv ws n) (it:Nat)) (w':=w.asked) (es:= #[]) (λf fs hf=>by have:=UF (main:=false) (w:=w) hf acX (by omega) fs;rw[Ua] at this;exact this)
  (.sqy h4) (qA hm rfl (Ms w)) (by simp) (by split<;>rfl) (λk e=>by cases e) (λk e=>by cases e) λg hg=>?_
 simp only[agX] at hg;split<;>rename_i hh
 .rw[dN hh] at hg;exact F6 (x:= .c1 k q aw sv it ws) ⟨n,hg⟩
 rw[cy hh,aey h4] at hg;exact F6 (x:= .r1 k aw sv it ws) ⟨n,hg⟩
theorem aQi{k:Nat}{q:Wd}{aw:Bool}(eB:pN W (cu.sq k q aw sv it ws) cs g)(hm:MuAt 234 W w o.enc (m:Nat))(hc:o.c<=7)(oK:m<=1)(dL:(cu.sq k q aw sv it ws).Ok)(gT:p9 (cu.sq k q aw sv it ws) o)(hS:(cu.sq k q aw sv it ws).Gl=true->m=1):oB W (cu.sq k q aw sv it ws) o m cs g w:=by
 obtain⟨hq,n,eB⟩:=eB;obtain⟨hL,hSt,hW,hsv,hit⟩:=dL;have jA:=awJ hq hL hSt hW hsv;by_cases h4:it <4
 .cases Ua:w.spins with
  |false=>exact apb hm jA eB (Ms w) rfl λf fs hf=>by have:=UF (main:=false) (w:=w) hf acX (by omega) fs;grind
  |true=>exact aFK hm jA eB h4 Ua
 exact apb hm jA eB (mQ.refl w) rfl λf fs hf=>asS hf acX (by omega) fs
theorem aQt{k:Nat}{q:Wd}{aw:Bool}(eB:pN W (cu.c1 k q aw sv it ws) cs g)(hm:MuAt 234 W w o.enc (m:Nat))(hc:o.c<=7)(oK:m<=1)(dL:(cu.c1 k q aw sv it ws).Ok)(gT:p9 (cu.c1 k q aw sv it ws) o)(hS:(cu.c1 k q aw sv it ws).Gl=true->m=1):oB W (cu.c1 k q aw sv it ws) o m cs g w:=by
 obtain⟨jV,Gq⟩:=kF hm;obtain⟨n,eB⟩:=eB;obtain⟨hL,hSt,hW,hqc,haw,hsv,hit⟩:=dL;by_cases e:o=q
 .subst e;exact u7 (m':=m) eB (aVn W _ _ _ _ _) (aRm W _ _ _ _ _) (λf fs hf=>Ll hf OB jV Gq fs) .c1y (xJ hm rfl) (anc W) rfl (λk e=>by cases e) (λk e=>by cases e) λg hg=>F6 (x:= .r1 k true sv it ws) ⟨n,by rw[aey hit] at hg;exact hg⟩
 exact u7 (o':=o) (m':=m) eB (aVn W _ _ _ _ _) (aRn W _ _ _ _ _) (λf fs hf=>Cc hf OB jV Gq (λh=>e (Oo h)) fs) (.c1n e) (qA hm rfl (mQ.refl w)) (agE W) rfl (λk e=>by cases e) (λk e=>by cases e) λg hg=>F6 (x:= .r1 k aw sv it ws) ⟨n,by grind [aey]⟩
def aQm{k:Nat}{aw:Bool}(eB:pN W (cu.r1 k aw sv it ws) cs g)(hm:MuAt 234 W w o.enc (m:Nat))(hc:o.c<=7)(oK:m<=1)(dL:(cu.r1 k aw sv it ws).Ok)(gT:p9 (cu.r1 k aw sv it ws) o)(hS:(cu.r1 k aw sv it ws).Gl=true->m=1):oB W (cu.r1 k aw sv it ws) o m cs g w:=by
 obtain⟨c0,NS,cn⟩:=mV hm;obtain⟨n,eB⟩:=eB;exact iM eB (bdJ W _ _ aw sv o.enc) c0 .r1 (mI hm) rfl (by unfold Hi;split<;>rfl) (λk e=>by cases e) (λ⟨k,e⟩=>by cases e) λg hg=>aiB (n:=n) hc gT dL.1 hg
def aQs{k:Nat}{q:Wd}{aw:Bool}(eB:pN W (cu.c2 k q aw sv it ws) cs g)(hm:MuAt 234 W w o.enc (m:Nat))(hc:o.c<=7)(oK:m<=1)(dL:(cu.c2 k q aw sv it ws).Ok)(gT:p9 (cu.c2 k q aw sv it ws) o)(hS:(cu.c2 k q aw sv it ws).Gl=true->m=1):oB W (cu.c2 k q aw sv it ws) o m cs g w:=by
 obtain⟨c0,NS,cn⟩:=mV hm;obtain⟨jV,Gq⟩:=kF hm;obtain⟨n,eB⟩:=eB;by_cases e:o=q
 .subst e;refine u7 (o':=o.nw aw sv) (m':=m) eB (aVm W _ _ _ _ _ _) (λv=>y7 (aRk W n (iT (it:Nat)) aw sv (o.nw aw sv).enc v) (x:=(o,ws)) (fG.2 ⟨o,A9 hc,by cases ws<;>simp⟩)) (λf fs hf=>Ll hf OB jV Gq fs) .c2y (xJ hm rfl) (anc W)
   (by split<;>(try split)<;>rfl) (λk e=>by cases e) (λk e=>by cases e) λg hg=>?_
  simp only[atN] at hg;split<;>rename_i hh
  .rw[dN hh] at hg;cases ws
   .exact F6 (x:= .t1 k sv) ⟨false,hg⟩
   exact F6 (x:= .s1 k sv) ⟨n+1,true,hg⟩
  rw[cy hh] at hg;exact F6 (x:= .le k) (.inr hg)
 exact u7 (o':=o) (m':=m) eB (aVm W _ _ _ _ _ _) (aRl W _ _ _ _ _ _) (λf fs hf=>Cc hf OB jV Gq (λh=>e (Oo h)) fs) (.c2n e) (qA hm rfl (mQ.refl w)) (agE W) rfl (λk e=>by cases e) (λk e=>by cases e) λg hg=>F6 (x:= .r3 k aw sv it ws) ⟨n,hg⟩
def aQk{k:Nat}{aw:Bool}(eB:pN W (cu.r3 k aw sv it ws) cs g)(hm:MuAt 234 W w o.enc (m:Nat))(hc:o.c<=7)(oK:m<=1)(dL:(cu.r3 k aw sv it ws).Ok)(gT:p9 (cu.r3 k aw sv it ws) o)(hS:(cu.r3 k aw sv it ws).Gl=true->m=1):oB W (cu.r3 k aw sv it ws) o m cs g w:=by
 obtain⟨c0,NS,cn⟩:=mV hm;obtain⟨n,eB⟩:=eB;exact iM eB (bdH W _ _ aw sv o.enc) c0 .r3 (mI hm) rfl (by unfold Hi;split<;>rfl) (λk e=>by cases e) (λ⟨k,e⟩=>by cases e) λg hg=>aiB hc gT dL.1 hg
theorem aQh{k:Nat}(eB:pN W (cu.t1 k sv) cs g)(hm:MuAt 234 W w o.enc (m:Nat))(hc:o.c<=7)(oK:m<=1)(dL:(cu.t1 k sv).Ok)(gT:p9 (cu.t1 k sv) o)(hS:(cu.t1 k sv).Gl=true->m=1):oB W (cu.t1 k sv) o m cs g w:=by
 obtain⟨b,eB⟩:=eB;exact u7 eB (biN W _ _) (bdG W sv b _) (λf fs hf=>M1 hf amg agq fs) .t1 (qA hm rfl (M5 w)) (by simp) rfl (λk e=>by grind) (λk e=>by grind) λg hg=>F6 ⟨_,b,hg⟩
def aQj{k:Nat}(eB:pN W (cu.s1 k sv) cs g)(hm:MuAt 234 W w o.enc (m:Nat))(hc:o.c<=7)(oK:m<=1)(dL:(cu.s1 k sv).Ok)(gT:p9 (cu.s1 k sv) o)(hS:(cu.s1 k sv).Gl=true->m=1):oB W (cu.s1 k sv) o m cs g w:=by
 obtain⟨c0,NS,cn⟩:=mV hm;obtain⟨jV,Gq⟩:=kF hm;obtain⟨y,b,eB⟩:=eB;have:=hS rfl;subst this;cases sv
 .exact iM (o':=o) (m':=0) eB (aRb W _ b) NS .s1 (xK (m':=0) hm) rfl rfl (λk e=>by cases e) (λ⟨k,e⟩=>by cases e) λg hg=>F6 (x:= .t2 k false) ⟨rfl,y,hg⟩
 exact iM (o':=o) (m':=0) eB (aRa W _ b) NS .s1s (xK (m':=0) hm) rfl rfl (λk e=>by cases e) (λ⟨k,e⟩=>by cases e) λg hg=>F6 (x:= .r2 k true) ⟨y,hg⟩
def aQg{k:Nat}(eB:pN W (cu.t2 k sv) cs g)(hm:MuAt 234 W w o.enc (m:Nat))(hc:o.c<=7)(oK:m<=1)(dL:(cu.t2 k sv).Ok)(gT:p9 (cu.t2 k sv) o)(hS:(cu.t2 k sv).Gl=true->m=1):oB W (cu.t2 k sv) o m cs g w:=by
 obtain⟨c0,NS,cn⟩:=mV hm;obtain⟨jV,Gq⟩:=kF hm;obtain⟨rfl,y,f,fs,h1,rfl⟩:=eB;obtain⟨v,hv⟩:=h1.mk;have he:=biM W (iT y) v;rw[<-hv] at he;have hcm:=bdF W y ((w.os.mono+w.tick:Nat):Int) v;unfold am9 at hcm;rw[<-hv] at hcm;obtain⟨n,hn⟩:=EY (main:=false) (Live:=qx 234 W) (st:=aGx) BW hcm cs;obtain⟨n',hn'⟩:=xZ (B:=pN W (.r2 k _) cs) (λg hg=>by
  obtain⟨n,h⟩:=anE (main:=false) (Live:=qx 234 W) BW (bdE W _ _) hg;exact pure_mono (λg hg=>⟨y,by simpa using hg⟩) h) hn
 exact⟨_,w.later,#[],_,o,m,.t2 _,M1 he amg agq _,qA hm rfl (M5 w),by simp,rfl,(λk e=>by cases e),(λ⟨k,e⟩=>by cases e),n',hn'⟩
def aQl{k:Nat}(eB:pN W (cu.r2 k sv) cs g)(hm:MuAt 234 W w o.enc (m:Nat))(hc:o.c<=7)(oK:m<=1)(dL:(cu.r2 k sv).Ok)(gT:p9 (cu.r2 k sv) o)(hS:(cu.r2 k sv).Gl=true->m=1):oB W (cu.r2 k sv) o m cs g w:=by
 obtain⟨c0,NS,cn⟩:=mV hm;obtain⟨y,eB⟩:=eB;obtain⟨g1,g2⟩:=gT;cases hS':o.S with
 |false=>
  obtain⟨ws,n,hy⟩:=aDm y;exact iM (o':=o) (m':=m) eB (λv=>y7 (bdI W (iT y) sv v) (cQ.2 ⟨A9 hc,by simp[hS']⟩)) c0 (.r2n ws hS') (mI hm) rfl (by unfold Hi;split<;>rfl) (λk e=>by cases e) (λ⟨k,e⟩=>by cases e) λg hg=>aiB (ws:=ws) (n:=n) (it:=0) hc (λ_=>⟨g2 hS',hS'⟩) (λ_=>rfl) (by rw[<-hy];exact hg)
 |true=>
  obtain⟨e1,e2,e3⟩:=g1 hS';exact iM (o':=o) (m':=m) eB (λv=>y7 (aRd W (iT y) v) (x:=(o,sv)) (fG.2 ⟨o,cQ.2 ⟨A9 hc,by simp[hS',e1,e2];omega⟩,by cases sv<;>simp⟩)) c0 (.r2y hS') (mI hm) rfl rfl (λk e=>by cases e) (λ⟨k,e⟩=>by cases e) λg hg=>F6 hg
def aQu{k:Nat}{ex:Bool}(eB:pN W (cu.a1 k ex) cs g)(hm:MuAt 234 W w o.enc (m:Nat))(hc:o.c<=7)(oK:m<=1)(dL:(cu.a1 k ex).Ok)(gT:p9 (cu.a1 k ex) o)(hS:(cu.a1 k ex).Gl=true->m=1):oB W (cu.a1 k ex) o m cs g w:=by
 obtain⟨c0,NS,cn⟩:=mV hm;obtain⟨e1,e2,e3,e4⟩:=gT;obtain⟨L,Wk,S,c⟩:=o;simp_all;exact iM (m':=m) eB (bdN W _ (dlt ex)) c0 .a1 (xJ hm (azq c (by omega) e4 ex)) rfl rfl (λk e=>by cases e) (λ⟨k,e⟩=>by cases e) λg hg=>F6 (x:= .le k) (.inr hg)
def aQo{k:Nat}(eB:pN W (cu.le k) cs g)(hm:MuAt 234 W w o.enc (m:Nat))(hc:o.c<=7)(oK:m<=1)(dL:(cu.le k).Ok)(gT:p9 (cu.le k) o)(hS:(cu.le k).Gl=true->m=1):oB W (cu.le k) o m cs g w:=by
 obtain⟨c0,NS,cn⟩:=mV hm;obtain⟨jV,Gq⟩:=kF hm;rcases eB with eB|eB
 .exact iM (o':=o) (m':=m) eB (aRf W) cn .le (mI hm) rfl rfl (λk e=>by cases e) (λ⟨k,e⟩=>by cases e) λg hg=>F6 (x:= .la k) (.inl hg)
 exact iM (o':=o) (m':=m) eB (aRe W) cn .le (mI hm) rfl rfl (λk e=>by cases e) (λ⟨k,e⟩=>by cases e) λg hg=>F6 (x:= .la k) (.inr hg)
theorem aQb{k:Nat}(eB:pN W (cu.ui k) cs g)(hm:MuAt 234 W w o.enc (m:Nat))(hc:o.c<=7)(oK:m<=1)(dL:(cu.ui k).Ok)(gT:p9 (cu.ui k) o)(hS:(cu.ui k).Gl=true->m=1):oB W (cu.ui k) o m cs g w:=by
 obtain⟨c0,NS,cn⟩:=mV hm;exact iM eB (bdA W _) c0 .ui (mI hm) rfl rfl (λk e=>by grind) (λ⟨k,e⟩=>by grind) λg hg=>F6 hg
theorem aQa{k:Nat}(eB:pN W (cu.ur k) cs g)(hm:MuAt 234 W w o.enc (m:Nat))(hc:o.c<=7)(oK:m<=1)(dL:(cu.ur k).Ok)(gT:p9 (cu.ur k) o)(hS:(cu.ur k).Gl=true->m=1):oB W (cu.ur k) o m cs g w:=by
 obtain⟨c0,NS,cn⟩:=mV hm;exact iM eB (bdz W) cn .ur (mI hm) rfl rfl (λk e=>rfl) (λ⟨k,e⟩=>by grind) λg hg=>F6 hg
theorem aQd{k:Nat}(eB:pN W (cu.ud k) cs g)(hm:MuAt 234 W w o.enc (m:Nat))(hc:o.c<=7)(oK:m<=1)(dL:(cu.ud k).Ok)(gT:p9 (cu.ud k) o)(hS:(cu.ud k).Gl=true->m=1):oB W (cu.ud k) o m cs g w:=by
 obtain⟨c0,NS,cn⟩:=mV hm;exact iM eB (bdC W) cn .ud (mI hm) rfl rfl (λk e=>by grind) (λ⟨k,e⟩=>by grind) λg hg=>F6 hg
def aQf{k:Nat}(eB:pN W (cu.u0 k) cs g)(hm:MuAt 234 W w o.enc (m:Nat))(hc:o.c<=7)(oK:m<=1)(dL:(cu.u0 k).Ok)(gT:p9 (cu.u0 k) o)(hS:(cu.u0 k).Gl=true->m=1):oB W (cu.u0 k) o m cs g w:=by
 obtain⟨c0,NS,cn⟩:=mV hm;obtain⟨jV,Gq⟩:=kF hm;refine iM (o':=⟨false,o.W,o.S,o.c⟩) (m':=m) eB (λv=>y7 (bdD W v) (cQ.2 ⟨A9 hc,gT⟩)) c0 .u0 (xJ hm rfl) rfl (by unfold ucL;split<;>(try split)<;>rfl) (λk e=>by cases e) (λ⟨k,e⟩=>by cases e) λg hg=>?_;simp only[amI] at hg;split<;>rename_i hh
 .rw[dN hh] at hg;exact F6 (x:= .us k) (.inr hg)
 rw[cy hh] at hg;unfold ucL;simp only[YU] at hg;split<;>rename_i hr
 .rw[dN hr] at hg;exact F6 (x:= .ue k) hg
 rw[cy hr] at hg;exact F6 (x:= .uc k ⟨false,o.W,o.S,o.c⟩) hg
def aQe{k:Nat}{q:Wd}(eB:pN W (cu.uc k q) cs g)(hm:MuAt 234 W w o.enc (m:Nat))(hc:o.c<=7)(oK:m<=1)(dL:(cu.uc k q).Ok)(gT:p9 (cu.uc k q) o)(hS:(cu.uc k q).Gl=true->m=1):oB W (cu.uc k q) o m cs g w:=by
 obtain⟨jV,Gq⟩:=kF hm;by_cases e:o=q
 .subst e;exact u7 (m':=m) eB (aVk W _ _) (aQ6 W _ _) (λf fs hf=>Ll hf OB jV Gq fs) .ucy (xJ hm rfl) (anc W) rfl (λk e=>by cases e) (λk e=>by cases e) λg hg=>F6 (.inl hg)
 exact u7 (o':=o) (m':=m) eB (aVk W _ _) (aQ7 W _ _) (λf fs hf=>Cc hf OB jV Gq (λh=>e (Oo h)) fs) (.ucn e) (qA hm rfl (mQ.refl w)) (agE W) rfl (λk e=>by cases e) (λk e=>by cases e) λg hg=>F6 hg
def aP8{k:Nat}(eB:pN W (cu.ux k) cs g)(hm:MuAt 234 W w o.enc (m:Nat))(hc:o.c<=7)(oK:m<=1)(dL:(cu.ux k).Ok)(gT:p9 (cu.ux k) o)(hS:(cu.ux k).Gl=true->m=1):oB W (cu.ux k) o m cs g w:=by
 obtain⟨c0,NS,cn⟩:=mV hm;refine iM (o':=o) (m':=m) eB (λv=>y7 (bdy W v) (A9 hc)) c0 .ux (mI hm) rfl (by unfold ucL;split<;>rfl) (λk e=>by cases e) (λ⟨k,e⟩=>by cases e) λg hg=>?_;unfold ucL;simp only[YU] at hg;split<;>rename_i hr
 .rw[dN hr] at hg;exact F6 (x:= .ue k) hg
 rw[cy hr] at hg;exact F6 (x:= .uc k o) hg
def aP9{k:Nat}(eB:pN W (cu.us k) cs g)(hm:MuAt 234 W w o.enc (m:Nat))(hc:o.c<=7)(oK:m<=1)(dL:(cu.us k).Ok)(gT:p9 (cu.us k) o)(hS:(cu.us k).Gl=true->m=1):oB W (cu.us k) o m cs g w:=by
 obtain⟨c0,NS,cn⟩:=mV hm;obtain⟨jV,Gq⟩:=kF hm;have wk:∀ {ds:List FD},(∀v,amt (fe ds v)=true)->AtD ds cs g->mayWake MP g=true:=λh eB=>by
  obtain⟨f,fs,h1,rfl⟩:=eB;obtain⟨v,hv⟩:=h1.mk;have:=h v;rw[<-hv] at this;exact this
 have m2:m=0\/m=1:=by omega
 rcases eB with eB|eB<;>rcases m2 with rfl|rfl
 .exact iM (o':=o) (m':=1) eB (aQ5 W) NS .us (xK (m':=1) hm) rfl rfl (λk e=>by cases e) (λ_=>wk (ahv W) eB) λg hg=>F6 (x:= .ue k) hg
 .exact iM (o':=o) (m':=2) eB (aGe W) NS .us (xK (m':=2) hm) rfl rfl (λk e=>by cases e) (λ_=>wk (ahv W) eB) λg hg=>F6 (x:= .ue k) hg
 .exact iM (o':=o) (m':=1) eB (aQ4 W) NS .us (xK (m':=1) hm) rfl rfl (λk e=>by cases e) (λ_=>wk (ahu W) eB) λg hg=>F6 (x:= .ue k) hg
 exact iM (o':=o) (m':=2) eB (aGd W) NS .us (xK (m':=2) hm) rfl rfl (λk e=>by cases e) (λ_=>wk (ahu W) eB) λg hg=>F6 (x:= .ue k) hg
def awH{x:cu}(eB:pN W x cs g)(hm:MuAt 234 W w o.enc (m:Nat))(hc:o.c<=7)(oK:m<=1)(dL:x.Ok)(gT:p9 x o)(FV:x.mid=true)(hS:x.Gl=true->m=1):oB W x o m cs g w:=by
 cases x with
 |out k=>cases FV
 |own k=>cases FV
 |la k=>cases FV
 |ue k=>cases FV
 |ld k=>exact aQp eB hm hc oK dL gT hS
 |l0 k=>exact aQr eB hm hc oK dL gT hS
 |r0 k=>exact aQn eB hm hc oK dL gT hS
 |sq k q aw sv it ws=>exact aQi eB hm hc oK dL gT hS
 |c1 k q aw sv it ws=>exact aQt eB hm hc oK dL gT hS
 |r1 k aw sv it ws=>exact aQm eB hm hc oK dL gT hS
 |c2 k q aw sv it ws=>exact aQs eB hm hc oK dL gT hS
 |r3 k aw sv it ws=>exact aQk eB hm hc oK dL gT hS
 |t1 k sv=>exact aQh eB hm hc oK dL gT hS
 |s1 k sv=>exact aQj eB hm hc oK dL gT hS
 |t2 k sv=>exact aQg eB hm hc oK dL gT hS
 |r2 k sv=>exact aQl eB hm hc oK dL gT hS
 |a1 k ex=>exact aQu eB hm hc oK dL gT hS
 |le k=>exact aQo eB hm hc oK dL gT hS
 |ui k=>exact aQb eB hm hc oK dL gT hS
 |ur k=>exact aQa eB hm hc oK dL gT hS
 |ud k=>exact aQd eB hm hc oK dL gT hS
 |u0 k=>exact aQf eB hm hc oK dL gT hS
 |uc k q=>exact aQe eB hm hc oK dL gT hS
 |ux k=>exact aP8 eB hm hc oK dL gT hS
 |us k=>exact aP9 eB hm hc oK dL gT hS
def apc{k:Nat}(eB:pN W (.s1 k sv) cs g)(hm:MuAt 234 W w o.enc 0):stepG MP false g w= .go {g with status:= .blocked} w #[]:=by
 obtain⟨y,b,f,fs,h1,rfl⟩:=eB;obtain⟨v,hv⟩:=h1.mk;have h2:=aRc W (iT y) sv b v;rw[<-hv] at h2;simp only[aKs] at h2;have hc:j9 234 W w (cS 0):=⟨_,_,hm,(λx hx=>by cases hx),(λx hx=>by cases hx;rfl)⟩;unfold atQ at h2;split at h2<;>try (cases h2;done)
 rename_i bs h0;simp only[aB,wP] at h2;have:=pS h0 (λb hb=>by rw[h2] at hb;exact List.eq_of_mem_replicate hb) (w:=w) (.inr hc) cs false;simp only[OV.is] at this;rw[this];rfl
def aiy{go:Frame->List Frame->Bl}{k:Nat×Nat}{b2:List Nat}{l:List Frame}{f:Frame}{fs:List Frame}(h:UW go (f::fs)=some ([],[k],[],b2,some []))(hb:∀b∈b2,b=W)(cs:List Frame):
 ∃f' s',go f' s'=some []/\∀w,stepG MP false (G f (fs++cs)) w= .go (G f' (s'++cs)) w #[Ey W k]:=by
 unfold UW at h;simp only at h;split at h<;>try (cases h;done)
 rename_i oe gQ ws ks b1 b2' h0;simp_all;obtain⟨rfl,rfl,rfl,rfl,h5⟩:=h;exact⟨oe,gQ,h5,λw=>HU h0 (by simp) hb (w:=w) (.inl ⟨rfl,rfl⟩) cs false⟩
def asm{P:Program}{ty:TypeId}{c:Frame}(hc:c.mode= .returning):∀ {n:Nat} {fr:Frame} {jv:List Frame} {bs:List Nat},goD P ty n fr jv=some bs->∃m,Pure P false (λ_=>True) (· =G c cs) m (G fr (jv++c::cs))
 |0,_,_,_,h=>by cases h
 |n+1,fr,jv,bs,h=>by
  simp only[goD] at h;split at h
  .rename_i oe gQ h0;obtain⟨m,hm⟩:=asm hc h;refine⟨m+1,rfl,_,λw _=>?_,hm⟩;have:=pS (W:=0) (w:=w) h0 (by simp) (.inl ⟨rfl,rfl⟩) (c::cs) false;simp only[OV.is] at this;rw[this];rfl
  .rename_i h0;refine⟨1,rfl,_,λw _=>?_,rfl⟩;have:=pS (W:=0) (w:=w) h0 (by simp) (.inl ⟨rfl,rfl⟩) (c::cs) false;simp only[OV.is] at this;have h2:=this c cs rfl (.inl hc);rw[h2];rfl
  cases h
def aQq{k:Nat}{c:Frame}(eB:pN W (.la k) (c::cs) g):∃g',(∀w,stepG MP false g w= .go g' w #[said (.acquire (stA W))])/\∃n,Pure MP false (λ_=>True) (· =G (c.finish (.tuple #[])) cs) n g':=by
 have key:∀ {ds:List FD},(∀v,UW (goR MP 234 300) (fe ds v)=some ([],[(4,0)],[],[W],some []))->AtD ds (c::cs) g->∃g',(∀w,stepG MP false g w= .go g' w #[said (.acquire (stA W))])/\∃n,Pure MP false (λ_=>True) (· =G (c.finish (.tuple #[])) cs) n g':=λh eB=>by
  obtain⟨f,fs,h1,rfl⟩:=eB;obtain⟨v,hv⟩:=h1.mk;have h2:=h v;rw[<-hv] at h2;obtain⟨f',s',h3,h4⟩:=aiy (W:=W) (l:=[]) h2 (by simp) (c::cs);refine⟨_,h4,?_⟩;exact Lc (c:=c) (cs:=cs) h3 false (λg=>∃n,Pure MP false (λ_=>True) (· =G (c.finish (.tuple #[])) cs) n g) ⟨0,rfl⟩ λg g' hg hg' dt ⟨n,hn⟩=>⟨n+1,hg,g',λw _=>dt w,hn⟩
 rcases eB with eB|eB
 .exact key (aRh W) eB
 exact key (aRg W) eB
def aQc{k:Nat}{c:Frame}(eB:pN W (.ue k) (c::cs) g)(hc:c.mode= .returning):∃g',(∀w,stepG MP false g w= .go g' w #[said .enable])/\∃n,Pure MP false (λ_=>True) (· =G c cs) n g':=by
 obtain⟨f,fs,h1,rfl⟩:=eB;obtain⟨v,hv⟩:=h1.mk;have h2:=bdB v;rw[<-hv] at h2;obtain⟨f',s',h3,h4⟩:=aiy (W:=W) (l:=[]) h2 (by simp) (c::cs);exact⟨_,h4,asm hc h3⟩
noncomputable def TQ:ES MP 234 7 where
 At:=pN
 running:=apd
 step:=λeB hm hc oK dL gT FV hS=>awH eB hm hc oK dL gT FV hS
 block:=apc
 la:=aQq
 ue:=aQc
def aem(k:Nat):∃n,Pure MP false (qx 234 W) (pN W (.ld k) cs) n (G (Frame.enter MP 146 ⟨[mp W 0]⟩ .normal) cs):=
 EY BW (aGf W) cs
def Vj(k:Nat):∃n,Pure MP false (qx 234 W) (pN W (.ui k) cs) n (G (Frame.enter MP 147 ⟨[mp W 0]⟩ .deferred) cs):=
 EY BW (apP W) cs
end
abbrev CP(P:Program):Class:=λmain T=>Closed P main T
theorem kJ{P:Program}:∀main T,CP P main T->Closed P main T:=by simp
abbrev Cells:=List (Nat×Obj)
variable {Φ:Value→Cells→Prop} {fr R Y rw' rw:Cells}
def Sub(ro bU:Nat->Option Obj):Prop:=∀b o,ro b=some o->bU b=some o
def Sub.refl(ro:Nat->Option Obj):Sub ro ro:=λ_ _ h=>h
theorem Sub.trans{a b c:Nat->Option Obj}(h:Sub a b)(k:Sub b c):Sub a c:=λx o hx=>k x o (h x o hx)
structure alq(fr B:Cells)(ro:Nat->Option Obj)(s1 s:St):Prop where
 rw:s.rw.Perm (s1.rw++fr)
 cK:∀b o,s1.ro b=some o->s.ro b=some o\/(b,o)∈B
 keep:Sub ro s.ro
theorem Fv{P:Program}{T:Goroutine->St->Prop}(hT:Closed P main T){g:Goroutine}{s:St}(hg:g.status= .running)(h:(∃w,dh s w)->T g s):T g s:=by
 by_cases hw:∃w,dh s w
 .grind
 exact hT.step g s hg λw yO=>absurd ⟨w,yO⟩ hw
def IT{P:Program}{T:Goroutine->St->Prop}(hT:Closed P main T){B:Cells}(hB:∀x∈B,x∈fr)(ro:Nat->Option Obj):
 Closed P main (λg s1=>g.status= .running->∀s,alq fr B ro s1 s->T g s) where
 step:=λg s1 hg h _ s hc=>by
  refine hT.step g s hg λw hw=>?_;have R8:∀x,x∈s.rw↔x∈s1.rw\/x∈fr:=λx=>by rw[hc.rw.mem_iff,bJ]
  have kT:=(hc.rw.map (·.1)).nodup_iff.1 hw.nodup;rw[cw,eo] at kT;obtain⟨hn1,hn2,Yn⟩:=kT;have aTt:∀b o o',(b,o)∈s1.rw->(b,o')∈fr->False:=λb o o' h1 h2=>Yn b (a8.2 ⟨_,h1,rfl⟩) b (a8.2 ⟨_,h2,rfl⟩) rfl;have bhl:dh s1 w:=by
   refine⟨λb o hb=>?_,λb o hb=>hw.rw b o ((R8 _).2 (.inl hb)),λb o hb=>hw.real b o ((R8 _).2 (.inl hb)),hn1,λb o hb=>?_⟩
   .rcases hc.cK b o hb with h1|h1
    .exact hw.ro b o h1
    exact .inl ⟨hw.rw b o ((R8 _).2 (.inr (hB _ h1))),hw.real b o ((R8 _).2 (.inr (hB _ h1)))⟩
   cases hr:s1.ro b with
   |none=>rfl
   |some o'=>
    rcases hc.cK b o' hr with h1|h1
    .rw[hw.apart b o ((R8 _).2 (.inl hb))] at h1;cases h1
    exact(aTt b o o' hb (hB _ h1)).elim
  obtain⟨g',w',es,GJ,dt,dz,ht,hT'⟩:=h w bhl;have aq3:∀b o,(b,o)∈fr->b <w.heap.size:=λb o hb=>hw.lt (.inr ((R8 _).2 (.inr hb)));have aH2:∀b o,(b,o)∈fr->¬s1.owns b:=λb o hb ⟨o',ho'⟩=>aTt b o' o ho' hb;have aHb:∀b,s.ro b≠none->¬s1.owns b:=λb hb ⟨o',ho'⟩=>hb (hw.apart b o' ((R8 _).2 (.inl ho')));have aqe:∀b,s.ro b≠none->b <w.heap.size:=λb hb=>by
   cases hr:s.ro b with
   |none=>exact absurd hr hb
   |some o=>exact hw.lt (.inl hr)
  have bgf:∀b o,(b,o)∈fr->w'.heap[b]?=some o:=λb o hb=>by
   rw[ht.frame b (aq3 b o hb) (aH2 b o hb)];exact hw.rw b o ((R8 _).2 (.inr hb))
  classical
  let bU:Nat->Option Obj:=λb=>if ∃o,(b,o)∈fr then none else match GJ.ro b with
   |some o=>some o
   |none=>s.ro b
  have aHc:∀b o,bU b=some o->¬(∃o,(b,o)∈fr)/\(GJ.ro b=some o\/(GJ.ro b=none/\s.ro b=some o)):=λb o hb=>by
   simp only[bU] at hb;split at hb
   .cases hb
   rename_i hn;refine⟨hn,?_⟩;cases h1:GJ.ro b with
   |none=>rw[h1] at hb;exact .inr ⟨rfl,hb⟩
   |some o2=>rw[h1] at hb;exact .inl hb
  have bhk:dh ⟨bU,GJ.rw++fr⟩ w':=by
   refine⟨λb o hb=>?_,λb o hb=>?_,λb o hb=>?_,?_,λb o hb=>?_⟩
   .obtain⟨_,h1| ⟨_,h2⟩⟩:=aHc b o hb
    .exact ht.ny.ro b o h1
    have eA:s.ro b≠none:=by rw[h2];simp
    rw[ht.frame b (aqe b eA) (aHb b eA)];exact hw.ro b o h2
   .rcases bJ.1 hb with hb|hb
    .exact ht.ny.rw b o hb
    exact bgf b o hb
   .rcases bJ.1 hb with hb|hb
    .exact ht.ny.real b o hb
    exact hw.real b o ((R8 _).2 (.inr hb))
   .show ((GJ.rw++fr).map (·.1)).Nodup;rw[List.map_append,List.nodup_append];refine⟨ht.ny.nodup,hn2,λx hx y hy e=>?_⟩;obtain⟨⟨b,o⟩,h1,rfl⟩:=List.mem_map.1 hx;obtain⟨⟨b2,o2⟩,h2,rfl⟩:=List.mem_map.1 hy;dsimp only at e;subst e;rcases ht.own b ⟨o,h1⟩ with h3|h3
    .exact absurd (aq3 b o2 h2) (by omega)
    exact aH2 b o2 h2 h3
   show bU b=none;rcases bJ.1 hb with hb|hb
   .cases hr:bU b with
    |none=>rfl
    |some o'=>
     obtain⟨hn,h1| ⟨_,h2⟩⟩:=aHc b o' hr
     .rw[ht.ny.apart b o hb] at h1;cases h1
     have eA:s.ro b≠none:=by rw[h2];simp
     rcases ht.own b ⟨o,hb⟩ with h3|h3
     .exact absurd (aqe b eA) (by omega)
     exact(aHb b eA h3).elim
   simp only[bU];rw[dN ⟨o,hb⟩]
  have aTy:alq fr B ro GJ ⟨bU,GJ.rw++fr⟩:=by
   refine⟨.refl _,λb o hb=>?_,λb o hb=>?_⟩
   .by_cases hf:∃o,(b,o)∈fr
    .obtain⟨o2,Ud⟩:=hf;rcases ht.RZ b (by rw[hb];simp) with h1|h1|h1
     .exact absurd (aq3 b _ Ud) (by omega)
     .rw[hb] at h1;rcases hc.cK b o h1.symm with h3|h3
      .rw[hw.apart b _ ((R8 _).2 (.inr Ud))] at h3;cases h3
      exact .inr h3
     exact(aH2 b _ Ud h1).elim
    left;show bU b=some o;simp only[bU];rw[cy hf,hb]
   have h1:=hc.keep b o hb;have eA:s.ro b≠none:=by rw[h1];simp
   have hf:¬ ∃o,(b,o)∈fr:=λ⟨o2,Ud⟩=>eA (hw.apart b o2 ((R8 _).2 (.inr Ud)));show bU b=some o;simp only[bU];rw[cy hf];cases h2:GJ.ro b with
   |none=>exact h1
   |some o2=>
    rcases ht.RZ b (by rw[h2];simp) with h3|h3|h3
    .exact absurd (aqe b eA) (by omega)
    .rw[h2] at h3;rcases hc.cK b o2 h3.symm with h4|h4
     .rw[h1] at h4;exact h4.symm
     exact absurd ⟨_,hB _ h4⟩ hf
    exact(aHb b eA h3).elim
  refine⟨g',w',es,⟨bU,GJ.rw++fr⟩,dt,dz,⟨bhk,ht.size,λb hb hn=>?_,λb hb=>?_,λb hb=>?_,ht.os,ht.output,ht.tape,λe he=>?_,ht.low⟩,hT' dz _ aTy⟩
  .exact ht.frame b hb λ⟨o,ho⟩=>hn ⟨o,(R8 _).2 (.inl ho)⟩
  .obtain⟨o,ho⟩:=hb;rcases bJ.1 ho with ho|ho
   .rcases ht.own b ⟨o,ho⟩ with h3| ⟨o3,h3⟩
    .exact .inl h3
    exact .inr ⟨o3,(R8 _).2 (.inl h3)⟩
   exact .inr ⟨o,(R8 _).2 (.inr ho)⟩
  .have hb:bU b≠none:=hb;cases hr:bU b with
   |none=>exact absurd hr hb
   |some o=>
    obtain⟨hn,h1| ⟨_,h2⟩⟩:=aHc b o hr
    .rcases ht.RZ b (by rw[h1];simp) with h3|h3| ⟨o3,h3⟩
     .exact .inl h3
     .rw[h1] at h3;rcases hc.cK b o h3.symm with h5|h5
      .exact .inr (.inl (by show bU b=s.ro b;rw[hr,h5]))
      exact absurd ⟨_,hB _ h5⟩ hn
     exact .inr (.inr ⟨o3,(R8 _).2 (.inl h3)⟩)
    exact .inr (.inl (by show bU b=s.ro b;rw[hr,h2]))
  have WB:=ht.Aw e he;have aBR:∀b,(∃o,(b,o)∈s1.rw)->s.owns b:=λb ⟨o,ho⟩=>⟨o,(R8 _).2 (.inl ho)⟩;have beV:∀b,s1.ro b≠none->s.ro b≠none\/s.owns b:=λb hb=>by
   cases h4:s1.ro b with
   |none=>exact absurd h4 hb
   |some o4=>
    rcases hc.cK b o4 h4 with h5|h5
    .exact .inl (by rw[h5];simp)
    exact .inr ⟨o4,(R8 _).2 (.inr (hB _ h5))⟩
  unfold N0 at*;split at WB
  .refine⟨WB.1,?_⟩;rcases WB.2 with h1|h1| ⟨h1,h2⟩
   .exact .inl h1
   .exact .inr (.inl (aBR _ h1))
   cases h4:s1.ro _ with
   |none=>exact absurd h4 h2.1
   |some o4=>
    rcases hc.cK _ o4 h4 with h5|h5
    .exact .inr (.inr ⟨h1,by rw[h5,<-h4];exact h2⟩)
    exact .inr (.inl ⟨o4,(R8 _).2 (.inr (hB _ h5))⟩)
  .refine⟨WB.1,?_⟩;rcases WB.2 with h1|h1| ⟨h1,h2⟩
   .exact .inl h1
   .exact .inr (.inl (aBR _ h1))
   rcases beV _ h2 with h3|h3
   .exact .inr (.inr ⟨h1,h3⟩)
   exact .inr (.inl h3)
  .exact WB
  exact WB
 mono:=λg s1 GJ hl h dz s hc=>by
  refine Fv hT dz λ⟨w,hw⟩=>?_;obtain⟨R,hR,qX⟩:=hl;have R8:∀x,x∈s.rw↔x∈GJ.rw\/x∈fr:=λx=>by rw[hc.rw.mem_iff,bJ]
  have aIJ:∀x,x∈R->x∈s.rw:=λx hx=>(R8 x).2 (.inl (hR.mem_iff.2 (gD _ hx)))
  classical
  let xd:Nat->Option Obj:=λb=>if hx:∃o,(b,o)∈R then some (Classical.choose hx) else s.ro b
  have Qj:∀b o,(b,o)∈R->xd b=some o:=λb o hb=>by
   have hx:∃o,(b,o)∈R:=⟨o,hb⟩;simp only[xd];rw[dif_pos hx];have h1:=hw.rw b _ (aIJ _ (ox hx));rw[hw.rw b o (aIJ _ hb)] at h1;cases h1;rfl
  have IE:∀b o,s.ro b=some o->xd b=some o:=λb o hb=>by
   simp only[xd];rw[dif_neg]
   .exact hb
   rintro⟨o2,Ud⟩;rw[hw.apart b o2 (aIJ _ Ud)] at hb;cases hb
  refine hT.mono g ⟨xd,s1.rw++fr⟩ s ⟨R,?_,λb o hb=>?_⟩ (h dz _ ⟨.refl _,λb o hb=>?_,λb o hb=>IE b o (hc.keep b o hb)⟩)
  .refine hc.rw.trans ((Nj fr hR).trans ?_);rw[bx,bx];exact AB _ iB
  .simp only[xd] at hb;split at hb
   .rename_i hx;simp only[aB] at hb;exact .inr (hb▸ox hx)
   exact .inl hb
  rcases qX b o hb with h1|h1
  .exact(hc.cK b o h1).imp (IE b o) id
  exact .inl (Qj b o h1)
theorem Fn.frame{P:Program}{s1 s:St}{R:Ending->St->Prop}{B:Cells}(hf:Fn (CP P) P f args s1 R)(hB:∀x∈B,x∈fr)(hc:alq fr B ro s1 s):
 Fn (CP P) P f args s (λen s'=>∃GJ,R en GJ/\alq fr B ro GJ s'):=
 λmain T hT c cs k1 k2=>hf _ _ (IT hT hB ro) c cs (λv GJ hv _ s' By=>k1 v s' ⟨GJ,hv,By⟩) (λch GJ hv _ s' By=>k2 ch s' ⟨GJ,hv,By⟩) rfl s hc
def eT(P:Program)(f:FuncId)(args:List Value)(ro:Nat->Option Obj)(own:Cells)(Φ:Value->Cells->Prop):Prop:=
 Fn (CP P) P f ⟨args⟩ ⟨ro,own⟩ (λen s'=>∃v X,en= .returned v/\s'=⟨ro,X⟩/\Φ v X)
abbrev iI(P:Program)(f:FuncId)(args:List Value)(ro:Nat->Option Obj)(V:Value):Prop:=eT P f args ro [] (λv X=>v=V/\X=[])
def eT.mono{P:Program}{args:List Value}{own:Cells}{Φ':Value->Cells->Prop}(h:eT P f args ro own Φ)(hk:∀v X,Φ v X->Φ' v X):eT P f args ro own Φ':=
 Fn.mono h λ_ _ ⟨v,X,h1,h2,h3⟩=>⟨v,X,h1,h2,hk v X h3⟩
theorem Xl:Ext ⟨ro,[]⟩ ⟨ro,rw⟩:=λ_ _ h=>h.elim .inl (λh=>by grind)
theorem xB{bU:Nat->Option Obj}(h:Sub ro bU):Ext ⟨ro,[]⟩ ⟨bU,[]⟩:=λb o hb=>hb.elim (λhb=> .inl (h b o hb)) (λhb=>by grind)
def dk(ro:Nat->Option Obj)(v:Value)(sz:Nat)(enc:α->List Value)(ps:List α):Prop:=
 ∃a b o cap,v= .slice a ps.length cap/\ps.length<=cap/\(∀k,k <ps.length->a=some ⟨b,o,none⟩)/\∀i p,ps[i]?=some p->eW ⟨ro,[]⟩ b (o+i*sz) sz (enc p)
theorem dk.nil(ro:Nat->Option Obj)(sz:Nat)(enc:α->List Value)(a:Option Addr)(cap:Nat):dk ro (.slice a 0 cap) sz enc []:=⟨a,0,0,cap,rfl,bQ _,λk h=>absurd h (fS k),λi p hp=>by grind⟩
def dk.up{bU:Nat->Option Obj}{v:Value}{enc:α->List Value}{ps:List α}(h:dk ro v sz enc ps)(hs:Sub ro bU):dk bU v sz enc ps:=by
 obtain⟨a,b,o,cap,h1,h4,h2,h3⟩:=h;exact⟨a,b,o,cap,h1,h4,h2,λi p hp=>(h3 i p hp).ext (xB hs)⟩
section rules
variable {P:Program} {C:Class} {fn:FuncId} {bW:Option Nat} {Q:Post} {s:St} {n:Nat} {env:Env} {D:List Deferred}
variable {ops:Array Oper} {i:Nat} {rest:List Nat} {dst:Option Tmp} {ty:TypeId} {pos:String} {gf:Array Edge} {g:Option (Nat×Bool)}
variable {T:TypeId} {d:TypeDesc} {sz dP:Nat} {z:List Value} {ag:Bool} {ro:Nat->Option Obj} {rw:Cells}
def aR.more{a:Act}(hC:∀main T,C main T->Closed P main T){s':St}(hl:s.le s')(h:aR C fn bW ops todo Q a s):aR C fn bW ops todo Q a s':=
 λmain T hT b k cs h1 h2 h3 h4=>(hC _ _ hT).mono _ _ _ hl (h _ T hT b k cs h1 h2 h3 h4)
def awk{a:Act}(hC:∀main T,C main T->Closed P main T)(h:(∃w,dh s w)->aR C fn bW ops todo Q a s):aR C fn bW ops todo Q a s:=
 λmain T hT b k cs h1 h2 h3 h4=>Fv (hC _ _ hT) rfl λhw=>h hw _ T hT b k cs h1 h2 h3 h4
def aDx{a:Act}{c:Code}(hC:∀main T,C main T->Closed P main T)(h:(∃w,dh s w)->Wp C fn bW c Q a s):Wp C fn bW c Q a s:=
 λmain T hT b k cs h1 h2 h3 h4=>Fv (hC _ _ hT) rfl λhw=>h hw _ T hT b k cs h1 h2 h3 h4
def asC{R:Ending->St->Prop}(hC:∀main T,C main T->Closed P main T)(h:(∃w,dh s w)->Fn C P f args s R):Fn C P f args s R:=
 λmain T hT c cs h1 h2=>Fv (hC _ _ hT) rfl λhw=>h hw _ T hT c cs h1 h2
def Xb{X:Cells}(hp:rw.Perm (X++s.rw))(hw:∃w,dh ⟨s.ro,rw⟩ w):∃bU,Sub s.ro bU/\(∀x∈X,bU x.1=some x.2)/\(⟨bU,s.rw⟩:St).le ⟨s.ro,rw⟩:=by
 classical
 obtain⟨w,hw⟩:=hw;have uM:∀x,x∈X->x∈rw:=λx hx=>hp.mem_iff.2 (cZ _ hx);refine⟨λb=>if hx:∃o,(b,o)∈X then some (Classical.choose hx) else s.ro b,λb o hb=>?_,λx hx=>?_,X,hp.trans iB,λb o hb=>?_⟩
 .simp only;rw[dif_neg]
  .exact hb
  rintro⟨o2,Ud⟩;have:=hw.apart b o2 (uM _ Ud);rw[show s.ro b=none from this] at hb;cases hb
 .obtain⟨b,o⟩:=x;have mO:∃o,(b,o)∈X:=⟨o,hx⟩;simp only;rw[dif_pos mO];have h1:=hw.rw b _ (uM _ (ox mO));rw[hw.rw b o (uM _ hx)] at h1;cases h1;rfl
 simp only at hb;split at hb
 .rename_i hx;simp only[aB] at hb;exact .inr (hb▸ox hx)
 exact .inl hb
def aiL{a:Act}{c:Code}(hC:∀main T,C main T->Closed P main T){X:Cells}(hp:rw'.Perm (X++rw))(h:∀bU,Sub ro bU->(∀x∈X,bU x.1=some x.2)->Wp C fn bW c Q a ⟨bU,rw⟩):Wp C fn bW c Q a ⟨ro,rw'⟩:=
 aDx hC λhw=>by
  obtain⟨bU,h1,h2,h3⟩:=Xb (s:=⟨ro,rw⟩) hp hw;exact(h bU h1 h2).more hC h3
def ad2{a:Act}(hC:∀main T,C main T->Closed P main T){X:Cells}(hp:rw'.Perm (X++rw))(h:∀bU,Sub ro bU->(∀x∈X,bU x.1=some x.2)->aR C fn bW ops todo Q a ⟨bU,rw⟩):aR C fn bW ops todo Q a ⟨ro,rw'⟩:=
 awk hC λhw=>by
  obtain⟨bU,h1,h2,h3⟩:=Xb (s:=⟨ro,rw⟩) hp hw;exact(h bU h1 h2).more hC h3
def eT.use{own B:Cells}(hp:s.rw.Perm (own++fr))(hB:∀x∈B,x∈fr)(hf:∀cK,Sub s.ro cK->(∀x∈B,cK x.1=some x.2)->eT P f vs cK own Φ):
 Fn (CP P) P f ⟨vs⟩ s (λen s'=>∃v X,en= .returned v/\Φ v X/\(⟨s.ro,X++fr⟩:St).le s'):=by
 refine asC kJ λ⟨w,hw⟩=>?_
 classical
 have uM:∀x,x∈B->x∈s.rw:=λx hx=>hp.mem_iff.2 (gD _ (hB x hx))
 let cK:Nat->Option Obj:=λb=>if hx:∃o,(b,o)∈B then some (Classical.choose hx) else s.ro b
 have h1:Sub s.ro cK:=λb o hb=>by
  simp only[cK];rw[dif_neg]
  .exact hb
  rintro⟨o2,Ud⟩;rw[hw.apart b o2 (uM _ Ud)] at hb;cases hb
 have h2:∀x∈B,cK x.1=some x.2:=λ⟨b,o⟩ hx=>by
  have mO:∃o,(b,o)∈B:=⟨o,hx⟩;simp only[cK];rw[dif_pos mO];have h3:=hw.rw b _ (uM _ (ox mO));rw[hw.rw b o (uM _ hx)] at h3;cases h3;rfl
 refine Fn.mono (Fn.frame (fr:=fr) (B:=B) (ro:=s.ro) (s:=s) (hf cK h1 h2) hB ⟨hp,λb o hb=>?_,Sub.refl _⟩) λen s' vK=>?_
 .simp only[cK] at hb;split at hb
  .rename_i hx;simp only[aB] at hb;exact .inr (hb▸ox hx)
  exact .inl hb
 obtain⟨GJ,⟨v,X,rfl,rfl,uK⟩,hc⟩:=vK;exact⟨v,X,rfl,uK,[],by simpa using hc.rw,λb o hb=> .inl (hc.keep b o hb)⟩
theorem aoT(hC:∀main T,C main T->Closed P main T){ws:List Value}{own B:Cells}(ho:ops[i]?=some ⟨dst,.call ⟨.value x,xs,at_⟩,ty,pos,gf,g⟩) (hw:bN ops n env g=true)
 (hv:dv n env x=some (.func (.func f) fi ca)) (ff:FF P f) (hx:Aw n env xs=some vs) (xP:fi++⟨vs⟩++ca=⟨ws⟩) (hp:s.rw.Perm (own++fr)) (hB:∀x∈B,x∈fr) (hf:∀cK,Sub s.ro cK->(∀x∈B,cK x.1=some x.2)->eT P f ws cK own Φ)
 (h:∀v X,Φ v X->aR C fn bW ops rest Q (A n (upd dst v env) D) ⟨s.ro,X++fr⟩):aR C fn bW ops (i::rest) Q (A n env D) s:=
 zd hC ho hw hv ff hx xP ((eT.use hp hB hf).weaken hC) (λv' s' hr=>by obtain⟨v,X,e,h1,h2⟩:=hr;cases e;exact(h _ X h1).more hC h2) (λch s' hr=>by grind) (λs' hr=>by grind)
theorem iI.use{sz:St}(hez:Ext s sz)(hf:∀cK,(∀b o,s.has b o->cK b=some o)->iI P f vs cK V):Fn (CP P) P f ⟨vs⟩ sz (λe s'=>e= .returned V/\sz.le s'):=by
 refine Fn.mono (eT.use (s:=sz) (.refl _) (λ_ h=>h) (λcK h1 h2=>hf cK λb o hb=>?_)) λen s' vK=>?_
 .rcases hez b o hb with h3|h3
  .exact h1 b o h3
  grind
 obtain⟨v,X,e,⟨h1,h2⟩,h3⟩:=vK;simp_all
theorem aab(hC:∀main T,C main T->Closed P main T){ws:List Value}{s0:St}(ho:ops[i]?=some ⟨dst,.call ⟨.value x,xs,at_⟩,ty,pos,gf,g⟩) (hw:bN ops n env g=true)
 (hv:dv n env x=some (.func (.func f) fi ca)) (ff:FF P f) (hx:Aw n env xs=some vs) (xP:fi++⟨vs⟩++ca=⟨ws⟩) (hez:Ext s0 s) (hf:∀cK,(∀b o,s0.has b o->cK b=some o)->iI P f ws cK V) (h:aR C fn bW ops rest Q (A n (upd dst V env) D) s):aR C fn bW ops (i::rest) Q (A n env D) s:=
 zd hC ho hw hv ff hx xP ((iI.use hez hf).weaken hC) (λv' s' hr=>by obtain⟨e,h1⟩:=hr;cases e;exact h.more hC h1) (λch s' hr=>by grind) (λs' hr=>by grind)
def OW{cK:Nat->Option Obj}(h:∀b o,(⟨ro,rw⟩:St).has b o->cK b=some o):Sub ro cK:=λb o hb=>h b o (.inl hb)
theorem bI.ju{v:Value}{enc:α->List Value}{ps:List α}{L:Cells}{cK:Nat->Option Obj}(h:bI v sz T enc ps L)(hL:∀x∈L,cK x.1=some x.2):dk cK v sz enc ps:=by
 obtain⟨a,b,o,cap,h1,h2,h3⟩:=h.sl (s:=⟨cK,[]⟩) λx hx=> .inl (hL x hx);refine⟨a,b,o,cap,h1,?_,h2,h3⟩;rcases h with ⟨_,g2,_⟩| ⟨b',l,aVC,g1,_,_,g4,_⟩
 all_goals grind
end rules
section rules
variable {P:Program} {C:Class} {fn:FuncId} {bW:Option Nat} {Q:Post} {s:St} {n:Nat} {env:Env} {D:List Deferred}
variable {ops:Array Oper} {i:Nat} {rest:List Nat} {dst:Option Tmp} {ty:TypeId} {pos:String} {gf:Array Edge} {g:Option (Nat×Bool)}
variable {T:TypeId} {d:TypeDesc} {sz dP:Nat} {z:List Value} {ag:Bool}
def ad6(hC:∀main T,C main T->Closed P main T)(ho:ops[i]?=some ⟨dst,.range T x,ty,pos,gf,g⟩) (hw:bN ops n env g=true) (tf:TF P T .string sz dP z ag) (hx:dv n env x=some (.string b))
 (h:∀r,¬s.knows r->aR C fn bW ops rest Q (A n (upd dst (.pointer (some ⟨r,0,none⟩)) env) D) ⟨s.ro,(r,.stringIter b 0)::s.rw⟩):aR C fn bW ops (i::rest) Q (A n env D) s:=by
 refine eF hC ho hw (by simp) ?_;simp only[execOp,Instr.range,aI,db tf,cg hx,aQ,vx];refine⟨rfl,?_⟩;intro r hr;have:=h r hr;rw[<-dH] at this;exact this
def ajD(hC:∀main T,C main T->Closed P main T){L:Cells}(ho:ops[i]?=some ⟨dst,.next x true,ty,pos,gf,g⟩) (hw:bN ops n env g=true) (hx:dv n env x=some (.pointer (some ⟨r,0,none⟩))) (hs:s.rw=L++(r,.stringIter b p)::R) (hp:p <b.size)
 (h:aR C fn bW ops rest Q (A n (upd dst (.tuple ⟨[.bool true,.int .i64 p,.int .i32 (Utf8.decode b p).1]⟩) env) D) ⟨s.ro,L++(r,.stringIter b (p+(Utf8.decode b p).2))::R⟩):aR C fn bW ops (i::rest) Q (A n env D) s:=by
 refine eF hC ho hw (by simp) ?_;simp only[execOp,Instr.next,aI,cg hx];refine fL (o:= .stringIter b p) (.inr (by rw[hs];simp)) rfl rfl ?_;simp only[aI,hp,dF];refine jh (o:= .stringIter b (p+(Utf8.decode b p).2)) rfl hs rfl ?_;rw[<-dH] at h;exact h
def ajE(hC:∀main T,C main T->Closed P main T){L:Cells}(ho:ops[i]?=some ⟨dst,.next x true,ty,pos,gf,g⟩) (hw:bN ops n env g=true) (hx:dv n env x=some (.pointer (some ⟨r,0,none⟩))) (hs:s.rw=L++(r,.stringIter b p)::R) (hp:¬p <b.size)
 (h:aR C fn bW ops rest Q (A n (upd dst (.tuple ⟨[.bool false]⟩) env) D) s):aR C fn bW ops (i::rest) Q (A n env D) s:=by
 refine eF hC ho hw (by simp) ?_;simp only[execOp,Instr.next,aI,cg hx];refine fL (o:= .stringIter b p) (.inr (by rw[hs];simp)) rfl rfl ?_;simp only[aI,hp,cJ];rw[<-dH] at h;exact h
end rules
theorem eW.part{s:St}{b o m:Nat}{ws:List Value}(h:eW s b o m vs)(j k:Nat)(hj:sub vs j k=some ws):eW s b (o+j) k ws:=by
 obtain⟨l,t,fz,h1,h2⟩:=h;obtain⟨h3,h4⟩:=sub_eq _ _ _ _ h2;obtain⟨h5,h6⟩:=sub_eq _ _ _ _ hj;refine⟨l,t,fz,h1,?_⟩;have hlen:(o+j)+k<=l.length:=by
  rcases FH k with h0|h0
  .subst h0;have:o+j<=l.length:=by
    have h7:sub vs j 0=some ws:=hj;have hjl:j<=vs.length:=by
     have key:∀(l:List Value) (j:Nat) (ws:List Value),sub l j 0=some ws->j<=l.length:=by
      intro l
      induction l with
      |nil=>intro j ws h;cases j with
       |zero=>simp
       |succ j=>simp[sub] at h
      |cons x l ih=>intro j ws h;cases j with
       |zero=>simp
       |succ j=>have:=ih j ws (by simpa [sub] using h);simp;omega
     exact key _ _ _ h7
    have Uc:o+m<=l.length\/m=0:=by
     rcases FH m with h8|h8
     .exact .inr h8
     left;have:=h4 (m-1) vs[m-1] (by rw[ai]);have:=(aA.1 this).1;omega
    rcases Uc with h9|h9
    .omega
    have bdx:∀(l:List Value) (o:Nat) (ws:List Value),sub l o 0=some ws->o<=l.length:=by
     intro l
     induction l with
     |nil=>intro j ws h;cases j with
      |zero=>simp
      |succ j=>simp[sub] at h
     |cons x l ih=>intro j ws h;cases j with
      |zero=>simp
      |succ j=>have:=ih j ws (by simpa [sub] using h);simp;omega
    rw[h9] at h2;have:=bdx _ _ _ h2;omega
   omega
  have:=h6 (k-1) ws[k-1] (by rw[ai]);have:=h4 _ _ this;have:=(aA.1 this).1;omega
 rw[oz hlen];congr 1;apply pI;intro i;by_cases hi:i <k
 .have h7:=h4 _ _ (h6 i ws[i] (by rw[ai]));rw[List.getElem?_take_of_lt hi,List.getElem?_drop,ai (show i <ws.length by omega),<-h7,Nat.add_assoc]
 rw[AA (by simp;omega),AA (by omega)]
section rules
variable {P:Program} {C:Class} {fn:FuncId} {bW:Option Nat} {Q:Post} {s:St} {n:Nat} {env:Env} {D:List Deferred}
variable {ops:Array Oper} {i:Nat} {rest:List Nat} {dst:Option Tmp} {ty:TypeId} {pos:String} {gf:Array Edge} {g:Option (Nat×Bool)}
def oa(hC:∀main T,C main T->Closed P main T){v:Value}(ho:ops[i]?=some ⟨dst,.assign x,ty,pos,gf,none⟩) (hx:dv n env x=some (v)) (h:aR C fn bW ops rest Q (A n (upd dst v env) D) s):aR C fn bW ops (i::rest) Q (A n env D) s:=aoU hC ho rfl hx h
end rules
def mY(k:IntKind)(a b:Int):Int:=a.fdiv (2^(min b.toNat k.bits))
def iU(k:IntKind)(a b:Int):Int:=k.wrap (a*2^(min b.toNat k.bits))
def ajZ(k:IntKind)(a b:Int):Int:=k.wrap (BitVec.ofInt k.bits a&&& BitVec.ofInt k.bits b).toNat
def iOr(k:IntKind)(a b:Int):Int:=k.wrap (BitVec.ofInt k.bits a|||BitVec.ofInt k.bits b).toNat
def gC(k:IntKind)(a b:Int):Int:=k.wrap (BitVec.ofInt k.bits a^^^BitVec.ofInt k.bits b).toNat
def YJ(k:IntKind)(h:k.signed=false)(n:Int):0<=k.wrap n/\k.wrap n <2^k.bits:=by
 simp only[IntKind.wrap,h,wR,aW,cJ];omega
theorem AI(k:IntKind)(h:k.signed=false)(n:Int)(h0:0<=n)(h1:n <2^k.bits):k.wrap n=n:=by
 grind [IntKind.wrap,Int.emod_eq_of_lt]
def B1(a b:Int):0<=gC .u64 a b/\gC .u64 a b <18446744073709551616:=YJ _ rfl _
theorem eT.aDT{P:Program}{s:St}{own:Cells}(hp:s.rw.Perm (own++fr))(hf:eT P f vs s.ro own Φ):
 Fn (CP P) P f ⟨vs⟩ s (λen s'=>∃v X,en= .returned v/\Φ v X/\(⟨s.ro,X++fr⟩:St).le s'):=by
 refine Fn.mono (Fn.frame (B:=[]) hf (λ_ h=>(by grind)) ⟨hp,λb o hb=> .inl hb,Sub.refl _⟩) λen s' vK=>?_;obtain⟨GJ,⟨v,X,rfl,rfl,uK⟩,hc⟩:=vK;exact⟨v,X,rfl,uK,[],by simpa using hc.rw,λb o hb=> .inl (hc.keep b o hb)⟩
def Knows(ro:Nat->Option Obj)(X:Cells):Prop:=∀x∈X,ro x.1=some x.2
def Knows.up{bU:Nat->Option Obj}{X:Cells}(h:Knows ro X)(hs:Sub ro bU):Knows bU X:=λx hx=>hs _ _ (h x hx)
def Knows.left{X:Cells}(h:Knows ro (X++Y)):Knows ro X:=λx hx=>h x (cZ _ hx)
def Knows.right{X:Cells}(h:Knows ro (X++Y)):Knows ro Y:=λx hx=>h x (gD _ hx)
theorem Knows.tail{x:Nat×Obj}(h:Knows ro (x::Y)):Knows ro Y:=λy hy=>h y (cb _ hy)
theorem Knows.head{x:Nat×Obj}(h:Knows ro (x::Y)):ro x.1=some x.2:=h x dQ
theorem Ka{s:St}{b:Nat}{enc:α->List Value}{ps:List α}(h:s.has b (.cells ⟨(ps.map enc).flatten⟩ T fz))(hl:∀p∈ps,(enc p).length=sz){k:Nat}{x:α}(hx:ps[k]?=some x):eW s b (0+k*sz) sz (enc x):=by
 have h2:=Lh ps hl k x hx;have hm:x∈ps:=aj hx;refine⟨_,T,fz,h,?_⟩;rw[iE,oz,h2]
 grind
def eZ{b:Nat}{enc:α->List Value}(ps:List α)(h:ro b=some (.cells ⟨(ps.map enc).flatten⟩ T fz))(hl:∀p∈ps,(enc p).length=sz):dk ro (.slice (some ⟨b,0,none⟩) ps.length ps.length) sz enc ps:=
 ⟨_,b,0,_,rfl,bk _,λ_ _=>rfl,λ_ _ hx=>Ka (.inl h) hl hx⟩
section rules
variable {P:Program} {C:Class} {fn:FuncId} {bW:Option Nat} {Q:Post} {s:St} {n:Nat} {env:Env} {D:List Deferred}
variable {ops:Array Oper} {i:Nat} {rest:List Nat} {dst:Option Tmp} {ty:TypeId} {pos:String} {gf:Array Edge} {g:Option (Nat×Bool)}
variable {T:TypeId} {d:TypeDesc} {sz dP:Nat} {z:List Value} {ag:Bool}
def aPL(hC:∀main T,C main T->Closed P main T){k k':IntKind}{a b:Int}(ho:ops[i]?=some ⟨dst,.binOp .shr T x y T',ty,pos,gf,g⟩) (hw:bN ops n env g=true)
 (hx:dv n env x=some (.int k a)) (hy:dv n env y=some (.int k' b)) (hb:0<=b) (h:aR C fn bW ops rest Q (A n (upd dst (.int k (mY k a b)) env) D) s):aR C fn bW ops (i::rest) Q (A n env D) s:=by
 refine A7 hC ho hw (by simp) ?_ h;simp only[execOp,cg hx,cg hy];have he:eqGuard .shr T x y (.int k a) (.int k' b)=Sem.pure ():=rfl;have hv:binOp .shr T (.int k a) (.int k' b)=Sem.pure (.int k (mY k a b)):=by
  show Op.shift .shr k a k' b=_;simp only[Op.shift,show ¬b <0 by omega,cJ];rfl
 rw[he];simp only[Sem.bind,hv];rfl
def aPM(hC:∀main T,C main T->Closed P main T){k k':IntKind}{a b:Int}(ho:ops[i]?=some ⟨dst,.binOp .shl T x y T',ty,pos,gf,g⟩) (hw:bN ops n env g=true)
 (hx:dv n env x=some (.int k a)) (hy:dv n env y=some (.int k' b)) (hb:0<=b) (h:aR C fn bW ops rest Q (A n (upd dst (.int k (iU k a b)) env) D) s):aR C fn bW ops (i::rest) Q (A n env D) s:=by
 refine A7 hC ho hw (by simp) ?_ h;simp only[execOp,cg hx,cg hy];have he:eqGuard .shl T x y (.int k a) (.int k' b)=Sem.pure ():=rfl;have hv:binOp .shl T (.int k a) (.int k' b)=Sem.pure (.int k (iU k a b)):=by
  show Op.shift .shl k a k' b=_;simp only[Op.shift,show ¬b <0 by omega,cJ];rfl
 rw[he];simp only[Sem.bind,hv];rfl
end rules
def dg{s:St}{b cap:Nat}{enc:α->List Value}(ps:List α)(h:s.has b (.cells ⟨(ps.map enc).flatten⟩ T fz))(hl:∀p∈ps,(enc p).length=sz):Sl s (.slice (some ⟨b,0,none⟩) ps.length cap) sz enc ps:=
 ⟨_,b,0,cap,rfl,λ_ _=>rfl,λ_ _ hx=>Ka h hl hx⟩
def bC{b:Nat}{enc:α->List Value}:bI (.slice (some ⟨b,0,none⟩) 0 0) sz T enc ([]:List α) [(b,.cells ⟨[]⟩ T (0,0))]:=
 .inr ⟨b,[],0,rfl,rfl,by simp,by simp,by simp,by simp⟩
theorem bI.form{v:Value}{enc:α->List Value}{ps:List α}{L:Cells}(h:bI v sz T enc ps L):∃a c,v= .slice a ps.length c:=by
 rcases h with ⟨h1,h2,_⟩| ⟨b,l,cap,h1,_⟩
 all_goals grind
def Ta(v:Value)(b:Nat):Prop:=∃n c,v= .slice (some ⟨b,0,none⟩) n c
theorem kN{s:St}{v:Value}{enc:α->List Value}{ps:List α}{L:Cells}(h:bI v sz T enc ps L){b:Nat}(hb:Ta v b)(hs:∀x∈L,s.has x.1 x.2){k:Nat}{x:α}(hx:ps[k]?=some x):eW s b (k*sz) sz (enc x):=by
 obtain⟨a,b',o,c,h1,h2,h3⟩:=h.sl hs;have hk:=(aA.1 hx).1;obtain⟨n,c',h5⟩:=hb
 grind
theorem aPE{v:Value}{enc:α->List Value}{ps:List α}{L:Cells}(h:bI v sz T enc ps L){k:Nat}(hk:k <ps.length):∃b,Ta v b:=by
 rcases h with ⟨_,h2,_⟩| ⟨b,l,cap,h1,_⟩
 .grind
 exact⟨b,_,_,h1⟩
def abD{enc:α->List Value}:∀(ps:List α),(∀p∈ps,(enc p).length=sz)->∀(k:Nat) (x:α),(enc x).length=sz->k <ps.length->∀l:List Value,l.take (ps.length*sz)=(ps.map enc).flatten->(gZ l (k*sz) (enc x)).take (ps.length*sz)=((ps.set k x).map enc).flatten:=by
 intro ps hps k x hx hk l hl;have hle:ps.length*sz<=l.length:=by
  have h1:=rA ps hps;rw[<-hl,cH] at h1;omega
 have hks:k*sz+sz<=ps.length*sz:=by
  have:(k+1)*sz<=ps.length*sz:=mh _ (by omega);rw[acz] at this;exact this
 have hA:((ps.take k).map enc).flatten.length=k*sz:=by
  rw[rA _ (λp hp=>hps p (List.mem_of_mem_take hp)),cH,Nat.min_eq_left (by omega)]
 have hC:((ps.drop (k+1)).map enc).flatten.length=(ps.length-(k+1))*sz:=by
  rw[rA _ (λp hp=>hps p (Cy hp)),rD]
 have hB:=hps ps[k] (AF hk);have aG1:(ps.map enc).flatten=((ps.take k).map enc).flatten++(enc ps[k]++((ps.drop (k+1)).map enc).flatten):=by
  have h3:ps=ps.take k++ps[k]::ps.drop (k+1):=by rw[<-gN hk,fH]
  have h4:=qz (λq:List α=>(q.map enc).flatten) h3;simp only[cw,bR,YD,List.flatten_cons] at h4;exact h4
 have ID:l=((ps.take k).map enc).flatten++(enc ps[k]++(((ps.drop (k+1)).map enc).flatten++l.drop (ps.length*sz))):=by
  have h3:=(fH (ps.length*sz) l).symm;rw[hl,aG1] at h3;simp only[bx] at h3;exact h3
 have wI:((ps.set k x).map enc).flatten=((ps.take k).map enc).flatten++(enc x++((ps.drop (k+1)).map enc).flatten):=by
  rw[List.set_eq_take_append_cons_drop,dN hk];simp only[cw,bR,YD,List.flatten_cons]
 have aHh:gZ l (k*sz) (enc x)=((ps.take k).map enc).flatten++(enc x++(((ps.drop (k+1)).map enc).flatten++l.drop (ps.length*sz))):=by
  rw[BL _ _ _ (by omega),hx,bx];congr 1
  .conv=>lhs;rw[ID]
   rw[<-hA,List.take_left]
  congr 1
  conv=>lhs;rw[ID]
  rw[<-bx,<-bx,bx _ _ (List.drop _ _)];rw[show k*sz+sz=(((ps.take k).map enc).flatten++enc ps[k]).length by rw[aL,hA,hB],List.drop_left]
 rw[aHh,wI,<-bx,<-bx];have hlen:(((ps.take k).map enc).flatten++enc x++((ps.drop (k+1)).map enc).flatten).length=ps.length*sz:=by
  rw[aL,aL,hA,hx,hC];have:ps.length*sz=(k+1+(ps.length-(k+1)))*sz:=by congr 1;omega
  rw[this,HP,acz]
 rw[<-hlen,List.take_left,bx]
section rules
variable {P:Program} {C:Class} {fn:FuncId} {bW:Option Nat} {Q:Post} {s:St} {n:Nat} {env:Env} {D:List Deferred}
variable {ops:Array Oper} {i:Nat} {rest:List Nat} {dst:Option Tmp} {ty:TypeId} {pos:String} {gf:Array Edge} {g:Option (Nat×Bool)}
variable {T:TypeId} {d:TypeDesc} {sz dP:Nat} {z:List Value} {ag:Bool}
def Z5(hC:∀main T,C main T->Closed P main T){w:Operand}{k':IntKind}{hi:Int}(ho:ops[i]?=some ⟨dst,.slice T x none (some w) none,ty,pos,gf,g⟩) (hw:bN ops n env g=true) (tf:TF P T .string sz dP z ag)
 (hx:dv n env x=some (.string b)) (hz:dv n env w=some (.int k' hi)) (hl:0<=hi/\hi<=b.size) (h:aR C fn bW ops rest Q (A n (upd dst (.string (b.extract 0 hi.toNat)) env) D) s):aR C fn bW ops (i::rest) Q (A n env D) s:=by
 refine eF hC ho hw (by simp) ?_;simp only[execOp,dD,lQ,Instr.sliceAt,Instr.slice,cg hx,cg hz,aI,db tf,Instr.sliceBounds,Instr.sliceBound,asIntOf,aQ,Option.isSome_none,aW,cJ,hl,dF];rw[<-dH] at h;exact h
def Z3(hC:∀main T,C main T->Closed P main T){k:IntKind}{lo:Int}(ho:ops[i]?=some ⟨dst,.slice T x (some y) none none,ty,pos,gf,g⟩) (hw:bN ops n env g=true) (tf:TF P T .string sz dP z ag)
 (hx:dv n env x=some (.string b)) (hy:dv n env y=some (.int k lo)) (hl:0<=lo/\lo<=b.size) (h:aR C fn bW ops rest Q (A n (upd dst (.string (b.extract lo.toNat b.size)) env) D) s):aR C fn bW ops (i::rest) Q (A n env D) s:=by
 refine eF hC ho hw (by simp) ?_;simp only[execOp,dD,lQ,Instr.sliceAt,Instr.slice,cg hx,cg hy,aI,db tf,Instr.sliceBounds,Instr.sliceBound,asIntOf,aQ,Option.isSome_none,aW,cJ,hl,Tb,dF];rw[<-dH] at h;exact h
theorem dk.part{a:Option Addr}{len cap:Nat}{enc:α->List Value}{ps:List α}(hs:dk ro (.slice a len cap) sz enc ps){l h:Nat}(hl:l<=h)(hh:h<=ps.length):dk ro (.slice (if cap=l then a else a.map (·.add (l*sz))) (h-l) (cap-l)) sz enc ((ps.take h).drop l):=by
 obtain⟨a',b,o,aVC,h1,h2,h3,h4⟩:=hs;cases h1;have hlen:((ps.take h).drop l).length=h-l:=by rw[rD,cH];omega
 refine⟨_,b,o+l*sz,_,by rw[hlen],by omega,λk hk=>?_,λi p hp=>?_⟩
 .have:=h3 0 (by omega);subst this;rw[cy (by omega)];simp[ir]
 grind
theorem aoP(hC:∀main T,C main T->Closed P main T){v:Value}{enc:α->List Value}{ps:List α}{L:Cells}(ho:ops[i]?=some ⟨dst,.call ⟨.builtin .len,#[x],#[T]⟩,ty,pos,gf,g⟩) (hw:bN ops n env g=true)
 (tf:TF P T (.slice E) sz dP z ag) (hx:dv n env x=some v) (kS:bI v szo T2 enc ps L) (h:aR C fn bW ops rest Q (A n (upd dst (.int .i64 ps.length) env) D) s):aR C fn bW ops (i::rest) Q (A n env D) s:=by
 obtain⟨a,c,rfl⟩:=kS.form
 grind [aPR]
end rules
def gM{bU:Nat->Option Obj}{K J:Cells}(hp:rw'.Perm (K++J))(h:Sub ro bU):(⟨ro,K⟩:St).le ⟨bU,rw'⟩:=⟨J,hp,λb o hb=> .inl (h b o hb)⟩
theorem aG(h:l.all single=true):∀v∈l,single v=true:=by grind
section any
variable {P:Program} {C:Class} {fn:FuncId} {bW:Option Nat} {Q:Post} {s:St} {n:Nat} {D:List Deferred} {ops:Array Oper} {base:Env}
def aCS(C:Class)(fn:FuncId)(bW:Option Nat)(ops:Array Oper)(n:Nat)(D:List Deferred)(base:Env)(Pl Sl:List (Nat×Value))(Q:Post)(s:St)(i:Nat):Prop:=
 ∀rest todo,(∀v s',(∀j w,(j,w)∈pending ops i Sl->ky C fn bW ops n D j w (fg ops base j Pl) s->ky C fn bW ops n D j w (fg ops base j Pl) s')->
  Bw C fn bW ops n D base ((i,v)::Pl) (pending ops i Sl) Q s'->aR C fn bW ops todo Q (A n (upd (di ops i) v (fg ops base i Pl++rest)) D) s')->
  aR C fn bW ops (i::todo) Q (A n (fg ops base i Pl++rest) D) s
def FC(C:Class)(fn:FuncId)(bW:Option Nat)(ops:Array Oper)(n:Nat)(D:List Deferred)(base:Env)(Pl Sl:List (Nat×Value))(Q:Post)(s:St):List Nat->Prop
 | []=>True
 |i::is=>aCS C fn bW ops n D base Pl Sl Q s i/\FC C fn bW ops n D base Pl Sl Q s is
theorem FC.mem{Pl Sl:List (Nat×Value)}:∀ {is:List Nat},FC C fn bW ops n D base Pl Sl Q s is->∀i∈is,aCS C fn bW ops n D base Pl Sl Q s i
 | [],_,i,hi=>by grind
 |k::is,h,i,hi=>by
  rcases aN.1 hi with rfl|hi
  .exact h.1
  exact FC.mem h.2 i hi
def aoI(ops:Array Oper)(ks:List Nat)(is:List Nat):Bool:=
 (List.range ops.size).all λj=>dI j ks||dI j is||(dM ops j).any λk=> !dI k ks
def ak8{Pl Sl:List (Nat×Value)}(is:List Nat)(sW:kI ops=true)(his:(is.all λi=>Nat.blt i ops.size&& !dI i (bu Pl))=true)(kT:nodupB (bu Pl)=true)(mA:wF ops (bu Pl)=true)(hs:kK (bu Sl) (bu Pl)=true)(ho:aoI ops (bu Pl) is=true)
 (h:FC C fn bW ops n D base Pl Sl Q s is)(eA:is.isEmpty=false):Bw C fn bW ops n D base Pl Sl Q s:=by
 have yU:∀i∈is,i∉bu Pl:=λi hi hm=>by
  have:=(cM.1 his) i hi;rw[cF.2 hm] at this;simp at this
 have MN:∀i∈is,i <ops.size:=λi hi=>by
  have:=(cM.1 his) i hi;simp only[av,agl] at this;exact this.1
 have Qf:∀(l:List (Nat×Value)),nodupB (bu l)=true->∀j v w,(j,v)∈l->(j,w)∈l->w=v:=by
  intro l
  induction l with
  |nil=>intro _ j v w h;cases h
  |cons x l ih=>
   rcases x with ⟨k,u⟩
   intro hb j v w h1 h2;simp only[bu,nodupB,av,az] at hb;have hk:k∉bu l:=λhm=>by rw[cF.2 hm] at hb;cases hb.1
   rcases aN.1 h1 with h1|h1<;>rcases aN.1 h2 with h2|h2
   .cases h1;cases h2;rfl
   .cases h1;exact absurd (cT.2 ⟨_,h2⟩) hk
   .cases h2;exact absurd (cT.2 ⟨_,h1⟩) hk
   exact ih hb.2 j v w h1 h2
 intro hSl X l
 induction l generalizing X with
 |nil=>
  intro env hX hl wJ hf;cases is with
  |nil=>cases eA
  |cons i is=>exact absurd (hX i (wJ i (MN i dQ))) (yU i dQ)
 |cons j l ih=>
  intro env hX hl wJ hf;obtain⟨h1,h2,h3,h4⟩:=wJ;by_cases hj:j∈bu Pl
  ·
   obtain⟨w,hw⟩:=cT.1 hj;obtain⟨rest,hr⟩:=Eo (n:=n) (D:=D) hf j h3 h2;rw[hr];refine hSl j w (hl j w hw h2) s (Ext.refl s) rest l Q ?_;rw[<-Mn hr];refine ih (j::X) _ (λk hk=>?_) (λk u hk JC=>hl k u hk (λh=>JC (cb _ h))) h4 (Bh sW hf h1 h2 h3 (λu hu=>Qf Pl kT j w u hw hu));rcases aN.1 hk with rfl|hk
   .exact hj
   exact hX k hk
  by_cases HK:j∈is
  .have h:=FC.mem h j HK;have yU:=yU j HK;obtain⟨rest,hr⟩:=Eo (n:=n) (D:=D) hf j h3 h2;rw[hr];refine h rest l λv s' hp ha=>?_;rw[<-Mn hr];have SY:∀k,k∈bu Pl->j∉dM ops k:=by
    intro k hk hm;have:=(cM.1 mA) k hk;exact yU (eQ.1 this j hm)
   have hps:∀k u,(k,u)∈pending ops j Sl->(k,u)∈Sl:=λk u hk=>(cQ.1 hk).1;refine ha (λk u hk=>?_) (j::X) l _ (λk hk=>?_) (λk u hk JC=>?_) h4 ?_
   .rw[gI (SY k (eQ.1 hs k (cT.2 ⟨u,hps k u hk⟩)))];exact hp k u hk (hSl k u (hps k u hk))
   .rcases aN.1 hk with rfl|hk
    .simp[bu]
    exact cb _ (hX k hk)
   .rcases aN.1 hk with hk|hk
    .cases hk;exact absurd (by simp) JC
    have Wy:k∉X:=λh=>JC (cb _ h);refine cQ.2 ⟨hl k u hk Wy,?_⟩;cases hm:dI k (dM ops j) with
    |false=>rfl
    |true=>exact absurd (h3 k (cF.1 hm)) Wy
   refine Bh sW (Li hf h2) h1 h2 h3 λu hu=>?_;rcases aN.1 hu with hu|hu
   .cases hu;rfl
   exact absurd (cT.2 ⟨_,hu⟩) yU
  exfalso;have:=(cM.1 ho) j (dZ.2 h1);have e1:dI j (bu Pl)=false:=by
   cases hm:dI j (bu Pl) with
   |false=>rfl
   |true=>exact absurd (cF.1 hm) hj
  have e2:dI j is=false:=by
   cases hm:dI j is with
   |false=>rfl
   |true=>exact absurd (cF.1 hm) HK
  rw[e1,e2] at this;simp only[Bool.false_or,List.any_eq_true,az] at this;obtain⟨k,hk,ep⟩:=this;have:=hX k (h3 k hk);rw[cF.2 this] at ep;cases ep
end any
section rules
variable {P:Program} {C:Class} {fn:FuncId} {bW:Option Nat} {Q:Post} {s:St} {n:Nat} {env:Env} {D:List Deferred}
variable {ops:Array Oper} {i:Nat} {rest:List Nat} {dst:Option Tmp} {ty:TypeId} {pos:String} {gf:Array Edge} {g:Option (Nat×Bool)}
variable {T:TypeId} {d:TypeDesc} {sz dP:Nat} {z:List Value} {ag:Bool} {ro:Nat->Option Obj}
theorem DR{a:Act}(hC:∀main T,C main T->Closed P main T)(hp:rw'.Perm rw)(h:aR C fn bW ops todo Q a ⟨ro,rw⟩):aR C fn bW ops todo Q a ⟨ro,rw'⟩:=
 aR.more (s:=⟨ro,rw⟩) hC ⟨[],by grind,λb o hb=> .inl hb⟩ h
def oap(hC:∀main T,C main T->Closed P main T){v w:Value}{enc:α->List Value}{ps qs:List α}{L R:List (Nat×Obj)}{d':TypeDesc}{E2:TypeId}{nF Dc sz2 Db:Nat}{z' z2:List Value}{EM ag2:Bool}{U:TypeId}
 (ho:ops[i]?=some ⟨dst,.call ⟨.builtin .append,#[x,y],#[T,U]⟩,ty,pos,gf,g⟩) (hw:bN ops n env g=true) (tf:TF P T (.slice E) sz dP z ag) (tfU:TF P U (.slice E2) sz2 Db z2 ag2) (og:TF P E d' nF Dc z' EM) (hz:z'.length=nF)
 (hx:dv n env x=some v) (hy:dv n env y=some w) (kS:bI v nF E enc ps L) (Bx:Sl ⟨ro,L++R⟩ w nF enc qs) (hq:∀p∈qs,∀c∈enc p,single c=true) (hb:DW (ps.length+qs.length) Dc)
 (h:∀v' L',bI v' nF E enc (ps++qs) L'->aR C fn bW ops rest Q (A n (upd dst v' env) D) ⟨ro,L'++R⟩):aR C fn bW ops (i::rest) Q (A n env D) ⟨ro,L++R⟩:=
 aac hC ho hw tf tfU og hz hx hy kS Bx (pre:=[]) rfl hq hb h
def ost(hC:∀main T,C main T->Closed P main T){b o:Nat}{v:Value}{R:List (Nat×Obj)}{c:List Value}{e:TypeId}(ho:ops[i]?=some ⟨dst,.store T x y,ty,pos,gf,g⟩) (hw:bN ops n env g=true) (tf:TF P T d sz dP z ag)
 (hx:dv n env x=some (.pointer (some ⟨b,o,none⟩))) (hy:dv n env y=some (v)) (hl:v.cells=⟨l⟩) (hn:l.length=sz) (h1:∀v∈l,single v=true) (hb:o+l.length<=c.length)
 (h:aR C fn bW ops rest Q (A n (upd dst undef env) D) ⟨ro,(b,.cells ⟨gZ c o l⟩ e (0,0))::R⟩):aR C fn bW ops (i::rest) Q (A n env D) ⟨ro,(b,.cells ⟨c⟩ e (0,0))::R⟩:=
 Oc hC ho hw tf hx hy hl hn h1 (L:=[]) rfl hb h
end rules
section rules
variable {P:Program} {C:Class} {fn:FuncId} {bW:Option Nat} {Q:Post} {s:St} {n:Nat} {env:Env} {D:List Deferred}
variable {ops:Array Oper} {i:Nat} {rest:List Nat} {dst:Option Tmp} {ty:TypeId} {pos:String} {gf:Array Edge} {g:Option (Nat×Bool)}
def aFy(hC:∀main T,C main T->Closed P main T){U:TypeId}{k:IntKind}{a b:Int}(ho:ops[i]?=some ⟨dst,.call ⟨.builtin .min,#[x,y],#[T,U]⟩,ty,pos,gf,g⟩) (hw:bN ops n env g=true)
 (hx:dv n env x=some (.int k a)) (hy:dv n env y=some (.int k b)) (h:aR C fn bW ops rest Q (A n (upd dst (.int k (min a b)) env) D) s):aR C fn bW ops (i::rest) Q (A n env D) s:=by
 refine eF hC ho hw (by simp) ?_;have e:(if b <a then b else a)=min a b:=by omega
 simp only[execOp,resolve,invoke,builtin,Builtin.min_,oT,bR,lR,cg hx,cg hy,List.foldlM_cons,Builtin.min2,aI,aQ,e];rw[<-dH] at h;exact h
def aFz(hC:∀main T,C main T->Closed P main T){U:TypeId}{k:IntKind}{a b:Int}(ho:ops[i]?=some ⟨dst,.call ⟨.builtin .max,#[x,y],#[T,U]⟩,ty,pos,gf,g⟩) (hw:bN ops n env g=true)
 (hx:dv n env x=some (.int k a)) (hy:dv n env y=some (.int k b)) (h:aR C fn bW ops rest Q (A n (upd dst (.int k (max a b)) env) D) s):aR C fn bW ops (i::rest) Q (A n env D) s:=by
 refine eF hC ho hw (by simp) ?_;have e:(if a <b then b else a)=max a b:=by omega
 simp only[execOp,resolve,invoke,builtin,Builtin.max_,oT,bR,cg hx,cg hy,List.foldlM_cons,Builtin.max2,aI,aQ,e];rw[<-dH] at h;exact h
end rules
def jQ(a b:ByteArray):Bool:=a.toList==b.toList
def strLt(a b:ByteArray):Bool:=Op.bytesLess a.toList b.toList
section rules
variable {P:Program} {C:Class} {fn:FuncId} {bW:Option Nat} {Q:Post} {s:St} {n:Nat} {env:Env} {D:List Deferred}
variable {ops:Array Oper} {i:Nat} {rest:List Nat} {dst:Option Tmp} {ty:TypeId} {pos:String} {gf:Array Edge} {g:Option (Nat×Bool)}
def aFv(hC:∀main T,C main T->Closed P main T){a:ByteArray}(ho:ops[i]?=some ⟨dst,.binOp .add T x y T',ty,pos,gf,g⟩) (hw:bN ops n env g=true)
 (hx:dv n env x=some (.string a)) (hy:dv n env y=some (.string b)) (hb:(a.size:Int)+b.size<=9223372036854775807) (h:aR C fn bW ops rest Q (A n (upd dst (.string (a++b)) env) D) s):aR C fn bW ops (i::rest) Q (A n env D) s:=
 Ik hC ho hw hx hy (by
  simp only[Op.stringOp];rw[cy]
  .rfl
  simp_all) rfl h
end rules
theorem aKw(b:ByteArray)(i:Nat)(h:i <b.size):b.get! i=b.data.toList[i]'(by simpa using h):=by
 show b.data[i]! =_
 grind
theorem aiz(b:ByteArray):∀(n i:Nat) (r:List UInt8),b.size-i=n->ByteArray.toList.loop b i r=r.reverse++b.data.toList.drop i
 |0,i,r,h=>by
  unfold ByteArray.toList.loop;rw[cy (by omega),Mi]
  .simp
  show b.data.toList.length<=i;rw[YF];have:b.data.size=b.size:=rfl;omega
 |n+1,i,r,h=>by
  unfold ByteArray.toList.loop;have hi:i <b.size:=by omega
  rw[dN hi,aiz b n (i+1) _ (by omega),aKw b i hi];have hl:i <b.data.toList.length:=by rw[YF];exact hi
  rw[gN hl];simp
theorem Fz(b:ByteArray):b.toList=b.data.toList:=by
 show ByteArray.toList.loop b 0 []=_;rw[aiz b _ 0 [] rfl];simp
theorem EX{a:ByteArray}:jQ a b=true↔a=b:=by
 unfold jQ;rw[Fz,Fz];simp only[beq_iff_eq];constructor
 .intro h;have:=Array.toList_inj.1 h;cases a;simp_all
 rintro rfl;rfl
def FnG(P:Program)(f:FuncId)(args:List Value)(ro:Nat->Option Obj)(own:Cells)(Φ:Value->(Nat->Option Obj)->Cells->Prop):Prop:=
 Fn (CP P) P f ⟨args⟩ ⟨ro,own⟩ (λen s'=>∃v bU X,en= .returned v/\s'=⟨bU,X⟩/\Sub ro bU/\Φ v bU X)
theorem FnG.use{P:Program}{s:St}{own:Cells}{Φ:Value->(Nat->Option Obj)->Cells->Prop}(hp:s.rw.Perm (own++fr))(hf:FnG P f vs s.ro own Φ):
 Fn (CP P) P f ⟨vs⟩ s (λen s'=>∃v bU X,en= .returned v/\Sub s.ro bU/\Φ v bU X/\(⟨bU,X++fr⟩:St).le s'):=by
 refine Fn.mono (Fn.frame (fr:=fr) (B:=[]) (s:=s) hf (λ_ h=>(by cases h)) ⟨hp,λb o hb=> .inl hb,Sub.refl _⟩) λen s' vK=>?_;obtain⟨GJ,⟨v,bU,X,rfl,rfl,hs,uK⟩,hc⟩:=vK;refine⟨v,bU,X,rfl,hs,uK,[],by simpa using hc.rw,λb o hb=>?_⟩;rcases hc.cK b o hb with h|h
 all_goals grind
theorem Py:∀(A l:List Value) (o:Nat) (c:List Value),gZ (A++l) (A.length+o) c=A++gZ l o c
 | [],l,o,c=>by simp
 |a::A,l,o,[]=>by simp[tb]
 |a::A,l,o,v::c=>by
  have:=Py A l o (v::c);rw[show (a::A).length+o=A.length+o+1 by grind]
  grind [gZ]
theorem Tz{m B:List Value}{o:Nat}{c:List Value}(h:o+c.length<=m.length):gZ (m++B) o c=gZ m o c++B:=by
 grind [BL,aL,bx]
theorem ajt{m c:List Value}(h:c.length=m.length):gZ m 0 c=c:=by
 grind [BL]
def afw{enc:α->List Value}{ps:List α}(hps:∀p∈ps,(enc p).length=sz){k:Nat}{x:α}(hx:ps[k]?=some x) (hl:l.take (ps.length*sz)=(ps.map enc).flatten):∃A B,A.length=k*sz/\l=A++(enc x++B):=by
 obtain⟨hk,rfl⟩:=aA.1 hx;refine⟨((ps.take k).map enc).flatten,((ps.drop (k+1)).map enc).flatten++l.drop (ps.length*sz),?_,?_⟩
 .rw[rA _ (λp hp=>hps p (List.mem_of_mem_take hp)),cH,Nat.min_eq_left (by omega)]
 have h3:ps=ps.take k++ps[k]::ps.drop (k+1):=by rw[<-gN hk,fH]
 have h4:=qz (λq:List α=>(q.map enc).flatten) h3;simp only[cw,bR,YD,List.flatten_cons] at h4;have h5:=(fH (ps.length*sz) l).symm;rw[hl,h4] at h5;simpa only[bx] using h5
theorem aju{enc:α->List Value}{ps:List α}(hps:∀p∈ps,(enc p).length=sz){k:Nat}{x:α}(hx:ps[k]?=some x) (hl:l.take (ps.length*sz)=(ps.map enc).flatten) {o:Nat} {c:List Value} (h:o+c.length<=sz):
 gZ l (k*sz+o) c=gZ l (k*sz) (gZ (enc x) o c):=by
 have hxl:=hps x (aj hx);obtain⟨A,B,h1,rfl⟩:=afw hps hx hl;have e0:∀q,gZ (A++(enc x++B)) A.length q=A++gZ (enc x++B) 0 q:=λq=>Py A _ 0 q;rw[<-h1,Py,e0,Tz (by omega),Tz (by rw[ri];omega),ajt (ri _ _ _)]
section rules
variable {P:Program} {C:Class} {fn:FuncId} {bW:Option Nat} {Q:Post} {ro:Nat->Option Obj} {n:Nat} {env:Env} {D:List Deferred}
variable {ops:Array Oper} {i:Nat} {rest:List Nat} {dst:Option Tmp} {ty:TypeId} {pos:String} {gf:Array Edge} {g:Option (Nat×Bool)}
variable {T:TypeId} {d:TypeDesc} {tsz dP:Nat} {z:List Value} {ag:Bool}
def aPH(hC:∀main T,C main T->Closed P main T){b k o:Nat}{v w:Value}{a e:α}{c:List Value}{enc:α->List Value}{ps:List α}{L:Cells}(ho:ops[i]?=some ⟨dst,.store T x y,ty,pos,gf,g⟩) (hw:bN ops n env g=true) (tf:TF P T d tsz dP z ag)
 (hx:dv n env x=some (.pointer (some ⟨b,k*sz+o,none⟩))) (hy:dv n env y=some w) (hl:w.cells=⟨c⟩) (hn:c.length=tsz) (h1:∀v∈c,single v=true) (kS:bI v sz E enc ps L) (hb:Ta v b) (hk:ps[k]?=some a) (he:enc e=gZ (enc a) o c) (hf:o+c.length<=sz)
 (h:∀L',bI v sz E enc (ps.set k e) L'->aR C fn bW ops rest Q (A n (upd dst undef env) D) ⟨ro,L'++R⟩):aR C fn bW ops (i::rest) Q (A n env D) ⟨ro,L++R⟩:=by
 have hk1:k <ps.length:=(aA.1 hk).1;rcases kS with ⟨_,h2,_⟩| ⟨b',l,cap,g1,g2,g3,g4,g5,g6⟩
 .subst h2;simp at hk
 obtain⟨n',c',mB⟩:=hb;rw[g1] at mB;cases mB;subst g2;have hea:(enc a).length=sz:=g5 a (aj hk);have vK:(enc e).length=sz:=by rw[he,ri,hea]
 have hks:k*sz+sz<=ps.length*sz:=by
  have:(k+1)*sz<=ps.length*sz:=mh _ (by omega);rw[acz] at this;exact this
 have iK:ps.length*sz<=cap*sz:=mh _ g4;refine Oc (L:=[]) (R:=R) hC ho hw tf hx hy hl hn h1 rfl (by omega)<|h [(b,.cells ⟨gZ l (k*sz+o) c⟩ E (0,0))] (.inr ⟨b,_,cap,by rw[g1,aM],rfl,by rw[ri,g3],by rw[aM];exact g4,λp hp=>?_,?_⟩)
 .rcases List.mem_or_eq_of_mem_set hp with h5|h5
  .exact g5 p h5
  subst h5;exact vK
 rw[aM,aju g5 hk g6 hf,<-he];exact abD ps g5 k e vK hk1 l g6
end rules
section rules
variable {P:Program} {C:Class} {fn:FuncId} {bW:Option Nat} {Q:Post} {s:St} {n:Nat} {env:Env} {D:List Deferred}
variable {ops:Array Oper} {i:Nat} {rest:List Nat} {dst:Option Tmp} {ty:TypeId} {pos:String} {gf:Array Edge} {g:Option (Nat×Bool)}
structure EF(P:Program)(f:FuncId)(e:Array Value->Sem Value):Prop where
 ef:∃fn,P.funcs[f]?=some fn/\(fn.name== "runtime.NumGoroutine")=false/\fn.body.isNone=true/\(Extern.findNext fn).isNone=true/\Extern.find fn=some e
def aoS(hC:∀main T,C main T->Closed P main T){e:Array Value->Sem Value}(ho:ops[i]?=some ⟨dst,.call ⟨.value (.func f),xs,at_⟩,ty,pos,gf,g⟩) (hw:bN ops n env g=true)
 (ef:EF P f e) (hx:Aw n env xs=some vs) (h:eN P (e ⟨vs⟩) s (λv s'=>aR C fn bW ops rest Q (A n (upd dst v env) D) s') (λ_ _=>False)):aR C fn bW ops (i::rest) Q (A n env D) s:=by
 obtain⟨fn',h1,h2,h3,h4,h5⟩:=ef.ef;have h4':Extern.findNext fn'=none:=by
  cases hh:Extern.findNext fn' with
  |none=>rfl
  |some x=>rw[hh] at h4;cases h4
 refine eF hC ho hw (by simp) ?_;simp only[execOp,resolve,ev,Deferred.ofValue,aQ,yy hx];simp only[invoke,bV,dA,callFunc,jJ,h1,h2,h3,h4',h5,dF,aW,cJ];refine⟨rfl,?_⟩;refine YW (e ⟨vs⟩) (λv=>(pure (Next.value v):Sem Next)) _ _ _<|Dw _ _ _ _ _ _ (λv s' hv=>?_) (λ_ _ (hf:False)=>hf.elim) h;rw[<-dH] at hv;exact hv
end rules
def ixb(a:ByteArray)(b:UInt8):Int:=
 match (List.range a.size).find? λi=>a[i]! ==b with
 |some i=>i
 |none=> -1
section rules
variable {P:Program} {C:Class} {fn:FuncId} {bW:Option Nat} {Q:Post} {s:St} {n:Nat} {env:Env} {D:List Deferred}
variable {ops:Array Oper} {i:Nat} {rest:List Nat} {dst:Option Tmp} {ty:TypeId} {pos:String} {gf:Array Edge} {g:Option (Nat×Bool)}
def aoQ(hC:∀main T,C main T->Closed P main T){a:ByteArray}{b:Int}(ho:ops[i]?=some ⟨dst,.call ⟨.value (.func f),xs,at_⟩,ty,pos,gf,g⟩) (hw:bN ops n env g=true)
 (ef:EF P f Extern.BytealgIndexByte.indexByte) (hx:Aw n env xs=some [.string a,.int .u8 b]) (h:aR C fn bW ops rest Q (A n (upd dst (.int .i64 (ixb a b.toNat.toUInt8)) env) D) s):aR C fn bW ops (i::rest) Q (A n env D) s:=by
 refine aoS hC ho hw ef hx ?_;unfold ixb at h;show eN P (match (List.range a.size).find? λi=>a[i]! ==b.toNat.toUInt8 with|some i=>pure (goInt i)|none=>pure (goInt (-1))) s _ _;split
 .rename_i j hj;rw[hj] at h;exact h
 rename_i hj;rw[hj] at h;exact h
def awq(hC:∀main T,C main T->Closed P main T){v:Value}(ho:ops[i]?=some ⟨dst,.call ⟨.value (.func f),xs,at_⟩,ty,pos,gf,g⟩) (hw:bN ops n env g=true)
 (ef:EF P f Extern.AbiNoEscape.same) (hx:Aw n env xs=some [v]) (h:aR C fn bW ops rest Q (A n (upd dst v env) D) s):aR C fn bW ops (i::rest) Q (A n env D) s:=
 aoS hC ho hw ef hx h
end rules
def akM{c:UInt8}(h:b.data.toList[p]?=some c) (ha:c.toNat <128):p <b.size/\Utf8.decode b p=(c.toNat,1):=by
 rw[Array.getElem?_toList] at h;obtain⟨h1,h2⟩:=Array.getElem?_eq_some_iff.1 h;refine⟨h1,?_⟩;have h3:b.get! (p+0)=c:=by
  show b.data[p+0]! =c;rw[ug,getElem!_pos b.data p h1,h2]
 simp only[Utf8.decode,h3];rw[dN (by omega)]
section rules
variable {P:Program} {C:Class} {fn:FuncId} {bW:Option Nat} {Q:Post} {ro:Nat->Option Obj} {n:Nat} {env:Env} {D:List Deferred}
variable {ops:Array Oper} {i:Nat} {rest:List Nat} {dst:Option Tmp} {ty:TypeId} {pos:String} {gf:Array Edge} {g:Option (Nat×Bool)}
theorem aws(hC:∀main T,C main T->Closed P main T){c:UInt8}(ho:ops[i]?=some ⟨dst,.next x true,ty,pos,gf,g⟩) (hw:bN ops n env g=true) (hx:dv n env x=some (.pointer (some ⟨r,0,none⟩))) (hp:b.data.toList[p]?=some c) (ha:c.toNat <128)
 (h:aR C fn bW ops rest Q (A n (upd dst (.tuple ⟨[.bool true,.int .i64 p,.int .i32 c.toNat]⟩) env) D) ⟨ro,(r,.stringIter b (p+1))::R⟩):aR C fn bW ops (i::rest) Q (A n env D) ⟨ro,(r,.stringIter b p)::R⟩:=by
 obtain⟨h1,h2⟩:=akM hp ha;refine ajD hC ho hw hx (L:=[]) rfl h1 ?_
 grind
def awr(hC:∀main T,C main T->Closed P main T)(ho:ops[i]?=some ⟨dst,.next x true,ty,pos,gf,g⟩) (hw:bN ops n env g=true) (hx:dv n env x=some (.pointer (some ⟨r,0,none⟩))) (hp:b.data.toList[p]?=none)
 (h:aR C fn bW ops rest Q (A n (upd dst (.tuple ⟨[.bool false]⟩) env) D) ⟨ro,(r,.stringIter b p)::R⟩):aR C fn bW ops (i::rest) Q (A n env D) ⟨ro,(r,.stringIter b p)::R⟩:=by
 refine ajE hC ho hw hx (L:=[]) rfl ?_ h;simp_all
end rules
def OP(ops:Array Oper)(n:Nat)(env:Env)(D:List Deferred)(o:Oper)(j:Nat)(want:Bool)(d:Tmp)(hg:o.guard=some (j,want))(hd:(ops[j]?).bind (·.dst)=some d)
 (hv:dv n env (.tmp d)=some undef):Region.wanted o (yielded ops (A n env D).tmps)=false:=by
 unfold Region.wanted;rw[hg];simp only[dv] at hv;by_cases ei:d <n
 .rw[show Nat.blt d n=true from by simpa [agl] using ei] at hv;simp only[yielded,hd,oR,Yc];rw[dN ei,tz hv];rfl
 rw[show Nat.blt d n=false from by simpa [agl,<-Bool.not_eq_true] using ei] at hv;cases hv
section rules
variable {P:Program} {C:Class} {fn:FuncId} {bW:Option Nat} {Q:Post} {s:St} {n:Nat} {env:Env} {D:List Deferred}
variable {ops:Array Oper} {i:Nat} {rest:List Nat} {dst:Option Tmp} {ty:TypeId} {pos:String} {gf:Array Edge} {g:Option (Nat×Bool)}
theorem awp(hC:∀main T,C main T->Closed P main T){op:Op}{j:Nat}{want:Bool}{d:Tmp}(ho:ops[i]?=some ⟨dst,op,ty,pos,gf,some (j,want)⟩) (hd:(ops[j]?).bind (·.dst)=some d)
 (hv:dv n env (.tmp d)=some undef) (h:aR C fn bW ops rest Q (A n (upd dst undef env) D) s):aR C fn bW ops (i::rest) Q (A n env D) s:=by
 refine BQ hC ho (OP _ _ _ _ _ _ _ _ rfl hd hv) ?_
 grind [dH]
end rules
section rules
variable {P:Program} {C:Class} {fn:FuncId} {bW:Option Nat} {Q:Post} {s:St} {n:Nat} {env:Env} {D:List Deferred}
variable {ops:Array Oper} {i:Nat} {rest:List Nat} {dst:Option Tmp} {ty:TypeId} {pos:String} {gf:Array Edge} {g:Option (Nat×Bool)}
variable {T:TypeId} {sz dP:Nat} {z:List Value} {ag:Bool}
def awo(hC:∀main T,C main T->Closed P main T){a:Option Addr}{l c:Nat}(ho:ops[i]?=some ⟨dst,.binOp .eql T x y T',ty,pos,gf,g⟩) (hw:bN ops n env g=true) (tf:TF P T (.slice E) sz dP z ag)
 (hx:dv n env x=some (.slice a l c)) (hy:dv n env y=some (.slice none 0 0)) (h:aR C fn bW ops rest Q (A n (upd dst (.bool a.isNone) env) D) s):aR C fn bW ops (i::rest) Q (A n env D) s:=by
 refine eF hC ho hw (by simp) ?_;have hg:eqGuard .eql T x y (.slice a l c) (.slice none 0 0)=Sem.pure ():=by cases a<;>rfl
 have hb:binOp .eql T (.slice a l c) (.slice none 0 0)=(Op.equal T (.slice a l c) (.slice none 0 0) >>= λr=>pure (.bool r)):=by cases a<;>rfl
 have he:∀ {α:Type} (K:Bool->Sem α) (Q:α->St->Prop) (E:Halt->St->Prop),eN P (K a.isNone) s Q E->eN P (Op.equal T (.slice a l c) (.slice none 0 0) >>= K) s Q E:=by
  intro α K Q E hK;have gen:∀d,eN P (Op.equalIn (d+1) T (.slice a l c) (.slice none 0 0) >>= K) s Q E:=by
   intro d;cases a<;>(simp only[Op.equalIn,aI,db tf,aQ,Option.isNone];exact hK)
  exact gen 9999
 simp only[execOp,cg hx,cg hy,hg,hb];show eN P ((Op.equal T (.slice a l c) (.slice none 0 0) >>= λr=>(pure (Value.bool r):Sem Value)) >>= λx=>(pure (Next.value x):Sem Next)) s _ _;simp only[aI];refine he _ _ _ ?_;rw[<-dH] at h;exact h
end rules
def aok:Op->Option (List Operand)
 | .move x=>some [x]
 | .assign x=>some [x]
 | .extract x _=>some [x]
 | .nilCheck x=>some [x]
 | .fieldAddr _ x _=>some [x]
 | .makeInterface _ x=>some [x]
 | .indexAddr _ x y=>some [x,y]
 |op=>PB op
theorem ZE{xs:List Operand}(h:aok o.op=some xs){f g:Operand->Value}(hfg:∀x∈xs,f x=g x):execOp f o=execOp g o:=by
 unfold aok at h;split at h
 all_goals first
  | (rename_i heq;simp only[aB] at h;subst h;simp[execOp,heq,hfg];done)
  |exact BM h hfg
def evj(n:Nat)(e:Env)(x:Operand):Value:=(dv n e x).getD undef
theorem Xn{f:Operand->Value}(hf:Ev n e f):∀ {xs:List Operand} {vs:List Value},F5 n e xs=some vs->∀x∈xs,f x=evj n e x
 |y::l,vs,h,x,hx=>by
  simp only[F5] at h;cases hv:dv n e y with
  |none=>rw[hv] at h;cases h
  |some v=>
   rw[hv] at h;cases hr:F5 n e l with
   |none=>rw[hr] at h;cases h
   |some r=>
    rcases aN.1 hx with rfl|hx
    .rw[hf _ _ hv,evj,hv];rfl
    exact Xn hf hr x hx
def aEH(P:Program)(n:Nat)(e:Env)(o:Oper):Option Value:=
 match aok o.op with
 |some xs=>match F5 n e xs with
  |some _=>match eg P (execOp (evj n e) o) with
   |some (.value v)=>some v
   |_=>none
  |none=>none
 |none=>none
def aQJ(P:Program)(n:Nat)(e:Env)(x:Operand)(T:TypeId):Option Value:=
 match c9 P T with
 |some ⟨.slice _,_,_,_⟩=>match dv n e x with
  |some (.slice _ len _)=>some (.int .i64 len)
  |_=>none
 |some ⟨.string,_,_,_⟩=>match dv n e x with
  |some (.string b)=>some (.int .i64 b.size)
  |_=>none
 |_=>none
def afW(P:Program)(n:Nat)(e:Env)(T:TypeId)(ps:Array (Nat×Operand)):Option Value:=
 match c9 P T with
 |some ⟨.struct fields,_,z,_⟩=>match E0 P fields.toList with
  |some pl=>match Yv n e ps.toList with
   |some pv=>match vY (λi=>pl[i]?) z (BO pv) with
    |some l=>some (.agg ⟨l⟩)
    |none=>none
   |none=>none
  |none=>none
 |some ⟨.array _ E,_,z,_⟩=>match c9 P E with
  |some te=>match Yv n e ps.toList with
   |some pv=>match vY (λi=>some (i*te.size,te.size)) z (BO pv) with
    |some l=>some (.agg ⟨l⟩)
    |none=>none
   |none=>none
  |none=>none
 |_=>none
def amB(P:Program)(n:Nat)(e:Env)(o:Oper):Option Value:=
 match o.op with
 | .pick c x y=>match dv n e c with
  |some (.bool true)=>dv n e x
  |some (.bool false)=>dv n e y
  |_=>none
 | .makeFunc f x y=>match F5 n e x.toList with
  |some x'=>match F5 n e y.toList with
   |some y'=>some (.func f ⟨x'⟩ ⟨y'⟩)
   |none=>none
  |none=>none
 | .build T ps=>afW P n e T ps
 | .call ⟨.builtin .len,⟨[x]⟩,⟨[T]⟩⟩=>aQJ P n e x T
 |_=>aEH P n e o
section val
variable {P:Program} {n:Nat} {e:Env} {o:Oper} {s:St} {v:Value}
def avG(h:aEH P n e o=some v):Yields P n e o s v:=by
 unfold aEH at h;split at h<;>try (cases h;done)
 rename_i xs hx;split at h<;>try (cases h;done)
 rename_i vs hvs;split at h<;>try (cases h;done)
 rename_i w hr;cases h;intro s' _ f hf K E hK;rw[ZE hx (Xn hf hvs)];exact vy hr hK
theorem akY{ps:Array (Nat×Operand)}(heq:o.op= .build T ps)(h:afW P n e T ps=some v):Yields P n e o s v:=by
 unfold afW at h
 split at h<;>try (cases h;done)
 ·rename_i fields _ z _ iy
  obtain⟨dP,tf⟩:=bA iy
  split at h<;>try (cases h;done)
  rename_i pl wm
  split at h<;>try (cases h;done)
  rename_i pv SP
  split at h<;>try (cases h;done)
  rename_i l hl
  cases h
  intro s' pg f hf K E hK
  simp only[execOp,heq,Instr.build,aI,oE tf,db tf,ij tf]
  rw[Array.mapM_eq_mapM_toList]
  simp only[map_eq_pure_bind,aI,aQ]
  rw[u6 (GV wm)]
  rw[qB] at hl
  have h1:=fill_eq _ _ _ _ hl
  have h3:(fun x=>(pl.toArray)[x]?:Nat→Option (Nat×Nat))=fun i=>pl[i]?:=by funext i;simp
  simp only[h3,hf.DN SP,h1,aQ]
  exact hK
 rename_i len E _ z _ iy
 obtain⟨dP,tf⟩:=bA iy
 split at h<;>try (cases h;done)
 rename_i te wH
 obtain⟨Db,tT⟩:=bA wH
 split at h<;>try (cases h;done)
 rename_i pv SP
 split at h<;>try (cases h;done)
 rename_i l hl
 cases h
 intro s' pg f hf K E hK
 simp only[execOp,heq,Instr.build,aI,oE tf,db tf,ij tf,eE tT]
 rw[qB] at hl
 have h1:=fill_eq _ _ _ _ hl
 simp only[hf.DN SP,h1,aQ]
 exact hK
def HV(h:amB P n e o=some v):Yields P n e o s v:=by
 unfold amB at h;split at h
 .rename_i c x y heq;split at h<;>try (cases h;done)
  .rename_i hc;intro s' _ f hf K E hK;simp only[execOp,heq,hf _ _ hc,hf _ _ h];exact hK
  rename_i hc;intro s' _ f hf K E hK;simp only[execOp,heq,hf _ _ hc,hf _ _ h];exact hK
 .rename_i g x y heq;split at h<;>try (cases h;done)
  rename_i x' hx;split at h<;>try (cases h;done)
  rename_i y' hy;cases h;intro s' _ f hf K E hK;simp only[execOp,heq,hf.arr hx,hf.arr hy];exact hK
 .rename_i T ps heq;exact akY heq h
 .rename_i x T heq;unfold aQJ at h;split at h<;>try (cases h;done)
  .rename_i iy;obtain⟨dP,tf⟩:=bA iy;split at h<;>try (cases h;done)
   rename_i hx;cases h;intro s' _ f hf K E hK;simp only[execOp,heq,resolve,invoke,builtin,Builtin.len_,oT,bR,lR,hf _ _ hx,aQ,sL,my,db tf,aI];exact hK
  rename_i iy;obtain⟨dP,tf⟩:=bA iy;split at h<;>try (cases h;done)
  rename_i hx;cases h;intro s' _ f hf K E hK;simp only[execOp,heq,resolve,invoke,builtin,Builtin.len_,oT,bR,lR,hf _ _ hx,aQ,sL,my,db tf,aI];exact hK
 exact avG h
end val
def ldv(P:Program)(T:TypeId)(l:List Value)(off:Nat):Option Value:=
 match c9 P T with
 |some ti=>bif ti.agg then (match sub l off ti.size with
  |some vs=>some (.agg ⟨vs⟩)
  |none=>none) else nth l off
 |none=>none
def aer{P:Program}{s:St}{v:Value}{b:Nat}{t:TypeId}(heq:o.op= .load T x)(hx:dv n e x=some (.pointer (some ⟨b,off,none⟩)))(hb:s.has b (.cells ⟨l⟩ t fz))(h:ldv P T l off=some v):Yields P n e o s v:=by
 unfold ldv at h;split at h<;>try (cases h;done)
 rename_i ti iy;obtain⟨dP,tf⟩:=bA iy;intro s' hs f hf K E hK;cases ha:ti.agg with
 |true=>
  rw[ha] at h tf;simp only[cG] at h;split at h<;>try (cases h;done)
  rename_i vs hvs;cases h;simp only[execOp,heq,Instr.loadAt,hf _ _ hx,Instr.sureAddr,loadVar,aI,aQ,pQ tf,dF,eE tf];exact oy ⟨_,_,_,hs _ _ hb,hvs⟩ hK
 |false=>
  rw[ha] at h tf;simp only[jI] at h;simp only[execOp,heq,Instr.loadAt,hf _ _ hx,Instr.sureAddr,loadVar,aI,aQ,pQ tf,aW,cJ];exact Dz ⟨_,_,_,hs _ _ hb,h⟩ hK
def aFZ{P:Program}{s:St}{v:Value}{b m:Nat}(k:Nat)(heq:o.op= .load T x)(hx:dv n e x=some (.pointer (some ⟨b,off+k,none⟩)))(hb:eW s b off m l)(h:ldv P T l k=some v):Yields P n e o s v:=by
 unfold ldv at h;split at h<;>try (cases h;done)
 rename_i ti iy;obtain⟨dP,tf⟩:=bA iy;intro s' hs f hf K E hK;cases ha:ti.agg with
 |true=>
  rw[ha] at h tf;simp only[cG] at h;split at h<;>try (cases h;done)
  rename_i vs hvs;cases h;simp only[execOp,heq,Instr.loadAt,hf _ _ hx,Instr.sureAddr,loadVar,aI,aQ,pQ tf,dF,eE tf];exact oy ((hb.ext hs).part k ti.size hvs) hK
 |false=>
  rw[ha] at h tf;simp only[jI] at h;simp only[execOp,heq,Instr.loadAt,hf _ _ hx,Instr.sureAddr,loadVar,aI,aQ,pQ tf,aW,cJ];exact Dz ((hb.ext hs).cell k v (by rw[<-yd];exact h)) hK
structure Cx where
 P:Program
 C:Class
 hC:∀main T,C main T->Closed P main T
 hm:P.follows .mixedOrders=true
 fn:FuncId
 bW:Option Nat
 n:Nat
 D:List Deferred
 ro:Nat->Option Obj
 Q:Post
def Cx.at(X:Cx)(ro:Nat->Option Obj):Cx:={X with ro:=ro}
inductive KI where
 |seq (b:Code)
 |block (id:Nat)
 |next (K:Act->St->Prop)
inductive Sg where
 |b (i:Nat) (o:Obj)
 |l (L:Cells)
def den:List Sg->Cells
 | []=>[]
 | [.l L]=>L
 | .b i o::r=>(i,o)::den r
 | .l L::r=>L++den r
theorem p7(i:Nat)(o:Obj)(r:List Sg):den (.b i o::r)=(i,o)::den r:=by rfl
theorem lG(L:Cells)(r:List Sg):den (.l L::r)=L++den r:=by grind [den]
inductive Pos where
 |ops (ops:Array Oper) (todo:List Nat) (k:List KI)
 |code (c:Code) (k:List KI)
 |nxt (K:Act->St->Prop)
 |Lr (ops:Array Oper) (base:Env) (Pl Sl:List (Nat×Value)) (k:List KI)
 |fin (e:Exit)
structure Kn where
 c:Cells
 nd:List (Nat×Cells)
structure JS where
 pos:Pos
 env:Env
 rw:List Sg
 kn:Kn
variable {s':JS}
def KQ(X:Cx):List KI->Post
 | []=>X.Q
 | .seq b::k=>su (λa s=>Wp X.C X.fn X.bW b (KQ X k) a s) (KQ X k)
 | .block id::k=>yB id (KQ X k)
 | .next K::k=>su K (KQ X k)
def ME:Op->Bool
 | .load .. =>false
 | .lookup .. =>false
 | .call ⟨.value _,_,_⟩=>false
 | .call ⟨.invoke ..,_,_⟩=>false
 |_=>true
def Ei(ops:Array Oper)(n:Nat)(e:Env):Option (Nat×Bool)->Option Bool
 |none=>some true
 |some (j,want)=>match di ops j with
  |some d=>match dv n e (.tmp d) with
   |some (.bool true)=>some want
   |some (.bool false)=>some (!want)
   |some (.tuple ⟨[]⟩)=>some false
   |_=>none
  |none=>none
def zb(ops:Array Oper)(n:Nat)(base:Env)(Pl:List (Nat×Value))(j:Nat):Bool:=match ops[j]? with
 |some p=>ME p.op||(match Ei ops n (fg ops base j Pl) p.guard with
  |some false=>true
  |_=>false)
 |none=>false
def PF(X:Cx)(nd:List (Nat×Cells))(ops:Array Oper)(base:Env)(Pl Sl:List (Nat×Value)):Prop:=
 (∀j u,(j,u)∈Sl->zb ops X.n base Pl j=true->∀s,ky X.C X.fn X.bW ops X.n X.D j u (fg ops base j Pl) s)/\
 ∀j u B,(j,u)∈Sl->(j,B)∈nd->∀s,Ext ⟨X.ro,[]⟩ s->(∀x∈B,s.has x.1 x.2)->ky X.C X.fn X.bW ops X.n X.D j u (fg ops base j Pl) s
def ndK:List (Nat×Cells)->List Nat
 | []=>[]
 | (i,_)::l=>i::ndK l
theorem V0{B:Cells}:∀ {l:List (Nat×Cells)},(i,B)∈l->i∈ndK l
 | (j,C)::l,h=>by
  simp only[ndK];rcases aN.1 h with h|h
  .grind
  exact cb _ (V0 h)
def JP(X:Cx)(kn:Kn)(e:Env)(w:List Sg):Pos->Prop
 | .ops ops todo k=>aR X.C X.fn X.bW ops todo (KQ X k) (A X.n e X.D) ⟨X.ro,den w⟩
 | .code c k=>Wp X.C X.fn X.bW c (KQ X k) (A X.n e X.D) ⟨X.ro,den w⟩
 | .nxt K=>K (A X.n e X.D) ⟨X.ro,den w⟩
 | .Lr ops base Pl Sl k=>PF X kn.nd ops base Pl Sl->Bw X.C X.fn X.bW ops X.n X.D base Pl Sl (KQ X k) ⟨X.ro,den w⟩
 | .fin e'=>X.Q e' (A X.n e X.D) ⟨X.ro,den w⟩
def J(X:Cx):Option JS->Prop
 |none=>False
 |some s=>Knows X.ro s.kn.c->JP X s.kn s.env s.rw s.pos
def ZH:List KI->Pos
 | []=> .fin .normal
 | .seq b::k=> .code b k
 | .block _::k=>ZH k
 | .next K::_=> .nxt K
def BN{X:Cx}{kn:Kn}{w:List Sg}:∀ {k:List KI},JP X kn e w (ZH k)->KQ X k .normal (A X.n e X.D) ⟨X.ro,den w⟩
 | [],h=>h
 | .seq _::_,h=>h
 | .block _::k,h=>BN (k:=k) h
 | .next _::_,h=>h
def I0(id:Nat):List KI->Option Pos
 | []=>some (.fin (.exit id))
 | .seq _::k=>I0 id k
 | .block i::k=>bif Nat.beq id i then some (ZH k) else I0 id k
 | .next _::k=>I0 id k
def Es{X:Cx}{kn:Kn}{w:List Sg}{id:Nat}{p:Pos}:∀ {k:List KI},I0 id k=some p->JP X kn e w p->KQ X k (.exit id) (A X.n e X.D) ⟨X.ro,den w⟩
 | [],h,hj=>by simp only[I0,aB] at h;subst h;exact hj
 | .seq _::k,h,hj=>Es (k:=k) h hj
 | .next _::k,h,hj=>Es (k:=k) h hj
 | .block i::k,h,hj=>by
  simp only[I0] at h;cases hb:Nat.beq id i with
  |true=>
   rw[hb] at h;simp only[cG,aB] at h;subst h;have:=dW hb;subst this;exact Na (BN hj)
  |false=>
   rw[hb] at h;simp only[jI] at h;exact M9 hb (Es (k:=k) h hj)
def H7{X:Cx}{a:Act}{s:St}(h:X.Q .ret a s):∀(k:List KI),KQ X k .ret a s
 | []=>h
 | .seq _::k=>H7 h k
 | .next _::k=>H7 h k
 | .block _::k=>H7 h k
def aOh:Op->Bool
 | .move _| .assign _| .pick .. | .makeFunc .. | .extract .. | .nilCheck _| .fieldAddr .. | .makeInterface .. | .indexAddr .. | .index .. | .field .. | .binOp .. | .unOp .. | .convert .. | .build .. | .load .. | .lookup .. | .slice .. =>true
 | .call ⟨.builtin .len,_,_⟩| .call ⟨.builtin .cap,_,_⟩| .call ⟨.builtin .min,_,_⟩| .call ⟨.builtin .max,_,_⟩=>true
 |_=>false
def aOi(ops:Array Oper)(i:Nat):Bool:=match ops[i]? with
 |some o=>aOh o.op
 |none=>false
def enabled(ops:Array Oper)(ks:List Nat)(i:Nat):Bool:= !dI i ks&&kK (dM ops i) ks
def aic(f:Nat->Bool):Nat->Nat->Option Nat
 |0,_=>none
 |k+1,i=>bif f i then some i else aic f k (i+1)
def aKm(ops:Array Oper)(i:Nat):Bool:=match ops[i]? with
 |some ⟨_,.call ⟨.value _,_,_⟩,_,_,_,_⟩=>true
 |_=>false
def ayX(ops:Array Oper)(ks:List Nat):Option Nat:=
 match aic (λi=>enabled ops ks i&&aOi ops i) ops.size 0 with
 |some i=>some i
 |none=>match aic (λi=>enabled ops ks i&&aKm ops i) ops.size 0 with
  |some i=>some i
  |none=>aic (enabled ops ks) ops.size 0
def yo(n:Nat):JS->Option (Bool×Oper×Env)
 | ⟨.ops ops (i::_) _,e,_,_⟩=>match ops[i]? with
  |some o=>match Ei ops n e o.guard with
   |some g=>some (g,o,e)
   |none=>none
  |none=>none
 | ⟨.Lr ops base Pl _ _,_,_,_⟩=>match ayX ops (bu Pl) with
  |some i=>match ops[i]? with
   |some o=>match Ei ops n (fg ops base i Pl) o.guard with
    |some g=>some (g,o,fg ops base i Pl)
    |none=>none
   |none=>none
  |none=>none
 |_=>none
def Pz(v:Value):JS->Option JS
 | ⟨.ops ops (i::todo) k,e,w,kn⟩=>match ops[i]? with
  |some o=>some ⟨.ops ops todo k,upd o.dst v e,w,kn⟩
  |none=>none
 | ⟨.Lr ops base Pl Sl k,e,w,kn⟩=>match ayX ops (bu Pl) with
  |some i=>bif !dI i (bu Pl)&&(kK (dM ops i) (bu Pl)&&(wF ops (bu Pl)&&(kK (bu Sl) (bu Pl)&& !dI i (ndK kn.nd)))) then some ⟨.Lr ops base ((i,v)::Pl) ((i,v)::Sl) k,e,w,kn⟩ else none
  |none=>none
 |_=>none
def uP{ops:Array Oper}{g:Option (Nat×Bool)}(h:Ei ops n e g=some true)(rest:Env):bN ops n (e++rest) g=true:=by
 unfold Ei at h;split at h
 .rfl
 rename_i j want;split at h<;>try (cases h;done)
 rename_i d hd;have hd:(ops[j]?).bind (·.dst)=some d:=hd;split at h<;>try (cases h;done)
 .rename_i hb;simp only[aB] at h;subst h;exact BC hd (cO hb) rfl
 rename_i hb;simp only[aB,az] at h;subst h;exact BC hd (cO hb) rfl
section
variable {X:Cx}
def Hp{ops:Array Oper}{Q:Post}{s:St}(ho:ops[i]?=some o) (h:Ei ops X.n e o.guard=some false) (rest:Env) (hk:aR X.C X.fn X.bW ops todo Q (A X.n (upd o.dst undef (e++rest)) X.D) s):aR X.C X.fn X.bW ops (i::todo) Q (A X.n (e++rest) X.D) s:=by
 unfold Ei at h;split at h
 .cases h
 rename_i j want hg;split at h<;>try (cases h;done)
 rename_i d hd;have hd:(ops[j]?).bind (·.dst)=some d:=hd;split at h<;>try (cases h;done)
 .rename_i hb;simp only[aB] at h;subst h;exact BU X.hC ho hg hd (cO hb) rfl hk
 .rename_i hb;simp only[aB,aD] at h;subst h;exact BU X.hC ho hg hd (cO hb) rfl hk
 rename_i hb;rcases o with ⟨dst,op,ty,pos,gf,g⟩
 dsimp only at hg;subst hg;exact awp X.hC ho hd (cO hb) hk
def RD(X:Cx)(e:Env)(o:Oper)(s:St)(v:Value):Prop:=
 ∀(ops:Array Oper) (i:Nat),ops[i]?=some o->∀rest,bN ops X.n (e++rest) o.guard=true->∀s',Ext s s'->∀todo Q,aR X.C X.fn X.bW ops todo Q (A X.n (upd o.dst v (e++rest)) X.D) s'->aR X.C X.fn X.bW ops (i::todo) Q (A X.n (e++rest) X.D) s'
def jyS{s:JS}{g:Bool}{v:Value}(hh:yo X.n s=some (g,o,e))(hp:Pz v s=some s')
 (hv:match g with|true=>(Knows X.ro s.kn.c->RD X e o ⟨X.ro,den s.rw⟩ v)/\(ME o.op=true->∀s,RD X e o s v)|false=>v=undef)(hj:J X (some s')):J X (some s):=by
 intro ep;rcases s with ⟨p,e0,w,kn⟩
 cases p with
 |ops ops todo k=>
  cases todo with
  |nil=>cases hh
  |cons i todo=>
   simp only[yo] at hh;split at hh<;>try (cases hh;done)
   rename_i o1 ho;split at hh<;>try (cases hh;done)
   rename_i g1 hg;cases hh;simp only[Pz,ho,aB] at hp;subst hp;have hk:aR X.C X.fn X.bW ops todo (KQ X k) (A X.n (upd o.dst v e) X.D) ⟨X.ro,den w⟩:=hj ep;show aR X.C X.fn X.bW ops (i::todo) (KQ X k) (A X.n e X.D) ⟨X.ro,den w⟩;cases g with
   |true=>
    have:=hv.1 ep ops i ho [] (uP hg []) _ (Ext.refl _) todo (KQ X k);rw[e9] at this;exact this hk
   |false=>
    dsimp only at hv;subst hv;have:=Hp (Q:=KQ X k) (s:=⟨X.ro,den w⟩) (todo:=todo) ho hg [];rw[List.append_nil] at this;exact this hk
 |Lr ops base Pl Sl k=>
  simp only[yo] at hh;split at hh<;>try (cases hh;done)
  rename_i i hi;split at hh<;>try (cases hh;done)
  rename_i o1 ho;split at hh<;>try (cases hh;done)
  rename_i g1 hg;cases hh;simp only[Pz,hi] at hp;cases hc:(!dI i (bu Pl)&&(kK (dM ops i) (bu Pl)&&(wF ops (bu Pl)&&(kK (bu Sl) (bu Pl)&& !dI i (ndK kn.nd))))) with
  |false=>rw[hc] at hp;cases hp
  |true=>
   rw[hc] at hp;simp only[cG,aB] at hp;subst hp;simp only[av,az] at hc;have NJ:di ops i=o.dst:=by simp only[di,ho,oR]
   intro hpf;have yU:∀j,j∈bu Sl->i∉dM ops j:=λj hj hd=>by
    have h1:=eQ.1 hc.2.2.2.1 j hj;have h2:=eQ.1 (cM.1 hc.2.2.1 j h1) i hd;rw[cF.2 h2] at hc;exact absurd hc.1 (by simp)
   refine Rz i hc.1 hc.2.1 hc.2.2.1 hc.2.2.2.1 ?_ (hj ep ⟨λj u KP hp s0=>?_,λj u B KP hB s0 HJ Fh=>?_⟩)
   .intro s1 hx rest todo Q hk;rw[NJ] at hk;cases g with
    |true=>exact hv.1 ep ops _ ho rest (uP hg rest) _ hx _ _ hk
    |false=>dsimp only at hv;subst hv;exact Hp ho hg rest hk
   .have hii:i∉dM ops i:=λhd=>by
     have h2:=eQ.1 hc.2.1 i hd;rw[cF.2 h2] at hc;exact absurd hc.1 (by simp)
    rcases aN.1 KP with h1|h1
    .obtain⟨HK,rfl⟩:=Prod.mk.inj h1;subst HK;rw[gI hii];intro s1 hx rest todo Q hk;rw[NJ] at hk;cases g with
     |true=>
      have hpk:ME o.op=true:=by
       simp only[zb,ho,gI hii,hg,Bool.or_false] at hp;exact hp
      exact hv.2 hpk s0 ops _ ho rest (uP hg rest) _ hx _ _ hk
     |false=>dsimp only at hv;subst hv;exact Hp ho hg rest hk
    have JE:j∈bu Sl:=cT.2 ⟨u,h1⟩;rw[gI (yU j JE)];exact hpf.1 j u h1 (by simp only[zb,gI (yU j JE)] at hp;exact hp) s0
   rcases aN.1 KP with h1|h1
   .obtain⟨HK,rfl⟩:=Prod.mk.inj h1;subst HK;have:=V0 hB;rw[cF.2 this] at hc;exact absurd hc.2.2.2.2 (by simp)
   rw[gI (yU j (cT.2 ⟨u,h1⟩))];exact hpf.2 j u B h1 hB s0 HJ Fh
 |_=>cases hh
def av8(B:Cells)(v:Value):JS->Option JS
 | ⟨.ops ops (i::todo) k,e,w,kn⟩=>match ops[i]? with
  |some o=>some ⟨.ops ops todo k,upd o.dst v e,w,kn⟩
  |none=>none
 | ⟨.Lr ops base Pl Sl k,e,w,kn⟩=>match ayX ops (bu Pl) with
  |some i=>bif !dI i (bu Pl)&&(kK (dM ops i) (bu Pl)&&(wF ops (bu Pl)&&(kK (bu Sl) (bu Pl)&& !dI i (ndK kn.nd)))) then some ⟨.Lr ops base ((i,v)::Pl) ((i,v)::Sl) k,e,w,⟨kn.c,(i,B)::kn.nd⟩⟩ else none
  |none=>none
 |_=>none
def jyN{s:JS}{v:Value}{B:Cells}(hh:yo X.n s=some (true,o,e))(hp:av8 B v s=some s')(hB:∀x∈B,(⟨X.ro,den s.rw⟩:St).has x.1 x.2)(hnp:ME o.op=false)
 (hv:∀s0,Ext ⟨X.ro,[]⟩ s0->(∀x∈B,s0.has x.1 x.2)->RD X e o s0 v)(hj:J X (some s')):J X (some s):=by
 intro ep;rcases s with ⟨p,e0,w,kn⟩
 cases p with
 |ops ops todo k=>
  have:Pz v ⟨.ops ops todo k,e0,w,kn⟩=some s':=by
   cases todo with
   |nil=>cases hh
   |cons i todo=>exact hp
  exact jyS hh this ⟨λ_=>hv _ Xl hB,λh=>by rw[hnp] at h;cases h⟩ hj ep
 |Lr ops base Pl Sl k=>
  simp only[yo] at hh;split at hh<;>try (cases hh;done)
  rename_i i hi;split at hh<;>try (cases hh;done)
  rename_i o1 ho;split at hh<;>try (cases hh;done)
  rename_i g1 hg;cases hh;simp only[av8,hi] at hp;cases hc:(!dI i (bu Pl)&&(kK (dM ops i) (bu Pl)&&(wF ops (bu Pl)&&(kK (bu Sl) (bu Pl)&& !dI i (ndK kn.nd))))) with
  |false=>rw[hc] at hp;cases hp
  |true=>
   rw[hc] at hp;simp only[cG,aB] at hp;subst hp;simp only[av,az] at hc;have NJ:di ops i=o.dst:=by simp only[di,ho,oR]
   intro hpf;have yU:∀j,j∈bu Sl->i∉dM ops j:=λj hj hd=>by
    have h1:=eQ.1 hc.2.2.2.1 j hj;have h2:=eQ.1 (cM.1 hc.2.2.1 j h1) i hd;rw[cF.2 h2] at hc;exact absurd hc.1 (by simp)
   have hii:i∉dM ops i:=λhd=>by
    have h2:=eQ.1 hc.2.1 i hd;rw[cF.2 h2] at hc;exact absurd hc.1 (by simp)
   have dt:∀s0,Ext ⟨X.ro,[]⟩ s0->(∀x∈B,s0.has x.1 x.2)->ky X.C X.fn X.bW ops X.n X.D i v (fg ops base i Pl) s0:=by
    intro s0 HJ Fh s1 hx rest todo Q hk;rw[NJ] at hk;exact hv s0 HJ Fh ops _ ho rest (uP hg rest) _ hx _ _ hk
   have bfs:zb ops X.n base ((i,v)::Pl) i=false:=by
    simp only[zb,ho,hnp,gI hii,hg,Bool.or_false]
   refine Rz i hc.1 hc.2.1 hc.2.2.1 hc.2.2.2.1 (dt _ Xl hB) (hj ep ⟨λj u KP hp s0=>?_,λj u B' KP hB' s0 HJ Fh=>?_⟩)
   .rcases aN.1 KP with h1|h1
    .obtain⟨HK,rfl⟩:=Prod.mk.inj h1;subst HK;rw[bfs] at hp;cases hp
    have JE:j∈bu Sl:=cT.2 ⟨u,h1⟩;rw[gI (yU j JE)];exact hpf.1 j u h1 (by simp only[zb,gI (yU j JE)] at hp;exact hp) s0
   rcases aN.1 KP with h1|h1
   .obtain⟨HK,rfl⟩:=Prod.mk.inj h1;subst HK;rw[gI hii];rcases aN.1 hB' with h2|h2
    .cases h2;exact dt s0 HJ Fh
    have:=V0 h2;rw[cF.2 this] at hc;exact absurd hc.2.2.2.2 (by simp)
   have JE:j∈bu Sl:=cT.2 ⟨u,h1⟩;rw[gI (yU j JE)];rcases aN.1 hB' with h2|h2
   .obtain⟨HK,rfl⟩:=Prod.mk.inj h2;subst HK;have h3:=eQ.1 hc.2.2.2.1 _ JE;rw[cF.2 h3] at hc;exact absurd hc.1 (by simp)
   exact hpf.2 j u B' h1 h2 s0 HJ Fh
 |_=>cases hh
def jy{s:JS}{g:Bool}{v:Value}(hh:yo X.n s=some (g,o,e))(hp:Pz v s=some s')
 (hv:match g with|true=>jm o.op=true/\(Knows X.ro s.kn.c->Yields X.P X.n e o ⟨X.ro,den s.rw⟩ v)/\(ME o.op=true->∀s,Yields X.P X.n e o s v)|false=>v=undef)(hj:J X (some s')):J X (some s):=by
 refine jyS hh hp ?_ hj;cases g with
 |true=>exact⟨λep ops i ho rest hw s' hx todo Q hk=>qk X.hC ho _ hw hv.1 (hv.2.1 ep) hx hk,λhp s ops i ho rest hw s' hx todo Q hk=>qk X.hC ho _ hw hv.1 (hv.2.2 hp s) hx hk⟩
 |false=>exact hv
end
def Il:List Sg->Nat->Option Sg
 | [],_=>none
 |x::_,0=>some x
 |_::l,i+1=>Il l i
def ady:List Sg->Nat->Sg->List Sg
 | [],_,_=>[]
 |_::l,0,y=>y::l
 |x::l,i+1,y=>x::ady l i y
def aww:Cells->Nat->Option (Nat×Obj)
 | [],_=>none
 |x::_,0=>some x
 |_::l,i+1=>aww l i
def Jd(w:List Sg)(kn:Cells)(h:Nat):Option (Nat×List Value):=
 match Il w h with
 |some (.b b (.cells ⟨l⟩ _ _))=>some (b,l)
 |some _=>none
 |none=>match aww kn (h-64) with
  |some (b,.cells ⟨l⟩ _ _)=>some (b,l)
  |_=>none
def anj(P:Program)(n:Nat)(e:Env)(w:List Sg)(h:Nat):Op->Option (List Sg×Nat×Nat)
 | .store T x y=>match dv n e x with
  |some (.pointer (some ⟨b,off,none⟩))=>match dv n e y with
   |some v=>match Il w h with
    |some (.b b' (.cells ⟨c⟩ t (0,0)))=>match c9 P T with
     |some ti=>bif Nat.beq (iQ v).length ti.size&&(Nat.ble (off+(iQ v).length) c.length&&(iQ v).all single) then some (ady w h (.b b' (.cells ⟨gZ c off (iQ v)⟩ t (0,0))),b,b') else none
     |none=>none
    |_=>none
   |none=>none
  |_=>none
 |_=>none
abbrev aCQ:=Option (JS×List Nat×List (Nat×Nat))
def aKf(n:Nat)(e:Env)(k:List KI):Code->Option Pos
 | .skip=>some (ZH k)
 | .seq a b=>some (.code a (.seq b::k))
 | .block id c=>some (.code c (.block id::k))
 | .region _ ops d=>bif d then (bif Hx ops then some (.Lr ops e [] [] k) else none) else some (.ops ops (List.range ops.size) k)
 | .exit id=>I0 id k
 | .ret=>some (.fin .ret)
 | .scope c=>some (.code c k)
 | .label _=>some (ZH k)
 | .cond c a b=>match dv n e c with
  |some (.bool true)=>some (.code a k)
  |some (.bool false)=>some (.code b k)
  |_=>none
 |_=>none
def atd(ops:Array Oper)(Pl:List (Nat×Value)):Bool:=kI ops&&(nodupB (bu Pl)&&(kK (List.range ops.size) (bu Pl)&&kK (bu Pl) (List.range ops.size)))
def opJ(P:Program)(n:Nat)(hs:List Nat)(s:JS):aCQ:=
 match yo n s with
 |some (g,o,e)=>bif g then (match o.op with
  | .store .. =>match s,hs with
   | ⟨.ops ops (_::todo) k,_,w,kn⟩,h::hs=>match anj P n e w h o.op with
    |some (w',b,b')=>some (⟨.ops ops todo k,upd o.dst undef e,w',kn⟩,hs,[(b,b')])
    |none=>none
   |_,_=>none
  | .load T x=>match hs with
   |h::hs=>match dv n e x with
    |some (.pointer (some ⟨b,off,none⟩))=>match Jd s.rw s.kn.c h with
     |some (b',l)=>match ldv P T l off with
      |some v=>match Pz v s with
       |some s'=>some (s',hs,[(b',b)])
       |none=>none
      |none=>none
     |none=>none
    |_=>none
   | []=>none
  |_=>bif jm o.op then (match amB P n e o with
   |some v=>match Pz v s with
    |some s'=>some (s',hs,[])
    |none=>none
   |none=>none) else none) else (match Pz undef s with
  |some s'=>some (s',hs,[])
  |none=>none)
 |none=>none
def stepJ(P:Program)(n:Nat)(hs:List Nat)(s:JS):aCQ:=
 match s.pos with
 | .ops _ [] k=>some (⟨ZH k,s.env,s.rw,s.kn⟩,hs,[])
 | .code c k=>match aKf n s.env k c with
  |some p=>some (⟨p,s.env,s.rw,⟨s.kn.c,[]⟩⟩,hs,[])
  |none=>none
 | .Lr ops base Pl _ k=>match ayX ops (bu Pl) with
  |none=>bif atd ops Pl then some (⟨ZH k,oN ops base Pl,s.rw,s.kn⟩,hs,[]) else none
  |some _=>opJ P n hs s
 |_=>opJ P n hs s
section
variable {X:Cx}
theorem H4:∀ {w:List Sg} {h b:Nat} {o:Obj},Il w h=some (.b b o)->∃L R,den w=L++(b,o)::R/\∀o',den (ady w h (.b b o'))=L++(b,o')::R
 | [],_,_,_,h=>by cases h
 |x::w,0,b,o,h=>by
  simp only[Il,aB] at h;subst h;exact⟨[],den w,by simp[p7],λo'=>by simp[ady,p7]⟩
 |x::w,i+1,b,o,h=>by
  obtain⟨L,R,h1,h2⟩:=H4 (w:=w) (h:=i) h;cases x with
  |b i' o1=>grind [p7,ady]
  |l L1=>exact⟨L1++L,R,by simp[lG,h1],λo'=>by simp[ady,lG,h2]⟩
theorem aad:∀ {l:Cells} {i:Nat} {x:Nat×Obj},aww l i=some x->x∈l
 | [],_,_,h=>by cases h
 |y::l,0,x,h=>by grind [aww]
 |y::l,i+1,x,h=>cb _ (aad h)
def HA{w:List Sg}{kn:Cells}{h b:Nat}(hk:Knows X.ro kn)(hc:Jd w kn h=some (b,l)):∃t fz,(⟨X.ro,den w⟩:St).has b (.cells ⟨l⟩ t fz):=by
 unfold Jd at hc;split at hc
 .rename_i hn;cases hc;obtain⟨L,R,h1,_⟩:=H4 hn;exact⟨_,_,.inr (by show (_,_)∈den w;rw[h1];exact jF)⟩
 .cases hc
 split at hc<;>try (cases hc;done)
 rename_i hn;cases hc;exact⟨_,_,.inl (hk _ (aad hn))⟩
def ayZ{kn:Kn}{w:List Sg}{k:List KI}{c:Code}{p:Pos}(h:aKf X.n e k c=some p)(hj:JP X ⟨kn.c,[]⟩ e w p):JP X kn e w (.code c k):=by
 unfold aKf at h;split at h
 .cases h;exact wp_skip X.hC (BN hj)
 .cases h;exact wp_seq X.hC hj
 .cases h;exact wp_block X.hC hj
 .rename_i id ops d;cases d with
  |true=>
   simp only[cG] at h;cases hd:Hx ops with
   |false=>rw[hd] at h;cases h
   |true=>
    rw[hd] at h;simp only[cG,aB] at h;subst h;exact ak7 X.hC X.hm hd (hj ⟨λ_ _ h=>(fF h).elim,λ_ _ _ h=>(fF h).elim⟩)
  |false=>simp only[jI,aB] at h;subst h;exact wp_region X.hC hj
 .exact wp_exit X.hC (Es h hj)
 .cases h;exact wp_ret (H7 hj k)
 .cases h;exact YL X.hC hj
 .cases h;exact wp_label X.hC (BN hj)
 .split at h<;>try (cases h;done)
  .rename_i hc;cases h;exact ags X.hC hc rfl hj
  rename_i hc;cases h;exact agt X.hC hc rfl hj
 cases h
def aoH{hs:List Nat}{s:JS}{q:List (Nat×Nat)}(h:opJ X.P X.n hs s=some (s',pg,q))(hq:∀p∈q,p.1=p.2)(hj:J X (some s')):J X (some s):=by
 unfold opJ at h;split at h<;>try (cases h;done)
 rename_i g o e hh;cases g with
 |false=>
  simp only[jI] at h;split at h<;>try (cases h;done)
  rename_i s1 hp;cases h;exact jy hh hp rfl hj
 |true=>
  simp only[cG] at h;split at h
  .rename_i T x y aX;split at h<;>try (cases h;done)
   rename_i ops i todo k e1 w kn h0 hsx;split at h<;>try (cases h;done)
   rename_i w' b b' dt;cases h;have hbb:b=b':=hq _ dQ;subst hbb;simp only[yo] at hh;split at hh<;>try (cases hh;done)
   rename_i o1 ho;split at hh<;>try (cases hh;done)
   rename_i g1 hg;simp only[aB,bL] at hh;obtain⟨rfl,rfl,rfl⟩:=hh;intro ep;have hj:=hj ep;rw[aX] at dt;simp only[anj] at dt;split at dt<;>try (cases dt;done)
   rename_i b0 off hx;split at dt<;>try (cases dt;done)
   rename_i v hy;split at dt<;>try (cases dt;done)
   rename_i b1 c t hn;split at dt<;>try (cases dt;done)
   rename_i ti iy;cases hc:(Nat.beq (iQ v).length ti.size&&(Nat.ble (off+(iQ v).length) c.length&&(iQ v).all single)) with
   |false=>rw[hc] at dt;cases dt
   |true=>
    rw[hc] at dt;simp only[cG,aB,bL] at dt;obtain⟨rfl,rfl,rfl⟩:=dt;simp only[av,si] at hc;obtain⟨dP,tf⟩:=bA iy;obtain⟨L,R,h1,h2⟩:=H4 hn;rcases o1 with ⟨dst,op,ty,pos,gf,gd⟩
    dsimp only at aX;subst aX;have hw:=uP hg [];rw[List.append_nil] at hw;refine Oc (v:=v) (l:=iQ v) (L:=L) (R:=R) (c:=c) (e:=t) X.hC ho hw tf hx hy (by rw[sI]) (Nat.eq_of_beq_eq_true hc.1) (List.all_eq_true.1 hc.2.2) h1 hc.2.1 ?_;have hj:aR X.C X.fn X.bW ops todo (KQ X k) _ ⟨X.ro,den _⟩:=hj;rw[h2] at hj;exact hj
  .rename_i T x aX;split at h<;>try (cases h;done)
   rename_i h0 fq;split at h<;>try (cases h;done)
   rename_i b off hx;split at h<;>try (cases h;done)
   rename_i b' l hc;split at h<;>try (cases h;done)
   rename_i v hv;split at h<;>try (cases h;done)
   rename_i s1 hp;cases h;have hbb:b'=b:=hq _ dQ;subst hbb;refine jy hh hp ⟨by rw[aX];rfl,λep=>?_,λhk=>by rw[aX] at hk;cases hk⟩ hj;obtain⟨t,fz,hb⟩:=HA ep hc;exact aer aX hx hb hv
  cases hn:jm o.op with
  |false=>rw[hn] at h;cases h
  |true=>
   rw[hn] at h;simp only[cG] at h;split at h<;>try (cases h;done)
   rename_i v hv;split at h<;>try (cases h;done)
   rename_i s1 hp;cases h;exact jy hh hp ⟨hn,λ_=>HV hv,λ_ _=>HV hv⟩ hj
def anl{hs:List Nat}{s:JS}{q:List (Nat×Nat)}(h:stepJ X.P X.n hs s=some (s',pg,q))(hq:∀p∈q,p.1=p.2)(hj:J X (some s')):J X (some s):=by
 unfold stepJ at h;split at h
 .rename_i ops k hp;cases h;rcases s with ⟨p,e,w,kn⟩
  dsimp only at hp;subst hp;exact λep=>BR X.hC (BN (hj ep))
 .rename_i c k hp;rcases s with ⟨p,e,w,kn⟩
  dsimp only at hp;subst hp;split at h<;>try (cases h;done)
  rename_i p hc;cases h;exact λep=>ayZ hc (hj ep)
 .rename_i ops base Pl Sl k hp;split at h
  .cases hd:atd ops Pl with
   |false=>rw[hd] at h;cases h
   |true=>
    rw[hd] at h;simp only[cG,aB,bL] at h;obtain⟨rfl,rfl,rfl⟩:=h;rcases s with ⟨p,e,w,kn⟩
    dsimp only at hp;subst hp;simp only[atd,Bool.and_eq_true] at hd;exact λep _=>atZ X.hC hd.1 hd.2.1 hd.2.2.1 hd.2.2.2 (BN (hj ep))
  exact aoH h hq hj
 exact aoH h hq hj
end
def alc(P:Program)(n:Nat):Nat->List Nat->JS->List (Nat×Nat)->Option (JS×List (Nat×Nat))
 |0,_,s,q=>some (s,q)
 |k+1,hs,s,q=>match stepJ P n hs s with
  |some (s',pg,q')=>alc P n k pg s' (q'++q)
  |none=>none
def adv(P:Program)(n k:Nat)(hs:List Nat):Option JS->Option (JS×List (Nat×Nat))
 |some s=>alc P n k hs s []
 |none=>none
def res:Option (JS×List (Nat×Nat))->Option JS
 |some (s,_)=>some s
 |none=>none
def afr:List (Nat×Nat)->List Nat
 | []=>[]
 | (a,_)::l=>a::afr l
def ads:List (Nat×Nat)->List Nat
 | []=>[]
 | (_,b)::l=>b::ads l
def lhs:Option (JS×List (Nat×Nat))->List Nat
 |some (_,q)=>afr q
 |none=>[0]
def rhs:Option (JS×List (Nat×Nat))->List Nat
 |some (_,q)=>ads q
 |none=>[1]
def sE:∀ {q:List (Nat×Nat)},afr q=ads q->∀p∈q,p.1=p.2
 | (a,b)::l,h,p,hp=>by
  simp only[afr,ads,iH] at h;rcases aN.1 hp with rfl|hp
  .omega
  exact sE h.2 p hp
def aiD{X:Cx}:∀ {k:Nat} {hs:List Nat} {s s':JS} {q q':List (Nat×Nat)},alc X.P X.n k hs s q=some (s',q')->(∀p∈q',p.1=p.2)->(J X (some s')->J X (some s))/\∀p∈q,p∈q'
 |0,_,_,_,_,_,h,_=>by simp only[alc,aB,bL] at h;obtain⟨rfl,rfl⟩:=h;exact⟨id,λ_ h=>h⟩
 |k+1,hs,s,s',q,q',h,hq=>by
  simp only[alc] at h;split at h<;>try (cases h;done)
  rename_i s1 fq q1 dt;obtain⟨h1,h2⟩:=aiD h hq;exact⟨λhj=>anl dt (λp hp=>hq p (h2 p (cZ _ hp))) (h1 hj),λp hp=>h2 p (gD _ hp)⟩
def jd{X:Cx}{o:Option JS}(k:Nat)(hs:List Nat)(h:J X (res (adv X.P X.n k hs o)))(he:lhs (adv X.P X.n k hs o)=rhs (adv X.P X.n k hs o):=by kernel_rfl):J X o:=by
 cases o with
 |none=>exact h
 |some s=>
  simp only[adv] at he h;cases hc:alc X.P X.n k hs s [] with
  |none=>rw[hc] at h;exact h.elim
  |some x=>
   rw[hc] at he h;exact(aiD hc (sE he)).1 h
attribute [irreducible] adv res lhs rhs
def fp(n:Nat)(f:Oper->Env->Option β):Option JS->Option β
 |some s=>match yo n s with
  |some (true,p,e)=>f p e
  |_=>none
 |none=>none
def lX(v:Value):Option JS->Option JS
 |some s=>Pz v s
 |none=>none
def ZJ:List Nat->List Sg->Option (List Sg)
 | [],_=>some []
 |i::is,w=>match Il w i with
  |some x=>match ZJ is w with
   |some r=>some (x::r)
   |none=>none
  |none=>none
def gG(is:List Nat):Nat->List Sg->List Sg
 |_,[]=>[]
 |k,x::w=>bif dI k is then gG is (k+1) w else x::gG is (k+1) w
def PN:List Nat->Bool
 | []=>true
 |i::is=> !dI i is&&PN is
def wT(is:List Nat):Option JS->Option (List Sg)
 |some s=>bif PN is then ZJ is s.rw else none
 |none=>none
def fV(is:List Nat)(o:Option JS):Option Cells:=match wT is o with
 |some w=>some (den w)
 |none=>none
def lkE:List Nat->Env->Option Env
 | [],_=>some []
 |t::ts,e=>match mP e t with
  |some v=>match lkE ts e with
   |some r=>some ((t,v)::r)
   |none=>none
  |none=>none
def ql:Env->List Nat
 | []=>[]
 | (t,_)::e=>t::ql e
def tj(ts:List Nat):Option JS->Option Env
 |some s=>lkE ts s.env
 |none=>none
theorem Bb{ts:List Nat}{s:JS}:tj ts (some s)=lkE ts s.env:=rfl
theorem qE{e:Env}:∀ {ts:List Nat} {r:Env},lkE ts e=some r->qN e r
 | [],r,h=>by simp only[lkE,Option.some.injEq] at h;subst h;trivial
 |t::ts,r,h=>by
  simp only[lkE] at h;split at h<;>try grind
  rename_i v hv;split at h<;>try grind
  rename_i r' hr;cases h;exact⟨hv,qE hr⟩
theorem rH:∀(a b:List Sg),den (a++b)=den a++den b
 | [],b=>rfl
 | .b i o::a,b=>by simp[p7,rH a b]
 | .l L::a,b=>by simp[lG,rH a b]
theorem Fu:∀(w:List Sg) (k:Nat),gG [] k w=w
 | [],_=>rfl
 |x::w,k=>by simp[gG,dI,Fu w _]
def Ra:∀ {w:List Sg} {i k:Nat} {is:List Nat} {x:Sg},Il w i=some x->dI (k+i) is=false->(den (gG is k w)).Perm (den [x]++den (gG ((k+i)::is) k w))
 | [],_,_,_,_,h,_=>by cases h
 |y::w,0,k,is,x,h,hi=>by
  simp only[Il,aB] at h;subst h;have hz:∀(w:List Sg) (j:Nat),k <j->gG (k::is) j w=gG is j w:=by
   intro w
   induction w with
   |nil=>intro j _;rfl
   |cons z w ih=>
    intro j hj;have:Nat.beq j k=false:=beq_false (by omega);simp only[gG,dI,this,Bool.false_or,ih (j+1) (by omega)]
  simp only[ug] at hi ⊢;simp only[gG,hi,jI,dI,Nat.beq_refl,Bool.true_or,cG,hz w (k+1) (by omega)];cases y with
  |b i o=>rw[p7];exact .refl _
  |l L=>rw[lG];exact .refl _
 |y::w,i+1,k,is,x,h,hi=>by
  have e:k+(i+1)=(k+1)+i:=by omega
  rw[e] at hi ⊢;have hr:=Ra (w:=w) (k:=k+1) (is:=is) h hi;have eA:Nat.beq k ((k+1)+i)=false:=beq_false (by omega);simp only[gG,dI,eA,Bool.false_or];cases dI k is with
  |true=>simp only[cG];exact hr
  |false=>
   simp only[jI];cases y with
   |b i' o=>rw[p7,p7];exact(hr.cons _).trans jB.symm
   |l L=>
    rw[lG,lG];refine(hr.append_left L).trans ?_;rw[<-bx,<-bx];exact Nj _ iB
theorem E1{w:List Sg}:∀ {is:List Nat} {r:List Sg},ZJ is w=some r->PN is=true->(den w).Perm (den r++den (gG is 0 w))
 | [],r,h,_=>by simp only[ZJ,aB] at h;subst h;rw[Fu];exact .refl _
 |i::is,r,h,ho=>by
  simp only[ZJ] at h;split at h<;>try (cases h;done)
  rename_i x hx;split at h<;>try (cases h;done)
  rename_i r' hr;cases h;simp only[PN,av,az] at ho;have h1:=E1 hr ho.2;have h2:=Ra (k:=0) (is:=is) hx (by rw[iE];exact ho.1);rw[iE] at h2;refine h1.trans ((AB _ h2).trans ?_);have:den (x::r')=den [x]++den r':=by rw[<-rH];rfl
  rw[this,<-bx];exact Nj _ iB
theorem rR{is:List Nat}{s:JS}{w:List Sg}(h:wT is (some s)=some w):(den s.rw).Perm (den w++den (gG is 0 s.rw)):=by
 grind [wT,PN,E1]
theorem dS{is:List Nat}{s:JS}{L:Cells}(h:fV is (some s)=some L):(den s.rw).Perm (L++den (gG is 0 s.rw)):=by
 grind [fV,rR]
def abS{X:Cx}{is:List Nat}{s:JS}{L:Cells}(h:fV is (some s)=some L):∀x∈L,(⟨X.ro,den s.rw⟩:St).has x.1 x.2:=λx hx=> .inr ((dS h).mem_iff.2 (cZ _ hx))
section
variable {X:Cx} {o:Option JS}
theorem AJ{f:Oper->Env->Option β}{r:β}(h:fp n f o=some r):∃s p e,o=some s/\yo n s=some (true,p,e)/\f p e=some r:=by
 unfold fp at h
 grind
def jG{v:Value}{f:Oper->Env->Option β}{r:β}(h:fp X.n f o=some r)(hy:∀s p e,o=some s->yo X.n s=some (true,p,e)->f p e=some r->jm p.op=true/\(Knows X.ro s.kn.c->Yields X.P X.n e p ⟨X.ro,den s.rw⟩ v)/\(ME p.op=true->∀s,Yields X.P X.n e p s v))(hj:J X (lX v o)):J X o:=by
 obtain⟨s,p,e,rfl,hh,hf⟩:=AJ h;obtain⟨h1,h2,h3⟩:=hy s p e rfl hh hf;simp only[lX] at hj;cases hp:Pz v s with
 |none=>rw[hp] at hj;exact hj.elim
 |some s'=>rw[hp] at hj;exact jy hh hp ⟨h1,h2,h3⟩ hj
theorem jGS{v:Value}{f:Oper->Env->Option β}{r:β}(h:fp X.n f o=some r)(hy:∀s p e,o=some s->f p e=some r->RD X e p ⟨X.ro,den s.rw⟩ v/\(ME p.op=true->∀s,RD X e p s v))(hj:J X (lX v o)):J X o:=by
 obtain⟨s,p,e,rfl,hh,hf⟩:=AJ h;simp only[lX] at hj;cases hp:Pz v s with
 |none=>rw[hp] at hj;exact hj.elim
 |some s'=>rw[hp] at hj;exact jyS hh hp ⟨λ_=>(hy s p e rfl hf).1,(hy s p e rfl hf).2⟩ hj
def Kj(B:Cells)(v:Value):Option JS->Option JS
 |some s=>av8 B v s
 |none=>none
def jGN{v:Value}{f:Oper->Env->Option β}{r:β}{B:Cells}(h:fp X.n f o=some r)(hB:fV ps o=some B)(hy:∀s p e,o=some s->yo X.n s=some (true,p,e)->f p e=some r->ME p.op=false/\∀s0,Ext ⟨X.ro,[]⟩ s0->(∀x∈B,s0.has x.1 x.2)->RD X e p s0 v)(hj:J X (Kj B v o)):J X o:=by
 obtain⟨s,p,e,rfl,hh,hf⟩:=AJ h;obtain⟨h1,h2⟩:=hy s p e rfl hh hf;simp only[Kj] at hj;cases hp:av8 B v s with
 |none=>rw[hp] at hj;exact hj.elim
 |some s'=>rw[hp] at hj;exact jyN hh hp (abS hB) h1 h2 hj
theorem SK{v:Value}{f:Oper->Env->Option β}{r:β}(h:fp X.n f o=some r)(hy:∀s p e,o=some s->f p e=some r->∀s0,RD X e p s0 v)(hj:J X (lX v o)):J X o:=
 by grind [jGS]
def avc(P:Program)(n:Nat)(p:Oper)(e:Env):Option Value:=bif jm p.op then amB P n e p else none
theorem je(v:Value){w:Value}(hw:w=v)(hj:J X (lX v o))(hv:fp X.n (avc X.P X.n) o=some w:=by kernel_rfl):J X o:=by
 subst hw;refine jG hv (λs p e _ _ hf=>?_) hj;unfold avc at hf;cases hn:jm _ with
 |false=>grind
 |true=>rw[hn] at hf;exact⟨rfl,λ_=>HV hf,λ_ _=>HV hf⟩
theorem ja(r:Int)(h: -9223372036854775808<=r/\r<=9223372036854775807)(hj:J X (lX (.int .i64 r) o))(hv:fp X.n (avc X.P X.n) o=some (.int .i64 (IntKind.i64.wrap r)):=by kernel_rfl):J X o:=by grind [je,lJ]
def ldA(P:Program)(n k:Nat)(vs:List Value)(p:Oper)(e:Env):Option (Option Addr):=match p.op with
 | .load T x=>match ldv P T vs k with
  |some _=>match dv n e x with
   |some (.pointer a)=>some a
   |_=>none
  |none=>none
 |_=>none
def ldW(P:Program)(n k:Nat)(vs:List Value)(o:Option JS):Value:=(fp n (λp _=>match p.op with
 | .load T _=>ldv P T vs k
 |_=>none) o).getD undef
def yL{b m:Nat}(k:Nat)(ps:List Nat)(B:Cells)(hr:∀s:St,Ext ⟨X.ro,[]⟩ s->(∀x∈B,s.has x.1 x.2)->eW s b off m vs)(hj:J X (Kj B (ldW X.P X.n k vs o) o))(hv:fp X.n (ldA X.P X.n k vs) o=some (some ⟨b,off+k,none⟩):=by kernel_rfl)(hB:fV ps o=some B:=by kernel_rfl):J X o:=by
 refine jGN hv hB (λs p e ho hh hf=>?_) hj;subst ho;unfold ldA at hf;split at hf<;>try (cases hf;done)
 rename_i T x aX;split at hf<;>try (cases hf;done)
 rename_i v hv2;split at hf<;>try (cases hf;done)
 rename_i a hx;simp only[aB] at hf;subst hf;have hw:ldW X.P X.n k vs (some s)=v:=by simp only[ldW,fp,hh,aX,hv2,wP]
 rw[hw];exact⟨by rw[aX];rfl,λs0 HJ Fh ops i ho rest hwt s' hs todo Q hk=>qk X.hC ho rest hwt (by rw[aX];rfl) (aFZ k aX hx (hr s0 HJ Fh) hv2) hs hk⟩
def jl{b m:Nat}(k:Nat)(hr:eW ⟨X.ro,[]⟩ b off m vs)(hj:J X (Kj [] (ldW X.P X.n k vs o) o))(hv:fp X.n (ldA X.P X.n k vs) o=some (some ⟨b,off+k,none⟩):=by kernel_rfl):J X o:=by
 have hB:fV [] o=some []:=by
  obtain⟨s,_,_,rfl,_⟩:=AJ hv;rfl
 exact yL k [] [] (λs hs _=>hr.ext hs) hj hv hB
def ixA(P:Program)(n:Nat)(p:Oper)(e:Env):Option (Value×Int×Nat):=match p.op with
 | .indexAddr T x y=>match c9 P T with
  |some ⟨.slice E,_,_,_⟩=>match c9 P E with
   |some te=>match dv n e x with
    |some v=>match dv n e y with
     |some (.int _ ix)=>some (v,ix,te.size)
     |_=>none
    |none=>none
   |none=>none
  |_=>none
 |_=>none
def jix{a:Option Addr}{b len:Nat}(ix:Int)(cap sz:Nat)(ha:a=some ⟨b,off,none⟩)(hi:0<=ix/\ix <len)(hj:J X (lX (.pointer (some ⟨b,off+ix.toNat*sz,none⟩)) o))(hv:fp X.n (ixA X.P X.n) o=some (.slice a len cap,ix,sz):=by kernel_rfl):J X o:=by
 refine jG hv (λs p e ho hh hf=>?_) hj;unfold ixA at hf;split at hf<;>try (cases hf;done)
 rename_i T x y aX;split at hf<;>try (cases hf;done)
 rename_i E _ _ _ iy;split at hf<;>try (cases hf;done)
 rename_i te wH;split at hf<;>try (cases hf;done)
 rename_i v hx;split at hf<;>try (cases hf;done)
 rename_i ik ix' hy;simp only[aB,bL] at hf;obtain⟨rfl,rfl,rfl⟩:=hf;subst ha;obtain⟨dP,tf⟩:=bA iy;obtain⟨Db,tT⟩:=bA wH;have key:∀s,Yields X.P X.n e p s (.pointer (some ⟨b,off+ix'.toNat*te.size,none⟩)):=by
  intro s s' pg f hf K E hK;simp only[execOp,aX,Instr.indexAt,hf _ _ hx,hf _ _ hy,asIntOf,aI,aQ,db tf,hi,Tb,dF,eE tT,ir];exact hK
 exact⟨by rw[aX];rfl,λ_=>key _,λ_=>key⟩
theorem jK{ps:List α}{k b:Nat}{x:α}{a:Option Addr}(cap sz:Nat)(ha:∀k,k <ps.length->a=some ⟨b,off,none⟩)(hx:ps[k]?=some x) (hj:J X (lX (.pointer (some ⟨b,off+k*sz,none⟩)) o)) (hv:fp X.n (ixA X.P X.n) o=some (.slice a ps.length cap,(k:Int),sz):=by kernel_rfl):J X o:=
 have hk:=(aA.1 hx).1
 jix (k:Int) cap sz (ha k hk) (by omega) hj hv
theorem Yj{ps:List α}{k b:Nat}{x:α}{a:Option Addr}(ix:Int)(cap sz:Nat)(ha:∀k,k <ps.length->a=some ⟨b,off,none⟩)(hx:ps[k]?=some x) (he:ix=(k:Int)) (hj:J X (lX (.pointer (some ⟨b,off+k*sz,none⟩)) o)) (hv:fp X.n (ixA X.P X.n) o=some (.slice a ps.length cap,ix,sz):=by kernel_rfl):J X o:=by
 grind [jK]
theorem jxo{v:Value}{enc:α->List Value}{ps:List α}{L:Cells}{k:Nat}{x:α}(sz:Nat)(kS:bI v szo T2 enc ps L)(hx:ps[k]?=some x) (hj:∀b,Ta v b->J X (lX (.pointer (some ⟨b,k*sz,none⟩)) o)) (hv:fp X.n (ixA X.P X.n) o=some (v,(k:Int),sz):=by kernel_rfl):J X o:=by
 have hk:k <ps.length:=(aA.1 hx).1;obtain⟨b,hb⟩:=aPE kS hk;have kV:=hb;obtain⟨n0,c,rfl⟩:=kV;have hn:n0=ps.length:=by
  obtain⟨a,c',he⟩:=kS.form;cases he;rfl
 subst hn;have hj:=hj b hb;exact jix (off:=0) (k:Int) c sz rfl (by omega) (by rw[iE];exact hj) hv
theorem Iw{v:Value}{enc:α->List Value}{ps:List α}{L:Cells}{k:Nat}{x:α}(ix:Int)(sz:Nat)(kS:bI v szo T2 enc ps L)(hx:ps[k]?=some x) (he:ix=(k:Int)) (hj:∀b,Ta v b->J X (lX (.pointer (some ⟨b,k*sz,none⟩)) o)) (hv:fp X.n (ixA X.P X.n) o=some (v,ix,sz):=by kernel_rfl):J X o:=by
 grind [jxo]
end
attribute [irreducible] fp lX Kj fV wT tj ldW
section
variable {X:Cx} {o:Option JS}
theorem Yb{D:List Deferred}{t:Nat}{v:Value}(h:mP e t=some v):A n ((t,v)::e) D=A n e D:=by
 grind [A,get,Nat.beq,dW,tz]
def Zi(j:Nat)(v:Value):List (Nat×Value)->List (Nat×Value)
 | []=>[]
 | (i,w)::r=>bif Nat.beq i j then (i,v)::r else (i,w)::Zi j v r
theorem O2{j:Nat}{v:Value}:∀ {l:List (Nat×Value)},ZI l j=some v->Zi j v l=l
 | (i,w)::r,h=>by
  simp only[ZI] at h;simp only[Zi];cases hb:Nat.beq i j with
  |true=>grind
  |false=>rw[hb] at h;simp;rw[O2 h]
def aAF(t:Nat):JS->Option Value
 | ⟨.Lr _ _ Pl _ _,_,_,_⟩=>ZI Pl t
 |s=>mP s.env t
def O1(t:Nat):Option JS->Option Value
 |some s=>aAF t s
 |none=>none
def ai3(t:Nat)(v:Value):JS->JS
 | ⟨.Lr ops base Pl Sl k,e,w,kn⟩=>⟨.Lr ops base (Zi t v Pl) Sl k,e,w,kn⟩
 | ⟨p,e,w,kn⟩=>⟨p,(t,v)::e,w,kn⟩
def Su(t:Nat)(v:Value):Option JS->Option JS
 |some s=>some (ai3 t v s)
 |none=>none
theorem jw(t:Nat)(v:Value){w:Value}(hw:w=v)(hj:J X (Su t v o))(hv:O1 t o=some w:=by kernel_rfl):J X o:=by
 subst hw;cases o with
 |none=>exact hj
 |some s=>
  rcases s with ⟨p,e,rw_,kn⟩
  intro ep;have hj:=hj;cases p with
  |Lr ops base Pl Sl k=>
   simp only[O1,aAF] at hv;have:Zi t w Pl=Pl:=O2 hv;simp only[Su,ai3,this] at hj;exact hj ep
  |ops a b c=>have:=hj ep;simp only[ai3,JP] at this;rw[Yb hv] at this;exact this
  |code a b=>have:=hj ep;simp only[ai3,JP] at this;rw[Yb hv] at this;exact this
  |nxt a=>have:=hj ep;simp only[ai3,JP] at this;rw[Yb hv] at this;exact this
  |fin a=>have:=hj ep;simp only[ai3,JP] at this;rw[Yb hv] at this;exact this
theorem ji(t:Nat){c b:Bool}(h:c=b)(hj:J X (Su t (.bool b) o))(hv:O1 t o=some (.bool c):=by kernel_rfl):J X o:=by grind [jw]
theorem js(t:Nat)(c:Bool)(h1:c=true->J X (Su t (.bool true) o))(h2:c=false->J X (Su t (.bool false) o))(hv:O1 t o=some (.bool c):=by kernel_rfl):J X o:=by
 cases hc:c with
 |true=>grind [ji]
 |false=>grind [ji]
def aP1(P:Program)(n:Nat)(p:Oper)(e:Env):Option (Obj×Option Nat):=match p.op with
 | .alloc T=>match c9 P T with
  |some ti=>some (.cells ⟨ti.zero⟩ T (0,0),none)
  |none=>none
 | .box T x=>match dv n e x with
  |some v=>some (.cells ⟨iQ v⟩ T (0,0),none)
  |none=>none
 | .buildSlice T m ps=>match c9 P T with
  |some ⟨.slice E,_,_,_⟩=>match c9 P E with
   |some te=>match Yv n e ps.toList with
    |some pv=>match vY (λi=>some (i*te.size,te.size)) (gr te.zero m) (BO pv) with
     |some l=>bif Nat.beq te.zero.length te.size&&Nat.ble (m*te.size) 16777216 then some (.cells ⟨l⟩ E (0,0),some m) else none
     |none=>none
    |none=>none
   |none=>none
  |_=>none
 | .range T x=>match c9 P T with
  |some ⟨.string,_,_,_⟩=>match dv n e x with
   |some (.string b)=>some (.stringIter b 0,none)
   |_=>none
  |_=>none
 |_=>none
def ao3(b:Nat):Option Nat->Value
 |some m=> .slice (some ⟨b,0,none⟩) m m
 |none=> .pointer (some ⟨b,0,none⟩)
def aFC(P:Program)(n b:Nat):Option JS->Option JS
 |some ⟨.ops ops (i::todo) k,e,w,kn⟩=>match yo n ⟨.ops ops (i::todo) k,e,w,kn⟩ with
  |some (true,p,_)=>match aP1 P n p e with
   |some (ob,m)=>some ⟨.ops ops todo k,upd p.dst (ao3 b m) e,.b b ob::w,kn⟩
   |none=>none
  |_=>none
 |_=>none
def abc{ops:Array Oper}{k:List KI}{e':Env}{w:List Sg}{kn:Kn}{g:Bool}{p:Oper}(h:yo n ⟨.ops ops (i::todo) k,e,w,kn⟩=some (g,p,e')):ops[i]?=some p/\e'=e/\(g=true->bN ops n e p.guard=true):=by
 simp only[yo] at h;split at h<;>try (cases h;done)
 rename_i p1 ho;split at h<;>try (cases h;done)
 rename_i g1 hg;cases h;refine⟨ho,rfl,λhg'=>?_⟩;subst hg';have:=uP hg [];rwa[e9] at this
def jn(hj:∀b,J X (aFC X.P X.n b o)):J X o:=by
 unfold aFC at hj;split at hj
 .rename_i ops i todo k e w kn;split at hj
  .rename_i p e' hh;obtain⟨ho,rfl,hw⟩:=abc hh;have hw:=hw rfl;intro ep;rcases p with ⟨dst,op,ty,pos,gf,g⟩
   split at hj
   .rename_i ob m hn;have key:∀b,aR X.C X.fn X.bW ops todo (KQ X k) (A X.n (upd dst (ao3 b m) e') X.D) ⟨X.ro,(b,ob)::den w⟩:=λb=>by
     have:=hj b ep;simp only[JP,p7] at this;exact this
    unfold aP1 at hn;split at hn
    .rename_i T aX;dsimp only at aX;subst aX;split at hn<;>try (cases hn;done)
     rename_i ti iy;cases hn;obtain⟨dP,tf⟩:=bA iy;exact awv X.hC ho hw tf λb _=>key b
    .rename_i T x aX;dsimp only at aX;subst aX;split at hn<;>try (cases hn;done)
     rename_i v hx;cases hn;exact aPV X.hC ho hw hx (by rw[sI]) λb _=>key b
    .rename_i T m0 ps aX;dsimp only at aX;subst aX;split at hn<;>try (cases hn;done)
     rename_i E _ _ _ iy;split at hn<;>try (cases hn;done)
     rename_i te wH;split at hn<;>try (cases hn;done)
     rename_i pv SP;split at hn<;>try (cases hn;done)
     rename_i l hl;cases hc:(Nat.beq te.zero.length te.size&&Nat.ble (m0*te.size) 16777216) with
     |false=>rw[hc] at hn;cases hn
     |true=>
      rw[hc] at hn;simp only[cG,aB,bL] at hn;obtain⟨rfl,rfl⟩:=hn;simp only[av] at hc;obtain⟨dP,tf⟩:=bA iy;obtain⟨Db,tT⟩:=bA wH;exact VU X.hC ho hw tf tT hc.1 SP hc.2 hl λb _=>key b
    .rename_i T x aX;dsimp only at aX;subst aX;split at hn<;>try (cases hn;done)
     rename_i iy;split at hn<;>try (cases hn;done)
     rename_i bs hx;cases hn;obtain⟨dP,tf⟩:=bA iy;exact ad6 X.hC ho hw tf hx λb _=>key b
    cases hn
   exact(hj 0).elim
  exact(hj 0).elim
 exact(hj 0).elim
def aio(n:Nat)(p:Oper)(e:Env):Option (FuncId×List Value):=match p.op with
 | .call ⟨.value x,xs,_⟩=>match dv n e x with
  |some (.func (.func f) ⟨fi⟩ ⟨ca⟩)=>match F5 n e xs.toList with
   |some vs=>some (f,fi++vs++ca)
   |none=>none
  |_=>none
 |_=>none
def zt(P:Program)(n:Nat)(p:Oper)(e:Env):Option (FuncId×List Value):=match aio n p e with
 |some (f,vs)=>bif HM P f then some (f,vs) else none
 |none=>none
def we{P:Program}{p:Oper}(h:zt P n p e=some (f,vs)):FF P f/\∃x xs at_ fi ca ws,p.op= .call ⟨.value x,xs,at_⟩/\dv n e x=some (.func (.func f) ⟨fi⟩ ⟨ca⟩)/\Aw n e xs=some ws/\vs=fi++ws++ca:=by
 unfold zt at h;split at h<;>try (cases h;done)
 rename_i f' wy hc;cases hb:HM P f' with
 |false=>rw[hb] at h;cases h
 |true=>
  rw[hb] at h;simp only[cG,aB,bL] at h;obtain⟨rfl,rfl⟩:=h;refine⟨n5 hb,?_⟩;unfold aio at hc;split at hc<;>try (cases hc;done)
  rename_i x xs at_ aX;split at hc<;>try (cases hc;done)
  rename_i f fi ca hx;split at hc<;>try (cases hc;done)
  rename_i ws xP;cases hc;exact⟨x,xs,at_,fi,ca,ws,aX,hx,xP,rfl⟩
theorem XN(a b c:List Value):(⟨a⟩:Array Value)++⟨b⟩++⟨c⟩=⟨a++b++c⟩:=by simp
def r8(ps:List Nat)(v:Value)(Y:Cells):Option JS->Option JS
 |some ⟨.ops ops (i::todo) k,e,w,kn⟩=>match ops[i]? with
  |some p=>some ⟨.ops ops todo k,upd p.dst v e,.l Y::gG ps 0 w,kn⟩
  |none=>none
 |_=>none
def iJ(n:Nat)(f:Oper->Env->Option β):Option JS->Option β
 |some ⟨.ops a b c,e,w,kn⟩=>fp n f (some ⟨.ops a b c,e,w,kn⟩)
 |_=>none
def gK{f:Oper->Env->Option β}{r:β}(h:iJ n f o=some r):∃ops i todo k e w kn p,o=some ⟨.ops ops (i::todo) k,e,w,kn⟩/\ops[i]?=some p/\bN ops n e p.guard=true/\f p e=some r:=by
 unfold iJ at h;split at h<;>try (cases h;done)
 rename_i ops todo k e w kn;obtain⟨s,p,e',hs,hh,hf⟩:=AJ h;cases hs;cases todo with
 |nil=>cases hh
 |cons i todo=>
  obtain⟨ho,rfl,hw⟩:=abc hh;exact⟨ops,i,todo,k,e',w,kn,p,rfl,ho,hw rfl,hf⟩
def aBj(ps lp:List Nat):Option JS->Option Cells
 |some s=>fV lp (some {s with rw:=gG ps 0 s.rw})
 |none=>none
theorem tF{ops:Array Oper}{k:List KI}{w:List Sg}{kn:Kn}{p:Oper}{v:Value}(ho:ops[i]?=some p):r8 ps v Y (some ⟨.ops ops (i::todo) k,e,w,kn⟩)=some ⟨.ops ops todo k,upd p.dst v e,.l Y::gG ps 0 w,kn⟩:=by
 grind [r8]
def jcL{own:Cells}(ps lp:List Nat)(B:Cells)(hf:∀cK,Sub X.ro cK->Knows cK B->eT X.P f vs cK own Φ)(hj:∀v Y,Φ v Y->J X (r8 ps v Y o))(h1:iJ X.n (zt X.P X.n) o=some (f,vs):=by kernel_rfl)(h2:fV ps o=some own:=by kernel_rfl)(h3:aBj ps lp o=some B:=by kernel_rfl):J X o:=by
 obtain⟨ops,i,todo,k,e,w,kn,p,rfl,ho,hw,hc⟩:=gK h1;obtain⟨ff,x,xs,at_,fi,ca,ws,aX,hx,xP,rfl⟩:=we hc;intro ep;rcases p with ⟨dst,op,ty,pos,gf,g⟩
 dsimp only at aX;subst aX;have hp:=dS h2;refine aoT (own:=own) (B:=B) (Φ:=Φ) X.hC ho hw hx ff xP (XN fi ws ca) hp (λy hy=>(dS h3).mem_iff.2 (List.mem_append_left _ hy)) (λcK hs hB=>hf cK hs hB) (λv Y uK=>?_);have:=hj v Y uK;simp only[r8,ho] at this;have:=this ep;simp only[JP,lG] at this;exact this
def jc{own:Cells}(ps:List Nat)(hf:eT X.P f vs X.ro own Φ)(hj:∀v Y,Φ v Y->J X (r8 ps v Y o))(h1:iJ X.n (zt X.P X.n) o=some (f,vs):=by kernel_rfl)(h2:fV ps o=some own:=by kernel_rfl):J X o:=by
 obtain⟨ops,i,todo,k,e,w,kn,p,rfl,ho,hw,hc⟩:=gK h1;obtain⟨ff,x,xs,at_,fi,ca,ws,aX,hx,xP,rfl⟩:=we hc;intro ep;rcases p with ⟨dst,op,ty,pos,gf,g⟩
 dsimp only at aX;subst aX;have hp:=dS h2;refine zd (fi:=⟨fi⟩) (ca:=⟨ca⟩) (ws:=fi++ws++ca) X.hC ho hw hx ff xP (XN fi ws ca) (Fn.weaken X.hC (eT.aDT (s:=⟨X.ro,den w⟩) hp hf)) (λv' s' hr=>?_) (λch s' hr=>by obtain⟨_,_,e,_⟩:=hr;cases e) (λs' hr=>by obtain⟨_,_,e,_⟩:=hr;cases e);obtain⟨v,Y,hv,uK,hle⟩:=hr;cases hv;have:=hj _ Y uK;simp only[r8,ho] at this;have:=this ep;simp only[JP,lG] at this;exact this.more X.hC hle
def jp(lp:List Nat)(B:Cells)(hf:∀cK,Sub X.ro cK->Knows cK B->iI X.P f vs cK V)(hj:J X (Kj B V o))(h1:fp X.n (zt X.P X.n) o=some (f,vs):=by kernel_rfl)(h3:fV lp o=some B:=by kernel_rfl):J X o:=by
 refine jGN h1 h3 (λs p e ho hh hc=>?_) hj;obtain⟨ff,x,xs,at_,fi,ca,ws,aX,hx,xP,rfl⟩:=we hc;rcases p with ⟨dst,op,ty,pos,gf,g⟩
 dsimp only at aX;subst aX;refine⟨rfl,λs0 HJ Fh ops i vJ rest hw s' hs todo Q hk=>?_⟩;have hez:Ext ⟨X.ro,B⟩ s':=λb ob hb=>hs _ _ (hb.elim (λh=>HJ _ _ (.inl h)) λh=>Fh (b,ob) h);exact aab X.hC vJ hw (cO hx) ff (Ft xP) (XN fi ws ca) hez (λcK h1=>hf cK (OW h1) λy hy=>h1 _ _ (.inr hy)) hk
end
attribute [irreducible] iJ Su O1 aFC r8 aBj
end Go.L
