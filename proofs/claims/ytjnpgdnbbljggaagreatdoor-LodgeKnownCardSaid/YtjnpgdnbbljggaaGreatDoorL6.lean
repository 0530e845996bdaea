/- Part 6 of the proof. -/
import Derived.Test.YtjnpgdnbbljggaaGreatDoorL5
import Derived.KernelRfl
import GoSem.Extern.Table
set_option maxRecDepth 100000
set_option maxHeartbeats 4000000
set_option linter.all false
namespace Go.L
open Go Go.Conc Go.Proofs
open Go.ConcR (KK wgBlock WgAt stA smA rd wr)
open Go.ConcM (OsLater)
variable {ro:Nat→Option Obj} {x y:Operand} {v:Value} {α β:Type} {T T' E T2:TypeId} {sv ws main:Bool} {vs l:List Value} {b:ByteArray} {f:FuncId} {sz it n off p r szo:Nat} {xs:Array Operand} {at_:Array TypeId} {e:Env} {todo kR:List Nat} {s:St} {fz:Nat×Nat} {o:Oper} {cs:List Frame} {Live:World→Prop} {args fi ca:Array Value} {w':World}
noncomputable def mfn(f:Nat):Func:=match MP.funcs[f]? with
 |some fn=>fn
 |none=>default
noncomputable def hdE(l:List Frame):Option (Func×Array Value):=l.head?.bind (wI MP)
theorem aRU(W:Nat)(v:Nat→Nat→Value):hdE (cH (sL0 W) v)=some (mfn 226,#[mp W 0,iW 0,iW 1]):=by kernel_rfl
theorem aEY(W:Nat)(y it:Value)(aw sv:Bool)(x:Int)(v:Nat→Nat→Value):hdE (cH (sSq W y it aw sv x) v)=some (mfn 268,#[it]):=by kernel_rfl
theorem aE0(W:Nat)(y it:Value)(sv:Bool)(x n:Int)(v:Nat→Nat→Value):hdE (cH (sC1 W y it sv x n) v)=some (mfn 226,#[mp W 0,iW x,iW n]):=by kernel_rfl
theorem aEZ(W:Nat)(y it:Value)(aw sv:Bool)(x n:Int)(v:Nat→Nat→Value):hdE (cH (sC2 W y it aw sv x n) v)=some (mfn 226,#[mp W 0,iW x,iW n]):=by kernel_rfl
theorem aRT(W:Nat)(sv b:Bool)(v:Nat→Nat→Value):hdE (cH (sT1 W sv b) v)=some (mfn 271,#[]):=by kernel_rfl
theorem aRS(W:Nat)(y:Value)(v:Nat→Nat→Value):hdE (cH (sT2 W y) v)=some (mfn 271,#[]):=by kernel_rfl
theorem aEX(W:Nat)(x n:Int)(v:Nat→Nat→Value):hdE (cH (sUc W x n) v)=some (mfn 226,#[mp W 0,iW x,iW n]):=by kernel_rfl
theorem F7:Ca (mfn 226) (Extern.Atomic.casT (.int .i32)):=⟨by kernel_rfl,by kernel_rfl,by kernel_rfl,by kernel_rfl⟩
theorem SR:Ca (mfn 268) Extern.Sync.canSpin:=⟨by kernel_rfl,by kernel_rfl,by kernel_rfl,by kernel_rfl⟩
theorem abz:Ca (mfn 271) Extern.OsHooks.nano:=⟨by kernel_rfl,by kernel_rfl,by kernel_rfl,by kernel_rfl⟩
theorem VY:(mfn 271).norace=true:=by kernel_rfl
abbrev BkT:=Option (List (Nat×Value)×List (Nat×Nat)×List Nat×List Nat×Bl)
noncomputable def LG(go:Frame→List Frame→Bl):List Frame→BkT
 |f::s=>match SV MP 225 dr f s with
  |some (jO,dH,ws,ks,b1,b2)=>some (ws,ks,b1,b2,go jO dH)
  |none=>none
 | []=>none
def goD(P:Program)(ty:TypeId):Nat→Frame→List Frame→Bl
 |0,_,_=>none
 |n+1,fr,eB=>match GN P ty dr fr eB with
  |some (.go jO dH,[],[],[])=>goD P ty n jO dH
  |some (.ajL,[],[],[])=>some []
  |_=>none
theorem aA4(W:Nat)(v:Nat→Nat→Value):LG (goR MP 225 300) (cH (aq7 W) v)=some ([],[(4,0)],[],[W],some []):=by kernel_rfl
theorem aA3(W:Nat)(v:Nat→Nat→Value):LG (goR MP 225 300) (cH (aq6 W) v)=some ([],[(4,0)],[],[W],some []):=by kernel_rfl
theorem aMm(v:Nat→Nat→Value):LG (goD MP 225 300) (cH sUe v)=some ([],[(2,0)],[],[],some []):=by kernel_rfl
noncomputable def abJ:List Frame→Bool
 |f::_=>mayWake MP (G f [])
 | []=>false
theorem Xi(W:Nat)(v:Nat→Nat→Value):abJ (cH (acG W) v)=true:=by kernel_rfl
theorem Xh(W:Nat)(v:Nat→Nat→Value):abJ (cH (acF W) v)=true:=by kernel_rfl
theorem Zw:∀L W S,∀c,c <8→(⟨L,W,S,c⟩:Wd)∈words:=by intro L W S;cases L<;>cases W<;>cases S<;>decide+kernel
theorem FW{a b:Wd}(h:a.enc=b.enc):a=b:=by
 obtain⟨L,W,S,c⟩:=a
 obtain⟨L',W',S',c'⟩:=b
 unfold Wd.enc at h
 cases L<;>cases W<;>cases S<;>cases L'<;>cases W'<;>cases S'<;>simp at h ⊢ <;>omega
theorem uz{o:Wd}(h:o.c≤7):o∈words:=Zw o.L o.W o.S o.c (by omega)
theorem WU{o:Wd}{aw:Bool}(h:o.c≤7)(h1:aw=true→o.W=true∧o.S=false)(h2:sv=true→aw=true):(o,aw,sv)∈hcs:=by
 refine List.mem_flatMap.2 ⟨o,uz h,?_⟩
 cases aw
 ·cases sv
  ·exact List.mem_cons_self ..
  cases h2 rfl
 obtain⟨hW,hS⟩:=h1 rfl
 rw[hW,hS]
 cases sv<;>simp
theorem q5{P:Program}{A B:Goroutine→Prop}(h:∀g,A g→∃m,Pure P main Live B m g):∀ {n:Nat} {g:Goroutine},Pure P main Live A n g→∃m,Pure P main Live B m g
 |0,_,ha=>h _ ha
 |n+1,_,⟨h1,g',h2,h3⟩=>by
  obtain⟨m,hm⟩:=q5 h h3
  exact⟨m+1,h1,g',h2,hm⟩
theorem pure_mono{P:Program}{A B:Goroutine→Prop}(h:∀g,A g→B g){g:Goroutine}(hp:Pure P main Live A n g):∃m,Pure P main Live B m g:=q5 (fun g ha=>⟨0,h g ha⟩) hp
theorem iJ{W:Nat}{w:World}{a b:Int}(h:MuAt 225 W w a b):fF 225 W w (cW a)∧fF 225 W w (cS b)∧fF 225 W w dr:=
 ⟨⟨_,_,h,(fun x hx=>by cases hx;rfl),(fun x hx=>by cases hx)⟩,⟨_,_,h,(fun x hx=>by cases hx),(fun x hx=>by cases hx;rfl)⟩,⟨_,_,h,(fun x hx=>by cases hx),(fun x hx=>by cases hx)⟩⟩
theorem vz{W:Nat}:∀w,lJ 225 W w→fF 225 W w dr:=fun w ⟨a,b,h⟩=>(iJ h).2.2
theorem lP{W:Nat}{w:World}{o:Wd}{m:Nat}(h:MuAt 225 W w o.enc (m:Nat))(hh:w'.heap=w.heap)(hl:iC w w'):yf 225 W w w' o m:=⟨by rw[hh],fun b _=>by rw[hh],hl,by unfold MuAt;rw[hh];exact h⟩
theorem iu{W:Nat}{w:World}{o:Wd}{m:Nat}(h:MuAt 225 W w o.enc (m:Nat)):yf 225 W w (CV W w []) o m:=lP h rfl (iC.refl w)
theorem qM{W:Nat}{w:World}{o o':Wd}{m:Nat}{e:Int}(h:MuAt 225 W w o.enc (m:Nat))(he:e=o'.enc):yf 225 W w (w.setCell ⟨W,0,none⟩ (iW e)) o' m:=by
 subst he
 refine⟨by simp[World.setCell],fun b hb=>by simp[World.setCell,Array.getElem?_modify,Ne.symm hb],⟨OsLater.refl _,rfl⟩,?_⟩
 unfold MuAt at h ⊢
 simp[World.setCell,Array.getElem?_modify,h,iW]
theorem qN{W:Nat}{w:World}{o:Wd}{m m':Nat}(h:MuAt 225 W w o.enc (m:Nat)):yf 225 W w (w.setCell ⟨W,1,none⟩ (.int .u32 (m':Nat))) o m':=by
 refine⟨by simp[World.setCell],fun b hb=>by simp[World.setCell,Array.getElem?_modify,Ne.symm hb],⟨OsLater.refl _,rfl⟩,?_⟩
 unfold MuAt at h ⊢
 simp[World.setCell,Array.getElem?_modify,h]
def okK(k:Nat×Nat):Bool:=k.1 != 5&&k.1 != 6&&(if k.1==3||k.1==4 then k.2==0 else true)
theorem arG{W:Nat}{ks:List (Nat×Nat)}(h:ks.all okK=true):∀e∈(ks.map (xX W)).toArray,oV W e:=by
 intro e he
 simp only[List.mem_toArray,List.mem_map] at he
 obtain⟨⟨k,o⟩,hk,rfl⟩:=he
 have:=List.all_eq_true.1 h _ hk
 simp only[okK,Bool.and_eq_true,bne_iff_ne,ne_eq] at this
 obtain⟨⟨h5,h6⟩,h3⟩:=this
 unfold xX
 match k,h5,h6,h3 with
 |0,_,_,_=>exact .inr (.inr (.inr (.inr ⟨_,_,rfl,rfl⟩)))
 |1,_,_,_=>exact .inl rfl
 |2,_,_,_=>exact .inr (.inl rfl)
 |3,_,_,h3=>simp at h3;subst h3;exact .inr (.inr (.inl rfl))
 |4,_,_,h3=>simp at h3;subst h3;exact .inr (.inr (.inr (.inl rfl)))
 |5,h5,_,_=>exact absurd rfl h5
 |6,_,h6,_=>exact absurd rfl h6
 |7,_,_,_=>exact .inr (.inr (.inr (.inr ⟨_,_,rfl,rfl⟩)))
 |k+8,_,_,_=>exact .inr (.inr (.inr (.inr ⟨_,_,rfl,rfl⟩)))
section
variable (W:Nat)
def kH:aJ→List Frame→Goroutine→Prop
 | .ld _,cs,g=>AtD (sLd W) cs g
 | .l0 _,cs,g=>AtD (sL0 W) cs g
 | .r0 _,cs,g=>AtD (sR0 W) cs g
 | .sq _ o aw sv it ws,cs,g=>o.c≤7∧∃n,AtD (sSq W (yv ws n) (iT (it:Nat)) aw sv o.enc) cs g
 | .c1 _ o aw sv it ws,cs,g=>∃n,AtD (sC1 W (yv ws n) (iT (it:Nat)) sv o.enc (Wd.enc ⟨o.L,true,o.S,o.c⟩)) cs g
 | .r1 _ aw sv it ws,cs,g=>∃n,AtD (sR1 W (yv ws n) (iT ((it+1:Nat):Int)) aw sv) cs g
 | .c2 _ o aw sv it ws,cs,g=>∃n,AtD (sC2 W (yv ws n) (iT (it:Nat)) aw sv o.enc (o.nw aw sv).enc) cs g
 | .r3 _ aw sv it ws,cs,g=>∃n,AtD (sR3 W (yv ws n) (iT (it:Nat)) aw sv) cs g
 | .t1 _ sv,cs,g=>∃b,AtD (sT1 W sv b) cs g
 | .s1 _ sv,cs,g=>∃(y:Nat) (b:Bool),AtD (sS1 W (iT y) sv b) cs g
 | .t2 _ sv,cs,g=>sv=false∧∃y:Nat,AtD (sT2 W (iT y)) cs g
 | .r2 _ sv,cs,g=>∃y:Nat,AtD (sR2 W (iT y) sv) cs g
 | .a1 _ ex,cs,g=>AtD (sA1 W (dlt ex)) cs g
 | .le _,cs,g=>AtD (aq5 W) cs g∨AtD (ajD W) cs g
 | .la _,cs,g=>AtD (aq7 W) cs g∨AtD (aq6 W) cs g
 | .ui _,cs,g=>AtD (sUi W) cs g
 | .ur _,cs,g=>AtD (sUr W) cs g
 | .ud _,cs,g=>AtD (sUd W) cs g
 | .u0 _,cs,g=>AtD (sU0 W) cs g
 | .uc _ o,cs,g=>AtD (sUc W o.enc (Wd.enc ⟨o.L,true,o.S,o.c-1⟩)) cs g
 | .ux _,cs,g=>AtD (sUx W) cs g
 | .us _,cs,g=>AtD (acG W) cs g∨AtD (acF W) cs g
 | .ue _,cs,g=>AtD sUe cs g
 | .out _,_,_=>False
 | .own _,_,_=>False
end
theorem aej{W:Nat}{x:aJ}{g:Goroutine}(h:kH W x cs g):g.status= .running∧g.offers=none:=by
 cases x<;>simp only[kH] at h
 case sq=>obtain⟨_,_,h⟩:=h;exact h.run
 case t2=>obtain⟨_,_,h⟩:=h;exact h.run
 case s1=>obtain⟨_,_,h⟩:=h;exact h.run
 case le=>exact h.elim AtD.run AtD.run
 case la=>exact h.elim AtD.run AtD.run
 case us=>exact h.elim AtD.run AtD.run
 all_goals first|exact h.run| (obtain⟨_,h⟩:=h;exact h.run)
def jU(W:Nat)(x:aJ)(o:Wd)(m:Nat)(cs:List Frame)(g:Goroutine)(w:World):Prop:=
 ∃g' w' es x' o' m',Nx x o m x' o' m'∧stepG MP false g w= .go g' w' es∧yf 225 W w w' o' m'∧(∀e∈es,oV W e)∧deafBehind x.deaf es=x'.deaf∧
  (∀k,x= .ur k→es= #[said (.releaseMerge (stA W))])∧((∃k,x= .us k)→mayWake MP g=true)∧∃n,Pure MP false (lJ 225 W) (kH W x' cs) n g'
section
variable {W:Nat} {x x':aJ} {o o':Wd} {m m':Nat} {cs:List Frame} {g:Goroutine} {w w':World} {ds Dz:List FD}
theorem eo{st:Frame→Bool}{c:DY}{ws:List (Nat×Value)}{ks:List (Nat×Nat)}(cb:AtD ds cs g)(h:∀v,Comes W Dz ws ks (iG st MP 225 c (cH ds v)))(hc:fF 225 W w c)(Di:Nx x o m x' o' m')(QO:yf 225 W w (CV W w ws) o' m')
 (Xz:ks.all okK=true)(hde:deafBehind x.deaf (ks.map (xX W)).toArray=x'.deaf)(hur:∀k,x= .ur k→ks=[(3,0)])(hus:(∃k,x= .us k)→mayWake MP g=true)(vG:∀g,AtD Dz cs g→∃n,Pure MP false (lJ 225 W) (kH W x' cs) n g):jU W x o m cs g w:=by
 obtain⟨g',h1,n,h2⟩:=Mw (main:=false) (Live:=lJ 225 W) vz h cb
 obtain⟨n',h3⟩:=q5 vG h2
 exact⟨g',_,_,x',o',m',Di,h1 w hc,QO,arG Xz,hde,fun k e=>by rw[hur k e];rfl,hus,n',h3⟩
theorem pg{st:Frame→Bool}{r:Func×Array Value}{v0:Value}(cb:AtD ds cs g)(he:∀v,hdE (cH ds v)=some r)(h:∀v,Comes W Dz [] [] (zc st MP 225 v0 (cH ds v))){es:Array Event}
 (bE:∀f fs,wI MP f=some r→stepG MP false (G f fs) w= .go (G (f.finish v0) fs) w' es)(Di:Nx x o m x' o' m')(QO:yf 225 W w w' o' m')
 (Xz:∀e∈es,oV W e)(hde:deafBehind x.deaf es=x'.deaf)(hur:∀k,x≠ .ur k)(hus:∀k,x≠ .us k)(vG:∀g,AtD Dz cs g→∃n,Pure MP false (lJ 225 W) (kH W x' cs) n g):jU W x o m cs g w:=by
 obtain⟨f,fs,rfl,h1,n,h2⟩:=avd (main:=false) (Live:=lJ 225 W) (e:=wI MP) vz he h cb
 obtain⟨n',h3⟩:=q5 vG h2
 exact⟨_,w',es,x',o',m',Di,bE f _ h1,QO,Xz,hde,fun k e=>absurd e (hur k),fun⟨k,e⟩=>absurd e (hus k),n',h3⟩
theorem zf{x:aJ}{g:Goroutine}(h:kH W x cs g):∃n,Pure MP false (lJ 225 W) (kH W x cs) n g:=⟨0,h⟩
theorem Yp{k:Nat}{aw:Bool}(hc:o.c≤7)(h1:aw=true→o.W=true∧o.S=false)(h2:sv=true→aw=true)(h:AtD (sHd W (yv ws n) (iT (it:Nat)) aw sv o.enc) cs g):∃n,Pure MP false (lJ 225 W) (kH W (AI k o aw sv it ws) cs) n g:=by
 obtain⟨m,hm⟩:=acJ (main:=false) (Live:=lJ 225 W) vz (fun v=>sj (aMx W (yv ws n) (iT (it:Nat)) v) (WU hc h1 h2)) h
 refine pure_mono (fun g hg=>?_) hm
 unfold AI
 simp only[aga] at hg
 split<;>rename_i hh
 ·rw[if_pos hh] at hg;exact⟨hc,n,hg⟩
 rw[if_neg hh] at hg;exact⟨n,hg⟩
theorem ach(W:Nat):∀e∈(#[⟨.cell ⟨W,0,none⟩,false,true⟩,⟨.cell ⟨W,0,none⟩,true,true⟩]:Array Event),oV W e:=by
 intro e he;simp at he;rcases he with rfl|rfl<;>exact .inr (.inr (.inr (.inr ⟨_,_,rfl,rfl⟩)))
theorem Wi(W:Nat):∀e∈(#[⟨.cell ⟨W,0,none⟩,false,true⟩]:Array Event),oV W e:=by
 intro e he;simp at he;subst he;exact .inr (.inr (.inr (.inr ⟨_,_,rfl,rfl⟩)))
theorem fR{a b:Int}(h:MuAt 225 W w a b):w.cell? ⟨W,0,none⟩=some (.int .i32 a)∧w.frozen? ⟨W,0,none⟩=false:=by
 unfold MuAt at h
 exact⟨by simp[World.cell?,h],by simp[World.frozen?,h]⟩
end
section
variable {W:Nat} {o:Wd} {m:Nat} {cs:List Frame} {g:Goroutine} {w:World}
theorem ag1{P:Program}{fr:Frame}{fn:Func}{k:IntKind}{n:Int}(h:wI P fr=some (fn,#[.int k n]))(hE:Ca fn Extern.Sync.canSpin)(h4:4≤n)(cs:List Frame):
 stepG P main (G fr cs) w= .go (G (fr.finish (.bool false)) cs) w #[]:=
 BT h hE (by rw[canSpin_eq,if_pos (by omega)];rfl) (fun f=>by rw[canSpin_eq,if_pos (by omega)];rfl) (by simp) cs
theorem aqd(y:Nat):∃ws n,(iT y:Value)=yv ws n:=by
 cases y with
 |zero=>exact⟨false,0,rfl⟩
 |succ n=>exact⟨true,n,rfl⟩
theorem Uv(h:it <4):itn (it:Nat)=iT ((it+1:Nat):Int):=by
 unfold itn
 have:∀k,k <4→IntKind.wrap .i64 ((k:Nat)+1:Int)=((k+1:Nat):Int):=by decide+kernel
 rw[this it h]
theorem am9:∀c,c <8→1≤c→∀ex,IntKind.wrap .i32 (Wd.enc ⟨false,false,true,c⟩+dlt ex)=Wd.enc ⟨true,false,true&& !ex,c-1⟩:=by
 intro c hc h1 ex
 have:∀c,c <8→1≤c→IntKind.wrap .i32 (Wd.enc ⟨false,false,true,c⟩+(-11))=Wd.enc ⟨true,false,false,c-1⟩∧IntKind.wrap .i32 (Wd.enc ⟨false,false,true,c⟩+(-7))=Wd.enc ⟨true,false,true,c-1⟩:=by decide+kernel
 obtain⟨h2,h3⟩:=this c hc h1
 cases ex
 ·exact h3
 exact h2
theorem Eb(w:World):iC w w.asked:=⟨OsLater.refl _,rfl⟩
theorem EJ(w:World):iC w w.later:=⟨⟨w.tick,rfl⟩,rfl⟩
theorem aAb{k:Nat}(cb:kH W (aJ.ld k) cs g)(hm:MuAt 225 W w o.enc (m:Nat))(hc:o.c≤7)(mh:m≤1)(bF:(aJ.ld k).Ok)(dJ:kQ (aJ.ld k) o)(hS:(aJ.ld k).zm=true→m=1):jU W (aJ.ld k) o m cs g w:=by
 obtain⟨c0,Fv,cn⟩:=iJ hm
 obtain⟨fY,zt⟩:=fR hm
 exact eo (o':=o) (m':=m) cb (aMw W) cn .ld (iu hm) rfl rfl (fun k e=>by cases e) (fun⟨k,e⟩=>by cases e) fun g hg=>zf (x:= .l0 k) hg
theorem aAd{k:Nat}(cb:kH W (aJ.l0 k) cs g)(hm:MuAt 225 W w o.enc (m:Nat))(hc:o.c≤7)(mh:m≤1)(bF:(aJ.l0 k).Ok)(dJ:kQ (aJ.l0 k) o)(hS:(aJ.l0 k).zm=true→m=1):jU W (aJ.l0 k) o m cs g w:=by
 obtain⟨c0,Fv,cn⟩:=iJ hm
 obtain⟨fY,zt⟩:=fR hm
 by_cases e:o=⟨false,false,false,0⟩
 ·subst e
  exact eo (o':=⟨true,false,false,0⟩) (m':=m) cb (aA5 W) c0 .l0y (qM hm rfl) rfl rfl (fun k e=>by cases e) (fun⟨k,e⟩=>by cases e) fun g hg=>zf (x:= .le k) (.inl hg)
 exact pg (o':=o) (m':=m) cb (aRU W) (aA6 W) (fun f fs hf=>vM hf F7 fY zt (fun h=>e (FW (b:=⟨false,false,false,0⟩) h)) fs) (.l0n e) (lP hm rfl (iC.refl w)) (Wi W) rfl (fun k e=>by cases e) (fun k e=>by cases e) fun g hg=>zf (x:= .r0 k) hg
theorem az9{k:Nat}(cb:kH W (aJ.r0 k) cs g)(hm:MuAt 225 W w o.enc (m:Nat))(hc:o.c≤7)(mh:m≤1)(bF:(aJ.r0 k).Ok)(dJ:kQ (aJ.r0 k) o)(hS:(aJ.r0 k).zm=true→m=1):jU W (aJ.r0 k) o m cs g w:=by
 obtain⟨c0,Fv,cn⟩:=iJ hm
 obtain⟨fY,zt⟩:=fR hm
 exact eo (o':=o) (m':=m) cb (aMv W o.enc) c0 .r0 (iu hm) rfl (by unfold AI;split<;>rfl) (fun k e=>by cases e) (fun⟨k,e⟩=>by cases e) fun g hg=>Yp (ws:=false) (n:=0) (it:=0) hc (fun e=>by cases e) (fun e=>by cases e) hg
theorem akF{q:Wd}{aw:Bool}(hq:q.c≤7)(hL:q.L=true)(hSt:q.S=false)(hW:aw=true→q.W=true)(hsv:sv=true→aw=true):(q,aw,sv)∈qcs:=
 List.mem_filter.2 ⟨WU hq (fun e=>⟨hW e,hSt⟩) hsv,by simp[hL,hSt]⟩
theorem avu{q:Wd}{aw:Bool}(h:(q,aw,sv)∈qcs)(y it:Value)(v:Nat→Nat→Value):Comes W (sC2 W y it aw sv q.enc (q.nw aw sv).enc) [] [] (zc tE MP 225 (bT false) (cH (sSq W y it aw sv q.enc) v)):=by
 have:=sj (aAW W y it v) h
 simp only[acZ,ac0] at this
 exact this
theorem avt{q:Wd}{aw:Bool}(h:(q,aw,sv)∈qcs)(y:Value)(n:Int)(v:Nat→Nat→Value):Comes W (WA W y n (q,aw,sv)) [] [] (zc tE MP 225 (bT true) (cH (sSq W y (iT n) aw sv q.enc) v)):=by
 have:=sj (aAV W y n v) h
 simp only[acY] at this
 exact this
theorem aeh{k:Nat}{q:Wd}{aw:Bool}(hm:MuAt 225 W w o.enc (m:Nat))(h:(q,aw,sv)∈qcs)(cb:AtD (sSq W (yv ws n) (iT (it:Nat)) aw sv q.enc) cs g)(hl:iC w w')(hh:w'.heap=w.heap)
 (bE:∀f fs,wI MP f=some (mfn 268,#[iT (it:Nat)])→stepG MP false (G f fs) w= .go (G (f.finish (.bool false)) fs) w' #[]):jU W (.sq k q aw sv it ws) o m cs g w:=
 pg (o':=o) (m':=m) cb (aEY W _ _ _ _ _) (avu h (yv ws n) (iT (it:Nat))) bE .sqn (lP hm hh hl) (by simp) rfl (fun k e=>by cases e) (fun k e=>by cases e) fun g hg=>zf (x:= .c2 k q aw sv it ws) ⟨n,hg⟩
theorem arZ{k:Nat}{q:Wd}{aw:Bool}(hm:MuAt 225 W w o.enc (m:Nat))(h:(q,aw,sv)∈qcs)(cb:AtD (sSq W (yv ws n) (iT (it:Nat)) aw sv q.enc) cs g)(h4:it <4)(OH:w.spins=true):jU W (.sq k q aw sv it ws) o m cs g w:=by
 refine pg (o':=o) (m':=m) cb (aEY W _ _ _ _ _) (avt h (yv ws n) (it:Nat)) (w':=w.asked) (es:= #[]) (fun f fs hf=>by have:=Li (main:=false) (w:=w) hf SR (by omega) fs;rw[OH] at this;exact this)
  (.sqy h4) (lP hm rfl (Eb w)) (by simp) (by split<;>rfl) (fun k e=>by cases e) (fun k e=>by cases e) fun g hg=>?_
 simp only[WA] at hg
 split<;>rename_i hh
 ·rw[if_pos hh] at hg;exact zf (x:= .c1 k q aw sv it ws) ⟨n,hg⟩
 rw[if_neg hh,Uv h4] at hg;exact zf (x:= .r1 k aw sv it ws) ⟨n,hg⟩
theorem az4{k:Nat}{q:Wd}{aw:Bool}(cb:kH W (aJ.sq k q aw sv it ws) cs g)(hm:MuAt 225 W w o.enc (m:Nat))(hc:o.c≤7)(mh:m≤1)(bF:(aJ.sq k q aw sv it ws).Ok)(dJ:kQ (aJ.sq k q aw sv it ws) o)(hS:(aJ.sq k q aw sv it ws).zm=true→m=1):jU W (aJ.sq k q aw sv it ws) o m cs g w:=by
 obtain⟨hq,n,cb⟩:=cb
 obtain⟨hL,hSt,hW,hsv,hit⟩:=bF
 have fM:=akF hq hL hSt hW hsv
 by_cases h4:it <4
 ·cases OH:w.spins with
  |false=>exact aeh hm fM cb (Eb w) rfl fun f fs hf=>by have:=Li (main:=false) (w:=w) hf SR (by omega) fs;rw[OH] at this;exact this
  |true=>exact arZ hm fM cb h4 OH
 exact aeh hm fM cb (iC.refl w) rfl fun f fs hf=>ag1 hf SR (by omega) fs
theorem aAf{k:Nat}{q:Wd}{aw:Bool}(cb:kH W (aJ.c1 k q aw sv it ws) cs g)(hm:MuAt 225 W w o.enc (m:Nat))(hc:o.c≤7)(mh:m≤1)(bF:(aJ.c1 k q aw sv it ws).Ok)(dJ:kQ (aJ.c1 k q aw sv it ws) o)(hS:(aJ.c1 k q aw sv it ws).zm=true→m=1):jU W (aJ.c1 k q aw sv it ws) o m cs g w:=by
 obtain⟨c0,Fv,cn⟩:=iJ hm
 obtain⟨fY,zt⟩:=fR hm
 obtain⟨n,cb⟩:=cb
 obtain⟨hL,hSt,hW,hqc,haw,hsv,hit⟩:=bF
 by_cases e:o=q
 ·subst e
  exact pg (o':=⟨o.L,true,o.S,o.c⟩) (m':=m) cb (aE0 W _ _ _ _ _) (aA9 W _ _ _ _ _) (fun f fs hf=>Dx hf F7 fY zt fs) .c1y (qM hm rfl) (ach W) rfl (fun k e=>by cases e) (fun k e=>by cases e) fun g hg=>zf (x:= .r1 k true sv it ws) ⟨n,by rw[Uv hit] at hg;exact hg⟩
 exact pg (o':=o) (m':=m) cb (aE0 W _ _ _ _ _) (aBa W _ _ _ _ _) (fun f fs hf=>vM hf F7 fY zt (fun h=>e (FW h)) fs) (.c1n e) (lP hm rfl (iC.refl w)) (Wi W) rfl (fun k e=>by cases e) (fun k e=>by cases e) fun g hg=>zf (x:= .r1 k aw sv it ws) ⟨n,by rw[Uv hit] at hg;rw[haw];exact hg⟩
theorem az8{k:Nat}{aw:Bool}(cb:kH W (aJ.r1 k aw sv it ws) cs g)(hm:MuAt 225 W w o.enc (m:Nat))(hc:o.c≤7)(mh:m≤1)(bF:(aJ.r1 k aw sv it ws).Ok)(dJ:kQ (aJ.r1 k aw sv it ws) o)(hS:(aJ.r1 k aw sv it ws).zm=true→m=1):jU W (aJ.r1 k aw sv it ws) o m cs g w:=by
 obtain⟨c0,Fv,cn⟩:=iJ hm
 obtain⟨fY,zt⟩:=fR hm
 obtain⟨n,cb⟩:=cb
 exact eo (o':=o) (m':=m) cb (aMu W _ _ aw sv o.enc) c0 .r1 (iu hm) rfl (by unfold AI;split<;>rfl) (fun k e=>by cases e) (fun⟨k,e⟩=>by cases e) fun g hg=>Yp (ws:=ws) (n:=n) (it:=it+1) hc dJ bF.1 hg
theorem aAe{k:Nat}{q:Wd}{aw:Bool}(cb:kH W (aJ.c2 k q aw sv it ws) cs g)(hm:MuAt 225 W w o.enc (m:Nat))(hc:o.c≤7)(mh:m≤1)(bF:(aJ.c2 k q aw sv it ws).Ok)(dJ:kQ (aJ.c2 k q aw sv it ws) o)(hS:(aJ.c2 k q aw sv it ws).zm=true→m=1):jU W (aJ.c2 k q aw sv it ws) o m cs g w:=by
 obtain⟨c0,Fv,cn⟩:=iJ hm
 obtain⟨fY,zt⟩:=fR hm
 obtain⟨n,cb⟩:=cb
 by_cases e:o=q
 ·subst e
  refine pg (o':=o.nw aw sv) (m':=m) cb (aEZ W _ _ _ _ _ _) (fun v=>sj (aA7 W n (iT (it:Nat)) aw sv (o.nw aw sv).enc v) (x:=(o,ws)) (List.mem_flatMap.2 ⟨o,uz hc,by cases ws<;>simp⟩)) (fun f fs hf=>Dx hf F7 fY zt fs) .c2y (qM hm rfl) (ach W)
   (by split<;>(try split)<;>rfl) (fun k e=>by cases e) (fun k e=>by cases e) fun g hg=>?_
  simp only[ahS] at hg
  split<;>rename_i hh
  ·rw[if_pos hh] at hg
   cases ws
   ·exact zf (x:= .t1 k sv) ⟨false,hg⟩
   exact zf (x:= .s1 k sv) ⟨n+1,true,hg⟩
  rw[if_neg hh] at hg;exact zf (x:= .le k) (.inr hg)
 exact pg (o':=o) (m':=m) cb (aEZ W _ _ _ _ _ _) (aA8 W _ _ _ _ _ _) (fun f fs hf=>vM hf F7 fY zt (fun h=>e (FW h)) fs) (.c2n e) (lP hm rfl (iC.refl w)) (Wi W) rfl (fun k e=>by cases e) (fun k e=>by cases e) fun g hg=>zf (x:= .r3 k aw sv it ws) ⟨n,hg⟩
theorem az6{k:Nat}{aw:Bool}(cb:kH W (aJ.r3 k aw sv it ws) cs g)(hm:MuAt 225 W w o.enc (m:Nat))(hc:o.c≤7)(mh:m≤1)(bF:(aJ.r3 k aw sv it ws).Ok)(dJ:kQ (aJ.r3 k aw sv it ws) o)(hS:(aJ.r3 k aw sv it ws).zm=true→m=1):jU W (aJ.r3 k aw sv it ws) o m cs g w:=by
 obtain⟨c0,Fv,cn⟩:=iJ hm
 obtain⟨fY,zt⟩:=fR hm
 obtain⟨n,cb⟩:=cb
 exact eo (o':=o) (m':=m) cb (aMs W _ _ aw sv o.enc) c0 .r3 (iu hm) rfl (by unfold AI;split<;>rfl) (fun k e=>by cases e) (fun⟨k,e⟩=>by cases e) fun g hg=>Yp (ws:=ws) (n:=n) (it:=it) hc dJ bF.1 hg
theorem az3{k:Nat}(cb:kH W (aJ.t1 k sv) cs g)(hm:MuAt 225 W w o.enc (m:Nat))(hc:o.c≤7)(mh:m≤1)(bF:(aJ.t1 k sv).Ok)(dJ:kQ (aJ.t1 k sv) o)(hS:(aJ.t1 k sv).zm=true→m=1):jU W (aJ.t1 k sv) o m cs g w:=by
 obtain⟨c0,Fv,cn⟩:=iJ hm
 obtain⟨fY,zt⟩:=fR hm
 obtain⟨b,cb⟩:=cb
 exact pg (o':=o) (m':=m) cb (aRT W _ _) (aMr W sv b (iT ((w.os.mono+w.tick:Nat):Int))) (fun f fs hf=>ED hf abz VY fs) .t1 (lP hm rfl (EJ w)) (by simp) rfl (fun k e=>by cases e) (fun k e=>by cases e) fun g hg=>zf (x:= .s1 k sv) ⟨_,b,hg⟩
theorem az5{k:Nat}(cb:kH W (aJ.s1 k sv) cs g)(hm:MuAt 225 W w o.enc (m:Nat))(hc:o.c≤7)(mh:m≤1)(bF:(aJ.s1 k sv).Ok)(dJ:kQ (aJ.s1 k sv) o)(hS:(aJ.s1 k sv).zm=true→m=1):jU W (aJ.s1 k sv) o m cs g w:=by
 obtain⟨c0,Fv,cn⟩:=iJ hm
 obtain⟨fY,zt⟩:=fR hm
 obtain⟨y,b,cb⟩:=cb
 have:=hS rfl
 subst this
 cases sv
 ·exact eo (o':=o) (m':=0) cb (aAY W _ b) Fv .s1 (qN (m':=0) hm) rfl rfl (fun k e=>by cases e) (fun⟨k,e⟩=>by cases e) fun g hg=>zf (x:= .t2 k false) ⟨rfl,y,hg⟩
 exact eo (o':=o) (m':=0) cb (aAX W _ b) Fv .s1s (qN (m':=0) hm) rfl rfl (fun k e=>by cases e) (fun⟨k,e⟩=>by cases e) fun g hg=>zf (x:= .r2 k true) ⟨y,hg⟩
theorem az2{k:Nat}(cb:kH W (aJ.t2 k sv) cs g)(hm:MuAt 225 W w o.enc (m:Nat))(hc:o.c≤7)(mh:m≤1)(bF:(aJ.t2 k sv).Ok)(dJ:kQ (aJ.t2 k sv) o)(hS:(aJ.t2 k sv).zm=true→m=1):jU W (aJ.t2 k sv) o m cs g w:=by
 obtain⟨c0,Fv,cn⟩:=iJ hm
 obtain⟨fY,zt⟩:=fR hm
 obtain⟨rfl,y,f,fs,h1,rfl⟩:=cb
 obtain⟨v,hv⟩:=h1.mk
 have he:=aRS W (iT y) v
 rw[←hv] at he
 have hcm:=aMq W y ((w.os.mono+w.tick:Nat):Int) v
 unfold ace at hcm
 rw[←hv] at hcm
 obtain⟨n,hn⟩:=yo (main:=false) (Live:=lJ 225 W) (st:=asP) vz hcm cs
 obtain⟨n',hn'⟩:=q5 (B:=kH W (.r2 k (false||aD0 99 (zc asP MP 225 (iT ((w.os.mono+w.tick:Nat):Int)) (f::fs)))) cs) (fun g hg=>by
  obtain⟨n,h⟩:=acJ (main:=false) (Live:=lJ 225 W) vz (aMp W _ _) hg
  exact pure_mono (fun g hg=>⟨y,by simpa using hg⟩) h) hn
 exact⟨_,w.later,#[],_,o,m,.t2 _,ED he abz VY _,lP hm rfl (EJ w),by simp,rfl,(fun k e=>by cases e),(fun⟨k,e⟩=>by cases e),n',hn'⟩
theorem az7{k:Nat}(cb:kH W (aJ.r2 k sv) cs g)(hm:MuAt 225 W w o.enc (m:Nat))(hc:o.c≤7)(mh:m≤1)(bF:(aJ.r2 k sv).Ok)(dJ:kQ (aJ.r2 k sv) o)(hS:(aJ.r2 k sv).zm=true→m=1):jU W (aJ.r2 k sv) o m cs g w:=by
 obtain⟨c0,Fv,cn⟩:=iJ hm
 obtain⟨fY,zt⟩:=fR hm
 obtain⟨y,cb⟩:=cb
 obtain⟨g1,g2⟩:=dJ
 cases hS':o.S with
 |false=>
  obtain⟨ws,n,hy⟩:=aqd y
  exact eo (o':=o) (m':=m) cb (fun v=>sj (aMt W (iT y) sv v) (List.mem_filter.2 ⟨uz hc,by simp[hS']⟩)) c0 (.r2n ws hS') (iu hm) rfl (by unfold AI;split<;>rfl) (fun k e=>by cases e) (fun⟨k,e⟩=>by cases e) fun g hg=>Yp (ws:=ws) (n:=n) (it:=0) hc (fun _=>⟨g2 hS',hS'⟩) (fun _=>rfl) (by rw[←hy];exact hg)
 |true=>
  obtain⟨e1,e2,e3⟩:=g1 hS'
  exact eo (o':=o) (m':=m) cb (fun v=>sj (aA0 W (iT y) v) (x:=(o,sv)) (List.mem_flatMap.2 ⟨o,List.mem_filter.2 ⟨uz hc,by simp[hS',e1,e2];omega⟩,by cases sv<;>simp⟩)) c0 (.r2y hS') (iu hm) rfl rfl (fun k e=>by cases e) (fun⟨k,e⟩=>by cases e) fun g hg=>zf (x:= .a1 k (!sv||o.c==1)) hg
theorem aAg{k:Nat}{ex:Bool}(cb:kH W (aJ.a1 k ex) cs g)(hm:MuAt 225 W w o.enc (m:Nat))(hc:o.c≤7)(mh:m≤1)(bF:(aJ.a1 k ex).Ok)(dJ:kQ (aJ.a1 k ex) o)(hS:(aJ.a1 k ex).zm=true→m=1):jU W (aJ.a1 k ex) o m cs g w:=by
 obtain⟨c0,Fv,cn⟩:=iJ hm
 obtain⟨fY,zt⟩:=fR hm
 obtain⟨e1,e2,e3,e4⟩:=dJ
 obtain⟨L,Wk,S,c⟩:=o
 simp only at e1 e2 e3 e4 hc
 subst e1 e2 e3
 exact eo (o':=⟨true,false,true&& !ex,c-1⟩) (m':=m) cb (aMy W _ (dlt ex)) c0 .a1 (qM hm (am9 c (by omega) e4 ex)) rfl rfl (fun k e=>by cases e) (fun⟨k,e⟩=>by cases e) fun g hg=>zf (x:= .le k) (.inr hg)
theorem aAa{k:Nat}(cb:kH W (aJ.le k) cs g)(hm:MuAt 225 W w o.enc (m:Nat))(hc:o.c≤7)(mh:m≤1)(bF:(aJ.le k).Ok)(dJ:kQ (aJ.le k) o)(hS:(aJ.le k).zm=true→m=1):jU W (aJ.le k) o m cs g w:=by
 obtain⟨c0,Fv,cn⟩:=iJ hm
 obtain⟨fY,zt⟩:=fR hm
 rcases cb with cb|cb
 ·exact eo (o':=o) (m':=m) cb (aA2 W) cn .le (iu hm) rfl rfl (fun k e=>by cases e) (fun⟨k,e⟩=>by cases e) fun g hg=>zf (x:= .la k) (.inl hg)
 exact eo (o':=o) (m':=m) cb (aA1 W) cn .le (iu hm) rfl rfl (fun k e=>by cases e) (fun⟨k,e⟩=>by cases e) fun g hg=>zf (x:= .la k) (.inr hg)
theorem azX{k:Nat}(cb:kH W (aJ.ui k) cs g)(hm:MuAt 225 W w o.enc (m:Nat))(hc:o.c≤7)(mh:m≤1)(bF:(aJ.ui k).Ok)(dJ:kQ (aJ.ui k) o)(hS:(aJ.ui k).zm=true→m=1):jU W (aJ.ui k) o m cs g w:=by
 obtain⟨c0,Fv,cn⟩:=iJ hm
 obtain⟨fY,zt⟩:=fR hm
 exact eo (o':=o) (m':=m) cb (aMl W o.enc) c0 .ui (iu hm) rfl rfl (fun k e=>by cases e) (fun⟨k,e⟩=>by cases e) fun g hg=>zf (x:= .ur k) hg
theorem azW{k:Nat}(cb:kH W (aJ.ur k) cs g)(hm:MuAt 225 W w o.enc (m:Nat))(hc:o.c≤7)(mh:m≤1)(bF:(aJ.ur k).Ok)(dJ:kQ (aJ.ur k) o)(hS:(aJ.ur k).zm=true→m=1):jU W (aJ.ur k) o m cs g w:=by
 obtain⟨c0,Fv,cn⟩:=iJ hm
 obtain⟨fY,zt⟩:=fR hm
 exact eo (o':=o) (m':=m) cb (aMk W) cn .ur (iu hm) rfl rfl (fun k e=>rfl) (fun⟨k,e⟩=>by cases e) fun g hg=>zf (x:= .ud k) hg
theorem azZ{k:Nat}(cb:kH W (aJ.ud k) cs g)(hm:MuAt 225 W w o.enc (m:Nat))(hc:o.c≤7)(mh:m≤1)(bF:(aJ.ud k).Ok)(dJ:kQ (aJ.ud k) o)(hS:(aJ.ud k).zm=true→m=1):jU W (aJ.ud k) o m cs g w:=by
 obtain⟨c0,Fv,cn⟩:=iJ hm
 obtain⟨fY,zt⟩:=fR hm
 exact eo (o':=o) (m':=m) cb (aMn W) cn .ud (iu hm) rfl rfl (fun k e=>by cases e) (fun⟨k,e⟩=>by cases e) fun g hg=>zf (x:= .u0 k) hg
theorem az1{k:Nat}(cb:kH W (aJ.u0 k) cs g)(hm:MuAt 225 W w o.enc (m:Nat))(hc:o.c≤7)(mh:m≤1)(bF:(aJ.u0 k).Ok)(dJ:kQ (aJ.u0 k) o)(hS:(aJ.u0 k).zm=true→m=1):jU W (aJ.u0 k) o m cs g w:=by
 obtain⟨c0,Fv,cn⟩:=iJ hm
 obtain⟨fY,zt⟩:=fR hm
 refine eo (o':=⟨false,o.W,o.S,o.c⟩) (m':=m) cb (fun v=>sj (aMo W v) (List.mem_filter.2 ⟨uz hc,dJ⟩)) c0 .u0 (qM hm rfl) rfl (by unfold YG;split<;>(try split)<;>rfl) (fun k e=>by cases e) (fun⟨k,e⟩=>by cases e) fun g hg=>?_
 simp only[abY] at hg
 split<;>rename_i hh
 ·rw[if_pos hh] at hg;exact zf (x:= .us k) (.inr hg)
 rw[if_neg hh] at hg
 unfold YG
 simp only[O9] at hg
 split<;>rename_i hr
 ·rw[if_pos hr] at hg;exact zf (x:= .ue k) hg
 rw[if_neg hr] at hg;exact zf (x:= .uc k ⟨false,o.W,o.S,o.c⟩) hg
theorem az0{k:Nat}{q:Wd}(cb:kH W (aJ.uc k q) cs g)(hm:MuAt 225 W w o.enc (m:Nat))(hc:o.c≤7)(mh:m≤1)(bF:(aJ.uc k q).Ok)(dJ:kQ (aJ.uc k q) o)(hS:(aJ.uc k q).zm=true→m=1):jU W (aJ.uc k q) o m cs g w:=by
 obtain⟨c0,Fv,cn⟩:=iJ hm
 obtain⟨fY,zt⟩:=fR hm
 by_cases e:o=q
 ·subst e
  exact pg (o':=⟨o.L,true,o.S,o.c-1⟩) (m':=m) cb (aEX W _ _) (aAT W _ _) (fun f fs hf=>Dx hf F7 fY zt fs) .ucy (qM hm rfl) (ach W) rfl (fun k e=>by cases e) (fun k e=>by cases e) fun g hg=>zf (x:= .us k) (.inl hg)
 exact pg (o':=o) (m':=m) cb (aEX W _ _) (aAU W _ _) (fun f fs hf=>vM hf F7 fY zt (fun h=>e (FW h)) fs) (.ucn e) (lP hm rfl (iC.refl w)) (Wi W) rfl (fun k e=>by cases e) (fun k e=>by cases e) fun g hg=>zf (x:= .ux k) hg
theorem azU{k:Nat}(cb:kH W (aJ.ux k) cs g)(hm:MuAt 225 W w o.enc (m:Nat))(hc:o.c≤7)(mh:m≤1)(bF:(aJ.ux k).Ok)(dJ:kQ (aJ.ux k) o)(hS:(aJ.ux k).zm=true→m=1):jU W (aJ.ux k) o m cs g w:=by
 obtain⟨c0,Fv,cn⟩:=iJ hm
 obtain⟨fY,zt⟩:=fR hm
 refine eo (o':=o) (m':=m) cb (fun v=>sj (aMj W v) (uz hc)) c0 .ux (iu hm) rfl (by unfold YG;split<;>rfl) (fun k e=>by cases e) (fun⟨k,e⟩=>by cases e) fun g hg=>?_
 unfold YG
 simp only[O9] at hg
 split<;>rename_i hr
 ·rw[if_pos hr] at hg;exact zf (x:= .ue k) hg
 rw[if_neg hr] at hg;exact zf (x:= .uc k o) hg
theorem azV{k:Nat}(cb:kH W (aJ.us k) cs g)(hm:MuAt 225 W w o.enc (m:Nat))(hc:o.c≤7)(mh:m≤1)(bF:(aJ.us k).Ok)(dJ:kQ (aJ.us k) o)(hS:(aJ.us k).zm=true→m=1):jU W (aJ.us k) o m cs g w:=by
 obtain⟨c0,Fv,cn⟩:=iJ hm
 obtain⟨fY,zt⟩:=fR hm
 have wk:∀ {ds:List FD},(∀v,abJ (cH ds v)=true)→AtD ds cs g→mayWake MP g=true:=fun h cb=>by
  obtain⟨f,fs,h1,rfl⟩:=cb
  obtain⟨v,hv⟩:=h1.mk
  have:=h v
  rw[←hv] at this
  exact this
 have m2:m=0∨m=1:=by omega
 rcases cb with cb|cb<;>rcases m2 with rfl|rfl
 ·exact eo (o':=o) (m':=1) cb (aAS W) Fv .us (qN (m':=1) hm) rfl rfl (fun k e=>by cases e) (fun _=>wk (Xi W) cb) fun g hg=>zf (x:= .ue k) hg
 ·exact eo (o':=o) (m':=2) cb (ast W) Fv .us (qN (m':=2) hm) rfl rfl (fun k e=>by cases e) (fun _=>wk (Xi W) cb) fun g hg=>zf (x:= .ue k) hg
 ·exact eo (o':=o) (m':=1) cb (aAR W) Fv .us (qN (m':=1) hm) rfl rfl (fun k e=>by cases e) (fun _=>wk (Xh W) cb) fun g hg=>zf (x:= .ue k) hg
 exact eo (o':=o) (m':=2) cb (ass W) Fv .us (qN (m':=2) hm) rfl rfl (fun k e=>by cases e) (fun _=>wk (Xh W) cb) fun g hg=>zf (x:= .ue k) hg
theorem akE{x:aJ}(cb:kH W x cs g)(hm:MuAt 225 W w o.enc (m:Nat))(hc:o.c≤7)(mh:m≤1)(bF:x.Ok)(dJ:kQ x o)(y4:x.mid=true)(hS:x.zm=true→m=1):jU W x o m cs g w:=by
 cases x with
 |out k=>cases y4
 |own k=>cases y4
 |la k=>cases y4
 |ue k=>cases y4
 |ld k=>exact aAb cb hm hc mh bF dJ hS
 |l0 k=>exact aAd cb hm hc mh bF dJ hS
 |r0 k=>exact az9 cb hm hc mh bF dJ hS
 |sq k q aw sv it ws=>exact az4 cb hm hc mh bF dJ hS
 |c1 k q aw sv it ws=>exact aAf cb hm hc mh bF dJ hS
 |r1 k aw sv it ws=>exact az8 cb hm hc mh bF dJ hS
 |c2 k q aw sv it ws=>exact aAe cb hm hc mh bF dJ hS
 |r3 k aw sv it ws=>exact az6 cb hm hc mh bF dJ hS
 |t1 k sv=>exact az3 cb hm hc mh bF dJ hS
 |s1 k sv=>exact az5 cb hm hc mh bF dJ hS
 |t2 k sv=>exact az2 cb hm hc mh bF dJ hS
 |r2 k sv=>exact az7 cb hm hc mh bF dJ hS
 |a1 k ex=>exact aAg cb hm hc mh bF dJ hS
 |le k=>exact aAa cb hm hc mh bF dJ hS
 |ui k=>exact azX cb hm hc mh bF dJ hS
 |ur k=>exact azW cb hm hc mh bF dJ hS
 |ud k=>exact azZ cb hm hc mh bF dJ hS
 |u0 k=>exact az1 cb hm hc mh bF dJ hS
 |uc k q=>exact az0 cb hm hc mh bF dJ hS
 |ux k=>exact azU cb hm hc mh bF dJ hS
 |us k=>exact azV cb hm hc mh bF dJ hS
theorem aei{k:Nat}(cb:kH W (.s1 k sv) cs g)(hm:MuAt 225 W w o.enc 0):stepG MP false g w= .go {g with status:= .blocked} w #[]:=by
 obtain⟨y,b,f,fs,h1,rfl⟩:=cb
 obtain⟨v,hv⟩:=h1.mk
 have h2:=aAZ W (iT y) sv b v
 rw[←hv] at h2
 simp only[avC] at h2
 have hc:fF 225 W w (cS 0):=⟨_,_,hm,(fun x hx=>by cases hx),(fun x hx=>by cases hx;rfl)⟩
 unfold ahV at h2
 split at h2<;>try (cases h2;done)
 rename_i bs h0
 simp only[Option.some.injEq,Option.getD_some] at h2
 have:=kN h0 (fun b hb=>by rw[h2] at hb;exact List.eq_of_mem_replicate hb) (w:=w) (.inr hc) cs false
 simp only[OV.is] at this
 rw[this];rfl
theorem Yj{go:Frame→List Frame→Bl}{k:Nat×Nat}{b2:List Nat}{l:List Frame}{f:Frame}{fs:List Frame}(h:LG go (f::fs)=some ([],[k],[],b2,some []))(hb:∀b∈b2,b=W)(cs:List Frame):
 ∃f' s',go f' s'=some []∧∀w,stepG MP false (G f (fs++cs)) w= .go (G f' (s'++cs)) w #[xX W k]:=by
 unfold LG at h
 simp only at h
 split at h<;>try (cases h;done)
 rename_i jO dH ws ks b1 b2' h0
 simp only[Option.some.injEq,Prod.mk.injEq] at h
 obtain⟨rfl,rfl,rfl,rfl,h5⟩:=h
 exact⟨jO,dH,h5,fun w=>Bh h0 (by simp) hb (w:=w) (.inl ⟨rfl,rfl⟩) cs false⟩
theorem agy{P:Program}{ty:TypeId}{c:Frame}(hc:c.mode= .returning):∀ {n:Nat} {fr:Frame} {eB:List Frame} {bs:List Nat},goD P ty n fr eB=some bs→∃m,Pure P false (fun _=>True) (· =G c cs) m (G fr (eB++c::cs))
 |0,_,_,_,h=>by cases h
 |n+1,fr,eB,bs,h=>by
  simp only[goD] at h
  split at h
  ·rename_i jO dH h0
   obtain⟨m,hm⟩:=agy hc h
   refine⟨m+1,rfl,_,fun w _=>?_,hm⟩
   have:=kN (W:=0) (w:=w) h0 (by simp) (.inl ⟨rfl,rfl⟩) (c::cs) false
   simp only[OV.is] at this
   rw[this];rfl
  ·rename_i h0
   refine⟨1,rfl,_,fun w _=>?_,rfl⟩
   have:=kN (W:=0) (w:=w) h0 (by simp) (.inl ⟨rfl,rfl⟩) (c::cs) false
   simp only[OV.is] at this
   have h2:=this c cs rfl (.inl hc)
   rw[h2];rfl
  cases h
theorem aAc{k:Nat}{c:Frame}(cb:kH W (.la k) (c::cs) g):∃g',(∀w,stepG MP false g w= .go g' w #[said (.acquire (stA W))])∧∃n,Pure MP false (fun _=>True) (· =G (c.finish (.tuple #[])) cs) n g':=by
 have key:∀ {ds:List FD},(∀v,LG (goR MP 225 300) (cH ds v)=some ([],[(4,0)],[],[W],some []))→AtD ds (c::cs) g→∃g',(∀w,stepG MP false g w= .go g' w #[said (.acquire (stA W))])∧∃n,Pure MP false (fun _=>True) (· =G (c.finish (.tuple #[])) cs) n g':=fun h cb=>by
  obtain⟨f,fs,h1,rfl⟩:=cb
  obtain⟨v,hv⟩:=h1.mk
  have h2:=h v
  rw[←hv] at h2
  obtain⟨f',s',h3,h4⟩:=Yj (W:=W) (l:=[]) h2 (by simp) (c::cs)
  refine⟨_,h4,?_⟩
  exact Dq (c:=c) (cs:=cs) h3 false (fun g=>∃n,Pure MP false (fun _=>True) (· =G (c.finish (.tuple #[])) cs) n g) ⟨0,rfl⟩ fun g g' hg hg' bE ⟨n,hn⟩=>⟨n+1,hg,g',fun w _=>bE w,hn⟩
 rcases cb with cb|cb
 ·exact key (aA4 W) cb
 exact key (aA3 W) cb
theorem azY{k:Nat}{c:Frame}(cb:kH W (.ue k) (c::cs) g)(hc:c.mode= .returning):∃g',(∀w,stepG MP false g w= .go g' w #[said .enable])∧∃n,Pure MP false (fun _=>True) (· =G c cs) n g':=by
 obtain⟨f,fs,h1,rfl⟩:=cb
 obtain⟨v,hv⟩:=h1.mk
 have h2:=aMm v
 rw[←hv] at h2
 obtain⟨f',s',h3,h4⟩:=Yj (W:=W) (l:=[]) h2 (by simp) (c::cs)
 exact⟨_,h4,agy hc h3⟩
noncomputable def Kt:yg MP 225 7 where
 At:=kH
 running:=aej
 step:=fun cb hm hc mh bF dJ y4 hS=>akE cb hm hc mh bF dJ y4 hS
 block:=aei
 la:=aAc
 ue:=azY
theorem Uj(k:Nat):∃n,Pure MP false (lJ 225 W) (kH W (.ld k) cs) n (G (Frame.enter MP 131 ⟨[mp W 0]⟩ .normal) cs):=
 yo (s:=[]) vz (asu W) cs
theorem Ml(k:Nat):∃n,Pure MP false (lJ 225 W) (kH W (.ui k) cs) n (G (Frame.enter MP 132 ⟨[mp W 0]⟩ .deferred) cs):=
 yo (s:=[]) vz (aeW W) cs
end
abbrev CP(P:Program):Class:=fun main T=>Closed P main T
theorem e9{P:Program}:∀main T,CP P main T→Closed P main T:=fun _ _ h=>h
abbrev Cells:=List (Nat×Obj)
variable {Φ:Value→Cells→Prop} {fr R rw' Y rw:Cells}
def Sub(ro aR:Nat→Option Obj):Prop:=∀b o,ro b=some o→aR b=some o
theorem Sub.refl(ro:Nat→Option Obj):Sub ro ro:=fun _ _ h=>h
theorem Sub.trans{a b c:Nat→Option Obj}(h:Sub a b)(k:Sub b c):Sub a c:=fun x o hx=>k x o (h x o hx)
structure aba(fr B:Cells)(ro:Nat→Option Obj)(s1 s:St):Prop where
 rw:s.rw.Perm (s1.rw++fr)
 aV:∀b o,s1.ro b=some o→s.ro b=some o∨(b,o)∈B
 keep:Sub ro s.ro
theorem yM{P:Program}{T:Goroutine→St→Prop}(hT:Closed P main T){g:Goroutine}(hg:g.status= .running)(h:(∃w,aZ s w)→T g s):T g s:=by
 by_cases hw:∃w,aZ s w
 ·exact h hw
 exact hT.step g s hg fun w rU=>absurd ⟨w,rU⟩ hw
theorem BQ{P:Program}{T:Goroutine→St→Prop}(hT:Closed P main T){B:Cells}(hB:∀x∈B,x∈fr)(ro:Nat→Option Obj):
 Closed P main (fun g s1=>g.status= .running→∀s,aba fr B ro s1 s→T g s) where
 step:=fun g s1 hg h _ s hc=>by
  refine hT.step g s hg fun w hw=>?_
  have IL:∀x,x∈s.rw↔x∈s1.rw∨x∈fr:=fun x=>by rw[hc.rw.mem_iff,List.mem_append]
  have gX:=(hc.rw.map (·.1)).nodup_iff.1 hw.nodup
  rw[List.map_append,List.nodup_append] at gX
  obtain⟨hn1,hn2,Nn⟩:=gX
  have aDk:∀b o o',(b,o)∈s1.rw→(b,o')∈fr→False:=fun b o o' h1 h2=>Nn b (List.mem_map.2 ⟨_,h1,rfl⟩) b (List.mem_map.2 ⟨_,h2,rfl⟩) rfl
  have aP2:aZ s1 w:=by
   refine⟨fun b o hb=>?_,fun b o hb=>hw.rw b o ((IL _).2 (.inl hb)),fun b o hb=>hw.real b o ((IL _).2 (.inl hb)),hn1,fun b o hb=>?_⟩
   ·rcases hc.aV b o hb with h1|h1
    ·exact hw.ro b o h1
    exact .inl ⟨hw.rw b o ((IL _).2 (.inr (hB _ h1))),hw.real b o ((IL _).2 (.inr (hB _ h1)))⟩
   cases hr:s1.ro b with
   |none=>rfl
   |some o'=>
    rcases hc.aV b o' hr with h1|h1
    ·rw[hw.apart b o ((IL _).2 (.inl hb))] at h1;cases h1
    exact(aDk b o o' hb (hB _ h1)).elim
  obtain⟨g',w',es,Ag,bE,bx,ht,hT'⟩:=h w aP2
  have af2:∀b o,(b,o)∈fr→b <w.heap.size:=fun b o hb=>hw.lt (.inr ((IL _).2 (.inr hb)))
  have at6:∀b o,(b,o)∈fr→¬s1.owns b:=fun b o hb ⟨o',KN⟩=>aDk b o' o KN hb
  have atj:∀b,s.ro b≠none→¬s1.owns b:=fun b hb ⟨o',KN⟩=>hb (hw.apart b o' ((IL _).2 (.inl KN)))
  have afn:∀b,s.ro b≠none→b <w.heap.size:=fun b hb=>by
   cases hr:s.ro b with
   |none=>exact absurd hr hb
   |some o=>exact hw.lt (.inl hr)
  have aOS:∀b o,(b,o)∈fr→w'.heap[b]?=some o:=fun b o hb=>by
   rw[ht.frame b (af2 b o hb) (at6 b o hb)]
   exact hw.rw b o ((IL _).2 (.inr hb))
  classical
  let aR:Nat→Option Obj:=fun b=>if ∃o,(b,o)∈fr then none else match Ag.ro b with
   |some o=>some o
   |none=>s.ro b
  have atk:∀b o,aR b=some o→¬(∃o,(b,o)∈fr)∧(Ag.ro b=some o∨(Ag.ro b=none∧s.ro b=some o)):=fun b o hb=>by
   simp only[aR] at hb
   split at hb
   ·cases hb
   rename_i hn
   refine⟨hn,?_⟩
   cases h1:Ag.ro b with
   |none=>rw[h1] at hb;exact .inr ⟨rfl,hb⟩
   |some o2=>rw[h1] at hb;exact .inl hb
  have aP1:aZ ⟨aR,Ag.rw++fr⟩ w':=by
   refine⟨fun b o hb=>?_,fun b o hb=>?_,fun b o hb=>?_,?_,fun b o hb=>?_⟩
   ·obtain⟨_,h1| ⟨_,h2⟩⟩:=atk b o hb
    ·exact ht.iX.ro b o h1
    have cF:s.ro b≠none:=by rw[h2];simp
    rw[ht.frame b (afn b cF) (atj b cF)]
    exact hw.ro b o h2
   ·rcases List.mem_append.1 hb with hb|hb
    ·exact ht.iX.rw b o hb
    exact aOS b o hb
   ·rcases List.mem_append.1 hb with hb|hb
    ·exact ht.iX.real b o hb
    exact hw.real b o ((IL _).2 (.inr hb))
   ·show ((Ag.rw++fr).map (·.1)).Nodup
    rw[List.map_append,List.nodup_append]
    refine⟨ht.iX.nodup,hn2,fun x hx y hy e=>?_⟩
    obtain⟨⟨b,o⟩,h1,rfl⟩:=List.mem_map.1 hx
    obtain⟨⟨b2,o2⟩,h2,rfl⟩:=List.mem_map.1 hy
    dsimp only at e;subst e
    rcases ht.own b ⟨o,h1⟩ with h3|h3
    ·exact absurd (af2 b o2 h2) (by omega)
    exact at6 b o2 h2 h3
   show aR b=none
   rcases List.mem_append.1 hb with hb|hb
   ·cases hr:aR b with
    |none=>rfl
    |some o'=>
     obtain⟨hn,h1| ⟨_,h2⟩⟩:=atk b o' hr
     ·rw[ht.iX.apart b o hb] at h1;cases h1
     have cF:s.ro b≠none:=by rw[h2];simp
     rcases ht.own b ⟨o,hb⟩ with h3|h3
     ·exact absurd (afn b cF) (by omega)
     exact(atj b cF h3).elim
   simp only[aR]
   rw[if_pos ⟨o,hb⟩]
  have aDp:aba fr B ro Ag ⟨aR,Ag.rw++fr⟩:=by
   refine⟨.refl _,fun b o hb=>?_,fun b o hb=>?_⟩
   ·by_cases hf:∃o,(b,o)∈fr
    ·obtain⟨o2,KM⟩:=hf
     rcases ht.IF b (by rw[hb];simp) with h1|h1|h1
     ·exact absurd (af2 b _ KM) (by omega)
     ·rw[hb] at h1
      rcases hc.aV b o h1.symm with h3|h3
      ·rw[hw.apart b _ ((IL _).2 (.inr KM))] at h3;cases h3
      exact .inr h3
     exact(at6 b _ KM h1).elim
    left
    show aR b=some o
    simp only[aR]
    rw[if_neg hf,hb]
   have h1:=hc.keep b o hb
   have cF:s.ro b≠none:=by rw[h1];simp
   have hf:¬ ∃o,(b,o)∈fr:=fun⟨o2,KM⟩=>cF (hw.apart b o2 ((IL _).2 (.inr KM)))
   show aR b=some o
   simp only[aR]
   rw[if_neg hf]
   cases h2:Ag.ro b with
   |none=>exact h1
   |some o2=>
    rcases ht.IF b (by rw[h2];simp) with h3|h3|h3
    ·exact absurd (afn b cF) (by omega)
    ·rw[h2] at h3
     rcases hc.aV b o2 h3.symm with h4|h4
     ·rw[h1] at h4;exact h4.symm
     exact absurd ⟨_,hB _ h4⟩ hf
    exact(atj b cF h3).elim
  refine⟨g',w',es,⟨aR,Ag.rw++fr⟩,bE,bx,⟨aP1,ht.size,fun b hb hn=>?_,fun b hb=>?_,fun b hb=>?_,ht.os,ht.output,ht.tape,fun e he=>?_,ht.low⟩,hT' bx _ aDp⟩
  ·exact ht.frame b hb fun⟨o,ho⟩=>hn ⟨o,(IL _).2 (.inl ho)⟩
  ·obtain⟨o,ho⟩:=hb
   rcases List.mem_append.1 ho with ho|ho
   ·rcases ht.own b ⟨o,ho⟩ with h3| ⟨o3,h3⟩
    ·exact .inl h3
    exact .inr ⟨o3,(IL _).2 (.inl h3)⟩
   exact .inr ⟨o,(IL _).2 (.inr ho)⟩
  ·have hb:aR b≠none:=hb
   cases hr:aR b with
   |none=>exact absurd hr hb
   |some o=>
    obtain⟨hn,h1| ⟨_,h2⟩⟩:=atk b o hr
    ·rcases ht.IF b (by rw[h1];simp) with h3|h3| ⟨o3,h3⟩
     ·exact .inl h3
     ·rw[h1] at h3
      rcases hc.aV b o h3.symm with h5|h5
      ·exact .inr (.inl (by show aR b=s.ro b;rw[hr,h5]))
      exact absurd ⟨_,hB _ h5⟩ hn
     exact .inr (.inr ⟨o3,(IL _).2 (.inl h3)⟩)
    exact .inr (.inl (by show aR b=s.ro b;rw[hr,h2]))
  have KR:=ht.tP e he
  have aoP:∀b,(∃o,(b,o)∈s1.rw)→s.owns b:=fun b ⟨o,ho⟩=>⟨o,(IL _).2 (.inl ho)⟩
  have aNI:∀b,s1.ro b≠none→s.ro b≠none∨s.owns b:=fun b hb=>by
   cases h4:s1.ro b with
   |none=>exact absurd h4 hb
   |some o4=>
    rcases hc.aV b o4 h4 with h5|h5
    ·exact .inl (by rw[h5];simp)
    exact .inr ⟨o4,(IL _).2 (.inr (hB _ h5))⟩
  unfold Fz at*
  split at KR
  ·refine⟨KR.1,?_⟩
   rcases KR.2 with h1|h1| ⟨h1,h2⟩
   ·exact .inl h1
   ·exact .inr (.inl (aoP _ h1))
   cases h4:s1.ro _ with
   |none=>exact absurd h4 h2.1
   |some o4=>
    rcases hc.aV _ o4 h4 with h5|h5
    ·exact .inr (.inr ⟨h1,by rw[h5,←h4];exact h2⟩)
    exact .inr (.inl ⟨o4,(IL _).2 (.inr (hB _ h5))⟩)
  ·refine⟨KR.1,?_⟩
   rcases KR.2 with h1|h1| ⟨h1,h2⟩
   ·exact .inl h1
   ·exact .inr (.inl (aoP _ h1))
   rcases aNI _ h2 with h3|h3
   ·exact .inr (.inr ⟨h1,h3⟩)
   exact .inr (.inl h3)
  ·exact KR
  exact KR
 mono:=fun g s1 Ag hl h bx s hc=>by
  refine yM hT bx fun⟨w,hw⟩=>?_
  obtain⟨R,hR,my⟩:=hl
  have IL:∀x,x∈s.rw↔x∈Ag.rw∨x∈fr:=fun x=>by rw[hc.rw.mem_iff,List.mem_append]
  have auF:∀x,x∈R→x∈s.rw:=fun x hx=>(IL x).2 (.inl (hR.mem_iff.2 (List.mem_append_right _ hx)))
  classical
  let pE:Nat→Option Obj:=fun b=>if hx:∃o,(b,o)∈R then some (Classical.choose hx) else s.ro b
  have Hk:∀b o,(b,o)∈R→pE b=some o:=fun b o hb=>by
   have hx:∃o,(b,o)∈R:=⟨o,hb⟩
   simp only[pE]
   rw[dif_pos hx]
   have h1:=hw.rw b _ (auF _ (Classical.choose_spec hx))
   rw[hw.rw b o (auF _ hb)] at h1
   cases h1;rfl
  have zq:∀b o,s.ro b=some o→pE b=some o:=fun b o hb=>by
   simp only[pE]
   rw[dif_neg]
   ·exact hb
   rintro⟨o2,KM⟩
   rw[hw.apart b o2 (auF _ KM)] at hb;cases hb
  refine hT.mono g ⟨pE,s1.rw++fr⟩ s ⟨R,?_,fun b o hb=>?_⟩ (h bx _ ⟨.refl _,fun b o hb=>?_,fun b o hb=>zq b o (hc.keep b o hb)⟩)
  ·refine hc.rw.trans ((List.Perm.append_right fr hR).trans ?_)
   rw[List.append_assoc,List.append_assoc]
   exact List.Perm.append_left _ List.perm_append_comm
  ·simp only[pE] at hb
   split at hb
   ·rename_i hx
    simp only[Option.some.injEq] at hb
    exact .inr (hb▸Classical.choose_spec hx)
   exact .inl hb
  rcases my b o hb with h1|h1
  ·exact(hc.aV b o h1).imp (zq b o) id
  exact .inl (Hk b o h1)
theorem Fn.frame{P:Program}{s1:St}{R:Ending→St→Prop}{B:Cells}(hf:Fn (CP P) P f args s1 R)(hB:∀x∈B,x∈fr)(hc:aba fr B ro s1 s):
 Fn (CP P) P f args s (fun en s'=>∃Ag,R en Ag∧aba fr B ro Ag s'):=
 fun main T hT c cs k1 k2=>hf main _ (BQ hT hB ro) c cs (fun v Ag hv _ s' uZ=>k1 v s' ⟨Ag,hv,uZ⟩) (fun ch Ag hv _ s' uZ=>k2 ch s' ⟨Ag,hv,uZ⟩) rfl s hc
def dX(P:Program)(f:FuncId)(args:List Value)(ro:Nat→Option Obj)(own:Cells)(Φ:Value→Cells→Prop):Prop:=
 Fn (CP P) P f ⟨args⟩ ⟨ro,own⟩ (fun en s'=>∃v X,en= .returned v∧s'=⟨ro,X⟩∧Φ v X)
abbrev eR(P:Program)(f:FuncId)(args:List Value)(ro:Nat→Option Obj)(V:Value):Prop:=dX P f args ro [] (fun v X=>v=V∧X=[])
theorem dX.mono{P:Program}{args:List Value}{own:Cells}{Φ':Value→Cells→Prop}(h:dX P f args ro own Φ)(hk:∀v X,Φ v X→Φ' v X):dX P f args ro own Φ':=
 Fn.mono h fun _ _ ⟨v,X,h1,h2,h3⟩=>⟨v,X,h1,h2,hk v X h3⟩
theorem NJ:Ext ⟨ro,[]⟩ ⟨ro,rw⟩:=fun _ _ h=>h.elim .inl (fun h=>by cases h)
theorem FU{aR:Nat→Option Obj}(h:Sub ro aR):Ext ⟨ro,[]⟩ ⟨aR,[]⟩:=fun b o hb=>hb.elim (fun hb=> .inl (h b o hb)) (fun hb=>by cases hb)
def cD(ro:Nat→Option Obj)(v:Value)(sz:Nat)(enc:α→List Value)(ps:List α):Prop:=
 ∃a b o cap,v= .slice a ps.length cap∧ps.length≤cap∧(∀k,k <ps.length→a=some ⟨b,o,none⟩)∧∀i p,ps[i]?=some p→da ⟨ro,[]⟩ b (o+i*sz) sz (enc p)
theorem cD.nil(ro:Nat→Option Obj)(sz:Nat)(enc:α→List Value)(a:Option Addr)(cap:Nat):cD ro (.slice a 0 cap) sz enc []:=⟨a,0,0,cap,rfl,Nat.zero_le _,fun k h=>absurd h (Nat.not_lt_zero k),fun i p hp=>by simp at hp⟩
theorem cD.up{aR:Nat→Option Obj}{enc:α→List Value}{ps:List α}(h:cD ro v sz enc ps)(hs:Sub ro aR):cD aR v sz enc ps:=by
 obtain⟨a,b,o,cap,h1,h4,h2,h3⟩:=h
 exact⟨a,b,o,cap,h1,h4,h2,fun i p hp=>(h3 i p hp).ext (FU hs)⟩
section rules
variable {P:Program} {C:Class} {fn:FuncId} {aF:Option Nat} {Q:Post} {s:St} {n:Nat} {env:Env} {D:List Deferred}
variable {ops:Array Oper} {i:Nat} {rest:List Nat} {dst:Option Tmp} {ty:TypeId} {pos:String} {dG:Array Edge} {g:Option (Nat×Bool)}
variable {T:TypeId} {d:TypeDesc} {sz bL:Nat} {z:List Value} {ag:Bool} {ro:Nat→Option Obj} {rw:Cells}
theorem ak.more{a:Act}(hC:∀main T,C main T→Closed P main T){s':St}(hl:s.le s')(h:ak C fn aF ops todo Q a s):ak C fn aF ops todo Q a s':=
 fun main T hT b k cs h1 h2 h3 h4=>(hC _ _ hT).mono _ _ _ hl (h main T hT b k cs h1 h2 h3 h4)
theorem aki{a:Act}(hC:∀main T,C main T→Closed P main T)(h:(∃w,aZ s w)→ak C fn aF ops todo Q a s):ak C fn aF ops todo Q a s:=
 fun main T hT b k cs h1 h2 h3 h4=>yM (hC _ _ hT) rfl fun hw=>h hw main T hT b k cs h1 h2 h3 h4
theorem aqm{a:Act}{c:Code}(hC:∀main T,C main T→Closed P main T)(h:(∃w,aZ s w)→Wp C fn aF c Q a s):Wp C fn aF c Q a s:=
 fun main T hT b k cs h1 h2 h3 h4=>yM (hC _ _ hT) rfl fun hw=>h hw main T hT b k cs h1 h2 h3 h4
theorem agN{R:Ending→St→Prop}(hC:∀main T,C main T→Closed P main T)(h:(∃w,aZ s w)→Fn C P f args s R):Fn C P f args s R:=
 fun main T hT c cs h1 h2=>yM (hC _ _ hT) rfl fun hw=>h hw main T hT c cs h1 h2
theorem XP{X:Cells}(hp:rw.Perm (X++s.rw))(hw:∃w,aZ ⟨s.ro,rw⟩ w):∃aR,Sub s.ro aR∧(∀x∈X,aR x.1=some x.2)∧(⟨aR,s.rw⟩:St).le ⟨s.ro,rw⟩:=by
 classical
 obtain⟨w,hw⟩:=hw
 have vG:∀x,x∈X→x∈rw:=fun x hx=>hp.mem_iff.2 (List.mem_append_left _ hx)
 refine⟨fun b=>if hx:∃o,(b,o)∈X then some (Classical.choose hx) else s.ro b,fun b o hb=>?_,fun x hx=>?_,X,hp.trans List.perm_append_comm,fun b o hb=>?_⟩
 ·simp only
  rw[dif_neg]
  ·exact hb
  rintro⟨o2,KM⟩
  have:=hw.apart b o2 (vG _ KM)
  rw[show s.ro b=none from this] at hb;cases hb
 ·obtain⟨b,o⟩:=x
  have iM:∃o,(b,o)∈X:=⟨o,hx⟩
  simp only
  rw[dif_pos iM]
  have h1:=hw.rw b _ (vG _ (Classical.choose_spec iM))
  rw[hw.rw b o (vG _ hx)] at h1
  cases h1;rfl
 simp only at hb
 split at hb
 ·rename_i hx
  simp only[Option.some.injEq] at hb
  exact .inr (hb▸Classical.choose_spec hx)
 exact .inl hb
theorem YB{a:Act}{c:Code}(hC:∀main T,C main T→Closed P main T){X:Cells}(hp:rw'.Perm (X++rw))(h:∀aR,Sub ro aR→(∀x∈X,aR x.1=some x.2)→Wp C fn aF c Q a ⟨aR,rw⟩):Wp C fn aF c Q a ⟨ro,rw'⟩:=
 aqm hC fun hw=>by
  obtain⟨aR,h1,h2,h3⟩:=XP (s:=⟨ro,rw⟩) hp hw
  exact(h aR h1 h2).more hC h3
theorem TR{a:Act}(hC:∀main T,C main T→Closed P main T){X:Cells}(hp:rw'.Perm (X++rw))(h:∀aR,Sub ro aR→(∀x∈X,aR x.1=some x.2)→ak C fn aF ops todo Q a ⟨aR,rw⟩):ak C fn aF ops todo Q a ⟨ro,rw'⟩:=
 aki hC fun hw=>by
  obtain⟨aR,h1,h2,h3⟩:=XP (s:=⟨ro,rw⟩) hp hw
  exact(h aR h1 h2).more hC h3
theorem dX.use{own B:Cells}(hp:s.rw.Perm (own++fr))(hB:∀x∈B,x∈fr)(hf:∀aV,Sub s.ro aV→(∀x∈B,aV x.1=some x.2)→dX P f vs aV own Φ):
 Fn (CP P) P f ⟨vs⟩ s (fun en s'=>∃v X,en= .returned v∧Φ v X∧(⟨s.ro,X++fr⟩:St).le s'):=by
 refine agN e9 fun⟨w,hw⟩=>?_
 classical
 have vG:∀x,x∈B→x∈s.rw:=fun x hx=>hp.mem_iff.2 (List.mem_append_right _ (hB x hx))
 let aV:Nat→Option Obj:=fun b=>if hx:∃o,(b,o)∈B then some (Classical.choose hx) else s.ro b
 have h1:Sub s.ro aV:=fun b o hb=>by
  simp only[aV]
  rw[dif_neg]
  ·exact hb
  rintro⟨o2,KM⟩
  rw[hw.apart b o2 (vG _ KM)] at hb;cases hb
 have h2:∀x∈B,aV x.1=some x.2:=fun⟨b,o⟩ hx=>by
  have iM:∃o,(b,o)∈B:=⟨o,hx⟩
  simp only[aV]
  rw[dif_pos iM]
  have h3:=hw.rw b _ (vG _ (Classical.choose_spec iM))
  rw[hw.rw b o (vG _ hx)] at h3
  cases h3;rfl
 refine Fn.mono (Fn.frame (fr:=fr) (B:=B) (ro:=s.ro) (s:=s) (hf aV h1 h2) hB ⟨hp,fun b o hb=>?_,Sub.refl _⟩) fun en s' pP=>?_
 ·simp only[aV] at hb
  split at hb
  ·rename_i hx
   simp only[Option.some.injEq] at hb
   exact .inr (hb▸Classical.choose_spec hx)
  exact .inl hb
 obtain⟨Ag,⟨v,X,rfl,rfl,pO⟩,hc⟩:=pP
 exact⟨v,X,rfl,pO,[],by simpa using hc.rw,fun b o hb=> .inl (hc.keep b o hb)⟩
theorem ad1(hC:∀main T,C main T→Closed P main T){ws:List Value}{own B:Cells}(ho:ops[i]?=some ⟨dst,.call ⟨.value x,xs,at_⟩,ty,pos,dG,g⟩) (hw:aD ops n env g=true)
 (hv:bA n env x=some (.func (.func f) fi ca)) (ff:FF P f) (hx:tP n env xs=some vs) (qS:fi++⟨vs⟩++ca=⟨ws⟩) (hp:s.rw.Perm (own++fr)) (hB:∀x∈B,x∈fr) (hf:∀aV,Sub s.ro aV→(∀x∈B,aV x.1=some x.2)→dX P f ws aV own Φ)
 (h:∀v X,Φ v X→ak C fn aF ops rest Q (A n (upd dst v env) D) ⟨s.ro,X++fr⟩):ak C fn aF ops (i::rest) Q (A n env D) s:=
 su hC ho hw hv ff hx qS ((dX.use hp hB hf).weaken hC) (fun v' s' hr=>by obtain⟨v,X,e,h1,h2⟩:=hr;cases e;exact(h _ X h1).more hC h2) (fun ch s' hr=>by obtain⟨_,_,e,_⟩:=hr;cases e) (fun s' hr=>by obtain⟨_,_,e,_⟩:=hr;cases e)
theorem eR.use{V:Value}{sz:St}(hez:Ext s sz)(hf:∀aV,(∀b o,s.has b o→aV b=some o)→eR P f vs aV V):Fn (CP P) P f ⟨vs⟩ sz (fun e s'=>e= .returned V∧sz.le s'):=by
 refine agN e9 fun⟨w,hw⟩=>?_
 refine Fn.mono (dX.use (s:=sz) (own:=[]) (fr:=sz.rw) (B:=sz.rw) (.refl _) (fun _ h=>h) (fun aV h1 h2=>hf aV fun b o hb=>?_)) fun en s' pP=>?_
 ·rcases hez b o hb with h3|h3
  ·exact h1 b o h3
  exact h2 _ h3
 obtain⟨v,X,e,⟨h1,h2⟩,h3⟩:=pP
 subst h1 h2
 exact⟨e,h3⟩
theorem Qd(hC:∀main T,C main T→Closed P main T){ws:List Value}{V:Value}{s0:St}(ho:ops[i]?=some ⟨dst,.call ⟨.value x,xs,at_⟩,ty,pos,dG,g⟩) (hw:aD ops n env g=true)
 (hv:bA n env x=some (.func (.func f) fi ca)) (ff:FF P f) (hx:tP n env xs=some vs) (qS:fi++⟨vs⟩++ca=⟨ws⟩) (hez:Ext s0 s) (hf:∀aV,(∀b o,s0.has b o→aV b=some o)→eR P f ws aV V) (h:ak C fn aF ops rest Q (A n (upd dst V env) D) s):ak C fn aF ops (i::rest) Q (A n env D) s:=
 su hC ho hw hv ff hx qS ((eR.use hez hf).weaken hC) (fun v' s' hr=>by obtain⟨e,h1⟩:=hr;cases e;exact h.more hC h1) (fun ch s' hr=>by cases hr.1) (fun s' hr=>by cases hr.1)
theorem Gk{aV:Nat→Option Obj}(h:∀b o,(⟨ro,rw⟩:St).has b o→aV b=some o):Sub ro aV:=fun b o hb=>h b o (.inl hb)
theorem aK.n9{enc:α→List Value}{ps:List α}{L:Cells}{aV:Nat→Option Obj}(h:aK v sz T enc ps L)(hL:∀x∈L,aV x.1=some x.2):cD aV v sz enc ps:=by
 obtain⟨a,b,o,cap,h1,h2,h3⟩:=h.sl (s:=⟨aV,[]⟩) fun x hx=> .inl (hL x hx)
 refine⟨a,b,o,cap,h1,?_,h2,h3⟩
 rcases h with ⟨_,g2,_⟩| ⟨b',l,aR8,g1,_,_,g4,_⟩
 ·subst g2;exact Nat.zero_le _
 rw[g1] at h1;cases h1;exact g4
end rules
section rules
variable {P:Program} {C:Class} {fn:FuncId} {aF:Option Nat} {Q:Post} {s:St} {n:Nat} {env:Env} {D:List Deferred}
variable {ops:Array Oper} {i:Nat} {rest:List Nat} {dst:Option Tmp} {ty:TypeId} {pos:String} {dG:Array Edge} {g:Option (Nat×Bool)}
variable {T:TypeId} {d:TypeDesc} {sz bL:Nat} {z:List Value} {ag:Bool}
theorem TW(hC:∀main T,C main T→Closed P main T)(ho:ops[i]?=some ⟨dst,.range T x,ty,pos,dG,g⟩) (hw:aD ops n env g=true) (tf:TF P T .string sz bL z ag) (hx:bA n env x=some (.string b))
 (h:∀r,¬s.knows r→ak C fn aF ops rest Q (A n (upd dst (.pointer (some ⟨r,0,none⟩)) env) D) ⟨s.ro,(r,.stringIter b 0)::s.rw⟩):ak C fn aF ops (i::rest) Q (A n env D) s:=by
 refine cy hC ho hw (by simp) ?_
 simp only[execOp,Instr.range,af,a8 tf,aL hx,aj,py]
 refine⟨rfl,?_⟩
 intro r hr
 have:=h r hr
 rw[←bI] at this
 exact this
theorem Zq(hC:∀main T,C main T→Closed P main T){L:Cells}(ho:ops[i]?=some ⟨dst,.next x true,ty,pos,dG,g⟩) (hw:aD ops n env g=true) (hx:bA n env x=some (.pointer (some ⟨r,0,none⟩))) (hs:s.rw=L++(r,.stringIter b p)::R) (hp:p <b.size)
 (h:ak C fn aF ops rest Q (A n (upd dst (.tuple ⟨[.bool true,.int .i64 p,.int .i32 (Utf8.decode b p).1]⟩) env) D) ⟨s.ro,L++(r,.stringIter b (p+(Utf8.decode b p).2))::R⟩):ak C fn aF ops (i::rest) Q (A n env D) s:=by
 refine cy hC ho hw (by simp) ?_
 simp only[execOp,Instr.next,af,aL hx]
 refine cQ (o:= .stringIter b p) (.inr (by rw[hs];simp)) rfl rfl ?_
 simp only[af,hp,if_true]
 refine eL (o:= .stringIter b (p+(Utf8.decode b p).2)) rfl hs rfl ?_
 rw[←bI] at h
 exact h
theorem Zr(hC:∀main T,C main T→Closed P main T){L:Cells}(ho:ops[i]?=some ⟨dst,.next x true,ty,pos,dG,g⟩) (hw:aD ops n env g=true) (hx:bA n env x=some (.pointer (some ⟨r,0,none⟩))) (hs:s.rw=L++(r,.stringIter b p)::R) (hp:¬p <b.size)
 (h:ak C fn aF ops rest Q (A n (upd dst (.tuple ⟨[.bool false]⟩) env) D) s):ak C fn aF ops (i::rest) Q (A n env D) s:=by
 refine cy hC ho hw (by simp) ?_
 simp only[execOp,Instr.next,af,aL hx]
 refine cQ (o:= .stringIter b p) (.inr (by rw[hs];simp)) rfl rfl ?_
 simp only[af,hp,if_false]
 rw[←bI] at h
 exact h
end rules
theorem da.part{b o m:Nat}{ws:List Value}(h:da s b o m vs)(j k:Nat)(hj:sub vs j k=some ws):da s b (o+j) k ws:=by
 obtain⟨l,t,fz,h1,h2⟩:=h
 obtain⟨h3,h4⟩:=sub_eq _ _ _ _ h2
 obtain⟨h5,h6⟩:=sub_eq _ _ _ _ hj
 refine⟨l,t,fz,h1,?_⟩
 have hlen:(o+j)+k≤l.length:=by
  rcases Nat.eq_zero_or_pos k with h0|h0
  ·subst h0
   have:o+j≤l.length:=by
    have h7:sub vs j 0=some ws:=hj
    have hjl:j≤vs.length:=by
     have key:∀(l:List Value) (j:Nat) (ws:List Value),sub l j 0=some ws→j≤l.length:=by
      intro l
      induction l with
      |nil=>intro j ws h;cases j with
       |zero=>simp
       |succ j=>simp[sub] at h
      |cons x l ih=>intro j ws h;cases j with
       |zero=>simp
       |succ j=>have:=ih j ws (by simpa [sub] using h);simp;omega
     exact key _ _ _ h7
    have Nm:o+m≤l.length∨m=0:=by
     rcases Nat.eq_zero_or_pos m with h8|h8
     ·exact .inr h8
     left
     have:=h4 (m-1) vs[m-1] (by rw[List.getElem?_eq_getElem])
     have:=(List.getElem?_eq_some_iff.1 this).1
     omega
    rcases Nm with h9|h9
    ·omega
    have aMi:∀(l:List Value) (o:Nat) (ws:List Value),sub l o 0=some ws→o≤l.length:=by
     intro l
     induction l with
     |nil=>intro j ws h;cases j with
      |zero=>simp
      |succ j=>simp[sub] at h
     |cons x l ih=>intro j ws h;cases j with
      |zero=>simp
      |succ j=>have:=ih j ws (by simpa [sub] using h);simp;omega
    rw[h9] at h2
    have:=aMi _ _ _ h2
    omega
   omega
  have:=h6 (k-1) ws[k-1] (by rw[List.getElem?_eq_getElem])
  have:=h4 _ _ this
  have:=(List.getElem?_eq_some_iff.1 this).1
  omega
 rw[lg hlen]
 congr 1
 apply List.ext_getElem?
 intro i
 by_cases hi:i <k
 ·have h7:=h4 _ _ (h6 i ws[i] (by rw[List.getElem?_eq_getElem]))
  rw[List.getElem?_take_of_lt hi,List.getElem?_drop,List.getElem?_eq_getElem (show i <ws.length by omega),←h7,Nat.add_assoc]
 rw[List.getElem?_eq_none (by simp;omega),List.getElem?_eq_none (by omega)]
def iL(k:IntKind)(a b:Int):Int:=a.fdiv (2^(min b.toNat k.bits))
def eC(k:IntKind)(a b:Int):Int:=k.wrap (a*2^(min b.toNat k.bits))
def ZM(k:IntKind)(a b:Int):Int:=k.wrap (BitVec.ofInt k.bits a&&& BitVec.ofInt k.bits b).toNat
def iOr(k:IntKind)(a b:Int):Int:=k.wrap (BitVec.ofInt k.bits a|||BitVec.ofInt k.bits b).toNat
theorem tY(k:IntKind)(h:k.signed=false)(n:Int)(h0:0≤n)(h1:n <2^k.bits):k.wrap n=n:=by
 simp only[IntKind.wrap,h,Bool.false_and,Bool.false_eq_true,if_false]
 exact Int.emod_eq_of_lt h0 h1
theorem dX.aqG{P:Program}{own:Cells}(hp:s.rw.Perm (own++fr))(hf:dX P f vs s.ro own Φ):
 Fn (CP P) P f ⟨vs⟩ s (fun en s'=>∃v X,en= .returned v∧Φ v X∧(⟨s.ro,X++fr⟩:St).le s'):=by
 refine Fn.mono (Fn.frame (fr:=fr) (B:=[]) (ro:=s.ro) (s:=s) hf (fun _ h=>(by cases h)) ⟨hp,fun b o hb=> .inl hb,Sub.refl _⟩) fun en s' pP=>?_
 obtain⟨Ag,⟨v,X,rfl,rfl,pO⟩,hc⟩:=pP
 exact⟨v,X,rfl,pO,[],by simpa using hc.rw,fun b o hb=> .inl (hc.keep b o hb)⟩
def Knows(ro:Nat→Option Obj)(X:Cells):Prop:=∀x∈X,ro x.1=some x.2
theorem Knows.up{aR:Nat→Option Obj}{X:Cells}(h:Knows ro X)(hs:Sub ro aR):Knows aR X:=fun x hx=>hs _ _ (h x hx)
theorem Knows.left{X:Cells}(h:Knows ro (X++Y)):Knows ro X:=fun x hx=>h x (List.mem_append_left _ hx)
theorem Knows.right{X:Cells}(h:Knows ro (X++Y)):Knows ro Y:=fun x hx=>h x (List.mem_append_right _ hx)
theorem Knows.tail{x:Nat×Obj}(h:Knows ro (x::Y)):Knows ro Y:=fun y hy=>h y (List.mem_cons_of_mem _ hy)
theorem Knows.head{x:Nat×Obj}(h:Knows ro (x::Y)):ro x.1=some x.2:=h x List.mem_cons_self
theorem jA{b:Nat}{enc:α→List Value}{ps:List α}(h:s.has b (.cells ⟨(ps.map enc).flatten⟩ T fz))(hl:∀p∈ps,(enc p).length=sz){k:Nat}{x:α}(hx:ps[k]?=some x):da s b (0+k*sz) sz (enc x):=by
 have h2:=Du ps hl k x hx
 have hm:x∈ps:=List.mem_of_getElem? hx
 have h3:=hl x hm
 refine⟨_,T,fz,h,?_⟩
 rw[Nat.zero_add,lg,h2]
 rw[lD ps hl]
 have:=(List.getElem?_eq_some_iff.1 hx).1
 calc k*sz+sz=(k+1)*sz:=by rw[Nat.succ_mul]
  _≤ps.length*sz:=Nat.mul_le_mul_right _ (by omega)
theorem bM{b:Nat}{enc:α→List Value}(ps:List α)(h:ro b=some (.cells ⟨(ps.map enc).flatten⟩ T fz))(hl:∀p∈ps,(enc p).length=sz):cD ro (.slice (some ⟨b,0,none⟩) ps.length ps.length) sz enc ps:=
 ⟨_,b,0,_,rfl,Nat.le_refl _,fun _ _=>rfl,fun _ _ hx=>jA (.inl h) hl hx⟩
section rules
variable {P:Program} {C:Class} {fn:FuncId} {aF:Option Nat} {Q:Post} {s:St} {n:Nat} {env:Env} {D:List Deferred}
variable {ops:Array Oper} {i:Nat} {rest:List Nat} {dst:Option Tmp} {ty:TypeId} {pos:String} {dG:Array Edge} {g:Option (Nat×Bool)}
variable {T:TypeId} {d:TypeDesc} {sz bL:Nat} {z:List Value} {ag:Bool}
theorem azA(hC:∀main T,C main T→Closed P main T){k k':IntKind}{a b:Int}(ho:ops[i]?=some ⟨dst,.binOp .shr T x y T',ty,pos,dG,g⟩) (hw:aD ops n env g=true)
 (hx:bA n env x=some (.int k a)) (hy:bA n env y=some (.int k' b)) (hb:0≤b) (h:ak C fn aF ops rest Q (A n (upd dst (.int k (iL k a b)) env) D) s):ak C fn aF ops (i::rest) Q (A n env D) s:=by
 refine uv hC ho hw (by simp) ?_ h
 simp only[execOp,aL hx,aL hy]
 have he:eqGuard .shr T x y (.int k a) (.int k' b)=Sem.pure ():=rfl
 have hv:binOp .shr T (.int k a) (.int k' b)=Sem.pure (.int k (iL k a b)):=by
  show Op.shift .shr k a k' b=_
  simp only[Op.shift,show ¬b <0 by omega,if_false];rfl
 rw[he]
 show Sem.bind (Sem.bind (Sem.pure ()) fun _=>binOp .shr T (.int k a) (.int k' b)) _=_
 simp only[Sem.bind,hv]
 rfl
theorem azB(hC:∀main T,C main T→Closed P main T){k k':IntKind}{a b:Int}(ho:ops[i]?=some ⟨dst,.binOp .shl T x y T',ty,pos,dG,g⟩) (hw:aD ops n env g=true)
 (hx:bA n env x=some (.int k a)) (hy:bA n env y=some (.int k' b)) (hb:0≤b) (h:ak C fn aF ops rest Q (A n (upd dst (.int k (eC k a b)) env) D) s):ak C fn aF ops (i::rest) Q (A n env D) s:=by
 refine uv hC ho hw (by simp) ?_ h
 simp only[execOp,aL hx,aL hy]
 have he:eqGuard .shl T x y (.int k a) (.int k' b)=Sem.pure ():=rfl
 have hv:binOp .shl T (.int k a) (.int k' b)=Sem.pure (.int k (eC k a b)):=by
  show Op.shift .shl k a k' b=_
  simp only[Op.shift,show ¬b <0 by omega,if_false];rfl
 rw[he]
 show Sem.bind (Sem.bind (Sem.pure ()) fun _=>binOp .shl T (.int k a) (.int k' b)) _=_
 simp only[Sem.bind,hv]
 rfl
end rules
theorem gG{b cap:Nat}{enc:α→List Value}(ps:List α)(h:s.has b (.cells ⟨(ps.map enc).flatten⟩ T fz))(hl:∀p∈ps,(enc p).length=sz):Sl s (.slice (some ⟨b,0,none⟩) ps.length cap) sz enc ps:=
 ⟨_,b,0,cap,rfl,fun _ _=>rfl,fun _ _ hx=>jA h hl hx⟩
theorem j7{b:Nat}{enc:α→List Value}:aK (.slice (some ⟨b,0,none⟩) 0 0) sz T enc ([]:List α) [(b,.cells ⟨[]⟩ T (0,0))]:=
 .inr ⟨b,[],0,rfl,rfl,by simp,by simp,by simp,by simp⟩
theorem aK.form{enc:α→List Value}{ps:List α}{L:Cells}(h:aK v sz T enc ps L):∃a c,v= .slice a ps.length c:=by
 rcases h with ⟨h1,h2,_⟩| ⟨b,l,cap,h1,_⟩
 ·subst h2;exact⟨none,0,h1⟩
 exact⟨_,cap,h1⟩
def JL(v:Value)(b:Nat):Prop:=∃n c,v= .slice (some ⟨b,0,none⟩) n c
theorem p9{enc:α→List Value}{ps:List α}{L:Cells}(h:aK v sz T enc ps L){b:Nat}(hb:JL v b)(hs:∀x∈L,s.has x.1 x.2){k:Nat}{x:α}(hx:ps[k]?=some x):da s b (k*sz) sz (enc x):=by
 obtain⟨a,b',o,c,h1,h2,h3⟩:=h.sl hs
 have hk:=(List.getElem?_eq_some_iff.1 hx).1
 have h4:=h2 k hk
 obtain⟨n,c',h5⟩:=hb
 rw[h1] at h5
 cases h5
 cases h4
 have:=h3 k x hx
 rwa[Nat.zero_add] at this
theorem azt{enc:α→List Value}{ps:List α}{L:Cells}(h:aK v sz T enc ps L){k:Nat}(hk:k <ps.length):∃b,JL v b:=by
 rcases h with ⟨_,h2,_⟩| ⟨b,l,cap,h1,_⟩
 ·subst h2;simp at hk
 exact⟨b,_,_,h1⟩
theorem RB{enc:α→List Value}:∀(ps:List α),(∀p∈ps,(enc p).length=sz)→∀(k:Nat) (x:α),(enc x).length=sz→k <ps.length→∀l:List Value,l.take (ps.length*sz)=(ps.map enc).flatten→(dI l (k*sz) (enc x)).take (ps.length*sz)=((ps.set k x).map enc).flatten:=by
 intro ps UI k x hx hk l hl
 have hle:ps.length*sz≤l.length:=by
  have h1:=lD ps UI
  rw[←hl,List.length_take] at h1
  omega
 have Xz:k*sz+sz≤ps.length*sz:=by
  have:(k+1)*sz≤ps.length*sz:=Nat.mul_le_mul_right _ (by omega)
  rw[Nat.succ_mul] at this;exact this
 have hA:((ps.take k).map enc).flatten.length=k*sz:=by
  rw[lD _ (fun p hp=>UI p (List.mem_of_mem_take hp)),List.length_take,Nat.min_eq_left (by omega)]
 have hC:((ps.drop (k+1)).map enc).flatten.length=(ps.length-(k+1))*sz:=by
  rw[lD _ (fun p hp=>UI p (List.mem_of_mem_drop hp)),List.length_drop]
 have hB:=UI ps[k] (List.getElem_mem hk)
 have atg:(ps.map enc).flatten=((ps.take k).map enc).flatten++(enc ps[k]++((ps.drop (k+1)).map enc).flatten):=by
  have h3:ps=ps.take k++ps[k]::ps.drop (k+1):=by rw[←List.drop_eq_getElem_cons hk,List.take_append_drop]
  have h4:=congrArg (fun q:List α=>(q.map enc).flatten) h3
  simp only[List.map_append,List.map_cons,List.flatten_append,List.flatten_cons] at h4
  exact h4
 have y6:l=((ps.take k).map enc).flatten++(enc ps[k]++(((ps.drop (k+1)).map enc).flatten++l.drop (ps.length*sz))):=by
  have h3:=(List.take_append_drop (ps.length*sz) l).symm
  rw[hl,atg] at h3
  simp only[List.append_assoc] at h3
  exact h3
 have qe:((ps.set k x).map enc).flatten=((ps.take k).map enc).flatten++(enc x++((ps.drop (k+1)).map enc).flatten):=by
  rw[List.set_eq_take_append_cons_drop,if_pos hk]
  simp only[List.map_append,List.map_cons,List.flatten_append,List.flatten_cons]
 have atm:dI l (k*sz) (enc x)=((ps.take k).map enc).flatten++(enc x++(((ps.drop (k+1)).map enc).flatten++l.drop (ps.length*sz))):=by
  rw[sr _ _ _ (by omega),hx,List.append_assoc]
  congr 1
  ·conv=>lhs;rw[y6]
   rw[←hA,List.take_left]
  congr 1
  conv=>lhs;rw[y6]
  rw[←List.append_assoc,←List.append_assoc,List.append_assoc _ _ (List.drop _ _)]
  rw[show k*sz+sz=(((ps.take k).map enc).flatten++enc ps[k]).length by rw[List.length_append,hA,hB],List.drop_left]
 rw[atm,qe,←List.append_assoc,←List.append_assoc]
 have hlen:(((ps.take k).map enc).flatten++enc x++((ps.drop (k+1)).map enc).flatten).length=ps.length*sz:=by
  rw[List.length_append,List.length_append,hA,hx,hC]
  have:ps.length*sz=(k+1+(ps.length-(k+1)))*sz:=by congr 1;omega
  rw[this,Nat.add_mul,Nat.succ_mul]
 rw[←hlen,List.take_left,List.append_assoc]
section rules
variable {P:Program} {C:Class} {fn:FuncId} {aF:Option Nat} {Q:Post} {s:St} {n:Nat} {env:Env} {D:List Deferred}
variable {ops:Array Oper} {i:Nat} {rest:List Nat} {dst:Option Tmp} {ty:TypeId} {pos:String} {dG:Array Edge} {g:Option (Nat×Bool)}
variable {T:TypeId} {d:TypeDesc} {sz bL:Nat} {z:List Value} {ag:Bool}
theorem Qa(hC:∀main T,C main T→Closed P main T){w:Operand}{k':IntKind}{hi:Int}(ho:ops[i]?=some ⟨dst,.slice T x none (some w) none,ty,pos,dG,g⟩) (hw:aD ops n env g=true) (tf:TF P T .string sz bL z ag)
 (hx:bA n env x=some (.string b)) (hz:bA n env w=some (.int k' hi)) (hl:0≤hi∧hi≤b.size) (h:ak C fn aF ops rest Q (A n (upd dst (.string (b.extract 0 hi.toNat)) env) D) s):ak C fn aF ops (i::rest) Q (A n env D) s:=by
 refine cy hC ho hw (by simp) ?_
 simp only[execOp,Option.map_some,Option.map_none,Instr.sliceAt,Instr.slice,aL hx,aL hz,af,a8 tf,Instr.sliceBounds,Instr.sliceBound,asIntOf,aj,Option.isSome_none,Bool.false_eq_true,if_false,hl,and_self,if_true]
 rw[←bI] at h
 exact h
theorem P9(hC:∀main T,C main T→Closed P main T){k:IntKind}{lo:Int}(ho:ops[i]?=some ⟨dst,.slice T x (some y) none none,ty,pos,dG,g⟩) (hw:aD ops n env g=true) (tf:TF P T .string sz bL z ag)
 (hx:bA n env x=some (.string b)) (hy:bA n env y=some (.int k lo)) (hl:0≤lo∧lo≤b.size) (h:ak C fn aF ops rest Q (A n (upd dst (.string (b.extract lo.toNat b.size)) env) D) s):ak C fn aF ops (i::rest) Q (A n env D) s:=by
 refine cy hC ho hw (by simp) ?_
 simp only[execOp,Option.map_some,Option.map_none,Instr.sliceAt,Instr.slice,aL hx,aL hy,af,a8 tf,Instr.sliceBounds,Instr.sliceBound,asIntOf,aj,Option.isSome_none,Bool.false_eq_true,if_false,hl,and_self,if_true]
 rw[←bI] at h
 exact h
theorem cD.part{a:Option Addr}{len cap:Nat}{enc:α→List Value}{ps:List α}(hs:cD ro (.slice a len cap) sz enc ps){l h:Nat}(hl:l≤h)(hh:h≤ps.length):cD ro (.slice (if cap=l then a else a.map (·.add (l*sz))) (h-l) (cap-l)) sz enc ((ps.take h).drop l):=by
 obtain⟨a',b,o,aR8,h1,h2,h3,h4⟩:=hs
 cases h1
 have hlen:((ps.take h).drop l).length=h-l:=by rw[List.length_drop,List.length_take];omega
 refine⟨_,b,o+l*sz,_,by rw[hlen],by omega,fun k hk=>?_,fun i p hp=>?_⟩
 ·have:=h3 0 (by omega)
  subst this
  rw[if_neg (by omega)]
  simp[ee]
 rw[List.getElem?_drop] at hp
 have hi:l+i <h:=by
  have:=(List.getElem?_eq_some_iff.1 hp).1
  rw[List.length_take] at this;omega
 rw[List.getElem?_take_of_lt hi] at hp
 have:=h4 _ _ hp
 rwa[show o+(l+i)*sz=o+l*sz+i*sz by rw[Nat.add_mul];omega] at this
theorem adX(hC:∀main T,C main T→Closed P main T){enc:α→List Value}{ps:List α}{L:Cells}(ho:ops[i]?=some ⟨dst,.call ⟨.builtin .len,#[x],#[T]⟩,ty,pos,dG,g⟩) (hw:aD ops n env g=true)
 (tf:TF P T (.slice E) sz bL z ag) (hx:bA n env x=some v) (gK:aK v szo T2 enc ps L) (h:ak C fn aF ops rest Q (A n (upd dst (.int .i64 ps.length) env) D) s):ak C fn aF ops (i::rest) Q (A n env D) s:=by
 obtain⟨a,c,rfl⟩:=gK.form
 exact azF hC ho hw tf hx h
end rules
theorem dF{aR:Nat→Option Obj}{K J:Cells}(hp:rw'.Perm (K++J))(h:Sub ro aR):(⟨ro,K⟩:St).le ⟨aR,rw'⟩:=⟨J,hp,fun b o hb=> .inl (h b o hb)⟩
theorem aP(h:l.all single=true):∀v∈l,single v=true:=List.all_eq_true.1 h
section any
variable {P:Program} {C:Class} {fn:FuncId} {aF:Option Nat} {Q:Post} {s:St} {n:Nat} {D:List Deferred} {ops:Array Oper} {base:Env}
def ap3(C:Class)(fn:FuncId)(aF:Option Nat)(ops:Array Oper)(n:Nat)(D:List Deferred)(base:Env)(Pl Sl:List (Nat×Value))(Q:Post)(s:St)(i:Nat):Prop:=
 ∀rest todo,(∀v s',(∀j w,(j,w)∈pending ops i Sl→eY C fn aF ops n D j w (bX ops base j Pl) s→eY C fn aF ops n D j w (bX ops base j Pl) s')→
  uU C fn aF ops n D base ((i,v)::Pl) (pending ops i Sl) Q s'→ak C fn aF ops todo Q (A n (upd (aQ ops i) v (bX ops base i Pl++rest)) D) s')→
  ak C fn aF ops (i::todo) Q (A n (bX ops base i Pl++rest) D) s
def yS(C:Class)(fn:FuncId)(aF:Option Nat)(ops:Array Oper)(n:Nat)(D:List Deferred)(base:Env)(Pl Sl:List (Nat×Value))(Q:Post)(s:St):List Nat→Prop
 | []=>True
 |i::is=>ap3 C fn aF ops n D base Pl Sl Q s i∧yS C fn aF ops n D base Pl Sl Q s is
theorem yS.mem{Pl Sl:List (Nat×Value)}:∀ {is:List Nat},yS C fn aF ops n D base Pl Sl Q s is→∀i∈is,ap3 C fn aF ops n D base Pl Sl Q s i
 | [],_,i,hi=>by cases hi
 |k::is,h,i,hi=>by
  rcases List.mem_cons.1 hi with rfl|hi
  ·exact h.1
  exact yS.mem h.2 i hi
def adQ(ops:Array Oper)(ks:List Nat)(is:List Nat):Bool:=
 (List.range ops.size).all fun j=>bC j ks||bC j is||(bG ops j).any fun k=> !bC k ks
theorem aaZ{Pl Sl:List (Nat×Value)}(is:List Nat)(nE:fU ops=true)(his:(is.all fun i=>Nat.blt i ops.size&& !bC i (ay Pl))=true)(gX:nodupB (ay Pl)=true)(iU:qd ops (ay Pl)=true)(hs:fV (ay Sl) (ay Pl)=true)(ho:adQ ops (ay Pl) is=true)
 (h:yS C fn aF ops n D base Pl Sl Q s is)(cF:is.isEmpty=false):uU C fn aF ops n D base Pl Sl Q s:=by
 have rT:∀i∈is,i∉ay Pl:=fun i hi hm=>by
  have:=(List.all_eq_true.1 his) i hi
  rw[aM.2 hm] at this;simp at this
 have Hu:∀i∈is,i <ops.size:=fun i hi=>by
  have:=(List.all_eq_true.1 his) i hi
  simp only[Bool.and_eq_true,Nat.blt_eq] at this
  exact this.1
 have Hg:∀(l:List (Nat×Value)),nodupB (ay l)=true→∀j v w,(j,v)∈l→(j,w)∈l→w=v:=by
  intro l
  induction l with
  |nil=>intro _ j v w h;cases h
  |cons x l ih=>
   rcases x with ⟨k,u⟩
   intro hb j v w h1 h2
   simp only[ay,nodupB,Bool.and_eq_true,Bool.not_eq_true'] at hb
   have hk:k∉ay l:=fun hm=>by rw[aM.2 hm] at hb;cases hb.1
   rcases List.mem_cons.1 h1 with h1|h1<;>rcases List.mem_cons.1 h2 with h2|h2
   ·cases h1;cases h2;rfl
   ·cases h1;exact absurd (aT.2 ⟨_,h2⟩) hk
   ·cases h2;exact absurd (aT.2 ⟨_,h1⟩) hk
   exact ih hb.2 j v w h1 h2
 intro hSl X l
 induction l generalizing X with
 |nil=>
  intro env hX hl qf hf
  cases is with
  |nil=>cases cF
  |cons i is=>exact absurd (hX i (qf i (Hu i List.mem_cons_self))) (rT i List.mem_cons_self)
 |cons j l ih=>
  intro env hX hl qf hf
  obtain⟨h1,h2,h3,h4⟩:=qf
  by_cases hj:j∈ay Pl
  ·
   obtain⟨w,hw⟩:=aT.1 hj
   obtain⟨rest,hr⟩:=xP (n:=n) (D:=D) hf j h3 h2
   rw[hr]
   refine hSl j w (hl j w hw h2) s (Ext.refl s) rest l Q ?_
   rw[←D7 hr]
   refine ih (j::X) _ (fun k hk=>?_) (fun k u hk Cj=>hl k u hk (fun h=>Cj (List.mem_cons_of_mem _ h))) h4 (uJ nE hf h1 h2 h3 (fun u hu=>Hg Pl gX j w u hw hu))
   rcases List.mem_cons.1 hk with rfl|hk
   ·exact hj
   exact hX k hk
  by_cases Cn:j∈is
  ·have h:=yS.mem h j Cn
   have rT:=rT j Cn
   obtain⟨rest,hr⟩:=xP (n:=n) (D:=D) hf j h3 h2
   rw[hr]
   refine h rest l fun v s' hp ha=>?_
   rw[←D7 hr]
   have IU:∀k,k∈ay Pl→j∉bG ops k:=by
    intro k hk hm
    have:=(List.all_eq_true.1 iU) k hk
    exact rT (cg.1 this j hm)
   have UI:∀k u,(k,u)∈pending ops j Sl→(k,u)∈Sl:=fun k u hk=>(List.mem_filter.1 hk).1
   refine ha (fun k u hk=>?_) (j::X) l _ (fun k hk=>?_) (fun k u hk Cj=>?_) h4 ?_
   ·rw[di (IU k (cg.1 hs k (aT.2 ⟨u,UI k u hk⟩)))]
    exact hp k u hk (hSl k u (UI k u hk))
   ·rcases List.mem_cons.1 hk with rfl|hk
    ·simp[ay]
    exact List.mem_cons_of_mem _ (hX k hk)
   ·rcases List.mem_cons.1 hk with hk|hk
    ·cases hk;exact absurd (by simp) Cj
    have Np:k∉X:=fun h=>Cj (List.mem_cons_of_mem _ h)
    refine List.mem_filter.2 ⟨hl k u hk Np,?_⟩
    cases hm:bC k (bG ops j) with
    |false=>rfl
    |true=>exact absurd (h3 k (aM.1 hm)) Np
   refine uJ nE (Dv hf h2) h1 h2 h3 fun u hu=>?_
   rcases List.mem_cons.1 hu with hu|hu
   ·cases hu;rfl
   exact absurd (aT.2 ⟨_,hu⟩) rT
  exfalso
  have:=(List.all_eq_true.1 ho) j (List.mem_range.2 h1)
  have e1:bC j (ay Pl)=false:=by
   cases hm:bC j (ay Pl) with
   |false=>rfl
   |true=>exact absurd (aM.1 hm) hj
  have e2:bC j is=false:=by
   cases hm:bC j is with
   |false=>rfl
   |true=>exact absurd (aM.1 hm) Cn
  rw[e1,e2] at this
  simp only[Bool.false_or,List.any_eq_true,Bool.not_eq_true'] at this
  obtain⟨k,hk,bR⟩:=this
  have:=hX k (h3 k hk)
  rw[aM.2 this] at bR;cases bR
end any
section rules
variable {P:Program} {C:Class} {fn:FuncId} {aF:Option Nat} {Q:Post} {s:St} {n:Nat} {env:Env} {D:List Deferred}
variable {ops:Array Oper} {i:Nat} {rest:List Nat} {dst:Option Tmp} {ty:TypeId} {pos:String} {dG:Array Edge} {g:Option (Nat×Bool)}
variable {T:TypeId} {d:TypeDesc} {sz bL:Nat} {z:List Value} {ag:Bool} {ro:Nat→Option Obj}
theorem xw{a:Act}(hC:∀main T,C main T→Closed P main T)(hp:rw'.Perm rw)(h:ak C fn aF ops todo Q a ⟨ro,rw⟩):ak C fn aF ops todo Q a ⟨ro,rw'⟩:=
 ak.more (s:=⟨ro,rw⟩) (s':=⟨ro,rw'⟩) hC ⟨[],by rw[List.append_nil];exact hp,fun b o hb=> .inl hb⟩ h
theorem oap(hC:∀main T,C main T→Closed P main T){w:Value}{enc:α→List Value}{ps qs:List α}{L R:List (Nat×Obj)}{d':TypeDesc}{E2:TypeId}{iY w7 sz2 A9:Nat}{z' z2:List Value}{ye ag2:Bool}{U:TypeId}
 (ho:ops[i]?=some ⟨dst,.call ⟨.builtin .append,#[x,y],#[T,U]⟩,ty,pos,dG,g⟩) (hw:aD ops n env g=true) (tf:TF P T (.slice E) sz bL z ag) (SA:TF P U (.slice E2) sz2 A9 z2 ag2) (jh:TF P E d' iY w7 z' ye) (hz:z'.length=iY)
 (hx:bA n env x=some v) (hy:bA n env y=some w) (gK:aK v iY E enc ps L) (IK:Sl ⟨ro,L++R⟩ w iY enc qs) (hq:∀p∈qs,∀c∈enc p,single c=true) (hb:xA (ps.length+qs.length) w7)
 (h:∀v' L',aK v' iY E enc (ps++qs) L'→ak C fn aF ops rest Q (A n (upd dst v' env) D) ⟨ro,L'++R⟩):ak C fn aF ops (i::rest) Q (A n env D) ⟨ro,L++R⟩:=
 Qe hC ho hw tf SA jh hz hx hy gK IK (pre:=[]) rfl hq hb h
theorem ost(hC:∀main T,C main T→Closed P main T){b o:Nat}{R:List (Nat×Obj)}{c:List Value}{e:TypeId}(ho:ops[i]?=some ⟨dst,.store T x y,ty,pos,dG,g⟩) (hw:aD ops n env g=true) (tf:TF P T d sz bL z ag)
 (hx:bA n env x=some (.pointer (some ⟨b,o,none⟩))) (hy:bA n env y=some (v)) (hl:v.cells=⟨l⟩) (hn:l.length=sz) (h1:∀v∈l,single v=true) (hb:o+l.length≤c.length)
 (h:ak C fn aF ops rest Q (A n (upd dst undef env) D) ⟨ro,(b,.cells ⟨dI c o l⟩ e (0,0))::R⟩):ak C fn aF ops (i::rest) Q (A n env D) ⟨ro,(b,.cells ⟨c⟩ e (0,0))::R⟩:=
 FK hC ho hw tf hx hy hl hn h1 (L:=[]) rfl hb h
end rules
section rules
variable {P:Program} {C:Class} {fn:FuncId} {aF:Option Nat} {Q:Post} {s:St} {n:Nat} {env:Env} {D:List Deferred}
variable {ops:Array Oper} {i:Nat} {rest:List Nat} {dst:Option Tmp} {ty:TypeId} {pos:String} {dG:Array Edge} {g:Option (Nat×Bool)}
theorem arK(hC:∀main T,C main T→Closed P main T){U:TypeId}{k:IntKind}{a b:Int}(ho:ops[i]?=some ⟨dst,.call ⟨.builtin .min,#[x,y],#[T,U]⟩,ty,pos,dG,g⟩) (hw:aD ops n env g=true)
 (hx:bA n env x=some (.int k a)) (hy:bA n env y=some (.int k b)) (h:ak C fn aF ops rest Q (A n (upd dst (.int k (min a b)) env) D) s):ak C fn aF ops (i::rest) Q (A n env D) s:=by
 refine cy hC ho hw (by simp) ?_
 have e:(if b <a then b else a)=min a b:=by omega
 simp only[execOp,resolve,invoke,builtin,Builtin.min_,List.map_toArray,List.map_cons,List.map_nil,aL hx,aL hy,List.foldlM_cons,List.foldlM_nil,Builtin.min2,af,aj,e]
 rw[←bI] at h
 exact h
theorem arL(hC:∀main T,C main T→Closed P main T){U:TypeId}{k:IntKind}{a b:Int}(ho:ops[i]?=some ⟨dst,.call ⟨.builtin .max,#[x,y],#[T,U]⟩,ty,pos,dG,g⟩) (hw:aD ops n env g=true)
 (hx:bA n env x=some (.int k a)) (hy:bA n env y=some (.int k b)) (h:ak C fn aF ops rest Q (A n (upd dst (.int k (max a b)) env) D) s):ak C fn aF ops (i::rest) Q (A n env D) s:=by
 refine cy hC ho hw (by simp) ?_
 have e:(if a <b then b else a)=max a b:=by omega
 simp only[execOp,resolve,invoke,builtin,Builtin.max_,List.map_toArray,List.map_cons,List.map_nil,aL hx,aL hy,List.foldlM_cons,List.foldlM_nil,Builtin.max2,af,aj,e]
 rw[←bI] at h
 exact h
end rules
def eF(a b:ByteArray):Bool:=a.toList==b.toList
def strLt(a b:ByteArray):Bool:=Op.bytesLess a.toList b.toList
section rules
variable {P:Program} {C:Class} {fn:FuncId} {aF:Option Nat} {Q:Post} {s:St} {n:Nat} {env:Env} {D:List Deferred}
variable {ops:Array Oper} {i:Nat} {rest:List Nat} {dst:Option Tmp} {ty:TypeId} {pos:String} {dG:Array Edge} {g:Option (Nat×Bool)}
theorem arH(hC:∀main T,C main T→Closed P main T){a:ByteArray}(ho:ops[i]?=some ⟨dst,.binOp .add T x y T',ty,pos,dG,g⟩) (hw:aD ops n env g=true)
 (hx:bA n env x=some (.string a)) (hy:bA n env y=some (.string b)) (hb:(a.size:Int)+b.size≤9223372036854775807) (h:ak C fn aF ops rest Q (A n (upd dst (.string (a++b)) env) D) s):ak C fn aF ops (i::rest) Q (A n env D) s:=
 Bx hC ho hw hx hy (v:= .string (a++b)) (by
  simp only[Op.stringOp]
  rw[if_neg]
  ·rfl
  have:IntKind.i64.max=9223372036854775807:=by decide
  rw[this];push_cast;omega) rfl h
end rules
theorem avH(b:ByteArray)(i:Nat)(h:i <b.size):b.get! i=b.data.toList[i]'(by simpa using h):=by
 have h':i <b.data.size:=h
 show b.data[i]! =_
 rw[getElem!_pos b.data i h']
 simp
theorem Yk(b:ByteArray):∀(n i:Nat) (r:List UInt8),b.size-i=n→ByteArray.toList.loop b i r=r.reverse++b.data.toList.drop i
 |0,i,r,h=>by
  unfold ByteArray.toList.loop
  rw[if_neg (by omega),List.drop_eq_nil_of_le]
  ·simp
  show b.data.toList.length≤i
  rw[Array.length_toList]
  have:b.data.size=b.size:=rfl
  omega
 |n+1,i,r,h=>by
  unfold ByteArray.toList.loop
  have hi:i <b.size:=by omega
  rw[if_pos hi,Yk b n (i+1) _ (by omega),avH b i hi]
  have hl:i <b.data.toList.length:=by rw[Array.length_toList];exact hi
  rw[List.drop_eq_getElem_cons hl]
  simp
theorem qW(b:ByteArray):b.toList=b.data.toList:=by
 show ByteArray.toList.loop b 0 []=_
 rw[Yk b _ 0 [] rfl]
 simp
theorem Cz{a:ByteArray}:eF a b=true↔a=b:=by
 unfold eF
 rw[qW,qW]
 simp only[beq_iff_eq]
 constructor
 ·intro h
  have:a.data=b.data:=Array.toList_inj.1 h
  cases a;cases b;simp at this;subst this;rfl
 rintro rfl;rfl
def FnG(P:Program)(f:FuncId)(args:List Value)(ro:Nat→Option Obj)(own:Cells)(Φ:Value→(Nat→Option Obj)→Cells→Prop):Prop:=
 Fn (CP P) P f ⟨args⟩ ⟨ro,own⟩ (fun en s'=>∃v aR X,en= .returned v∧s'=⟨aR,X⟩∧Sub ro aR∧Φ v aR X)
theorem FnG.use{P:Program}{own:Cells}{Φ:Value→(Nat→Option Obj)→Cells→Prop}(hp:s.rw.Perm (own++fr))(hf:FnG P f vs s.ro own Φ):
 Fn (CP P) P f ⟨vs⟩ s (fun en s'=>∃v aR X,en= .returned v∧Sub s.ro aR∧Φ v aR X∧(⟨aR,X++fr⟩:St).le s'):=by
 refine Fn.mono (Fn.frame (fr:=fr) (B:=[]) (ro:=s.ro) (s:=s) hf (fun _ h=>(by cases h)) ⟨hp,fun b o hb=> .inl hb,Sub.refl _⟩) fun en s' pP=>?_
 obtain⟨Ag,⟨v,aR,X,rfl,rfl,hs,pO⟩,hc⟩:=pP
 refine⟨v,aR,X,rfl,hs,pO,[],by simpa using hc.rw,fun b o hb=>?_⟩
 rcases hc.aV b o hb with h|h
 ·exact .inl h
 cases h
theorem Gy:∀(A l:List Value) (o:Nat) (c:List Value),dI (A++l) (A.length+o) c=A++dI l o c
 | [],l,o,c=>by simp
 |a::A,l,o,[]=>by rw[mC,mC]
 |a::A,l,o,v::c=>by
  have:=Gy A l o (v::c)
  rw[show (a::A).length+o=A.length+o+1 by simp only[List.length_cons];omega]
  simp only[List.cons_append,dI,this]
theorem Kh{m B:List Value}{o:Nat}{c:List Value}(h:o+c.length≤m.length):dI (m++B) o c=dI m o c++B:=by
 rw[sr _ _ _ (by rw[List.length_append];omega),sr _ _ _ h,List.take_append_of_le_length (by omega),List.drop_append_of_le_length h]
 simp only[List.append_assoc]
theorem Zj{m c:List Value}(h:c.length=m.length):dI m 0 c=c:=by
 rw[sr _ _ _ (by omega)]
 simp[h]
theorem Vl{enc:α→List Value}{ps:List α}(UI:∀p∈ps,(enc p).length=sz){k:Nat}{x:α}(hx:ps[k]?=some x) (hl:l.take (ps.length*sz)=(ps.map enc).flatten):∃A B,A.length=k*sz∧l=A++(enc x++B):=by
 obtain⟨hk,rfl⟩:=List.getElem?_eq_some_iff.1 hx
 refine⟨((ps.take k).map enc).flatten,((ps.drop (k+1)).map enc).flatten++l.drop (ps.length*sz),?_,?_⟩
 ·rw[lD _ (fun p hp=>UI p (List.mem_of_mem_take hp)),List.length_take,Nat.min_eq_left (by omega)]
 have h3:ps=ps.take k++ps[k]::ps.drop (k+1):=by rw[←List.drop_eq_getElem_cons hk,List.take_append_drop]
 have h4:=congrArg (fun q:List α=>(q.map enc).flatten) h3
 simp only[List.map_append,List.map_cons,List.flatten_append,List.flatten_cons] at h4
 have h5:=(List.take_append_drop (ps.length*sz) l).symm
 rw[hl,h4] at h5
 simpa only[List.append_assoc] using h5
theorem Zk{enc:α→List Value}{ps:List α}(UI:∀p∈ps,(enc p).length=sz){k:Nat}{x:α}(hx:ps[k]?=some x) (hl:l.take (ps.length*sz)=(ps.map enc).flatten) {o:Nat} {c:List Value} (h:o+c.length≤sz):
 dI l (k*sz+o) c=dI l (k*sz) (dI (enc x) o c):=by
 have hxl:=UI x (List.mem_of_getElem? hx)
 obtain⟨A,B,h1,rfl⟩:=Vl UI hx hl
 have e0:∀q,dI (A++(enc x++B)) A.length q=A++dI (enc x++B) 0 q:=fun q=>Gy A _ 0 q
 rw[←h1,Gy,e0,Kh (by omega),Kh (by rw[mD];omega),Zj (mD _ _ _)]
section rules
variable {P:Program} {C:Class} {fn:FuncId} {aF:Option Nat} {Q:Post} {ro:Nat→Option Obj} {n:Nat} {env:Env} {D:List Deferred}
variable {ops:Array Oper} {i:Nat} {rest:List Nat} {dst:Option Tmp} {ty:TypeId} {pos:String} {dG:Array Edge} {g:Option (Nat×Bool)}
variable {T:TypeId} {d:TypeDesc} {tsz bL:Nat} {z:List Value} {ag:Bool}
theorem azw(hC:∀main T,C main T→Closed P main T){b k o:Nat}{w:Value}{a e:α}{c:List Value}{enc:α→List Value}{ps:List α}{L:Cells}(ho:ops[i]?=some ⟨dst,.store T x y,ty,pos,dG,g⟩) (hw:aD ops n env g=true) (tf:TF P T d tsz bL z ag)
 (hx:bA n env x=some (.pointer (some ⟨b,k*sz+o,none⟩))) (hy:bA n env y=some w) (hl:w.cells=⟨c⟩) (hn:c.length=tsz) (h1:∀v∈c,single v=true) (gK:aK v sz E enc ps L) (hb:JL v b) (hk:ps[k]?=some a) (he:enc e=dI (enc a) o c) (hf:o+c.length≤sz)
 (h:∀L',aK v sz E enc (ps.set k e) L'→ak C fn aF ops rest Q (A n (upd dst undef env) D) ⟨ro,L'++R⟩):ak C fn aF ops (i::rest) Q (A n env D) ⟨ro,L++R⟩:=by
 have hk1:k <ps.length:=(List.getElem?_eq_some_iff.1 hk).1
 rcases gK with ⟨_,h2,_⟩| ⟨b',l,cap,g1,g2,g3,g4,g5,g6⟩
 ·subst h2;simp at hk
 obtain⟨n',c',ju⟩:=hb
 rw[g1] at ju
 cases ju
 subst g2
 have hea:(enc a).length=sz:=g5 a (List.mem_of_getElem? hk)
 have pP:(enc e).length=sz:=by rw[he,mD,hea]
 have Xz:k*sz+sz≤ps.length*sz:=by
  have:(k+1)*sz≤ps.length*sz:=Nat.mul_le_mul_right _ (by omega)
  rw[Nat.succ_mul] at this;exact this
 have ek:ps.length*sz≤cap*sz:=Nat.mul_le_mul_right _ g4
 refine FK (L:=[]) (R:=R) hC ho hw tf hx hy hl hn h1 rfl (by omega)<|h [(b,.cells ⟨dI l (k*sz+o) c⟩ E (0,0))] (.inr ⟨b,_,cap,by rw[g1,List.length_set],rfl,by rw[mD,g3],by rw[List.length_set];exact g4,fun p hp=>?_,?_⟩)
 ·rcases List.mem_or_eq_of_mem_set hp with h5|h5
  ·exact g5 p h5
  subst h5;exact pP
 rw[List.length_set,Zk g5 hk g6 hf,←he]
 exact RB ps g5 k e pP hk1 l g6
end rules
section rules
variable {P:Program} {C:Class} {fn:FuncId} {aF:Option Nat} {Q:Post} {s:St} {n:Nat} {env:Env} {D:List Deferred}
variable {ops:Array Oper} {i:Nat} {rest:List Nat} {dst:Option Tmp} {ty:TypeId} {pos:String} {dG:Array Edge} {g:Option (Nat×Bool)}
structure EF(P:Program)(f:FuncId)(e:Array Value→Sem Value):Prop where
 ef:∃fn,P.funcs[f]?=some fn∧(fn.name== "runtime.NumGoroutine")=false∧fn.body.isNone=true∧(Extern.findNext fn).isNone=true∧Extern.find fn=some e
theorem ad0(hC:∀main T,C main T→Closed P main T){e:Array Value→Sem Value}(ho:ops[i]?=some ⟨dst,.call ⟨.value (.func f),xs,at_⟩,ty,pos,dG,g⟩) (hw:aD ops n env g=true)
 (ef:EF P f e) (hx:tP n env xs=some vs) (h:cu P (e ⟨vs⟩) s (fun v s'=>ak C fn aF ops rest Q (A n (upd dst v env) D) s') (fun _ _=>False)):ak C fn aF ops (i::rest) Q (A n env D) s:=by
 obtain⟨fn',h1,h2,h3,h4,h5⟩:=ef.ef
 have h4':Extern.findNext fn'=none:=by
  cases hh:Extern.findNext fn' with
  |none=>rfl
  |some x=>rw[hh] at h4;cases h4
 refine cy hC ho hw (by simp) ?_
 simp only[execOp,resolve,ev,Deferred.ofValue,aj,rC hx]
 simp only[invoke,Array.append_empty,Array.empty_append,callFunc,eZ,h1,h2,h3,h4',h5,if_true,Bool.false_eq_true,if_false]
 refine⟨rfl,?_⟩
 refine Pb (e ⟨vs⟩) (fun v=>(pure (Next.value v):Sem Next)) _ _ _<|xd _ _ _ _ _ _ (fun v s' hv=>?_) (fun _ _ (hf:False)=>hf.elim) h
 rw[←bI] at hv
 exact hv
end rules
def QE(a:ByteArray)(b:UInt8):Int:=
 match (List.range a.size).find? fun i=>a[i]! ==b with
 |some i=>i
 |none=> -1
section rules
variable {P:Program} {C:Class} {fn:FuncId} {aF:Option Nat} {Q:Post} {s:St} {n:Nat} {env:Env} {D:List Deferred}
variable {ops:Array Oper} {i:Nat} {rest:List Nat} {dst:Option Tmp} {ty:TypeId} {pos:String} {dG:Array Edge} {g:Option (Nat×Bool)}
theorem adY(hC:∀main T,C main T→Closed P main T){a:ByteArray}{b:Int}(ho:ops[i]?=some ⟨dst,.call ⟨.value (.func f),xs,at_⟩,ty,pos,dG,g⟩) (hw:aD ops n env g=true)
 (ef:EF P f Extern.BytealgIndexByte.indexByte) (hx:tP n env xs=some [.string a,.int .u8 b]) (h:ak C fn aF ops rest Q (A n (upd dst (.int .i64 (QE a b.toNat.toUInt8)) env) D) s):ak C fn aF ops (i::rest) Q (A n env D) s:=by
 refine ad0 hC ho hw ef hx ?_
 unfold QE at h
 show cu P (match (List.range a.size).find? fun i=>a[i]! ==b.toNat.toUInt8 with|some i=>pure (goInt i)|none=>pure (goInt (-1))) s _ _
 split
 ·rename_i j hj
  rw[hj] at h;exact h
 rename_i hj
 rw[hj] at h;exact h
theorem akn(hC:∀main T,C main T→Closed P main T)(ho:ops[i]?=some ⟨dst,.call ⟨.value (.func f),xs,at_⟩,ty,pos,dG,g⟩) (hw:aD ops n env g=true)
 (ef:EF P f Extern.AbiNoEscape.same) (hx:tP n env xs=some [v]) (h:ak C fn aF ops rest Q (A n (upd dst v env) D) s):ak C fn aF ops (i::rest) Q (A n env D) s:=
 ad0 hC ho hw ef hx h
end rules
theorem aaD{c:UInt8}(h:b.data.toList[p]?=some c) (ha:c.toNat <128):p <b.size∧Utf8.decode b p=(c.toNat,1):=by
 rw[Array.getElem?_toList] at h
 obtain⟨h1,h2⟩:=Array.getElem?_eq_some_iff.1 h
 refine⟨h1,?_⟩
 have h3:b.get! (p+0)=c:=by
  show b.data[p+0]! =c
  rw[Nat.add_zero,getElem!_pos b.data p h1,h2]
 simp only[Utf8.decode,h3]
 rw[if_pos (by omega)]
section rules
variable {P:Program} {C:Class} {fn:FuncId} {aF:Option Nat} {Q:Post} {ro:Nat→Option Obj} {n:Nat} {env:Env} {D:List Deferred}
variable {ops:Array Oper} {i:Nat} {rest:List Nat} {dst:Option Tmp} {ty:TypeId} {pos:String} {dG:Array Edge} {g:Option (Nat×Bool)}
theorem akp(hC:∀main T,C main T→Closed P main T){c:UInt8}(ho:ops[i]?=some ⟨dst,.next x true,ty,pos,dG,g⟩) (hw:aD ops n env g=true) (hx:bA n env x=some (.pointer (some ⟨r,0,none⟩))) (hp:b.data.toList[p]?=some c) (ha:c.toNat <128)
 (h:ak C fn aF ops rest Q (A n (upd dst (.tuple ⟨[.bool true,.int .i64 p,.int .i32 c.toNat]⟩) env) D) ⟨ro,(r,.stringIter b (p+1))::R⟩):ak C fn aF ops (i::rest) Q (A n env D) ⟨ro,(r,.stringIter b p)::R⟩:=by
 obtain⟨h1,h2⟩:=aaD hp ha
 refine Zq hC ho hw hx (L:=[]) rfl h1 ?_
 rw[h2]
 exact h
theorem ako(hC:∀main T,C main T→Closed P main T)(ho:ops[i]?=some ⟨dst,.next x true,ty,pos,dG,g⟩) (hw:aD ops n env g=true) (hx:bA n env x=some (.pointer (some ⟨r,0,none⟩))) (hp:b.data.toList[p]?=none)
 (h:ak C fn aF ops rest Q (A n (upd dst (.tuple ⟨[.bool false]⟩) env) D) ⟨ro,(r,.stringIter b p)::R⟩):ak C fn aF ops (i::rest) Q (A n env D) ⟨ro,(r,.stringIter b p)::R⟩:=by
 refine Zr hC ho hw hx (L:=[]) rfl ?_ h
 rw[Array.getElem?_toList,Array.getElem?_eq_none_iff] at hp
 exact Nat.not_lt.2 hp
end rules
theorem Gg(ops:Array Oper)(n:Nat)(env:Env)(D:List Deferred)(o:Oper)(j:Nat)(want:Bool)(d:Tmp)(hg:o.guard=some (j,want))(hd:(ops[j]?).bind (·.dst)=some d)
 (hv:bA n env (.tmp d)=some undef):Region.wanted o (yielded ops (A n env D).tmps)=false:=by
 unfold Region.wanted
 rw[hg]
 simp only[bA] at hv
 by_cases bO:d <n
 ·rw[show Nat.blt d n=true from by simpa [Nat.blt_eq] using bO] at hv
  simp only[cond_true] at hv
  simp only[yielded,hd,Option.bind_some,Oz]
  rw[if_pos bO,nQ hv]
  rfl
 rw[show Nat.blt d n=false from by simpa [Nat.blt_eq,←Bool.not_eq_true] using bO] at hv
 cases hv
section rules
variable {P:Program} {C:Class} {fn:FuncId} {aF:Option Nat} {Q:Post} {s:St} {n:Nat} {env:Env} {D:List Deferred}
variable {ops:Array Oper} {i:Nat} {rest:List Nat} {dst:Option Tmp} {ty:TypeId} {pos:String} {dG:Array Edge} {g:Option (Nat×Bool)}
theorem akm(hC:∀main T,C main T→Closed P main T){op:Op}{j:Nat}{want:Bool}{d:Tmp}(ho:ops[i]?=some ⟨dst,op,ty,pos,dG,some (j,want)⟩) (hd:(ops[j]?).bind (·.dst)=some d)
 (hv:bA n env (.tmp d)=some undef) (h:ak C fn aF ops rest Q (A n (upd dst undef env) D) s):ak C fn aF ops (i::rest) Q (A n env D) s:=by
 refine vq hC ho (Gg _ _ _ _ _ _ _ _ rfl hd hv) ?_
 rw[bI];exact h
end rules
section rules
variable {P:Program} {C:Class} {fn:FuncId} {aF:Option Nat} {Q:Post} {s:St} {n:Nat} {env:Env} {D:List Deferred}
variable {ops:Array Oper} {i:Nat} {rest:List Nat} {dst:Option Tmp} {ty:TypeId} {pos:String} {dG:Array Edge} {g:Option (Nat×Bool)}
variable {T:TypeId} {sz bL:Nat} {z:List Value} {ag:Bool}
theorem akl(hC:∀main T,C main T→Closed P main T){a:Option Addr}{l c:Nat}(ho:ops[i]?=some ⟨dst,.binOp .eql T x y T',ty,pos,dG,g⟩) (hw:aD ops n env g=true) (tf:TF P T (.slice E) sz bL z ag)
 (hx:bA n env x=some (.slice a l c)) (hy:bA n env y=some (.slice none 0 0)) (h:ak C fn aF ops rest Q (A n (upd dst (.bool a.isNone) env) D) s):ak C fn aF ops (i::rest) Q (A n env D) s:=by
 refine cy hC ho hw (by simp) ?_
 have hg:eqGuard .eql T x y (.slice a l c) (.slice none 0 0)=Sem.pure ():=by cases a<;>rfl
 have hb:binOp .eql T (.slice a l c) (.slice none 0 0)=(Op.equal T (.slice a l c) (.slice none 0 0) >>= fun r=>pure (.bool r)):=by cases a<;>rfl
 have he:∀ {α:Type} (K:Bool→Sem α) (Q:α→St→Prop) (E:Halt→St→Prop),cu P (K a.isNone) s Q E→cu P (Op.equal T (.slice a l c) (.slice none 0 0) >>= K) s Q E:=by
  intro α K Q E hK
  have gen:∀d,cu P (Op.equalIn (d+1) T (.slice a l c) (.slice none 0 0) >>= K) s Q E:=by
   intro d
   cases a<;>(simp only[Op.equalIn,af,a8 tf,aj,Option.isNone];exact hK)
  exact gen 9999
 simp only[execOp,aL hx,aL hy,hg,hb]
 show cu P ((Op.equal T (.slice a l c) (.slice none 0 0) >>= fun r=>(pure (Value.bool r):Sem Value)) >>= fun x=>(pure (Next.value x):Sem Next)) s _ _
 simp only[af]
 refine he _ _ _ ?_
 rw[←bI] at h
 exact h
end rules
def ads:Op→Option (List Operand)
 | .move x=>some [x]
 | .assign x=>some [x]
 | .extract x _=>some [x]
 | .nilCheck x=>some [x]
 | .fieldAddr _ x _=>some [x]
 | .makeInterface _ x=>some [x]
 | .indexAddr _ x y=>some [x,y]
 |op=>GB op
theorem PN{xs:List Operand}(h:ads o.op=some xs){f g:Operand→Value}(hfg:∀x∈xs,f x=g x):execOp f o=execOp g o:=by
 unfold ads at h
 split at h
 all_goals first
  | (rename_i heq;simp only[Option.some.injEq] at h;subst h;simp[execOp,heq,hfg];done)
  |exact vn h hfg
def evj(n:Nat)(e:Env)(x:Operand):Value:=(bA n e x).getD undef
theorem NL{f:Operand→Value}(hf:Ev n e f):∀ {xs:List Operand} {vs:List Value},ze n e xs=some vs→∀x∈xs,f x=evj n e x
 |y::l,vs,h,x,hx=>by
  simp only[ze] at h
  cases hv:bA n e y with
  |none=>rw[hv] at h;cases h
  |some v=>
   rw[hv] at h
   cases hr:ze n e l with
   |none=>rw[hr] at h;cases h
   |some r=>
    rcases List.mem_cons.1 hx with rfl|hx
    ·rw[hf _ _ hv,evj,hv];rfl
    exact NL hf hr x hx
def arc(P:Program)(n:Nat)(e:Env)(o:Oper):Option Value:=
 match ads o.op with
 |some xs=>match ze n e xs with
  |some _=>match bN P (execOp (evj n e) o) with
   |some (.value v)=>some v
   |_=>none
  |none=>none
 |none=>none
def aAt(P:Program)(n:Nat)(e:Env)(x:Operand)(T:TypeId):Option Value:=
 match aY P T with
 |some ⟨.slice _,_,_,_⟩=>match bA n e x with
  |some (.slice _ len _)=>some (.int .i64 len)
  |_=>none
 |some ⟨.string,_,_,_⟩=>match bA n e x with
  |some (.string b)=>some (.int .i64 b.size)
  |_=>none
 |_=>none
def VD(P:Program)(n:Nat)(e:Env)(T:TypeId)(ps:Array (Nat×Operand)):Option Value:=
 match aY P T with
 |some ⟨.struct fields,_,z,_⟩=>match yq P fields.toList with
  |some pl=>match OO n e ps.toList with
   |some pv=>match pW (fun i=>pl[i]?) z (vp pv) with
    |some l=>some (.agg ⟨l⟩)
    |none=>none
   |none=>none
  |none=>none
 |some ⟨.array _ E,_,z,_⟩=>match aY P E with
  |some te=>match OO n e ps.toList with
   |some pv=>match pW (fun i=>some (i*te.size,te.size)) z (vp pv) with
    |some l=>some (.agg ⟨l⟩)
    |none=>none
   |none=>none
  |none=>none
 |_=>none
def abQ(P:Program)(n:Nat)(e:Env)(o:Oper):Option Value:=
 match o.op with
 | .pick c x y=>match bA n e c with
  |some (.bool true)=>bA n e x
  |some (.bool false)=>bA n e y
  |_=>none
 | .makeFunc f x y=>match ze n e x.toList with
  |some x'=>match ze n e y.toList with
   |some y'=>some (.func f ⟨x'⟩ ⟨y'⟩)
   |none=>none
  |none=>none
 | .build T ps=>VD P n e T ps
 | .call ⟨.builtin .len,⟨[x]⟩,⟨[T]⟩⟩=>aAt P n e x T
 |_=>arc P n e o
section val
variable {P:Program} {n:Nat} {e:Env} {o:Oper} {s:St} {v:Value}
theorem ajG(h:arc P n e o=some v):Yields P n e o s v:=by
 unfold arc at h
 split at h<;>try (cases h;done)
 rename_i xs hx
 split at h<;>try (cases h;done)
 rename_i vs hvs
 split at h<;>try (cases h;done)
 rename_i w hr
 cases h
 intro s' _ f hf K E hK
 rw[PN hx (NL hf hvs)]
 exact pz hr hK
theorem aaP{ps:Array (Nat×Operand)}(heq:o.op= .build T ps)(h:VD P n e T ps=some v):Yields P n e o s v:=by
 unfold VD at h
 split at h<;>try (cases h;done)
 ·rename_i fields _ z _ dP
  obtain⟨bL,tf⟩:=aB dP
  split at h<;>try (cases h;done)
  rename_i pl xb
  split at h<;>try (cases h;done)
  rename_i pv Jp
  split at h<;>try (cases h;done)
  rename_i l hl
  cases h
  intro s' kR f hf K E hK
  simp only[execOp,heq,Instr.build,af,jY tf,a8 tf,dQ tf]
  rw[Array.mapM_eq_mapM_toList]
  simp only[map_eq_pure_bind,af,aj]
  rw[pd (Am xb)]
  rw[lR] at hl
  have h1:=fill_eq _ _ _ _ hl
  have h3:(fun x=>(pl.toArray)[x]?:Nat→Option (Nat×Nat))=fun i=>pl[i]?:=by funext i;simp
  simp only[h3,hf.xu Jp,h1,aj]
  exact hK
 rename_i len E _ z _ dP
 obtain⟨bL,tf⟩:=aB dP
 split at h<;>try (cases h;done)
 rename_i te qx
 obtain⟨A9,qY⟩:=aB qx
 split at h<;>try (cases h;done)
 rename_i pv Jp
 split at h<;>try (cases h;done)
 rename_i l hl
 cases h
 intro s' kR f hf K E hK
 simp only[execOp,heq,Instr.build,af,jY tf,a8 tf,dQ tf,cw qY]
 rw[lR] at hl
 have h1:=fill_eq _ _ _ _ hl
 simp only[hf.xu Jp,h1,aj]
 exact hK
theorem Bi(h:abQ P n e o=some v):Yields P n e o s v:=by
 unfold abQ at h
 split at h
 ·rename_i c x y heq
  split at h<;>try (cases h;done)
  ·rename_i hc
   intro s' _ f hf K E hK
   simp only[execOp,heq,hf _ _ hc,hf _ _ h]
   exact hK
  rename_i hc
  intro s' _ f hf K E hK
  simp only[execOp,heq,hf _ _ hc,hf _ _ h]
  exact hK
 ·rename_i g x y heq
  split at h<;>try (cases h;done)
  rename_i x' hx
  split at h<;>try (cases h;done)
  rename_i y' hy
  cases h
  intro s' _ f hf K E hK
  simp only[execOp,heq,hf.arr hx,hf.arr hy]
  exact hK
 ·rename_i T ps heq;exact aaP heq h
 ·rename_i x T heq
  unfold aAt at h
  split at h<;>try (cases h;done)
  ·rename_i dP
   obtain⟨bL,tf⟩:=aB dP
   split at h<;>try (cases h;done)
   rename_i hx
   cases h
   intro s' _ f hf K E hK
   simp only[execOp,heq,resolve,invoke,builtin,Builtin.len_,List.map_toArray,List.map_cons,List.map_nil,hf _ _ hx,aj,List.getElem?_toArray,List.getElem?_cons_zero,a8 tf,af]
   exact hK
  rename_i dP
  obtain⟨bL,tf⟩:=aB dP
  split at h<;>try (cases h;done)
  rename_i hx
  cases h
  intro s' _ f hf K E hK
  simp only[execOp,heq,resolve,invoke,builtin,Builtin.len_,List.map_toArray,List.map_cons,List.map_nil,hf _ _ hx,aj,List.getElem?_toArray,List.getElem?_cons_zero,a8 tf,af]
  exact hK
 exact ajG h
end val
def ldv(P:Program)(T:TypeId)(l:List Value)(off:Nat):Option Value:=
 match aY P T with
 |some ti=>bif ti.agg then (match sub l off ti.size with
  |some vs=>some (.agg ⟨vs⟩)
  |none=>none) else nth l off
 |none=>none
theorem Um{P:Program}{b:Nat}{t:TypeId}(heq:o.op= .load T x)(hx:bA n e x=some (.pointer (some ⟨b,off,none⟩)))(hb:s.has b (.cells ⟨l⟩ t fz))(h:ldv P T l off=some v):Yields P n e o s v:=by
 unfold ldv at h
 split at h<;>try (cases h;done)
 rename_i ti dP
 obtain⟨bL,tf⟩:=aB dP
 intro s' hs f hf K E hK
 cases ha:ti.agg with
 |true=>
  rw[ha] at h tf
  simp only[cond_true] at h
  split at h<;>try (cases h;done)
  rename_i vs hvs
  cases h
  simp only[execOp,heq,Instr.loadAt,hf _ _ hx,Instr.sureAddr,loadVar,af,aj,kK tf,if_true,cw tf]
  exact jQ ⟨_,_,_,hs _ _ hb,hvs⟩ hK
 |false=>
  rw[ha] at h tf
  simp only[cond_false] at h
  simp only[execOp,heq,Instr.loadAt,hf _ _ hx,Instr.sureAddr,loadVar,af,aj,kK tf,Bool.false_eq_true,if_false]
  exact xf ⟨_,_,_,hs _ _ hb,h⟩ hK
theorem ase{P:Program}{b m:Nat}(k:Nat)(heq:o.op= .load T x)(hx:bA n e x=some (.pointer (some ⟨b,off+k,none⟩)))(hb:da s b off m l)(h:ldv P T l k=some v):Yields P n e o s v:=by
 unfold ldv at h
 split at h<;>try (cases h;done)
 rename_i ti dP
 obtain⟨bL,tf⟩:=aB dP
 intro s' hs f hf K E hK
 cases ha:ti.agg with
 |true=>
  rw[ha] at h tf
  simp only[cond_true] at h
  split at h<;>try (cases h;done)
  rename_i vs hvs
  cases h
  simp only[execOp,heq,Instr.loadAt,hf _ _ hx,Instr.sureAddr,loadVar,af,aj,kK tf,if_true,cw tf]
  exact jQ ((hb.ext hs).part k ti.size hvs) hK
 |false=>
  rw[ha] at h tf
  simp only[cond_false] at h
  simp only[execOp,heq,Instr.loadAt,hf _ _ hx,Instr.sureAddr,loadVar,af,aj,kK tf,Bool.false_eq_true,if_false]
  exact xf ((hb.ext hs).cell k v (by rw[←rh];exact h)) hK
structure Cx where
 P:Program
 C:Class
 hC:∀main T,C main T→Closed P main T
 hm:P.follows .mixedOrders=true
 fn:FuncId
 aF:Option Nat
 n:Nat
 D:List Deferred
 ro:Nat→Option Obj
 Q:Post
def Cx.at(X:Cx)(ro:Nat→Option Obj):Cx:={X with ro:=ro}
inductive KI where
 |seq (b:Code)
 |block (id:Nat)
 |next (K:Act→St→Prop)
inductive Sg where
 |b (i:Nat) (o:Obj)
 |l (L:Cells)
def den:List Sg→Cells
 | []=>[]
 | [.l L]=>L
 | .b i o::r=>(i,o)::den r
 | .l L::r=>L++den r
theorem jJ(i:Nat)(o:Obj)(r:List Sg):den (.b i o::r)=(i,o)::den r:=by cases r<;>rfl
theorem gA(L:Cells)(r:List Sg):den (.l L::r)=L++den r:=by cases r<;>simp[den]
inductive Pos where
 |ops (ops:Array Oper) (todo:List Nat) (k:List KI)
 |code (c:Code) (k:List KI)
 |nxt (K:Act→St→Prop)
 |DC (ops:Array Oper) (base:Env) (Pl Sl:List (Nat×Value)) (k:List KI)
 |fin (e:Exit)
structure Kn where
 c:Cells
 nd:List (Nat×Cells)
structure JS where
 pos:Pos
 env:Env
 rw:List Sg
 kn:Kn
variable {s':JS}
def KQ(X:Cx):List KI→Post
 | []=>X.Q
 | .seq b::k=>nj (fun a s=>Wp X.C X.fn X.aF b (KQ X k) a s) (KQ X k)
 | .block id::k=>rH id (KQ X k)
 | .next K::k=>nj K (KQ X k)
def Ej:Op→Bool
 | .load .. =>false
 | .lookup .. =>false
 | .call ⟨.value _,_,_⟩=>false
 | .call ⟨.invoke ..,_,_⟩=>false
 |_=>true
def xK(ops:Array Oper)(n:Nat)(e:Env):Option (Nat×Bool)→Option Bool
 |none=>some true
 |some (j,want)=>match aQ ops j with
  |some d=>match bA n e (.tmp d) with
   |some (.bool true)=>some want
   |some (.bool false)=>some (!want)
   |some (.tuple ⟨[]⟩)=>some false
   |_=>none
  |none=>none
def q7(ops:Array Oper)(n:Nat)(base:Env)(Pl:List (Nat×Value))(j:Nat):Bool:=match ops[j]? with
 |some p=>Ej p.op||(match xK ops n (bX ops base j Pl) p.guard with
  |some false=>true
  |_=>false)
 |none=>false
def PF(X:Cx)(nd:List (Nat×Cells))(ops:Array Oper)(base:Env)(Pl Sl:List (Nat×Value)):Prop:=
 (∀j u,(j,u)∈Sl→q7 ops X.n base Pl j=true→∀s,eY X.C X.fn X.aF ops X.n X.D j u (bX ops base j Pl) s)∧
 ∀j u B,(j,u)∈Sl→(j,B)∈nd→∀s,Ext ⟨X.ro,[]⟩ s→(∀x∈B,s.has x.1 x.2)→eY X.C X.fn X.aF ops X.n X.D j u (bX ops base j Pl) s
def ndK:List (Nat×Cells)→List Nat
 | []=>[]
 | (i,_)::l=>i::ndK l
theorem MY{i:Nat}{B:Cells}:∀ {l:List (Nat×Cells)},(i,B)∈l→i∈ndK l
 | (j,C)::l,h=>by
  simp only[ndK]
  rcases List.mem_cons.1 h with h|h
  ·cases h;exact List.mem_cons_self
  exact List.mem_cons_of_mem _ (MY h)
def JP(X:Cx)(kn:Kn)(e:Env)(w:List Sg):Pos→Prop
 | .ops ops todo k=>ak X.C X.fn X.aF ops todo (KQ X k) (A X.n e X.D) ⟨X.ro,den w⟩
 | .code c k=>Wp X.C X.fn X.aF c (KQ X k) (A X.n e X.D) ⟨X.ro,den w⟩
 | .nxt K=>K (A X.n e X.D) ⟨X.ro,den w⟩
 | .DC ops base Pl Sl k=>PF X kn.nd ops base Pl Sl→uU X.C X.fn X.aF ops X.n X.D base Pl Sl (KQ X k) ⟨X.ro,den w⟩
 | .fin e'=>X.Q e' (A X.n e X.D) ⟨X.ro,den w⟩
def J(X:Cx):Option JS→Prop
 |none=>False
 |some s=>Knows X.ro s.kn.c→JP X s.kn s.env s.rw s.pos
def PS:List KI→Pos
 | []=> .fin .normal
 | .seq b::k=> .code b k
 | .block _::k=>PS k
 | .next K::_=> .nxt K
theorem vo{X:Cx}{kn:Kn}{w:List Sg}:∀ {k:List KI},JP X kn e w (PS k)→KQ X k .normal (A X.n e X.D) ⟨X.ro,den w⟩
 | [],h=>h
 | .seq _::_,h=>h
 | .block _::k,h=>vo (k:=k) h
 | .next _::_,h=>h
def BU(id:Nat):List KI→Option Pos
 | []=>some (.fin (.exit id))
 | .seq _::k=>BU id k
 | .block i::k=>bif Nat.beq id i then some (PS k) else BU id k
 | .next _::k=>BU id k
theorem xU{X:Cx}{kn:Kn}{w:List Sg}{id:Nat}{p:Pos}:∀ {k:List KI},BU id k=some p→JP X kn e w p→KQ X k (.exit id) (A X.n e X.D) ⟨X.ro,den w⟩
 | [],h,hj=>by simp only[BU,Option.some.injEq] at h;subst h;exact hj
 | .seq _::k,h,hj=>xU (k:=k) h hj
 | .next _::k,h,hj=>xU (k:=k) h hj
 | .block i::k,h,hj=>by
  simp only[BU] at h
  cases hb:Nat.beq id i with
  |true=>
   rw[hb] at h;simp only[cond_true,Option.some.injEq] at h;subst h
   have:=Nat.eq_of_beq_eq_true hb;subst this
   exact EO (vo hj)
  |false=>
   rw[hb] at h;simp only[cond_false] at h
   exact EN hb (xU (k:=k) h hj)
theorem Br{X:Cx}{a:Act}(h:X.Q .ret a s):∀(k:List KI),KQ X k .ret a s
 | []=>h
 | .seq _::k=>Br h k
 | .next _::k=>Br h k
 | .block _::k=>Br h k
def ayp:Op→Bool
 | .move _| .assign _| .pick .. | .makeFunc .. | .extract .. | .nilCheck _| .fieldAddr .. | .makeInterface .. | .indexAddr .. | .index .. | .field .. | .binOp .. | .unOp .. | .convert .. | .build .. | .load .. | .lookup .. | .slice .. =>true
 | .call ⟨.builtin .len,_,_⟩| .call ⟨.builtin .cap,_,_⟩| .call ⟨.builtin .min,_,_⟩| .call ⟨.builtin .max,_,_⟩=>true
 |_=>false
def ayq(ops:Array Oper)(i:Nat):Bool:=match ops[i]? with
 |some o=>ayp o.op
 |none=>false
def enabled(ops:Array Oper)(ks:List Nat)(i:Nat):Bool:= !bC i ks&&fV (bG ops i) ks
def XU(f:Nat→Bool):Nat→Nat→Option Nat
 |0,_=>none
 |k+1,i=>bif f i then some i else XU f k (i+1)
def avw(ops:Array Oper)(i:Nat):Bool:=match ops[i]? with
 |some ⟨_,.call ⟨.value _,_,_⟩,_,_,_,_⟩=>true
 |_=>false
def amJ(ops:Array Oper)(ks:List Nat):Option Nat:=
 match XU (fun i=>enabled ops ks i&&ayq ops i) ops.size 0 with
 |some i=>some i
 |none=>match XU (fun i=>enabled ops ks i&&avw ops i) ops.size 0 with
  |some i=>some i
  |none=>XU (enabled ops ks) ops.size 0
def ru(n:Nat):JS→Option (Bool×Oper×Env)
 | ⟨.ops ops (i::_) _,e,_,_⟩=>match ops[i]? with
  |some o=>match xK ops n e o.guard with
   |some g=>some (g,o,e)
   |none=>none
  |none=>none
 | ⟨.DC ops base Pl _ _,_,_,_⟩=>match amJ ops (ay Pl) with
  |some i=>match ops[i]? with
   |some o=>match xK ops n (bX ops base i Pl) o.guard with
    |some g=>some (g,o,bX ops base i Pl)
    |none=>none
   |none=>none
  |none=>none
 |_=>none
def Gz(v:Value):JS→Option JS
 | ⟨.ops ops (i::todo) k,e,w,kn⟩=>match ops[i]? with
  |some o=>some ⟨.ops ops todo k,upd o.dst v e,w,kn⟩
  |none=>none
 | ⟨.DC ops base Pl Sl k,e,w,kn⟩=>match amJ ops (ay Pl) with
  |some i=>bif !bC i (ay Pl)&&(fV (bG ops i) (ay Pl)&&(qd ops (ay Pl)&&(fV (ay Sl) (ay Pl)&& !bC i (ndK kn.nd)))) then some ⟨.DC ops base ((i,v)::Pl) ((i,v)::Sl) k,e,w,kn⟩ else none
  |none=>none
 |_=>none
theorem oL{ops:Array Oper}{g:Option (Nat×Bool)}(h:xK ops n e g=some true)(rest:Env):aD ops n (e++rest) g=true:=by
 unfold xK at h
 split at h
 ·rfl
 rename_i j want
 split at h<;>try (cases h;done)
 rename_i d hd
 have hd:(ops[j]?).bind (·.dst)=some d:=hd
 split at h<;>try (cases h;done)
 ·rename_i hb;simp only[Option.some.injEq] at h;subst h
  exact u4 hd (bD hb) rfl
 rename_i hb;simp only[Option.some.injEq,Bool.not_eq_true'] at h;subst h
 exact u4 hd (bD hb) rfl
section
variable {X:Cx}
theorem AP{ops:Array Oper}{i:Nat}{Q:Post}(ho:ops[i]?=some o) (h:xK ops X.n e o.guard=some false) (rest:Env) (hk:ak X.C X.fn X.aF ops todo Q (A X.n (upd o.dst undef (e++rest)) X.D) s):ak X.C X.fn X.aF ops (i::todo) Q (A X.n (e++rest) X.D) s:=by
 unfold xK at h
 split at h
 ·cases h
 rename_i j want hg
 split at h<;>try (cases h;done)
 rename_i d hd
 have hd:(ops[j]?).bind (·.dst)=some d:=hd
 split at h<;>try (cases h;done)
 ·rename_i hb;simp only[Option.some.injEq] at h;subst h
  exact vx X.hC ho hg hd (bD hb) rfl hk
 ·rename_i hb;simp only[Option.some.injEq,Bool.not_eq_false'] at h;subst h
  exact vx X.hC ho hg hd (bD hb) rfl hk
 rename_i hb
 rcases o with ⟨dst,op,ty,pos,dG,g⟩
 dsimp only at hg;subst hg
 exact akm X.hC ho hd (bD hb) hk
def Iv(X:Cx)(e:Env)(o:Oper)(s:St)(v:Value):Prop:=
 ∀(ops:Array Oper) (i:Nat),ops[i]?=some o→∀rest,aD ops X.n (e++rest) o.guard=true→∀s',Ext s s'→∀todo Q,ak X.C X.fn X.aF ops todo Q (A X.n (upd o.dst v (e++rest)) X.D) s'→ak X.C X.fn X.aF ops (i::todo) Q (A X.n (e++rest) X.D) s'
theorem jyS{s:JS}{g:Bool}(hh:ru X.n s=some (g,o,e))(hp:Gz v s=some s')
 (hv:match g with|true=>(Knows X.ro s.kn.c→Iv X e o ⟨X.ro,den s.rw⟩ v)∧(Ej o.op=true→∀s,Iv X e o s v)|false=>v=undef)(hj:J X (some s')):J X (some s):=by
 intro bR
 rcases s with ⟨p,e0,w,kn⟩
 cases p with
 |ops ops todo k=>
  cases todo with
  |nil=>cases hh
  |cons i todo=>
   simp only[ru] at hh
   split at hh<;>try (cases hh;done)
   rename_i o1 ho
   split at hh<;>try (cases hh;done)
   rename_i g1 hg
   cases hh
   simp only[Gz,ho,Option.some.injEq] at hp;subst hp
   have hk:ak X.C X.fn X.aF ops todo (KQ X k) (A X.n (upd o.dst v e) X.D) ⟨X.ro,den w⟩:=hj bR
   show ak X.C X.fn X.aF ops (i::todo) (KQ X k) (A X.n e X.D) ⟨X.ro,den w⟩
   cases g with
   |true=>
    have:=hv.1 bR ops i ho [] (oL hg []) _ (Ext.refl _) todo (KQ X k)
    rw[List.append_nil] at this
    exact this hk
   |false=>
    dsimp only at hv;subst hv
    have:=AP (Q:=KQ X k) (s:=⟨X.ro,den w⟩) (todo:=todo) ho hg []
    rw[List.append_nil] at this
    exact this hk
 |DC ops base Pl Sl k=>
  simp only[ru] at hh
  split at hh<;>try (cases hh;done)
  rename_i i hi
  split at hh<;>try (cases hh;done)
  rename_i o1 ho
  split at hh<;>try (cases hh;done)
  rename_i g1 hg
  cases hh
  simp only[Gz,hi] at hp
  cases hc:(!bC i (ay Pl)&&(fV (bG ops i) (ay Pl)&&(qd ops (ay Pl)&&(fV (ay Sl) (ay Pl)&& !bC i (ndK kn.nd))))) with
  |false=>rw[hc] at hp;cases hp
  |true=>
   rw[hc] at hp;simp only[cond_true,Option.some.injEq] at hp;subst hp
   simp only[Bool.and_eq_true,Bool.not_eq_true'] at hc
   have Fh:aQ ops i=o.dst:=by simp only[aQ,ho,Option.bind_some]
   intro hpf
   have rT:∀j,j∈ay Sl→i∉bG ops j:=fun j hj hd=>by
    have h1:=cg.1 hc.2.2.2.1 j hj
    have h2:=cg.1 (List.all_eq_true.1 hc.2.2.1 j h1) i hd
    rw[aM.2 h2] at hc;exact absurd hc.1 (by simp)
   refine Ir i hc.1 hc.2.1 hc.2.2.1 hc.2.2.2.1 ?_ (hj bR ⟨fun j u A6 hp s0=>?_,fun j u B A6 hB s0 De yF=>?_⟩)
   ·intro s1 hx rest todo Q hk
    rw[Fh] at hk
    cases g with
    |true=>exact hv.1 bR ops _ ho rest (oL hg rest) _ hx _ _ hk
    |false=>dsimp only at hv;subst hv;exact AP ho hg rest hk
   ·have hii:i∉bG ops i:=fun hd=>by
     have h2:=cg.1 hc.2.1 i hd
     rw[aM.2 h2] at hc;exact absurd hc.1 (by simp)
    rcases List.mem_cons.1 A6 with h1|h1
    ·obtain⟨Cn,rfl⟩:=Prod.mk.inj h1
     subst Cn
     rw[di hii]
     intro s1 hx rest todo Q hk
     rw[Fh] at hk
     cases g with
     |true=>
      have hpk:Ej o.op=true:=by
       simp only[q7,ho,di hii,hg,Bool.or_false] at hp
       exact hp
      exact hv.2 hpk s0 ops _ ho rest (oL hg rest) _ hx _ _ hk
     |false=>dsimp only at hv;subst hv;exact AP ho hg rest hk
    have Cm:j∈ay Sl:=aT.2 ⟨u,h1⟩
    rw[di (rT j Cm)]
    exact hpf.1 j u h1 (by simp only[q7,di (rT j Cm)] at hp;exact hp) s0
   rcases List.mem_cons.1 A6 with h1|h1
   ·obtain⟨Cn,rfl⟩:=Prod.mk.inj h1
    subst Cn
    have:=MY hB
    rw[aM.2 this] at hc;exact absurd hc.2.2.2.2 (by simp)
   rw[di (rT j (aT.2 ⟨u,h1⟩))]
   exact hpf.2 j u B h1 hB s0 De yF
 |_=>cases hh
def aj6(B:Cells)(v:Value):JS→Option JS
 | ⟨.ops ops (i::todo) k,e,w,kn⟩=>match ops[i]? with
  |some o=>some ⟨.ops ops todo k,upd o.dst v e,w,kn⟩
  |none=>none
 | ⟨.DC ops base Pl Sl k,e,w,kn⟩=>match amJ ops (ay Pl) with
  |some i=>bif !bC i (ay Pl)&&(fV (bG ops i) (ay Pl)&&(qd ops (ay Pl)&&(fV (ay Sl) (ay Pl)&& !bC i (ndK kn.nd)))) then some ⟨.DC ops base ((i,v)::Pl) ((i,v)::Sl) k,e,w,⟨kn.c,(i,B)::kn.nd⟩⟩ else none
  |none=>none
 |_=>none
theorem jyN{s:JS}{B:Cells}(hh:ru X.n s=some (true,o,e))(hp:aj6 B v s=some s')(hB:∀x∈B,(⟨X.ro,den s.rw⟩:St).has x.1 x.2)(hnp:Ej o.op=false)
 (hv:∀s0,Ext ⟨X.ro,[]⟩ s0→(∀x∈B,s0.has x.1 x.2)→Iv X e o s0 v)(hj:J X (some s')):J X (some s):=by
 intro bR
 rcases s with ⟨p,e0,w,kn⟩
 cases p with
 |ops ops todo k=>
  have:Gz v ⟨.ops ops todo k,e0,w,kn⟩=some s':=by
   cases todo with
   |nil=>cases hh
   |cons i todo=>exact hp
  exact jyS hh this ⟨fun _=>hv _ NJ hB,fun h=>by rw[hnp] at h;cases h⟩ hj bR
 |DC ops base Pl Sl k=>
  simp only[ru] at hh
  split at hh<;>try (cases hh;done)
  rename_i i hi
  split at hh<;>try (cases hh;done)
  rename_i o1 ho
  split at hh<;>try (cases hh;done)
  rename_i g1 hg
  cases hh
  simp only[aj6,hi] at hp
  cases hc:(!bC i (ay Pl)&&(fV (bG ops i) (ay Pl)&&(qd ops (ay Pl)&&(fV (ay Sl) (ay Pl)&& !bC i (ndK kn.nd))))) with
  |false=>rw[hc] at hp;cases hp
  |true=>
   rw[hc] at hp;simp only[cond_true,Option.some.injEq] at hp;subst hp
   simp only[Bool.and_eq_true,Bool.not_eq_true'] at hc
   have Fh:aQ ops i=o.dst:=by simp only[aQ,ho,Option.bind_some]
   intro hpf
   have rT:∀j,j∈ay Sl→i∉bG ops j:=fun j hj hd=>by
    have h1:=cg.1 hc.2.2.2.1 j hj
    have h2:=cg.1 (List.all_eq_true.1 hc.2.2.1 j h1) i hd
    rw[aM.2 h2] at hc;exact absurd hc.1 (by simp)
   have hii:i∉bG ops i:=fun hd=>by
    have h2:=cg.1 hc.2.1 i hd
    rw[aM.2 h2] at hc;exact absurd hc.1 (by simp)
   have bE:∀s0,Ext ⟨X.ro,[]⟩ s0→(∀x∈B,s0.has x.1 x.2)→eY X.C X.fn X.aF ops X.n X.D i v (bX ops base i Pl) s0:=by
    intro s0 De yF s1 hx rest todo Q hk
    rw[Fh] at hk
    exact hv s0 De yF ops _ ho rest (oL hg rest) _ hx _ _ hk
   have aOa:q7 ops X.n base ((i,v)::Pl) i=false:=by
    simp only[q7,ho,hnp,di hii,hg,Bool.or_false]
   refine Ir i hc.1 hc.2.1 hc.2.2.1 hc.2.2.2.1 (bE _ NJ hB) (hj bR ⟨fun j u A6 hp s0=>?_,fun j u B' A6 hB' s0 De yF=>?_⟩)
   ·rcases List.mem_cons.1 A6 with h1|h1
    ·obtain⟨Cn,rfl⟩:=Prod.mk.inj h1
     subst Cn
     rw[aOa] at hp;cases hp
    have Cm:j∈ay Sl:=aT.2 ⟨u,h1⟩
    rw[di (rT j Cm)]
    exact hpf.1 j u h1 (by simp only[q7,di (rT j Cm)] at hp;exact hp) s0
   rcases List.mem_cons.1 A6 with h1|h1
   ·obtain⟨Cn,rfl⟩:=Prod.mk.inj h1
    subst Cn
    rw[di hii]
    rcases List.mem_cons.1 hB' with h2|h2
    ·cases h2;exact bE s0 De yF
    have:=MY h2
    rw[aM.2 this] at hc;exact absurd hc.2.2.2.2 (by simp)
   have Cm:j∈ay Sl:=aT.2 ⟨u,h1⟩
   rw[di (rT j Cm)]
   rcases List.mem_cons.1 hB' with h2|h2
   ·obtain⟨Cn,rfl⟩:=Prod.mk.inj h2
    subst Cn
    have h3:=cg.1 hc.2.2.2.1 _ Cm
    rw[aM.2 h3] at hc;exact absurd hc.1 (by simp)
   exact hpf.2 j u B' h1 h2 s0 De yF
 |_=>cases hh
theorem jy{s:JS}{g:Bool}(hh:ru X.n s=some (g,o,e))(hp:Gz v s=some s')
 (hv:match g with|true=>eO o.op=true∧(Knows X.ro s.kn.c→Yields X.P X.n e o ⟨X.ro,den s.rw⟩ v)∧(Ej o.op=true→∀s,Yields X.P X.n e o s v)|false=>v=undef)(hj:J X (some s')):J X (some s):=by
 refine jyS hh hp ?_ hj
 cases g with
 |true=>exact⟨fun bR ops i ho rest hw s' hx todo Q hk=>lu X.hC ho rest hw hv.1 (hv.2.1 bR) hx hk,fun hp s ops i ho rest hw s' hx todo Q hk=>lu X.hC ho rest hw hv.1 (hv.2.2 hp s) hx hk⟩
 |false=>exact hv
end
def Ao:List Sg→Nat→Option Sg
 | [],_=>none
 |x::_,0=>some x
 |_::l,i+1=>Ao l i
def Tk:List Sg→Nat→Sg→List Sg
 | [],_,_=>[]
 |_::l,0,y=>y::l
 |x::l,i+1,y=>x::Tk l i y
def akt:Cells→Nat→Option (Nat×Obj)
 | [],_=>none
 |x::_,0=>some x
 |_::l,i+1=>akt l i
def B0(w:List Sg)(kn:Cells)(h:Nat):Option (Nat×List Value):=
 match Ao w h with
 |some (.b b (.cells ⟨l⟩ _ _))=>some (b,l)
 |some _=>none
 |none=>match akt kn (h-64) with
  |some (b,.cells ⟨l⟩ _ _)=>some (b,l)
  |_=>none
def aco(P:Program)(n:Nat)(e:Env)(w:List Sg)(h:Nat):Op→Option (List Sg×Nat×Nat)
 | .store T x y=>match bA n e x with
  |some (.pointer (some ⟨b,off,none⟩))=>match bA n e y with
   |some v=>match Ao w h with
    |some (.b b' (.cells ⟨c⟩ t (0,0)))=>match aY P T with
     |some ti=>bif Nat.beq (eA v).length ti.size&&(Nat.ble (off+(eA v).length) c.length&&(eA v).all single) then some (Tk w h (.b b' (.cells ⟨dI c off (eA v)⟩ t (0,0))),b,b') else none
     |none=>none
    |_=>none
   |none=>none
  |_=>none
 |_=>none
abbrev ap1:=Option (JS×List Nat×List (Nat×Nat))
def avr(n:Nat)(e:Env)(k:List KI):Code→Option Pos
 | .skip=>some (PS k)
 | .seq a b=>some (.code a (.seq b::k))
 | .block id c=>some (.code c (.block id::k))
 | .region _ ops d=>bif d then (bif AX ops then some (.DC ops e [] [] k) else none) else some (.ops ops (List.range ops.size) k)
 | .exit id=>BU id k
 | .ret=>some (.fin .ret)
 | .scope c=>some (.code c k)
 | .label _=>some (PS k)
 | .cond c a b=>match bA n e c with
  |some (.bool true)=>some (.code a k)
  |some (.bool false)=>some (.code b k)
  |_=>none
 |_=>none
def aho(ops:Array Oper)(Pl:List (Nat×Value)):Bool:=fU ops&&(nodupB (ay Pl)&&(fV (List.range ops.size) (ay Pl)&&fV (ay Pl) (List.range ops.size)))
def opJ(P:Program)(n:Nat)(hs:List Nat)(s:JS):ap1:=
 match ru n s with
 |some (g,o,e)=>bif g then (match o.op with
  | .store .. =>match s,hs with
   | ⟨.ops ops (_::todo) k,_,w,kn⟩,h::hs=>match aco P n e w h o.op with
    |some (w',b,b')=>some (⟨.ops ops todo k,upd o.dst undef e,w',kn⟩,hs,[(b,b')])
    |none=>none
   |_,_=>none
  | .load T x=>match hs with
   |h::hs=>match bA n e x with
    |some (.pointer (some ⟨b,off,none⟩))=>match B0 s.rw s.kn.c h with
     |some (b',l)=>match ldv P T l off with
      |some v=>match Gz v s with
       |some s'=>some (s',hs,[(b',b)])
       |none=>none
      |none=>none
     |none=>none
    |_=>none
   | []=>none
  |_=>bif eO o.op then (match abQ P n e o with
   |some v=>match Gz v s with
    |some s'=>some (s',hs,[])
    |none=>none
   |none=>none) else none) else (match Gz undef s with
  |some s'=>some (s',hs,[])
  |none=>none)
 |none=>none
def stepJ(P:Program)(n:Nat)(hs:List Nat)(s:JS):ap1:=
 match s.pos with
 | .ops _ [] k=>some (⟨PS k,s.env,s.rw,s.kn⟩,hs,[])
 | .code c k=>match avr n s.env k c with
  |some p=>some (⟨p,s.env,s.rw,⟨s.kn.c,[]⟩⟩,hs,[])
  |none=>none
 | .DC ops base Pl _ k=>match amJ ops (ay Pl) with
  |none=>bif aho ops Pl then some (⟨PS k,ki ops base Pl,s.rw,s.kn⟩,hs,[]) else none
  |some _=>opJ P n hs s
 |_=>opJ P n hs s
section
variable {X:Cx}
theorem Bq:∀ {w:List Sg} {h b:Nat} {o:Obj},Ao w h=some (.b b o)→∃L R,den w=L++(b,o)::R∧∀o',den (Tk w h (.b b o'))=L++(b,o')::R
 | [],_,_,_,h=>by cases h
 |x::w,0,b,o,h=>by
  simp only[Ao,Option.some.injEq] at h;subst h
  exact⟨[],den w,by simp[jJ],fun o'=>by simp[Tk,jJ]⟩
 |x::w,i+1,b,o,h=>by
  obtain⟨L,R,h1,h2⟩:=Bq (w:=w) (h:=i) h
  cases x with
  |b i' o1=>exact⟨(i',o1)::L,R,by simp[jJ,h1],fun o'=>by simp[Tk,jJ,h2]⟩
  |l L1=>exact⟨L1++L,R,by simp[gA,h1],fun o'=>by simp[Tk,gA,h2]⟩
theorem Qf:∀ {l:Cells} {i:Nat} {x:Nat×Obj},akt l i=some x→x∈l
 | [],_,_,h=>by cases h
 |y::l,0,x,h=>by simp only[akt,Option.some.injEq] at h;subst h;exact List.mem_cons_self
 |y::l,i+1,x,h=>List.mem_cons_of_mem _ (Qf (l:=l) h)
theorem AY{w:List Sg}{kn:Cells}{h b:Nat}(hk:Knows X.ro kn)(hc:B0 w kn h=some (b,l)):∃t fz,(⟨X.ro,den w⟩:St).has b (.cells ⟨l⟩ t fz):=by
 unfold B0 at hc
 split at hc
 ·rename_i hn
  cases hc
  obtain⟨L,R,h1,_⟩:=Bq hn
  exact⟨_,_,.inr (by show (_,_)∈den w;rw[h1];exact eV)⟩
 ·cases hc
 split at hc<;>try (cases hc;done)
 rename_i hn
 cases hc
 exact⟨_,_,.inl (hk _ (Qf hn))⟩
theorem amL{kn:Kn}{w:List Sg}{k:List KI}{c:Code}{p:Pos}(h:avr X.n e k c=some p)(hj:JP X ⟨kn.c,[]⟩ e w p):JP X kn e w (.code c k):=by
 unfold avr at h
 split at h
 ·cases h;exact wp_skip X.hC (vo hj)
 ·cases h;exact wp_seq X.hC hj
 ·cases h;exact wp_block X.hC hj
 ·rename_i id ops d
  cases d with
  |true=>
   simp only[cond_true] at h
   cases hd:AX ops with
   |false=>rw[hd] at h;cases h
   |true=>
    rw[hd] at h;simp only[cond_true,Option.some.injEq] at h;subst h
    exact aaY X.hC X.hm hd (hj ⟨fun _ _ h=>(List.not_mem_nil h).elim,fun _ _ _ h=>(List.not_mem_nil h).elim⟩)
  |false=>simp only[cond_false,Option.some.injEq] at h;subst h;exact wp_region X.hC hj
 ·exact wp_exit X.hC (xU h hj)
 ·cases h;exact wp_ret (Br hj k)
 ·cases h;exact OU X.hC hj
 ·cases h;exact wp_label X.hC (vo hj)
 ·split at h<;>try (cases h;done)
  ·rename_i hc;cases h;exact VZ X.hC hc rfl hj
  rename_i hc;cases h;exact V0 X.hC hc rfl hj
 cases h
theorem adP{hs:List Nat}{s:JS}{q:List (Nat×Nat)}(h:opJ X.P X.n hs s=some (s',kR,q))(hq:∀p∈q,p.1=p.2)(hj:J X (some s')):J X (some s):=by
 unfold opJ at h
 split at h<;>try (cases h;done)
 rename_i g o e hh
 cases g with
 |false=>
  simp only[cond_false] at h
  split at h<;>try (cases h;done)
  rename_i s1 hp
  cases h
  exact jy hh hp rfl hj
 |true=>
  simp only[cond_true] at h
  split at h
  ·rename_i T x y av
   split at h<;>try (cases h;done)
   rename_i ops i todo k e1 w kn h0 hsx
   split at h<;>try (cases h;done)
   rename_i w' b b' bE
   cases h
   have XI:b=b':=hq _ List.mem_cons_self
   subst XI
   simp only[ru] at hh
   split at hh<;>try (cases hh;done)
   rename_i o1 ho
   split at hh<;>try (cases hh;done)
   rename_i g1 hg
   simp only[Option.some.injEq,Prod.mk.injEq] at hh
   obtain⟨rfl,rfl,rfl⟩:=hh
   intro bR
   have hj:=hj bR
   rw[av] at bE
   simp only[aco] at bE
   split at bE<;>try (cases bE;done)
   rename_i b0 off hx
   split at bE<;>try (cases bE;done)
   rename_i v hy
   split at bE<;>try (cases bE;done)
   rename_i b1 c t hn
   split at bE<;>try (cases bE;done)
   rename_i ti dP
   cases hc:(Nat.beq (eA v).length ti.size&&(Nat.ble (off+(eA v).length) c.length&&(eA v).all single)) with
   |false=>rw[hc] at bE;cases bE
   |true=>
    rw[hc] at bE
    simp only[cond_true,Option.some.injEq,Prod.mk.injEq] at bE
    obtain⟨rfl,rfl,rfl⟩:=bE
    simp only[Bool.and_eq_true,Nat.ble_eq] at hc
    obtain⟨bL,tf⟩:=aB dP
    obtain⟨L,R,h1,h2⟩:=Bq hn
    rcases o1 with ⟨dst,op,ty,pos,dG,gd⟩
    dsimp only at av;subst av
    have hw:=oL hg []
    rw[List.append_nil] at hw
    refine FK (v:=v) (l:=eA v) (L:=L) (R:=R) (c:=c) (e:=t) X.hC ho hw tf hx hy (by rw[ny]) (Nat.eq_of_beq_eq_true hc.1) (List.all_eq_true.1 hc.2.2) h1 hc.2.1 ?_
    have hj:ak X.C X.fn X.aF ops todo (KQ X k) _ ⟨X.ro,den _⟩:=hj
    rw[h2] at hj
    exact hj
  ·rename_i T x av
   split at h<;>try (cases h;done)
   rename_i h0 cR
   split at h<;>try (cases h;done)
   rename_i b off hx
   split at h<;>try (cases h;done)
   rename_i b' l hc
   split at h<;>try (cases h;done)
   rename_i v hv
   split at h<;>try (cases h;done)
   rename_i s1 hp
   cases h
   have XI:b'=b:=hq _ List.mem_cons_self
   subst XI
   refine jy hh hp ⟨by rw[av];rfl,fun bR=>?_,fun hk=>by rw[av] at hk;cases hk⟩ hj
   obtain⟨t,fz,hb⟩:=AY bR hc
   exact Um av hx hb hv
  cases hn:eO o.op with
  |false=>rw[hn] at h;cases h
  |true=>
   rw[hn] at h;simp only[cond_true] at h
   split at h<;>try (cases h;done)
   rename_i v hv
   split at h<;>try (cases h;done)
   rename_i s1 hp
   cases h
   exact jy hh hp ⟨hn,fun _=>Bi hv,fun _ _=>Bi hv⟩ hj
theorem acr{hs:List Nat}{s:JS}{q:List (Nat×Nat)}(h:stepJ X.P X.n hs s=some (s',kR,q))(hq:∀p∈q,p.1=p.2)(hj:J X (some s')):J X (some s):=by
 unfold stepJ at h
 split at h
 ·rename_i ops k hp
  cases h
  rcases s with ⟨p,e,w,kn⟩
  dsimp only at hp;subst hp
  exact fun bR=>vt X.hC (vo (hj bR))
 ·rename_i c k hp
  rcases s with ⟨p,e,w,kn⟩
  dsimp only at hp;subst hp
  split at h<;>try (cases h;done)
  rename_i p hc
  cases h
  exact fun bR=>amL hc (hj bR)
 ·rename_i ops base Pl Sl k hp
  split at h
  ·cases hd:aho ops Pl with
   |false=>rw[hd] at h;cases h
   |true=>
    rw[hd] at h;simp only[cond_true,Option.some.injEq,Prod.mk.injEq] at h
    obtain⟨rfl,rfl,rfl⟩:=h
    rcases s with ⟨p,e,w,kn⟩
    dsimp only at hp;subst hp
    simp only[aho,Bool.and_eq_true] at hd
    exact fun bR _=>ah6 X.hC hd.1 hd.2.1 hd.2.2.1 hd.2.2.2 (vo (hj bR))
  exact adP h hq hj
 exact adP h hq hj
end
def aa3(P:Program)(n:Nat):Nat→List Nat→JS→List (Nat×Nat)→Option (JS×List (Nat×Nat))
 |0,_,s,q=>some (s,q)
 |k+1,hs,s,q=>match stepJ P n hs s with
  |some (s',kR,q')=>aa3 P n k kR s' (q'++q)
  |none=>none
def adv(P:Program)(n k:Nat)(hs:List Nat):Option JS→Option (JS×List (Nat×Nat))
 |some s=>aa3 P n k hs s []
 |none=>none
def res:Option (JS×List (Nat×Nat))→Option JS
 |some (s,_)=>some s
 |none=>none
def Vj:List (Nat×Nat)→List Nat
 | []=>[]
 | (a,_)::l=>a::Vj l
def Tg:List (Nat×Nat)→List Nat
 | []=>[]
 | (_,b)::l=>b::Tg l
def lhs:Option (JS×List (Nat×Nat))→List Nat
 |some (_,q)=>Vj q
 |none=>[0]
def rhs:Option (JS×List (Nat×Nat))→List Nat
 |some (_,q)=>Tg q
 |none=>[1]
theorem nv:∀ {q:List (Nat×Nat)},Vj q=Tg q→∀p∈q,p.1=p.2
 | (a,b)::l,h,p,hp=>by
  simp only[Vj,Tg,List.cons.injEq] at h
  rcases List.mem_cons.1 hp with rfl|hp
  ·exact h.1
  exact nv h.2 p hp
theorem Yr{X:Cx}:∀ {k:Nat} {hs:List Nat} {s s':JS} {q q':List (Nat×Nat)},aa3 X.P X.n k hs s q=some (s',q')→(∀p∈q',p.1=p.2)→(J X (some s')→J X (some s))∧∀p∈q,p∈q'
 |0,_,_,_,_,_,h,_=>by simp only[aa3,Option.some.injEq,Prod.mk.injEq] at h;obtain⟨rfl,rfl⟩:=h;exact⟨id,fun _ h=>h⟩
 |k+1,hs,s,s',q,q',h,hq=>by
  simp only[aa3] at h
  split at h<;>try (cases h;done)
  rename_i s1 cR q1 bE
  obtain⟨h1,h2⟩:=Yr h hq
  exact⟨fun hj=>acr bE (fun p hp=>hq p (h2 p (List.mem_append_left _ hp))) (h1 hj),fun p hp=>h2 p (List.mem_append_right _ hp)⟩
theorem jd{X:Cx}{o:Option JS}(k:Nat)(hs:List Nat)(h:J X (res (adv X.P X.n k hs o)))(he:lhs (adv X.P X.n k hs o)=rhs (adv X.P X.n k hs o):=by kernel_rfl):J X o:=by
 cases o with
 |none=>exact h
 |some s=>
  simp only[adv] at he h
  cases hc:aa3 X.P X.n k hs s [] with
  |none=>rw[hc] at h;exact h.elim
  |some x=>
   rcases x with ⟨s',q⟩
   rw[hc] at he h
   exact(Yr hc (nv he)).1 h
attribute [irreducible] adv res lhs rhs
def dB(n:Nat)(f:Oper→Env→Option β):Option JS→Option β
 |some s=>match ru n s with
  |some (true,p,e)=>f p e
  |_=>none
 |none=>none
def ku(v:Value):Option JS→Option JS
 |some s=>Gz v s
 |none=>none
def PU:List Nat→List Sg→Option (List Sg)
 | [],_=>some []
 |i::is,w=>match Ao w i with
  |some x=>match PU is w with
   |some r=>some (x::r)
   |none=>none
  |none=>none
def dw(is:List Nat):Nat→List Sg→List Sg
 |_,[]=>[]
 |k,x::w=>bif bC k is then dw is (k+1) w else x::dw is (k+1) w
def GO:List Nat→Bool
 | []=>true
 |i::is=> !bC i is&&GO is
def qk(is:List Nat):Option JS→Option (List Sg)
 |some s=>bif GO is then PU is s.rw else none
 |none=>none
def dA(is:List Nat)(o:Option JS):Option Cells:=match qk is o with
 |some w=>some (den w)
 |none=>none
def lkE:List Nat→Env→Option Env
 | [],_=>some []
 |t::ts,e=>match gM e t with
  |some v=>match lkE ts e with
   |some r=>some ((t,v)::r)
   |none=>none
  |none=>none
def mH:Env→List Nat
 | []=>[]
 | (t,_)::e=>t::mH e
def pM(ts:List Nat):Option JS→Option Env
 |some s=>lkE ts s.env
 |none=>none
theorem uB{ts:List Nat}{s:JS}:pM ts (some s)=lkE ts s.env:=rfl
theorem lU:∀ {ts:List Nat} {r:Env},lkE ts e=some r→mb e r
 | [],r,h=>by simp only[lkE,Option.some.injEq] at h;subst h;trivial
 |t::ts,r,h=>by
  simp only[lkE] at h
  split at h<;>try (cases h;done)
  rename_i v hv
  split at h<;>try (cases h;done)
  rename_i r' hr
  cases h
  exact⟨hv,lU hr⟩
theorem mO:∀(a b:List Sg),den (a++b)=den a++den b
 | [],b=>rfl
 | .b i o::a,b=>by simp[jJ,mO a b]
 | .l L::a,b=>by simp[gA,mO a b]
theorem yL:∀(w:List Sg) (k:Nat),dw [] k w=w
 | [],_=>rfl
 |x::w,k=>by simp[dw,bC,yL w (k+1)]
theorem HX:∀ {w:List Sg} {i k:Nat} {is:List Nat} {x:Sg},Ao w i=some x→bC (k+i) is=false→(den (dw is k w)).Perm (den [x]++den (dw ((k+i)::is) k w))
 | [],_,_,_,_,h,_=>by cases h
 |y::w,0,k,is,x,h,hi=>by
  simp only[Ao,Option.some.injEq] at h;subst h
  have hz:∀(w:List Sg) (j:Nat),k <j→dw (k::is) j w=dw is j w:=by
   intro w
   induction w with
   |nil=>intro j _;rfl
   |cons z w ih=>
    intro j hj
    have:Nat.beq j k=false:=beq_false (by omega)
    simp only[dw,bC,this,Bool.false_or,ih (j+1) (by omega)]
  simp only[Nat.add_zero] at hi ⊢
  simp only[dw,hi,cond_false,bC,Nat.beq_refl,Bool.true_or,cond_true,hz w (k+1) (by omega)]
  cases y with
  |b i o=>rw[jJ];exact .refl _
  |l L=>rw[gA];exact .refl _
 |y::w,i+1,k,is,x,h,hi=>by
  have e:k+(i+1)=(k+1)+i:=by omega
  rw[e] at hi ⊢
  have hr:=HX (w:=w) (k:=k+1) (is:=is) h hi
  have cF:Nat.beq k ((k+1)+i)=false:=beq_false (by omega)
  simp only[dw,bC,cF,Bool.false_or]
  cases bC k is with
  |true=>simp only[cond_true];exact hr
  |false=>
   simp only[cond_false]
   cases y with
   |b i' o=>rw[jJ,jJ];exact(hr.cons _).trans List.perm_middle.symm
   |l L=>
    rw[gA,gA]
    refine(hr.append_left L).trans ?_
    rw[←List.append_assoc,←List.append_assoc]
    exact List.Perm.append_right _ List.perm_append_comm
theorem yt{w:List Sg}:∀ {is:List Nat} {r:List Sg},PU is w=some r→GO is=true→(den w).Perm (den r++den (dw is 0 w))
 | [],r,h,_=>by simp only[PU,Option.some.injEq] at h;subst h;rw[yL];exact .refl _
 |i::is,r,h,ho=>by
  simp only[PU] at h
  split at h<;>try (cases h;done)
  rename_i x hx
  split at h<;>try (cases h;done)
  rename_i r' hr
  cases h
  simp only[GO,Bool.and_eq_true,Bool.not_eq_true'] at ho
  have h1:=yt hr ho.2
  have h2:=HX (k:=0) (is:=is) hx (by rw[Nat.zero_add];exact ho.1)
  rw[Nat.zero_add] at h2
  refine h1.trans ((List.Perm.append_left _ h2).trans ?_)
  have:den (x::r')=den [x]++den r':=by rw[←mO];rfl
  rw[this,←List.append_assoc]
  exact List.Perm.append_right _ List.perm_append_comm
theorem mV{is:List Nat}{s:JS}{w:List Sg}(h:qk is (some s)=some w):(den s.rw).Perm (den w++den (dw is 0 s.rw)):=by
 simp only[qk] at h
 cases ho:GO is with
 |false=>rw[ho] at h;cases h
 |true=>rw[ho] at h;exact yt h ho
theorem bK{is:List Nat}{s:JS}{L:Cells}(h:dA is (some s)=some L):(den s.rw).Perm (L++den (dw is 0 s.rw)):=by
 simp only[dA] at h
 split at h<;>try (cases h;done)
 rename_i w hw
 cases h
 exact mV hw
theorem RU{X:Cx}{is:List Nat}{s:JS}{L:Cells}(h:dA is (some s)=some L):∀x∈L,(⟨X.ro,den s.rw⟩:St).has x.1 x.2:=fun x hx=> .inr ((bK h).mem_iff.2 (List.mem_append_left _ hx))
section
variable {X:Cx} {o:Option JS}
theorem tZ{f:Oper→Env→Option β}{r:β}(h:dB n f o=some r):∃s p e,o=some s∧ru n s=some (true,p,e)∧f p e=some r:=by
 unfold dB at h
 split at h<;>try (cases h;done)
 rename_i s
 split at h<;>try (cases h;done)
 rename_i p e hh
 exact⟨s,p,e,rfl,hh,h⟩
theorem jG{f:Oper→Env→Option β}{r:β}(h:dB X.n f o=some r)(hy:∀s p e,o=some s→ru X.n s=some (true,p,e)→f p e=some r→eO p.op=true∧(Knows X.ro s.kn.c→Yields X.P X.n e p ⟨X.ro,den s.rw⟩ v)∧(Ej p.op=true→∀s,Yields X.P X.n e p s v))(hj:J X (ku v o)):J X o:=by
 obtain⟨s,p,e,rfl,hh,hf⟩:=tZ h
 obtain⟨h1,h2,h3⟩:=hy s p e rfl hh hf
 simp only[ku] at hj
 cases hp:Gz v s with
 |none=>rw[hp] at hj;exact hj.elim
 |some s'=>rw[hp] at hj;exact jy hh hp ⟨h1,h2,h3⟩ hj
theorem jGS{f:Oper→Env→Option β}{r:β}(h:dB X.n f o=some r)(hy:∀s p e,o=some s→f p e=some r→Iv X e p ⟨X.ro,den s.rw⟩ v∧(Ej p.op=true→∀s,Iv X e p s v))(hj:J X (ku v o)):J X o:=by
 obtain⟨s,p,e,rfl,hh,hf⟩:=tZ h
 simp only[ku] at hj
 cases hp:Gz v s with
 |none=>rw[hp] at hj;exact hj.elim
 |some s'=>rw[hp] at hj;exact jyS hh hp ⟨fun _=>(hy s p e rfl hf).1,(hy s p e rfl hf).2⟩ hj
def Ja(B:Cells)(v:Value):Option JS→Option JS
 |some s=>aj6 B v s
 |none=>none
theorem jGN{f:Oper→Env→Option β}{r:β}{ps:List Nat}{B:Cells}(h:dB X.n f o=some r)(hB:dA ps o=some B)(hy:∀s p e,o=some s→ru X.n s=some (true,p,e)→f p e=some r→Ej p.op=false∧∀s0,Ext ⟨X.ro,[]⟩ s0→(∀x∈B,s0.has x.1 x.2)→Iv X e p s0 v)(hj:J X (Ja B v o)):J X o:=by
 obtain⟨s,p,e,rfl,hh,hf⟩:=tZ h
 obtain⟨h1,h2⟩:=hy s p e rfl hh hf
 simp only[Ja] at hj
 cases hp:aj6 B v s with
 |none=>rw[hp] at hj;exact hj.elim
 |some s'=>rw[hp] at hj;exact jyN hh hp (RU hB) h1 h2 hj
theorem SF{f:Oper→Env→Option β}{r:β}(h:dB X.n f o=some r)(hy:∀s p e,o=some s→f p e=some r→∀s0,Iv X e p s0 v)(hj:J X (ku v o)):J X o:=
 jGS h (fun s p e ho hf=>⟨hy s p e ho hf _,fun _=>hy s p e ho hf⟩) hj
def aja(P:Program)(n:Nat)(p:Oper)(e:Env):Option Value:=bif eO p.op then abQ P n e p else none
theorem je(v:Value){w:Value}(hw:w=v)(hj:J X (ku v o))(hv:dB X.n (aja X.P X.n) o=some w:=by kernel_rfl):J X o:=by
 subst hw
 refine jG hv (fun s p e _ _ hf=>?_) hj
 unfold aja at hf
 cases hn:eO p.op with
 |false=>rw[hn] at hf;cases hf
 |true=>rw[hn] at hf;exact⟨rfl,fun _=>Bi hf,fun _ _=>Bi hf⟩
theorem ja(r:Int)(h: -9223372036854775808≤r∧r≤9223372036854775807)(hj:J X (ku (.int .i64 r) o))(hv:dB X.n (aja X.P X.n) o=some (.int .i64 (IntKind.i64.wrap r)):=by kernel_rfl):J X o:=je _ (by rw[ir r h]) hj hv
def ldA(P:Program)(n k:Nat)(vs:List Value)(p:Oper)(e:Env):Option (Option Addr):=match p.op with
 | .load T x=>match ldv P T vs k with
  |some _=>match bA n e x with
   |some (.pointer a)=>some a
   |_=>none
  |none=>none
 |_=>none
def ldW(P:Program)(n k:Nat)(vs:List Value)(o:Option JS):Value:=(dB n (fun p _=>match p.op with
 | .load T _=>ldv P T vs k
 |_=>none) o).getD undef
theorem uD{b m:Nat}(k:Nat)(ps:List Nat)(B:Cells)(hr:∀s:St,Ext ⟨X.ro,[]⟩ s→(∀x∈B,s.has x.1 x.2)→da s b off m vs)(hj:J X (Ja B (ldW X.P X.n k vs o) o))(hv:dB X.n (ldA X.P X.n k vs) o=some (some ⟨b,off+k,none⟩):=by kernel_rfl)(hB:dA ps o=some B:=by kernel_rfl):J X o:=by
 refine jGN hv hB (fun s p e ho hh hf=>?_) hj
 subst ho
 unfold ldA at hf
 split at hf<;>try (cases hf;done)
 rename_i T x av
 split at hf<;>try (cases hf;done)
 rename_i v hv2
 split at hf<;>try (cases hf;done)
 rename_i a hx
 simp only[Option.some.injEq] at hf;subst hf
 have hw:ldW X.P X.n k vs (some s)=v:=by simp only[ldW,dB,hh,av,hv2,Option.getD_some]
 rw[hw]
 exact⟨by rw[av];rfl,fun s0 De yF ops i ho rest hwt s' hs todo Q hk=>lu X.hC ho rest hwt (by rw[av];rfl) (ase k av hx (hr s0 De yF) hv2) hs hk⟩
theorem jl{b m:Nat}(k:Nat)(hr:da ⟨X.ro,[]⟩ b off m vs)(hj:J X (Ja [] (ldW X.P X.n k vs o) o))(hv:dB X.n (ldA X.P X.n k vs) o=some (some ⟨b,off+k,none⟩):=by kernel_rfl):J X o:=by
 have hB:dA [] o=some []:=by
  obtain⟨s,_,_,rfl,_⟩:=tZ hv
  rfl
 exact uD k [] [] (fun s hs _=>hr.ext hs) hj hv hB
def ixA(P:Program)(n:Nat)(p:Oper)(e:Env):Option (Value×Int×Nat):=match p.op with
 | .indexAddr T x y=>match aY P T with
  |some ⟨.slice E,_,_,_⟩=>match aY P E with
   |some te=>match bA n e x with
    |some v=>match bA n e y with
     |some (.int _ ix)=>some (v,ix,te.size)
     |_=>none
    |none=>none
   |none=>none
  |_=>none
 |_=>none
theorem jix{a:Option Addr}{b len:Nat}(ix:Int)(cap sz:Nat)(ha:a=some ⟨b,off,none⟩)(hi:0≤ix∧ix <len)(hj:J X (ku (.pointer (some ⟨b,off+ix.toNat*sz,none⟩)) o))(hv:dB X.n (ixA X.P X.n) o=some (.slice a len cap,ix,sz):=by kernel_rfl):J X o:=by
 refine jG hv (fun s p e ho hh hf=>?_) hj
 unfold ixA at hf
 split at hf<;>try (cases hf;done)
 rename_i T x y av
 split at hf<;>try (cases hf;done)
 rename_i E _ _ _ dP
 split at hf<;>try (cases hf;done)
 rename_i te qx
 split at hf<;>try (cases hf;done)
 rename_i v hx
 split at hf<;>try (cases hf;done)
 rename_i ik ix' hy
 simp only[Option.some.injEq,Prod.mk.injEq] at hf
 obtain⟨rfl,rfl,rfl⟩:=hf
 subst ha
 obtain⟨bL,tf⟩:=aB dP
 obtain⟨A9,qY⟩:=aB qx
 have key:∀s,Yields X.P X.n e p s (.pointer (some ⟨b,off+ix'.toNat*te.size,none⟩)):=by
  intro s s' kR f hf K E hK
  simp only[execOp,av,Instr.indexAt,hf _ _ hx,hf _ _ hy,asIntOf,af,aj,a8 tf,hi,and_self,if_true,cw qY,ee]
  exact hK
 exact⟨by rw[av];rfl,fun _=>key _,fun _=>key⟩
theorem jq{ps:List α}{k b:Nat}{x:α}{a:Option Addr}(cap sz:Nat)(ha:∀k,k <ps.length→a=some ⟨b,off,none⟩)(hx:ps[k]?=some x) (hj:J X (ku (.pointer (some ⟨b,off+k*sz,none⟩)) o)) (hv:dB X.n (ixA X.P X.n) o=some (.slice a ps.length cap,(k:Int),sz):=by kernel_rfl):J X o:=
 have hk:k <ps.length:=(List.getElem?_eq_some_iff.1 hx).1
 jix (k:Int) cap sz (ha k hk) (by omega) hj hv
theorem jsi{ps:List α}{k b:Nat}{x:α}{a:Option Addr}(ix:Int)(cap sz:Nat)(ha:∀k,k <ps.length→a=some ⟨b,off,none⟩)(hx:ps[k]?=some x) (he:ix=(k:Int)) (hj:J X (ku (.pointer (some ⟨b,off+k*sz,none⟩)) o)) (hv:dB X.n (ixA X.P X.n) o=some (.slice a ps.length cap,ix,sz):=by kernel_rfl):J X o:=by
 subst he;exact jq cap sz ha hx hj hv
theorem jxo{enc:α→List Value}{ps:List α}{L:Cells}{k:Nat}{x:α}(sz:Nat)(gK:aK v szo T2 enc ps L)(hx:ps[k]?=some x) (hj:∀b,JL v b→J X (ku (.pointer (some ⟨b,k*sz,none⟩)) o)) (hv:dB X.n (ixA X.P X.n) o=some (v,(k:Int),sz):=by kernel_rfl):J X o:=by
 have hk:k <ps.length:=(List.getElem?_eq_some_iff.1 hx).1
 obtain⟨b,hb⟩:=azt gK hk
 have gV:=hb
 obtain⟨n0,c,rfl⟩:=gV
 have hn:n0=ps.length:=by
  obtain⟨a,c',he⟩:=gK.form
  cases he;rfl
 subst hn
 have hj:=hj b hb
 exact jix (off:=0) (k:Int) c sz rfl (by omega) (by rw[Nat.zero_add];exact hj) hv
theorem QB{enc:α→List Value}{ps:List α}{L:Cells}{k:Nat}{x:α}(ix:Int)(sz:Nat)(gK:aK v szo T2 enc ps L)(hx:ps[k]?=some x) (he:ix=(k:Int)) (hj:∀b,JL v b→J X (ku (.pointer (some ⟨b,k*sz,none⟩)) o)) (hv:dB X.n (ixA X.P X.n) o=some (v,ix,sz):=by kernel_rfl):J X o:=by
 subst he;exact jxo sz gK hx hj hv
end
attribute [irreducible] dB ku Ja dA qk pM ldW
end Go.L
