/- Part 4 of the proof. -/
import Derived.Test.YtfhaegdkhpdedaaGreatDoorM3
import Derived.Test.YtfhaegdkhpdedaaGreatDoorProg
set_option maxRecDepth 100000
set_option maxHeartbeats 4000000
set_option linter.all false
namespace Go.L
open Go Go.Conc Go.Proofs
open Go.ConcR (KK wgBlock WgAt stA smA rd wr)
open Go.ConcM (OsLater)
section
noncomputable abbrev MP:Program:=Tryz.prog
noncomputable def zy(fr:Frame):Bool:=match fr.todo with
 | .inRegion ops (i::_)::_=>match ops[i]? with
  |some o=>match o.op with
   | .call ⟨.value (.func f),_,_⟩=>Nat.beq f 279&&Region.wanted o (yielded ops fr.tmps)
   |_=>false
  |none=>false
 |_=>false
noncomputable def axG(fr:Frame):Bool:=match fr.todo with
 | .code (.block id _)::_=>Nat.beq id 1
 |_=>false
noncomputable def mp(W o:Nat):Value:= .pointer (some ⟨W,o,none⟩)
noncomputable def iT(a:Int):Value:= .int .i64 a
noncomputable def iW(a:Int):Value:= .int .i32 a
noncomputable abbrev bT(b:Bool):Value:= .bool b
noncomputable def asR:FD:=⟨146,tdF MP 146 0 3,.normal,6,[]⟩
noncomputable def asQ(r i:Nat)(l:List (Nat×Value)):FD:=⟨195,tdF MP 195 r i,.normal,13,l⟩
noncomputable def aU1(r i:Nat)(l:List (Nat×Value)):FD:=⟨245,tdF MP 245 r i,.normal,139,l⟩
noncomputable def fa(r i:Nat)(l:List (Nat×Value)):List FD:=[asQ r i l,asR]
noncomputable def lo(r i:Nat)(l:List (Nat×Value)):List FD:=[aU1 r i l,asQ 4 1 [],asR]
section
variable (W:Nat)
noncomputable def sLd:List FD:=fa 0 0 [(0,mp W 0)]
noncomputable def sL0:List FD:=fa 1 3 [(0,mp W 0),(5,mp W 0)]
noncomputable def aEK:List FD:=fa 2 0 [(0,mp W 0)]
noncomputable def aEM:List FD:=fa 3 2 [(9,mp W 0)]
noncomputable def sR0:List FD:=lo 4 3 [(0,mp W 0),(2,iT 0),(3,bT false),(4,bT false),(5,iT 0),(12,mp W 0)]
noncomputable def sHd(y it:Value)(aw sv:Bool)(x:Int):List FD:=[⟨245,atS MP 245 (tdB 1),.normal,139,[(0,mp W 0),(2,y),(3,bT sv),(4,bT aw),(5,it),(6,iW x)]⟩,asQ 4 1 [],asR]
noncomputable def sSq(y it:Value)(aw sv:Bool)(x:Int):List FD:=lo 5 5 [(0,mp W 0),(2,y),(3,bT sv),(4,bT aw),(5,it),(6,iW x),(17,bT true),(18,it)]
noncomputable def sC2(y it:Value)(aw sv:Bool)(x n:Int):List FD:=lo 22 5 [(0,mp W 0),(2,y),(3,bT sv),(4,bT aw),(5,it),(6,iW x),(77,mp W 0),(78,iW x),(79,iW n)]
noncomputable def sC1(y it:Value)(sv:Bool)(x n:Int):List FD:=lo 6 19 [(0,mp W 0),(2,y),(3,bT sv),(4,bT false),(5,it),(6,iW x),(33,bT true),(36,mp W 0),(37,iW x),(39,iW n)]
noncomputable def sR1(y it:Value)(aw sv:Bool):List FD:=lo 10 3 [(0,mp W 0),(2,y),(3,bT sv),(4,bT aw),(5,it),(47,mp W 0)]
noncomputable def sR3(y it:Value)(aw sv:Bool):List FD:=lo 39 3 [(0,mp W 0),(2,y),(3,bT sv),(4,bT aw),(5,it),(133,mp W 0)]
noncomputable def sT1(sv b:Bool):List FD:=lo 26 0 [(0,mp W 0),(3,bT sv),(8,bT b)]
noncomputable def sS1(y:Value)(sv b:Bool):List FD:=lo 27 4 [(0,mp W 0),(2,y),(3,bT sv),(91,mp W 1),(92,bT b)]
noncomputable def sT2(y:Value):List FD:=lo 28 2 [(0,mp W 0),(2,y),(3,bT false),(95,bT false)]
noncomputable def sTb(y:Value)(b:Bool):List FD:=lo 28 6 [(0,mp W 0),(2,y),(95,bT false),(99,bT b)]
noncomputable def sR2(y:Value)(sv:Bool):List FD:=lo 29 3 [(0,mp W 0),(2,y),(3,bT sv),(103,mp W 0)]
noncomputable def sA1(d:Int):List FD:=lo 36 4 [(0,mp W 0),(128,mp W 0),(129,iW d)]
noncomputable def avE:List FD:=lo 40 0 [(0,mp W 0)]
noncomputable def aEL:List FD:=lo 41 2 [(137,mp W 0)]
end
noncomputable def words:List Wd:=(List.range 64).map λn=>⟨Nat.beq (n % 2) 1,Nat.beq (n / 2 % 2) 1,Nat.beq (n / 4 % 2) 1,n / 8⟩
noncomputable abbrev cW(x:Int):LA:=(some (iW x),none)
theorem aGe(W:Nat):Comes W (sLd W) [] [] (VD zy MP 234 [Frame.enter MP 146 ⟨[mp W 0]⟩ .normal]):=by unfold Comes;kernel_rfl
theorem bdJ(W:Nat)(v:Nat->Nat->Value):Comes W (sL0 W) [] [(1,0)] (mR zy MP 234 gq (e9 (sLd W) v)):=by unfold Comes;kernel_rfl
theorem aQ8(W:Nat)(v:Nat->Nat->Value):Comes W (aEK W) [(0,iW 1)] [(7,0),(8,0)] (mR zy MP 234 (cW 0) (e9 (sL0 W) v)):=by unfold Comes;kernel_rfl
theorem aQ9(W:Nat)(v:Nat->Nat->Value):Comes W (sR0 W) [] [] (FJ zy MP 234 (bT false) (e9 (sL0 W) v)):=by unfold Comes;kernel_rfl
theorem aQ5(W:Nat)(v:Nat->Nat->Value):Comes W (aEM W) [] [(2,0)] (mR zy MP 234 gq (e9 (aEK W) v)):=by unfold Comes;kernel_rfl
theorem aQ4(W:Nat)(v:Nat->Nat->Value):Comes W (aEL W) [] [(2,0)] (mR zy MP 234 gq (e9 (avE W) v)):=by unfold Comes;kernel_rfl
theorem bdI(W:Nat)(x:Int)(v:Nat->Nat->Value):Comes W (sHd W (iT 0) (iT 0) false false x) [] [] (mR axG MP 234 (cW x) (e9 (sR0 W) v)):=by unfold Comes;kernel_rfl
theorem bdH(W:Nat)(y it:Value)(aw sv:Bool)(x:Int)(v:Nat->Nat->Value):Comes W (sHd W y it aw sv x) [] [] (mR axG MP 234 (cW x) (e9 (sR1 W y it aw sv) v)):=by unfold Comes;kernel_rfl
theorem bdF(W:Nat)(y it:Value)(aw sv:Bool)(x:Int)(v:Nat->Nat->Value):Comes W (sHd W y it aw sv x) [] [] (mR axG MP 234 (cW x) (e9 (sR3 W y it aw sv) v)):=by unfold Comes;kernel_rfl
abbrev HC:=Wd×Bool×Bool
noncomputable def Qx:List HC:=words.flatMap λo=>(o,false,false)::(if o.W&& !o.S then [(o,true,false),(o,true,true)] else [])
noncomputable def aq4(W:Nat)(y it:Value)(c:HC):List FD:=if c.1.L&& !c.1.S then sSq W y it c.2.1 c.2.2 c.1.enc else sC2 W y it c.2.1 c.2.2 c.1.enc (c.1.nw c.2.1 c.2.2).enc
noncomputable def aB4(W:Nat)(y it:Value)(v:Nat->Nat->Value)(c:HC):Rs:=VD zy MP 234 (e9 (sHd W y it c.2.1 c.2.2 c.1.enc) v)
theorem bdK(W:Nat)(y it:Value)(v:Nat->Nat->Value):(Qx.map λc=>Sv (aq4 W y it c) (aB4 W y it v c))=Qx.map λc=>some (some ((aq4 W y it c).map NK),[],[],List.replicate (nB (aB4 W y it v c)) W):=by kernel_rfl
noncomputable def qcs:List HC:=Qx.filter λc=>c.1.L&& !c.1.S
noncomputable def anT(W:Nat)(y it:Value)(v:Nat->Nat->Value)(c:HC):Rs:=FJ zy MP 234 (bT false) (e9 (sSq W y it c.2.1 c.2.2 c.1.enc) v)
noncomputable def anU(W:Nat)(y it:Value)(c:HC):List FD:=sC2 W y it c.2.1 c.2.2 c.1.enc (c.1.nw c.2.1 c.2.2).enc
theorem aQZ(W:Nat)(y it:Value)(v:Nat->Nat->Value):(qcs.map λc=>Sv (anU W y it c) (anT W y it v c))=qcs.map λc=>some (some ((anU W y it c).map NK),[],[],List.replicate (nB (anT W y it v c)) W):=by kernel_rfl
noncomputable def anS(W:Nat)(y:Value)(n:Int)(v:Nat->Nat->Value)(c:HC):Rs:=FJ zy MP 234 (bT true) (e9 (sSq W y (iT n) c.2.1 c.2.2 c.1.enc) v)
noncomputable def itn(n:Int):Value:=iT (IntKind.wrap .i64 (n+1))
noncomputable def agD(W:Nat)(y:Value)(n:Int)(c:HC):List FD:=if !c.2.1&& !c.1.W&&c.1.c != 0 then sC1 W y (iT n) c.2.2 c.1.enc (Wd.enc ⟨c.1.L,true,c.1.S,c.1.c⟩) else sR1 W y (itn n) c.2.1 c.2.2
theorem aQY(W:Nat)(y:Value)(n:Int)(v:Nat->Nat->Value):(qcs.map λc=>Sv (agD W y n c) (anS W y n v c))=qcs.map λc=>some (some ((agD W y n c).map NK),[],[],List.replicate (nB (anS W y n v c)) W):=by kernel_rfl
theorem aRc(W:Nat)(y:Value)(n x z:Int)(sv:Bool)(v:Nat->Nat->Value):Comes W (sR1 W y (itn n) true sv) [] [] (FJ zy MP 234 (bT true) (e9 (sC1 W y (iT n) sv x z) v)):=by unfold Comes;kernel_rfl
theorem aRd(W:Nat)(y:Value)(n x z:Int)(sv:Bool)(v:Nat->Nat->Value):Comes W (sR1 W y (itn n) false sv) [] [] (FJ zy MP 234 (bT false) (e9 (sC1 W y (iT n) sv x z) v)):=by unfold Comes;kernel_rfl
theorem aRb(W:Nat)(y it:Value)(aw sv:Bool)(x z:Int)(v:Nat->Nat->Value):Comes W (sR3 W y it aw sv) [] [] (FJ zy MP 234 (bT false) (e9 (sC2 W y it aw sv x z) v)):=by unfold Comes;kernel_rfl
noncomputable def yv(ws:Bool)(n:Nat):Value:=if ws then iT (Int.ofNat (Nat.succ n)) else iT 0
noncomputable def aVx:List (Wd×Bool):=words.flatMap λo=>[(o,false),(o,true)]
noncomputable def aCH(W n:Nat)(it:Value)(aw sv:Bool)(z:Int)(v:Nat->Nat->Value)(c:Wd×Bool):Rs:=FJ zy MP 234 (bT true) (e9 (sC2 W (yv c.2 n) it aw sv c.1.enc z) v)
noncomputable def atP(W n:Nat)(sv:Bool)(c:Wd×Bool):List FD:=if c.1.L||c.1.S then (if c.2 then sS1 W (yv c.2 n) sv true else sT1 W sv false) else avE W
theorem aRa(W n:Nat)(it:Value)(aw sv:Bool)(z:Int)(v:Nat->Nat->Value):(aVx.map λc=>Sv (atP W n sv c) (aCH W n it aw sv z v c))=aVx.map λc=>some (some ((atP W n sv c).map NK),[],[],List.replicate (nB (aCH W n it aw sv z v c)) W):=by kernel_rfl
theorem bdE(W:Nat)(sv b:Bool)(y:Value)(v:Nat->Nat->Value):Comes W (sS1 W y sv b) [] [] (FJ zy MP 234 y (e9 (sT1 W sv b) v)):=by unfold Comes;kernel_rfl
noncomputable abbrev cS(m:Int):LA:=(none,some (.int .u32 m))
theorem aQ1(W:Nat)(y:Value)(b:Bool)(v:Nat->Nat->Value):Comes W (sT2 W y) [(1,.int .u32 0)] YU (mR zy MP 234 (cS 1) (e9 (sS1 W y false b) v)):=by unfold Comes;kernel_rfl
theorem aQ0(W:Nat)(y:Value)(b:Bool)(v:Nat->Nat->Value):Comes W (sR2 W y true) [(1,.int .u32 0)] YU (mR zy MP 234 (cS 1) (e9 (sS1 W y true b) v)):=by unfold Comes;kernel_rfl
noncomputable def aKl:List Frame->Option (List Nat)
 |f::s=>atT MP 234 (cS 0) f s
 | []=>none
theorem aQ2(W:Nat)(y:Value)(sv b:Bool)(v:Nat->Nat->Value):aKl (e9 (sS1 W y sv b) v)=some (List.replicate ((aKl (e9 (sS1 W y sv b) v)).getD []).length W):=by kernel_rfl
noncomputable def aGw(fr:Frame):Bool:=match fr.todo with
 | .inRegion ops (i::_)::_=>match ops[i]? with
  |some o=>match o.op with
   | .pick .. =>true
   |_=>false
  |none=>false
 |_=>false
noncomputable def aUI(i:Nat):Rs->Bool
 |some (f,_)=>match f.tmps[i]? with
  |some (.bool b)=>b
  |_=>false
 |none=>false
noncomputable def am0(W:Nat)(x t:Int)(v:Nat->Nat->Value):Rs:=FJ aGw MP 234 (iT t) (e9 (sT2 W (iT x)) v)
theorem bdD(W:Nat)(x t:Int)(v:Nat->Nat->Value):Comes W (sTb W (iT x) (aUI 99 (am0 W x t v))) [] [] (am0 W x t v):=by unfold Comes;kernel_rfl
theorem bdC(W:Nat)(y:Value)(b:Bool)(v:Nat->Nat->Value):Comes W (sR2 W y b) [] [] (VD zy MP 234 (e9 (sTb W y b) v)):=by unfold Comes;kernel_rfl
noncomputable def aOE:List Wd:=words.filter λo=> !o.S
noncomputable def aAL(W:Nat)(y:Value)(sv:Bool)(v:Nat->Nat->Value)(o:Wd):Rs:=mR axG MP 234 (cW o.enc) (e9 (sR2 W y sv) v)
theorem bdG(W:Nat)(y:Value)(sv:Bool)(v:Nat->Nat->Value):(aOE.map λo=>Sv (sHd W y (iT 0) true sv o.enc) (aAL W y sv v o))=aOE.map λo=>some (some ((sHd W y (iT 0) true sv o.enc).map NK),[],[],List.replicate (nB (aAL W y sv v o)) W):=by kernel_rfl
noncomputable def aOD:List (Wd×Bool):=(words.filter λo=>o.S&& !o.L&& !o.W&&o.c != 0).flatMap λo=>[(o,false),(o,true)]
noncomputable def anQ(W:Nat)(y:Value)(v:Nat->Nat->Value)(c:Wd×Bool):Rs:=mR zy MP 234 (cW c.1.enc) (e9 (sR2 W y c.2) v)
noncomputable def dlt(ex:Bool):Int:=if ex then-11 else-7
theorem aQ3(W:Nat)(y:Value)(v:Nat->Nat->Value):(aOD.map λc=>Sv (sA1 W (dlt (!c.2||c.1.c==1))) (anQ W y v c))=aOD.map λc=>some (some ((sA1 W (dlt (!c.2||c.1.c==1))).map NK),[],[],List.replicate (nB (anQ W y v c)) W):=by kernel_rfl
theorem bdL(W:Nat)(x d:Int)(v:Nat->Nat->Value):Comes W (avE W) [(0,iW (IntKind.wrap .i32 (x+d)))] [(7,0),(8,0)] (mR zy MP 234 (cW x) (e9 (sA1 W d) v)):=by unfold Comes;kernel_rfl
noncomputable def aCp:FD:=⟨147,tdF MP 147 0 3,.deferred,6,[]⟩
noncomputable def fu(r i:Nat)(l:List (Nat×Value)):List FD:=[⟨196,tdF MP 196 r i,.normal,21,l⟩,aCp]
noncomputable def fs(W r i:Nat)(l:List (Nat×Value)):List FD:=[⟨247,tdF MP 247 r i,.normal,43,l⟩,⟨196,tdF MP 196 5 2,.normal,21,[(0,mp W 0)]⟩,aCp]
noncomputable def sUi(W:Nat):List FD:=fu 0 3 [(0,mp W 0),(5,mp W 0)]
noncomputable def sUr(W:Nat):List FD:=fu 1 2 [(0,mp W 0),(8,mp W 0)]
noncomputable def sUd(W:Nat):List FD:=fu 2 0 [(0,mp W 0)]
noncomputable def sU0(W:Nat):List FD:=fu 3 3 [(0,mp W 0),(13,mp W 0)]
noncomputable def sUe:List FD:=fu 6 0 []
noncomputable def sUc(W:Nat)(x n:Int):List FD:=fs W 6 5 [(0,mp W 0),(4,iW x),(27,mp W 0),(28,iW x),(29,iW n)]
noncomputable def sUx(W:Nat):List FD:=fs W 8 3 [(0,mp W 0),(37,mp W 0)]
noncomputable def anq(W:Nat):List FD:=fs W 7 3 [(33,mp W 1)]
noncomputable def anp(W:Nat):List FD:=fs W 9 3 [(41,mp W 1)]
noncomputable def YB(W:Nat)(o:Wd):List FD:=if o.rest then sUe else sUc W o.enc (Wd.enc ⟨o.L,true,o.S,o.c-1⟩)
noncomputable def Ns(_:Frame):Bool:=false
theorem apF(W:Nat):Comes W (sUi W) [] [] (VD Ns MP 234 [Frame.enter MP 147 ⟨[mp W 0]⟩ .deferred]):=by unfold Comes;kernel_rfl
theorem bdy(W:Nat)(x:Int)(v:Nat->Nat->Value):Comes W (sUr W) [] [] (mR Ns MP 234 (cW x) (e9 (sUi W) v)):=by unfold Comes;kernel_rfl
theorem bdx(W:Nat)(v:Nat->Nat->Value):Comes W (sUd W) [] [(3,0)] (mR Ns MP 234 gq (e9 (sUr W) v)):=by unfold Comes;kernel_rfl
theorem bdA(W:Nat)(v:Nat->Nat->Value):Comes W (sU0 W) [] [(1,0)] (mR Ns MP 234 gq (e9 (sUd W) v)):=by unfold Comes;kernel_rfl
noncomputable def aNp:List Wd:=words.filter λo=>o.L
noncomputable def az9(W:Nat)(v:Nat->Nat->Value)(o:Wd):Rs:=mR Ns MP 234 (cW o.enc) (e9 (sU0 W) v)
noncomputable def amC(W:Nat)(o:Wd):List FD:=if o.S then anp W else YB W ⟨false,o.W,o.S,o.c⟩
theorem bdB(W:Nat)(v:Nat->Nat->Value):(aNp.map λo=>Sv (amC W o) (az9 W v o))=aNp.map λo=>some (some ((amC W o).map NK),[(0,iW (Wd.enc ⟨false,o.W,o.S,o.c⟩))],[(7,0),(8,0)],List.replicate (nB (az9 W v o)) W):=by kernel_rfl
theorem aQW(W:Nat)(x n:Int)(v:Nat->Nat->Value):Comes W (anq W) [] [] (FJ Ns MP 234 (bT true) (e9 (sUc W x n) v)):=by unfold Comes;kernel_rfl
theorem aQX(W:Nat)(x n:Int)(v:Nat->Nat->Value):Comes W (sUx W) [] [] (FJ Ns MP 234 (bT false) (e9 (sUc W x n) v)):=by unfold Comes;kernel_rfl
noncomputable def az6(W:Nat)(v:Nat->Nat->Value)(o:Wd):Rs:=mR Ns MP 234 (cW o.enc) (e9 (sUx W) v)
theorem bdw(W:Nat)(v:Nat->Nat->Value):(words.map λo=>Sv (YB W o) (az6 W v o))=words.map λo=>some (some ((YB W o).map NK),[],[],List.replicate (nB (az6 W v o)) W):=by kernel_rfl
theorem aQV(W:Nat)(v:Nat->Nat->Value):Comes W sUe [(1,.int .u32 1)] YU (mR Ns MP 234 (cS 0) (e9 (anq W) v)):=by unfold Comes;kernel_rfl
theorem aQU(W:Nat)(v:Nat->Nat->Value):Comes W sUe [(1,.int .u32 1)] YU (mR Ns MP 234 (cS 0) (e9 (anp W) v)):=by unfold Comes;kernel_rfl
theorem aGd(W:Nat)(v:Nat->Nat->Value):Comes W sUe [(1,.int .u32 2)] YU (mR Ns MP 234 (cS 1) (e9 (anq W) v)):=by unfold Comes;kernel_rfl
theorem aGc(W:Nat)(v:Nat->Nat->Value):Comes W sUe [(1,.int .u32 2)] YU (mR Ns MP 234 (cS 1) (e9 (anp W) v)):=by unfold Comes;kernel_rfl
end
end Go.L
