/- Part 4 of the proof. -/
import Derived.Test.YtfhaegdkhpdedaaGreatDoorS3
import Derived.Test.YtfhaegdkhpdedaaGreatDoorProg
set_option maxRecDepth 100000
set_option maxHeartbeats 4000000
set_option linter.all false
namespace Go.L
open Go Go.Conc Go.Proofs
open Go.ConcR (KK wgBlock WgAt stA smA rd wr)
open Go.ConcM (OsLater)
section
noncomputable abbrev MP:Program:=Tryz.prog
noncomputable def Ak(fr:Frame):Bool:=match fr.todo with
 | .inRegion ops (i::_)::_=>match ops[i]? with
  |some o=>match o.op with
   | .call ⟨.value (.func f),_,_⟩=>Nat.beq f 279&&Region.wanted o (yielded ops fr.tmps)
   |_=>false
  |none=>false
 |_=>false
noncomputable def axF(fr:Frame):Bool:=match fr.todo with
 | .code (.block id _)::_=>Nat.beq id 1
 |_=>false
noncomputable def mp(W o:Nat):Value:= .pointer (some ⟨W,o,none⟩)
noncomputable def iT(a:Int):Value:= .int .i64 a
noncomputable def iW(a:Int):Value:= .int .i32 a
noncomputable abbrev bT(b:Bool):Value:= .bool b
noncomputable def asM:FD:=⟨146,tdF MP 146 0 3,.normal,6,[]⟩
noncomputable def asL(r i:Nat)(l:List (Nat×Value)):FD:=⟨195,tdF MP 195 r i,.normal,13,l⟩
noncomputable def aUR(r i:Nat)(l:List (Nat×Value)):FD:=⟨245,tdF MP 245 r i,.normal,139,l⟩
noncomputable def fa(r i:Nat)(l:List (Nat×Value)):List FD:=[asL r i l,asM]
noncomputable def lo(r i:Nat)(l:List (Nat×Value)):List FD:=[aUR r i l,asL 4 1 [],asM]
section
variable (W:Nat)
noncomputable def sLd:List FD:=fa 0 0 [(0,mp W 0)]
noncomputable def sL0:List FD:=fa 1 3 [(0,mp W 0),(5,mp W 0)]
noncomputable def aEA:List FD:=fa 2 0 [(0,mp W 0)]
noncomputable def aEC:List FD:=fa 3 2 [(9,mp W 0)]
noncomputable def sR0:List FD:=lo 4 3 [(0,mp W 0),(2,iT 0),(3,bT false),(4,bT false),(5,iT 0),(12,mp W 0)]
noncomputable def sHd(y it:Value)(aw sv:Bool)(x:Int):List FD:=[⟨245,atP MP 245 (tdB 1),.normal,139,[(0,mp W 0),(2,y),(3,bT sv),(4,bT aw),(5,it),(6,iW x)]⟩,asL 4 1 [],asM]
noncomputable def sSq(y it:Value)(aw sv:Bool)(x:Int):List FD:=lo 5 5 [(0,mp W 0),(2,y),(3,bT sv),(4,bT aw),(5,it),(6,iW x),(17,bT true),(18,it)]
noncomputable def sC2(y it:Value)(aw sv:Bool)(x n:Int):List FD:=lo 22 5 [(0,mp W 0),(2,y),(3,bT sv),(4,bT aw),(5,it),(6,iW x),(77,mp W 0),(78,iW x),(79,iW n)]
noncomputable def sC1(y it:Value)(sv:Bool)(x n:Int):List FD:=lo 6 19 [(0,mp W 0),(2,y),(3,bT sv),(4,bT false),(5,it),(6,iW x),(33,bT true),(36,mp W 0),(37,iW x),(39,iW n)]
noncomputable def sR1(y it:Value)(aw sv:Bool):List FD:=lo 10 3 [(0,mp W 0),(2,y),(3,bT sv),(4,bT aw),(5,it),(47,mp W 0)]
noncomputable def sR3(y it:Value)(aw sv:Bool):List FD:=lo 39 3 [(0,mp W 0),(2,y),(3,bT sv),(4,bT aw),(5,it),(133,mp W 0)]
noncomputable def sT1(sv b:Bool):List FD:=lo 26 0 [(0,mp W 0),(3,bT sv),(8,bT b)]
noncomputable def sS1(y:Value)(sv b:Bool):List FD:=lo 27 4 [(0,mp W 0),(2,y),(3,bT sv),(91,mp W 1),(92,bT b)]
noncomputable def sT2(y:Value):List FD:=lo 28 2 [(0,mp W 0),(2,y),(3,bT false),(95,bT false)]
noncomputable def sTb(y:Value)(b:Bool):List FD:=lo 28 6 [(0,mp W 0),(2,y),(95,bT false),(99,bT b)]
noncomputable def sR2(y:Value)(sv:Bool):List FD:=lo 29 3 [(0,mp W 0),(2,y),(3,bT sv),(103,mp W 0)]
noncomputable def sA1(d:Int):List FD:=lo 36 4 [(0,mp W 0),(128,mp W 0),(129,iW d)]
noncomputable def avD:List FD:=lo 40 0 [(0,mp W 0)]
noncomputable def aEB:List FD:=lo 41 2 [(137,mp W 0)]
end
noncomputable def words:List Wd:=(List.range 64).map λn=>⟨Nat.beq (n % 2) 1,Nat.beq (n / 2 % 2) 1,Nat.beq (n / 4 % 2) 1,n / 8⟩
noncomputable abbrev cW(x:Int):Me:=(some (iW x),none)
theorem aGf(W:Nat):Comes W (sLd W) [] [] (Vy Ak MP 234 [Frame.enter MP 146 ⟨[mp W 0]⟩ .normal]):=by unfold Comes;kernel_rfl
theorem bdL(W:Nat)(v:Nat->Nat->Value):Comes W (sL0 W) [] [(1,0)] (mT Ak MP 234 gA (fe (sLd W) v)):=by unfold Comes;kernel_rfl
theorem aRi(W:Nat)(v:Nat->Nat->Value):Comes W (aEA W) [(0,iW 1)] [(7,0),(8,0)] (mT Ak MP 234 (cW 0) (fe (sL0 W) v)):=by unfold Comes;kernel_rfl
theorem aRj(W:Nat)(v:Nat->Nat->Value):Comes W (sR0 W) [] [] (F4 Ak MP 234 (bT false) (fe (sL0 W) v)):=by unfold Comes;kernel_rfl
theorem aRf(W:Nat)(v:Nat->Nat->Value):Comes W (aEC W) [] [(2,0)] (mT Ak MP 234 gA (fe (aEA W) v)):=by unfold Comes;kernel_rfl
theorem aRe(W:Nat)(v:Nat->Nat->Value):Comes W (aEB W) [] [(2,0)] (mT Ak MP 234 gA (fe (avD W) v)):=by unfold Comes;kernel_rfl
theorem bdK(W:Nat)(x:Int)(v:Nat->Nat->Value):Comes W (sHd W (iT 0) (iT 0) false false x) [] [] (mT axF MP 234 (cW x) (fe (sR0 W) v)):=by unfold Comes;kernel_rfl
theorem bdJ(W:Nat)(y it:Value)(aw sv:Bool)(x:Int)(v:Nat->Nat->Value):Comes W (sHd W y it aw sv x) [] [] (mT axF MP 234 (cW x) (fe (sR1 W y it aw sv) v)):=by unfold Comes;kernel_rfl
theorem bdH(W:Nat)(y it:Value)(aw sv:Bool)(x:Int)(v:Nat->Nat->Value):Comes W (sHd W y it aw sv x) [] [] (mT axF MP 234 (cW x) (fe (sR3 W y it aw sv) v)):=by unfold Comes;kernel_rfl
abbrev HC:=Wd×Bool×Bool
noncomputable def QA:List HC:=words.flatMap λo=>(o,false,false)::(if o.W&& !o.S then [(o,true,false),(o,true,true)] else [])
noncomputable def ara(W:Nat)(y it:Value)(c:HC):List FD:=if c.1.L&& !c.1.S then sSq W y it c.2.1 c.2.2 c.1.enc else sC2 W y it c.2.1 c.2.2 c.1.enc (c.1.nw c.2.1 c.2.2).enc
noncomputable def aB1(W:Nat)(y it:Value)(v:Nat->Nat->Value)(c:HC):Rs:=Vy Ak MP 234 (fe (sHd W y it c.2.1 c.2.2 c.1.enc) v)
theorem bdM(W:Nat)(y it:Value)(v:Nat->Nat->Value):(QA.map λc=>SA (ara W y it c) (aB1 W y it v c))=QA.map λc=>some (some ((ara W y it c).map NP),[],[],List.replicate (nB (aB1 W y it v c)) W):=by kernel_rfl
noncomputable def qcs:List HC:=QA.filter λc=>c.1.L&& !c.1.S
noncomputable def an3(W:Nat)(y it:Value)(v:Nat->Nat->Value)(c:HC):Rs:=F4 Ak MP 234 (bT false) (fe (sSq W y it c.2.1 c.2.2 c.1.enc) v)
noncomputable def an4(W:Nat)(y it:Value)(c:HC):List FD:=sC2 W y it c.2.1 c.2.2 c.1.enc (c.1.nw c.2.1 c.2.2).enc
theorem aQ9(W:Nat)(y it:Value)(v:Nat->Nat->Value):(qcs.map λc=>SA (an4 W y it c) (an3 W y it v c))=qcs.map λc=>some (some ((an4 W y it c).map NP),[],[],List.replicate (nB (an3 W y it v c)) W):=by kernel_rfl
noncomputable def an1(W:Nat)(y:Value)(n:Int)(v:Nat->Nat->Value)(c:HC):Rs:=F4 Ak MP 234 (bT true) (fe (sSq W y (iT n) c.2.1 c.2.2 c.1.enc) v)
noncomputable def itn(n:Int):Value:=iT (IntKind.wrap .i64 (n+1))
noncomputable def agX(W:Nat)(y:Value)(n:Int)(c:HC):List FD:=if !c.2.1&& !c.1.W&&c.1.c != 0 then sC1 W y (iT n) c.2.2 c.1.enc (Wd.enc ⟨c.1.L,true,c.1.S,c.1.c⟩) else sR1 W y (itn n) c.2.1 c.2.2
theorem aQ8(W:Nat)(y:Value)(n:Int)(v:Nat->Nat->Value):(qcs.map λc=>SA (agX W y n c) (an1 W y n v c))=qcs.map λc=>some (some ((agX W y n c).map NP),[],[],List.replicate (nB (an1 W y n v c)) W):=by kernel_rfl
theorem aRm(W:Nat)(y:Value)(n x z:Int)(sv:Bool)(v:Nat->Nat->Value):Comes W (sR1 W y (itn n) true sv) [] [] (F4 Ak MP 234 (bT true) (fe (sC1 W y (iT n) sv x z) v)):=by unfold Comes;kernel_rfl
theorem aRn(W:Nat)(y:Value)(n x z:Int)(sv:Bool)(v:Nat->Nat->Value):Comes W (sR1 W y (itn n) false sv) [] [] (F4 Ak MP 234 (bT false) (fe (sC1 W y (iT n) sv x z) v)):=by unfold Comes;kernel_rfl
theorem aRl(W:Nat)(y it:Value)(aw sv:Bool)(x z:Int)(v:Nat->Nat->Value):Comes W (sR3 W y it aw sv) [] [] (F4 Ak MP 234 (bT false) (fe (sC2 W y it aw sv x z) v)):=by unfold Comes;kernel_rfl
noncomputable def yv(ws:Bool)(n:Nat):Value:=if ws then iT (Int.ofNat (Nat.succ n)) else iT 0
noncomputable def aVF:List (Wd×Bool):=words.flatMap λo=>[(o,false),(o,true)]
noncomputable def aCG(W n:Nat)(it:Value)(aw sv:Bool)(z:Int)(v:Nat->Nat->Value)(c:Wd×Bool):Rs:=F4 Ak MP 234 (bT true) (fe (sC2 W (yv c.2 n) it aw sv c.1.enc z) v)
noncomputable def atN(W n:Nat)(sv:Bool)(c:Wd×Bool):List FD:=if c.1.L||c.1.S then (if c.2 then sS1 W (yv c.2 n) sv true else sT1 W sv false) else avD W
theorem aRk(W n:Nat)(it:Value)(aw sv:Bool)(z:Int)(v:Nat->Nat->Value):(aVF.map λc=>SA (atN W n sv c) (aCG W n it aw sv z v c))=aVF.map λc=>some (some ((atN W n sv c).map NP),[],[],List.replicate (nB (aCG W n it aw sv z v c)) W):=by kernel_rfl
theorem bdG(W:Nat)(sv b:Bool)(y:Value)(v:Nat->Nat->Value):Comes W (sS1 W y sv b) [] [] (F4 Ak MP 234 y (fe (sT1 W sv b) v)):=by unfold Comes;kernel_rfl
noncomputable abbrev cS(m:Int):Me:=(none,some (.int .u32 m))
theorem aRb(W:Nat)(y:Value)(b:Bool)(v:Nat->Nat->Value):Comes W (sT2 W y) [(1,.int .u32 0)] Zk (mT Ak MP 234 (cS 1) (fe (sS1 W y false b) v)):=by unfold Comes;kernel_rfl
theorem aRa(W:Nat)(y:Value)(b:Bool)(v:Nat->Nat->Value):Comes W (sR2 W y true) [(1,.int .u32 0)] Zk (mT Ak MP 234 (cS 1) (fe (sS1 W y true b) v)):=by unfold Comes;kernel_rfl
noncomputable def aKs:List Frame->Option (List Nat)
 |f::s=>atQ MP 234 (cS 0) f s
 | []=>none
theorem aRc(W:Nat)(y:Value)(sv b:Bool)(v:Nat->Nat->Value):aKs (fe (sS1 W y sv b) v)=some (List.replicate ((aKs (fe (sS1 W y sv b) v)).getD []).length W):=by kernel_rfl
noncomputable def aGx(fr:Frame):Bool:=match fr.todo with
 | .inRegion ops (i::_)::_=>match ops[i]? with
  |some o=>match o.op with
   | .pick .. =>true
   |_=>false
  |none=>false
 |_=>false
noncomputable def aUy(i:Nat):Rs->Bool
 |some (f,_)=>match f.tmps[i]? with
  |some (.bool b)=>b
  |_=>false
 |none=>false
noncomputable def am9(W:Nat)(x t:Int)(v:Nat->Nat->Value):Rs:=F4 aGx MP 234 (iT t) (fe (sT2 W (iT x)) v)
theorem bdF(W:Nat)(x t:Int)(v:Nat->Nat->Value):Comes W (sTb W (iT x) (aUy 99 (am9 W x t v))) [] [] (am9 W x t v):=by unfold Comes;kernel_rfl
theorem bdE(W:Nat)(y:Value)(b:Bool)(v:Nat->Nat->Value):Comes W (sR2 W y b) [] [] (Vy Ak MP 234 (fe (sTb W y b) v)):=by unfold Comes;kernel_rfl
noncomputable def aOG:List Wd:=words.filter λo=> !o.S
noncomputable def aAN(W:Nat)(y:Value)(sv:Bool)(v:Nat->Nat->Value)(o:Wd):Rs:=mT axF MP 234 (cW o.enc) (fe (sR2 W y sv) v)
theorem bdI(W:Nat)(y:Value)(sv:Bool)(v:Nat->Nat->Value):(aOG.map λo=>SA (sHd W y (iT 0) true sv o.enc) (aAN W y sv v o))=aOG.map λo=>some (some ((sHd W y (iT 0) true sv o.enc).map NP),[],[],List.replicate (nB (aAN W y sv v o)) W):=by kernel_rfl
noncomputable def aOF:List (Wd×Bool):=(words.filter λo=>o.S&& !o.L&& !o.W&&o.c != 0).flatMap λo=>[(o,false),(o,true)]
noncomputable def anZ(W:Nat)(y:Value)(v:Nat->Nat->Value)(c:Wd×Bool):Rs:=mT Ak MP 234 (cW c.1.enc) (fe (sR2 W y c.2) v)
noncomputable def dlt(ex:Bool):Int:=if ex then-11 else-7
theorem aRd(W:Nat)(y:Value)(v:Nat->Nat->Value):(aOF.map λc=>SA (sA1 W (dlt (!c.2||c.1.c==1))) (anZ W y v c))=aOF.map λc=>some (some ((sA1 W (dlt (!c.2||c.1.c==1))).map NP),[],[],List.replicate (nB (anZ W y v c)) W):=by kernel_rfl
theorem bdN(W:Nat)(x d:Int)(v:Nat->Nat->Value):Comes W (avD W) [(0,iW (IntKind.wrap .i32 (x+d)))] [(7,0),(8,0)] (mT Ak MP 234 (cW x) (fe (sA1 W d) v)):=by unfold Comes;kernel_rfl
noncomputable def aCo:FD:=⟨147,tdF MP 147 0 3,.deferred,6,[]⟩
noncomputable def fu(r i:Nat)(l:List (Nat×Value)):List FD:=[⟨196,tdF MP 196 r i,.normal,21,l⟩,aCo]
noncomputable def fs(W r i:Nat)(l:List (Nat×Value)):List FD:=[⟨247,tdF MP 247 r i,.normal,43,l⟩,⟨196,tdF MP 196 5 2,.normal,21,[(0,mp W 0)]⟩,aCo]
noncomputable def sUi(W:Nat):List FD:=fu 0 3 [(0,mp W 0),(5,mp W 0)]
noncomputable def sUr(W:Nat):List FD:=fu 1 2 [(0,mp W 0),(8,mp W 0)]
noncomputable def sUd(W:Nat):List FD:=fu 2 0 [(0,mp W 0)]
noncomputable def sU0(W:Nat):List FD:=fu 3 3 [(0,mp W 0),(13,mp W 0)]
noncomputable def sUe:List FD:=fu 6 0 []
noncomputable def sUc(W:Nat)(x n:Int):List FD:=fs W 6 5 [(0,mp W 0),(4,iW x),(27,mp W 0),(28,iW x),(29,iW n)]
noncomputable def sUx(W:Nat):List FD:=fs W 8 3 [(0,mp W 0),(37,mp W 0)]
noncomputable def anA(W:Nat):List FD:=fs W 7 3 [(33,mp W 1)]
noncomputable def anz(W:Nat):List FD:=fs W 9 3 [(41,mp W 1)]
noncomputable def YU(W:Nat)(o:Wd):List FD:=if o.rest then sUe else sUc W o.enc (Wd.enc ⟨o.L,true,o.S,o.c-1⟩)
noncomputable def NA(_:Frame):Bool:=false
theorem apP(W:Nat):Comes W (sUi W) [] [] (Vy NA MP 234 [Frame.enter MP 147 ⟨[mp W 0]⟩ .deferred]):=by unfold Comes;kernel_rfl
theorem bdA(W:Nat)(x:Int)(v:Nat->Nat->Value):Comes W (sUr W) [] [] (mT NA MP 234 (cW x) (fe (sUi W) v)):=by unfold Comes;kernel_rfl
theorem bdz(W:Nat)(v:Nat->Nat->Value):Comes W (sUd W) [] [(3,0)] (mT NA MP 234 gA (fe (sUr W) v)):=by unfold Comes;kernel_rfl
theorem bdC(W:Nat)(v:Nat->Nat->Value):Comes W (sU0 W) [] [(1,0)] (mT NA MP 234 gA (fe (sUd W) v)):=by unfold Comes;kernel_rfl
noncomputable def aNv:List Wd:=words.filter λo=>o.L
noncomputable def az8(W:Nat)(v:Nat->Nat->Value)(o:Wd):Rs:=mT NA MP 234 (cW o.enc) (fe (sU0 W) v)
noncomputable def amI(W:Nat)(o:Wd):List FD:=if o.S then anz W else YU W ⟨false,o.W,o.S,o.c⟩
theorem bdD(W:Nat)(v:Nat->Nat->Value):(aNv.map λo=>SA (amI W o) (az8 W v o))=aNv.map λo=>some (some ((amI W o).map NP),[(0,iW (Wd.enc ⟨false,o.W,o.S,o.c⟩))],[(7,0),(8,0)],List.replicate (nB (az8 W v o)) W):=by kernel_rfl
theorem aQ6(W:Nat)(x n:Int)(v:Nat->Nat->Value):Comes W (anA W) [] [] (F4 NA MP 234 (bT true) (fe (sUc W x n) v)):=by unfold Comes;kernel_rfl
theorem aQ7(W:Nat)(x n:Int)(v:Nat->Nat->Value):Comes W (sUx W) [] [] (F4 NA MP 234 (bT false) (fe (sUc W x n) v)):=by unfold Comes;kernel_rfl
noncomputable def az5(W:Nat)(v:Nat->Nat->Value)(o:Wd):Rs:=mT NA MP 234 (cW o.enc) (fe (sUx W) v)
theorem bdy(W:Nat)(v:Nat->Nat->Value):(words.map λo=>SA (YU W o) (az5 W v o))=words.map λo=>some (some ((YU W o).map NP),[],[],List.replicate (nB (az5 W v o)) W):=by kernel_rfl
theorem aQ5(W:Nat)(v:Nat->Nat->Value):Comes W sUe [(1,.int .u32 1)] Zk (mT NA MP 234 (cS 0) (fe (anA W) v)):=by unfold Comes;kernel_rfl
theorem aQ4(W:Nat)(v:Nat->Nat->Value):Comes W sUe [(1,.int .u32 1)] Zk (mT NA MP 234 (cS 0) (fe (anz W) v)):=by unfold Comes;kernel_rfl
theorem aGe(W:Nat)(v:Nat->Nat->Value):Comes W sUe [(1,.int .u32 2)] Zk (mT NA MP 234 (cS 1) (fe (anA W) v)):=by unfold Comes;kernel_rfl
theorem aGd(W:Nat)(v:Nat->Nat->Value):Comes W sUe [(1,.int .u32 2)] Zk (mT NA MP 234 (cS 1) (fe (anz W) v)):=by unfold Comes;kernel_rfl
end
end Go.L
