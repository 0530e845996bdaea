/- Part 5 of the proof. -/
import Derived.Test.YtjnpgdnbbljggaaGreatDoorL4
import Derived.Test.YtjnpgdnbbljggaaGreatDoorProg
set_option maxRecDepth 100000
set_option maxHeartbeats 4000000
set_option linter.all false
namespace Go.L
open Go Go.Conc Go.Proofs
open Go.ConcR (KK wgBlock WgAt stA smA rd wr)
open Go.ConcM (OsLater)
section
noncomputable abbrev MP:Program:=Tryz.prog
noncomputable def tE(fr:Frame):Bool:=match fr.todo with
 | .inRegion ops (i::_)::_=>match ops[i]? with
  |some o=>match o.op with
   | .call ⟨.value (.func f),_,_⟩=>Nat.beq f 268&&Region.wanted o (yielded ops fr.tmps)
   |_=>false
  |none=>false
 |_=>false
noncomputable def alF(fr:Frame):Bool:=match fr.todo with
 | .code (.block id _)::_=>Nat.beq id 1
 |_=>false
noncomputable def mp(W o:Nat):Value:= .pointer (some ⟨W,o,none⟩)
noncomputable def iT(a:Int):Value:= .int .i64 a
noncomputable def iW(a:Int):Value:= .int .i32 a
noncomputable abbrev bT(b:Bool):Value:= .bool b
noncomputable def agV:FD:=⟨131,tdF MP 131 0 3,.normal,6,[]⟩
noncomputable def agS(r i:Nat)(l:List (Nat×Value)):FD:=⟨182,tdF MP 182 r i,.normal,13,l⟩
noncomputable def aEl(r i:Nat)(l:List (Nat×Value)):FD:=⟨227,tdF MP 227 r i,.normal,139,l⟩
noncomputable def fa(r i:Nat)(l:List (Nat×Value)):List FD:=[agS r i l,agV]
noncomputable def lo(r i:Nat)(l:List (Nat×Value)):List FD:=[aEl r i l,agS 4 1 [],agV]
section
variable (W:Nat)
noncomputable def sLd:List FD:=fa 0 0 [(0,mp W 0)]
noncomputable def sL0:List FD:=fa 1 3 [(0,mp W 0),(5,mp W 0)]
noncomputable def aq5:List FD:=fa 2 0 [(0,mp W 0)]
noncomputable def aq7:List FD:=fa 3 2 [(9,mp W 0)]
noncomputable def sR0:List FD:=lo 4 3 [(0,mp W 0),(2,iT 0),(3,bT false),(4,bT false),(5,iT 0),(12,mp W 0)]
noncomputable def sHd(y it:Value)(aw sv:Bool)(x:Int):List FD:=[⟨227,ahU MP 227 (tdB 1),.normal,139,[(0,mp W 0),(2,y),(3,bT sv),(4,bT aw),(5,it),(6,iW x)]⟩,agS 4 1 [],agV]
noncomputable def sSq(y it:Value)(aw sv:Bool)(x:Int):List FD:=lo 5 5 [(0,mp W 0),(2,y),(3,bT sv),(4,bT aw),(5,it),(6,iW x),(17,bT true),(18,it)]
noncomputable def sC2(y it:Value)(aw sv:Bool)(x n:Int):List FD:=lo 22 5 [(0,mp W 0),(2,y),(3,bT sv),(4,bT aw),(5,it),(6,iW x),(77,mp W 0),(78,iW x),(79,iW n)]
noncomputable def sC1(y it:Value)(sv:Bool)(x n:Int):List FD:=lo 6 19 [(0,mp W 0),(2,y),(3,bT sv),(4,bT false),(5,it),(6,iW x),(33,bT true),(36,mp W 0),(37,iW x),(39,iW n)]
noncomputable def sR1(y it:Value)(aw sv:Bool):List FD:=lo 10 3 [(0,mp W 0),(2,y),(3,bT sv),(4,bT aw),(5,it),(47,mp W 0)]
noncomputable def sR3(y it:Value)(aw sv:Bool):List FD:=lo 39 3 [(0,mp W 0),(2,y),(3,bT sv),(4,bT aw),(5,it),(133,mp W 0)]
noncomputable def sT1(sv b:Bool):List FD:=lo 26 0 [(0,mp W 0),(3,bT sv),(8,bT b)]
noncomputable def sS1(y:Value)(sv b:Bool):List FD:=lo 27 4 [(0,mp W 0),(2,y),(3,bT sv),(91,mp W 1),(92,bT b)]
noncomputable def sT2(y:Value):List FD:=lo 28 2 [(0,mp W 0),(2,y),(3,bT false),(95,bT false)]
noncomputable def sTb(y:Value)(b:Bool):List FD:=lo 28 6 [(0,mp W 0),(2,y),(95,bT false),(99,bT b)]
noncomputable def sR2(y:Value)(sv:Bool):List FD:=lo 29 3 [(0,mp W 0),(2,y),(3,bT sv),(103,mp W 0)]
noncomputable def sA1(d:Int):List FD:=lo 36 4 [(0,mp W 0),(128,mp W 0),(129,iW d)]
noncomputable def ajD:List FD:=lo 40 0 [(0,mp W 0)]
noncomputable def aq6:List FD:=lo 41 2 [(137,mp W 0)]
end
noncomputable def words:List Wd:=(List.range 64).map fun n=>⟨Nat.beq (n % 2) 1,Nat.beq (n / 2 % 2) 1,Nat.beq (n / 4 % 2) 1,n / 8⟩
noncomputable abbrev cW(x:Int):DY:=(some (iW x),none)
theorem asu(W:Nat):Comes W (sLd W) [] [] (MC tE MP 225 [Frame.enter MP 131 ⟨[mp W 0]⟩ .normal]):=by unfold Comes;kernel_rfl
theorem aMw(W:Nat)(v:Nat→Nat→Value):Comes W (sL0 W) [] [(1,0)] (iG tE MP 225 dr (cH (sLd W) v)):=by unfold Comes;kernel_rfl
theorem aA5(W:Nat)(v:Nat→Nat→Value):Comes W (aq5 W) [(0,iW 1)] [(7,0),(8,0)] (iG tE MP 225 (cW 0) (cH (sL0 W) v)):=by unfold Comes;kernel_rfl
theorem aA6(W:Nat)(v:Nat→Nat→Value):Comes W (sR0 W) [] [] (zc tE MP 225 (bT false) (cH (sL0 W) v)):=by unfold Comes;kernel_rfl
theorem aA2(W:Nat)(v:Nat→Nat→Value):Comes W (aq7 W) [] [(2,0)] (iG tE MP 225 dr (cH (aq5 W) v)):=by unfold Comes;kernel_rfl
theorem aA1(W:Nat)(v:Nat→Nat→Value):Comes W (aq6 W) [] [(2,0)] (iG tE MP 225 dr (cH (ajD W) v)):=by unfold Comes;kernel_rfl
theorem aMv(W:Nat)(x:Int)(v:Nat→Nat→Value):Comes W (sHd W (iT 0) (iT 0) false false x) [] [] (iG alF MP 225 (cW x) (cH (sR0 W) v)):=by unfold Comes;kernel_rfl
theorem aMu(W:Nat)(y it:Value)(aw sv:Bool)(x:Int)(v:Nat→Nat→Value):Comes W (sHd W y it aw sv x) [] [] (iG alF MP 225 (cW x) (cH (sR1 W y it aw sv) v)):=by unfold Comes;kernel_rfl
theorem aMs(W:Nat)(y it:Value)(aw sv:Bool)(x:Int)(v:Nat→Nat→Value):Comes W (sHd W y it aw sv x) [] [] (iG alF MP 225 (cW x) (cH (sR3 W y it aw sv) v)):=by unfold Comes;kernel_rfl
abbrev HC:=Wd×Bool×Bool
noncomputable def hcs:List HC:=words.flatMap fun o=>(o,false,false)::(if o.W&& !o.S then [(o,true,false),(o,true,true)] else [])
noncomputable def aga(W:Nat)(y it:Value)(c:HC):List FD:=if c.1.L&& !c.1.S then sSq W y it c.2.1 c.2.2 c.1.enc else sC2 W y it c.2.1 c.2.2 c.1.enc (c.1.nw c.2.1 c.2.2).enc
noncomputable def aoZ(W:Nat)(y it:Value)(v:Nat→Nat→Value)(c:HC):Rs:=MC tE MP 225 (cH (sHd W y it c.2.1 c.2.2 c.1.enc) v)
theorem aMx(W:Nat)(y it:Value)(v:Nat→Nat→Value):(hcs.map fun c=>Jb (aga W y it c) (aoZ W y it v c))=hcs.map fun c=>some (some ((aga W y it c).map Fp),[],[],List.replicate (nB (aoZ W y it v c)) W):=by kernel_rfl
noncomputable def qcs:List HC:=hcs.filter fun c=>c.1.L&& !c.1.S
noncomputable def acZ(W:Nat)(y it:Value)(v:Nat→Nat→Value)(c:HC):Rs:=zc tE MP 225 (bT false) (cH (sSq W y it c.2.1 c.2.2 c.1.enc) v)
noncomputable def ac0(W:Nat)(y it:Value)(c:HC):List FD:=sC2 W y it c.2.1 c.2.2 c.1.enc (c.1.nw c.2.1 c.2.2).enc
theorem aAW(W:Nat)(y it:Value)(v:Nat→Nat→Value):(qcs.map fun c=>Jb (ac0 W y it c) (acZ W y it v c))=qcs.map fun c=>some (some ((ac0 W y it c).map Fp),[],[],List.replicate (nB (acZ W y it v c)) W):=by kernel_rfl
noncomputable def acY(W:Nat)(y:Value)(n:Int)(v:Nat→Nat→Value)(c:HC):Rs:=zc tE MP 225 (bT true) (cH (sSq W y (iT n) c.2.1 c.2.2 c.1.enc) v)
noncomputable def itn(n:Int):Value:=iT (IntKind.wrap .i64 (n+1))
noncomputable def WA(W:Nat)(y:Value)(n:Int)(c:HC):List FD:=if !c.2.1&& !c.1.W&&c.1.c != 0 then sC1 W y (iT n) c.2.2 c.1.enc (Wd.enc ⟨c.1.L,true,c.1.S,c.1.c⟩) else sR1 W y (itn n) c.2.1 c.2.2
theorem aAV(W:Nat)(y:Value)(n:Int)(v:Nat→Nat→Value):(qcs.map fun c=>Jb (WA W y n c) (acY W y n v c))=qcs.map fun c=>some (some ((WA W y n c).map Fp),[],[],List.replicate (nB (acY W y n v c)) W):=by kernel_rfl
theorem aA9(W:Nat)(y:Value)(n x z:Int)(sv:Bool)(v:Nat→Nat→Value):Comes W (sR1 W y (itn n) true sv) [] [] (zc tE MP 225 (bT true) (cH (sC1 W y (iT n) sv x z) v)):=by unfold Comes;kernel_rfl
theorem aBa(W:Nat)(y:Value)(n x z:Int)(sv:Bool)(v:Nat→Nat→Value):Comes W (sR1 W y (itn n) false sv) [] [] (zc tE MP 225 (bT false) (cH (sC1 W y (iT n) sv x z) v)):=by unfold Comes;kernel_rfl
theorem aA8(W:Nat)(y it:Value)(aw sv:Bool)(x z:Int)(v:Nat→Nat→Value):Comes W (sR3 W y it aw sv) [] [] (zc tE MP 225 (bT false) (cH (sC2 W y it aw sv x z) v)):=by unfold Comes;kernel_rfl
noncomputable def yv(ws:Bool)(n:Nat):Value:=if ws then iT (Int.ofNat (Nat.succ n)) else iT 0
noncomputable def aFg:List (Wd×Bool):=words.flatMap fun o=>[(o,false),(o,true)]
noncomputable def apL(W n:Nat)(it:Value)(aw sv:Bool)(z:Int)(v:Nat→Nat→Value)(c:Wd×Bool):Rs:=zc tE MP 225 (bT true) (cH (sC2 W (yv c.2 n) it aw sv c.1.enc z) v)
noncomputable def ahS(W n:Nat)(sv:Bool)(c:Wd×Bool):List FD:=if c.1.L||c.1.S then (if c.2 then sS1 W (yv c.2 n) sv true else sT1 W sv false) else ajD W
theorem aA7(W n:Nat)(it:Value)(aw sv:Bool)(z:Int)(v:Nat→Nat→Value):(aFg.map fun c=>Jb (ahS W n sv c) (apL W n it aw sv z v c))=aFg.map fun c=>some (some ((ahS W n sv c).map Fp),[],[],List.replicate (nB (apL W n it aw sv z v c)) W):=by kernel_rfl
theorem aMr(W:Nat)(sv b:Bool)(y:Value)(v:Nat→Nat→Value):Comes W (sS1 W y sv b) [] [] (zc tE MP 225 y (cH (sT1 W sv b) v)):=by unfold Comes;kernel_rfl
noncomputable abbrev cS(m:Int):DY:=(none,some (.int .u32 m))
theorem aAY(W:Nat)(y:Value)(b:Bool)(v:Nat→Nat→Value):Comes W (sT2 W y) [(1,.int .u32 0)] Pz (iG tE MP 225 (cS 1) (cH (sS1 W y false b) v)):=by unfold Comes;kernel_rfl
theorem aAX(W:Nat)(y:Value)(b:Bool)(v:Nat→Nat→Value):Comes W (sR2 W y true) [(1,.int .u32 0)] Pz (iG tE MP 225 (cS 1) (cH (sS1 W y true b) v)):=by unfold Comes;kernel_rfl
noncomputable def avC:List Frame→Option (List Nat)
 |f::s=>ahV MP 225 (cS 0) f s
 | []=>none
theorem aAZ(W:Nat)(y:Value)(sv b:Bool)(v:Nat→Nat→Value):avC (cH (sS1 W y sv b) v)=some (List.replicate ((avC (cH (sS1 W y sv b) v)).getD []).length W):=by kernel_rfl
noncomputable def asP(fr:Frame):Bool:=match fr.todo with
 | .inRegion ops (i::_)::_=>match ops[i]? with
  |some o=>match o.op with
   | .pick .. =>true
   |_=>false
  |none=>false
 |_=>false
noncomputable def aD0(i:Nat):Rs→Bool
 |some (f,_)=>match f.tmps[i]? with
  |some (.bool b)=>b
  |_=>false
 |none=>false
noncomputable def ace(W:Nat)(x t:Int)(v:Nat→Nat→Value):Rs:=zc asP MP 225 (iT t) (cH (sT2 W (iT x)) v)
theorem aMq(W:Nat)(x t:Int)(v:Nat→Nat→Value):Comes W (sTb W (iT x) (aD0 99 (ace W x t v))) [] [] (ace W x t v):=by unfold Comes;kernel_rfl
theorem aMp(W:Nat)(y:Value)(b:Bool)(v:Nat→Nat→Value):Comes W (sR2 W y b) [] [] (MC tE MP 225 (cH (sTb W y b) v)):=by unfold Comes;kernel_rfl
noncomputable def ayH:List Wd:=words.filter fun o=> !o.S
noncomputable def anY(W:Nat)(y:Value)(sv:Bool)(v:Nat→Nat→Value)(o:Wd):Rs:=iG alF MP 225 (cW o.enc) (cH (sR2 W y sv) v)
theorem aMt(W:Nat)(y:Value)(sv:Bool)(v:Nat→Nat→Value):(ayH.map fun o=>Jb (sHd W y (iT 0) true sv o.enc) (anY W y sv v o))=ayH.map fun o=>some (some ((sHd W y (iT 0) true sv o.enc).map Fp),[],[],List.replicate (nB (anY W y sv v o)) W):=by kernel_rfl
noncomputable def ayG:List (Wd×Bool):=(words.filter fun o=>o.S&& !o.L&& !o.W&&o.c != 0).flatMap fun o=>[(o,false),(o,true)]
noncomputable def acW(W:Nat)(y:Value)(v:Nat→Nat→Value)(c:Wd×Bool):Rs:=iG tE MP 225 (cW c.1.enc) (cH (sR2 W y c.2) v)
noncomputable def dlt(ex:Bool):Int:=if ex then-11 else-7
theorem aA0(W:Nat)(y:Value)(v:Nat→Nat→Value):(ayG.map fun c=>Jb (sA1 W (dlt (!c.2||c.1.c==1))) (acW W y v c))=ayG.map fun c=>some (some ((sA1 W (dlt (!c.2||c.1.c==1))).map Fp),[],[],List.replicate (nB (acW W y v c)) W):=by kernel_rfl
theorem aMy(W:Nat)(x d:Int)(v:Nat→Nat→Value):Comes W (ajD W) [(0,iW (IntKind.wrap .i32 (x+d)))] [(7,0),(8,0)] (iG tE MP 225 (cW x) (cH (sA1 W d) v)):=by unfold Comes;kernel_rfl
noncomputable def apl:FD:=⟨132,tdF MP 132 0 3,.deferred,6,[]⟩
noncomputable def fu(r i:Nat)(l:List (Nat×Value)):List FD:=[⟨183,tdF MP 183 r i,.normal,21,l⟩,apl]
noncomputable def fs(W r i:Nat)(l:List (Nat×Value)):List FD:=[⟨229,tdF MP 229 r i,.normal,43,l⟩,⟨183,tdF MP 183 5 2,.normal,21,[(0,mp W 0)]⟩,apl]
noncomputable def sUi(W:Nat):List FD:=fu 0 3 [(0,mp W 0),(5,mp W 0)]
noncomputable def sUr(W:Nat):List FD:=fu 1 2 [(0,mp W 0),(8,mp W 0)]
noncomputable def sUd(W:Nat):List FD:=fu 2 0 [(0,mp W 0)]
noncomputable def sU0(W:Nat):List FD:=fu 3 3 [(0,mp W 0),(13,mp W 0)]
noncomputable def sUe:List FD:=fu 6 0 []
noncomputable def sUc(W:Nat)(x n:Int):List FD:=fs W 6 5 [(0,mp W 0),(4,iW x),(27,mp W 0),(28,iW x),(29,iW n)]
noncomputable def sUx(W:Nat):List FD:=fs W 8 3 [(0,mp W 0),(37,mp W 0)]
noncomputable def acG(W:Nat):List FD:=fs W 7 3 [(33,mp W 1)]
noncomputable def acF(W:Nat):List FD:=fs W 9 3 [(41,mp W 1)]
noncomputable def O9(W:Nat)(o:Wd):List FD:=if o.rest then sUe else sUc W o.enc (Wd.enc ⟨o.L,true,o.S,o.c-1⟩)
noncomputable def E8(_:Frame):Bool:=false
theorem aeW(W:Nat):Comes W (sUi W) [] [] (MC E8 MP 225 [Frame.enter MP 132 ⟨[mp W 0]⟩ .deferred]):=by unfold Comes;kernel_rfl
theorem aMl(W:Nat)(x:Int)(v:Nat→Nat→Value):Comes W (sUr W) [] [] (iG E8 MP 225 (cW x) (cH (sUi W) v)):=by unfold Comes;kernel_rfl
theorem aMk(W:Nat)(v:Nat→Nat→Value):Comes W (sUd W) [] [(3,0)] (iG E8 MP 225 dr (cH (sUr W) v)):=by unfold Comes;kernel_rfl
theorem aMn(W:Nat)(v:Nat→Nat→Value):Comes W (sU0 W) [] [(1,0)] (iG E8 MP 225 dr (cH (sUd W) v)):=by unfold Comes;kernel_rfl
noncomputable def ax2:List Wd:=words.filter fun o=>o.L
noncomputable def anB(W:Nat)(v:Nat→Nat→Value)(o:Wd):Rs:=iG E8 MP 225 (cW o.enc) (cH (sU0 W) v)
noncomputable def abY(W:Nat)(o:Wd):List FD:=if o.S then acF W else O9 W ⟨false,o.W,o.S,o.c⟩
theorem aMo(W:Nat)(v:Nat→Nat→Value):(ax2.map fun o=>Jb (abY W o) (anB W v o))=ax2.map fun o=>some (some ((abY W o).map Fp),[(0,iW (Wd.enc ⟨false,o.W,o.S,o.c⟩))],[(7,0),(8,0)],List.replicate (nB (anB W v o)) W):=by kernel_rfl
theorem aAT(W:Nat)(x n:Int)(v:Nat→Nat→Value):Comes W (acG W) [] [] (zc E8 MP 225 (bT true) (cH (sUc W x n) v)):=by unfold Comes;kernel_rfl
theorem aAU(W:Nat)(x n:Int)(v:Nat→Nat→Value):Comes W (sUx W) [] [] (zc E8 MP 225 (bT false) (cH (sUc W x n) v)):=by unfold Comes;kernel_rfl
noncomputable def anx(W:Nat)(v:Nat→Nat→Value)(o:Wd):Rs:=iG E8 MP 225 (cW o.enc) (cH (sUx W) v)
theorem aMj(W:Nat)(v:Nat→Nat→Value):(words.map fun o=>Jb (O9 W o) (anx W v o))=words.map fun o=>some (some ((O9 W o).map Fp),[],[],List.replicate (nB (anx W v o)) W):=by kernel_rfl
theorem aAS(W:Nat)(v:Nat→Nat→Value):Comes W sUe [(1,.int .u32 1)] Pz (iG E8 MP 225 (cS 0) (cH (acG W) v)):=by unfold Comes;kernel_rfl
theorem aAR(W:Nat)(v:Nat→Nat→Value):Comes W sUe [(1,.int .u32 1)] Pz (iG E8 MP 225 (cS 0) (cH (acF W) v)):=by unfold Comes;kernel_rfl
theorem ast(W:Nat)(v:Nat→Nat→Value):Comes W sUe [(1,.int .u32 2)] Pz (iG E8 MP 225 (cS 1) (cH (acG W) v)):=by unfold Comes;kernel_rfl
theorem ass(W:Nat)(v:Nat→Nat→Value):Comes W sUe [(1,.int .u32 2)] Pz (iG E8 MP 225 (cS 1) (cH (acF W) v)):=by unfold Comes;kernel_rfl
end
end Go.L
