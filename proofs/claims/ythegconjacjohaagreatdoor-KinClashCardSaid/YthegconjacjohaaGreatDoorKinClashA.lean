/- The row of this proof: one good run from every start. -/
import Derived.Test.YthegconjacjohaaGreatDoorTie
import Derived.Test.YthegconjacjohaaGreatDoorCards
import Derived.Test.YthegconjacjohaaGreatDoorK12
import Derived.WalkKit
import Derived.ProofKit
import Derived.OpenShut
import Derived.LaidMore
import Derived.Lay
import Derived.Conc.LeavingOf
import Derived.SevenTiedAt
import Derived.ChangeSlices
import Derived.SizedLaws
import Derived.Handed
namespace Go.Proofs.YthegconjacjohaaGreatDoor
open Go Go.L Go.Conc Go.ChangeShapes Go.WideShapes Go.ChangeAt Go.RowKit
set_option linter.all false
set_option maxRecDepth 100000
theorem own:ownKnob Tryz.prog.godebug=none:=by kernel_rfl
theorem aeG{W:World}{a:Addr}{len cap:Nat}{zs:List Int}(hl:len≤cap)(hz:len≤zs.length)(hc:∀i,i <zs.length→W.cell? (a.add i)=some (.int .i64 (zs.getD i 0))):
 bB (fun b=>W.heap[b]?) (.slice (some a) len cap) 1 cy (zs.take len):=by
 have hlen:(zs.take len).length=len:=by simp;omega
 obtain⟨b,o,sp⟩:=a
 refine⟨some ⟨b,o,sp⟩,b,o,cap,by rw[hlen],by omega,fun k hk=>?_,fun i p hp=>?_⟩
 ·have h0:=hc 0 (by omega)
  have:sp=none:=by
   simp only[Addr.add,if_true,World.cell?] at h0
   split at h0
   ·cases sp with
    |none=>rfl
    |some x=>simp at h0
   ·cases h0
  rw[this]
 ·obtain⟨hi,hp⟩:=List.getElem?_eq_some_iff.1 hp
  have JR:i <zs.length:=by omega
  have h1:=hc i JR
  have e:zs.getD i 0=p:=by
   rw[←hp]
   simp[List.getD,JR]
  rw[e] at h1
  have hb:((⟨b,o,sp⟩:Addr).add i).block=b:=by unfold Addr.add;split<;>rfl
  have ho:((⟨b,o,sp⟩:Addr).add i).off=o+i:=by unfold Addr.add;split<;>simp_all
  simp only[World.cell?,hb,ho] at h1
  split at h1
  ·rename_i c t fz hw
   split at h1
   ·cases h1
   ·obtain⟨c⟩:=c
    have h1:c[o+i]?=some (.int .i64 p):=by simpa using h1
    obtain⟨h2,h3⟩:=List.getElem?_eq_some_iff.1 h1
    refine⟨c,t,fz,.inl hw,?_⟩
    rw[Nat.mul_one,iQ (by omega),List.drop_eq_getElem_cons h2]
    simp[h3]
  ·cases h1
theorem kept{W w:World}(h1:∀(b:Nat) (o:Obj),W.heap[b]?=some o→w.heap[b]?=some o) (h2:w.os=W.os) (h3:w.output=W.output) (may:MemPlace→Prop):W.keptBut w may:=by
 refine⟨h2,h3,fun i hi=>?_⟩
 have e:w.heap[i]?=W.heap[i]?:=by
  rw[Array.getElem?_eq_getElem hi]
  exact h1 i _ (Array.getElem?_eq_getElem hi)
 rw[e]
 split<;>simp_all
theorem acT{H:Type}{enc:TypeId×Value→H}{W:World}{v:Value}{d:DataW H}{p:List MemPlace}(fe:∃a len cap,v= .slice a len cap)
 (h:DataW.Trod enc Tryz.prog W 0 (fun _=>true) true 22 v d p)(hz:(DataW.weightsEach Tryz.prog [22] [d]).all (· ≤reachBytes)=true):
 (∃xs:List Int,Dn (fun b=>W.heap[b]?) v xs)∧∀w:World,(∀(b:Nat) (o:Obj),W.heap[b]?=some o→w.heap[b]?=some o)→∃pa,DataW.Trod enc Tryz.prog w 0 (fun b=>decide (b <W.heap.size)) true 22 v d pa:=by
 obtain⟨a0,abB,ay8,rfl⟩:=fe
 obtain⟨n,hn⟩:=h
 have aGP:Tryz.prog.cellsOf 3=1:=by kernel_rfl
 have hby:Tryz.prog.bytesOf 3=8:=by kernel_rfl
 rcases open_ints Tryz.underlying22 Tryz.underlying3 aGP hn with ⟨hcs,hx⟩| ⟨a,len,cap,zs,hcs,_,hlc,hcm,hzl,hx,HN,hwf⟩
 ·simp only[Value.cells,Array.toList,List.cons.injEq,Value.slice.injEq,and_true] at hcs
  obtain⟨rfl,rfl,rfl⟩:=hcs
  simp only[Prod.mk.injEq] at hx
  obtain⟨rfl,rfl⟩:=hx
  refine⟨⟨[],bB.nil _ _ _ _ _,by simp⟩,fun w _=>⟨[],n+1,?_⟩⟩
  simp[DataW.trod,Value.cells,Tryz.underlying22]
 ·simp only[Value.cells,Array.toList,List.cons.injEq,Value.slice.injEq,and_true] at hcs
  obtain⟨rfl,rfl,rfl⟩:=hcs
  simp only[Prod.mk.injEq] at hx
  obtain⟨rfl,rfl⟩:=hx
  simp only[if_true] at hzl
  have u9:=sized_slice hz (j:=0) rfl rfl Tryz.underlying22
  rw[hby] at u9
  have hr:reachBytes <2^47:=reachBytes_lt
  have C2:(lits (H:=H) .i64 (zs.take abB)).length=abB:=by simp[lits];omega
  refine⟨⟨zs.take abB,aeG hlc (by omega) HN,by simp;omega⟩,fun w hw=>⟨MemPlace.row a zs.length,?_⟩⟩
  have hc2:∀i,i <zs.length→w.cell? (a.add i)=some (.int .i64 (zs.getD i 0)):=fun i hi=>by
   have h1:=HN i hi
   simp only[World.cell?] at h1 ⊢
   split at h1
   ·rename_i hb
    rw[hw _ _ hb]
    exact h1
   ·cases h1
  have Pc:zs.length=(if (decide (a.block <W.heap.size)) then ay8 else abB):=by
   by_cases hz0:zs.length=0
   ·have:ay8=0:=by omega
    have:abB=0:=by omega
    split<;>omega
   ·have h1:=HN 0 (by omega)
    have hb:a.block <W.heap.size:=by
     simp only[World.cell?] at h1
     split at h1
     ·rename_i hb
      have:=(Array.getElem?_eq_some_iff.1 hb).1
      simpa [Addr.add] using this
     ·cases h1
    simp[hb,hzl]
  have t0:=shut_ints (enc:=enc) (w:=w) (base:=0) (spare:=fun b=>decide (b <W.heap.size)) (held:=true) (a:=a) (len:=abB) (cap:=ay8) (zs:=zs) 0 Tryz.underlying22 Tryz.underlying3 aGP (Nat.zero_le _) hlc hcm Pc hc2 hwf
  exact⟨2,by simpa [Value.cells] using t0⟩
theorem lifted(os:Os)(started:os.Started)(H:Type)(enc:TypeId×Value→H):
 ReturnsInLeavingWide {} Tryz.checked os 3 .any (fun w args=>(Rows.kinClashSpec.pre enc Tryz.prog Tryz.f3 [] false w args∧laidMetH Tryz.prog Rows.kinClashRow.laid w)∧sizedMet enc Tryz.prog Tryz.f3 (OpenSpec.ofChange Rows.kinClashSpec) false w args)
  (Rows.kinClashSpec.post enc Tryz.prog Tryz.f3 false true false false):=by
 refine returnsInLeavingWide_of_good (C:=Tryz.checked) own started
  (ChangeSpec.witness_shaped (enc:=enc) (C:=Tryz.checked) (os:=os) (X:=fun w _=>laidMetH Tryz.prog Rows.kinClashRow.laid w) false (World.laidAll Tryz.prog os Rows.kinClashRow.laid) #[.slice none 0 0] 8 (World.laidAll_os _ _ _)
   (World.shaped_of_ZipB (by kernel_rfl) (by kernel_rfl)) (by kernel_rfl) (by kernel_rfl) (by kernel_rfl)
   (by rw[MakeChecks.laidMetH_plain _ _ _ (by kernel_rfl)];exact laidMet_laidAll _ (by kernel_rfl) (by kernel_rfl))) ?_
 intro w tape i _ _ _ fe aQ6 aR3
 obtain⟨_,_,_,fn',aR9,_,_,_,_,awl⟩:=fe
 obtain rfl:fn'=Tryz.f3:=Option.some.inj (aR9.symm.trans Tryz.func3)
 obtain⟨⟨⟨ds,gs,before,hw,hc⟩,hL⟩,hz⟩:=aQ6
 have hW:DataW.Whole enc Tryz.prog Tryz.f3.params.toList Rows.kinClashSpec.vars false (w.forCall tape i) i.args.toList ds gs before:=DataW.Whole.of_heap (w':=w.forCall tape i) (by rfl) hw
 have hW':=hW
 have EI:=hz.weights hw
 obtain⟨p,q,hA0,hV,rfl,_,_⟩:=hW
 have hA:DataW.TrodAll enc Tryz.prog (w.forCall tape i) 0 (fun _=>true) true Tryz.f3.params.toList i.args.toList ds p:=hA0
 obtain⟨rfl,rfl⟩:=trodVars_none hV
 have hp3:Tryz.f3.params.toList=[22]:=by rw[Tryz.params3]
 rw[hp3] at hA
 obtain⟨v0,d0,ha,rfl,h0⟩:=trodAll_one hA
 have JH:(DataW.weightsEach Tryz.prog [22] [d0]).all (· ≤reachBytes)=true:=by
  rw[hp3] at EI
  exact EI
 obtain⟨⟨xs,hN⟩,ax8⟩:=acT (okWide_slice Tryz.underlying22 (awl 0 22 v0 (by rw[Tryz.params3];rfl) (by rw[ha];rfl))) h0 JH
 have bX:=G9 (w.forCall tape i) hN (Post:=fun v W'=>Rows.kinClashSpec.post enc Tryz.prog Tryz.f3 false true false false (w.forCall tape i) i.args v W') (fun W' h1 h2 h3=>by
  obtain⟨pa,ht⟩:=ax8 W' h1
  refine⟨[d0],[],p++[],[],pa,[],hW',trodAll_mk1 (shut_bool Tryz.underlying4 true),?_,rfl,kept h1 h2 h3 _,fun h=>by cases h⟩
  rw[ha,hp3,List.append_nil]
  exact trodAll_mk1 ht)
 have e:(#[v0]:Array Value)=i.args:=ha.symm
 rw[show (⟨[v0]⟩:Array Value)=i.args from e] at bX
 obtain⟨N,last,o,w',t',r1,r2,r3,r4⟩:=bX
 exact⟨N,last,o,w',t',r1,r2,r3,r4.mono fun v hp=>ChangeSpec.post_blind hp⟩
end Go.Proofs.YthegconjacjohaaGreatDoor
