import Derived.Test.YthegconjacjohaaGreatDoorTie
import Derived.Test.YthegconjacjohaaGreatDoorCards
import Derived.Test.YthegconjacjohaaGreatDoorL6
import Derived.WalkKit
import Derived.Lay
import Derived.LaidMore
import Derived.Conc.LeavingOf
import Derived.SevenTiedAt
import Derived.ChangeSlices
import Derived.SizedLaws
import Derived.Handed
namespace Go.Proofs.YthegconjacjohaaGreatDoor
open Go Go.L Go.Conc Go.ChangeShapes Go.WideShapes Go.ChangeAt Go.RowKit
set_option linter.all false
set_option maxRecDepth 100000
theorem own:ownKnob Tryz.prog.godebug=none:=by kernel_rfl
theorem ae9{W:World}{a:Addr}{len cap:Nat}{zs:List Int}(hl:len≤cap)(hz:len≤zs.length)(hc:∀i,i <zs.length→W.cell? (a.add i)=some (.int .i64 (zs.getD i 0))):
 bJ (fun b=>W.heap[b]?) (.slice (some a) len cap) 1 aS (zs.take len):=by
 have hlen:(zs.take len).length=len:=by simp;omega
 obtain⟨b,o,sp⟩:=a
 refine⟨some ⟨b,o,sp⟩,b,o,cap,by rw[hlen],by omega,fun k hk=>?_,fun i p hp=>?_⟩
 ·have h0:=hc 0 (by omega)
  have:sp=none:=by
   simp only[Addr.add,if_true,World.cell?] at h0
   split at h0
   ·cases sp with
    |none=>rfl
    |some x=>simp at h0
   ·cases h0
  rw[this]
 ·obtain⟨hi,hp⟩:=List.getElem?_eq_some_iff.1 hp
  have KG:i <zs.length:=by omega
  have h1:=hc i KG
  have e:zs.getD i 0=p:=by
   rw[←hp]
   simp[List.getD,KG]
  rw[e] at h1
  have hb:((⟨b,o,sp⟩:Addr).add i).block=b:=by unfold Addr.add;split<;>rfl
  have ho:((⟨b,o,sp⟩:Addr).add i).off=o+i:=by unfold Addr.add;split<;>simp_all
  simp only[World.cell?,hb,ho] at h1
  split at h1
  ·rename_i c t fz hw
   split at h1
   ·cases h1
   ·obtain⟨c⟩:=c
    have h1:c[o+i]?=some (.int .i64 p):=by simpa using h1
    obtain⟨h2,h3⟩:=List.getElem?_eq_some_iff.1 h1
    refine⟨c,t,fz,.inl hw,?_⟩
    rw[Nat.mul_one,jB (by omega),List.drop_eq_getElem_cons h2]
    simp[h3]
  ·cases h1
theorem kept{W w:World}(h1:∀(b:Nat) (o:Obj),W.heap[b]?=some o→w.heap[b]?=some o) (h2:w.os=W.os) (h3:w.output=W.output) (may:MemPlace→Prop):W.keptBut w may:=by
 refine⟨h2,h3,fun i hi=>?_⟩
 have e:w.heap[i]?=W.heap[i]?:=by
  rw[Array.getElem?_eq_getElem hi]
  exact h1 i _ (Array.getElem?_eq_getElem hi)
 rw[e]
 split<;>simp_all
theorem ads{H:Type}{enc:TypeId×Value→H}{W:World}{v:Value}{d:DataW H}{p:List MemPlace}(fL:∃a len cap,v= .slice a len cap)
 (h:DataW.Trod enc Tryz.prog W 0 (fun _=>true) true 22 v d p)(hz:(DataW.weightsEach Tryz.prog [22] [d]).all (· ≤reachBytes)=true):
 (∃xs:List Int,Dn (fun b=>W.heap[b]?) v xs)∧∀w:World,(∀(b:Nat) (o:Obj),W.heap[b]?=some o→w.heap[b]?=some o)→∃pa,DataW.Trod enc Tryz.prog w 0 (fun b=>decide (b <W.heap.size)) true 22 v d pa:=by
 obtain⟨a0,ab7,azP,rfl⟩:=fL
 obtain⟨n,hn⟩:=h
 have aH3:Tryz.prog.cellsOf 3=1:=by kernel_rfl
 have hby:Tryz.prog.bytesOf 3=8:=by kernel_rfl
 rcases open_ints Tryz.underlying22 Tryz.underlying3 aH3 hn with ⟨hcs,hx⟩| ⟨a,len,cap,zs,hcs,_,hlc,hcm,Wh,hx,Is,hwf⟩
 ·simp only[Value.cells,Array.toList,List.cons.injEq,Value.slice.injEq,and_true] at hcs
  obtain⟨rfl,rfl,rfl⟩:=hcs
  simp only[Prod.mk.injEq] at hx
  obtain⟨rfl,rfl⟩:=hx
  refine⟨⟨[],bJ.nil _ _ _ _ _,by simp⟩,fun w _=>⟨[],n+1,?_⟩⟩
  simp[DataW.trod,Value.cells,Tryz.underlying22]
 ·simp only[Value.cells,Array.toList,List.cons.injEq,Value.slice.injEq,and_true] at hcs
  obtain⟨rfl,rfl,rfl⟩:=hcs
  simp only[Prod.mk.injEq] at hx
  obtain⟨rfl,rfl⟩:=hx
  simp only[if_true] at Wh
  have uA:=sized_slice hz (j:=0) rfl rfl Tryz.underlying22
  rw[hby] at uA
  have hr:reachBytes <2^47:=reachBytes_lt
  have Fe:(lits (H:=H) .i64 (zs.take ab7)).length=ab7:=by simp[lits];omega
  refine⟨⟨zs.take ab7,ae9 hlc (by omega) Is,by simp;omega⟩,fun w hw=>⟨MemPlace.row a zs.length,?_⟩⟩
  have hc2:∀i,i <zs.length→w.cell? (a.add i)=some (.int .i64 (zs.getD i 0)):=fun i hi=>by
   have h1:=Is i hi
   simp only[World.cell?] at h1 ⊢
   split at h1
   ·rename_i hb
    rw[hw _ _ hb]
    exact h1
   ·cases h1
  have Qe:zs.length=(if (decide (a.block <W.heap.size)) then azP else ab7):=by
   by_cases hz0:zs.length=0
   ·have:azP=0:=by omega
    have:ab7=0:=by omega
    split<;>omega
   ·have h1:=Is 0 (by omega)
    have hb:a.block <W.heap.size:=by
     simp only[World.cell?] at h1
     split at h1
     ·rename_i hb
      have:=(Array.getElem?_eq_some_iff.1 hb).1
      simpa [Addr.add] using this
     ·cases h1
    simp[hb,Wh]
  have t0:=shut_ints (enc:=enc) (w:=w) (base:=0) (spare:=fun b=>decide (b <W.heap.size)) (held:=true) (a:=a) (len:=ab7) (cap:=azP) (zs:=zs) 0 Tryz.underlying22 Tryz.underlying3 aH3 (Nat.zero_le _) hlc hcm Qe hc2 hwf
  exact⟨2,by simpa [Value.cells] using t0⟩
theorem lifted(os:Os)(started:os.Started)(H:Type)(enc:TypeId×Value→H):
 ReturnsInLeavingWide {} Tryz.checked os 4 .any (fun w args=>(Rows.kinAllSpec.pre enc Tryz.prog Tryz.f4 [] false w args∧laidMetH Tryz.prog Rows.kinAllRow.laid w)∧sizedMet enc Tryz.prog Tryz.f4 (OpenSpec.ofChange Rows.kinAllSpec) false w args)
  (Rows.kinAllSpec.post enc Tryz.prog Tryz.f4 false true false false):=by
 refine returnsInLeavingWide_of_good (C:=Tryz.checked) own started
  (ChangeSpec.witness_shaped (enc:=enc) (C:=Tryz.checked) (os:=os) (X:=fun w _=>laidMetH Tryz.prog Rows.kinAllRow.laid w) false (World.laidAll Tryz.prog os Rows.kinAllRow.laid) #[.slice none 0 0] 8 (World.laidAll_os _ _ _)
   (World.shaped_of_ZipB (by kernel_rfl) (by kernel_rfl)) (by kernel_rfl) (by kernel_rfl) (by kernel_rfl)
   (by rw[MakeChecks.laidMetH_plain _ _ _ (by kernel_rfl)];exact laidMet_laidAll _ (by kernel_rfl) (by kernel_rfl))) ?_
 intro w tape i _ _ _ fL aUP aVM
 obtain⟨_,_,_,fn',aVT,_,_,_,_,awQ⟩:=fL
 obtain rfl:fn'=Tryz.f4:=Option.some.inj (aVT.symm.trans Tryz.func4)
 obtain⟨⟨⟨ds,gs,before,hw,hc⟩,hL⟩,hz⟩:=aUP
 have hW:DataW.Whole enc Tryz.prog Tryz.f4.params.toList Rows.kinAllSpec.vars false (w.forCall tape i) i.args.toList ds gs before:=DataW.Whole.of_heap (w':=w.forCall tape i) (by rfl) hw
 have hW':=hW
 have FT:=hz.weights hw
 obtain⟨p,q,hA0,hV,rfl,_,_⟩:=hW
 have hA:DataW.TrodAll enc Tryz.prog (w.forCall tape i) 0 (fun _=>true) true Tryz.f4.params.toList i.args.toList ds p:=hA0
 obtain⟨rfl,rfl⟩:=trodVars_none hV
 have hp3:Tryz.f4.params.toList=[22]:=by rw[Tryz.params4]
 rw[hp3] at hA
 obtain⟨v0,d0,ha,rfl,h0⟩:=trodAll_one hA
 have Kw:(DataW.weightsEach Tryz.prog [22] [d0]).all (· ≤reachBytes)=true:=by
  rw[hp3] at FT
  exact FT
 obtain⟨⟨xs,hN⟩,ayJ⟩:=ads (okWide_slice Tryz.underlying22 (awQ 0 22 v0 (by rw[Tryz.params4];rfl) (by rw[ha];rfl))) h0 Kw
 have cq:=HW (w.forCall tape i) hN (Post:=fun v W'=>Rows.kinAllSpec.post enc Tryz.prog Tryz.f4 false true false false (w.forCall tape i) i.args v W') (fun W' h1 h2 h3=>by
  obtain⟨pa,ht⟩:=ayJ W' h1
  refine⟨[d0],[],p++[],[],pa,[],hW',trodAll_mk1 (shut_bool Tryz.underlying4 true),?_,rfl,kept h1 h2 h3 _,fun h=>by cases h⟩
  rw[ha,hp3,List.append_nil]
  exact trodAll_mk1 ht)
 have e:(#[v0]:Array Value)=i.args:=ha.symm
 rw[show (⟨[v0]⟩:Array Value)=i.args from e] at cq
 obtain⟨N,last,o,w',t',r1,r2,r3,r4⟩:=cq
 exact⟨N,last,o,w',t',r1,r2,r3,r4.mono fun v hp=>ChangeSpec.post_blind hp⟩
end Go.Proofs.YthegconjacjohaaGreatDoor
