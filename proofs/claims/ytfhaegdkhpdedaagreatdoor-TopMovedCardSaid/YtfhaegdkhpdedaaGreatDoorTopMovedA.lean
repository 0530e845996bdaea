/- The row of this proof: one good run from every start. -/
import Derived.Test.YtfhaegdkhpdedaaGreatDoorTie
import Derived.Test.YtfhaegdkhpdedaaGreatDoorCards
import Derived.Test.YtfhaegdkhpdedaaGreatDoorM12
import Derived.WalkKit
import Derived.ProofKit
import Derived.OpenShut
import Derived.LaidMore
import Derived.Lay
import Derived.Conc.LeavingOf
import Derived.Conc.HoldsTime
import Derived.SevenTiedAt
import Derived.ChangeSlices
import Derived.SizedLaws
import Derived.Handed
namespace Go.Proofs.YtfhaegdkhpdedaaGreatDoor
open Go Go.L Go.Conc Go.ConcM Go.ChangeShapes Go.WideShapes Go.ChangeAt Go.RowKit
set_option linter.all false
set_option maxRecDepth 100000
theorem own:ownKnob Tryz.prog.godebug=none:=by kernel_rfl
theorem anh{W:World}{a:Addr}{len cap:Nat}{zs:List Int}(hl:len≤cap)(hz:len≤zs.length)(hc:∀i,i <zs.length→W.cell? (a.add i)=some (.int .i64 (zs.getD i 0))):
 dq (fun b=>(W.heap[b]?).map IT) (.slice (some a) len cap) 1 eI (zs.take len):=by
 have hlen:(zs.take len).length=len:=by simp;omega
 obtain⟨b,o,sp⟩:=a
 refine⟨some ⟨b,o,sp⟩,b,o,cap,by rw[hlen],by omega,fun k hk=>?_,fun i p hp=>?_⟩
 ·have h0:=hc 0 (by omega)
  have:sp=none:=by
   simp only[Addr.add,if_true,World.cell?] at h0
   split at h0
   ·cases sp with
    |none=>rfl
    |some x=>simp at h0
   ·cases h0
  rw[this]
 ·obtain⟨hi,hp⟩:=List.getElem?_eq_some_iff.1 hp
  have MI:i <zs.length:=by omega
  have h1:=hc i MI
  have e:zs.getD i 0=p:=by
   rw[←hp]
   simp[List.getD,MI]
  rw[e] at h1
  have hb:((⟨b,o,sp⟩:Addr).add i).block=b:=by unfold Addr.add;split<;>rfl
  have ho:((⟨b,o,sp⟩:Addr).add i).off=o+i:=by unfold Addr.add;split<;>simp_all
  simp only[World.cell?,hb,ho] at h1
  split at h1
  ·rename_i c t fz hw
   split at h1
   ·cases h1
   ·obtain⟨c⟩:=c
    have h1:c[o+i]?=some (.int .i64 p):=by simpa using h1
    obtain⟨h2,h3⟩:=List.getElem?_eq_some_iff.1 h1
    refine⟨c,t,fz,.inl (by show (W.heap[b]?).map IT=_;rw[hw];rfl),?_⟩
    rw[Nat.mul_one,ox (by omega),List.drop_eq_getElem_cons h2]
    simp[h3]
  ·cases h1
theorem kept{W w:World}(h1:∀(b:Nat) (o:Obj),W.heap[b]?=some o→w.heap[b]?=some o) (h2:w.os=W.os) (h3:w.output=W.output) (may:MemPlace→Prop):W.keptBut w may:=by
 refine⟨h2,h3,fun i hi=>?_⟩
 have e:w.heap[i]?=W.heap[i]?:=by
  rw[Array.getElem?_eq_getElem hi]
  exact h1 i _ (Array.getElem?_eq_getElem hi)
 rw[e]
 split<;>simp_all
theorem abQ{H:Type}{enc:TypeId×Value→H}{C:Checked}{os:Os}{f:FuncId}{fn:Func}{s:ChangeSpec}{conds:List PathCond}{apart:Bool}{X:World→Array Value→Prop}(w0:World)(args:Array Value)(fuel:Nat)(hos:w0.os=os)
 (hsh:(w0.forCall (fun _ _=>0) ⟨#[],args,[]⟩).Shaped C.prog)
 (dJ:Input.okWideB C.prog (w0.forCall (fun _ _=>0) ⟨#[],args,[]⟩) f ⟨#[],args,[]⟩=true)
 (aHc:s.preB enc C.prog fn conds apart (w0.forCall (fun _ _=>0) ⟨#[],args,[]⟩).memory args fuel=true)
 (sD:s.sizedB enc C.prog fn apart (w0.forCall (fun _ _=>0) ⟨#[],args,[]⟩).memory args fuel=true)
 (hx:X (w0.forCall (fun _ _=>0) ⟨#[],args,[]⟩).memory args):
 ∃(w:World) (tape:Tape) (i:Input),w.os=os∧(w.forCall tape i).Shaped C.prog∧i.vars=[]∧Input.okWide C.prog (w.forCall tape i) .any w.heap.size f i∧
  ((s.pre enc C.prog fn conds apart (w.forCall tape i).memory i.args∧X (w.forCall tape i).memory i.args)∧sizedMet enc C.prog fn (OpenSpec.ofChange s) apart (w.forCall tape i).memory i.args)∧({calm:=true}:Assume).holds C.prog (lone (Frame.enter C.prog f i.args .normal) [] (w.forCall tape i)):=
 ⟨w0,fun _ _=>0,⟨#[],args,[]⟩,hos,hsh,(Input.okWide_of_okWideB (base:=0) dJ).1,(Input.okWide_of_okWideB dJ).2,⟨⟨ChangeSpec.pre_of_preB aHc,hx⟩,sizedMet_of_sizedB sD⟩,by
  simp only[Assume.holds]
  exact⟨by simp,fun _ _ _ _=>rfl,by simp,by simp,by simp⟩⟩
theorem alf{H:Type}{enc:TypeId×Value→H}{W:World}{v:Value}{d:DataW H}{p:List MemPlace}(dJ:∃a len cap,v= .slice a len cap)
 (h:DataW.Trod enc Tryz.prog W 0 (fun _=>true) true 45 v d p)(hz:(DataW.weightsEach Tryz.prog [45] [d]).all (· ≤reachBytes)=true):
 (∃xs:List Int,Dn (fun b=>(W.heap[b]?).map IT) v xs)∧∀w:World,(∀(b:Nat) (o:Obj),W.heap[b]?=some o→w.heap[b]?=some o)→∃pa,DataW.Trod enc Tryz.prog w 0 (fun b=>decide (b <W.heap.size)) true 45 v d pa:=by
 obtain⟨a0,ajS,aKf,rfl⟩:=dJ
 obtain⟨n,hn⟩:=h
 have aTx:Tryz.prog.cellsOf 3=1:=by kernel_rfl
 have hby:Tryz.prog.bytesOf 3=8:=by kernel_rfl
 rcases open_ints Tryz.underlying45 Tryz.underlying3 aTx hn with ⟨Qx,hx⟩| ⟨a,len,cap,zs,Qx,_,hlc,hcm,hzl,hx,jP,hwf⟩
 ·simp only[Value.cells,Array.toList,List.cons.injEq,Value.slice.injEq,and_true] at Qx
  obtain⟨rfl,rfl,rfl⟩:=Qx
  simp only[Prod.mk.injEq] at hx
  obtain⟨rfl,rfl⟩:=hx
  refine⟨⟨[],dq.nil _ _ _ _ _,by simp⟩,fun w _=>⟨[],n+1,?_⟩⟩
  simp[DataW.trod,Value.cells,Tryz.underlying45]
 ·simp only[Value.cells,Array.toList,List.cons.injEq,Value.slice.injEq,and_true] at Qx
  obtain⟨rfl,rfl,rfl⟩:=Qx
  simp only[Prod.mk.injEq] at hx
  obtain⟨rfl,rfl⟩:=hx
  simp only[if_true] at hzl
  have sD:=sized_slice hz (j:=0) rfl rfl Tryz.underlying45
  rw[hby] at sD
  have hr:reachBytes <2^47:=reachBytes_lt
  have hl1:(lits (H:=H) .i64 (zs.take ajS)).length=ajS:=by simp[lits];omega
  refine⟨⟨zs.take ajS,anh hlc (by omega) jP,by simp;omega⟩,fun w hw=>⟨MemPlace.row a zs.length,?_⟩⟩
  have hc2:∀i,i <zs.length→w.cell? (a.add i)=some (.int .i64 (zs.getD i 0)):=fun i hi=>by
   have h1:=jP i hi
   simp only[World.cell?] at h1 ⊢
   split at h1
   ·rename_i hb
    rw[hw _ _ hb]
    exact h1
   ·cases h1
  have Ud:zs.length=(if (decide (a.block <W.heap.size)) then aKf else ajS):=by
   by_cases hz0:zs.length=0
   ·have:aKf=0:=by omega
    have:ajS=0:=by omega
    split<;>omega
   ·have h1:=jP 0 (by omega)
    have hb:a.block <W.heap.size:=by
     simp only[World.cell?] at h1
     split at h1
     ·rename_i hb
      have:=(Array.getElem?_eq_some_iff.1 hb).1
      simpa [Addr.add] using this
     ·cases h1
    simp[hb,hzl]
  have t0:=shut_ints (enc:=enc) (w:=w) (base:=0) (spare:=fun b=>decide (b <W.heap.size)) (held:=true) (a:=a) (len:=ajS) (cap:=aKf) (zs:=zs) 0 Tryz.underlying45 Tryz.underlying3 aTx (Nat.zero_le _) hlc hcm Ud hc2 hwf
  exact⟨2,by simpa [Value.cells] using t0⟩
theorem lifted(os:Os)(started:os.Started)(H:Type)(enc:TypeId×Value→H)(F:Stop.Interp):
 ReturnsInLeavingWide Rows.topMovedRow.assume Tryz.checked os 9 .any (fun w args=>(Rows.topMovedSpec.pre enc Tryz.prog Tryz.f9 [] false w args∧laidMetH Tryz.prog Rows.topMovedRow.laid w)∧sizedMet enc Tryz.prog Tryz.f9 (OpenSpec.ofChange Rows.topMovedSpec) false w args)
  ((OpenSpec.ofChange Rows.topMovedSpec).postWith enc Tryz.prog Tryz.f9 F (outsideKept [.timePasses]) false true false):=by
 refine returnsInLeavingWide_of_good (C:=Tryz.checked) own started
  (abQ (enc:=enc) (C:=Tryz.checked) (os:=os) (X:=fun w _=>laidMetH Tryz.prog Rows.topMovedRow.laid w) (World.laidAll Tryz.prog os Rows.topMovedRow.laid) #[.slice none 0 0] 8 (World.laidAll_os _ _ _)
   (World.shaped_of_ZipB (by kernel_rfl) (by kernel_rfl)) (by kernel_rfl) (by kernel_rfl) (by kernel_rfl)
   (by rw[MakeChecks.laidMetH_plain _ _ _ (by kernel_rfl)];exact laidMet_laidAll _ (by kernel_rfl) (by kernel_rfl))) ?_
 intro w tape i _ _ _ dJ aHc bgf
 obtain⟨_,_,_,fn',bgn,_,_,_,_,aGQ⟩:=dJ
 obtain rfl:fn'=Tryz.f9:=Option.some.inj (bgn.symm.trans Tryz.func9)
 obtain⟨⟨⟨ds,gs,before,hw,hc⟩,hL⟩,hz⟩:=aHc
 have hW:DataW.Whole enc Tryz.prog Tryz.f9.params.toList Rows.topMovedSpec.vars false (w.forCall tape i) i.args.toList ds gs before:=DataW.Whole.of_heap (w':=w.forCall tape i) (by rfl) hw
 have hW':=hW
 have BR:=hz.weights hw
 obtain⟨p,q,hA0,hV,rfl,_,_⟩:=hW
 have hA:DataW.TrodAll enc Tryz.prog (w.forCall tape i) 0 (fun _=>true) true Tryz.f9.params.toList i.args.toList ds p:=hA0
 obtain⟨rfl,rfl⟩:=trodVars_none hV
 have hp3:Tryz.f9.params.toList=[45]:=by rw[Tryz.params9]
 rw[hp3] at hA
 obtain⟨v0,d0,ha,rfl,h0⟩:=trodAll_one hA
 have SI:(DataW.weightsEach Tryz.prog [45] [d0]).all (· ≤reachBytes)=true:=by
  rw[hp3] at BR
  exact BR
 obtain⟨⟨xs,hN⟩,aIw⟩:=alf (okWide_slice Tryz.underlying45 (aGQ 0 45 v0 (by rw[Tryz.params9];rfl) (by rw[ha];rfl))) h0 SI
 have dz:=agd (w.forCall tape i) hN (Post:=fun v W'=>Rows.topMovedSpec.post enc Tryz.prog Tryz.f9 false true false false (w.forCall tape i) i.args v {W' with os:=(w.forCall tape i).os}∧OsLater (w.forCall tape i).os W'.os) (fun W' h1 h2 h3=>by
  obtain⟨pa,ht⟩:=aIw {W' with os:=(w.forCall tape i).os} h1
  refine⟨⟨[d0],[],p++[],[],pa,[],hW',trodAll_mk1 (shut_bool Tryz.underlying4 true),?_,rfl,kept (w:={W' with os:=(w.forCall tape i).os}) h1 rfl h3 _,fun h=>by cases h⟩,h2⟩
  rw[ha,hp3,List.append_nil]
  exact trodAll_mk1 ht)
 have e:(#[v0]:Array Value)=i.args:=ha.symm
 rw[show (⟨[v0]⟩:Array Value)=i.args from e] at dz
 obtain⟨N,last,o,w',t',r1,r2,r3,r4⟩:=dz
 exact⟨N,last,o,w',t',r1,r2,r3,r4.mono fun v hp=>postWith_blind (postWith_of_post hp.1 hp.2)⟩
end Go.Proofs.YtfhaegdkhpdedaaGreatDoor
