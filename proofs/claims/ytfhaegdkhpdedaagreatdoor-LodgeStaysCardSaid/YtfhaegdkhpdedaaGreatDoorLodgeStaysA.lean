/- The row of this proof: one good run from every start. -/
import Derived.Test.YtfhaegdkhpdedaaGreatDoorTie
import Derived.Test.YtfhaegdkhpdedaaGreatDoorCards
import Derived.Test.YtfhaegdkhpdedaaGreatDoorS12
import Derived.WalkKit
import Derived.ProofKit
import Derived.OpenShut
import Derived.LaidMore
import Derived.Lay
import Derived.Conc.LeavingOf
import Derived.Conc.HoldsTime
import Derived.SevenTiedAt
import Derived.ChangeSlices
import Derived.SizedLaws
import Derived.Handed
namespace Go.Proofs.YtfhaegdkhpdedaaGreatDoor
open Go Go.L Go.Conc Go.ConcM Go.ChangeShapes Go.WideShapes Go.ChangeAt Go.RowKit
set_option linter.all false
set_option maxRecDepth 100000
theorem own:ownKnob Tryz.prog.godebug=none:=by kernel_rfl
theorem anr{W:World}{a:Addr}{len cap:Nat}{zs:List Int}(hl:len≤cap)(hz:len≤zs.length)(hc:∀i,i <zs.length→W.cell? (a.add i)=some (.int .i64 (zs.getD i 0))):
 dk (fun b=>(W.heap[b]?).map I9) (.slice (some a) len cap) 1 eC (zs.take len):=by
 have hlen:(zs.take len).length=len:=by simp;omega
 obtain⟨b,o,sp⟩:=a
 refine⟨some ⟨b,o,sp⟩,b,o,cap,by rw[hlen],by omega,fun k hk=>?_,fun i p hp=>?_⟩
 ·have h0:=hc 0 (by omega)
  have:sp=none:=by
   simp only[Addr.add,if_true,World.cell?] at h0
   split at h0
   ·cases sp with
    |none=>rfl
    |some x=>simp at h0
   ·cases h0
  rw[this]
 ·obtain⟨hi,hp⟩:=List.getElem?_eq_some_iff.1 hp
  have MN:i <zs.length:=by omega
  have h1:=hc i MN
  have e:zs.getD i 0=p:=by
   rw[←hp]
   simp[List.getD,MN]
  rw[e] at h1
  have hb:((⟨b,o,sp⟩:Addr).add i).block=b:=by unfold Addr.add;split<;>rfl
  have ho:((⟨b,o,sp⟩:Addr).add i).off=o+i:=by unfold Addr.add;split<;>simp_all
  simp only[World.cell?,hb,ho] at h1
  split at h1
  ·rename_i c t fz hw
   split at h1
   ·cases h1
   ·obtain⟨c⟩:=c
    have h1:c[o+i]?=some (.int .i64 p):=by simpa using h1
    obtain⟨h2,h3⟩:=List.getElem?_eq_some_iff.1 h1
    refine⟨c,t,fz,.inl (by show (W.heap[b]?).map I9=_;rw[hw];rfl),?_⟩
    rw[Nat.mul_one,oz (by omega),List.drop_eq_getElem_cons h2]
    simp[h3]
  ·cases h1
theorem kept{W w:World}(h1:∀(b:Nat) (o:Obj),W.heap[b]?=some o→w.heap[b]?=some o) (h2:w.os=W.os) (h3:w.output=W.output) (may:MemPlace→Prop):W.keptBut w may:=by
 refine⟨h2,h3,fun i hi=>?_⟩
 have e:w.heap[i]?=W.heap[i]?:=by
  rw[Array.getElem?_eq_getElem hi]
  exact h1 i _ (Array.getElem?_eq_getElem hi)
 rw[e]
 split<;>simp_all
theorem ab4{H:Type}{enc:TypeId×Value→H}{C:Checked}{os:Os}{f:FuncId}{fn:Func}{s:ChangeSpec}{conds:List PathCond}{apart:Bool}{X:World→Array Value→Prop}(w0:World)(args:Array Value)(fuel:Nat)(hos:w0.os=os)
 (hsh:(w0.forCall (fun _ _=>0) ⟨#[],args,[]⟩).Shaped C.prog)
 (dL:Input.okWideB C.prog (w0.forCall (fun _ _=>0) ⟨#[],args,[]⟩) f ⟨#[],args,[]⟩=true)
 (aHi:s.preB enc C.prog fn conds apart (w0.forCall (fun _ _=>0) ⟨#[],args,[]⟩).memory args fuel=true)
 (sO:s.sizedB enc C.prog fn apart (w0.forCall (fun _ _=>0) ⟨#[],args,[]⟩).memory args fuel=true)
 (hx:X (w0.forCall (fun _ _=>0) ⟨#[],args,[]⟩).memory args):
 ∃(w:World) (tape:Tape) (i:Input),w.os=os∧(w.forCall tape i).Shaped C.prog∧i.vars=[]∧Input.okWide C.prog (w.forCall tape i) .any w.heap.size f i∧
  ((s.pre enc C.prog fn conds apart (w.forCall tape i).memory i.args∧X (w.forCall tape i).memory i.args)∧sizedMet enc C.prog fn (OpenSpec.ofChange s) apart (w.forCall tape i).memory i.args)∧({calm:=true}:Assume).holds C.prog (lone (Frame.enter C.prog f i.args .normal) [] (w.forCall tape i)):=
 ⟨w0,fun _ _=>0,⟨#[],args,[]⟩,hos,hsh,(Input.okWide_of_okWideB (base:=0) dL).1,(Input.okWide_of_okWideB dL).2,⟨⟨ChangeSpec.pre_of_preB aHi,hx⟩,sizedMet_of_sizedB sO⟩,by
  simp only[Assume.holds]
  exact⟨by simp,fun _ _ _ _=>rfl,by simp,by simp,by simp⟩⟩
theorem ak5{H:Type}{enc:TypeId×Value→H}{W:World}{v:Value}{d:DataW H}{p:List MemPlace}(dL:∃a len cap,v= .slice a len cap)
 (h:DataW.Trod enc Tryz.prog W 0 (fun _=>true) true 45 v d p)(hz:(DataW.weightsEach Tryz.prog [45] [d]).all (· ≤reachBytes)=true):
 (∃xs:List Int,Dn (fun b=>(W.heap[b]?).map I9) v xs)∧∀w:World,(∀(b:Nat) (o:Obj),W.heap[b]?=some o→w.heap[b]?=some o)→∃pa,DataW.Trod enc Tryz.prog w 0 (fun b=>decide (b <W.heap.size)) true 45 v d pa:=by
 obtain⟨a0,SG,aKl,rfl⟩:=dL
 obtain⟨n,hn⟩:=h
 have aTB:Tryz.prog.cellsOf 3=1:=by kernel_rfl
 have hby:Tryz.prog.bytesOf 3=8:=by kernel_rfl
 rcases open_ints Tryz.underlying45 Tryz.underlying3 aTB hn with ⟨QA,hx⟩| ⟨a,len,cap,zs,QA,_,hlc,hcm,hzl,hx,jV,hwf⟩
 ·simp only[Value.cells,Array.toList,List.cons.injEq,Value.slice.injEq,and_true] at QA
  obtain⟨rfl,rfl,rfl⟩:=QA
  simp only[Prod.mk.injEq] at hx
  obtain⟨rfl,rfl⟩:=hx
  refine⟨⟨[],dk.nil _ _ _ _ _,by simp⟩,fun w _=>⟨[],n+1,?_⟩⟩
  simp[DataW.trod,Value.cells,Tryz.underlying45]
 ·simp only[Value.cells,Array.toList,List.cons.injEq,Value.slice.injEq,and_true] at QA
  obtain⟨rfl,rfl,rfl⟩:=QA
  simp only[Prod.mk.injEq] at hx
  obtain⟨rfl,rfl⟩:=hx
  simp only[if_true] at hzl
  have sO:=sized_slice hz (j:=0) rfl rfl Tryz.underlying45
  rw[hby] at sO
  have hr:reachBytes <2^47:=reachBytes_lt
  have hl1:(lits (H:=H) .i64 (zs.take SG)).length=SG:=by simp[lits];omega
  refine⟨⟨zs.take SG,anr hlc (by omega) jV,by simp;omega⟩,fun w hw=>⟨MemPlace.row a zs.length,?_⟩⟩
  have hc2:∀i,i <zs.length→w.cell? (a.add i)=some (.int .i64 (zs.getD i 0)):=fun i hi=>by
   have h1:=jV i hi
   simp only[World.cell?] at h1 ⊢
   split at h1
   ·rename_i hb
    rw[hw _ _ hb]
    exact h1
   ·cases h1
  have Ua:zs.length=(if (decide (a.block <W.heap.size)) then aKl else SG):=by
   by_cases hz0:zs.length=0
   ·have:aKl=0:=by omega
    have:SG=0:=by omega
    split<;>omega
   ·have h1:=jV 0 (by omega)
    have hb:a.block <W.heap.size:=by
     simp only[World.cell?] at h1
     split at h1
     ·rename_i hb
      have:=(Array.getElem?_eq_some_iff.1 hb).1
      simpa [Addr.add] using this
     ·cases h1
    simp[hb,hzl]
  have t0:=shut_ints (enc:=enc) (w:=w) (base:=0) (spare:=fun b=>decide (b <W.heap.size)) (held:=true) (a:=a) (len:=SG) (cap:=aKl) (zs:=zs) 0 Tryz.underlying45 Tryz.underlying3 aTB (Nat.zero_le _) hlc hcm Ua hc2 hwf
  exact⟨2,by simpa [Value.cells] using t0⟩
theorem lifted(os:Os)(started:os.Started)(H:Type)(enc:TypeId×Value→H)(F:Stop.Interp):
 ReturnsInLeavingWide Rows.lodgeStaysRow.assume Tryz.checked os 4 .any (fun w args=>(Rows.lodgeStaysSpec.pre enc Tryz.prog Tryz.f4 [] false w args∧laidMetH Tryz.prog Rows.lodgeStaysRow.laid w)∧sizedMet enc Tryz.prog Tryz.f4 (OpenSpec.ofChange Rows.lodgeStaysSpec) false w args)
  ((OpenSpec.ofChange Rows.lodgeStaysSpec).postWith enc Tryz.prog Tryz.f4 F (outsideKept [.timePasses]) false true false):=by
 refine returnsInLeavingWide_of_good (C:=Tryz.checked) own started
  (ab4 (enc:=enc) (C:=Tryz.checked) (os:=os) (X:=fun w _=>laidMetH Tryz.prog Rows.lodgeStaysRow.laid w) (World.laidAll Tryz.prog os Rows.lodgeStaysRow.laid) #[.slice none 0 0] 8 (World.laidAll_os _ _ _)
   (World.shaped_of_ZipB (by kernel_rfl) (by kernel_rfl)) (by kernel_rfl) (by kernel_rfl) (by kernel_rfl)
   (by rw[MakeChecks.laidMetH_plain _ _ _ (by kernel_rfl)];exact laidMet_laidAll _ (by kernel_rfl) (by kernel_rfl))) ?_
 intro w tape i _ _ _ dL aHi bf9
 obtain⟨_,_,_,fn',bgh,_,_,_,_,aGT⟩:=dL
 obtain rfl:fn'=Tryz.f4:=Option.some.inj (bgh.symm.trans Tryz.func4)
 obtain⟨⟨⟨ds,gs,before,hw,hc⟩,hL⟩,hz⟩:=aHi
 have hW:DataW.Whole enc Tryz.prog Tryz.f4.params.toList Rows.lodgeStaysSpec.vars false (w.forCall tape i) i.args.toList ds gs before:=DataW.Whole.of_heap (w':=w.forCall tape i) (by rfl) hw
 have hW':=hW
 have Ec:=hz.weights hw
 obtain⟨p,q,hA0,hV,rfl,_,_⟩:=hW
 have hA:DataW.TrodAll enc Tryz.prog (w.forCall tape i) 0 (fun _=>true) true Tryz.f4.params.toList i.args.toList ds p:=hA0
 obtain⟨rfl,rfl⟩:=trodVars_none hV
 have hp3:Tryz.f4.params.toList=[45]:=by rw[Tryz.params4]
 rw[hp3] at hA
 obtain⟨v0,d0,ha,rfl,h0⟩:=trodAll_one hA
 have SL:(DataW.weightsEach Tryz.prog [45] [d0]).all (· ≤reachBytes)=true:=by
  rw[hp3] at Ec
  exact Ec
 obtain⟨⟨xs,hN⟩,aIE⟩:=ak5 (okWide_slice Tryz.underlying45 (aGT 0 45 v0 (by rw[Tryz.params4];rfl) (by rw[ha];rfl))) h0 SL
 have dz:=Tl (w.forCall tape i) hN (Post:=fun v W'=>Rows.lodgeStaysSpec.post enc Tryz.prog Tryz.f4 false true false false (w.forCall tape i) i.args v {W' with os:=(w.forCall tape i).os}∧OsLater (w.forCall tape i).os W'.os) (fun W' h1 h2 h3=>by
  obtain⟨pa,ht⟩:=aIE {W' with os:=(w.forCall tape i).os} h1
  refine⟨⟨[d0],[],p++[],[],pa,[],hW',trodAll_mk1 (shut_bool Tryz.underlying4 true),?_,rfl,kept (w:={W' with os:=(w.forCall tape i).os}) h1 rfl h3 _,fun h=>by cases h⟩,h2⟩
  rw[ha,hp3,List.append_nil]
  exact trodAll_mk1 ht)
 have e:(#[v0]:Array Value)=i.args:=ha.symm
 rw[show (⟨[v0]⟩:Array Value)=i.args from e] at dz
 obtain⟨N,last,o,w',t',r1,r2,r3,r4⟩:=dz
 exact⟨N,last,o,w',t',r1,r2,r3,r4.mono fun v hp=>postWith_blind (postWith_of_post hp.1 hp.2)⟩
end Go.Proofs.YtfhaegdkhpdedaaGreatDoor
