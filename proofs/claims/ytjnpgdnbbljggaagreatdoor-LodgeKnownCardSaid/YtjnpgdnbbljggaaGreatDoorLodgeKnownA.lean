/- The row of this proof: one good run from every start. -/
import Derived.Test.YtjnpgdnbbljggaaGreatDoorTie
import Derived.Test.YtjnpgdnbbljggaaGreatDoorCards
import Derived.Test.YtjnpgdnbbljggaaGreatDoorL12
import Derived.WalkKit
import Derived.ProofKit
import Derived.OpenShut
import Derived.LaidMore
import Derived.Lay
import Derived.Conc.LeavingOf
import Derived.Conc.HoldsTime
import Derived.SevenTiedAt
namespace Go.Proofs.YtjnpgdnbbljggaaGreatDoor
open Go Go.L Go.Conc Go.ConcM Go.ChangeShapes Go.WideShapes Go.ChangeAt Go.RowKit
set_option linter.all false
set_option maxRecDepth 100000
theorem own:ownKnob Tryz.prog.godebug=none:=by kernel_rfl
theorem kept{W w:World}(h1:∀(b:Nat) (o:Obj),W.heap[b]?=some o→w.heap[b]?=some o) (h2:w.os=W.os) (h3:w.output=W.output) (may:MemPlace→Prop):W.keptBut w may:=by
 refine⟨h2,h3,fun i hi=>?_⟩
 have e:w.heap[i]?=W.heap[i]?:=by
  rw[Array.getElem?_eq_getElem hi]
  exact h1 i _ (Array.getElem?_eq_getElem hi)
 rw[e]
 split<;>simp_all
theorem Sa{H:Type}{enc:TypeId×Value→H}{C:Checked}{os:Os}{f:FuncId}{fn:Func}{s:ChangeSpec}{conds:List PathCond}{apart:Bool}{X:World→Array Value→Prop}(w0:World)(args:Array Value)(fuel:Nat)(UN:w0.os=os)
 (hsh:(w0.forCall (fun _ _=>0) ⟨#[],args,[]⟩).Shaped C.prog)
 (bF:Input.okWideB C.prog (w0.forCall (fun _ _=>0) ⟨#[],args,[]⟩) f ⟨#[],args,[]⟩=true)
 (atn:s.preB enc C.prog fn conds apart (w0.forCall (fun _ _=>0) ⟨#[],args,[]⟩).memory args fuel=true)
 (nP:s.sizedB enc C.prog fn apart (w0.forCall (fun _ _=>0) ⟨#[],args,[]⟩).memory args fuel=true)
 (hx:X (w0.forCall (fun _ _=>0) ⟨#[],args,[]⟩).memory args):
 ∃(w:World) (tape:Tape) (i:Input),w.os=os∧(w.forCall tape i).Shaped C.prog∧i.vars=[]∧Input.okWide C.prog (w.forCall tape i) .any w.heap.size f i∧
  ((s.pre enc C.prog fn conds apart (w.forCall tape i).memory i.args∧X (w.forCall tape i).memory i.args)∧sizedMet enc C.prog fn (OpenSpec.ofChange s) apart (w.forCall tape i).memory i.args)∧({calm:=true}:Assume).holds C.prog (lone (Frame.enter C.prog f i.args .normal) [] (w.forCall tape i)):=
 ⟨w0,fun _ _=>0,⟨#[],args,[]⟩,UN,hsh,(Input.okWide_of_okWideB (base:=0) bF).1,(Input.okWide_of_okWideB bF).2,⟨⟨ChangeSpec.pre_of_preB atn,hx⟩,sizedMet_of_sizedB nP⟩,by
  simp only[Assume.holds]
  exact⟨by simp,fun _ _ _ _=>rfl,by simp,by simp,by simp⟩⟩
theorem lifted(os:Os)(started:os.Started)(H:Type)(enc:TypeId×Value→H)(F:Stop.Interp):
 ReturnsInLeavingWide Rows.lodgeKnownRow.assume Tryz.checked os 3 .any (fun w args=>(Rows.lodgeKnownSpec.pre enc Tryz.prog Tryz.f3 [] false w args∧laidMetH Tryz.prog Rows.lodgeKnownRow.laid w)∧sizedMet enc Tryz.prog Tryz.f3 (OpenSpec.ofChange Rows.lodgeKnownSpec) false w args)
  ((OpenSpec.ofChange Rows.lodgeKnownSpec).postWith enc Tryz.prog Tryz.f3 F (outsideKept [.timePasses]) false true false):=by
 refine returnsInLeavingWide_of_good (C:=Tryz.checked) own started
  (Sa (enc:=enc) (C:=Tryz.checked) (os:=os) (X:=fun w _=>laidMetH Tryz.prog Rows.lodgeKnownRow.laid w) (World.laidAll Tryz.prog os Rows.lodgeKnownRow.laid) #[] 8 (World.laidAll_os _ _ _)
   (World.shaped_of_ZipB (by kernel_rfl) (by kernel_rfl)) (by kernel_rfl) (by kernel_rfl) (by kernel_rfl)
   (by rw[MakeChecks.laidMetH_plain _ _ _ (by kernel_rfl)];exact laidMet_laidAll _ (by kernel_rfl) (by kernel_rfl))) ?_
 intro w tape i _ _ _ bF atn aOL
 obtain⟨⟨⟨ds,gs,before,hw,hc⟩,hL⟩,hz⟩:=atn
 have hW:DataW.Whole enc Tryz.prog Tryz.f3.params.toList Rows.lodgeKnownSpec.vars false (w.forCall tape i) i.args.toList ds gs before:=DataW.Whole.of_heap (w':=w.forCall tape i) (by rfl) hw
 have hW':=hW
 obtain⟨p,q,hA0,hV,rfl,_,_⟩:=hW
 have hA:DataW.TrodAll enc Tryz.prog (w.forCall tape i) 0 (fun _=>true) true Tryz.f3.params.toList i.args.toList ds p:=hA0
 have hp3:Tryz.f3.params.toList=[]:=by kernel_rfl
 rw[hp3] at hA
 obtain⟨ha,rfl,rfl⟩:=trodAll_nil hA
 obtain⟨rfl,rfl⟩:=trodVars_none hV
 have kO:i.args= #[]:=by
  rcases h:i.args with ⟨l⟩
  rw[h] at ha
  simp only at ha
  rw[ha]
 simp only[List.append_nil] at hW'
 have bx:=KD (w.forCall tape i) (Post:=fun v W'=>Rows.lodgeKnownSpec.post enc Tryz.prog Tryz.f3 false true false false (w.forCall tape i) i.args v {W' with os:=(w.forCall tape i).os}∧OsLater (w.forCall tape i).os W'.os) (fun W' h1 h2 h3=>by
  rw[kO]
  rw[kO] at hW'
  exact⟨⟨_,_,_,[],[],[],hW',trodAll_mk1 (shut_bool Tryz.underlying4 true),trodAll_mk0,rfl,kept (w:={W' with os:=(w.forCall tape i).os}) h1 rfl h3 _,fun h=>by cases h⟩,h2⟩)
 rw[show (⟨[]⟩:Array Value)=i.args from kO.symm] at bx
 obtain⟨N,last,o,w',t',r1,r2,r3,r4⟩:=bx
 exact⟨N,last,o,w',t',r1,r2,r3,r4.mono fun v hp=>postWith_blind (postWith_of_post hp.1 hp.2)⟩
end Go.Proofs.YtjnpgdnbbljggaaGreatDoor
