/- The seat's own each has the shape that the library asks; its walks through the library of Go, by the kernel. -/
import Derived.Test.YtecmokfckbfdjaaGreatDoorL5
import Derived.KernelRfl
import Derived.Test.YtecmokfckbfdjaaGreatDoorProg
set_option linter.all false
namespace Go.L
open Go Go.Conc Go.Proofs
open Go.ConcR (KK wgBlock WgAt stA smA rd wr)
def atsOf (o : Oper) : Array TypeId := match o.op with
  | .call c => c.argTypes
  | .go c => c.argTypes
  | _ => #[]
noncomputable def kE : EachP := eachIn Tryz.prog 61 2
set_option linter.all false
set_option maxRecDepth 100000
theorem kE_wk : kE.wk.OK Tryz.prog where
  fn := ⟨(Tryz.prog.funcs[91]?).getD default, (((Tryz.prog.funcs[91]?).getD default).body).getD .skip, 7, by kernel_rfl, by kernel_rfl, by kernel_rfl, by kernel_rfl, by kernel_rfl⟩
  ff := by kernel_rfl
  size := by kernel_rfl
  op := ⟨by kernel_rfl, by kernel_rfl⟩
  send := fun ρ => by kernel_rfl
  doneF := by kernel_rfl
theorem kE_cl : kE.cl.OK Tryz.prog 183 where
  ff := by kernel_rfl
  fn := ⟨(Tryz.prog.funcs[93]?).getD default, by kernel_rfl, by kernel_rfl, by kernel_rfl⟩
  bf := ⟨by kernel_rfl, by kernel_rfl, by kernel_rfl⟩
  enter := fun p1 p2 => by kernel_rfl
  op0 := by kernel_rfl
  rest := ⟨1, by kernel_rfl⟩
  size := by kernel_rfl
  op := ⟨by kernel_rfl, by kernel_rfl, atsOf kE.cl.oc, by kernel_rfl⟩
theorem kE_add : ∀ v, v < kE.mx → ∀ W, ∃ k, chkAdd Tryz.prog kE.ty v (Frame.enter Tryz.prog kE.add #[.pointer (some ⟨W, 0, none⟩), .int .i64 1] .normal) = some (List.replicate k W) := by
  intro v hv W
  have hv : v < 2 := hv
  match v, hv with
  | 0, _ => exact ⟨7, by kernel_rfl⟩
  | 1, _ => exact ⟨4, by kernel_rfl⟩
theorem kE_done : ∀ W, ∃ k, chkDone Tryz.prog kE.ty kE.mx (Frame.enter Tryz.prog kE.wk.done #[.pointer (some ⟨W, 0, none⟩)] .deferred) = some (List.replicate k W) := fun W => ⟨27, by kernel_rfl⟩
theorem kE_wait : ∀ W, ∃ k, chkWait Tryz.prog kE.ty kE.mx (Frame.enter Tryz.prog kE.cl.wait #[.pointer (some ⟨W, 0, none⟩)] .normal) = some (List.replicate k W) := fun W => ⟨164, by kernel_rfl⟩
theorem kE_ok : kE.OK Tryz.prog where
  ff := by kernel_rfl
  func := ⟨by kernel_rfl, by kernel_rfl⟩
  code := ⟨(((Tryz.prog.funcs[61]?).getD default).body).getD .skip, 0, 1, 2, 3, 9, 10, 11, by kernel_rfl, by kernel_rfl⟩
  lb := ⟨4, 8, by kernel_rfl⟩
  lbody := ⟨5, 6, 7, by kernel_rfl⟩
  rb := ⟨12, by kernel_rfl⟩
  rbody := ⟨13, 14, by kernel_rfl⟩
  op1 := ⟨by kernel_rfl, by kernel_rfl, by kernel_rfl⟩
  new1 := fun e b => by kernel_rfl
  op2 := ⟨by kernel_rfl, by kernel_rfl, by kernel_rfl⟩
  new2 := fun e b => by kernel_rfl
  op6 := ⟨by kernel_rfl, by kernel_rfl, by kernel_rfl, atsOf kE.a6, by kernel_rfl⟩
  op7 := ⟨by kernel_rfl, by kernel_rfl, by kernel_rfl, atsOf kE.a7, by kernel_rfl⟩
  op9 := ⟨by kernel_rfl, by kernel_rfl, by kernel_rfl, atsOf kE.a9, by kernel_rfl⟩
  op12 := ⟨by kernel_rfl, by kernel_rfl, by kernel_rfl⟩
  recv := fun ρ => by kernel_rfl
  ffadd := by kernel_rfl
  add := kE_add
  done := kE_done
  wait := kE_wait
  wk := kE_wk
  cl := kE_cl
end Go.L
namespace Go.L.Q
open Go Go.Conc Go.L Go.Proofs
set_option maxRecDepth 100000
noncomputable abbrev prog : Program := Tryz.prog
theorem mixed : prog.follows .mixedOrders = true := by kernel_rfl
theorem each_ok : kE.OK prog := kE_ok
def fs : List FuncId := [41, 176, 175, 31, 65, 99, 66, 100, 312, 101, 165, 61, 109, 102, 137, 4, 5, 11, 13, 21, 30, 24, 26, 6, 9, 12, 15, 16, 17, 18, 19, 20, 22, 23, 25, 56, 55, 60, 95, 160, 161]
end Go.L.Q
