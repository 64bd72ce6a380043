/- This text proves the given statement 'Rows.DriveSilentSaid': whatever the input, the call returns true, and the input reads as it did; no condition. -/
import Derived.Test.YtdndkdliiojpiaaGreatDriveSilentA
import Derived.WalkKit
import Derived.ProofKit
import Derived.OpenShut
namespace Go.Proofs.YtdndkdliiojpiaaGreat.driveSilent
open Go.ChangeShapes Go.WideShapes Go.ChangeAt Go.RowKit
set_option linter.unusedVariables false
set_option linter.unusedSimpArgs false

theorem j1 : (Rows.driveSilentRow.inPlace == Tryz.prog.inPlace 7) = true := by kernel_rfl
theorem j2 : (Rows.driveSilentRow.unfollowed == Tryz.prog.unfollowed 7) = true := by kernel_rfl
theorem j3 : (Rows.driveSilentRow.recurses == Tryz.prog.recurses 7) = true := by kernel_rfl
theorem j4 : (Rows.driveSilentRow.named == Tryz.prog.varsNamed 7) = true := by kernel_rfl
theorem joined : joinedFacts Tryz.prog 7 Tryz.f7 Rows.driveSilentSpec Rows.driveSilentRow = true := by
  unfold joinedFacts
  rw [j1, j2, j3, j4]
  kernel_rfl
theorem named : Tryz.prog.funcNamed Rows.driveSilentRow.func = some 7 := by kernel_rfl
theorem inst : Tryz.f7.isInstance Tryz.prog Rows.driveSilentRow.origin Rows.driveSilentRow.targs := of_decide_eq_true (by kernel_rfl)
theorem wrapped : Tryz.f7.isWrapper Tryz.prog Rows.driveSilentRow.wrapper Rows.driveSilentRow.mainSum := by unfold Func.isWrapper; first | (rw [if_pos (by decide +kernel)]; kernel_rfl) | (rw [if_neg (by decide +kernel)]; exact ⟨rfl, rfl⟩)
theorem over : Rows.driveSilentRow.holds Tryz.pinned (OpenSpec.ofChange Rows.driveSilentSpec) :=
  OpenClaim.holds_of_wide 7 Tryz.f7 rfl rfl rfl rfl rfl rfl rfl ⟨rfl, rfl, rfl, rfl, rfl⟩ rfl rfl rfl rfl rfl named Tryz.func7 joined inst wrapped
    (fun os started H enc _ => lifted os started H enc)

/-- ████ THE STATEMENT ████ -/
theorem proved : Rows.DriveSilentSaid :=
  over
#print axioms proved
end Go.Proofs.YtdndkdliiojpiaaGreat.driveSilent
