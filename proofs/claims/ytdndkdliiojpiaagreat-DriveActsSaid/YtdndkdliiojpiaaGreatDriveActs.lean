/- This text proves the given statement 'Rows.DriveActsSaid': whatever the input, the call returns true, and the input reads as it did; no condition. -/
import Derived.Test.YtdndkdliiojpiaaGreatDriveActsA
import Derived.WalkKit
import Derived.ProofKit
import Derived.OpenShut
namespace Go.Proofs.YtdndkdliiojpiaaGreat.driveActs
open Go.ChangeShapes Go.WideShapes Go.ChangeAt Go.RowKit
set_option linter.unusedVariables false
set_option linter.unusedSimpArgs false

theorem j1 : (Rows.driveActsRow.inPlace == Tryz.prog.inPlace 6) = true := by kernel_rfl
theorem j2 : (Rows.driveActsRow.unfollowed == Tryz.prog.unfollowed 6) = true := by kernel_rfl
theorem j3 : (Rows.driveActsRow.recurses == Tryz.prog.recurses 6) = true := by kernel_rfl
theorem j4 : (Rows.driveActsRow.named == Tryz.prog.varsNamed 6) = true := by kernel_rfl
theorem joined : joinedFacts Tryz.prog 6 Tryz.f6 Rows.driveActsSpec Rows.driveActsRow = true := by
  unfold joinedFacts
  rw [j1, j2, j3, j4]
  kernel_rfl
theorem named : Tryz.prog.funcNamed Rows.driveActsRow.func = some 6 := by kernel_rfl
theorem inst : Tryz.f6.isInstance Tryz.prog Rows.driveActsRow.origin Rows.driveActsRow.targs := of_decide_eq_true (by kernel_rfl)
theorem wrapped : Tryz.f6.isWrapper Tryz.prog Rows.driveActsRow.wrapper Rows.driveActsRow.mainSum := by unfold Func.isWrapper; first | (rw [if_pos (by decide +kernel)]; kernel_rfl) | (rw [if_neg (by decide +kernel)]; exact ⟨rfl, rfl⟩)
theorem over : Rows.driveActsRow.holds Tryz.pinned (OpenSpec.ofChange Rows.driveActsSpec) :=
  OpenClaim.holds_of_wide 6 Tryz.f6 rfl rfl rfl rfl rfl rfl rfl ⟨rfl, rfl, rfl, rfl, rfl⟩ rfl rfl rfl rfl rfl named Tryz.func6 joined inst wrapped
    (fun os started H enc _ => lifted os started H enc)

/-- ████ THE STATEMENT ████ -/
theorem proved : Rows.DriveActsSaid :=
  over
#print axioms proved
end Go.Proofs.YtdndkdliiojpiaaGreat.driveActs
