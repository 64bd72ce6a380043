/- This text proves the given statement 'Rows.PlanTailsSaid': whatever the input, the call returns true, and the input reads as it did; no condition. -/
import Derived.Test.YtjmaghejnagjeaaGreatPlanTailsA
import Derived.WalkKit
import Derived.ProofKit
import Derived.OpenShut
namespace Go.Proofs.YtjmaghejnagjeaaGreat.planTails
open Go.ChangeShapes Go.WideShapes Go.ChangeAt Go.RowKit
set_option linter.unusedVariables false
set_option linter.unusedSimpArgs false

theorem j1 : (Rows.planTailsRow.inPlace == Tryz.prog.inPlace 9) = true := by kernel_rfl
theorem j2 : (Rows.planTailsRow.unfollowed == Tryz.prog.unfollowed 9) = true := by kernel_rfl
theorem j3 : (Rows.planTailsRow.recurses == Tryz.prog.recurses 9) = true := by kernel_rfl
theorem j4 : (Rows.planTailsRow.named == Tryz.prog.varsNamed 9) = true := by kernel_rfl
theorem joined : joinedFacts Tryz.prog 9 Tryz.f9 Rows.planTailsSpec Rows.planTailsRow = true := by
  unfold joinedFacts
  rw [j1, j2, j3, j4]
  kernel_rfl
theorem named : Tryz.prog.funcNamed Rows.planTailsRow.func = some 9 := by kernel_rfl
theorem inst : Tryz.f9.isInstance Tryz.prog Rows.planTailsRow.origin Rows.planTailsRow.targs := of_decide_eq_true (by kernel_rfl)
theorem wrapped : Tryz.f9.isWrapper Tryz.prog Rows.planTailsRow.wrapper Rows.planTailsRow.mainSum := by unfold Func.isWrapper; first | (rw [if_pos (by decide +kernel)]; kernel_rfl) | (rw [if_neg (by decide +kernel)]; exact ⟨rfl, rfl⟩)
theorem over : Rows.planTailsRow.holds Tryz.pinned (OpenSpec.ofChange Rows.planTailsSpec) :=
  OpenClaim.holds_of_wide 9 Tryz.f9 rfl rfl rfl rfl rfl rfl rfl ⟨rfl, rfl, rfl, rfl, rfl⟩ rfl rfl rfl rfl rfl named Tryz.func9 joined inst wrapped
    (fun os started H enc _ => lifted os started H enc)

/-- ████ THE STATEMENT ████ -/
theorem proved : Rows.PlanTailsSaid :=
  over
#print axioms proved
end Go.Proofs.YtjmaghejnagjeaaGreat.planTails
