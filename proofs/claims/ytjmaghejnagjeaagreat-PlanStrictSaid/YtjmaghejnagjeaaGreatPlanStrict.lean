/- This text proves the given statement 'Rows.PlanStrictSaid': whatever the input, the call returns true, and the input reads as it did; no condition. -/
import Derived.Test.YtjmaghejnagjeaaGreatPlanStrictA
import Derived.WalkKit
import Derived.ProofKit
import Derived.OpenShut
namespace Go.Proofs.YtjmaghejnagjeaaGreat.planStrict
open Go.ChangeShapes Go.WideShapes Go.ChangeAt Go.RowKit
set_option linter.unusedVariables false
set_option linter.unusedSimpArgs false

theorem j1 : (Rows.planStrictRow.inPlace == Tryz.prog.inPlace 8) = true := by kernel_rfl
theorem j2 : (Rows.planStrictRow.unfollowed == Tryz.prog.unfollowed 8) = true := by kernel_rfl
theorem j3 : (Rows.planStrictRow.recurses == Tryz.prog.recurses 8) = true := by kernel_rfl
theorem j4 : (Rows.planStrictRow.named == Tryz.prog.varsNamed 8) = true := by kernel_rfl
theorem joined : joinedFacts Tryz.prog 8 Tryz.f8 Rows.planStrictSpec Rows.planStrictRow = true := by
  unfold joinedFacts
  rw [j1, j2, j3, j4]
  kernel_rfl
theorem named : Tryz.prog.funcNamed Rows.planStrictRow.func = some 8 := by kernel_rfl
theorem inst : Tryz.f8.isInstance Tryz.prog Rows.planStrictRow.origin Rows.planStrictRow.targs := of_decide_eq_true (by kernel_rfl)
theorem wrapped : Tryz.f8.isWrapper Tryz.prog Rows.planStrictRow.wrapper Rows.planStrictRow.mainSum := by unfold Func.isWrapper; first | (rw [if_pos (by decide +kernel)]; kernel_rfl) | (rw [if_neg (by decide +kernel)]; exact ⟨rfl, rfl⟩)
theorem over : Rows.planStrictRow.holds Tryz.pinned (OpenSpec.ofChange Rows.planStrictSpec) :=
  OpenClaim.holds_of_wide 8 Tryz.f8 rfl rfl rfl rfl rfl rfl rfl ⟨rfl, rfl, rfl, rfl, rfl⟩ rfl rfl rfl rfl rfl named Tryz.func8 joined inst wrapped
    (fun os started H enc _ => lifted os started H enc)

/-- ████ THE STATEMENT ████ -/
theorem proved : Rows.PlanStrictSaid :=
  over
#print axioms proved
end Go.Proofs.YtjmaghejnagjeaaGreat.planStrict
