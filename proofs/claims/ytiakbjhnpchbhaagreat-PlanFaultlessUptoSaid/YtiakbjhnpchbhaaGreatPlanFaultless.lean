/- This text proves the given statement 'Rows.PlanFaultlessUptoSaid': whatever the input, the call returns true, and the input reads as it did; no condition. -/
import Derived.Test.YtiakbjhnpchbhaaGreatPlanFaultlessA
import Derived.WalkKit
import Derived.ProofKit
import Derived.OpenShut
namespace Go.Proofs.YtiakbjhnpchbhaaGreat.planFaultless
open Go.ChangeShapes Go.WideShapes Go.ChangeAt Go.RowKit
set_option linter.unusedVariables false
set_option linter.unusedSimpArgs false

theorem j1 : (Rows.planFaultlessUptoRow.inPlace == Tryz.prog.inPlace 3) = true := by kernel_rfl
theorem j2 : (Rows.planFaultlessUptoRow.unfollowed == Tryz.prog.unfollowed 3) = true := by kernel_rfl
theorem j3 : (Rows.planFaultlessUptoRow.recurses == Tryz.prog.recurses 3) = true := by kernel_rfl
theorem j4 : (Rows.planFaultlessUptoRow.named == Tryz.prog.varsNamed 3) = true := by kernel_rfl
theorem joined : joinedFacts Tryz.prog 3 Tryz.f3 (Rows.OpenSpec.upto Rows.planFaultlessSpec).bare Rows.planFaultlessUptoRow = true := by
  unfold joinedFacts
  rw [j1, j2, j3, j4]
  kernel_rfl
theorem named : Tryz.prog.funcNamed Rows.planFaultlessUptoRow.func = some 3 := by kernel_rfl
theorem inst : Tryz.f3.isInstance Tryz.prog Rows.planFaultlessUptoRow.origin Rows.planFaultlessUptoRow.targs := of_decide_eq_true (by kernel_rfl)
theorem wrapped : Tryz.f3.isWrapper Tryz.prog Rows.planFaultlessUptoRow.wrapper Rows.planFaultlessUptoRow.mainSum := by unfold Func.isWrapper; first | (rw [if_pos (by decide +kernel)]; kernel_rfl) | (rw [if_neg (by decide +kernel)]; exact ⟨rfl, rfl⟩)
theorem over : Rows.planFaultlessUptoRow.holds Tryz.pinned (Rows.OpenSpec.upto Rows.planFaultlessSpec) :=
  OpenClaim.holds_of_cond 3 Tryz.f3 rfl rfl rfl rfl rfl rfl rfl ⟨rfl, rfl, rfl, rfl, rfl⟩ rfl rfl rfl rfl rfl named Tryz.func3 joined inst wrapped
    (fun os started H enc _ F0 => lifted os started H enc F0)

/-- ████ THE STATEMENT ████ -/
theorem proved : Rows.PlanFaultlessUptoSaid :=
  over
#print axioms proved
end Go.Proofs.YtiakbjhnpchbhaaGreat.planFaultless
