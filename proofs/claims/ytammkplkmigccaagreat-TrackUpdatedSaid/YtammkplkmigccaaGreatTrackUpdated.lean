/- This text proves the given statement 'Rows.TrackUpdatedSaid': whatever the input, the call returns true, and the input reads as it did; no condition. -/
import Derived.Test.YtammkplkmigccaaGreatTrackUpdatedA
import Derived.WalkKit
import Derived.ProofKit
import Derived.OpenShut
namespace Go.Proofs.YtammkplkmigccaaGreat.trackUpdated
open Go.ChangeShapes Go.WideShapes Go.ChangeAt Go.RowKit
set_option linter.unusedVariables false
set_option linter.unusedSimpArgs false

theorem j1 : (Rows.trackUpdatedRow.inPlace == Tryz.prog.inPlace 5) = true := by kernel_rfl
theorem j2 : (Rows.trackUpdatedRow.unfollowed == Tryz.prog.unfollowed 5) = true := by kernel_rfl
theorem j3 : (Rows.trackUpdatedRow.recurses == Tryz.prog.recurses 5) = true := by kernel_rfl
theorem j4 : (Rows.trackUpdatedRow.named == Tryz.prog.varsNamed 5) = true := by kernel_rfl
theorem joined : joinedFacts Tryz.prog 5 Tryz.f5 Rows.trackUpdatedSpec Rows.trackUpdatedRow = true := by
  unfold joinedFacts
  rw [j1, j2, j3, j4]
  kernel_rfl
theorem named : Tryz.prog.funcNamed Rows.trackUpdatedRow.func = some 5 := by kernel_rfl
theorem inst : Tryz.f5.isInstance Tryz.prog Rows.trackUpdatedRow.origin Rows.trackUpdatedRow.targs := of_decide_eq_true (by kernel_rfl)
theorem wrapped : Tryz.f5.isWrapper Tryz.prog Rows.trackUpdatedRow.wrapper Rows.trackUpdatedRow.mainSum := by unfold Func.isWrapper; first | (rw [if_pos (by decide +kernel)]; kernel_rfl) | (rw [if_neg (by decide +kernel)]; exact ⟨rfl, rfl⟩)
theorem over : Rows.trackUpdatedRow.holds Tryz.pinned (OpenSpec.ofChange Rows.trackUpdatedSpec) :=
  OpenClaim.holds_of_wide 5 Tryz.f5 rfl rfl rfl rfl rfl rfl rfl ⟨rfl, rfl, rfl, rfl, rfl⟩ rfl rfl rfl rfl rfl named Tryz.func5 joined inst wrapped
    (fun os started H enc _ => lifted os started H enc)

/-- ████ THE STATEMENT ████ -/
theorem proved : Rows.TrackUpdatedSaid :=
  over
#print axioms proved
end Go.Proofs.YtammkplkmigccaaGreat.trackUpdated
