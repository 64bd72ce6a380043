/- This text proves the given statement 'Rows.TrackMonotoneSaid': whatever the input, the call returns true, and the input reads as it did; no condition. -/
import Derived.Test.YtammkplkmigccaaGreatTrackMonotoneA
import Derived.WalkKit
import Derived.ProofKit
import Derived.OpenShut
namespace Go.Proofs.YtammkplkmigccaaGreat.trackMonotone
open Go.ChangeShapes Go.WideShapes Go.ChangeAt Go.RowKit
set_option linter.unusedVariables false
set_option linter.unusedSimpArgs false

theorem j1 : (Rows.trackMonotoneRow.inPlace == Tryz.prog.inPlace 9) = true := by kernel_rfl
theorem j2 : (Rows.trackMonotoneRow.unfollowed == Tryz.prog.unfollowed 9) = true := by kernel_rfl
theorem j3 : (Rows.trackMonotoneRow.recurses == Tryz.prog.recurses 9) = true := by kernel_rfl
theorem j4 : (Rows.trackMonotoneRow.named == Tryz.prog.varsNamed 9) = true := by kernel_rfl
theorem joined : joinedFacts Tryz.prog 9 Tryz.f9 Rows.trackMonotoneSpec Rows.trackMonotoneRow = true := by
  unfold joinedFacts
  rw [j1, j2, j3, j4]
  kernel_rfl
theorem named : Tryz.prog.funcNamed Rows.trackMonotoneRow.func = some 9 := by kernel_rfl
theorem inst : Tryz.f9.isInstance Tryz.prog Rows.trackMonotoneRow.origin Rows.trackMonotoneRow.targs := of_decide_eq_true (by kernel_rfl)
theorem wrapped : Tryz.f9.isWrapper Tryz.prog Rows.trackMonotoneRow.wrapper Rows.trackMonotoneRow.mainSum := by unfold Func.isWrapper; first | (rw [if_pos (by decide +kernel)]; kernel_rfl) | (rw [if_neg (by decide +kernel)]; exact ⟨rfl, rfl⟩)
theorem over : Rows.trackMonotoneRow.holds Tryz.pinned (OpenSpec.ofChange Rows.trackMonotoneSpec) :=
  OpenClaim.holds_of_wide 9 Tryz.f9 rfl rfl rfl rfl rfl rfl rfl ⟨rfl, rfl, rfl, rfl, rfl⟩ rfl rfl rfl rfl rfl named Tryz.func9 joined inst wrapped
    (fun os started H enc _ => lifted os started H enc)

/-- ████ THE STATEMENT ████ -/
theorem proved : Rows.TrackMonotoneSaid :=
  over
#print axioms proved
end Go.Proofs.YtammkplkmigccaaGreat.trackMonotone
