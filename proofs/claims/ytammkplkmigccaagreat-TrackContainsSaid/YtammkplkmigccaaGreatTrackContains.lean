/- This text proves the given statement 'Rows.TrackContainsSaid': whatever the input, the call returns true, and the input reads as it did; no condition. -/
import Derived.Test.YtammkplkmigccaaGreatTrackContainsA
import Derived.WalkKit
import Derived.ProofKit
import Derived.OpenShut
namespace Go.Proofs.YtammkplkmigccaaGreat.trackContains
open Go.ChangeShapes Go.WideShapes Go.ChangeAt Go.RowKit
set_option linter.unusedVariables false
set_option linter.unusedSimpArgs false

theorem j1 : (Rows.trackContainsRow.inPlace == Tryz.prog.inPlace 8) = true := by kernel_rfl
theorem j2 : (Rows.trackContainsRow.unfollowed == Tryz.prog.unfollowed 8) = true := by kernel_rfl
theorem j3 : (Rows.trackContainsRow.recurses == Tryz.prog.recurses 8) = true := by kernel_rfl
theorem j4 : (Rows.trackContainsRow.named == Tryz.prog.varsNamed 8) = true := by kernel_rfl
theorem joined : joinedFacts Tryz.prog 8 Tryz.f8 Rows.trackContainsSpec Rows.trackContainsRow = true := by
  unfold joinedFacts
  rw [j1, j2, j3, j4]
  kernel_rfl
theorem named : Tryz.prog.funcNamed Rows.trackContainsRow.func = some 8 := by kernel_rfl
theorem inst : Tryz.f8.isInstance Tryz.prog Rows.trackContainsRow.origin Rows.trackContainsRow.targs := of_decide_eq_true (by kernel_rfl)
theorem wrapped : Tryz.f8.isWrapper Tryz.prog Rows.trackContainsRow.wrapper Rows.trackContainsRow.mainSum := by unfold Func.isWrapper; first | (rw [if_pos (by decide +kernel)]; kernel_rfl) | (rw [if_neg (by decide +kernel)]; exact ⟨rfl, rfl⟩)
theorem over : Rows.trackContainsRow.holds Tryz.pinned (OpenSpec.ofChange Rows.trackContainsSpec) :=
  OpenClaim.holds_of_wide 8 Tryz.f8 rfl rfl rfl rfl rfl rfl rfl ⟨rfl, rfl, rfl, rfl, rfl⟩ rfl rfl rfl rfl rfl named Tryz.func8 joined inst wrapped
    (fun os started H enc _ => lifted os started H enc)

/-- ████ THE STATEMENT ████ -/
theorem proved : Rows.TrackContainsSaid :=
  over
#print axioms proved
end Go.Proofs.YtammkplkmigccaaGreat.trackContains
