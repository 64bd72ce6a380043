/- This text proves the given statement 'Rows.DriveKnownSaid': the call returns true; no condition. -/
import Derived.Test.YtgjbaackhdgknaaGreatDrvCode
import Derived.Test.YtgjbaackhdgknaaGreatDrvKn4
import Derived.WalkKit
import Derived.ProofKit
import Derived.OpenShut
namespace Go.Proofs.YtgjbaackhdgknaaGreat.driveKnown
open Go.ChangeShapes Go.WideShapes Go.ChangeAt Go.RowKit Go.Eng Go.DrvRun
set_option linter.unusedVariables false
set_option linter.unusedSimpArgs false

theorem own : ownKnob Tryz.prog.godebug = none := by kernel_rfl
theorem runs : ∀ xs, HasArgs [] xs → ∃ M', R L Cs f_kerbstonelaw08_DriveKnown xs [] = some (.w (.c (.bool true)), M') := by
  intro xs h
  simp only [HasArgs, HasSh, HasShs] at h
  subst h
  exact ⟨[], Hk385⟩

set_option maxRecDepth 100000 in
theorem lifted (os : Os) (started : os.Started) (H : Type) (enc : TypeId × Value → H) :
    ReturnsInHanded {} Tryz.checked os f_kerbstonelaw08_DriveKnown .any (Rows.driveKnownSpec.pre6 enc Tryz.prog Tryz.f4 Rows.driveKnownRow.domain false) (Rows.driveKnownSpec.post enc Tryz.prog Tryz.f4 false true false false) := by
  refine returnsInHanded_of_change (C := Tryz.checked) own started (by kernel_rfl) Tryz.func4
    (ChangeSpec.witness6 (enc := enc) (C := Tryz.checked) false ⟨#[], #[], []⟩ 8 (by kernel_rfl) (by kernel_rfl) (by kernel_rfl) (by kernel_rfl)) ?_
  intro W base args ds gs before hval hW hcnd _
  exact row_step (P := Tryz.prog) Drvmixed DrvL_eq DrvV_ok DrvC_ok (of_decide_eq_true (by kernel_rfl)) (d := 8) (tb := 4) (by kernel_rfl) rfl Tryz.underlying4 rfl
    (fun ds h => match ds, h with | [], _ => rfl) Drvlaid Drvmaps (by kernel_rfl) Drvfull runs hval hW

theorem over : Rows.driveKnownRow.holds Tryz.pinned (OpenSpec.ofChange Rows.driveKnownSpec) :=
  OpenClaim.holds_of_wide 4 Tryz.f4 rfl rfl rfl rfl rfl rfl rfl ⟨rfl, rfl, rfl, rfl, rfl⟩ rfl rfl rfl rfl rfl (by kernel_rfl) Tryz.func4 (by kernel_rfl)
    (of_decide_eq_true (by kernel_rfl)) (by unfold Func.isWrapper; first | (rw [if_pos (by decide +kernel)]; kernel_rfl) | (rw [if_neg (by decide +kernel)]; exact ⟨rfl, rfl⟩))
    (fun os started H enc _ => lifted os started H enc)

/-- ████ THE STATEMENT ████ -/
theorem proved : Rows.DriveKnownSaid :=
  over
#print axioms proved
end Go.Proofs.YtgjbaackhdgknaaGreat.driveKnown
