/- This text proves the given statement 'Rows.DriveActuatesSaid': whatever the input, the call returns true, and the input reads as it did; no condition. -/
import Derived.Test.YtgjbaackhdgknaaGreatDrvCode
import Derived.Test.YtgjbaackhdgknaaGreatDrvAct
import Derived.WalkKit
import Derived.ProofKit
import Derived.OpenShut
namespace Go.Proofs.YtgjbaackhdgknaaGreat.driveActuates
open Go.ChangeShapes Go.WideShapes Go.ChangeAt Go.RowKit Go.Eng Go.DrvRun
set_option linter.unusedVariables false
set_option linter.unusedSimpArgs false

theorem own : ownKnob Tryz.prog.godebug = none := by kernel_rfl

set_option maxRecDepth 100000 in
theorem lifted (os : Os) (started : os.Started) (H : Type) (enc : TypeId × Value → H) :
    ReturnsInHanded {} Tryz.checked os f_kerbstonelaw08_DriveActuates .any (Rows.driveActuatesSpec.pre6 enc Tryz.prog Tryz.f3 Rows.driveActuatesRow.domain false) (Rows.driveActuatesSpec.post enc Tryz.prog Tryz.f3 false true false false) := by
  refine returnsInHanded_of_change (C := Tryz.checked) own started (by kernel_rfl) Tryz.func3
    (ChangeSpec.witness6 (enc := enc) (C := Tryz.checked) false ⟨#[], #[.agg #[.int .i64 0, .int .i64 0, .int .i64 0, .int .i64 0, .int .i64 0], .agg #[.slice none 0 0, .int .i64 0], .slice none 0 0, .int .i64 0, .int .i64 0], []⟩ 8 (by kernel_rfl) (by kernel_rfl) (by kernel_rfl) (by kernel_rfl)) ?_
  intro W base args ds gs before hval hW hcnd _
  exact row_step (P := Tryz.prog) Drvmixed DrvL_eq DrvV_ok DrvC_ok (of_decide_eq_true (by kernel_rfl)) (d := 8) (tb := 4) (by kernel_rfl) rfl Tryz.underlying4 rfl
    (fun ds h => match ds, h with | [_, _, _, _, _], _ => rfl) Drvlaid Drvmaps (by kernel_rfl) Drvfull runs_actuates hval hW

theorem over : Rows.driveActuatesRow.holds Tryz.pinned (OpenSpec.ofChange Rows.driveActuatesSpec) :=
  OpenClaim.holds_of_wide 3 Tryz.f3 rfl rfl rfl rfl rfl rfl rfl ⟨rfl, rfl, rfl, rfl, rfl⟩ rfl rfl rfl rfl rfl (by kernel_rfl) Tryz.func3 (by kernel_rfl)
    (of_decide_eq_true (by kernel_rfl)) (by unfold Func.isWrapper; first | (rw [if_pos (by decide +kernel)]; kernel_rfl) | (rw [if_neg (by decide +kernel)]; exact ⟨rfl, rfl⟩))
    (fun os started H enc _ => lifted os started H enc)

/-- ████ THE STATEMENT ████ -/
theorem proved : Rows.DriveActuatesSaid :=
  over
#print axioms proved
end Go.Proofs.YtgjbaackhdgknaaGreat.driveActuates
