/- This text proves the given statement 'Rows.DriveNilSaid': whatever the input, the call returns true, and the input reads as it did; no condition. -/
import Derived.Test.YtgjbaackhdgknaaGreatNilCode
import Derived.Test.YtgjbaackhdgknaaGreatNilRun
import Derived.WalkKit
import Derived.ProofKit
import Derived.OpenShut
namespace Go.Proofs.YtgjbaackhdgknaaGreat.driveNil
open Go.ChangeShapes Go.WideShapes Go.ChangeAt Go.RowKit Go.Eng Go.NilRun
set_option linter.unusedVariables false
set_option linter.unusedSimpArgs false

theorem own : ownKnob Tryz.prog.godebug = none := by kernel_rfl

set_option maxRecDepth 100000 in
theorem lifted (os : Os) (started : os.Started) (H : Type) (enc : TypeId × Value → H) :
    ReturnsInHanded {} Tryz.checked os f_kerbstonelaw08_DriveNil .any (Rows.driveNilSpec.pre6 enc Tryz.prog Tryz.f5 Rows.driveNilRow.domain false) (Rows.driveNilSpec.post enc Tryz.prog Tryz.f5 false true false false) := by
  refine returnsInHanded_of_change (C := Tryz.checked) own started (by kernel_rfl) Tryz.func5
    (ChangeSpec.witness6 (enc := enc) (C := Tryz.checked) false ⟨#[], #[.int .i64 0], []⟩ 8 (by kernel_rfl) (by kernel_rfl) (by kernel_rfl) (by kernel_rfl)) ?_
  intro W base args ds gs before hval hW hcnd _
  exact row_step (P := Tryz.prog) Nilmixed NilL_eq NilV_ok NilC_ok (of_decide_eq_true (by kernel_rfl)) (d := 8) (tb := 4) (by kernel_rfl) rfl Tryz.underlying4 rfl
    (fun ds h => match ds, h with | [_], _ => rfl) Nillaid Nilmaps (by kernel_rfl) Nilfull runs_nil hval hW

theorem over : Rows.driveNilRow.holds Tryz.pinned (OpenSpec.ofChange Rows.driveNilSpec) :=
  OpenClaim.holds_of_wide 5 Tryz.f5 rfl rfl rfl rfl rfl rfl rfl ⟨rfl, rfl, rfl, rfl, rfl⟩ rfl rfl rfl rfl rfl (by kernel_rfl) Tryz.func5 (by kernel_rfl)
    (of_decide_eq_true (by kernel_rfl)) (by unfold Func.isWrapper; first | (rw [if_pos (by decide +kernel)]; kernel_rfl) | (rw [if_neg (by decide +kernel)]; exact ⟨rfl, rfl⟩))
    (fun os started H enc _ => lifted os started H enc)

/-- ████ THE STATEMENT ████ -/
theorem proved : Rows.DriveNilSaid :=
  over
#print axioms proved
end Go.Proofs.YtgjbaackhdgknaaGreat.driveNil
