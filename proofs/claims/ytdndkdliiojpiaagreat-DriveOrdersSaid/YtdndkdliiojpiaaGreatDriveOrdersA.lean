/- This text proves, for the given statement 'Rows.DriveOrdersSaid', that a call of the law returns true and changes nothing; no condition. -/
import Derived.Test.YtdndkdliiojpiaaGreatOCode
import Derived.Test.YtdndkdliiojpiaaGreatOTx5
import Derived.Test.YtdndkdliiojpiaaGreatOSortK
import Derived.WalkKit
import Derived.ProofKit
import Derived.OpenShut
namespace Go.Proofs.YtdndkdliiojpiaaGreat.driveOrders
open Go.ChangeShapes Go.WideShapes Go.ChangeAt Go.RowKit Go.Eng Go.TrRun
set_option linter.unusedVariables false
set_option linter.unusedSimpArgs false

theorem own : ownKnob Tryz.prog.godebug = none := by kernel_rfl
theorem noGlob {W : World} : GK (zcC W) := fun g row hr => by cases hr

set_option maxRecDepth 100000 in
theorem lifted (os : Os) (started : os.Started) (H : Type) (enc : TypeId × Value → H) :
    ReturnsInHanded {} Tryz.checked os Zs9 .any (Rows.driveOrdersSpec.pre6 enc Tryz.prog Tryz.f4 Rows.driveOrdersRow.domain false) (Rows.driveOrdersSpec.post enc Tryz.prog Tryz.f4 false true false false) := by
  refine returnsInHanded_of_change (C := Tryz.checked) own started (by kernel_rfl) Tryz.func4
    (ChangeSpec.witness6 (enc := enc) (C := Tryz.checked) false ⟨#[], #[.agg #[.int .i64 0, .int .i64 0, .int .i64 0, .int .i64 0, .int .i64 0, .int .i64 0, .int .i64 0, .int .i64 0, .int .i64 0, .int .i64 0, .int .i64 0, .bool false], .slice none 0 0, .slice none 0 0], []⟩ 8 (by kernel_rfl) (by kernel_rfl) (by kernel_rfl) (by kernel_rfl)) ?_
  intro W base args ds gs before hval hW hcnd _
  exact zzA (P := Tryz.prog) Trmixed TrL_eq TrV_ok TrC_ok TrS_ok (of_decide_eq_true (by kernel_rfl)) (d := 8) (tb := 4) (by kernel_rfl) rfl Tryz.underlying4 rfl
    (fun ds h => match ds, h with | [_, _, _], _ => rfl) Trlaid Trmaps (by kernel_rfl) Trfull ZtD noGlob hval hW

end Go.Proofs.YtdndkdliiojpiaaGreat.driveOrders
