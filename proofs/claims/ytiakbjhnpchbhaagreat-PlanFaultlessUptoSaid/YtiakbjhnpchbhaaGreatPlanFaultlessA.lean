/- This text proves, for the given statement 'Rows.PlanFaultlessUptoSaid', that a call of the law returns true and changes nothing; no condition. -/
import Derived.Test.YtiakbjhnpchbhaaGreatCode
import Derived.Test.YtiakbjhnpchbhaaGreatTx5
import Derived.Test.YtiakbjhnpchbhaaGreatSortS
import Derived.WalkKit
import Derived.ProofKit
import Derived.OpenShut
namespace Go.Proofs.YtiakbjhnpchbhaaGreat.planFaultless
open Go.ChangeShapes Go.WideShapes Go.ChangeAt Go.RowKit Go.Eng Go.TrRun
set_option linter.unusedVariables false
set_option linter.unusedSimpArgs false

theorem own : ownKnob Tryz.prog.godebug = none := by kernel_rfl
theorem noGlob {W : World} : GK (zcC W) := fun g row hr => by cases hr

theorem bulk {H : Type} : Bk (H := H) Rows.uptoBulk Rows.uptoBulkAll where
  sl e s := by simp only [Rows.uptoBulk]; omega
  ag p := by simp only [Rows.uptoBulk]; omega
  st b := by simp only [Rows.uptoBulk]; omega
  cons d r := by simp only [Rows.uptoBulkAll]
  pos d := by
    cases d with
    | lit x => cases x <;> simp [Rows.uptoBulk]
    | _ => simp [Rows.uptoBulk]

set_option maxRecDepth 100000 in
theorem lifted (os : Os) (started : os.Started) (H : Type) (enc : TypeId × Value → H) (F0 : Stop.Interp) :
    ReturnsInHanded {} Tryz.checked os ZfO .any ((Rows.OpenSpec.upto Rows.planFaultlessSpec).pre6 enc Tryz.prog Tryz.f3 Rows.planFaultlessUptoRow.domain false) (((Rows.OpenSpec.upto Rows.planFaultlessSpec).at F0).post enc Tryz.prog Tryz.f3 false true false false) := by
  refine returnsInHanded_of_cond (C := Tryz.checked) (s := Rows.OpenSpec.upto Rows.planFaultlessSpec) (k := Rows.uptoSmall) rfl own started (by kernel_rfl) Tryz.func3
    (OpenSpec.witness (enc := enc) (C := Tryz.checked) (s := Rows.OpenSpec.upto Rows.planFaultlessSpec) (k := Rows.uptoSmall) rfl false ⟨#[], #[.int .i64 0, .agg #[.int .i64 0, .int .i64 0, .int .i64 0, .int .i64 0], .slice none 0 0, .slice none 0 0, .int .i64 0, .int .i64 0, .int .i64 0, .slice none 0 0, .bool false], []⟩ 8 (by kernel_rfl) (by kernel_rfl) (by kernel_rfl)
      (x := ([.lit (.int .i64 0), .agg [.lit (.int .i64 0), .lit (.int .i64 0), .lit (.int .i64 0), .lit (.int .i64 0)], .nil, .nil, .lit (.int .i64 0), .lit (.int .i64 0), .lit (.int .i64 0), .nil, .lit (.bool false)], [], [])) (by kernel_rfl) (by kernel_rfl) (by kernel_rfl)) ?_
  intro W base args ds gs before hval hW _ hk _
  have hb : Rows.uptoBulkAll (ds ++ gs) ≤ 1048576 := of_decide_eq_true hk
  exact ZgG (P := Tryz.prog) (s := (Rows.OpenSpec.upto Rows.planFaultlessSpec).at F0) (N := 1048576) (by decide) bulk Trmixed TrL_eq TrV_ok TrC_ok TrS_ok (of_decide_eq_true (by kernel_rfl)) (d := 8) (tb := 4) (by kernel_rfl) rfl Tryz.underlying4 rfl
    (fun ds h => match ds, h with | [_, _, _, _, _, _, _, _, _], _ => rfl) Trlaid Trmaps (by kernel_rfl) Trfull Zga hb noGlob hval hW

end Go.Proofs.YtiakbjhnpchbhaaGreat.planFaultless
