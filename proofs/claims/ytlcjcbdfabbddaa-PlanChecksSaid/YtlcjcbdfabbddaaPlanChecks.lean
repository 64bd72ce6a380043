/- This text proves the given statement 'Rows.PlanChecksSaid': whatever the input, the call returns true, and the input reads as it did; no condition. -/
import Derived.Test.YtlcjcbdfabbddaaPlanCode
import Derived.Test.YtlcjcbdfabbddaaPlanChecksRun
import Derived.WalkKit
import Derived.ProofKit
import Derived.OpenShut
namespace Go.Proofs.Ytlcjcbdfabbddaa.planChecks
open Go.ChangeShapes Go.WideShapes Go.ChangeAt Go.RowKit Go.Eng Go.PlanRun
set_option linter.unusedVariables false

theorem own : ownKnob Try.prog.godebug = none := by kernel_rfl
theorem ints_rows : ∀ {rows : List (List Cl)}, (∀ r ∈ rows, ∃ n, r = [.int .i64 n] ∧ IntKind.i64.min ≤ n ∧ n ≤ IntKind.i64.max) → ∃ l, rows = rowsI l
  | [], _ => ⟨[], rfl⟩
  | r :: rows, h => by
    obtain ⟨n, rfl, _⟩ := h r (List.mem_cons_self ..)
    obtain ⟨l, rfl⟩ := ints_rows fun x hx => h x (List.mem_cons_of_mem _ hx)
    exact ⟨n :: l, rfl⟩
theorem runs : ∀ xs, HasArgs [.st [.int .i64, .int .i64, .int .i64, .int .i64, .int .i64], .st [.slice (.int .i64)], .st [.slice (.int .i64)], .int .i64] xs → ∃ M', R L Cs f_kerbstonelaw07_PlanChecks xs [] = some (.w (.c (.bool true)), M') := by
  intro xs h
  simp only [HasArgs, HasSh, HasShs] at h
  obtain ⟨_, _, rfl, ⟨_, _, rfl, ⟨l, rfl, _⟩, _, _, rfl, ⟨a, rfl, _⟩, _, _, rfl, ⟨b, rfl, _⟩, _, _, rfl, ⟨r, rfl, _⟩, _, _, rfl, ⟨d, rfl, _⟩, rfl⟩, _, _, rfl, ⟨_, _, rfl, ⟨rows, rfl, _, hrows⟩, rfl⟩, _, _, rfl, ⟨_, _, rfl, ⟨rows2, rfl, _, hrows2⟩, rfl⟩, _, _, rfl, ⟨i, rfl, _⟩, rfl⟩ := h
  obtain ⟨p, rfl⟩ := ints_rows hrows
  obtain ⟨q, rfl⟩ := ints_rows hrows2
  exact ⟨[], R_PlanChecks ⟨l, a, b, r, d⟩ p q i⟩

set_option maxRecDepth 100000 in
theorem lifted (os : Os) (started : os.Started) (H : Type) (enc : TypeId × Value → H) :
    ReturnsInHanded {} Try.checked os f_kerbstonelaw07_PlanChecks .any (Rows.planChecksSpec.pre6 enc Try.prog Try.f5 Rows.planChecksRow.domain false) (Rows.planChecksSpec.post enc Try.prog Try.f5 false true false false) := by
  refine returnsInHanded_of_change (C := Try.checked) own started (by kernel_rfl) Try.func5
    (ChangeSpec.witness6 (enc := enc) (C := Try.checked) false ⟨#[], #[.agg #[.int .i64 0, .int .i64 0, .int .i64 0, .int .i64 0, .int .i64 0], .agg #[.slice none 0 0], .agg #[.slice none 0 0], .int .i64 0], []⟩ 8 (by kernel_rfl) (by kernel_rfl) (by kernel_rfl) (by kernel_rfl)) ?_
  intro W base args ds gs before hval hW hcnd _
  exact row_step (P := Try.prog) Planmixed PlanL_eq PlanV_ok PlanC_ok (of_decide_eq_true (by kernel_rfl)) (d := 8) (tb := 4) (by kernel_rfl) rfl Try.underlying4 rfl
    (fun ds h => match ds, h with | [_, _, _, _], _ => rfl) Planlaid Planmaps (by kernel_rfl) Planfull runs hval hW

theorem over : Rows.planChecksRow.holds Try.pinned (OpenSpec.ofChange Rows.planChecksSpec) :=
  OpenClaim.holds_of_wide 5 Try.f5 rfl rfl rfl rfl rfl rfl rfl ⟨rfl, rfl, rfl, rfl, rfl⟩ rfl rfl rfl rfl rfl (by kernel_rfl) Try.func5 (by kernel_rfl)
    (of_decide_eq_true (by kernel_rfl)) (by unfold Func.isWrapper; first | (rw [if_pos (by decide +kernel)]; kernel_rfl) | (rw [if_neg (by decide +kernel)]; exact ⟨rfl, rfl⟩))
    (fun os started H enc _ => lifted os started H enc)

/-- ████ THE STATEMENT ████ -/
theorem proved : Rows.PlanChecksSaid :=
  over
#print axioms proved
end Go.Proofs.Ytlcjcbdfabbddaa.planChecks
