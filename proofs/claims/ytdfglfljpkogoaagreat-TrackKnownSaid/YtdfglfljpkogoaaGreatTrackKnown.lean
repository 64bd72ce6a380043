/- This text proves the given statement 'Rows.TrackKnownSaid': the call returns true; no condition. -/
import Derived.Test.YtdfglfljpkogoaaGreatTkCode
import Derived.WalkKit
import Derived.ProofKit
import Derived.OpenShut
namespace Go.Proofs.YtdfglfljpkogoaaGreat.trackKnown
open Go.ChangeShapes Go.WideShapes Go.ChangeAt Go.RowKit Go.Eng Go.TkRun
set_option linter.unusedVariables false
set_option linter.unusedSimpArgs false

theorem own : ownKnob Tryz.prog.godebug = none := by kernel_rfl
theorem eval : runE L Cs 400 f_kerbstonelaw05_TrackKnown [] [] = some (.w (.c (.bool true)), []) := by kernel_rfl
theorem runs : ∀ xs, HasArgs [] xs → ∃ M', R L Cs f_kerbstonelaw05_TrackKnown xs [] = some (.w (.c (.bool true)), M') := by
  intro xs h
  simp only [HasArgs, HasSh, HasShs] at h
  subst h
  exact ⟨[], R_iff.2 ⟨400, eval⟩⟩

set_option maxRecDepth 100000 in
theorem lifted (os : Os) (started : os.Started) (H : Type) (enc : TypeId × Value → H) :
    ReturnsInHanded {} Tryz.checked os f_kerbstonelaw05_TrackKnown .any (Rows.trackKnownSpec.pre6 enc Tryz.prog Tryz.f3 Rows.trackKnownRow.domain false) (Rows.trackKnownSpec.post enc Tryz.prog Tryz.f3 false true false false) := by
  refine returnsInHanded_of_change (C := Tryz.checked) own started (by kernel_rfl) Tryz.func3
    (ChangeSpec.witness6 (enc := enc) (C := Tryz.checked) false ⟨#[], #[], []⟩ 8 (by kernel_rfl) (by kernel_rfl) (by kernel_rfl) (by kernel_rfl)) ?_
  intro W base args ds gs before hval hW hcnd _
  exact row_step (P := Tryz.prog) Tkmixed TkL_eq TkV_ok TkC_ok (of_decide_eq_true (by kernel_rfl)) (d := 8) (tb := 4) (by kernel_rfl) rfl Tryz.underlying4 rfl
    (fun ds h => match ds, h with | [], _ => rfl) Tklaid Tkmaps (by kernel_rfl) Tkfull runs hval hW

theorem over : Rows.trackKnownRow.holds Tryz.pinned (OpenSpec.ofChange Rows.trackKnownSpec) :=
  OpenClaim.holds_of_wide 3 Tryz.f3 rfl rfl rfl rfl rfl rfl rfl ⟨rfl, rfl, rfl, rfl, rfl⟩ rfl rfl rfl rfl rfl (by kernel_rfl) Tryz.func3 (by kernel_rfl)
    (of_decide_eq_true (by kernel_rfl)) (by unfold Func.isWrapper; first | (rw [if_pos (by decide +kernel)]; kernel_rfl) | (rw [if_neg (by decide +kernel)]; exact ⟨rfl, rfl⟩))
    (fun os started H enc _ => lifted os started H enc)

/-- ████ THE STATEMENT ████ -/
theorem proved : Rows.TrackKnownSaid :=
  over
#print axioms proved
end Go.Proofs.YtdfglfljpkogoaaGreat.trackKnown
