/- DriveNil returns true. -/
import Derived.Test.YtgjbaackhdgknaaGreatNilAw1

set_option linter.unusedVariables false
set_option linter.unusedSimpArgs false
set_option maxRecDepth 100000
namespace Go.NilRun
open Go Go.Eng
theorem nil_run (tick : Int) : Holds L Cs ⟨f_kerbstonelaw08_DriveNil, [W tick], [], .w (Bo true), []⟩ := ent_run (t := tree) (hot := [f_kerbstonelaw08_awake]) (es := [e72]) (n := 3000) tree_eq L_nodup Cs_none (.cons He72 .nil) (by kernel_rfl)
theorem runs_nil : ∀ xs, HasArgs [.int .i64] xs → ∃ M', R L Cs f_kerbstonelaw08_DriveNil xs [] = some (.w (.c (.bool true)), M') := by
  intro xs h
  simp only [HasArgs] at h
  obtain ⟨c1, _, rfl, h1, rfl⟩ := h
  simp only [HasSh] at h1
  obtain ⟨n, rfl, _⟩ := h1
  exact ⟨[], nil_run n⟩
end Go.NilRun
