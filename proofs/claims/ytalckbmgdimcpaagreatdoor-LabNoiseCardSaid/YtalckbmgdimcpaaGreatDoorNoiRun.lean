/- This text proves what the law LabNoise of this seat computes, in the evaluator; no condition. -/
import Derived.Test.YtalckbmgdimcpaaGreatDoorNoiTab
set_option linter.unusedVariables false
set_option linter.unusedSimpArgs false
set_option maxRecDepth 100000
namespace Go.NoiRun
open Go Go.Eng
theorem F_lab_Noise : L.lookup f_lab_Noise = some c_lab_Noise := by kernel_rfl
theorem F_kerbstoneref10_Noise : L.lookup f_kerbstoneref10_Noise = some c_kerbstoneref10_Noise := by kernel_rfl
theorem R_noise2 (args : List WV) (M : Mem) : R L Cs f_kerbstoneref10_Noise args M = R L Cs f_lab_Noise args M := by
  rw [R_fn F_lab_Noise rfl, R_fn F_kerbstoneref10_Noise rfl]; rfl
theorem R_noise (a b c : Int) : ∃ z, R L Cs f_lab_Noise [W a, W b, W c] [] = some (.w (W z), []) := by
  rw [R_fn F_lab_Noise rfl]
  simp [c_lab_Noise]

theorem erun {e : Ent} (h : checkE tree Cs [] [] 3000 e = true) : Holds L Cs e := ent_run (t := tree) (hot := []) (es := []) (n := 3000) tree_eq L_nodup Cs_none .nil h
theorem R_awake : R L Cs f_kerbstonelaw10_awake [] [] = some (.w (Bo true), []) := erun (e := ⟨f_kerbstonelaw10_awake, [], [], .w (Bo true), []⟩) (by kernel_rfl)
theorem F_law : L.lookup f_kerbstonelaw10_LabNoise = some c_kerbstonelaw10_LabNoise := by kernel_rfl
theorem runs_noise : ∀ xs, HasArgs [.int .i64, .int .i64, .int .i64] xs → ∃ M', R L Cs f_kerbstonelaw10_LabNoise xs [] = some (.w (.c (.bool true)), M') := by
  intro xs h
  simp only [HasArgs] at h
  obtain ⟨c1, _, rfl, h1, c2, _, rfl, h2, c3, _, rfl, h3, rfl⟩ := h
  simp only [HasSh] at h1 h2 h3
  obtain ⟨a, rfl, _⟩ := h1
  obtain ⟨b, rfl, _⟩ := h2
  obtain ⟨c, rfl, _⟩ := h3
  obtain ⟨z, hz⟩ := R_noise a b c
  have hz2 := R_noise2 [W a, W b, W c] []
  rw [hz] at hz2
  have ha := R_awake
  refine ⟨[], ?_⟩
  rw [R_fn F_law rfl]
  simp [argOf, c_kerbstonelaw10_LabNoise, hz, hz2, ha]
end Go.NoiRun
