/- LabFails returns true. -/
import Derived.Test.YtalckbmgdimcpaaGreatDoorLbSame
set_option linter.unusedVariables false
set_option linter.unusedSimpArgs false
set_option maxRecDepth 10000
namespace Go.LbRun
open Go Go.Eng
abbrev sI : Sh := .int .i64
abbrev frS : Sh := .st [sI, sI, sI, sI, sI, sI, sI, sI, sI, sI, sI]
abbrev tripS (c : Sh) : Sh := .st [.slice frS, .slice c, .str, .str]
theorem fr_sh {r : List Cl} (h : HasSh frS r) : ∃ f : Fr, r = f.C := by
  simp only [HasSh, HasShs] at h
  obtain ⟨_, _, rfl, ⟨a1, rfl, _⟩, _, _, rfl, ⟨a2, rfl, _⟩, _, _, rfl, ⟨a3, rfl, _⟩, _, _, rfl, ⟨a4, rfl, _⟩, _, _, rfl, ⟨a5, rfl, _⟩, _, _, rfl, ⟨a6, rfl, _⟩, _, _, rfl, ⟨a7, rfl, _⟩, _, _, rfl, ⟨a8, rfl, _⟩, _, _, rfl, ⟨a9, rfl, _⟩, _, _, rfl, ⟨a10, rfl, _⟩, _, _, rfl, ⟨a11, rfl, _⟩, rfl⟩ := h
  exact ⟨⟨a1, a2, a3, a4, a5, a6, a7, a8, a9, a10, a11⟩, rfl⟩
theorem frs_sh : ∀ {rows : List (List Cl)}, (∀ r ∈ rows, HasSh frS r) → ∃ l : List Fr, rows = rowsF l
  | [], _ => ⟨[], rfl⟩
  | r :: rows, h => by
    obtain ⟨f, rfl⟩ := fr_sh (h r (List.mem_cons_self ..))
    obtain ⟨l, rfl⟩ := frs_sh (rows := rows) fun x hx => h x (List.mem_cons_of_mem _ hx)
    exact ⟨f :: l, rfl⟩
theorem trip_sh {c : Sh} {cs : List Cl} (h : HasSh (tripS c) cs) : ∃ l cr w n, cs = tripC l cr w n := by
  simp only [HasSh, HasShs] at h
  obtain ⟨_, _, rfl, ⟨rows, rfl, _, hr⟩, _, _, rfl, ⟨cr, rfl, _, _⟩, _, _, rfl, ⟨w, rfl, _⟩, _, _, rfl, ⟨n, rfl, _⟩, rfl⟩ := h
  have hr' : ∀ r ∈ rows, HasSh frS r := fun r hx => by
    have := hr r hx
    simpa only [HasSh, HasShs] using this
  obtain ⟨l, rfl⟩ := frs_sh hr'
  exact ⟨l, cr, w, n, rfl⟩
theorem F_kerbstonelaw10_LabFails : L.lookup f_kerbstonelaw10_LabFails = some c_kerbstonelaw10_LabFails := by kernel_rfl
set_option maxHeartbeats 4000000 in
theorem R_LabFails (hA : R L Cs f_kerbstonelaw10_awake [] [] = some (.w (Bo true), [])) (l1 l2 : List Fr) (c1 c2 : List (List Cl)) (w1 n1 w2 n2 : ByteArray) (k m : Int) : ∃ M', R L Cs f_kerbstonelaw10_LabFails [.a (tripC l1 c1 w1 n1), .a (tripC l2 c2 w2 n2), .a (aimC k m)] [] = some (.w (Bo true), M') := by
  refine ⟨[], ?_⟩
  rw [R_fn F_kerbstonelaw10_LabFails rfl]
  by_cases h1 : 30 < (l1.length : Int)
  · simp [c_kerbstonelaw10_LabFails, tripC, aimC, h1, hA]
  · by_cases h2 : 30 < (l2.length : Int)
    · simp [c_kerbstonelaw10_LabFails, tripC, aimC, h1, h2, hA]
    · have e1 : l1.length ≤ 30 := by omega
      have e2 : l2.length ≤ 30 := by omega
      have q1 : l1.length * 88 ≤ 140737488355328 := by omega
      have a1 : (∀ r : List Cl, r ∈ rowsF l1 → r.length = 11) = True := eq_true (rowsF_each l1)
      have t1 : (rowsF l1).take l1.length = rowsF l1 := List.take_of_length_le (by simp)
      have x1 := R_Fails l1 (by omega) c1 w1 n1 k m
      have x2 := R_Fails0 l1 (by omega) c1 w1 n1 k m
      have x3 := R_Situations l1 (by omega) c1 w1 n1
      have x4 := R_Situations0 l1 (by omega) c1 w1 n1
      have hb1 : (sitL l1).length ≤ 1000 := by rw [← covF_eq]; exact Nat.le_trans (outF_len _ _ _) (by omega)
      have hb2 : (sitL (l1 ++ l2)).length ≤ 1000 := by rw [← covF_eq]; exact Nat.le_trans (outF_len _ _ _) (by omega)
      have x5 := R_SameInts (sitL l1) hb1
      have x6 := R_Cover l1 l2 (by omega) (by omega) c1 c2 w1 n1 w2 n2
      have x7 := R_Cover0 l1 l2 (by omega) (by omega) c1 c2 w1 n1 w2 n2
      have x8 := R_SameInts (sitL (l1 ++ l2)) hb2
      have x9 := R_CoverNil
      have x10 := R_SameFrames l1 (by omega)
      rw [covF_eq] at x4 x7
      have p1 : l1 = [] ∨ (rowsF l1 = []) = False := by cases l1 <;> simp [rowsF]
      generalize sitL l1 = s1 at *
      generalize sitL (l1 ++ l2) = s2 at *
      simp only [tripC, aimC] at *
      rcases p1 with rfl | p1
      · simp only [rowsF_nil] at *
        simp (maxSteps := 2000000) [c_kerbstonelaw10_LabFails, h2, x1, x2, x3, x4, x5, x6, x7, x8, x9, x10, hA, markOne]
      · simp (maxSteps := 2000000) [c_kerbstonelaw10_LabFails, h1, h2, q1, a1, t1, p1, x1, x2, x3, x4, x5, x6, x7, x8, x9, x10, hA, markOne]
end Go.LbRun
