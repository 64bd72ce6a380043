/- What trips cover: both sides. -/
import Derived.Test.YtalckbmgdimcpaaGreatDoorLbSit
set_option linter.unusedVariables false
set_option linter.unusedSimpArgs false
set_option maxRecDepth 10000
namespace Go.LbRun
open Go Go.Eng
theorem F_lab_Cover : L.lookup f_lab_Cover = some c_lab_Cover := by kernel_rfl
theorem rowsF_append (l m : List Fr) : rowsF (l ++ m) = rowsF l ++ rowsF m := by simp [rowsF]
@[simp] theorem rowsF_nil : rowsF [] = [] := rfl
theorem rowsF_each (l : List Fr) : ∀ r ∈ rowsF l, r.length = 11 := by
  intro r hr
  obtain ⟨f, _, rfl⟩ := List.mem_map.1 hr
  rfl
set_option maxHeartbeats 2000000 in
theorem R_Cover (l1 l2 : List Fr) (h1 : l1.length ≤ 400) (h2 : l2.length ≤ 400) (cr1 cr2 : List (List Cl)) (w1 n1 w2 n2 : ByteArray) :
    R L Cs f_lab_Cover [.c (.rslice [tripC l1 cr1 w1 n1, tripC l2 cr2 w2 n2])] [] = some (.w (.c (.rslice (rowsOf (sitL (l1 ++ l2))))), []) := by
  have hS := R_Situations (l1 ++ l2) (by simp; omega) [] ⟨#[]⟩ ⟨#[]⟩
  have e1 := rowsF_each l1
  have e2 := rowsF_each l2
  have a1 : (∀ r : List Cl, r ∈ rowsF l1 → r.length = 11) = True := eq_true e1
  have a2 : (∀ r : List Cl, r ∈ rowsF l2 → r.length = 11) = True := eq_true e2
  have q1 : l1.length * 88 ≤ 140737488355328 := by omega
  have q2 : l2.length * 88 ≤ 140737488355328 := by omega
  have q3 : (l1.length + l2.length) * 88 ≤ 140737488355328 := by omega
  have t1 : (rowsF l1).take l1.length = rowsF l1 := List.take_of_length_le (by simp)
  have t2 : (rowsF l2).take l2.length = rowsF l2 := List.take_of_length_le (by simp)
  have t3 : (rowsF l1 ++ rowsF l2).take (l1.length + l2.length) = rowsF l1 ++ rowsF l2 := List.take_of_length_le (by simp)
  clear e1 e2
  simp only [rowsF_append, tripC] at hS
  rw [R_fn F_lab_Cover rfl]
  have p1 : l1 = [] ∨ (¬ rowsF l1 = [] ∧ ¬ l1 = [] ∧ (rowsF l1).isEmpty = false) := by cases l1 <;> simp [rowsF]
  have p2 : l2 = [] ∨ (¬ rowsF l2 = [] ∧ ¬ l2 = [] ∧ (rowsF l2).isEmpty = false) := by cases l2 <;> simp [rowsF]
  rcases p1 with rfl | ⟨b1, b2, b3⟩
  · rcases p2 with rfl | ⟨d1, d2, d3⟩
    · simp only [c_lab_Cover, tripC, rowsF_nil]
      simp
      rw [Y_step c_lab_Cover_l1.eq_1]
      simp [wr1, wr2]
      rw [Y_step c_lab_Cover_l1.eq_1]
      simp [wr1, wr2]
      rw [Y_step c_lab_Cover_l1.eq_1]
      simp at hS
      simp [hS, t1, t2, t3, markOne]
    · simp only [c_lab_Cover, tripC, rowsF_nil]
      simp
      rw [Y_step c_lab_Cover_l1.eq_1]
      simp [wr1, wr2]
      rw [Y_step c_lab_Cover_l1.eq_1]
      simp [wr1, wr2, a2, q2, d1, d3]
      rw [Y_step c_lab_Cover_l1.eq_1]
      simp at hS
      simp [hS, t1, t2, t3, markOne]
  · rcases p2 with rfl | ⟨d1, d2, d3⟩
    · simp only [c_lab_Cover, tripC, rowsF_nil]
      simp
      rw [Y_step c_lab_Cover_l1.eq_1]
      simp [wr1, wr2, a1, q1, b1, b3, t1]
      rw [Y_step c_lab_Cover_l1.eq_1]
      simp [wr1, wr2, a1, q1, b1, b3, t1]
      rw [Y_step c_lab_Cover_l1.eq_1]
      simp at hS
      simp [hS, t1, t2, t3, markOne]
    · simp only [c_lab_Cover, tripC, rowsF_nil]
      simp
      rw [Y_step c_lab_Cover_l1.eq_1]
      simp [wr1, wr2, a1, q1, b1, b3, t1]
      rw [Y_step c_lab_Cover_l1.eq_1]
      simp [wr1, wr2, a1, a2, q1, q2, q3, b1, b3, d1, d3, t1]
      rw [Y_step c_lab_Cover_l1.eq_1]
      try simp at hS
      simp [hS, t1, t2, t3, markOne]
end Go.LbRun
