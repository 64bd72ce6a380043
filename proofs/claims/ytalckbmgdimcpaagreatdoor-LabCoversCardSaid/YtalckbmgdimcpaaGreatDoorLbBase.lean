/- Frames and trips as plain data; what counts as a failure, and situations: both sides. -/
import Derived.Test.YtalckbmgdimcpaaGreatDoorLbTab
set_option linter.unusedVariables false
set_option linter.unusedSimpArgs false
set_option maxRecDepth 10000
namespace Go.LbRun
open Go Go.Eng

theorem F_lab_situation : L.lookup f_lab_situation = some c_lab_situation := by kernel_rfl
theorem F_kerbstoneref10_situation : L.lookup f_kerbstoneref10_situation = some c_kerbstoneref10_situation := by kernel_rfl
theorem F_lab_fails : L.lookup f_lab_fails = some c_lab_fails := by kernel_rfl
theorem F_lab_fails_1 : L.lookup f_lab_fails_1 = some c_lab_fails_1 := by kernel_rfl
theorem F_lab_fails_2 : L.lookup f_lab_fails_2 = some c_lab_fails_2 := by kernel_rfl
theorem F_lab_fails_3 : L.lookup f_lab_fails_3 = some c_lab_fails_3 := by kernel_rfl
theorem F_lab_fails_4 : L.lookup f_lab_fails_4 = some c_lab_fails_4 := by kernel_rfl
theorem F_lab_fails_5 : L.lookup f_lab_fails_5 = some c_lab_fails_5 := by kernel_rfl
theorem F_kerbstoneref10_bad : L.lookup f_kerbstoneref10_bad = some c_kerbstoneref10_bad := by kernel_rfl

structure Fr where
  tick : Int
  mode : Int
  looked : Int
  why : Int
  command : Int
  act : Int
  s : Int
  v : Int
  zones : Int
  hits : Int
  guilt : Int
def Fr.C (f : Fr) : List Cl := [I f.tick, I f.mode, I f.looked, I f.why, I f.command, I f.act, I f.s, I f.v, I f.zones, I f.hits, I f.guilt]
@[simp] theorem Fr.C_len (f : Fr) : f.C.length = 11 := rfl
def speedF (v : Int) : Int := if v < 1 then 0 else if v < 500 then 1 else if v < 1000 then 2 else 3
def pushF (a : Int) : Int := if a < 0 then 0 else if 0 < a then 2 else 1
def Fr.sits (f : Fr) : Bool := decide (1 ≤ f.mode) && decide (f.mode ≤ 2) && decide (0 ≤ f.v) && decide (0 ≤ f.zones)
def Fr.sit (f : Fr) : Int := 36 * (f.mode - 1) + 9 * speedF f.v + 3 * min f.zones 2 + pushF f.act


theorem wr1 : IntKind.i64.wrap 1 = 1 := by decide
theorem wr2 : IntKind.i64.wrap 2 = 2 := by decide
theorem wr3 : IntKind.i64.wrap 3 = 3 := by decide
theorem sit_loop (f : Fr) : ∃ E', Y L Cs c_lab_situation_l1 (some [4, 26, 27, 1]) 1 [(4, .w (W 3)), (26, .w (.a [I 1, I 500, I 1000])), (27, .w (W 0)), (1, .w (Pt 0))] [bx 11 f.C] = some (.exit 0, E', [bx 11 f.C]) ∧ Env.get E' 4 = some (.w (W (speedF f.v))) ∧ Env.get E' 1 = some (.w (Pt 0)) := by
  by_cases h1 : f.v < 1
  · rw [Y_step c_lab_situation_l1.eq_1]
    simp [Fr.C, h1, speedF, wr1, wr2, wr3]
  · by_cases h2 : f.v < 500
    · rw [Y_step c_lab_situation_l1.eq_1]
      simp [Fr.C, h1, h2, speedF, wr1, wr2, wr3]
      rw [Y_step c_lab_situation_l1.eq_1]
      simp [Fr.C, h1, h2, speedF, wr1, wr2, wr3]
    · by_cases h3 : f.v < 1000
      · rw [Y_step c_lab_situation_l1.eq_1]
        simp [Fr.C, h1, h2, h3, speedF, wr1, wr2, wr3]
        rw [Y_step c_lab_situation_l1.eq_1]
        simp [Fr.C, h1, h2, h3, speedF, wr1, wr2, wr3]
        rw [Y_step c_lab_situation_l1.eq_1]
        simp [Fr.C, h1, h2, h3, speedF, wr1, wr2, wr3]
      · rw [Y_step c_lab_situation_l1.eq_1]
        simp [Fr.C, h1, h2, h3, speedF, wr1, wr2, wr3]
        rw [Y_step c_lab_situation_l1.eq_1]
        simp [Fr.C, h1, h2, h3, speedF, wr1, wr2, wr3]
        rw [Y_step c_lab_situation_l1.eq_1]
        simp [Fr.C, h1, h2, h3, speedF, wr1, wr2, wr3]
        rw [Y_step c_lab_situation_l1.eq_1]
        simp [Fr.C, h1, h2, h3, speedF, wr1, wr2, wr3]


theorem speed_in (v : Int) : 0 ≤ speedF v ∧ speedF v ≤ 3 := by unfold speedF; split <;> (try split) <;> (try split) <;> omega
set_option maxHeartbeats 1000000 in
theorem R_situation (f : Fr) : R L Cs f_lab_situation [.a f.C] [] = some (.t [W (if f.sits then f.sit else 0), Bo f.sits], []) := by
  obtain ⟨E', hY, h4, h1⟩ := sit_loop f
  have hsp := speed_in f.v
  rw [R_fn F_lab_situation rfl]
  by_cases hs : f.sits = true
  · have hs0 := hs
    simp only [Fr.sits, Bool.and_eq_true, decide_eq_true_eq] at hs
    obtain ⟨⟨⟨a1, a2⟩, a3⟩, a4⟩ := hs
    have b1 : ¬ f.mode < 1 := by omega
    have b2 : ¬ 2 < f.mode := by omega
    have b3 : ¬ f.v < 0 := by omega
    have b4 : ¬ f.zones < 0 := by omega
    have w1 : IntKind.i64.wrap (f.mode - 1) = f.mode - 1 := i64_id _ (by omega) (by omega)
    have w2 : IntKind.i64.wrap (36 * (f.mode - 1)) = 36 * (f.mode - 1) := i64_id _ (by omega) (by omega)
    have w3 : IntKind.i64.wrap (9 * speedF f.v) = 9 * speedF f.v := i64_id _ (by omega) (by omega)
    have w4 : IntKind.i64.wrap (36 * (f.mode - 1) + 9 * speedF f.v) = 36 * (f.mode - 1) + 9 * speedF f.v := i64_id _ (by omega) (by omega)
    have w5 : IntKind.i64.wrap (3 * min f.zones 2) = 3 * min f.zones 2 := i64_id _ (by omega) (by omega)
    have w6 : IntKind.i64.wrap (36 * (f.mode - 1) + 9 * speedF f.v + 3 * min f.zones 2) = 36 * (f.mode - 1) + 9 * speedF f.v + 3 * min f.zones 2 := i64_id _ (by omega) (by omega)
    have w7 : ∀ p : Int, 0 ≤ p → p ≤ 2 → IntKind.i64.wrap (36 * (f.mode - 1) + 9 * speedF f.v + 3 * min f.zones 2 + p) = 36 * (f.mode - 1) + 9 * speedF f.v + 3 * min f.zones 2 + p := fun p _ _ => i64_id _ (by omega) (by omega)
    have w8 := w7 0 (by omega) (by omega)
    have w9 := w7 1 (by omega) (by omega)
    have w10 := w7 2 (by omega) (by omega)
    have hsit : f.sit = 36 * (f.mode - 1) + 9 * speedF f.v + 3 * min f.zones 2 + pushF f.act := rfl
    simp only [Fr.C] at hY
    rw [hs0, if_pos rfl, hsit]
    by_cases p1 : f.act < 0
    · have hp : pushF f.act = 0 := by simp [pushF, p1]
      simp [c_lab_situation, Fr.C, b1, b2, b3, b4, hY, h4, h1, p1, hp, w1, w2, w3, w4, w5, w6, w8]
    · by_cases p2 : 0 < f.act
      · have hp : pushF f.act = 2 := by simp [pushF, p1, p2]
        simp [c_lab_situation, Fr.C, b1, b2, b3, b4, hY, h4, h1, p1, p2, hp, w1, w2, w3, w4, w5, w6, w10]
      · have hp : pushF f.act = 1 := by simp [pushF, p1, p2]
        simp [c_lab_situation, Fr.C, b1, b2, b3, b4, hY, h4, h1, p1, p2, hp, w1, w2, w3, w4, w5, w6, w9]
  · have hs' : f.sits = false := by simpa using hs
    rw [hs']
    by_cases b1 : f.mode < 1
    · simp [c_lab_situation, Fr.C, b1]
    · by_cases b2 : 2 < f.mode
      · simp [c_lab_situation, Fr.C, b1, b2]
      · by_cases b3 : f.v < 0
        · simp [c_lab_situation, Fr.C, b1, b2, b3]
        · by_cases b4 : f.zones < 0
          · simp [c_lab_situation, Fr.C, b1, b2, b3, b4]
          · exact absurd (by simp only [Fr.sits, Bool.and_eq_true, decide_eq_true_eq]; omega) hs

set_option maxHeartbeats 1000000 in
theorem R_situation0 (f : Fr) : R L Cs f_kerbstoneref10_situation [.a f.C] [] = some (.w (W (if f.sits then f.sit else -1)), []) := by
  have hsp := speed_in f.v
  rw [R_fn F_kerbstoneref10_situation rfl]
  by_cases hs : f.sits = true
  · have hs0 := hs
    simp only [Fr.sits, Bool.and_eq_true, decide_eq_true_eq] at hs
    obtain ⟨⟨⟨a1, a2⟩, a3⟩, a4⟩ := hs
    have hm : f.mode = 1 ∨ f.mode = 2 := by omega
    have b3 : ¬ f.v < 0 := by omega
    have b4 : ¬ f.zones < 0 := by omega
    have w3 : ∀ s : Int, 0 ≤ s → s ≤ 3 → IntKind.i64.wrap (9 * s) = 9 * s := fun s _ _ => i64_id _ (by omega) (by omega)
    have key : ∀ (m s p : Int), f.mode = m → 1 ≤ m → m ≤ 2 → speedF f.v = s → pushF f.act = p → 0 ≤ s → s ≤ 3 → 0 ≤ p → p ≤ 2 →
        IntKind.i64.wrap (m - 1) = m - 1 ∧ IntKind.i64.wrap (36 * (m - 1)) = 36 * (m - 1) ∧ IntKind.i64.wrap (9 * s) = 9 * s ∧ IntKind.i64.wrap (36 * (m - 1) + 9 * s) = 36 * (m - 1) + 9 * s ∧ IntKind.i64.wrap (3 * min f.zones 2) = 3 * min f.zones 2 ∧
        IntKind.i64.wrap (36 * (m - 1) + 9 * s + 3 * min f.zones 2) = 36 * (m - 1) + 9 * s + 3 * min f.zones 2 ∧ IntKind.i64.wrap (36 * (m - 1) + 9 * s + 3 * min f.zones 2 + p) = 36 * (m - 1) + 9 * s + 3 * min f.zones 2 + p ∧ f.sit = 36 * (m - 1) + 9 * s + 3 * min f.zones 2 + p := by
      intro m s p hm1 h1 h2 hs1 hp1 h3 h4 h5 h6
      refine ⟨i64_id _ (by omega) (by omega), i64_id _ (by omega) (by omega), i64_id _ (by omega) (by omega), i64_id _ (by omega) (by omega), i64_id _ (by omega) (by omega), i64_id _ (by omega) (by omega), i64_id _ (by omega) (by omega), ?_⟩
      unfold Fr.sit; rw [hm1, hs1, hp1]
    have hp : (f.act < 0 ∧ ¬ 0 < f.act ∧ pushF f.act = 0) ∨ (¬ f.act < 0 ∧ 0 < f.act ∧ pushF f.act = 2) ∨ (¬ f.act < 0 ∧ ¬ 0 < f.act ∧ pushF f.act = 1) := by
      unfold pushF; split <;> (try split) <;> omega
    have hv : (f.v = 0 ∧ speedF f.v = 0) ∨ (f.v ≠ 0 ∧ f.v < 500 ∧ speedF f.v = 1) ∨ (f.v ≠ 0 ∧ ¬ f.v < 500 ∧ f.v < 1000 ∧ speedF f.v = 2) ∨ (f.v ≠ 0 ∧ ¬ f.v < 500 ∧ ¬ f.v < 1000 ∧ speedF f.v = 3) := by
      unfold speedF; split <;> (try split) <;> (try split) <;> omega
    rw [hs0, if_pos rfl]
    rcases hm with hm | hm <;> rcases hp with ⟨p1, p2, hp⟩ | ⟨p1, p2, hp⟩ | ⟨p1, p2, hp⟩ <;> rcases hv with ⟨v1, hv⟩ | ⟨v1, v2, hv⟩ | ⟨v1, v2, v3, hv⟩ | ⟨v1, v2, v3, hv⟩ <;>
      (obtain ⟨k1, k2, k3, k4, k5, k6, k7, k8⟩ := key _ _ _ hm (by omega) (by omega) hv hp (by omega) (by omega) (by omega) (by omega)
       rw [k8]
       clear key hp hv k8 hsp a1 a2 a3 a4
       simp at k1 k2 k3 k4 k5 k6 k7
       simp [c_kerbstoneref10_situation, Fr.C, *])
  · have hs' : f.sits = false := by simpa using hs
    rw [hs']
    by_cases m1 : f.mode = 1
    · by_cases b3 : f.v < 0
      · simp [c_kerbstoneref10_situation, Fr.C, m1, b3]
      · by_cases b4 : f.zones < 0
        · simp [c_kerbstoneref10_situation, Fr.C, m1, b3, b4]
        · exact absurd (by simp only [Fr.sits, Bool.and_eq_true, decide_eq_true_eq]; omega) hs
    · by_cases m2 : f.mode = 2
      · by_cases b3 : f.v < 0
        · simp [c_kerbstoneref10_situation, Fr.C, m1, m2, b3]
        · by_cases b4 : f.zones < 0
          · simp [c_kerbstoneref10_situation, Fr.C, m1, m2, b3, b4]
          · exact absurd (by simp only [Fr.sits, Bool.and_eq_true, decide_eq_true_eq]; omega) hs
      · have e1 : (f.mode != 1) = true := by simpa using m1
        have e2 : (f.mode != 2) = true := by simpa using m2
        simp [c_kerbstoneref10_situation, Fr.C, m1, m2, e1, e2]
end Go.LbRun
