/- This text proves what actuators do with commands, on both sides; no condition. -/
import Derived.Test.YtgjbaackhdgknaaGreatDrvAw1
set_option linter.unusedVariables false
set_option linter.unusedSimpArgs false
set_option linter.unusedSectionVars false
set_option maxRecDepth 10000
namespace Go.DrvRun
open Go Go.Eng

theorem F_plan_within : L.lookup f_plan_within = some c_plan_within := by kernel_rfl
theorem F_plan_CheckCar : L.lookup f_plan_CheckCar = some c_plan_CheckCar := by kernel_rfl
theorem F_kerbstoneref07_CheckCar : L.lookup f_kerbstoneref07_CheckCar = some c_kerbstoneref07_CheckCar := by kernel_rfl
theorem F_plan_driver_clip : L.lookup f_plan_driver_clip = some c_plan_driver_clip := by kernel_rfl
theorem F_plan_driver_ramp : L.lookup f_plan_driver_ramp = some c_plan_driver_ramp := by kernel_rfl
theorem F_plan_Ramp : L.lookup f_plan_Ramp = some c_plan_Ramp := by kernel_rfl
theorem F_kerbstoneref07_ramp : L.lookup f_kerbstoneref07_ramp = some c_kerbstoneref07_ramp := by kernel_rfl
theorem F_kerbstoneref07_Ramp : L.lookup f_kerbstoneref07_Ramp = some c_kerbstoneref07_Ramp := by kernel_rfl
theorem F_drive_Actuate : L.lookup f_drive_Actuate = some c_drive_Actuate := by kernel_rfl
theorem F_kerbstoneref08_Actuate : L.lookup f_kerbstoneref08_Actuate = some c_kerbstoneref08_Actuate := by kernel_rfl
theorem F_kerbstonekit_SameLongs : L.lookup f_kerbstonekit_SameLongs = some c_kerbstonekit_SameLongs := by kernel_rfl
theorem F_kerbstonelaw08_DriveActuates : L.lookup f_kerbstonelaw08_DriveActuates = some c_kerbstonelaw08_DriveActuates := by kernel_rfl

structure Car where
  len : Int
  accel : Int
  brake : Int
  rate : Int
  delay : Int
def Car.ok (c : Car) : Prop := 300 ≤ c.len ∧ c.len ≤ 20000 ∧ 1 ≤ c.accel ∧ c.accel ≤ 30 ∧ 20 ≤ c.brake ∧ c.brake ≤ 90 ∧ 5 ≤ c.rate ∧ c.rate ≤ 120 ∧ 0 ≤ c.delay ∧ c.delay ≤ 5
instance (c : Car) : Decidable c.ok := by unfold Car.ok; infer_instance
def clipF (c : Car) (x : Int) : Int := max (-c.brake) (min x c.accel)
def rampF (c : Car) (last w : Int) : Int := max (clipF c last - c.rate) (min (clipF c w) (clipF c last + c.rate))
theorem clipF_in {c : Car} (h : c.ok) (x : Int) : -c.brake ≤ clipF c x ∧ clipF c x ≤ c.accel := by
  obtain ⟨h1, h2, h3, h4, h5, h6, h7, h8, h9, h10⟩ := h
  unfold clipF; omega
def carC (c : Car) : List Cl := [I c.len, I c.accel, I c.brake, I c.rate, I c.delay]
def carF (c : Car) : Int := if c.ok then 0 else 2
def rowsI (l : List Int) : List (List Cl) := l.map fun x => [I x]
@[simp] theorem rowsI_len (l : List Int) : (rowsI l).length = l.length := by simp [rowsI]
@[simp] theorem rowsI_append (l m : List Int) : rowsI (l ++ m) = rowsI l ++ rowsI m := by simp [rowsI]
@[simp] theorem rowsI_nil : rowsI [] = [] := rfl
@[simp] theorem rowsI_cons (x : Int) (l : List Int) : rowsI (x :: l) = [I x] :: rowsI l := rfl
@[simp] theorem rowsI_take (l : List Int) : (rowsI l).take l.length = rowsI l := List.take_of_length_le (by simp)
@[simp] theorem rowsI_getElem {l : List Int} {i : Nat} (h : i < (rowsI l).length) : (rowsI l)[i] = [I (l[i]'(by simpa using h))] := by simp [rowsI]
theorem rowsI_drop (l : List Int) (n : Nat) : (rowsI l).drop n = rowsI (l.drop n) := by simp [rowsI]
theorem rowsI_one (l : List Int) : ∀ r ∈ rowsI l, r.length = 1 := by
  intro r hr
  obtain ⟨x, _, rfl⟩ := List.mem_map.1 hr
  rfl
theorem clone_ok (l : List Int) (hl : l.length ≤ 1000) : R L Cs f_slices_Clone_int64 [.c (.rslice (rowsI l))] [] = some (.w (.c (sl 0 1 (rowsI l))), [some (own 1 (rowsI l))]) := by
  have hr : l.length * 8 ≤ 140737488355328 := by omega
  rw [R_oracle rfl]
  have h1 := rowsI_one l
  simp [clones, Cs, cloneX, hr]
  exact h1
theorem R_within (x a b : Int) : R L Cs f_plan_within [W x, W a, W b] [] = some (.w (Bo (decide (a ≤ x) && decide (x ≤ b))), []) := by
  rw [R_fn F_plan_within rfl]
  by_cases h : a ≤ x <;> simp [c_plan_within, h]
theorem R_CheckCar {c : Car} (h : c.ok) : R L Cs f_plan_CheckCar [.a (carC c)] [] = some (.w (W 0), []) := by
  obtain ⟨h1, h2, h3, h4, h5, h6, h7, h8, h9, h10⟩ := h
  rw [R_fn F_plan_CheckCar rfl]
  simp [c_plan_CheckCar, carC, R_within, h1, h2, h3, h4, h5, h6, h7, h8, h9, h10]
theorem R_refCheckCar {c : Car} (h : c.ok) : R L Cs f_kerbstoneref07_CheckCar [.a (carC c)] [] = some (.w (W 0), []) := by
  obtain ⟨h1, h2, h3, h4, h5, h6, h7, h8, h9, h10⟩ := h
  rw [R_fn F_kerbstoneref07_CheckCar rfl]
  simp [c_kerbstoneref07_CheckCar, carC, Int.not_lt.2 h1, Int.not_lt.2 h2, Int.not_lt.2 h3, Int.not_lt.2 h4, Int.not_lt.2 h5, Int.not_lt.2 h6, Int.not_lt.2 h7, Int.not_lt.2 h8, Int.not_lt.2 h9, Int.not_lt.2 h10]
theorem R_Ramp {c : Car} (h : c.ok) (a w : Int) : R L Cs f_plan_Ramp [.a (carC c), W a, W w] [] = some (.w (W (rampF c a w)), []) := by
  have h0 := R_CheckCar h
  have hk1 := clipF_in h a
  have hk2 := clipF_in h w
  obtain ⟨h1, h2, h3, h4, h5, h6, h7, h8, h9, h10⟩ := h
  have hw : IntKind.i64.wrap (-c.brake) = -c.brake := i64_id _ (by omega) (by omega)
  have hcl : ∀ x, R L Cs f_plan_driver_clip [Pt 0, W x] [bx 8 (carC c ++ [I a, I 0, .nilslice])] = some (.w (W (clipF c x)), [bx 8 (carC c ++ [I a, I 0, .nilslice])]) := by
    intro x
    rw [R_fn F_plan_driver_clip rfl]
    simp [c_plan_driver_clip, carC, hw, clipF]
  have w1 : IntKind.i64.wrap (clipF c a - c.rate) = clipF c a - c.rate := i64_id _ (by omega) (by omega)
  have w2 : IntKind.i64.wrap (clipF c a + c.rate) = clipF c a + c.rate := i64_id _ (by omega) (by omega)
  have hrp : R L Cs f_plan_driver_ramp [Pt 0, W w] [bx 8 (carC c ++ [I a, I 0, .nilslice])] = some (.w (W (rampF c a w)), [bx 8 (carC c ++ [I a, I 0, .nilslice])]) := by
    have g1 := hcl a
    have g2 := hcl w
    simp only [carC, List.cons_append, List.nil_append] at g1 g2 ⊢
    rw [R_fn F_plan_driver_ramp rfl]
    simp [c_plan_driver_ramp, g1, g2, w1, w2, rampF]
  simp only [carC, List.cons_append, List.nil_append] at h0 hrp
  rw [R_fn F_plan_Ramp rfl]
  simp [c_plan_Ramp, carC, h0, hrp, newAt]
theorem R_reframp {c : Car} (h : c.ok) (a w : Int) : R L Cs f_kerbstoneref07_Ramp [.a (carC c), W a, W w] [] = some (.w (W (rampF c a w)), []) := by
  have h0 := R_refCheckCar h
  have hk1 := clipF_in h a
  have hk2 := clipF_in h w
  obtain ⟨h1, h2, h3, h4, h5, h6, h7, h8, h9, h10⟩ := h
  have hw : IntKind.i64.wrap (-c.brake) = -c.brake := i64_id _ (by omega) (by omega)
  unfold clipF at hk1 hk2
  have w1 : IntKind.i64.wrap (max (-c.brake) (min a c.accel) - c.rate) = max (-c.brake) (min a c.accel) - c.rate := i64_id _ (by omega) (by omega)
  have w2 : IntKind.i64.wrap (max (-c.brake) (min a c.accel) + c.rate) = max (-c.brake) (min a c.accel) + c.rate := i64_id _ (by omega) (by omega)
  have hrp : R L Cs f_kerbstoneref07_ramp [.a (carC c), W a, W w] [] = some (.w (W (rampF c a w)), []) := by
    rw [R_fn F_kerbstoneref07_ramp rfl]
    simp [c_kerbstoneref07_ramp, carC, hw, w1, w2, rampF, clipF]
  simp only [carC] at h0 hrp
  rw [R_fn F_kerbstoneref07_Ramp rfl]
  simp [c_kerbstoneref07_Ramp, carC, h0, hrp, newAt]
end Go.DrvRun

set_option maxRecDepth 10000
namespace Go.DrvRun
open Go Go.Eng
theorem R_CheckCar_any (c : Car) : R L Cs f_plan_CheckCar [.a (carC c)] [] = some (.w (W (carF c)), []) := by
  by_cases h : c.ok
  · rw [carF, if_pos h]; exact R_CheckCar h
  rw [carF, if_neg h, R_fn F_plan_CheckCar rfl]
  have e : ¬ (((decide (300 ≤ c.len) && decide (c.len ≤ 20000)) = true) ∧ ((decide (1 ≤ c.accel) && decide (c.accel ≤ 30)) = true) ∧ ((decide (20 ≤ c.brake) && decide (c.brake ≤ 90)) = true) ∧ ((decide (5 ≤ c.rate) && decide (c.rate ≤ 120)) = true) ∧ ((decide (0 ≤ c.delay) && decide (c.delay ≤ 5)) = true)) := by
    intro e
    simp only [Bool.and_eq_true, decide_eq_true_eq] at e
    exact h (by simp only [Car.ok]; omega)
  have w1 := R_within c.len 300 20000
  have w2 := R_within c.accel 1 30
  have w3 := R_within c.brake 20 90
  have w4 := R_within c.rate 5 120
  have w5 := R_within c.delay 0 5
  generalize (decide (300 ≤ c.len) && decide (c.len ≤ 20000)) = b1 at *
  generalize (decide (1 ≤ c.accel) && decide (c.accel ≤ 30)) = b2 at *
  generalize (decide (20 ≤ c.brake) && decide (c.brake ≤ 90)) = b3 at *
  generalize (decide (5 ≤ c.rate) && decide (c.rate ≤ 120)) = b4 at *
  generalize (decide (0 ≤ c.delay) && decide (c.delay ≤ 5)) = b5 at *
  cases b1 with
  | false => simp [c_plan_CheckCar, carC, w1]
  | true => cases b2 with
    | false => simp [c_plan_CheckCar, carC, w1, w2]
    | true => cases b3 with
      | false => simp [c_plan_CheckCar, carC, w1, w2, w3]
      | true => cases b4 with
        | false => simp [c_plan_CheckCar, carC, w1, w2, w3, w4]
        | true => cases b5 with
          | false => simp [c_plan_CheckCar, carC, w1, w2, w3, w4, w5]
          | true => simp at e
theorem R_refCheckCar_any (c : Car) : R L Cs f_kerbstoneref07_CheckCar [.a (carC c)] [] = some (.w (W (carF c)), []) := by
  by_cases h : c.ok
  · rw [carF, if_pos h]; exact R_refCheckCar h
  rw [carF, if_neg h, R_fn F_kerbstoneref07_CheckCar rfl]
  by_cases h1 : c.len < 300
  · simp [c_kerbstoneref07_CheckCar, carC, h1]
  by_cases h2 : 20000 < c.len
  · simp [c_kerbstoneref07_CheckCar, carC, h1, h2]
  by_cases h3 : c.accel < 1
  · simp [c_kerbstoneref07_CheckCar, carC, h1, h2, h3]
  by_cases h4 : 30 < c.accel
  · simp [c_kerbstoneref07_CheckCar, carC, h1, h2, h3, h4]
  by_cases h5 : c.brake < 20
  · simp [c_kerbstoneref07_CheckCar, carC, h1, h2, h3, h4, h5]
  by_cases h6 : 90 < c.brake
  · simp [c_kerbstoneref07_CheckCar, carC, h1, h2, h3, h4, h5, h6]
  by_cases h7 : c.rate < 5
  · simp [c_kerbstoneref07_CheckCar, carC, h1, h2, h3, h4, h5, h6, h7]
  by_cases h8 : 120 < c.rate
  · simp [c_kerbstoneref07_CheckCar, carC, h1, h2, h3, h4, h5, h6, h7, h8]
  by_cases h9 : c.delay < 0
  · simp [c_kerbstoneref07_CheckCar, carC, h1, h2, h3, h4, h5, h6, h7, h8, h9]
  by_cases h10 : 5 < c.delay
  · simp [c_kerbstoneref07_CheckCar, carC, h1, h2, h3, h4, h5, h6, h7, h8, h9, h10]
  exact absurd (by simp only [Car.ok]; omega) h

def last5 (q : List Int) : List Int := q.drop (q.length - 5)
def actD (c : Car) (l : List Int) : List Int := if c.delay < l.length then l.drop 1 else l
def wantD (c : Car) (l : List Int) : Int := if c.delay < l.length then l.headD 0 else 0
def weakF (c : Car) (n g : Int) : Int := min (c.brake * max 0 (min n 2)) (max 0 (min g 90))
def actQ (c : Car) (q : List Int) (cmd : Int) : List Int := if c.ok then actD c (last5 q ++ [cmd]) else []
def actA (c : Car) (q : List Int) (last cmd n g : Int) : Int := if c.ok then max (rampF c last (wantD c (last5 q ++ [cmd]))) (-weakF c n g) else 0
theorem weak_in {c : Car} (h : c.ok) (n g : Int) : 0 ≤ c.brake * max 0 (min n 2) ∧ c.brake * max 0 (min n 2) ≤ 200 := by
  obtain ⟨h1, h2, h3, h4, h5, h6, h7, h8, h9, h10⟩ := h
  have : max 0 (min n 2) = 0 ∨ max 0 (min n 2) = 1 ∨ max 0 (min n 2) = 2 := by omega
  rcases this with e | e | e <;> rw [e] <;> omega
set_option maxHeartbeats 2000000 in
theorem R_Actuate_ok {c : Car} (hok : c.ok) (q d : List Int) (hdq : q.drop (q.length - 5) = d) (hq : q.length ≤ 900) (last cmd n g : Int) : R L Cs f_drive_Actuate [.a (carC c), .a [.rslice (rowsI q), I last], W cmd, W n, W g] [] =
    some (.t [.a [.rslice (rowsI (actD c (d ++ [cmd]))), I (max (rampF c last (wantD c (d ++ [cmd]))) (-weakF c n g))], W (max (rampF c last (wantD c (d ++ [cmd]))) (-weakF c n g))], []) := by
  have h0 := R_CheckCar hok
  have hwk := weak_in hok n g
  have hr := R_Ramp hok last (wantD c (d ++ [cmd]))
  have hd5 : d.length ≤ 5 := by rw [← hdq]; simp; omega
  have hcl := clone_ok d (by omega)
  have e1 : max 0 ((q.length : Int) - 5) = ((q.length - 5 : Nat) : Int) := by omega
  have w1 : IntKind.i64.wrap ((q.length : Int) - 5) = (q.length : Int) - 5 := i64_id _ (by omega) (by omega)
  have w2 : IntKind.i64.wrap (c.brake * max 0 (min n 2)) = c.brake * max 0 (min n 2) := i64_id _ (by omega) (by omega)
  have hwf : 0 ≤ weakF c n g ∧ weakF c n g ≤ 90 := by unfold weakF; omega
  have w3 : IntKind.i64.wrap (-weakF c n g) = -weakF c n g := i64_id _ (by omega) (by omega)
  have hm0 : (0 : Int) ≤ ((q.length - 5 : Nat) : Int) := by omega
  have hm1 : ((q.length - 5 : Nat) : Int) ≤ (q.length : Int) := by omega
  have htk : List.take (q.length - (q.length - 5)) (rowsI d) = rowsI d := List.take_of_length_le (by rw [← hdq]; simp)
  have hadd : q.length - 5 + (q.length - (q.length - 5)) ≤ q.length := by omega
  have hone := rowsI_one q
  have hall : (∀ r : List Cl, r ∈ rowsI q → r.length = 1) = True := eq_true hone
  clear hone
  simp only [weakF] at w3 ⊢
  simp only [carC, sl, own, rowsI_len] at h0 hr hcl
  rw [R_fn F_drive_Actuate rfl]
  cases d with
  | nil =>
    simp only [rowsI_nil, List.length_nil] at hcl htk
    simp only [List.nil_append, wantD, actD] at hr ⊢
    by_cases hc : c.delay < 1
    · simp [hc] at hr ⊢
      simp [c_drive_Actuate, carC, h0, hr, hcl, e1, w1, w2, w3, newAt, hm0, hm1, rowsI_drop, hdq, htk, hadd, hall, hc]
    · simp [hc] at hr ⊢
      simp [c_drive_Actuate, carC, h0, hr, hcl, e1, w1, w2, w3, newAt, hm0, hm1, rowsI_drop, hdq, htk, hadd, hall, hc]
  | cons x d =>
    have hroom : (d.length + 1 + 1) * 8 ≤ 140737488355328 := by simp at hd5; omega
    simp only [rowsI_cons, List.length_cons] at hcl htk
    have hp1 : (0 : Int) < (d.length : Int) + 1 + 1 := by omega
    have hp2 : (1 : Int) ≤ (d.length : Int) + 1 + 1 := by omega
    have hp3 : d.length + 1 + 1 - 1 = d.length + 1 := by omega
    have hp4 : 1 + (d.length + 1) ≤ d.length + 1 + 1 := by omega
    have htk2 : List.take (d.length + 1) (rowsI d ++ [[I cmd]]) = rowsI d ++ [[I cmd]] := List.take_of_length_le (by simp)
    simp only [List.cons_append, wantD, actD] at hr ⊢
    by_cases hc : c.delay < (d.length : Int) + 1 + 1
    · simp [hc] at hr ⊢
      simp [c_drive_Actuate, carC, h0, hr, hcl, e1, w1, w2, w3, newAt, hm0, hm1, rowsI_drop, hdq, htk, hadd, hall, hc, hroom, hp1, hp2, hp3, hp4, htk2]
    · simp [hc] at hr ⊢
      simp [c_drive_Actuate, carC, h0, hr, hcl, e1, w1, w2, w3, newAt, hm0, hm1, rowsI_drop, hdq, htk, hadd, hall, hc, hroom, hp1, hp2, hp3, hp4, htk2]
end Go.DrvRun

set_option maxRecDepth 10000
namespace Go.DrvRun
open Go Go.Eng
set_option maxHeartbeats 2000000 in
theorem R_refActuate_ok {c : Car} (hok : c.ok) (q d : List Int) (hdq : q.drop (q.length - 5) = d) (hq : q.length ≤ 900) (last cmd n g : Int) : R L Cs f_kerbstoneref08_Actuate [.a (carC c), .a [.rslice (rowsI q), I last], W cmd, W n, W g] [] =
    some (.t [.a [.rslice (rowsI (actD c (d ++ [cmd]))), I (max (rampF c last (wantD c (d ++ [cmd]))) (-weakF c n g))], W (max (rampF c last (wantD c (d ++ [cmd]))) (-weakF c n g))], []) := by
  have h0 := R_refCheckCar hok
  have hwk := weak_in hok n g
  have hr := R_reframp hok last (wantD c (d ++ [cmd]))
  have hd5 : d.length ≤ 5 := by rw [← hdq]; simp; omega
  have hbk : 20 ≤ c.brake ∧ c.brake ≤ 90 := ⟨hok.2.2.2.2.1, hok.2.2.2.2.2.1⟩
  have e1 : max 0 ((q.length : Int) - 5) = ((q.length - 5 : Nat) : Int) := by omega
  have w1 : IntKind.i64.wrap ((q.length : Int) - 5) = (q.length : Int) - 5 := i64_id _ (by omega) (by omega)
  have w0 : IntKind.i64.wrap (-c.brake) = -c.brake := i64_id _ (by omega) (by omega)
  have w2 : IntKind.i64.wrap (-c.brake * max 0 (min n 2)) = -(c.brake * max 0 (min n 2)) := by rw [Int.neg_mul]; exact i64_id _ (by omega) (by omega)
  have w2' : IntKind.i64.wrap (-(c.brake * max 0 (min n 2))) = -(c.brake * max 0 (min n 2)) := i64_id _ (by omega) (by omega)
  have w3 : IntKind.i64.wrap (-max 0 (min g 90)) = -max 0 (min g 90) := i64_id _ (by omega) (by omega)
  have hm0 : (0 : Int) ≤ ((q.length - 5 : Nat) : Int) := by omega
  have hm1 : ((q.length - 5 : Nat) : Int) ≤ (q.length : Int) := by omega
  have htk : List.take (q.length - (q.length - 5)) (rowsI d) = rowsI d := List.take_of_length_le (by rw [← hdq]; simp)
  have hadd : q.length - 5 + (q.length - (q.length - 5)) ≤ q.length := by omega
  have hone := rowsI_one q
  have hall : (∀ r : List Cl, r ∈ rowsI q → r.length = 1) = True := eq_true hone
  clear hone
  have hmax : ∀ a : Int, max (max a (-(c.brake * max 0 (min n 2)))) (-max 0 (min g 90)) = max a (-weakF c n g) := by intro a; unfold weakF; omega
  simp only [carC, sl, own, rowsI_len] at h0 hr
  rw [R_fn F_kerbstoneref08_Actuate rfl]
  cases d with
  | nil =>
    simp only [rowsI_nil, List.length_nil] at htk
    simp only [List.nil_append, wantD, actD] at hr ⊢
    by_cases hc : c.delay < 1
    · simp [hc] at hr ⊢
      simp [c_kerbstoneref08_Actuate, carC, h0, hr, e1, w0, w1, w2, w2', w3, newAt, hm0, hm1, rowsI_drop, hdq, htk, hadd, hall, hc, hmax]
    · simp [hc] at hr ⊢
      simp [c_kerbstoneref08_Actuate, carC, h0, hr, e1, w0, w1, w2, w2', w3, newAt, hm0, hm1, rowsI_drop, hdq, htk, hadd, hall, hc, hmax]
  | cons x d =>
    have hroom : (d.length + 1 + 1) * 8 ≤ 140737488355328 := by simp at hd5; omega
    have hroom0 : (d.length + 1) * 8 ≤ 140737488355328 := by simp at hd5; omega
    have hone2 := rowsI_one d
    have hall2 : (∀ r : List Cl, r ∈ rowsI d → r.length = 1) = True := eq_true hone2
    clear hone2
    simp only [rowsI_cons, List.length_cons] at htk
    have hp1 : (0 : Int) < (d.length : Int) + 1 + 1 := by omega
    have hp2 : (1 : Int) ≤ (d.length : Int) + 1 + 1 := by omega
    have hp3 : d.length + 1 + 1 - 1 = d.length + 1 := by omega
    have hp4 : 1 + (d.length + 1) ≤ d.length + 1 + 1 := by omega
    have htk2 : List.take (d.length + 1) (rowsI d ++ [[I cmd]]) = rowsI d ++ [[I cmd]] := List.take_of_length_le (by simp)
    simp only [List.cons_append, wantD, actD] at hr ⊢
    by_cases hc : c.delay < (d.length : Int) + 1 + 1
    · simp [hc] at hr ⊢
      simp [c_kerbstoneref08_Actuate, carC, h0, hr, e1, w0, w1, w2, w2', w3, newAt, hm0, hm1, rowsI_drop, hdq, htk, hadd, hall, hall2, hc, hroom, hroom0, hp1, hp2, hp3, hp4, htk2, hmax]
    · simp [hc] at hr ⊢
      simp [c_kerbstoneref08_Actuate, carC, h0, hr, e1, w0, w1, w2, w2', w3, newAt, hm0, hm1, rowsI_drop, hdq, htk, hadd, hall, hall2, hc, hroom, hroom0, hp1, hp2, hp3, hp4, htk2, hmax]
theorem R_Actuate (c : Car) (q : List Int) (hq : q.length ≤ 900) (last cmd n g : Int) : R L Cs f_drive_Actuate [.a (carC c), .a [.rslice (rowsI q), I last], W cmd, W n, W g] [] =
    some (.t [.a [.rslice (rowsI (actQ c q cmd)), I (actA c q last cmd n g)], W (actA c q last cmd n g)], []) := by
  by_cases hok : c.ok
  · rw [actQ, actA, if_pos hok, if_pos hok]
    exact R_Actuate_ok hok q (last5 q) rfl hq last cmd n g
  · have h0 := R_CheckCar_any c
    rw [carF, if_neg hok] at h0
    simp only [carC] at h0
    rw [R_fn F_drive_Actuate rfl, actQ, actA, if_neg hok, if_neg hok]
    simp [c_drive_Actuate, carC, h0, newAt]
theorem R_refActuate (c : Car) (q : List Int) (hq : q.length ≤ 900) (last cmd n g : Int) : R L Cs f_kerbstoneref08_Actuate [.a (carC c), .a [.rslice (rowsI q), I last], W cmd, W n, W g] [] =
    some (.t [.a [.rslice (rowsI (actQ c q cmd)), I (actA c q last cmd n g)], W (actA c q last cmd n g)], []) := by
  by_cases hok : c.ok
  · rw [actQ, actA, if_pos hok, if_pos hok]
    exact R_refActuate_ok hok q (last5 q) rfl hq last cmd n g
  · have h0 := R_refCheckCar_any c
    rw [carF, if_neg hok] at h0
    simp only [carC] at h0
    rw [R_fn F_kerbstoneref08_Actuate rfl, actQ, actA, if_neg hok, if_neg hok]
    simp [c_kerbstoneref08_Actuate, carC, h0, newAt]
theorem actQ_len (c : Car) (q : List Int) (cmd : Int) : (actQ c q cmd).length ≤ 6 := by
  unfold actQ actD last5
  split
  · split <;> simp <;> omega
  · simp

/-! ### Two lists held against each other -/
theorem wrap_succ {i : Nat} (h : i ≤ 1000000) : IntKind.i64.wrap ((i : Int) + 1) = ((i + 1 : Nat) : Int) := by
  rw [i64_id _ (by omega) (by omega)]; omega
theorem same_loop (l : List Int) (hl : l.length ≤ 900) : ∀ (r : List Int) (i : Nat), l.drop i = r → i ≤ l.length →
    Y L Cs c_kerbstonekit_SameLongs_l1 (some [0, 1, 5]) 0 [(0, .w (.c (.rslice (rowsI l)))), (1, .w (.c (.rslice (rowsI l)))), (5, .w (W i))] [] =
      some (.exit 0, [(15, .w (Bo false)), (1, .w (.c (.rslice (rowsI l)))), (0, .w (.c (.rslice (rowsI l)))), (5, .w (W l.length))], []) := by
  intro r
  induction r with
  | nil =>
    intro i hd hi
    have : i = l.length := by
      have := congrArg List.length hd
      simp at this; omega
    subst this
    rw [Y_step c_kerbstonekit_SameLongs_l1.eq_1]
    simp
  | cons x r ih =>
    intro i hd hi
    have hil : i < l.length := by
      have := congrArg List.length hd
      simp at this; omega
    have hd' : l.drop (i + 1) = r := by
      rw [List.drop_eq_getElem_cons hil] at hd
      exact (List.cons.inj hd).2
    have hw := wrap_succ (i := i) (by omega)
    rw [← ih (i + 1) hd' hil, Y_step c_kerbstonekit_SameLongs_l1.eq_1]
    simp [hil, hw]
theorem R_SameLongs (l : List Int) (hl : l.length ≤ 900) : R L Cs f_kerbstonekit_SameLongs [.c (.rslice (rowsI l)), .c (.rslice (rowsI l))] [] = some (.w (Bo true), []) := by
  have h := same_loop l hl l 0 rfl (Nat.zero_le _)
  simp only [Int.natCast_zero] at h
  rw [R_fn F_kerbstonekit_SameLongs rfl]
  simp [c_kerbstonekit_SameLongs, h]
end Go.DrvRun

set_option maxRecDepth 10000
namespace Go.DrvRun
open Go Go.Eng
abbrev memD (c : Car) (xq : List Int) (xl : Int) (fz : Bool) (v : Nat) (va : Nat) (A : Cl) (la : Int) (vb : Nat) (q : List Int) (lb : Int) : Mem :=
  [bx 5 (carC c), bx 2 [.rslice (rowsI xq), I xl], some { box := false, esz := 1, rows := rowsI xq, gen := xq.length, fz := fz, ver := v }, bxv va 2 [A, I la], bxv vb 2 [.rslice (rowsI q), I lb]]
abbrev envD (i : Int) (cs : List Int) (n g : Int) : Env := [(13, .w (W i)), (2, .w (.c (.rslice (rowsI cs)))), (3, .w (W n)), (4, .w (W g)), (5, .w (Pt 0)), (11, .w (Pt 3)), (12, .w (Pt 4)), (6, .w (Pt 1))]
set_option maxHeartbeats 4000000 in
theorem act_loop (c : Car) (xq : List Int) (xl : Int) (fz : Bool) (v : Nat) (cs : List Int) (hcs : cs.length ≤ 900) (n g : Int) : ∀ (r : List Int) (i : Nat) (q : List Int) (l : Int) (va vb : Nat), cs.drop i = r → 1 ≤ i → i ≤ cs.length → q.length ≤ 900 →
    ∃ q' l' va' vb', Y L Cs c_kerbstonelaw08_DriveActuates_l1 (some [13, 2, 3, 4, 5, 11, 12, 6]) 5 (envD i cs n g) (memD c xq xl fz v va (.rslice (rowsI q)) l vb q l) =
      some (.exit 0, (39, .w (Bo false)) :: envD cs.length cs n g, memD c xq xl fz v va' (.rslice (rowsI q')) l' vb' q' l') := by
  intro r
  induction r with
  | nil =>
    intro i q l va vb hd h1 hi hq
    have : i = cs.length := by
      have := congrArg List.length hd
      simp at this; omega
    subst this
    refine ⟨q, l, va, vb, ?_⟩
    simp only [memD, envD, carC]
    rw [Y_step c_kerbstonelaw08_DriveActuates_l1.eq_1]
    simp
  | cons x r ih =>
    intro i q l va vb hd h1 hi hq
    have hil : i < cs.length := by
      have := congrArg List.length hd
      simp at this; omega
    have hd' : cs.drop (i + 1) = r := by
      rw [List.drop_eq_getElem_cons hil] at hd
      exact (List.cons.inj hd).2
    have hx : cs[i] = x := by
      rw [List.drop_eq_getElem_cons hil] at hd
      exact (List.cons.inj hd).1
    have hw := wrap_succ (i := i) (by omega)
    have hz : ((i : Int) == 0) = false := by simp; omega
    have k1 := R_Actuate c q hq l x n g
    have k2 := R_refActuate c q hq l x n g
    have k3 := R_SameLongs (actQ c q x) (by have := actQ_len c q x; omega)
    obtain ⟨q', l', va', vb', h⟩ := ih (i + 1) (actQ c q x) (actA c q l x n g) (va + 1) (vb + 1) hd' (by omega) hil (by have := actQ_len c q x; omega)
    refine ⟨q', l', va', vb', ?_⟩
    rw [← h, Y_step c_kerbstonelaw08_DriveActuates_l1.eq_1]
    clear ih h
    generalize actQ c q x = y at *
    generalize actA c q l x n g = z at *
    simp only [memD, envD, carC] at k1 k2 ⊢
    simp [hil, hx, hw, hz, k1, k2, k3, newAt]
end Go.DrvRun

set_option maxRecDepth 10000
namespace Go.DrvRun
open Go Go.Eng
theorem R_awake : R L Cs f_kerbstonelaw08_awake [] [] = some (.w (Bo true), []) := He72
set_option maxHeartbeats 4000000 in
theorem act_first (c : Car) (xq : List Int) (hxq : xq.length ≤ 8) (xl : Int) (cs : List Int) (hcs : cs.length ≤ 900) (n g : Int) (v0 : Nat) : 
    ∃ q' l' va' vb' fz v, Y L Cs c_kerbstonelaw08_DriveActuates_l1 (some [13, 2, 3, 4, 5, 11, 12, 6]) 5 (envD 0 cs n g) (memD c xq xl false xq.length 1 (.slice 2 xq.length 1 0 xq.length none) xl 1 xq xl) =
      some (.exit 0, (39, .w (Bo false)) :: envD cs.length cs n g, memD c xq xl fz v va' (if cs.length = 0 then .slice 2 xq.length 1 0 xq.length none else .rslice (rowsI q')) l' vb' q' l') := by
  cases cs with
  | nil =>
    refine ⟨xq, xl, 1, 1, false, xq.length, ?_⟩
    simp only [memD, envD, carC]
    rw [Y_step c_kerbstonelaw08_DriveActuates_l1.eq_1]
    simp
  | cons x r =>
    have k1 := R_Actuate c xq (by omega) xl x n g
    have k2 := R_refActuate c xq (by omega) xl x n g
    have k3 := R_SameLongs (actQ c xq x) (by have := actQ_len c xq x; omega)
    have k4 := R_SameLongs xq (by omega)
    obtain ⟨q', l', va', vb', h⟩ := act_loop c xq xl true (xq.length + 1) (x :: r) hcs n g r 1 (actQ c xq x) (actA c xq xl x n g) 2 2 rfl (Nat.le_refl _) (by simp) (by have := actQ_len c xq x; omega)
    refine ⟨q', l', va', vb', true, xq.length + 1, ?_⟩
    rw [if_neg (by simp), ← h, Y_step c_kerbstonelaw08_DriveActuates_l1.eq_1]
    clear h
    have hlt : (0 : Int) < (r.length : Int) + 1 := by omega
    have hw : IntKind.i64.wrap 1 = 1 := rfl
    generalize actQ c xq x = y at *
    generalize actA c xq xl x n g = z at *
    simp only [memD, envD, carC] at k1 k2 ⊢
    simp [hlt, hw, k1, k2, k3, k4, newAt, markOne]
set_option maxHeartbeats 4000000 in
theorem R_DriveActuates (c : Car) (xq : List Int) (xl : Int) (cs : List Int) (n g : Int) : R L Cs f_kerbstonelaw08_DriveActuates [.a (carC c), .a [.rslice (rowsI xq), I xl], .c (.rslice (rowsI cs)), W n, W g] [] = some (.w (Bo true), []) := by
  have ha := R_awake
  rw [R_fn F_kerbstonelaw08_DriveActuates rfl]
  by_cases c1 : (8 : Int) < xq.length
  · have c1' : 8 < xq.length := by omega
    simp [c_kerbstonelaw08_DriveActuates, carC, c1, c1', ha]
  have c1' : ¬ 8 < xq.length := by omega
  by_cases c2 : (12 : Int) < cs.length
  · have c2' : 12 < cs.length := by omega
    simp [c_kerbstonelaw08_DriveActuates, carC, c1, c1', c2, c2', ha]
  have c2' : ¬ 12 < cs.length := by omega
  obtain ⟨q', l', va', vb', fz, v, h⟩ := act_first c xq (by omega) xl cs (by omega) n g 0
  have hroom : xq.length * 8 ≤ 140737488355328 := by omega
  have hall : (∀ r : List Cl, r ∈ rowsI xq → r.length = 1) = True := eq_true (rowsI_one xq)
  generalize (if cs.length = 0 then Cl.slice 2 xq.length 1 0 xq.length none else .rslice (rowsI q')) = A at *
  cases xq with
  | nil =>
    simp only [memD, envD, carC, rowsI_nil, List.length_nil] at h
    simp [c_kerbstonelaw08_DriveActuates, carC, c1, c1', c2, c2', ha, h, newAt]
  | cons y xq =>
    simp only [memD, envD, carC, rowsI_cons, List.length_cons] at h hroom
    have hall2 : (∀ r : List Cl, r ∈ rowsI xq → r.length = 1) = True := eq_true (rowsI_one xq)
    clear hall
    have d1 : ¬ (8 : Int) < (xq.length : Int) + 1 := by simpa using c1
    have d2 : ¬ 8 < xq.length + 1 := by simpa using c1'
    clear c1 c1'
    simp [c_kerbstonelaw08_DriveActuates, carC, d1, d2, c2, c2', ha, h, newAt, hroom, hall2]
abbrev i64S : Sh := .int .i64
abbrev carS : Sh := .st [i64S, i64S, i64S, i64S, i64S]
abbrev actS : Sh := .st [.slice i64S, i64S]
theorem ints_of : ∀ {rows : List (List Cl)}, (∀ r ∈ rows, HasSh i64S r) → ∃ l, rows = rowsI l
  | [], _ => ⟨[], rfl⟩
  | r :: rows, h => by
    have h1 := h r (List.mem_cons_self ..)
    simp only [HasSh] at h1
    obtain ⟨a, rfl, q⟩ := h1
    obtain ⟨l, rfl⟩ := ints_of fun x hx => h x (List.mem_cons_of_mem _ hx)
    exact ⟨a :: l, rfl⟩
theorem runs_actuates : ∀ xs, HasArgs [carS, actS, .slice i64S, i64S, i64S] xs → ∃ M', R L Cs f_kerbstonelaw08_DriveActuates xs [] = some (.w (.c (.bool true)), M') := by
  intro xs h
  simp only [HasArgs] at h
  obtain ⟨c1, _, rfl, h1, c2, _, rfl, h2, c3, _, rfl, h3, c4, _, rfl, h4, c5, _, rfl, h5, rfl⟩ := h
  simp only [HasSh, HasShs] at h1 h2 h3 h4 h5
  obtain ⟨_, _, rfl, ⟨a1, rfl, _⟩, _, _, rfl, ⟨a2, rfl, _⟩, _, _, rfl, ⟨a3, rfl, _⟩, _, _, rfl, ⟨a4, rfl, _⟩, _, _, rfl, ⟨a5, rfl, _⟩, rfl⟩ := h1
  obtain ⟨_, _, rfl, ⟨rows, rfl, _, hrows⟩, _, _, rfl, ⟨xl, rfl, _⟩, rfl⟩ := h2
  obtain ⟨rows3, rfl, _, hrows3⟩ := h3
  obtain ⟨n, rfl, _⟩ := h4
  obtain ⟨g, rfl, _⟩ := h5
  obtain ⟨xq, rfl⟩ := ints_of (rows := rows) (fun r hr => by simp only [HasSh]; exact hrows r hr)
  obtain ⟨cs, rfl⟩ := ints_of (rows := rows3) (fun r hr => by simp only [HasSh]; exact hrows3 r hr)
  exact ⟨[], R_DriveActuates ⟨a1, a2, a3, a4, a5⟩ xq xl cs n g⟩
end Go.DrvRun

