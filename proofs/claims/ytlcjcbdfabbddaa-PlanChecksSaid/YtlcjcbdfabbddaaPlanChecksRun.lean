/- Checks of any car and any plan; acts, tails, equal plans. -/
import Derived.Test.YtlcjcbdfabbddaaPlanRun
set_option linter.unusedVariables false
set_option linter.unusedSimpArgs false
set_option linter.unusedSectionVars false
/- Checks of any car and any plan; acts, tails, equal plans. -/
set_option linter.unusedVariables false
set_option linter.unusedSimpArgs false
set_option maxRecDepth 10000
namespace Go.PlanRun
open Go Go.Eng Go.PlanLaw

def carF (c : Car) : Int := if c.ok then 0 else 2
theorem R_CheckCar_any (c : Car) : R L Cs f_plan_CheckCar [.a (carC c)] [] = some (.w (W (carF c)), []) := by
  by_cases h : c.ok
  · rw [carF, if_pos h]; exact R_CheckCar h
  rw [carF, if_neg h, R_fn F_plan_CheckCar rfl]
  have e : ¬ (((decide (300 ≤ c.len) && decide (c.len ≤ 20000)) = true) ∧ ((decide (1 ≤ c.accel) && decide (c.accel ≤ 30)) = true) ∧ ((decide (20 ≤ c.brake) && decide (c.brake ≤ 90)) = true) ∧ ((decide (5 ≤ c.rate) && decide (c.rate ≤ 120)) = true) ∧ ((decide (0 ≤ c.delay) && decide (c.delay ≤ 5)) = true)) := by
    intro e
    simp only [Bool.and_eq_true, decide_eq_true_eq] at e
    exact h (by simp only [Car.ok]; omega)
  have w1 := R_within c.len 300 20000
  have w2 := R_within c.accel 1 30
  have w3 := R_within c.brake 20 90
  have w4 := R_within c.rate 5 120
  have w5 := R_within c.delay 0 5
  generalize (decide (300 ≤ c.len) && decide (c.len ≤ 20000)) = b1 at *
  generalize (decide (1 ≤ c.accel) && decide (c.accel ≤ 30)) = b2 at *
  generalize (decide (20 ≤ c.brake) && decide (c.brake ≤ 90)) = b3 at *
  generalize (decide (5 ≤ c.rate) && decide (c.rate ≤ 120)) = b4 at *
  generalize (decide (0 ≤ c.delay) && decide (c.delay ≤ 5)) = b5 at *
  cases b1 with
  | false => simp [c_plan_CheckCar, carC, w1]
  | true => cases b2 with
    | false => simp [c_plan_CheckCar, carC, w1, w2]
    | true => cases b3 with
      | false => simp [c_plan_CheckCar, carC, w1, w2, w3]
      | true => cases b4 with
        | false => simp [c_plan_CheckCar, carC, w1, w2, w3, w4]
        | true => cases b5 with
          | false => simp [c_plan_CheckCar, carC, w1, w2, w3, w4, w5]
          | true => simp at e
theorem R_refCheckCar_any (c : Car) : R L Cs f_kerbstoneref07_CheckCar [.a (carC c)] [] = some (.w (W (carF c)), []) := by
  by_cases h : c.ok
  · rw [carF, if_pos h]; exact R_refCheckCar h
  rw [carF, if_neg h, R_fn F_kerbstoneref07_CheckCar rfl]
  by_cases h1 : c.len < 300
  · simp [c_kerbstoneref07_CheckCar, carC, h1]
  by_cases h2 : 20000 < c.len
  · simp [c_kerbstoneref07_CheckCar, carC, h1, h2]
  by_cases h3 : c.accel < 1
  · simp [c_kerbstoneref07_CheckCar, carC, h1, h2, h3]
  by_cases h4 : 30 < c.accel
  · simp [c_kerbstoneref07_CheckCar, carC, h1, h2, h3, h4]
  by_cases h5 : c.brake < 20
  · simp [c_kerbstoneref07_CheckCar, carC, h1, h2, h3, h4, h5]
  by_cases h6 : 90 < c.brake
  · simp [c_kerbstoneref07_CheckCar, carC, h1, h2, h3, h4, h5, h6]
  by_cases h7 : c.rate < 5
  · simp [c_kerbstoneref07_CheckCar, carC, h1, h2, h3, h4, h5, h6, h7]
  by_cases h8 : 120 < c.rate
  · simp [c_kerbstoneref07_CheckCar, carC, h1, h2, h3, h4, h5, h6, h7, h8]
  by_cases h9 : c.delay < 0
  · simp [c_kerbstoneref07_CheckCar, carC, h1, h2, h3, h4, h5, h6, h7, h8, h9]
  by_cases h10 : 5 < c.delay
  · simp [c_kerbstoneref07_CheckCar, carC, h1, h2, h3, h4, h5, h6, h7, h8, h9, h10]
  exact absurd (by simp only [Car.ok]; omega) h
theorem R_Check_any (c : Car) (l : List Int) (hl : l.length ≤ 1000) : R L Cs f_plan_Check [.a (carC c), .a [.rslice (rowsI l)]] [] = some (.w (W (checkF c l)), []) := by
  by_cases h : c.ok
  · exact R_Check h l hl
  have h1 := R_CheckCar_any c
  rw [carF, if_neg h] at h1
  simp only [carC] at h1
  rw [checkF, if_pos h, R_fn F_plan_Check rfl]
  simp [c_plan_Check, carC, h1]

def actF (l : List Int) (i : Int) : Int := if l.length = 0 then 0 else (l[(max 0 (min i (l.length - 1))).toNat]?).getD 0
theorem R_Act (l : List Int) (hl : l.length ≤ 1000) (i : Int) : R L Cs f_plan_Act [.a [.rslice (rowsI l)], W i] [] = some (.w (W (actF l i)), []) := by
  rw [R_fn F_plan_Act rfl]
  by_cases h : l.length = 0
  · have hn : l = [] := List.eq_nil_of_length_eq_zero h
    subst hn
    simp [c_plan_Act, actF]
  · have h1 : ¬ (l.length : Int) = 0 := by omega
    have hb : ((l.length : Int) == 0) = false := by simpa using h1
    have hw : IntKind.i64.wrap ((l.length : Int) - 1) = (l.length : Int) - 1 := i64_id _ (by omega) (by omega)
    have hm : min (max i 0) ((l.length : Int) - 1) = max 0 (min i ((l.length : Int) - 1)) := by omega
    have hk : (max 0 (min i ((l.length : Int) - 1))).toNat < l.length := by omega
    have hk0 : 0 ≤ max 0 (min i ((l.length : Int) - 1)) ∧ max 0 (min i ((l.length : Int) - 1)) < l.length := by omega
    rw [actF, if_neg h]
    generalize max 0 (min i ((l.length : Int) - 1)) = m at *
    simp [c_plan_Act, hb, hw, hm, hk, hk0]
theorem R_refAct (l : List Int) (hl : l.length ≤ 1000) (i : Int) : R L Cs f_kerbstoneref07_Act [.a [.rslice (rowsI l)], W i] [] = some (.w (W (actF l i)), []) := by
  rw [R_fn F_kerbstoneref07_Act rfl]
  by_cases h : l.length = 0
  · have hn : l = [] := List.eq_nil_of_length_eq_zero h
    subst hn
    simp [c_kerbstoneref07_Act, actF]
  · have h1 : ¬ (l.length : Int) = 0 := by omega
    have hb : ((l.length : Int) == 0) = false := by simpa using h1
    have hw : IntKind.i64.wrap ((l.length : Int) - 1) = (l.length : Int) - 1 := i64_id _ (by omega) (by omega)
    have hk : (max 0 (min i ((l.length : Int) - 1))).toNat < l.length := by omega
    have hk0 : 0 ≤ max 0 (min i ((l.length : Int) - 1)) ∧ max 0 (min i ((l.length : Int) - 1)) < l.length := by omega
    rw [actF, if_neg h]
    generalize hm : max 0 (min i ((l.length : Int) - 1)) = m at *
    simp [c_kerbstoneref07_Act, hb, hw, hm, hk, hk0]

def tailF (l : List Int) : List Int := if 1 < l.length then l.drop 1 else l
theorem clone_ok (l : List Int) (hl : l.length ≤ 1000) : R L Cs f_slices_Clone_int64 [.c (.rslice (rowsI l))] [] = some (.w (.c (sl 0 1 (rowsI l))), [some (own 1 (rowsI l))]) := by
  have hr : l.length * 8 ≤ 140737488355328 := by omega
  rw [R_oracle rfl]
  simp [clones, Cs, cloneX, hr]
theorem R_Tail (l : List Int) (hl : l.length ≤ 1000) : R L Cs f_plan_Tail [.a [.rslice (rowsI l)]] [] = some (.w (.a [sl 0 1 (rowsI (tailF l))]), [some (own 1 (rowsI (tailF l)))]) := by
  have hc := clone_ok (tailF l) (by unfold tailF; split <;> first | omega | (simp; omega))
  rw [R_fn F_plan_Tail rfl]
  match l, hl, hc with
  | [], hl, hc => simp [tailF] at hc; simp [c_plan_Tail, tailF, hc]
  | [x], hl, hc => simp [tailF] at hc; simp [c_plan_Tail, tailF, hc]
  | x :: y :: t, hl, hc =>
    have h1 : (1 : Int) < (t.length : Int) + 1 + 1 := by omega
    have h2 : (1 : Int) ≤ (t.length : Int) + 1 + 1 := by omega
    have h3 : (0 : Int) ≤ (t.length : Int) + 1 + 1 := by omega
    have h4 : 1 + (t.length + 1) ≤ t.length + 1 + 1 := by omega
    simp [tailF] at hc
    simp [c_plan_Tail, tailF, hc, h1, h2, h3, h4]
theorem R_refTail (l : List Int) (hl : l.length ≤ 1000) : R L Cs f_kerbstoneref07_Tail [.a [.rslice (rowsI l)]] [] = some (.w (.a [.rslice (rowsI (tailF l))]), []) := by
  rw [R_fn F_kerbstoneref07_Tail rfl]
  match l, hl with
  | [], hl => simp [c_kerbstoneref07_Tail, tailF]
  | [x], hl => simp [c_kerbstoneref07_Tail, tailF]
  | x :: y :: t, hl =>
    have h1 : (1 : Int) < (t.length : Int) + 1 + 1 := by omega
    have h2 : (1 : Int) ≤ (t.length : Int) + 1 + 1 := by omega
    have h3 : (0 : Int) ≤ (t.length : Int) + 1 + 1 := by omega
    have h4 : 1 + (t.length + 1) ≤ t.length + 1 + 1 := by omega
    have h5 : (t.length + 1) * 8 ≤ 140737488355328 := by simp at hl; omega
    simp [c_kerbstoneref07_Tail, tailF, h1, h2, h3, h4, h5]
end Go.PlanRun

/- Equal plans. -/
set_option linter.unusedVariables false
set_option linter.unusedSimpArgs false
set_option maxRecDepth 10000
namespace Go.PlanRun
open Go Go.Eng Go.PlanLaw

def pre : List Int → List Int → Bool
  | [], _ => true
  | _, [] => true
  | x :: xs, y :: ys => x == y && pre xs ys
theorem pre_eq : ∀ {a b : List Int}, (pre a b && decide (a.length = b.length)) = decide (a = b)
  | [], [] => by simp [pre]
  | [], y :: b => by simp [pre]
  | x :: a, [] => by simp [pre]
  | x :: a, y :: b => by
    have h := pre_eq (a := a) (b := b)
    by_cases hx : x = y
    · subst hx
      simpa [pre] using h
    · simp [pre, hx]
theorem refsame_loop (a b : List Int) (ha : a.length ≤ 1000) (hb : b.length ≤ 1000) : ∀ (ra rb : List Int) (i : Nat), a.drop i = ra → b.drop i = rb → i ≤ a.length → i ≤ b.length →
    (pre ra rb = true → ∃ k : Nat, Y L Cs c_kerbstoneref07_Same_l1 (some [2, 3, 5]) 2 [(2, .w (Pt 0)), (3, .w (Pt 1)), (5, .w (W i))] [some (planB a), some (planB b)] = some (.exit 0, [(17, .w (Bo false)), (3, .w (Pt 1)), (2, .w (Pt 0)), (5, .w (W k))], [some (planB a), some (planB b)])) ∧
    (pre ra rb = false → Y L Cs c_kerbstoneref07_Same_l1 (some [2, 3, 5]) 2 [(2, .w (Pt 0)), (3, .w (Pt 1)), (5, .w (W i))] [some (planB a), some (planB b)] = some (.ret, [(4, .w (Bo false))], [some (planB a), some (planB b)])) := by
  intro ra
  induction ra with
  | nil =>
    intro rb i hda hdb hia hib
    obtain rfl := drop_nil hda hia
    refine ⟨fun _ => ⟨a.length, Y_done ?_ (by simp)⟩, fun h => by simp [pre] at h⟩
    simp [c_kerbstoneref07_Same_l1, planB]
  | cons x ra ih =>
    intro rb i hda hdb hia hib
    obtain ⟨hila, hxa, hda'⟩ := drop_cons hda
    cases rb with
    | nil =>
      obtain rfl := drop_nil hdb hib
      refine ⟨fun _ => ⟨b.length, Y_done ?_ (by simp)⟩, fun h => by simp [pre] at h⟩
      simp [c_kerbstoneref07_Same_l1, planB, hila]
    | cons y rb =>
      obtain ⟨hilb, hxb, hdb'⟩ := drop_cons hdb
      have hw := wrap_succ (i := i) (by omega)
      by_cases hxy : x = y
      · have hne : (x != y) = false := by simp [hxy]
        have hstep : Y L Cs c_kerbstoneref07_Same_l1 (some [2, 3, 5]) 2 [(2, .w (Pt 0)), (3, .w (Pt 1)), (5, .w (W i))] [some (planB a), some (planB b)] = Y L Cs c_kerbstoneref07_Same_l1 (some [2, 3, 5]) 2 [(2, .w (Pt 0)), (3, .w (Pt 1)), (5, .w (W (i + 1 : Nat)))] [some (planB a), some (planB b)] := by
          rw [Y_eq]
          simp [c_kerbstoneref07_Same_l1, planB, hila, hilb, hxa, hxb, hne, hw]
        rw [hstep]
        have := ih rb (i + 1) hda' hdb' hila hilb
        simpa [pre, hxy] using this
      · have hne : (x != y) = true := by simp [hxy]
        refine ⟨fun h => by simp [pre, hxy] at h, fun _ => Y_done ?_ (by simp)⟩
        simp [c_kerbstoneref07_Same_l1, planB, hila, hilb, hxa, hxb, hne]
theorem R_refSame (a b : List Int) (ha : a.length ≤ 1000) (hb : b.length ≤ 1000) : R L Cs f_kerbstoneref07_Same [.a [.rslice (rowsI a)], .a [.rslice (rowsI b)]] [] = some (.w (Bo (decide (a = b))), []) := by
  obtain ⟨h1, h2⟩ := refsame_loop a b ha hb a b 0 rfl rfl (Nat.zero_le _) (Nat.zero_le _)
  rw [← pre_eq]
  rw [R_fn F_kerbstoneref07_Same rfl]
  cases hp : pre a b with
  | true =>
    obtain ⟨k, h1⟩ := h1 hp
    simp [planB] at h1
    have hl : ((a.length : Int) == (b.length : Int)) = decide (a.length = b.length) := by
      by_cases h : a.length = b.length <;> simp [h]
      omega
    simp [c_kerbstoneref07_Same, h1, hl]
  | false =>
    have h2 := h2 hp
    simp [planB] at h2
    simp [c_kerbstoneref07_Same, h2]
theorem equal_loop (a b : List Int) (hab : a.length = b.length) (ha : a.length ≤ 1000) : ∀ (ra rb : List Int) (i : Nat), a.drop i = ra → b.drop i = rb → i ≤ a.length →
    (pre ra rb = true → ∃ E', Y L Cs c_slices_Equal_int64_l1 (some [12, 0, 1, 13]) 0 [(12, .w (W a.length)), (0, .w (.c (.rslice (rowsI a)))), (1, .w (.c (.rslice (rowsI b)))), (13, .w (W i))] [] = some (.exit 0, E', [])) ∧
    (pre ra rb = false → Y L Cs c_slices_Equal_int64_l1 (some [12, 0, 1, 13]) 0 [(12, .w (W a.length)), (0, .w (.c (.rslice (rowsI a)))), (1, .w (.c (.rslice (rowsI b)))), (13, .w (W i))] [] = some (.ret, [(4, .w (Bo false))], [])) := by
  intro ra
  induction ra with
  | nil =>
    intro rb i hda hdb hia
    obtain rfl := drop_nil hda hia
    refine ⟨fun _ => ⟨[(14, .w (Bo false)), (1, .w (.c (.rslice (rowsI b)))), (0, .w (.c (.rslice (rowsI a)))), (12, .w (W a.length)), (13, .w (W a.length))], Y_done ?_ (by simp)⟩, fun h => by simp [pre] at h⟩
    simp [c_slices_Equal_int64_l1]
  | cons x ra ih =>
    intro rb i hda hdb hia
    obtain ⟨hila, hxa, hda'⟩ := drop_cons hda
    have hilb0 : i < b.length := by omega
    cases rb with
    | nil =>
      have := drop_nil hdb (by omega)
      omega
    | cons y rb =>
      obtain ⟨hilb, hxb, hdb'⟩ := drop_cons hdb
      have hw := wrap_succ (i := i) (by omega)
      by_cases hxy : x = y
      · have hne : (x != y) = false := by simp [hxy]
        have hstep : Y L Cs c_slices_Equal_int64_l1 (some [12, 0, 1, 13]) 0 [(12, .w (W a.length)), (0, .w (.c (.rslice (rowsI a)))), (1, .w (.c (.rslice (rowsI b)))), (13, .w (W i))] [] = Y L Cs c_slices_Equal_int64_l1 (some [12, 0, 1, 13]) 0 [(12, .w (W a.length)), (0, .w (.c (.rslice (rowsI a)))), (1, .w (.c (.rslice (rowsI b)))), (13, .w (W (i + 1 : Nat)))] [] := by
          rw [Y_eq]
          simp [c_slices_Equal_int64_l1, hila, hilb, hxa, hxb, hne, hw]
        rw [hstep]
        have := ih rb (i + 1) hda' hdb' hila
        simpa [pre, hxy] using this
      · have hne : (x != y) = true := by simp [hxy]
        refine ⟨fun h => by simp [pre, hxy] at h, fun _ => Y_done ?_ (by simp)⟩
        simp [c_slices_Equal_int64_l1, hila, hilb, hxa, hxb, hne]
theorem R_Equal (a b : List Int) (ha : a.length ≤ 1000) (hb : b.length ≤ 1000) : R L Cs f_slices_Equal_int64 [.c (.rslice (rowsI a)), .c (.rslice (rowsI b))] [] = some (.w (Bo (decide (a = b))), []) := by
  rw [R_fn F_slices_Equal_int64 rfl]
  by_cases hab : a.length = b.length
  · obtain ⟨h1, h2⟩ := equal_loop a b hab ha a b 0 rfl rfl (Nat.zero_le _)
    rw [← pre_eq]
    have hne : ((a.length : Int) != (b.length : Int)) = false := by simp [hab]
    cases hp : pre a b with
    | true =>
      obtain ⟨E', h1⟩ := h1 hp
      simp only [Int.natCast_zero, hab] at h1
      simp [c_slices_Equal_int64, h1, hne, hab]
    | false =>
      have h2 := h2 hp
      simp only [Int.natCast_zero, hab] at h2
      simp [c_slices_Equal_int64, h2, hne, hab]
  · have hne : ((a.length : Int) != (b.length : Int)) = true := by simp; omega
    have : ¬ a = b := fun h => hab (by rw [h])
    simp [c_slices_Equal_int64, hne, this]
theorem R_Same (a b : List Int) (ha : a.length ≤ 1000) (hb : b.length ≤ 1000) : R L Cs f_plan_Same [.a [.rslice (rowsI a)], .a [.rslice (rowsI b)]] [] = some (.w (Bo (decide (a = b))), []) := by
  have h := R_Equal a b ha hb
  rw [R_fn F_plan_Same rfl]
  simp [c_plan_Same, h]
end Go.PlanRun

/- What the reference's check answers. -/
set_option linter.unusedVariables false
set_option linter.unusedSimpArgs false
set_option maxRecDepth 10000
namespace Go.PlanRun
open Go Go.Eng Go.PlanLaw

theorem refcheck_loop1 {c : Car} (hc : c.ok) (l : List Int) (hl : l.length ≤ 1000) : ∀ (r : List Int) (i : Nat), l.drop i = r → i ≤ l.length →
    (r.any (badA c) = false → Y L Cs c_kerbstoneref07_Check_l1 (some [3, 2, 6]) 2 [(3, .w (Pt 1)), (2, .w (Pt 0)), (6, .w (W i))] [some (carB c), some (planB l)] = some (.exit 0, [(26, .w (Bo false)), (2, .w (Pt 0)), (3, .w (Pt 1)), (6, .w (W l.length))], [some (carB c), some (planB l)])) ∧
    (r.any (badA c) = true → Y L Cs c_kerbstoneref07_Check_l1 (some [3, 2, 6]) 2 [(3, .w (Pt 1)), (2, .w (Pt 0)), (6, .w (W i))] [some (carB c), some (planB l)] = some (.ret, [(4, .w (W 2))], [some (carB c), some (planB l)])) := by
  intro r
  have hcc := hc
  obtain ⟨q1, q2, q3, q4, q5, q6, q7, q8, q9, q10⟩ := hcc
  have hwb : IntKind.i64.wrap (-c.brake) = -c.brake := i64_id _ (by omega) (by omega)
  induction r with
  | nil =>
    intro i hd hi
    obtain rfl := drop_nil hd hi
    refine ⟨fun _ => Y_done ?_ (by simp), fun h => by simp at h⟩
    simp [c_kerbstoneref07_Check_l1, planB]
  | cons x r ih =>
    intro i hd hi
    obtain ⟨hil, hx, hd'⟩ := drop_cons hd
    obtain ⟨ih1, ih2⟩ := ih (i + 1) hd' hil
    have hw := wrap_succ (i := i) (by omega)
    by_cases hb : badA c x = true
    · refine ⟨fun h => by simp [hb] at h, fun _ => Y_done ?_ (by simp)⟩
      simp [badA] at hb
      by_cases h1 : x < -c.brake
      · simp [c_kerbstoneref07_Check_l1, hil, hx, planB, carB, carC, hwb, h1]
      · have h2 : c.accel < x := by omega
        simp [c_kerbstoneref07_Check_l1, hil, hx, planB, carB, carC, hwb, h1, h2]
    · have hb' : badA c x = false := by simpa using hb
      have h1 : ¬ x < -c.brake := by simp [badA] at hb'; omega
      have h2 : ¬ c.accel < x := by simp [badA] at hb'; omega
      have hstep : Y L Cs c_kerbstoneref07_Check_l1 (some [3, 2, 6]) 2 [(3, .w (Pt 1)), (2, .w (Pt 0)), (6, .w (W i))] [some (carB c), some (planB l)] = Y L Cs c_kerbstoneref07_Check_l1 (some [3, 2, 6]) 2 [(3, .w (Pt 1)), (2, .w (Pt 0)), (6, .w (W (i + 1 : Nat)))] [some (carB c), some (planB l)] := by
        rw [Y_eq]
        simp [c_kerbstoneref07_Check_l1, hil, hx, planB, carB, carC, hwb, h1, h2, hw]
      rw [hstep]
      simp only [List.any_cons, hb', Bool.false_or]
      exact ⟨ih1, ih2⟩
theorem refcheck_loop2 {c : Car} (hc : c.ok) (l : List Int) (hl : l.length ≤ 1000) (hr : ∀ x ∈ l, -1000 ≤ x ∧ x ≤ 1000) : ∀ (r : List Int) (i : Nat) (a : Int), l.drop i = a :: r → i < l.length →
    (badS c a r = false → Y L Cs c_kerbstoneref07_Check_l2 (some [3, 2, 7]) 2 [(3, .w (Pt 1)), (2, .w (Pt 0)), (7, .w (W (i + 1 : Nat)))] [some (carB c), some (planB l)] = some (.exit 2, [(61, .w (Bo false)), (2, .w (Pt 0)), (3, .w (Pt 1)), (7, .w (W l.length))], [some (carB c), some (planB l)])) ∧
    (badS c a r = true → Y L Cs c_kerbstoneref07_Check_l2 (some [3, 2, 7]) 2 [(3, .w (Pt 1)), (2, .w (Pt 0)), (7, .w (W (i + 1 : Nat)))] [some (carB c), some (planB l)] = some (.ret, [(4, .w (W 11))], [some (carB c), some (planB l)])) := by
  intro r
  have hcc := hc
  obtain ⟨q1, q2, q3, q4, q5, q6, q7, q8, q9, q10⟩ := hcc
  induction r with
  | nil =>
    intro i a hd hi
    obtain ⟨hil, hx, hd'⟩ := drop_cons hd
    have hlen := drop_nil hd' hil
    rw [hlen]
    refine ⟨fun _ => Y_done ?_ (by simp), fun h => by simp [badS] at h⟩
    simp [c_kerbstoneref07_Check_l2, planB]
  | cons x r ih =>
    intro i a hd hi
    obtain ⟨hil, hx, hd'⟩ := drop_cons hd
    obtain ⟨hil2, hx2, _⟩ := drop_cons hd'
    obtain ⟨ih1, ih2⟩ := ih (i + 1) x hd' hil2
    have hxr := hr x (by rw [← hx2]; exact List.getElem_mem hil2)
    have har := hr a (by rw [← hx]; exact List.getElem_mem hil)
    have hw := wrap_succ (i := i + 1) (by omega)
    have hws : IntKind.i64.wrap (x - a) = x - a := i64_id _ (by omega) (by omega)
    have hwn : IntKind.i64.wrap (-(x - a)) = -(x - a) := i64_id _ (by omega) (by omega)
    have hwi : IntKind.i64.wrap (((i + 1 : Nat) : Int) - 1) = (i : Int) := by rw [i64_id _ (by omega) (by omega)]; omega
    have hlt : ((i : Int) + 1 < l.length) := by omega
    have hwi2 : IntKind.i64.wrap (i : Int) = (i : Int) := i64_id _ (by omega) (by omega)
    have h0 : (0 : Int) ≤ (i : Int) + 1 := by omega
    have ht : ((i : Int) + 1).toNat = i + 1 := by omega
    have hw2 : IntKind.i64.wrap ((i : Int) + 1 + 1) = (i : Int) + 1 + 1 := i64_id _ (by omega) (by omega)
    by_cases hb : (decide (-c.rate ≤ x - a) && decide (x - a ≤ c.rate)) = true
    · have hb2 := hb
      simp only [Bool.and_eq_true, decide_eq_true_eq] at hb2
      have h1 : ¬ c.rate < x - a := by omega
      have h2 : ¬ c.rate < -(x - a) := by omega
      have hstep : Y L Cs c_kerbstoneref07_Check_l2 (some [3, 2, 7]) 2 [(3, .w (Pt 1)), (2, .w (Pt 0)), (7, .w (W (i + 1 : Nat)))] [some (carB c), some (planB l)] = Y L Cs c_kerbstoneref07_Check_l2 (some [3, 2, 7]) 2 [(3, .w (Pt 1)), (2, .w (Pt 0)), (7, .w (W (i + 1 + 1 : Nat)))] [some (carB c), some (planB l)] := by
        rw [Y_eq]
        simp [c_kerbstoneref07_Check_l2, hil, hil2, hx, hx2, planB, carB, carC, hws, hwn, hwi2, h1, h2, hw2, hlt, h0, ht]
      rw [hstep]
      simp only [badS, hb, Bool.not_true, Bool.false_or]
      exact ⟨ih1, ih2⟩
    · have hb' : (decide (-c.rate ≤ x - a) && decide (x - a ≤ c.rate)) = false := by simpa using hb
      refine ⟨fun h => (by simp only [badS, hb', Bool.not_false, Bool.true_or] at h; cases h), fun _ => Y_done ?_ (by simp)⟩
      simp only [Bool.and_eq_true, decide_eq_true_eq] at hb
      by_cases h1 : c.rate < x - a
      · simp [c_kerbstoneref07_Check_l2, hil, hil2, hx, hx2, planB, carB, carC, hws, hwn, hwi2, h1, hw2, hlt, h0, ht]
      · have h2 : c.rate < -(x - a) := by omega
        simp [c_kerbstoneref07_Check_l2, hil, hil2, hx, hx2, planB, carB, carC, hws, hwn, hwi2, h1, h2, hw2, hlt, h0, ht]
end Go.PlanRun

/- What the reference's check answers, for any car and any plan. -/
set_option linter.unusedVariables false
set_option linter.unusedSimpArgs false
set_option maxRecDepth 10000
namespace Go.PlanRun
open Go Go.Eng Go.PlanLaw

theorem R_refCheck (c : Car) (l : List Int) (hl : l.length ≤ 1000) : R L Cs f_kerbstoneref07_Check [.a (carC c), .a [.rslice (rowsI l)]] [] = some (.w (W (checkF c l)), []) := by
  have hck := R_refCheckCar_any c
  simp only [carC] at hck
  rw [R_fn F_kerbstoneref07_Check rfl]
  by_cases hc : ¬ c.ok
  · rw [carF, if_neg hc] at hck
    rw [checkF, if_pos hc]
    simp [c_kerbstoneref07_Check, carC, hck]
  have hc : c.ok := Classical.not_not.1 hc
  rw [carF, if_pos hc] at hck
  cases l with
  | nil => simp [c_kerbstoneref07_Check, carC, hck, checkF, hc]
  | cons x r =>
  have hne : ((r.length : Int) + 1 == 0) = false := by simp; omega
  by_cases h200 : 200 < r.length + 1
  · have h200' : (200 : Int) < (r.length : Int) + 1 := by omega
    simp [c_kerbstoneref07_Check, carC, hck, checkF, hc, hne, h200, h200']
  have h200' : ¬ (200 : Int) < (r.length : Int) + 1 := by omega
  have hlast : ∀ h, ([I x] :: rowsI r)[r.length]'h = [I ((x :: r).getLastD 0)] := by
    intro h
    have e : [I x] :: rowsI r = rowsI (x :: r) := rfl
    simp only [e, rowsI_getElem]
    simp [List.getLastD_eq_getLast?, List.getLast?_eq_getElem?]
  simp only [List.getLastD_cons] at hlast
  have hw : IntKind.i64.wrap (r.length : Int) = r.length := i64_id _ (by omega) (by omega)
  have hlt : (r.length : Int) < (r.length : Int) + 1 := by omega
  have hF : checkF c (x :: r) = if 0 < r.getLastD x then 2 else if (x :: r).any (badA c) = true then 2 else if badS c x (x :: r) = true then 11 else 0 := by
    unfold checkF
    rw [if_neg (by simp [hc]), if_neg (by simp), if_neg (by simpa using h200), List.getLastD_cons, List.headD_cons]
  rw [hF]
  generalize r.getLastD x = z at hlast
  obtain ⟨l1, l2⟩ := refcheck_loop1 hc (x :: r) hl (x :: r) 0 rfl (Nat.zero_le _)
  by_cases hb : (x :: r).any (badA c) = true
  · have l2 := l2 hb
    simp [carB, carC, planB] at l2
    have h2 : (if 0 < z then (2 : Int) else if (x :: r).any (badA c) = true then 2 else if badS c x (x :: r) = true then 11 else 0) = 2 := by split <;> simp [hb]
    rw [h2]
    simp [c_kerbstoneref07_Check, carC, hck, hne, h200', l2]
  · have hb : (x :: r).any (badA c) = false := by simpa using hb
    have l1 := l1 hb
    simp [carB, carC, planB] at l1
    have hr : ∀ y ∈ (x :: r), -1000 ≤ y ∧ y ≤ 1000 := by
      intro y hy
      have h1 := List.any_eq_false.1 hb y hy
      obtain ⟨q1, q2, q3, q4, q5, q6, q7, q8, q9, q10⟩ := hc
      simp [badA] at h1
      omega
    by_cases hz : 0 < z
    · rw [if_pos hz]
      simp [c_kerbstoneref07_Check, carC, hck, hne, h200', l1, hw, hlt, hlast, hz]
    · rw [if_neg hz, if_neg (show ¬ (x :: r).any (badA c) = true by rw [hb]; simp)]
      obtain ⟨k1, k2⟩ := refcheck_loop2 hc (x :: r) hl hr r 0 x rfl (by simp)
      have hs : badS c x (x :: r) = badS c x r := by
        obtain ⟨h1, h2, h3, h4, h5, h6, h7, h8, h9, h10⟩ := hc
        have e1 : decide (-c.rate ≤ x - x) = true := decide_eq_true (by omega)
        have e2 : decide (x - x ≤ c.rate) = true := decide_eq_true (by omega)
        simp only [badS, e1, e2, Bool.and_self, Bool.not_true, Bool.false_or]
      rw [hs]
      cases hbs : badS c x r with
      | false =>
        have k1 := k1 hbs
        simp [carB, carC, planB] at k1
        simp [c_kerbstoneref07_Check, carC, hck, hne, h200', l1, hw, hlt, hlast, hz, k1]
      | true =>
        have k2 := k2 hbs
        simp [carB, carC, planB] at k2
        simp [c_kerbstoneref07_Check, carC, hck, hne, h200', l1, hw, hlt, hlast, hz, k2]
end Go.PlanRun

/- The law PlanChecks returns true. -/
set_option linter.unusedVariables false
set_option linter.unusedSimpArgs false
set_option maxRecDepth 10000
namespace Go.PlanRun
open Go Go.Eng Go.PlanLaw

abbrev tB (n : Nat) : Blk := { box := true, esz := 1, rows := [[.slice 6 n 1 0 n none]], gen := 0, fz := false, ver := 1 }
theorem put_loop (n : Nat) (hn : n ≤ 1000) (A0 A1 A2 A3 A4 : Option Blk) : ∀ (m k : Nat) (rows : List (List Cl)) (ver : Nat), k + m = n → rows.length = n → (∀ r ∈ rows, r.length = 1) →
    ∃ B, Y L Cs c_kerbstonelaw07_PlanChecks_l1 (some [11, 5, 9, 10]) 7 [(11, .w (W k)), (5, .w (Pt 1)), (9, .w (Pt 4)), (10, .w (Pt 5))] [A0, A1, A2, A3, A4, some (tB n), some { box := false, esz := 1, rows := rows, gen := n, fz := false, ver := ver }] =
      some (.exit 0, [(77, .w (Bo false)), (11, .w (W n)), (5, .w (Pt 1)), (9, .w (Pt 4)), (10, .w (Pt 5))], [A0, A1, A2, A3, A4, some (tB n), some B]) := by
  intro m
  induction m with
  | zero =>
    intro k rows ver hk hr h1
    obtain rfl : k = n := by omega
    refine ⟨_, Y_done (r := (.exit 0, [(77, .w (Bo false)), (11, .w (W k)), (5, .w (Pt 1)), (9, .w (Pt 4)), (10, .w (Pt 5))], [A0, A1, A2, A3, A4, some (tB k), some { box := false, esz := 1, rows := rows, gen := k, fz := false, ver := ver }])) ?_ (by simp)⟩
    simp [c_kerbstonelaw07_PlanChecks_l1, tB]
  | succ m ih =>
    intro k rows ver hk hr h1
    have hlt : k < n := by omega
    have hlt' : (k : Int) < n := by omega
    have hkr : k < rows.length := by omega
    have hrow : (rows[k]'hkr).length = 1 := h1 _ (List.getElem_mem hkr)
    obtain ⟨x, hx⟩ : ∃ x, rows[k]'hkr = [x] := by
      match h : rows[k]'hkr, hrow with
      | [x], _ => exact ⟨x, rfl⟩
    obtain ⟨B, hB⟩ := ih (k + 1) (rows.set k [I 99]) (ver + 1) (by omega) (by simpa using hr) (by
      intro r hr'
      rcases List.mem_or_eq_of_mem_set hr' with h | h
      · exact h1 r h
      · rw [h]; rfl)
    have hw := wrap_succ (i := k) (by omega)
    refine ⟨B, ?_⟩
    rw [← hB, Y_eq]
    simp [c_kerbstonelaw07_PlanChecks_l1, tB, hlt, hlt', hx, hkr, hw]
set_option maxHeartbeats 4000000 in
theorem R_PlanChecks (c : Car) (p q : List Int) (i : Int) : R L Cs f_kerbstonelaw07_PlanChecks [.a (carC c), .a [.rslice (rowsI p)], .a [.rslice (rowsI q)], W i] [] = some (.w (Bo true), []) := by
  have haw := R_awake
  by_cases hp : 210 < p.length
  · have hp' : (210 : Int) < p.length := by omega
    rw [R_fn F_kerbstonelaw07_PlanChecks rfl]
    simp [c_kerbstonelaw07_PlanChecks, carC, haw, hp']
  have hp' : ¬ (210 : Int) < p.length := by omega
  by_cases hq : 210 < q.length
  · have hq' : (210 : Int) < q.length := by omega
    rw [R_fn F_kerbstonelaw07_PlanChecks rfl]
    simp [c_kerbstonelaw07_PlanChecks, carC, haw, hp', hq']
  have hq' : ¬ (210 : Int) < q.length := by omega
  have htl : (tailF p).length ≤ 210 := by unfold tailF; split <;> first | omega | (simp; omega)
  have k1 := R_CheckCar_any c
  have k2 := R_refCheckCar_any c
  have k3 := R_Check_any c p (by omega)
  have k4 := R_refCheck c p (by omega)
  have k5 := R_Act p (by omega) i
  have k6 := R_refAct p (by omega) i
  have k7 := R_Tail p (by omega)
  have k8 := R_refTail p (by omega)
  have k9 := R_refSame (tailF p) (tailF p) (by omega) (by omega)
  have k10 := R_Same p q (by omega) (by omega)
  have k11 := R_refSame p q (by omega) (by omega)
  have k12 := R_Same p p (by omega) (by omega)
  have k13 := R_refSame p p (by omega) (by omega)
  have hroom : p.length * 8 ≤ 140737488355328 := by omega
  have hloop := fun A0 A1 A2 A3 A4 => put_loop (tailF p).length (by omega) A0 A1 A2 A3 A4 (tailF p).length 0 (rowsI (tailF p)) (tailF p).length (by omega) (by simp) (by simp)
  generalize tailF p = t at *
  simp only [carC, tB, sl, own, rowsI_len, decide_true] at k1 k2 k3 k4 k7 k9 k12 k13 hloop
  obtain ⟨B, hB⟩ := hloop (some { box := true, esz := 5, rows := [[I c.len, I c.accel, I c.brake, I c.rate, I c.delay]], gen := 0, fz := false, ver := 0 }) (some { box := true, esz := 1, rows := [[.rslice (rowsI p)]], gen := 0, fz := false, ver := 0 }) (some { box := true, esz := 1, rows := [[.rslice (rowsI q)]], gen := 0, fz := false, ver := 0 })
    (some { box := false, esz := 1, rows := rowsI p, gen := p.length, fz := true, ver := p.length + 1 }) (some { box := true, esz := 1, rows := [[.slice 3 p.length 1 0 p.length none]], gen := 0, fz := false, ver := 1 })
  simp only [Int.natCast_zero] at hB
  by_cases h0 : p = []
  · subst h0
    simp only [rowsI_nil, List.length_nil] at k3 k4 k5 k6 k7 k8 k10 k11 k12 k13 hB
    rw [R_fn F_kerbstonelaw07_PlanChecks rfl]
    simp [c_kerbstonelaw07_PlanChecks, carC, haw, hq', k1, k2, k3, k4, k5, k6, k7, k8, k9, k10, k11, k12, k13, hB, markOne]
  · have hlen : p.length ≠ 0 := by simpa using h0
    have hre : (rowsI p) ≠ [] := by intro h; apply h0; have := congrArg List.length h; simpa using this
    rw [R_fn F_kerbstonelaw07_PlanChecks rfl]
    simp [c_kerbstonelaw07_PlanChecks, carC, haw, hp', hq', k1, k2, k3, k4, k5, k6, k7, k8, k9, k10, k11, k12, k13, hroom, h0, hlen, hre, hB, markOne]
end Go.PlanRun

