/- What the small functions of the plans' layer answer. -/
import Derived.Test.YtlcjcbdfabbddaaPlanTab
import Derived.Test.YtlcjcbdfabbddaaPlanLaw
set_option linter.unusedVariables false
set_option linter.unusedSimpArgs false
set_option linter.unusedSectionVars false
/- What the small functions of the plans' layer answer. -/
set_option linter.unusedVariables false
set_option linter.unusedSimpArgs false
set_option maxRecDepth 10000
namespace Go.PlanRun
open Go Go.Eng Go.PlanLaw

def carC (c : Car) : List Cl := [I c.len, I c.accel, I c.brake, I c.rate, I c.delay]

theorem R_within (x a b : Int) : R L Cs f_plan_within [W x, W a, W b] [] = some (.w (Bo (decide (a ≤ x) && decide (x ≤ b))), []) := by
  rw [R_fn F_plan_within rfl]
  by_cases h : a ≤ x <;> simp [c_plan_within, h]
theorem R_CheckCar {c : Car} (h : c.ok) : R L Cs f_plan_CheckCar [.a (carC c)] [] = some (.w (W 0), []) := by
  obtain ⟨h1, h2, h3, h4, h5, h6, h7, h8, h9, h10⟩ := h
  rw [R_fn F_plan_CheckCar rfl]
  simp [c_plan_CheckCar, carC, R_within, h1, h2, h3, h4, h5, h6, h7, h8, h9, h10]
theorem R_refCheckCar {c : Car} (h : c.ok) : R L Cs f_kerbstoneref07_CheckCar [.a (carC c)] [] = some (.w (W 0), []) := by
  obtain ⟨h1, h2, h3, h4, h5, h6, h7, h8, h9, h10⟩ := h
  rw [R_fn F_kerbstoneref07_CheckCar rfl]
  simp [c_kerbstoneref07_CheckCar, carC, Int.not_lt.2 h1, Int.not_lt.2 h2, Int.not_lt.2 h3, Int.not_lt.2 h4, Int.not_lt.2 h5, Int.not_lt.2 h6, Int.not_lt.2 h7, Int.not_lt.2 h8, Int.not_lt.2 h9, Int.not_lt.2 h10]
end Go.PlanRun

/- What a driver's methods do. -/
set_option linter.unusedVariables false
set_option linter.unusedSimpArgs false
set_option maxRecDepth 10000
namespace Go.PlanRun
open Go Go.Eng Go.PlanLaw

def rowsI (l : List Int) : List (List Cl) := l.map fun x => [I x]
@[simp] theorem rowsI_len (l : List Int) : (rowsI l).length = l.length := by simp [rowsI]
@[simp] theorem rowsI_append (l m : List Int) : rowsI (l ++ m) = rowsI l ++ rowsI m := by simp [rowsI]
@[simp] theorem rowsI_nil : rowsI [] = [] := rfl
@[simp] theorem rowsI_cons (x : Int) (l : List Int) : rowsI (x :: l) = [I x] :: rowsI l := rfl
@[simp] theorem rowsI_take (l : List Int) : (rowsI l).take l.length = rowsI l := List.take_of_length_le (by simp)
def dB (c : Car) (last v : Int) (acts : Cl) (ver : Nat) : Blk := { box := true, esz := 8, rows := [carC c ++ [I last, I v, acts]], gen := 0, fz := false, ver }
def actsAt (k : Nat) : List Int → Cl
  | [] => .nilslice
  | x :: l => sl (k + 1) 1 (rowsI (x :: l))
def tailB : List Int → Mem
  | [] => []
  | x :: l => [some (own 1 (rowsI (x :: l)))]
/-- A driver that lies in block k, its acts in the next one. -/
def stAt (k : Nat) (c : Car) (s : Drv) : Mem := some (dB c s.last s.v (actsAt k s.l) (3 * s.l.length)) :: tailB s.l
abbrev st (c : Car) (s : Drv) : Mem := stAt 0 c s
abbrev P0 : WV := .c (.ptr 0 0 0 0)

theorem R_clip {c : Car} (h : c.ok) (last v x : Int) (acts : Cl) (ver : Nat) (M : Mem) : R L Cs f_plan_driver_clip [P0, W x] (some (dB c last v acts ver) :: M) = some (.w (W (clipF c x)), some (dB c last v acts ver) :: M) := by
  obtain ⟨h1, h2, h3, h4, h5, h6, h7, h8, h9, h10⟩ := h
  have hw : IntKind.i64.wrap (-c.brake) = -c.brake := i64_id _ (by omega) (by omega)
  rw [R_fn F_plan_driver_clip rfl]
  simp [c_plan_driver_clip, dB, carC, hw, clipF]

theorem R_ramp {c : Car} (h : c.ok) (s : Drv) (w : Int) : R L Cs f_plan_driver_ramp [P0, W w] (st c s) = some (.w (W (rampF c s.last w)), st c s) := by
  have hk1 := clipF_in h s.last
  have hk2 := clipF_in h w
  have hclip := fun x acts ver M => R_clip h s.last s.v x acts ver M
  obtain ⟨h1, h2, h3, h4, h5, h6, h7, h8, h9, h10⟩ := h
  have w1 : IntKind.i64.wrap (clipF c s.last - c.rate) = clipF c s.last - c.rate := i64_id _ (by omega) (by omega)
  have w2 : IntKind.i64.wrap (clipF c s.last + c.rate) = clipF c s.last + c.rate := i64_id _ (by omega) (by omega)
  simp only [dB, carC, List.cons_append, List.nil_append] at hclip
  rw [R_fn F_plan_driver_ramp rfl]
  obtain ⟨last, v, l⟩ := s
  cases l with
  | nil => simp [stAt, actsAt, tailB, c_plan_driver_ramp, dB, carC, hclip, w1, w2, rampF]
  | cons y l => simp [stAt, actsAt, tailB, c_plan_driver_ramp, dB, carC, hclip, w1, w2, rampF]

theorem R_do (c : Car) (s : Drv) (x : Int) (hv : 0 ≤ s.v ∧ s.v ≤ 2000) (hn : s.l.length ≤ 1000) : R L Cs f_plan_driver_do [P0, W x] (st c s) = some (.t [], st c (s.doit x)) := by
  have w1 : IntKind.i64.wrap (s.v + max (-2000) (min x 2000)) = s.v + max (-2000) (min x 2000) := i64_id _ (by omega) (by omega)
  obtain ⟨last, v, l⟩ := s
  simp only at hv hn w1
  rw [R_fn F_plan_driver_do rfl]
  cases l with
  | nil => simp [stAt, actsAt, tailB, c_plan_driver_do, dB, carC, w1, Drv.doit, doV]
  | cons y l =>
    have hr : (l.length + 1 + 1) * 8 ≤ 140737488355328 := by simp at hn; omega
    simp [stAt, actsAt, tailB, c_plan_driver_do, dB, carC, w1, Drv.doit, doV, hr]
    omega

theorem get_at {α : Type} (p : List α) (x : α) (l : List α) : (p ++ x :: l)[p.length]? = some x := by simp
theorem get_at1 {α : Type} (p : List α) (x y : α) (l : List α) : (p ++ x :: y :: l)[p.length + 1]? = some y := by simp
theorem set_at {α : Type} (p : List α) (x z : α) (l : List α) : (p ++ x :: l).set p.length z = p ++ z :: l := by simp
theorem set_at1 {α : Type} (p : List α) (x y z : α) (l : List α) : (p ++ x :: y :: l).set (p.length + 1) z = p ++ x :: z :: l := by simp

def fpOf (k : Nat) : List Int → FP
  | [] => .wr [(k, 0, whole)]
  | _ :: _ => .wr [(k, 0, whole), (k + 1, 0, whole)]
theorem call_do (c : Car) (s : Drv) (x : Int) (hv : 0 ≤ s.v ∧ s.v ≤ 2000) (hn : s.l.length ≤ 1000) (p : Mem) : callOp (R L Cs) ⟨true⟩ (.c (.fn f_plan_driver_do [] [])) [.c (.ptr p.length 0 0 0), W x] (p ++ stAt p.length c s) = some (.t [], p ++ stAt p.length c (s.doit x), fpOf p.length s.l) := by
  have hd := R_do c s x hv hn
  obtain ⟨last, v, l⟩ := s
  cases l with
  | nil =>
    simp [stAt, actsAt, tailB, dB, carC, Drv.doit] at hd
    simp [stAt, actsAt, tailB, dB, carC, Drv.doit, hd, get_at, get_at1, set_at, set_at1, fpOf]
  | cons y l =>
    have hne : ¬ 3 * (l.length + 1 + 1) = 3 * (l.length + 1) := by omega
    simp [stAt, actsAt, tailB, dB, carC, Drv.doit] at hd
    simp [stAt, actsAt, tailB, dB, carC, Drv.doit, hd, get_at, get_at1, set_at, set_at1, fpOf, hne]
theorem call_ramp {c : Car} (h : c.ok) (s : Drv) (w : Int) (p : Mem) : callOp (R L Cs) ⟨true⟩ (.c (.fn f_plan_driver_ramp [] [])) [.c (.ptr p.length 0 0 0), W w] (p ++ stAt p.length c s) = some (.w (W (rampF c s.last w)), p ++ stAt p.length c s, .no) := by
  have hd := R_ramp h s w
  obtain ⟨last, v, l⟩ := s
  cases l with
  | nil =>
    simp [stAt, actsAt, tailB, dB, carC, Drv.doit] at hd
    simp [stAt, actsAt, tailB, dB, carC, Drv.doit, hd, get_at, get_at1, set_at, set_at1, fpOf]
  | cons y l =>
    simp [stAt, actsAt, tailB, dB, carC, Drv.doit] at hd
    simp [stAt, actsAt, tailB, dB, carC, Drv.doit, hd, get_at, get_at1, set_at, set_at1, fpOf]
end Go.PlanRun

/- What a stop does, and the list of its acts. -/
set_option linter.unusedVariables false
set_option linter.unusedSimpArgs false
set_option maxRecDepth 10000
namespace Go.PlanRun
open Go Go.Eng Go.PlanLaw

def Drv.run (s : Drv) (l : List Int) : Drv := ⟨lastA s.last l, endV s.v l, s.l ++ l⟩
theorem Drv.run_nil (s : Drv) : Drv.run s [] = s := by simp [Drv.run, lastA, endV]
theorem Drv.run_cons (s : Drv) (x : Int) (l : List Int) : Drv.run s (x :: l) = Drv.run (s.doit x) l := by simp [Drv.run, Drv.doit, lastA, endV]

@[simp] theorem stAt_head (k : Nat) (c : Car) (s : Drv) : (stAt k c s)[0]? = some (some (dB c s.last s.v (actsAt k s.l) (3 * s.l.length))) := rfl
@[simp] theorem st_head (c : Car) (s : Drv) : (st c s)[0]? = some (some (dB c s.last s.v (actsAt 0 s.l) (3 * s.l.length))) := rfl
theorem drop0_len {n : Nat} {E : Env} {M : Mem} (h : M.length ≤ n) : drop0 n E M = M := by unfold drop0; rw [if_pos h]
theorem drop0_st (p : Mem) (c : Car) (s : Drv) (n : Nat) (E : Env) (hp : p.length + 1 ≤ n) : drop0 n E (p ++ stAt p.length c s) = p ++ stAt p.length c s := by
  obtain ⟨last, v, l⟩ := s
  cases l with
  | nil => exact drop0_len (by simpa [stAt, tailB] using hp)
  | cons y l =>
    by_cases h : p.length + 2 ≤ n
    · exact drop0_len (by simpa [stAt, tailB] using h)
    · obtain rfl : n = p.length + 1 := by omega
      have ht : (p ++ stAt p.length c ⟨last, v, y :: l⟩).take (p.length + 1) = p ++ [some (dB c last v (actsAt p.length (y :: l)) (3 * (y :: l).length))] := List.take_length_add_append 1
      have hm : memBelow (p.length + 1) (p ++ [some (dB c last v (actsAt p.length (y :: l)) (3 * (y :: l).length))]) = false := by
        simp [memBelow, dB, actsAt, carC]
      unfold drop0
      rw [ht, hm, if_neg (by simp [stAt, tailB])]
      simp

theorem stop_loop {c : Car} (hc : c.ok) (n0 : Nat) (hn0 : 1 ≤ n0) : ∀ (m : Nat) (s : Drv) (f : Bool) (l : List Int), stopL c m f s.last s.v = some l → s.l.length + l.length ≤ 1000 → 0 ≤ s.v ∧ s.v ≤ 2000 →
    ∃ E', Y L Cs c_plan_driver_stop_l1 (some [2, 0]) n0 [(2, .w (Bo f)), (0, .w P0)] (st c s) = some (.exit 0, E', st c (Drv.run s l))
  | 0, s, f, l, h, _, _ => by simp [stopL] at h
  | m + 1, s, f, l, h, hl, hv => by
    have hbr := hc
    obtain ⟨h1, h2, h3, h4, h5, h6, h7, h8, h9, h10⟩ := hbr
    have hw : IntKind.i64.wrap (-c.brake) = -c.brake := i64_id _ (by omega) (by omega)
    rw [stopL_step] at h
    split at h
    · rename_i hcond
      simp only [Option.map_eq_some_iff] at h
      obtain ⟨l', h', rfl⟩ := h
      have hr := call_ramp hc s (-c.brake) []
      have hd := call_do c s (rampF c s.last (-c.brake)) hv (by simp at hl; omega) []
      obtain ⟨E', hE⟩ := stop_loop hc n0 hn0 m (s.doit (rampF c s.last (-c.brake))) false l' h' (by simp [Drv.doit] at hl ⊢; omega) (doV_in ..)
      refine ⟨E', ?_⟩
      rw [Drv.run_cons, ← hE]
      have hdr := fun E => drop0_st [] c (s.doit (rampF c s.last (-c.brake))) n0 E hn0
      refine Y_more (E' := [(2, .w (Bo false)), (0, .w P0)]) (M' := st c (s.doit (rampF c s.last (-c.brake)))) (s := ([(2, .w (Bo false)), (0, .w P0)], st c (s.doit (rampF c s.last (-c.brake))))) ?_ ?_
      · simp only [List.nil_append, List.length_nil] at hr hd
        cases f with
        | true => simp [c_plan_driver_stop_l1, hr, hd, hw, dB, carC, -callOp]
        | false =>
          by_cases hv0 : 0 < s.v
          · simp [c_plan_driver_stop_l1, hr, hd, hw, dB, carC, hv0, -callOp]
          · have hl0 : 0 < s.last := by simpa [hv0] using hcond
            simp [c_plan_driver_stop_l1, hr, hd, hw, dB, carC, hv0, hl0, -callOp]
      · simp only [List.nil_append, List.length_nil] at hdr
        simp [hdr, -drop0]
    · rename_i hcond
      cases h
      simp only [not_or] at hcond
      obtain ⟨q1, q2, q3⟩ := hcond
      cases f with
      | true => exact absurd rfl q1
      | false =>
        rw [Drv.run_nil]
        refine ⟨_, Y_done (r := (.exit 0, [(17, .w (Bo false)), (0, .w P0)], st c s)) ?_ (by simp)⟩
        simp [c_plan_driver_stop_l1, dB, carC, q2, q3]

theorem finish_st (c : Car) (s s' : Drv) (h : s.l = [] ∨ s'.l ≠ []) : finish (st c s).length (.t []) (st c s') = some (.t [], st c s') := by
  obtain ⟨last, v, l⟩ := s
  obtain ⟨last', v', l'⟩ := s'
  cases l with
  | nil => cases l' with
    | nil => exact finish_self _ (st c ⟨last', v', []⟩)
    | cons y l' => simp [stAt, tailB, actsAt, dB, carC]
  | cons x l => cases l' with
    | nil => simp at h
    | cons y l' => exact finish_self _ (st c ⟨last', v', y :: l'⟩)
theorem R_stop {c : Car} (hc : c.ok) (s : Drv) {l : List Int} (h : stopL c 111 true s.last s.v = some l) (hl : s.l.length + l.length ≤ 1000) (hv : 0 ≤ s.v ∧ s.v ≤ 2000) : R L Cs f_plan_driver_stop [P0] (st c s) = some (.t [], st c (Drv.run s l)) := by
  obtain ⟨E', hE⟩ := stop_loop hc (st c s).length (by simp [stAt]) 111 s true l h hl hv
  have hdr := fun E => drop0_st [] c s (st c s).length E (by simp [stAt])
  simp only [List.nil_append, List.length_nil] at hdr
  rw [R_fn F_plan_driver_stop rfl]
  simp [c_plan_driver_stop, hdr, hE, -drop0, -finish]
  refine finish_st c s _ ?_
  cases hs : s.l with
  | nil => exact .inl rfl
  | cons x t => exact .inr (by simp [Drv.run, hs])
theorem call_stop {c : Car} (hc : c.ok) (s : Drv) {l : List Int} (h : stopL c 111 true s.last s.v = some l) (hl0 : 0 < l.length) (hl : s.l.length + l.length ≤ 1000) (hv : 0 ≤ s.v ∧ s.v ≤ 2000) (p : Mem) : callOp (R L Cs) ⟨true⟩ (.c (.fn f_plan_driver_stop [] [])) [.c (.ptr p.length 0 0 0)] (p ++ stAt p.length c s) = some (.t [], p ++ stAt p.length c (Drv.run s l), fpOf p.length s.l) := by
  have hd := R_stop hc s h hl hv
  cases l with
  | nil => simp at hl0
  | cons z l =>
  obtain ⟨last, v, a⟩ := s
  cases a with
  | nil =>
    simp [stAt, actsAt, tailB, dB, carC, Drv.run] at hd
    simp [stAt, actsAt, tailB, dB, carC, Drv.run, hd, get_at, get_at1, set_at, set_at1, fpOf]
  | cons y a =>
    have hne : ¬ 3 * (a.length + (l.length + 1) + 1) = 3 * (a.length + 1) := by omega
    have hne2 : ¬ a.length + (l.length + 1) + 1 = a.length + 1 := by omega
    simp [stAt, actsAt, tailB, dB, carC, Drv.run] at hd
    simp [stAt, actsAt, tailB, dB, carC, Drv.run, hd, get_at, get_at1, set_at, set_at1, fpOf, hne, hne2]

/-- The stops of a valid car. -/
theorem R_Stops {c : Car} (hc : c.ok) (last v : Int) : R L Cs f_plan_Stops [.a (carC c), W last, W v] [] = some (.w (.c (.rslice (rowsI (stops c last (max 0 (min v 2000)))))), []) := by
  obtain ⟨h1, h2, h3⟩ := stops_eq hc last (max 0 (min v 2000)) (by omega) (by omega)
  generalize stops c last (max 0 (min v 2000)) = l at h1 h2 h3 ⊢
  have hs := R_stop hc ⟨last, max 0 (min v 2000), []⟩ h1 (by simp; omega) (by simp; omega)
  have hck := R_CheckCar hc
  cases l with
  | nil => simp at h2
  | cons x l =>
  simp only [carC] at hck
  simp [stAt, actsAt, tailB, dB, carC, Drv.run] at hs
  rw [R_fn F_plan_Stops rfl]
  simp [c_plan_Stops, carC, hck, hs]
end Go.PlanRun

/- What the check of a plan answers. -/
set_option linter.unusedVariables false
set_option linter.unusedSimpArgs false
set_option maxRecDepth 10000
namespace Go.PlanRun
open Go Go.Eng Go.PlanLaw

theorem rowsI_get {l : List Int} {i : Nat} (h : i < l.length) : (rowsI l)[i]? = some [I l[i]] := by simp [rowsI, h]
@[simp] theorem rowsI_getElem {l : List Int} {i : Nat} (h : i < (rowsI l).length) : (rowsI l)[i] = [I (l[i]'(by simpa using h))] := by simp [rowsI]
theorem drop_cons {l r : List Int} {i : Nat} {x : Int} (h : l.drop i = x :: r) : ∃ hi : i < l.length, l[i] = x ∧ l.drop (i + 1) = r := by
  have hi : i < l.length := by
    have := congrArg List.length h
    simp at this
    omega
  rw [List.drop_eq_getElem_cons hi] at h
  exact ⟨hi, (List.cons.inj h).1, (List.cons.inj h).2⟩
theorem drop_nil {l : List Int} {i : Nat} (h : l.drop i = []) (hi : i ≤ l.length) : i = l.length := by
  have := congrArg List.length h
  simp at this
  omega
theorem wrap_succ {i : Nat} (h : i < 1000000) : IntKind.i64.wrap ((i : Int) + 1) = ((i + 1 : Nat) : Int) := by
  rw [i64_id _ (by omega) (by omega)]; simp

abbrev carB (c : Car) : Blk := { box := true, esz := 5, rows := [carC c], gen := 0, fz := false, ver := 0 }
abbrev fnB : WV := .c (.fn f_plan_Check_1 [] [.ptr 0 0 0 0])
theorem R_Check_1 {c : Car} (hc : c.ok) (x : Int) : R L Cs f_plan_Check_1 [W x, P0] [some (carB c)] = some (.w (Bo (badA c x)), [some (carB c)]) := by
  obtain ⟨h1, h2, h3, h4, h5, h6, h7, h8, h9, h10⟩ := hc
  have hw : IntKind.i64.wrap (-c.brake) = -c.brake := i64_id _ (by omega) (by omega)
  rw [R_fn F_plan_Check_1 rfl]
  simp [c_plan_Check_1, carC, hw, R_within, badA]
theorem idx_loop {c : Car} (hc : c.ok) (l : List Int) (hl : l.length ≤ 1000) : ∀ (r : List Int) (i : Nat), l.drop i = r → i ≤ l.length →
    (r.any (badA c) = false → ∃ E', Y L Cs c_slices_IndexFunc_int64_l1 (some [7, 1, 0, 8]) 1 [(7, .w (W l.length)), (1, .w fnB), (0, .w (.c (.rslice (rowsI l)))), (8, .w (W i))] [some (carB c)] = some (.exit 0, E', [some (carB c)])) ∧
    (r.any (badA c) = true → ∃ k : Nat, Y L Cs c_slices_IndexFunc_int64_l1 (some [7, 1, 0, 8]) 1 [(7, .w (W l.length)), (1, .w fnB), (0, .w (.c (.rslice (rowsI l)))), (8, .w (W i))] [some (carB c)] = some (.ret, [(4, .w (W k))], [some (carB c)])) := by
  intro r
  induction r with
  | nil =>
    intro i hd hi
    obtain rfl := drop_nil hd hi
    refine ⟨fun _ => ⟨_, Y_done (r := (.exit 0, [(9, .w (Bo false)), (0, .w (.c (.rslice (rowsI l)))), (1, .w fnB), (7, .w (W l.length)), (8, .w (W l.length))], [some (carB c)])) ?_ (by simp)⟩, fun h => by simp at h⟩
    simp [c_slices_IndexFunc_int64_l1]
  | cons x r ih =>
    intro i hd hi
    obtain ⟨hil, hx, hd'⟩ := drop_cons hd
    obtain ⟨ih1, ih2⟩ := ih (i + 1) hd' hil
    have hch := R_Check_1 hc x
    have hw := wrap_succ (i := i) (by omega)
    have hg := rowsI_get hil
    rw [hx] at hg
    by_cases hb : badA c x = true
    · refine ⟨fun h => by simp [hb] at h, fun _ => ⟨i, Y_done ?_ (by simp)⟩⟩
      rw [hb] at hch
      simp [carB, carC] at hch
      simp [c_slices_IndexFunc_int64_l1, hil, hx, hch, carB, carC]
    · have hb : badA c x = false := by simpa using hb
      rw [hb] at hch
      simp [carB, carC] at hch
      have hstep : Y L Cs c_slices_IndexFunc_int64_l1 (some [7, 1, 0, 8]) 1 [(7, .w (W l.length)), (1, .w fnB), (0, .w (.c (.rslice (rowsI l)))), (8, .w (W i))] [some (carB c)] =
          Y L Cs c_slices_IndexFunc_int64_l1 (some [7, 1, 0, 8]) 1 [(7, .w (W l.length)), (1, .w fnB), (0, .w (.c (.rslice (rowsI l)))), (8, .w (W (i + 1 : Nat)))] [some (carB c)] := by
        rw [Y_eq]
        simp [c_slices_IndexFunc_int64_l1, hil, hx, hch, carB, carC, hw]
      rw [hstep]
      simp only [List.any_cons, hb, Bool.false_or]
      exact ⟨ih1, ih2⟩
theorem R_IndexFunc {c : Car} (hc : c.ok) (l : List Int) (hl : l.length ≤ 1000) : ∃ k : Int, R L Cs f_slices_IndexFunc_int64 [.c (.rslice (rowsI l)), fnB] [some (carB c)] = some (.w (W k), [some (carB c)]) ∧ (decide (0 ≤ k) = l.any (badA c)) := by
  obtain ⟨h1, h2⟩ := idx_loop hc l hl l 0 rfl (Nat.zero_le _)
  cases hb : l.any (badA c) with
  | false =>
    obtain ⟨E', hE⟩ := h1 hb
    refine ⟨-1, ?_, by decide⟩
    rw [R_fn F_slices_IndexFunc_int64 rfl]
    simp at hE
    simp [c_slices_IndexFunc_int64, hE]
  | true =>
    obtain ⟨k, hE⟩ := h2 hb
    refine ⟨k, ?_, by simp⟩
    rw [R_fn F_slices_IndexFunc_int64 rfl]
    simp at hE
    simp [c_slices_IndexFunc_int64, hE]
theorem R_ContainsFunc {c : Car} (hc : c.ok) (l : List Int) (hl : l.length ≤ 1000) : R L Cs f_slices_ContainsFunc_int64 [.c (.rslice (rowsI l)), fnB] [some (carB c)] = some (.w (Bo (l.any (badA c))), [some (carB c)]) := by
  obtain ⟨k, h1, h2⟩ := R_IndexFunc hc l hl
  rw [R_fn F_slices_ContainsFunc_int64 rfl]
  simp [carB, carC] at h1
  simp [c_slices_ContainsFunc_int64, h1, h2, carB, carC]
end Go.PlanRun

/- What the check of a plan answers, for a valid car. -/
set_option linter.unusedVariables false
set_option linter.unusedSimpArgs false
set_option maxRecDepth 10000
namespace Go.PlanRun
open Go Go.Eng Go.PlanLaw

abbrev planB (l : List Int) : Blk := { box := true, esz := 1, rows := [[.rslice (rowsI l)]], gen := 0, fz := false, ver := 0 }
theorem check_loop {c : Car} (hc : c.ok) (l : List Int) (hl : l.length ≤ 1000) (hr : ∀ x ∈ l, -1000 ≤ x ∧ x ≤ 1000) : ∀ (r : List Int) (i : Nat) (a : Int), -1000 ≤ a ∧ a ≤ 1000 → l.drop i = r → i ≤ l.length →
    (badS c a r = false → ∃ E', Y L Cs c_plan_Check_l1 (some [7, 44, 43, 2, 45]) 2 [(7, .w (W a)), (44, .w (W l.length)), (43, .w (.c (.rslice (rowsI l)))), (2, .w P0), (45, .w (W i))] [some (carB c), some (planB l)] = some (.exit 1, E', [some (carB c), some (planB l)])) ∧
    (badS c a r = true → Y L Cs c_plan_Check_l1 (some [7, 44, 43, 2, 45]) 2 [(7, .w (W a)), (44, .w (W l.length)), (43, .w (.c (.rslice (rowsI l)))), (2, .w P0), (45, .w (W i))] [some (carB c), some (planB l)] = some (.ret, [(4, .w (W 11))], [some (carB c), some (planB l)])) := by
  intro r
  have hcc := hc
  obtain ⟨q1, q2, q3, q4, q5, q6, q7, q8, q9, q10⟩ := hcc
  have hwr : IntKind.i64.wrap (-c.rate) = -c.rate := i64_id _ (by omega) (by omega)
  induction r with
  | nil =>
    intro i a ha hd hi
    obtain rfl := drop_nil hd hi
    refine ⟨fun _ => ⟨_, Y_done (r := (.exit 1, [(46, .w (Bo false)), (7, .w (W a)), (2, .w P0), (43, .w (.c (.rslice (rowsI l)))), (44, .w (W l.length)), (45, .w (W l.length))], [some (carB c), some (planB l)])) ?_ (by simp)⟩, fun h => by simp [badS] at h⟩
    simp [c_plan_Check_l1]
  | cons x r ih =>
    intro i a ha hd hi
    obtain ⟨hil, hx, hd'⟩ := drop_cons hd
    have hxr := hr x (by rw [← hx]; exact List.getElem_mem hil)
    obtain ⟨ih1, ih2⟩ := ih (i + 1) x hxr hd' hil
    have hw := wrap_succ (i := i) (by omega)
    have hws : IntKind.i64.wrap (x - a) = x - a := i64_id _ (by omega) (by omega)
    have hwi := R_within (x - a) (-c.rate) c.rate
    by_cases hb : (decide (-c.rate ≤ x - a) && decide (x - a ≤ c.rate)) = true
    · rw [hb] at hwi
      have hstep : Y L Cs c_plan_Check_l1 (some [7, 44, 43, 2, 45]) 2 [(7, .w (W a)), (44, .w (W l.length)), (43, .w (.c (.rslice (rowsI l)))), (2, .w P0), (45, .w (W i))] [some (carB c), some (planB l)] =
          Y L Cs c_plan_Check_l1 (some [7, 44, 43, 2, 45]) 2 [(7, .w (W x)), (44, .w (W l.length)), (43, .w (.c (.rslice (rowsI l)))), (2, .w P0), (45, .w (W (i + 1 : Nat)))] [some (carB c), some (planB l)] := by
        rw [Y_eq]
        simp [c_plan_Check_l1, hil, hx, carB, carC, hw, hws, hwr, hwi]
      rw [hstep]
      simp only [badS, hb, Bool.not_true, Bool.false_or]
      exact ⟨ih1, ih2⟩
    · have hb : (decide (-c.rate ≤ x - a) && decide (x - a ≤ c.rate)) = false := by simpa using hb
      rw [hb] at hwi
      refine ⟨fun h => (by simp only [badS, hb, Bool.not_false, Bool.true_or] at h; cases h), fun _ => Y_done ?_ (by simp)⟩
      simp [c_plan_Check_l1, hil, hx, carB, carC, hw, hws, hwr, hwi]
theorem R_Check {c : Car} (hc : c.ok) (l : List Int) (hl : l.length ≤ 1000) : R L Cs f_plan_Check [.a (carC c), .a [.rslice (rowsI l)]] [] = some (.w (W (checkF c l)), []) := by
  have hck := R_CheckCar hc
  have hcf := R_ContainsFunc hc l hl
  simp [carB, carC] at hck hcf
  rw [R_fn F_plan_Check rfl]
  cases l with
  | nil => simp [c_plan_Check, carC, hck, checkF, hc]
  | cons x r =>
  simp only [rowsI_cons] at hcf
  have hne : ¬ ((r.length : Int) + 1 = 0) := by omega
  by_cases h200 : 200 < r.length + 1
  · have h200' : (200 : Int) < (r.length : Int) + 1 := by omega
    simp [c_plan_Check, carC, hck, checkF, hc, hne, h200, h200']
  have h200' : ¬ (200 : Int) < (r.length : Int) + 1 := by omega
  have hlast : ∀ h, ([I x] :: rowsI r)[r.length]'h = [I ((x :: r).getLastD 0)] := by
    intro h
    have e : [I x] :: rowsI r = rowsI (x :: r) := rfl
    simp only [e, rowsI_getElem]
    simp [List.getLastD_eq_getLast?, List.getLast?_eq_getElem?]
  have hw : IntKind.i64.wrap (r.length : Int) = r.length := i64_id _ (by omega) (by omega)
  simp only [List.getLastD_cons] at hlast
  have hlt : (r.length : Int) < (r.length : Int) + 1 := by omega
  have hF : checkF c (x :: r) = if 0 < r.getLastD x then 2 else if (x :: r).any (badA c) = true then 2 else if badS c x (x :: r) = true then 11 else 0 := by
    unfold checkF
    rw [if_neg (by simp [hc]), if_neg (by simp), if_neg (by simpa using h200), List.getLastD_cons, List.headD_cons]
  rw [hF]
  generalize r.getLastD x = z at hlast
  by_cases hp : 0 < z
  · simp [c_plan_Check, carC, hck, hne, h200', hlt, hlast, hw, hp]
  have hlen : ((r.length : Int) + 1) = ((x :: r).length : Nat) := by simp
  by_cases hb : (x :: r).any (badA c) = true
  · rw [hb] at hcf
    simp only [List.any_cons] at hb
    simp [c_plan_Check, carC, hck, hne, h200', hlt, hlast, hw, hp, hcf, hb]
  · have hb : (x :: r).any (badA c) = false := by simpa using hb
    have hr : ∀ y ∈ (x :: r), -1000 ≤ y ∧ y ≤ 1000 := by
      intro y hy
      have h1 := List.any_eq_false.1 hb y hy
      obtain ⟨q1, q2, q3, q4, q5, q6, q7, q8, q9, q10⟩ := hc
      simp [badA] at h1
      omega
    obtain ⟨h1, h2⟩ := check_loop hc (x :: r) hl hr (x :: r) 0 x (hr x (List.mem_cons_self ..)) rfl (Nat.zero_le _)
    rw [hb] at hcf
    cases hs : badS c x (x :: r) with
    | false =>
      obtain ⟨E', h1⟩ := h1 hs
      simp [carB, carC, planB] at h1
      simp [c_plan_Check, carC, hck, hne, h200', hlt, hlast, hw, hp, hcf, hb, hs, h1]
      | true =>
      have h2 := h2 hs
      simp [carB, carC, planB] at h2
      simp [c_plan_Check, carC, hck, hne, h200', hlt, hlast, hw, hp, hcf, hb, hs, h2]
  end Go.PlanRun

/- How far a plan leads; cars made of numbers. -/
set_option linter.unusedVariables false
set_option linter.unusedSimpArgs false
set_option maxRecDepth 10000
namespace Go.PlanRun
open Go Go.Eng Go.PlanLaw

@[simp] theorem stAt_got (k : Nat) (c : Car) (s : Drv) (A B : Option Blk) : (A :: B :: stAt k c s)[2]? = some (some (dB c s.last s.v (actsAt k s.l) (3 * s.l.length))) := rfl
abbrev carZ : Car := ⟨0, 0, 0, 0, 0⟩
theorem way_loop (l : List Int) (hl : l.length ≤ 500) (A B : Blk) : ∀ (r : List Int) (i : Nat) (s : Drv) (sum : Int), l.drop i = r → i ≤ l.length → s.l.length = i → 0 ≤ s.v ∧ s.v ≤ 2000 → 0 ≤ sum ∧ sum ≤ 2000 * i →
    ∃ E' M', Y L Cs c_plan_Way_l1 (some [6, 18, 17, 16, 5]) 3 [(6, .w (W sum)), (18, .w (W i)), (17, .w (W l.length)), (16, .w (.c (.rslice (rowsI l)))), (5, .w (.c (.ptr 2 0 0 0)))] (some A :: some B :: stAt 2 carZ s) = some (.exit 0, E', M') ∧ E'.get 6 = some (.w (W (wayF s.v sum r))) := by
  intro r
  induction r with
  | nil =>
    intro i s sum hd hi hs hv hsum
    obtain rfl := drop_nil hd hi
    refine ⟨_, _, Y_done (r := (.exit 0, [(19, .w (Bo false)), (6, .w (W sum)), (18, .w (W l.length)), (17, .w (W l.length)), (16, .w (.c (.rslice (rowsI l)))), (5, .w (.c (.ptr 2 0 0 0)))], some A :: some B :: stAt 2 carZ s)) ?_ (by simp), ?_⟩
    · simp [c_plan_Way_l1]
    · simp [wayF]
  | cons x r ih =>
    intro i s sum hd hi hs hv hsum
    obtain ⟨hil, hx, hd'⟩ := drop_cons hd
    have hdv := doV_in s.v x
    obtain ⟨E', M', hE, hg⟩ := ih (i + 1) (s.doit x) (sum + doV s.v x) hd' hil (by simp [Drv.doit, hs]) hdv (by omega)
    have hw := wrap_succ (i := i) (by omega)
    have hw2 : IntKind.i64.wrap (sum + doV s.v x) = sum + doV s.v x := i64_id _ (by omega) (by omega)
    have hdv' : (s.doit x).v = doV s.v x := rfl
    have hcall := call_do carZ s x hv (by omega) [some A, some B]
    have hdr := fun E => drop0_st [some A, some B] carZ (s.doit x) 3 E (by simp)
    simp only [List.cons_append, List.nil_append, List.length_cons, List.length_nil, Nat.reduceAdd] at hcall hdr
    refine ⟨E', M', ?_, ?_⟩
    · rw [← hE, Y_eq]
      simp [c_plan_Way_l1, hil, hx, hcall, hw, hw2, hdv', hdr, dB, carC, -callOp, -drop0]
    · rw [hg]; rfl

theorem R_Way (l : List Int) (hl : l.length ≤ 500) (x0 x1 x2 v : Int) : R L Cs f_plan_Way [.a [I x0, I x1, I x2, I v], .a [.rslice (rowsI l)]] [] = some (.w (W (wayF (max 0 (min v 2000)) 0 l)), []) := by
  obtain ⟨E', M', hE, hg⟩ := way_loop l hl { box := true, esz := 4, rows := [[I x0, I x1, I x2, I v]], gen := 0, fz := false, ver := 0 } (planB l) l 0 ⟨0, max 0 (min v 2000), []⟩ 0 rfl (Nat.zero_le _) rfl (by simp; omega) (by simp)
  simp [stAt, tailB, actsAt, dB, carC, planB] at hE
  rw [R_fn F_plan_Way rfl]
  simp [c_plan_Way, hE, hg]

theorem tmod_emod (x n : Int) (hn : 0 < n) : (if x.tmod n < 0 then x.tmod n + n else x.tmod n) = x % n := by
  have h1 := Int.emod_nonneg x (by omega : n ≠ 0)
  have h2 := Int.emod_lt_of_pos x hn
  have h3 := Int.tmod_eq_emod (a := x) (b := n)
  split at h3
  · rw [h3]; split <;> omega
  · have e : (n.natAbs : Int) = n := by omega
    rw [e] at h3
    rw [h3]
    split <;> omega
theorem R_Mod64 (x n : Int) (hn : 0 < n) (hn' : n ≤ 1000000000000) : R L Cs f_kerbstonekit_Mod64 [W x, W n] [] = some (.w (W (x % n)), []) := by
  have h0 := tmod_emod x n hn
  have h1 := Int.emod_nonneg x (by omega : n ≠ 0)
  have h2 := Int.emod_lt_of_pos x hn
  have h3 := Int.tmod_lt_of_pos x hn
  have h4 := Int.lt_tmod_of_pos x hn
  have hne : n ≠ 0 := by omega
  rw [R_fn F_kerbstonekit_Mod64 rfl]
  by_cases h : x.tmod n < 0
  · rw [if_pos h] at h0
    have hw : IntKind.i64.wrap (x % n) = x % n := i64_id _ (by omega) (by omega)
    simp [c_kerbstonekit_Mod64, hne, h, h0, hw]
  · rw [if_neg h] at h0
    simp [c_kerbstonekit_Mod64, hne, h]
    exact h0
def madeF (l a b r : Int) : Car := ⟨300 + l % 4700, 1 + a % 30, 50 + b % 41, 20 + r % 101, 0⟩
theorem madeF_ok (l a b r : Int) : (madeF l a b r).ok := by
  simp only [Car.ok, madeF]
  omega
theorem R_made (l a b r : Int) : R L Cs f_kerbstonelaw07_made [.a [I l, I a, I b, I r]] [] = some (.w (.a (carC (madeF l a b r))), []) := by
  have m1 := R_Mod64 l 4700 (by omega) (by omega)
  have m2 := R_Mod64 a 30 (by omega) (by omega)
  have m3 := R_Mod64 b 41 (by omega) (by omega)
  have m4 := R_Mod64 r 101 (by omega) (by omega)
  have w1 : IntKind.i64.wrap (300 + l % 4700) = 300 + l % 4700 := i64_id _ (by omega) (by omega)
  have w2 : IntKind.i64.wrap (1 + a % 30) = 1 + a % 30 := i64_id _ (by omega) (by omega)
  have w3 : IntKind.i64.wrap (50 + b % 41) = 50 + b % 41 := i64_id _ (by omega) (by omega)
  have w4 : IntKind.i64.wrap (20 + r % 101) = 20 + r % 101 := i64_id _ (by omega) (by omega)
  rw [R_fn F_kerbstonelaw07_made rfl]
  simp [c_kerbstonelaw07_made, m1, m2, m3, m4, w1, w2, w3, w4, carC, madeF]
theorem R_awake : R L Cs f_kerbstonelaw07_awake [] [] = some (.w (Bo true), []) := R_iff.2 ⟨200, by kernel_rfl⟩
end Go.PlanRun

/- What profiles and candidates are. -/
set_option linter.unusedVariables false
set_option linter.unusedSimpArgs false
set_option maxRecDepth 10000
namespace Go.PlanRun
open Go Go.Eng Go.PlanLaw

theorem R_reframp {c : Car} (h : c.ok) (a w : Int) : R L Cs f_kerbstoneref07_ramp [.a (carC c), W a, W w] [] = some (.w (W (rampF c a w)), []) := by
  have hk1 := clipF_in h a
  have hk2 := clipF_in h w
  obtain ⟨h1, h2, h3, h4, h5, h6, h7, h8, h9, h10⟩ := h
  have w0 : IntKind.i64.wrap (-c.brake) = -c.brake := i64_id _ (by omega) (by omega)
  have w1 : IntKind.i64.wrap (clipF c a - c.rate) = clipF c a - c.rate := i64_id _ (by omega) (by omega)
  have w2 : IntKind.i64.wrap (clipF c a + c.rate) = clipF c a + c.rate := i64_id _ (by omega) (by omega)
  simp only [clipF] at w1 w2
  rw [R_fn F_kerbstoneref07_ramp rfl]
  simp [c_kerbstoneref07_ramp, carC, w0, w1, w2, rampF, clipF]
theorem R_refRamp {c : Car} (h : c.ok) (a w : Int) : R L Cs f_kerbstoneref07_Ramp [.a (carC c), W a, W w] [] = some (.w (W (rampF c a w)), []) := by
  have h1 := R_refCheckCar h
  have h2 := R_reframp h a w
  simp only [carC] at h1 h2
  rw [R_fn F_kerbstoneref07_Ramp rfl]
  simp [c_kerbstoneref07_Ramp, carC, h1, h2]

abbrev Pt (k : Nat) : WV := .c (.ptr k 0 0 0)
theorem prof_loop1 {c : Car} (q : List Int) (hq : q.length ≤ 5) (A B : Blk) (up hold : Int) : ∀ (r : List Int) (i : Nat) (s : Drv), q.drop i = r → i ≤ q.length → s.l.length ≤ i → 0 ≤ s.v ∧ s.v ≤ 2000 →
    Y L Cs c_plan_profile_l1 (some [29, 28, 6, 5, 12, 4, 27, 13]) 3 [(29, .w (W i)), (28, .w (W q.length)), (6, .w (Pt 0)), (5, .w (W hold)), (12, .w (Pt 1)), (4, .w (W up)), (27, .w (.c (.rslice (rowsI q)))), (13, .w (Pt 2))] (some A :: some B :: stAt 2 c s) =
      some (.exit 0, [(30, .w (Bo false)), (29, .w (W q.length)), (28, .w (W q.length)), (6, .w (Pt 0)), (5, .w (W hold)), (12, .w (Pt 1)), (4, .w (W up)), (27, .w (.c (.rslice (rowsI q)))), (13, .w (Pt 2))], some A :: some B :: stAt 2 c (Drv.queue r s)) := by
  intro r
  induction r with
  | nil =>
    intro i s hd hi hs hv
    obtain rfl := drop_nil hd hi
    refine Y_done ?_ (by simp)
    simp [c_plan_profile_l1, Drv.queue]
  | cons x r ih =>
    intro i s hd hi hs hv
    obtain ⟨hil, hx, hd'⟩ := drop_cons hd
    have hnext := ih (i + 1) (s.doit x) hd' hil (by simp [Drv.doit]; omega) (doV_in ..)
    have hw := wrap_succ (i := i) (by omega)
    have hcall := call_do c s x hv (by omega) [some A, some B]
    have hdr := fun E => drop0_st [some A, some B] c (s.doit x) 3 E (by simp)
    simp only [List.cons_append, List.nil_append, List.length_cons, List.length_nil, Nat.reduceAdd] at hcall hdr
    rw [Drv.queue, ← hnext, Y_eq]
    simp [c_plan_profile_l1, hil, hx, hcall, hw, hdr, -callOp, -drop0]
theorem prof_loop2 {c : Car} (hc : c.ok) (B : Blk) (hold : Int) (n : Nat) (hn : n ≤ 20) (n0 : Nat) (hn0 : 3 ≤ n0) : ∀ (m i : Nat) (s : Drv), i + m = n → s.l.length ≤ 5 + i → 0 ≤ s.v ∧ s.v ≤ 2000 →
    Y L Cs c_plan_profile_l2 (some [40, 39, 12, 5, 13, 6]) n0 [(40, .w (W i)), (39, .w (W n)), (12, .w (Pt 1)), (5, .w (W hold)), (13, .w (Pt 2)), (6, .w (Pt 0))] (some (carB c) :: some B :: stAt 2 c s) =
      some (.exit 2, [(41, .w (Bo false)), (40, .w (W n)), (39, .w (W n)), (12, .w (Pt 1)), (5, .w (W hold)), (13, .w (Pt 2)), (6, .w (Pt 0))], some (carB c) :: some B :: stAt 2 c (Drv.ramps c c.accel m s)) := by
  intro m
  induction m with
  | zero =>
    intro i s hi hs hv
    obtain rfl : i = n := by omega
    refine Y_done ?_ (by simp)
    simp [c_plan_profile_l2, Drv.ramps]
  | succ m ih =>
    intro i s hi hs hv
    have hil : (i : Int) < n := by omega
    have hnext := ih (i + 1) (s.doit (rampF c s.last c.accel)) (by omega) (by simp [Drv.doit]; omega) (doV_in ..)
    have hw := wrap_succ (i := i) (by omega)
    have hramp := call_ramp hc s c.accel [some (carB c), some B]
    have hcall := call_do c s (rampF c s.last c.accel) hv (by omega) [some (carB c), some B]
    have hdr := fun E => drop0_st [some (carB c), some B] c (s.doit (rampF c s.last c.accel)) n0 E hn0
    simp only [List.cons_append, List.nil_append, List.length_cons, List.length_nil, Nat.reduceAdd] at hcall hramp hdr
    simp only [carB, carC] at hcall hramp hdr hnext ⊢
    rw [Drv.ramps, ← hnext, Y_eq]
    simp [c_plan_profile_l2, hil, hcall, hramp, hw, hdr, -callOp, -drop0]
theorem prof_loop3 {c : Car} (hc : c.ok) (A B : Blk) (n : Nat) (hn : n ≤ 20) (n0 : Nat) (hn0 : 3 ≤ n0) : ∀ (m i : Nat) (s : Drv), i + m = n → s.l.length ≤ 25 + i → 0 ≤ s.v ∧ s.v ≤ 2000 →
    Y L Cs c_plan_profile_l3 (some [52, 51, 12, 13]) n0 [(52, .w (W i)), (51, .w (W n)), (12, .w (Pt 1)), (13, .w (Pt 2))] (some A :: some B :: stAt 2 c s) =
      some (.exit 4, [(53, .w (Bo false)), (52, .w (W n)), (51, .w (W n)), (12, .w (Pt 1)), (13, .w (Pt 2))], some A :: some B :: stAt 2 c (Drv.ramps c 0 m s)) := by
  intro m
  induction m with
  | zero =>
    intro i s hi hs hv
    obtain rfl : i = n := by omega
    refine Y_done ?_ (by simp)
    simp [c_plan_profile_l3, Drv.ramps]
  | succ m ih =>
    intro i s hi hs hv
    have hil : (i : Int) < n := by omega
    have hnext := ih (i + 1) (s.doit (rampF c s.last 0)) (by omega) (by simp [Drv.doit]; omega) (doV_in ..)
    have hw := wrap_succ (i := i) (by omega)
    have hramp := call_ramp hc s 0 [some A, some B]
    have hcall := call_do c s (rampF c s.last 0) hv (by omega) [some A, some B]
    have hdr := fun E => drop0_st [some A, some B] c (s.doit (rampF c s.last 0)) n0 E hn0
    simp only [List.cons_append, List.nil_append, List.length_cons, List.length_nil, Nat.reduceAdd] at hcall hramp hdr
    rw [Drv.ramps, ← hnext, Y_eq]
    simp [c_plan_profile_l3, hil, hcall, hramp, hw, hdr, -callOp, -drop0]
end Go.PlanRun

/- What profiles and candidates are. -/
set_option linter.unusedVariables false
set_option linter.unusedSimpArgs false
set_option maxRecDepth 10000
namespace Go.PlanRun
open Go Go.Eng Go.PlanLaw

theorem stAt_full (k : Nat) (c : Car) (s : Drv) (h : s.l ≠ []) : stAt k c s = [some (dB c s.last s.v (sl (k + 1) 1 (rowsI s.l)) (3 * s.l.length)), some (own 1 (rowsI s.l))] := by
  obtain ⟨last, v, l⟩ := s
  cases l with
  | nil => exact absurd rfl h
  | cons x l => rfl

set_option maxHeartbeats 1000000 in
theorem R_profile {c : Car} (hc : c.ok) (q : List Int) (hq : q.length ≤ 5) (last v up hold : Int) : R L Cs f_plan_profile [.a (carC c), .c (.rslice (rowsI q)), W last, W v, W up, W hold] [] =
    some (.w (.a [.rslice (rowsI (profL c q last (max 0 (min v 2000)) (max 0 (min up 20)).toNat (max 0 (min hold 20)).toNat))]), []) := by
  have hu : ((max 0 (min up 20)).toNat : Int) = max 0 (min up 20) := by omega
  have hh : ((max 0 (min hold 20)).toNat : Int) = max 0 (min hold 20) := by omega
  have hun : (max 0 (min up 20)).toNat ≤ 20 := by omega
  have hhn : (max 0 (min hold 20)).toNat ≤ 20 := by omega
  generalize (max 0 (min up 20)).toNat = nu at *
  generalize (max 0 (min hold 20)).toNat = nh at *
  have hv : 0 ≤ max 0 (min v 2000) ∧ max 0 (min v 2000) ≤ 2000 := by omega
  generalize hv' : max 0 (min v 2000) = v' at *
  have l1 := prof_loop1 (c := c) q hq (carB c) { box := true, esz := 1, rows := [[.nilslice]], gen := 0, fz := false, ver := 0 } up hold q 0 ⟨last, v', []⟩ rfl (Nat.zero_le _) (by simp) hv
  have n1 : (Drv.queue q ⟨last, v', []⟩).l.length = q.length := by rw [Drv.queue_len]; simp
  have vv : ∀ (q : List Int) (s : Drv), 0 ≤ s.v ∧ s.v ≤ 2000 → 0 ≤ (Drv.queue q s).v ∧ (Drv.queue q s).v ≤ 2000 := by
    intro q
    induction q with
    | nil => intro s h; exact h
    | cons x q ih => intro s h; exact ih _ (doV_in ..)
  have vr : ∀ (n : Nat) (w : Int) (s : Drv), 0 ≤ s.v ∧ s.v ≤ 2000 → 0 ≤ (Drv.ramps c w n s).v ∧ (Drv.ramps c w n s).v ≤ 2000 := by
    intro n w
    induction n with
    | zero => intro s h; exact h
    | succ n ih => intro s h; exact ih _ (doV_in ..)
  have v1 := vv q ⟨last, v', []⟩ hv
  have l2 := prof_loop2 hc { box := true, esz := 1, rows := [[.nilslice]], gen := 0, fz := false, ver := 0 } hold nu hun ((stAt 2 c (Drv.queue q ⟨last, v', []⟩)).length + 1 + 1) (by simp [stAt]) nu 0 (Drv.queue q ⟨last, v', []⟩) (by omega) (by omega) v1
  have n2 := Drv.ramps_len (c := c) (w := c.accel) (n := nu) (s := Drv.queue q ⟨last, v', []⟩)
  have v2 := vr nu c.accel _ v1
  have hprof : profL c q last v' nu nh = (Drv.ramps c 0 nh (Drv.ramps c c.accel nu (Drv.queue q ⟨last, v', []⟩))).l ++ stops c (Drv.ramps c 0 nh (Drv.ramps c c.accel nu (Drv.queue q ⟨last, v', []⟩))).last (Drv.ramps c 0 nh (Drv.ramps c c.accel nu (Drv.queue q ⟨last, v', []⟩))).v := by
    simp only [profL]
    rw [List.take_of_length_le hq]
  generalize Drv.ramps c c.accel nu (Drv.queue q ⟨last, v', []⟩) = s2 at *
  generalize Drv.queue q ⟨last, v', []⟩ = s1 at *
  have l3 := prof_loop3 hc (carB c) { box := true, esz := 1, rows := [[.nilslice]], gen := 0, fz := false, ver := 0 } nh hhn ((stAt 2 c s2).length + 1 + 1) (by simp [stAt]) nh 0 s2 (by omega) (by omega) v2
  have n3 := Drv.ramps_len (c := c) (w := 0) (n := nh) (s := s2)
  have v3 := vr nh 0 s2 v2
  generalize Drv.ramps c 0 nh s2 = s3 at *
  obtain ⟨e1, e2, e3⟩ := stops_eq hc s3.last s3.v v3.1 v3.2
  have hst := call_stop hc s3 e1 e2 (by omega) v3 [some (carB c), some { box := true, esz := 1, rows := [[.nilslice]], gen := 0, fz := false, ver := 0 }]
  have hne : (Drv.run s3 (stops c s3.last s3.v)).l ≠ [] := by
    intro h
    have := congrArg List.length h
    simp [Drv.run] at this
    rw [this.2] at e2
    simp at e2
  have hl : (Drv.run s3 (stops c s3.last s3.v)).l = profL c q last v' nu nh := hprof.symm
  rw [stAt_full _ c _ hne, hl] at hst
  generalize profL c q last v' nu nh = l at *
  simp only [List.cons_append, List.nil_append, List.length_cons, List.length_nil, Nat.reduceAdd] at hst
  have h0 : stAt 2 c ⟨last, v', []⟩ = [some { box := true, esz := 8, rows := [[I c.len, I c.accel, I c.brake, I c.rate, I c.delay, I last, I v', .nilslice]], gen := 0, fz := false, ver := 0 }] := rfl
  rw [h0] at l1
  clear h0
  simp only [carB, carC, dB, List.cons_append, List.nil_append, sl, own, rowsI_len] at l1 l2 l3 hst
  have hmin : min (q.length : Int) 5 = q.length := by omega
  have hall : (rowsI q).all (fun r => r.length == 1) = true := by simp [rowsI]
  simp only [hu, hh, Int.natCast_zero] at l1 l2 l3
  rw [R_fn F_plan_profile rfl]
  simp [c_plan_profile, carC, hv', l1, l2, l3, hst, hmin, hall, sliceC, sliceB, boundOf, asBound, topOf, -callOp]
end Go.PlanRun

/- Profiles, candidates, equal lists. -/
set_option linter.unusedVariables false
set_option linter.unusedSimpArgs false
set_option maxRecDepth 10000
namespace Go.PlanRun
open Go Go.Eng Go.PlanLaw

@[simp] theorem rowsI_ones (t : List Int) : (∀ x, x ∈ rowsI t → x.length = 1) ↔ True := by simp [rowsI]
theorem R_Profile {c : Car} (hc : c.ok) (q : List Int) (hq : q.length ≤ 5) (last v up hold : Int) : R L Cs f_plan_Profile [.a (carC c), .c (.rslice (rowsI q)), W last, W v, W up, W hold] [] =
    some (.w (.a [.rslice (rowsI (profL c q last (max 0 (min v 2000)) (max 0 (min up 20)).toNat (max 0 (min hold 20)).toNat))]), []) := by
  have h1 := R_CheckCar hc
  have h2 := R_profile hc q hq last v up hold
  generalize profL c q last (max 0 (min v 2000)) (max 0 (min up 20)).toNat (max 0 (min hold 20)).toNat = l at *
  simp only [carC] at h1 h2
  rw [R_fn F_plan_Profile rfl]
  simp [c_plan_Profile, carC, h1, h2]

theorem same_loop (l : List Int) (hl : l.length ≤ 1000) : ∀ (r : List Int) (i : Nat), l.drop i = r → i ≤ l.length →
    Y L Cs c_kerbstonekit_SameLongs_l1 (some [0, 1, 5]) 0 [(0, .w (.c (.rslice (rowsI l)))), (1, .w (.c (.rslice (rowsI l)))), (5, .w (W i))] [] =
      some (.exit 0, [(15, .w (Bo false)), (1, .w (.c (.rslice (rowsI l)))), (0, .w (.c (.rslice (rowsI l)))), (5, .w (W l.length))], []) := by
  intro r
  induction r with
  | nil =>
    intro i hd hi
    obtain rfl := drop_nil hd hi
    refine Y_done ?_ (by simp)
    simp [c_kerbstonekit_SameLongs_l1]
  | cons x r ih =>
    intro i hd hi
    obtain ⟨hil, hx, hd'⟩ := drop_cons hd
    have hw := wrap_succ (i := i) (by omega)
    rw [← ih (i + 1) hd' hil, Y_eq]
    simp [c_kerbstonekit_SameLongs_l1, hil, hx, hw]
theorem R_SameLongs (l : List Int) (hl : l.length ≤ 1000) : R L Cs f_kerbstonekit_SameLongs [.c (.rslice (rowsI l)), .c (.rslice (rowsI l))] [] = some (.w (Bo true), []) := by
  have h := same_loop l hl l 0 rfl (Nat.zero_le _)
  simp only [Int.natCast_zero] at h
  rw [R_fn F_kerbstonekit_SameLongs rfl]
  simp [c_kerbstonekit_SameLongs, h]

abbrev rowsP (ps : List (List Int)) : List (List Cl) := ps.map fun p => [.rslice (rowsI p)]
def pairC : List Cl := [I 6, I 4, I 6, I 0, I 3, I 4, I 3, I 0, I 1, I 4, I 1, I 0, I 0, I 4, I 0, I 0]
abbrev candM (c : Car) (ps : List (List Int)) : Mem := [some (carB c), some { box := false, esz := 1, rows := [], gen := 0, fz := false, ver := 0 }, some { box := true, esz := 16, rows := [pairC], gen := 0, fz := false, ver := 1 }, some (own 1 (rowsP ps))]
abbrev candE (q : List Int) (last v : Int) (i : Nat) (ps : List (List Int)) : Env := [(10, .w (.c (sl 3 1 (rowsP ps)))), (26, .w (W i)), (25, .w (.a pairC)), (4, .w (Pt 0)), (1, .w (.c (.rslice (rowsI q)))), (2, .w (W last)), (3, .w (W v))]
theorem cand_step {c : Car} (hc : c.ok) (q : List Int) (hq : q.length ≤ 5) (last v up hold : Int) (ps : List (List Int)) (hi : ps.length < 8) (hcut : Eng.cut pairC (ps.length * 2) 2 = some [I up, I hold]) :
    Y L Cs c_plan_Candidates_l1 (some [10, 26, 25, 4, 1, 2, 3]) 4 (candE q last v ps.length ps) (candM c ps) =
    Y L Cs c_plan_Candidates_l1 (some [10, 26, 25, 4, 1, 2, 3]) 4 (candE q last v (ps.length + 1) (ps ++ [profL c q last (max 0 (min v 2000)) (max 0 (min up 20)).toNat (max 0 (min hold 20)).toNat])) (candM c (ps ++ [profL c q last (max 0 (min v 2000)) (max 0 (min up 20)).toNat (max 0 (min hold 20)).toNat])) := by
  have h2 := R_profile hc q hq last v up hold
  generalize profL c q last (max 0 (min v 2000)) (max 0 (min up 20)).toNat (max 0 (min hold 20)).toNat = l at *
  simp only [carC] at h2
  have hw := wrap_succ (i := ps.length) (by omega)
  have hi' : (ps.length : Int) < 8 := by omega
  have hr : (ps.length + 1) * 24 ≤ 140737488355328 := by omega
  have htake : (ps.map fun p => ([.rslice (rowsI p)] : List Cl)).take ps.length = ps.map fun p => [.rslice (rowsI p)] := List.take_of_length_le (by simp)
  have hbelow : pairC.all (Eng.below 4) = true := by decide
  simp only [Eng.cut] at hcut
  conv => lhs; rw [Y_eq]
  simp [c_plan_Candidates_l1, hi', hw, h2, hcut, candE, candM, rowsP, carB, carC, hr, htake, hbelow]
/-- The acts of the candidates. -/
def candL (c : Car) (q : List Int) (last v : Int) : List (List Int) := [profL c q last v 6 4, profL c q last v 6 0, profL c q last v 3 4, profL c q last v 3 0, profL c q last v 1 4, profL c q last v 1 0, profL c q last v 0 4, profL c q last v 0 0]
theorem cand_loop {c : Car} (hc : c.ok) (q : List Int) (hq : q.length ≤ 5) (last v : Int) : ∃ E', Y L Cs c_plan_Candidates_l1 (some [10, 26, 25, 4, 1, 2, 3]) 4 (candE q last v 0 []) (candM c []) = some (.exit 0, E', candM c (candL c q last (max 0 (min v 2000)))) ∧ E'.get 10 = some (.w (.c (sl 3 1 (rowsP (candL c q last (max 0 (min v 2000))))))) := by
  have s := fun up hold ps hi hcut => cand_step hc q hq last v up hold ps hi hcut
  have s0 := s 6 4 [] (by simp) rfl
  simp only [List.length_nil] at s0
  rw [s0]
  simp only [List.nil_append, Nat.zero_add]
  rw [show (max 0 (min (6 : Int) 20)).toNat = 6 from rfl, show (max 0 (min (4 : Int) 20)).toNat = 4 from rfl]
  have s1 := s 6 0 [profL c q last (max 0 (min v 2000)) 6 4] (by simp) rfl
  simp only [List.length_cons, List.length_nil, Nat.zero_add] at s1
  rw [s1]
  simp only [List.cons_append, List.nil_append, Nat.reduceAdd]
  rw [show (max 0 (min (6 : Int) 20)).toNat = 6 from rfl, show (max 0 (min (0 : Int) 20)).toNat = 0 from rfl]
  have s2 := s 3 4 [profL c q last (max 0 (min v 2000)) 6 4, profL c q last (max 0 (min v 2000)) 6 0] (by simp) rfl
  simp only [List.length_cons, List.length_nil, Nat.reduceAdd] at s2
  rw [s2]
  simp only [List.cons_append, List.nil_append, Nat.reduceAdd]
  rw [show (max 0 (min (3 : Int) 20)).toNat = 3 from rfl, show (max 0 (min (4 : Int) 20)).toNat = 4 from rfl]
  have s3 := s 3 0 [profL c q last (max 0 (min v 2000)) 6 4, profL c q last (max 0 (min v 2000)) 6 0, profL c q last (max 0 (min v 2000)) 3 4] (by simp) rfl
  simp only [List.length_cons, List.length_nil, Nat.reduceAdd] at s3
  rw [s3]
  simp only [List.cons_append, List.nil_append, Nat.reduceAdd]
  rw [show (max 0 (min (3 : Int) 20)).toNat = 3 from rfl, show (max 0 (min (0 : Int) 20)).toNat = 0 from rfl]
  have s4 := s 1 4 [profL c q last (max 0 (min v 2000)) 6 4, profL c q last (max 0 (min v 2000)) 6 0, profL c q last (max 0 (min v 2000)) 3 4, profL c q last (max 0 (min v 2000)) 3 0] (by simp) rfl
  simp only [List.length_cons, List.length_nil, Nat.reduceAdd] at s4
  rw [s4]
  simp only [List.cons_append, List.nil_append, Nat.reduceAdd]
  rw [show (max 0 (min (1 : Int) 20)).toNat = 1 from rfl, show (max 0 (min (4 : Int) 20)).toNat = 4 from rfl]
  have s5 := s 1 0 [profL c q last (max 0 (min v 2000)) 6 4, profL c q last (max 0 (min v 2000)) 6 0, profL c q last (max 0 (min v 2000)) 3 4, profL c q last (max 0 (min v 2000)) 3 0, profL c q last (max 0 (min v 2000)) 1 4] (by simp) rfl
  simp only [List.length_cons, List.length_nil, Nat.reduceAdd] at s5
  rw [s5]
  simp only [List.cons_append, List.nil_append, Nat.reduceAdd]
  rw [show (max 0 (min (1 : Int) 20)).toNat = 1 from rfl, show (max 0 (min (0 : Int) 20)).toNat = 0 from rfl]
  have s6 := s 0 4 [profL c q last (max 0 (min v 2000)) 6 4, profL c q last (max 0 (min v 2000)) 6 0, profL c q last (max 0 (min v 2000)) 3 4, profL c q last (max 0 (min v 2000)) 3 0, profL c q last (max 0 (min v 2000)) 1 4, profL c q last (max 0 (min v 2000)) 1 0] (by simp) rfl
  simp only [List.length_cons, List.length_nil, Nat.reduceAdd] at s6
  rw [s6]
  simp only [List.cons_append, List.nil_append, Nat.reduceAdd]
  rw [show (max 0 (min (0 : Int) 20)).toNat = 0 from rfl, show (max 0 (min (4 : Int) 20)).toNat = 4 from rfl]
  have s7 := s 0 0 [profL c q last (max 0 (min v 2000)) 6 4, profL c q last (max 0 (min v 2000)) 6 0, profL c q last (max 0 (min v 2000)) 3 4, profL c q last (max 0 (min v 2000)) 3 0, profL c q last (max 0 (min v 2000)) 1 4, profL c q last (max 0 (min v 2000)) 1 0, profL c q last (max 0 (min v 2000)) 0 4] (by simp) rfl
  simp only [List.length_cons, List.length_nil, Nat.reduceAdd] at s7
  rw [s7]
  simp only [List.cons_append, List.nil_append, Nat.reduceAdd]
  rw [show (max 0 (min (0 : Int) 20)).toNat = 0 from rfl]
  refine ⟨_, Y_done (r := (.exit 0, [(27, .w (Bo false)), (10, .w (.c (sl 3 1 (rowsP (candL c q last (max 0 (min v 2000))))))), (26, .w (W 8)), (25, .w (.a pairC)), (4, .w (Pt 0)), (1, .w (.c (.rslice (rowsI q)))), (2, .w (W last)), (3, .w (W v))], candM c (candL c q last (max 0 (min v 2000))))) ?_ (by simp), rfl⟩
  simp [c_plan_Candidates_l1, candL]
theorem R_Candidates {c : Car} (hc : c.ok) (q : List Int) (hq : q.length ≤ 5) (last v : Int) : R L Cs f_plan_Candidates [.a (carC c), .c (.rslice (rowsI q)), W last, W v] [] =
    some (.w (.c (sl 0 1 (rowsP (candL c q last (max 0 (min v 2000)))))), [some (own 1 (rowsP (candL c q last (max 0 (min v 2000)))))]) := by
  have h1 := R_CheckCar hc
  obtain ⟨E', hE, hg⟩ := cand_loop hc q hq last v
  have hlen : (candL c q last (max 0 (min v 2000))).length = 8 := rfl
  generalize candL c q last (max 0 (min v 2000)) = ps at *
  simp only [carC, candE, candM, carB, pairC, sl, own, List.map_nil, List.length_nil, Int.natCast_zero, List.length_map, hlen] at h1 hE hg
  rw [R_fn F_plan_Candidates rfl]
  simp [c_plan_Candidates, carC, h1, hE, hg, hlen]
end Go.PlanRun

