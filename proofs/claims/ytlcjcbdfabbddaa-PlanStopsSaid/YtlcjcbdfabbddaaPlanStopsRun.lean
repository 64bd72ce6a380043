/- The law PlanStops returns true. -/
import Derived.Test.YtlcjcbdfabbddaaPlanRun
set_option linter.unusedVariables false
set_option linter.unusedSimpArgs false
set_option linter.unusedSectionVars false
/- The law PlanStops returns true. -/
set_option linter.unusedVariables false
set_option linter.unusedSimpArgs false
set_option maxRecDepth 10000
namespace Go.PlanRun
open Go Go.Eng Go.PlanLaw

theorem stops_law_loop (l : List Int) (A B : Blk) (v0 : Int) (hl : l.length ≤ 200) (hr : ∀ x ∈ l, -100 ≤ x ∧ x ≤ 100) : ∀ (r : List Int) (i : Nat) (u sum : Int), l.drop i = r → i ≤ l.length → 0 ≤ u ∧ u ≤ 2000 → 0 ≤ sum ∧ sum ≤ 2000 * i → midOK u r = true →
    Y L Cs c_kerbstonelaw07_PlanStops_l1 (some [14, 15, 3, 12, 16]) 2 [(14, .w (W u)), (15, .w (W sum)), (3, .w (W v0)), (12, .w (.c (.rslice (rowsI l)))), (16, .w (W i))] [some A, some B] =
      some (.exit 0, [(63, .w (Bo false)), (14, .w (W (endV u r))), (15, .w (W (wayF u sum r))), (12, .w (.c (.rslice (rowsI l)))), (3, .w (W v0)), (16, .w (W l.length))], [some A, some B]) := by
  intro r
  induction r with
  | nil =>
    intro i u sum hd hi hu hs _
    obtain rfl := drop_nil hd hi
    refine Y_done ?_ (by simp)
    simp [c_kerbstonelaw07_PlanStops_l1, endV, wayF]
  | cons x r ih =>
    intro i u sum hd hi hu hs hm
    obtain ⟨hil, hx, hd'⟩ := drop_cons hd
    have hxr := hr x (by rw [← hx]; exact List.getElem_mem hil)
    simp only [midOK, Bool.and_eq_true] at hm
    have hdv := doV_in u x
    have hnext := ih (i + 1) (doV u x) (sum + doV u x) hd' hil hdv (by omega) hm.2
    have hw := wrap_succ (i := i) (by omega)
    have hwu : IntKind.i64.wrap (u + x) = u + x := i64_id _ (by omega) (by omega)
    have hde := doV_eq u x hu hxr
    rw [hde] at hnext hm hdv
    have hws : IntKind.i64.wrap (sum + max 0 (min 2000 (u + x))) = sum + max 0 (min 2000 (u + x)) := i64_id _ (by omega) (by omega)
    simp only [endV, wayF, hde]
    rw [← hnext, Y_eq]
    have hrl : r.length = l.length - (i + 1) := by rw [← hd']; simp
    generalize hU : max 0 (min 2000 (u + x)) = U at *
    by_cases hlast : i + 1 < l.length
    · have hcast : ((i : Int) + 1 < l.length) := by omega
      have hne : r.isEmpty = false := by
        cases r with
        | nil => simp at hrl; omega
        | cons y r => rfl
      have hm1 := hm.1
      rw [hne] at hm1
      simp only [Bool.false_or, Bool.not_eq_true', Bool.and_eq_false_iff, decide_eq_false_iff_not] at hm1
      by_cases hz : U = 0
      · have hx0 : ¬ x ≤ 0 := by rcases hm1 with h | h; exact absurd hz h; exact h
        have hzb : (U == 0) = true := by simp [hz]
        simp [c_kerbstonelaw07_PlanStops_l1, hil, hx, hwu, hU, hws, hw, hzb, hx0, hcast]
      · have hzb : (U == 0) = false := by simpa using hz
        simp [c_kerbstonelaw07_PlanStops_l1, hil, hx, hwu, hU, hws, hw, hzb, hcast]
    · have hcast : ¬ ((i : Int) + 1 < l.length) := by omega
      simp [c_kerbstonelaw07_PlanStops_l1, hil, hx, hwu, hU, hws, hw, hcast]

def weakF (c : Car) (weak : Bool) : Car := if weak then { c with brake := 20, rate := 5 } else c
theorem weakF_ok {c : Car} (h : c.ok) (weak : Bool) : (weakF c weak).ok := by
  obtain ⟨h1, h2, h3, h4, h5, h6, h7, h8, h9, h10⟩ := h
  unfold weakF
  split <;> simp only [Car.ok] <;> omega
set_option maxHeartbeats 4000000 in
theorem R_PlanStops (l a b r : Int) (weak : Bool) (acc v more : Int) : R L Cs f_kerbstonelaw07_PlanStops [.a [I l, I a, I b, I r], Bo weak, W acc, W v, W more] [] = some (.w (Bo true), []) := by
  have hmade := R_made l a b r
  have hok := weakF_ok (madeF_ok l a b r) weak
  have m1 := R_Mod64 v 2001 (by omega) (by omega)
  have m2 := R_Mod64 more 500 (by omega) (by omega)
  have b1 := Int.emod_nonneg v (by omega : (2001 : Int) ≠ 0)
  have b2 := Int.emod_lt_of_pos v (by omega : (0 : Int) < 2001)
  have b3 := Int.emod_nonneg more (by omega : (500 : Int) ≠ 0)
  have b4 := Int.emod_lt_of_pos more (by omega : (0 : Int) < 500)
  generalize hv' : v % 2001 = v' at *
  generalize hm' : more % 500 = m' at *
  have w1 : IntKind.i64.wrap (v' + m') = v' + m' := i64_id _ (by omega) (by omega)
  have s1 := R_Stops hok acc v'
  have s2 := R_Stops hok acc (min 2000 (v' + m'))
  rw [show max 0 (min v' 2000) = v' by omega] at s1
  rw [show max 0 (min (min 2000 (v' + m')) 2000) = min 2000 (v' + m') by omega] at s2
  obtain ⟨e1, e2, e3⟩ := stops_eq hok acc v' (by omega) (by omega)
  obtain ⟨k1, k2, k3⟩ := stops_eq hok acc (min 2000 (v' + m')) (by omega) (by omega)
  have hch := stops_chain hok acc v' (by omega) (by omega)
  have hend := stopL_end (by omega) e1
  have hmid := stopL_mid e1
  obtain ⟨l', q1, q2⟩ := stopL_mono (show v' ≤ min 2000 (v' + m') by omega) k1
  rw [e1] at q1
  obtain rfl := Option.some.inj q1
  have hcheck := R_Check hok (stops (weakF (madeF l a b r) weak) acc v') (by omega)
  have hway := R_Way (stops (weakF (madeF l a b r) weak) acc v') (by omega) 0 0 0 v'
  rw [show max 0 (min v' 2000) = v' by omega] at hway
  have hrange := fun x hx => chain_in hch x hx
  generalize hL1 : stops (weakF (madeF l a b r) weak) acc v' = L1 at *
  generalize hL2 : stops (weakF (madeF l a b r) weak) acc (min 2000 (v' + m')) = L2 at *
  cases L1 with
  | nil => simp at e2
  | cons x t =>
  have hF : checkF (weakF (madeF l a b r) weak) (x :: t) = 0 := by
    refine checkF_ok hok hch e2 (by omega) ?_
    rw [lastA_cons _ acc (by simp)]
    exact hend.2
  rw [hF] at hcheck
  have hrg : ∀ y ∈ (x :: t), -100 ≤ y ∧ y ≤ 100 := by
    intro y hy
    have := hrange y hy
    obtain ⟨h1, h2, h3, h4, h5, h6, h7, h8, h9, h10⟩ := hok
    omega
  have hloop := stops_law_loop (x :: t) { box := true, esz := 4, rows := [[I l, I a, I b, I r]], gen := 0, fz := false, ver := 0 } { box := true, esz := 5, rows := [carC (weakF (madeF l a b r) weak)], gen := 0, fz := false, ver := if weak then 3 else 1 } v' (by omega) hrg (x :: t) 0 v' 0 rfl (Nat.zero_le _) (by omega) (by simp) hmid
  rw [hend.1] at hloop
  have hz : lastA acc (x :: t) = t.getLastD x := by
    rw [← getLastD_lastA acc (by simp), List.getLastD_cons]
  have hlast : ∀ h, ([I x] :: rowsI t)[t.length]'h = [I (t.getLastD x)] := by
    intro h
    have e : [I x] :: rowsI t = rowsI (x :: t) := rfl
    simp only [e, rowsI_getElem]
    simp [List.getLastD_eq_getLast?, List.getLast?_eq_getElem?]
    cases t with
    | nil => rfl
    | cons y t => simp
  have hz0 := hend.2
  rw [hz] at hz0
  clear hz
  generalize t.getLastD x = z at hlast hz0
  generalize madeF l a b r = c0 at *
  have haw := R_awake
  have hlt : (t.length : Int) < (t.length : Int) + 1 := by omega
  have hwl : IntKind.i64.wrap (t.length : Int) = t.length := by simp at e3; exact i64_id _ (by omega) (by omega)
  have hne : ¬ ((t.length : Int) + 1 = 0) := by omega
  have hneb : (((t.length : Int) + 1) == 0) = false := by simpa using hne
  have hlen : ¬ ((L2.length : Int) < (t.length : Int) + 1) := by simp at q2; omega
  have hlen2 : ¬ ((150 : Int) < (L2.length : Int)) := by omega
  cases weak with
  | false =>
    simp [weakF, carC] at s1 s2 hcheck hloop hmade hway
    rw [R_fn F_kerbstonelaw07_PlanStops rfl]
    simp [c_kerbstonelaw07_PlanStops, hmade, m1, m2, w1, s1, s2, hcheck, hloop, hway, hlast, haw, hlt, hwl, hneb, hlen, hlen2, hz0]
  | true =>
    simp [weakF, carC] at s1 s2 hcheck hloop hmade hway
    rw [R_fn F_kerbstonelaw07_PlanStops rfl]
    simp [c_kerbstonelaw07_PlanStops, hmade, m1, m2, w1, s1, s2, hcheck, hloop, hway, hlast, haw, hlt, hwl, hneb, hlen, hlen2, hz0]
end Go.PlanRun

