/- Lists that are the same, are the same. -/
import Derived.Test.YtalckbmgdimcpaaGreatDoorLbCov1
set_option linter.unusedVariables false
set_option linter.unusedSimpArgs false
set_option maxRecDepth 10000
namespace Go.LbRun
open Go Go.Eng
theorem F_kerbstonekit_SameInts : L.lookup f_kerbstonekit_SameInts = some c_kerbstonekit_SameInts := by kernel_rfl
theorem F_kerbstonekit_SameFrames : L.lookup f_kerbstonekit_SameFrames = some c_kerbstonekit_SameFrames := by kernel_rfl

set_option maxHeartbeats 1000000 in
theorem ints_loop (l : List Int) (hl : l.length ≤ 1000) : ∀ (r : List Int) (i : Nat), l.drop i = r → i ≤ l.length →
    ∃ E', Y L Cs c_kerbstonekit_SameInts_l1 (some [0, 1, 5]) 0 [(0, .w (.c (.rslice (rowsOf l)))), (1, .w (.c (.rslice (rowsOf l)))), (5, .w (W i))] [] = some (.exit 0, E', []) ∧ Env.get E' 0 = some (.w (.c (.rslice (rowsOf l)))) ∧ Env.get E' 1 = some (.w (.c (.rslice (rowsOf l))))
  | [], i, hd, hi => by
    have hi' : i = l.length := by
      have := congrArg List.length hd
      simp at this; omega
    subst hi'
    rw [Y_step c_kerbstonekit_SameInts_l1.eq_1]
    simp
  | x :: r, i, hd, hi => by
    have h1 : i < l.length := by
      have := congrArg List.length hd
      simp at this; omega
    have h3 : l.drop (i + 1) = r := by
      rw [List.drop_eq_getElem_cons h1] at hd
      exact (List.cons.inj hd).2
    obtain ⟨E', ih, g0, g1⟩ := ints_loop l hl r (i + 1) h3 (by omega)
    have w2 : IntKind.i64.wrap ((i : Int) + 1) = ((i + 1 : Nat) : Int) := by rw [i64_id _ (by omega) (by omega)]; omega
    have h4 : (i : Int) < (l.length : Int) := by omega
    have hx : ∀ h : i < (rowsOf l).length, (rowsOf l)[i] = [I l[i]] := fun h => by simp [rowsOf]
    refine ⟨E', ?_, g0, g1⟩
    rw [← ih, Y_step c_kerbstonekit_SameInts_l1.eq_1]
    simp [h1, h4, w2, hx]
theorem R_SameInts (l : List Int) (hl : l.length ≤ 1000) : R L Cs f_kerbstonekit_SameInts [.c (.rslice (rowsOf l)), .c (.rslice (rowsOf l))] [] = some (.w (Bo true), []) := by
  obtain ⟨E', hY, g0, g1⟩ := ints_loop l hl l 0 rfl (Nat.zero_le _)
  rw [R_fn F_kerbstonekit_SameInts rfl]
  simp at hY
  simp [c_kerbstonekit_SameInts, hY, g0, g1]

set_option maxHeartbeats 1000000 in
theorem frames_loop (l : List Fr) (hl : l.length ≤ 1000) : ∀ (r : List Fr) (i : Nat), l.drop i = r → i ≤ l.length →
    ∃ E', Y L Cs c_kerbstonekit_SameFrames_l1 (some [0, 1, 5]) 0 [(0, .w (.c (.rslice (rowsF l)))), (1, .w (.c (.rslice (rowsF l)))), (5, .w (W i))] [] = some (.exit 0, E', [])
  | [], i, hd, hi => by
    have hi' : i = l.length := by
      have := congrArg List.length hd
      simp at this; omega
    subst hi'
    rw [Y_step c_kerbstonekit_SameFrames_l1.eq_1]
    simp
  | f :: r, i, hd, hi => by
    obtain ⟨h1, h2, h3⟩ := rowsF_get hd
    obtain ⟨E', ih⟩ := frames_loop l hl r (i + 1) h3 (by omega)
    have w2 : IntKind.i64.wrap ((i : Int) + 1) = ((i + 1 : Nat) : Int) := by rw [i64_id _ (by omega) (by omega)]; omega
    have h4 : (i : Int) < (l.length : Int) := by omega
    refine ⟨E', ?_⟩
    simp only [Fr.C] at h2
    rw [← ih, Y_step c_kerbstonekit_SameFrames_l1.eq_1]
    simp [h1, h4, w2, h2]
theorem R_SameFrames (l : List Fr) (hl : l.length ≤ 1000) : R L Cs f_kerbstonekit_SameFrames [.c (.rslice (rowsF l)), .c (.rslice (rowsF l))] [] = some (.w (Bo true), []) := by
  obtain ⟨E', hY⟩ := frames_loop l hl l 0 rfl (Nat.zero_le _)
  rw [R_fn F_kerbstonekit_SameFrames rfl]
  simp at hY
  simp [c_kerbstonekit_SameFrames, hY]
theorem R_CoverNil : R L Cs f_lab_Cover [.c (.rslice [])] [] = some (.w (.c (.rslice [])), []) := R_run (k := 200) (by kernel_rfl)
end Go.LbRun
