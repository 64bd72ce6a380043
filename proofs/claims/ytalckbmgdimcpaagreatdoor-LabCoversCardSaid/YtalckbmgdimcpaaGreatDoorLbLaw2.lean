/- LabCovers returns true. -/
import Derived.Test.YtalckbmgdimcpaaGreatDoorLbLaw
set_option linter.unusedVariables false
set_option linter.unusedSimpArgs false
set_option maxRecDepth 10000
namespace Go.LbRun
open Go Go.Eng
theorem F_kerbstonekit_HasInt : L.lookup f_kerbstonekit_HasInt = some c_kerbstonekit_HasInt := by kernel_rfl
theorem F_kerbstonelaw10_LabCovers : L.lookup f_kerbstonelaw10_LabCovers = some c_kerbstonelaw10_LabCovers := by kernel_rfl
theorem drop_z {l : List Int} {i : Nat} {x : Int} {r : List Int} (hd : l.drop i = x :: r) : i < l.length ∧ (∀ h : i < (rowsOf l).length, (rowsOf l)[i] = [I x]) ∧ l.drop (i + 1) = r ∧ l[i]? = some x := by
  have h1 : i < l.length := by
    have := congrArg List.length hd
    simp at this; omega
  rw [List.drop_eq_getElem_cons h1] at hd
  obtain ⟨e1, e2⟩ := List.cons.inj hd
  exact ⟨h1, fun h => by simp [rowsOf, e1], e2, by rw [List.getElem?_eq_getElem h1, e1]⟩
set_option maxHeartbeats 1000000 in
theorem has_loop (l : List Int) (hl : l.length ≤ 1000) (x : Int) : ∀ (r : List Int) (i : Nat), l.drop i = r → i ≤ l.length →
    ∃ E', Y L Cs c_kerbstonekit_HasInt_l1 (some [0, 1, 5]) 0 [(0, .w (.c (.rslice (rowsOf l)))), (1, .w (W x)), (5, .w (W i))] [] = some (if x ∈ r then (.ret, [(4, .w (Bo true))], []) else (.exit 0, E', []))
  | [], i, hd, hi => by
    have hi' : i = l.length := by
      have := congrArg List.length hd
      simp at this; omega
    subst hi'
    rw [Y_step c_kerbstonekit_HasInt_l1.eq_1]
    simp
  | y :: r, i, hd, hi => by
    obtain ⟨h1, h2, h3, _⟩ := drop_z hd
    have w2 : IntKind.i64.wrap ((i : Int) + 1) = ((i + 1 : Nat) : Int) := by rw [i64_id _ (by omega) (by omega)]; omega
    have h4 : (i : Int) < (l.length : Int) := by omega
    obtain ⟨E', ih⟩ := has_loop l hl x r (i + 1) h3 (by omega)
    refine ⟨E', ?_⟩
    rw [Y_step c_kerbstonekit_HasInt_l1.eq_1]
    by_cases hxy : y = x
    · subst hxy
      simp [h1, h4, w2, h2]
    · have hxy' : ¬ x = y := fun e => hxy e.symm
      have hm : (x ∈ y :: r) = (x ∈ r) := by simp [hxy']
      have hq : (if x ∈ y :: r then ((EX.ret, [(4, AV.w (Bo true))], []) : EX × Env × Mem) else (EX.exit 0, E', [])) = if x ∈ r then (EX.ret, [(4, AV.w (Bo true))], []) else (EX.exit 0, E', []) := by
        by_cases hr : x ∈ r <;> simp [hr, hxy']
      rw [hq, ← ih]
      simp [h1, h4, w2, h2, hxy]
theorem R_HasInt (l : List Int) (hl : l.length ≤ 1000) (x : Int) : R L Cs f_kerbstonekit_HasInt [.c (.rslice (rowsOf l)), W x] [] = some (.w (Bo (decide (x ∈ l))), []) := by
  obtain ⟨E', hY⟩ := has_loop l hl x l 0 rfl (Nat.zero_le _)
  rw [R_fn F_kerbstonekit_HasInt rfl]
  by_cases h : x ∈ l
  · simp [h] at hY
    simp [c_kerbstonekit_HasInt, hY, h]
  · simp [h] at hY
    simp [c_kerbstonekit_HasInt, hY, h]

abbrev rz (l : List Int) : AV := .w (.c (.rslice (rowsOf l)))
abbrev covM (l1 l2 : List Fr) (c1 c2 : List (List Cl)) (w1 n1 w2 n2 : ByteArray) : Mem :=
  [bx 4 [.rslice (rowsF l1), .rslice c1, .str w1, .str n1], bx 4 [.rslice (rowsF l2), .rslice c2, .str w2, .str n2],
   some { box := false, esz := 4, rows := [[.rslice (rowsF l1), .rslice c1, .str w1, .str n1], [.rslice (rowsF l2), .rslice c2, .str w2, .str n2]], gen := 2, fz := true, ver := 3 }]
section
variable (l1 l2 : List Fr) (c1 c2 : List (List Cl)) (w1 n1 w2 n2 : ByteArray)
set_option maxHeartbeats 4000000 in
theorem cov_loop1 (a b c : List Int) (hc : c.length ≤ 1000) (ha : a.length ≤ 1000) (hb : b.length ≤ 1000) (hrg : ∀ x ∈ c, 0 ≤ x ∧ x < 72) (hin : ∀ x ∈ c, x ∈ a ∨ x ∈ b) (hso : ∀ (i : Nat) (x y : Int), c[i]? = some x → c[i + 1]? = some y → x < y) : ∀ (r : List Int) (i : Nat), c.drop i = r → i ≤ c.length →
    ∃ E', Y L Cs c_kerbstonelaw10_LabCovers_l1 (some [5, 6, 7, 8]) 3 [(5, rz a), (6, rz b), (7, rz c), (8, .w (W i))] (covM l1 l2 c1 c2 w1 n1 w2 n2) = some (.exit 0, E', covM l1 l2 c1 c2 w1 n1 w2 n2) ∧ Env.get E' 5 = some (rz a) ∧ Env.get E' 6 = some (rz b) ∧ Env.get E' 7 = some (rz c)
  | [], i, hd, hi => by
    have hi' : i = c.length := by
      have := congrArg List.length hd
      simp at this; omega
    subst hi'
    rw [Y_step c_kerbstonelaw10_LabCovers_l1.eq_1]
    simp
  | y :: r, i, hd, hi => by
    obtain ⟨h1, h2, h3, hg⟩ := drop_z hd
    have w2' : IntKind.i64.wrap ((i : Int) + 1) = ((i + 1 : Nat) : Int) := by rw [i64_id _ (by omega) (by omega)]; omega
    have h4 : (i : Int) < (c.length : Int) := by omega
    obtain ⟨E', ih, g1, g2, g3⟩ := cov_loop1 a b c hc ha hb hrg hin hso r (i + 1) h3 (by omega)
    have hym := List.mem_of_getElem? hg
    obtain ⟨q1, q2⟩ := hrg y hym
    have q3 : ¬ y < 0 := by omega
    have q4 : ¬ 71 < y := by omega
    have hA := R_HasInt a ha y
    have hB := R_HasInt b hb y
    have hor := hin y hym
    refine ⟨E', ?_, g1, g2, g3⟩
    rw [← ih, Y_step c_kerbstonelaw10_LabCovers_l1.eq_1]
    cases i with
    | zero =>
      by_cases hya : y ∈ a
      · simp [hya] at hA
        simp at h2 h1 w2'
        simp [h1, h2, q3, q4, hA, w2', wr1]
      · have hyb : y ∈ b := hor.resolve_left hya
        simp [hya] at hA
        simp [hyb] at hB
        simp at h2 h1 w2'
        simp [h1, h2, q3, q4, hA, hB, w2', wr1]
    | succ k =>
      have hk : k < c.length := by omega
      have hlt : c[k] < y := hso k c[k] y (List.getElem?_eq_getElem hk) hg
      have q5 : ¬ y ≤ c[k] := by omega
      have w3 : IntKind.i64.wrap (((k : Int) + 1) - 1) = (k : Int) := by rw [i64_id _ (by omega) (by omega)]; omega
      have w4 : IntKind.i64.wrap (k : Int) = (k : Int) := i64_id _ (by omega) (by omega)
      have q6 : (0 : Int) < (k : Int) + 1 := by omega
      have q7 : (0 : Int) ≤ (k : Int) + 1 := by omega
      have q8 : (k : Int) + 1 < (c.length : Int) := by omega
      have q9 : (k : Int) < (c.length : Int) := by omega
      have hk' : ∀ h : k < (rowsOf c).length, (rowsOf c)[k] = [I c[k]] := fun h => by simp [rowsOf]
      by_cases hya : y ∈ a
      · simp [hya] at hA
        simp at w2'
        simp [h1, h2, q3, q4, q5, q6, q7, q8, q9, hk, hk', hA, w2', w3, w4]
      · have hyb : y ∈ b := hor.resolve_left hya
        simp [hya] at hA
        simp [hyb] at hB
        simp at w2'
        simp [h1, h2, q3, q4, q5, q6, q7, q8, q9, hk, hk', hA, hB, w2', w3, w4]
set_option maxHeartbeats 2000000 in
theorem cov_loop2 (a b c : List Int) (hc : c.length ≤ 1000) (ha : a.length ≤ 1000) (hall : ∀ x ∈ a, x ∈ c) : ∀ (r : List Int) (i : Nat), a.drop i = r → i ≤ a.length →
    ∃ E', Y L Cs c_kerbstonelaw10_LabCovers_l2 (some [6, 7, 5, 9]) 3 [(6, rz b), (7, rz c), (5, rz a), (9, .w (W i))] (covM l1 l2 c1 c2 w1 n1 w2 n2) = some (.exit 2, E', covM l1 l2 c1 c2 w1 n1 w2 n2) ∧ Env.get E' 6 = some (rz b) ∧ Env.get E' 7 = some (rz c)
  | [], i, hd, hi => by
    have hi' : i = a.length := by
      have := congrArg List.length hd
      simp at this; omega
    subst hi'
    rw [Y_step c_kerbstonelaw10_LabCovers_l2.eq_1]
    simp
  | y :: r, i, hd, hi => by
    obtain ⟨h1, h2, h3, hg⟩ := drop_z hd
    have w2' : IntKind.i64.wrap ((i : Int) + 1) = ((i + 1 : Nat) : Int) := by rw [i64_id _ (by omega) (by omega)]; omega
    have h4 : (i : Int) < (a.length : Int) := by omega
    obtain ⟨E', ih, g1, g2⟩ := cov_loop2 a b c hc ha hall r (i + 1) h3 (by omega)
    have hh := R_HasInt c hc y
    have hy : y ∈ c := hall y (List.mem_of_getElem? hg)
    simp [hy] at hh
    refine ⟨E', ?_, g1, g2⟩
    rw [← ih, Y_step c_kerbstonelaw10_LabCovers_l2.eq_1]
    simp [h1, h4, w2', h2, hh]
set_option maxHeartbeats 2000000 in
theorem cov_loop3 (b c : List Int) (hc : c.length ≤ 1000) (hb : b.length ≤ 1000) (hall : ∀ x ∈ b, x ∈ c) : ∀ (r : List Int) (i : Nat), b.drop i = r → i ≤ b.length →
    ∃ E', Y L Cs c_kerbstonelaw10_LabCovers_l3 (some [7, 6, 10]) 3 [(7, rz c), (6, rz b), (10, .w (W i))] (covM l1 l2 c1 c2 w1 n1 w2 n2) = some (.exit 4, E', covM l1 l2 c1 c2 w1 n1 w2 n2)
  | [], i, hd, hi => by
    have hi' : i = b.length := by
      have := congrArg List.length hd
      simp at this; omega
    subst hi'
    rw [Y_step c_kerbstonelaw10_LabCovers_l3.eq_1]
    simp
  | y :: r, i, hd, hi => by
    obtain ⟨h1, h2, h3, hg⟩ := drop_z hd
    have w2' : IntKind.i64.wrap ((i : Int) + 1) = ((i + 1 : Nat) : Int) := by rw [i64_id _ (by omega) (by omega)]; omega
    have h4 : (i : Int) < (b.length : Int) := by omega
    obtain ⟨E', ih⟩ := cov_loop3 b c hc hb hall r (i + 1) h3 (by omega)
    have hh := R_HasInt c hc y
    have hy : y ∈ c := hall y (List.mem_of_getElem? hg)
    simp [hy] at hh
    refine ⟨E', ?_⟩
    rw [← ih, Y_step c_kerbstonelaw10_LabCovers_l3.eq_1]
    simp [h1, h4, w2', h2, hh]
end
theorem sitsF_append : ∀ l m : List Fr, sitsF (l ++ m) = sitsF l ++ sitsF m
  | [], m => rfl
  | f :: l, m => by
    simp only [List.cons_append, sitsF, sitsF_append l m]
    split <;> simp
theorem sitL_mem (l : List Fr) (z : Int) : z ∈ sitL l ↔ z ∈ sitsF l := by
  unfold sitL
  rw [compF_mem, sortL_mem]
theorem sitL_sorted (l : List Fr) : (sitL l).Pairwise (· < ·) := compF_sorted _ (@sortI_sorted rp _)
theorem sitL_len (l : List Fr) : (sitL l).length ≤ 72 := by rw [← covF_eq]; exact outF_len _ _ _
set_option maxHeartbeats 4000000 in
theorem R_LabCovers (hA : R L Cs f_kerbstonelaw10_awake [] [] = some (.w (Bo true), [])) (l1 l2 : List Fr) (c1 c2 : List (List Cl)) (w1 n1 w2 n2 : ByteArray) : ∃ M', R L Cs f_kerbstonelaw10_LabCovers [.a (tripC l1 c1 w1 n1), .a (tripC l2 c2 w2 n2)] [] = some (.w (Bo true), M') := by
  refine ⟨[], ?_⟩
  rw [R_fn F_kerbstonelaw10_LabCovers rfl]
  by_cases h1 : 30 < (l1.length : Int)
  · simp [c_kerbstonelaw10_LabCovers, tripC, h1, hA]
  · by_cases h2 : 30 < (l2.length : Int)
    · simp [c_kerbstonelaw10_LabCovers, tripC, h1, h2, hA]
    · have x3 := R_Situations l1 (by omega) c1 w1 n1
      have x4 := R_Situations l2 (by omega) c2 w2 n2
      have x6 := R_Cover l1 l2 (by omega) (by omega) c1 c2 w1 n1 w2 n2
      have b1 := sitL_len l1
      have b2 := sitL_len l2
      have b3 := sitL_len (l1 ++ l2)
      have m3 : ∀ x, x ∈ sitL (l1 ++ l2) ↔ x ∈ sitL l1 ∨ x ∈ sitL l2 := fun x => by simp only [sitL_mem, sitsF_append, List.mem_append]
      have hso : ∀ (i : Nat) (x y : Int), (sitL (l1 ++ l2))[i]? = some x → (sitL (l1 ++ l2))[i + 1]? = some y → x < y := by
        intro i x y hx hy
        obtain ⟨i1, rfl⟩ := List.getElem?_eq_some_iff.1 hx
        obtain ⟨i2, rfl⟩ := List.getElem?_eq_some_iff.1 hy
        exact List.pairwise_iff_getElem.1 (sitL_sorted (l1 ++ l2)) i (i + 1) i1 i2 (Nat.lt_succ_self i)
      have hrg : ∀ x ∈ sitL (l1 ++ l2), 0 ≤ x ∧ x < 72 := fun x hx => sits_bound _ x ((sitL_mem _ x).1 hx)
      obtain ⟨E1, y1, g1, g2, g3⟩ := cov_loop1 l1 l2 c1 c2 w1 n1 w2 n2 (sitL l1) (sitL l2) (sitL (l1 ++ l2)) (by omega) (by omega) (by omega) hrg (fun x hx => (m3 x).1 hx) hso _ 0 rfl (Nat.zero_le _)
      obtain ⟨E2, y2, g4, g5⟩ := cov_loop2 l1 l2 c1 c2 w1 n1 w2 n2 (sitL l1) (sitL l2) (sitL (l1 ++ l2)) (by omega) (by omega) (fun x hx => (m3 x).2 (.inl hx)) _ 0 rfl (Nat.zero_le _)
      obtain ⟨E3, y3⟩ := cov_loop3 l1 l2 c1 c2 w1 n1 w2 n2 (sitL l2) (sitL (l1 ++ l2)) (by omega) (by omega) (fun x hx => (m3 x).2 (.inr hx)) _ 0 rfl (Nat.zero_le _)
      clear m3 hso hrg
      generalize sitL l1 = s1 at *
      generalize sitL l2 = s2 at *
      generalize sitL (l1 ++ l2) = s3 at *
      simp only [tripC] at *
      simp at y1 y2 y3
      simp (maxSteps := 2000000) [c_kerbstonelaw10_LabCovers, h1, h2, x3, x4, x6, markOne, y1, y2, y3, g1, g2, g3, g4, g5, hA]
end Go.LbRun
