/- The situations of a trip: collected, sorted. -/
import Derived.Test.YtalckbmgdimcpaaGreatDoorLbFail
set_option linter.unusedVariables false
set_option linter.unusedSimpArgs false
set_option maxRecDepth 10000
namespace Go.LbRun
open Go Go.Eng

theorem F_lab_Situations : L.lookup f_lab_Situations = some c_lab_Situations := by kernel_rfl
theorem F_slices_Compact_int : L.lookup f_slices_Compact_int = some c_slices_Compact_int := by kernel_rfl

@[simp] theorem rowsOf_len (l : List Int) : (rowsOf l).length = l.length := by simp [rowsOf]
theorem rowsOf_append (l m : List Int) : rowsOf (l ++ m) = rowsOf l ++ rowsOf m := by simp [rowsOf]
theorem rowsOf_cons (x : Int) (l : List Int) : rowsOf (x :: l) = [I x] :: rowsOf l := rfl
@[simp] theorem rowsOf_nil : rowsOf [] = [] := rfl
theorem zsOf_rowsOf : ∀ l : List Int, zsOf (rowsOf l) = some l
  | [] => rfl
  | x :: l => by simp [rowsOf_cons, zsOf, zsOf_rowsOf l]
theorem rowsOf_drop (l : List Int) (n : Nat) : (rowsOf l).drop n = rowsOf (l.drop n) := by simp [rowsOf]
theorem rowsOf_take (l : List Int) (n : Nat) : (rowsOf l).take n = rowsOf (l.take n) := by simp [rowsOf]

theorem Cs_sort : Cs.lookup f_slices_Sort_int = some (0, 0, false) := by kernel_rfl
/-- Sorting a list of one's own. -/
theorem R_Sort (l : List Int) (hl : l.length ≤ 100000) : R L Cs f_slices_Sort_int [.c (sl 0 1 (rowsOf l))] [some (own 1 (rowsOf l))] =
    some (.t [], [some { box := false, esz := 1, rows := rowsOf (sortI l), gen := l.length, fz := false, ver := if l.length = 0 then 0 else l.length + 1 }]) := by
  rw [R_oracle rfl]
  unfold clones
  rw [Cs_sort]
  by_cases h0 : l.length = 0
  · have : l = [] := List.eq_nil_of_length_eq_zero h0
    subst this
    simp [sortX, sortI, rowsOf]
  · have h1 : l.length < 4611686018427387904 := by omega
    have h2 : (rowsOf l).take l.length = rowsOf l := List.take_of_length_le (by simp)
    have h3 : (rowsOf l).drop l.length = [] := List.drop_of_length_le (by simp)
    simp [sortX, h0, h1, h2, h3, zsOf_rowsOf]

/-- The situations of frames, in their order. -/
def sitsF : List Fr → List Int
  | [] => []
  | f :: l => if f.sits then f.sit :: sitsF l else sitsF l
theorem sitsF_len : ∀ l : List Fr, (sitsF l).length ≤ l.length
  | [] => Nat.le_refl _
  | f :: l => by
    have := sitsF_len l
    unfold sitsF; split <;> simp <;> omega

set_option maxHeartbeats 1000000 in
theorem sits_loop (l : List Fr) (hl : l.length ≤ 1000) (cr : List (List Cl)) (w n : ByteArray) : ∀ (r : List Fr) (i : Nat) (acc : List Int), l.drop i = r → i ≤ l.length → acc.length ≤ i →
    Y L Cs c_lab_Situations_l1 (some [3, 11, 10, 9]) 3 [(3, .w (.c (sl 2 1 (rowsOf acc)))), (11, .w (W i)), (10, .w (W l.length)), (9, .w (.c (.rslice (rowsF l))))] [bx 4 (tripC l cr w n), gb 1, some (own 1 (rowsOf acc))] =
      some (.exit 0, [(12, .w (Bo false)), (3, .w (.c (sl 2 1 (rowsOf (acc ++ sitsF r))))), (11, .w (W l.length)), (10, .w (W l.length)), (9, .w (.c (.rslice (rowsF l))))], [bx 4 (tripC l cr w n), gb 1, some (own 1 (rowsOf (acc ++ sitsF r)))])
  | [], i, acc, hd, hi, ha => by
    have hi' : i = l.length := by
      have := congrArg List.length hd
      simp at this; omega
    subst hi'
    rw [Y_step c_lab_Situations_l1.eq_1]
    simp [sitsF, tripC]
  | f :: r, i, acc, hd, hi, ha => by
    obtain ⟨h1, h2, h3⟩ := rowsF_get hd
    have w2 : IntKind.i64.wrap ((i : Int) + 1) = ((i + 1 : Nat) : Int) := by rw [i64_id _ (by omega) (by omega)]; omega
    have h4 : (i : Int) < (l.length : Int) := by omega
    have hf := R_situation f
    have hroom : (acc.length + 1) * 8 ≤ 140737488355328 := by omega
    have htk : (rowsOf acc).take acc.length = rowsOf acc := List.take_of_length_le (by simp)
    rw [Y_step c_lab_Situations_l1.eq_1]
    cases hb : f.sits
    · have ih := sits_loop l hl cr w n r (i + 1) acc h3 (by omega) (by omega)
      rw [hb] at hf
      rw [sitsF, hb, if_neg (by simp), ← ih]
      simp only [Fr.C] at hf h2
      simp at hf
      simp [tripC, h1, h2, h4, hf, w2]
    · have ih := sits_loop l hl cr w n r (i + 1) (acc ++ [f.sit]) h3 (by omega) (by simp; omega)
      rw [hb] at hf
      rw [sitsF, hb, if_pos rfl, show acc ++ f.sit :: sitsF r = (acc ++ [f.sit]) ++ sitsF r by simp, ← ih]
      simp only [Fr.C] at hf h2
      simp at hf
      simp [tripC, h1, h2, h4, hf, w2, hroom, htk, rowsOf_append, rowsOf_cons]

/-! ### slices.Compact -/
/-- What is left of a list behind an element, if equal neighbours become one. -/
def dd (x : Int) : List Int → List Int
  | [] => []
  | y :: l => if y = x then dd x l else y :: dd y l
def compF : List Int → List Int
  | [] => []
  | x :: l => x :: dd x l
theorem dd_len : ∀ (x : Int) (l : List Int), (dd x l).length ≤ l.length
  | _, [] => Nat.le_refl _
  | x, y :: l => by
    have h1 := dd_len x l
    have h2 := dd_len y l
    unfold dd; split <;> simp <;> omega

theorem rowsOf_get {l : List Int} {i : Nat} (h : i < l.length) : ∀ h' : i < (rowsOf l).length, (rowsOf l)[i] = [I l[i]] := by
  intro h'; simp [rowsOf]

/-- A list of one's own whose rows have changed v times. -/
abbrev ownv (v : Nat) (l : List Int) : Option Blk := some { box := false, esz := 1, rows := rowsOf l, gen := l.length, fz := false, ver := v }

theorem at0 (A : List Int) (x : Int) (r : List Int) : (rowsOf (A ++ x :: r))[A.length]? = some [I x] := by simp [rowsOf]
theorem at1 (A : List Int) (x y : Int) (r : List Int) : (rowsOf (A ++ x :: y :: r))[A.length + 1]? = some [I y] := by
  rw [show A ++ x :: y :: r = (A ++ [x]) ++ y :: r by simp]
  have := at0 (A ++ [x]) y r
  simpa using this
theorem at0' (A : List Int) (x : Int) (r : List Int) : ∀ h : A.length < (rowsOf (A ++ x :: r)).length, (rowsOf (A ++ x :: r))[A.length] = [I x] := fun h => by
  have := at0 A x r
  rw [List.getElem?_eq_getElem h] at this
  exact Option.some.inj this
theorem set0 (A : List Int) (x y : Int) (r : List Int) : (rowsOf (A ++ x :: r)).set A.length [I y] = rowsOf (A ++ y :: r) := by simp [rowsOf, List.set_append]
set_option maxHeartbeats 1000000 in
/-- The part of Compact that moves: P is what is kept, then what is free, then the last one, then the rest. -/
theorem comp_loop (k T : Nat) (hT : T ≤ 100000) : ∀ (rest P J : List Int) (x : Int) (j v : Nat), P.length + J.length = k + j → (P ++ J ++ x :: rest).length = T → 1 ≤ P.length →
    ∃ v' Q, Y L Cs c_slices_Compact_int_l1 (some [3, 5, 0, 4]) 2 [(3, .w (W P.length)), (5, .w (W ((j : Int) + 1))), (0, .w (.c (.slice 0 T 1 0 T none))), (4, .w (.c (.slice 0 T 1 k (T - k) none)))] [some { box := false, esz := 1, rows := rowsOf (P ++ J ++ x :: rest), gen := T, fz := false, ver := v }, gb 1] =
      some (.exit 2, [(32, .w (Bo false)), (3, .w (W (P ++ dd x rest).length)), (5, .w (W (T - k : Nat))), (0, .w (.c (.slice 0 T 1 0 T none))), (4, .w (.c (.slice 0 T 1 k (T - k) none)))],
        [some { box := false, esz := 1, rows := rowsOf (P ++ dd x rest ++ Q), gen := T, fz := false, ver := v' }, gb 1]) ∧ ((P ++ dd x rest ++ Q).length = T ∧ v ≤ v')
  | [], P, J, x, j, v, hk, hl, hp => by
    refine ⟨v, J ++ [x], ?_, by simpa [dd] using hl, Nat.le_refl _⟩
    have e1 : T - k = j + 1 := by simp at hl; omega
    rw [Y_step c_slices_Compact_int_l1.eq_1]
    simp only [e1]
    simp [dd]
  | y :: rest, P, J, x, j, v, hk, hl, hp => by
    have hl' : P.length + J.length + rest.length + 2 = T := by simp at hl; omega
    have h4 : (j : Int) + 1 < ((T - k : Nat) : Int) := by omega
    have h5 : (j : Int) < ((T - k : Nat) : Int) := by omega
    have h7 : (0 : Int) ≤ (j : Int) + 1 := by omega
    have w0 : IntKind.i64.wrap (j : Int) = (j : Int) := i64_id _ (by omega) (by omega)
    have w1 : IntKind.i64.wrap ((j : Int) + 1 - 1) = (j : Int) := by rw [i64_id _ (by omega) (by omega)]; omega
    have w2 : IntKind.i64.wrap ((j : Int) + 1 + 1) = ((j + 1 : Nat) : Int) + 1 := by rw [i64_id _ (by omega) (by omega)]; omega
    have w3 : IntKind.i64.wrap ((P.length : Int) + 1) = (P.length : Int) + 1 := i64_id _ (by omega) (by omega)
    have hx := at0 (P ++ J) x (y :: rest)
    have hy := at1 (P ++ J) x y rest
    rw [List.length_append, hk] at hx hy
    rw [Nat.add_assoc] at hy
    rw [Y_step c_slices_Compact_int_l1.eq_1]
    by_cases hxy : y = x
    · subst hxy
      obtain ⟨v', Q, ih, hq⟩ := comp_loop k T hT rest P (J ++ [y]) y (j + 1) v (by simp; omega) (by simp; omega) hp
      rw [show dd y (y :: rest) = dd y rest by simp [dd]]
      refine ⟨v', Q, ?_, hq⟩
      rw [← ih]
      simp only [List.append_assoc, List.cons_append, List.nil_append] at hx hy ⊢
      simp [h4, h5, h7, w0, w1, w2, w3, hx, hy]
    · cases J with
      | nil =>
        obtain ⟨v', Q, ih, hq⟩ := comp_loop k T hT rest (P ++ [y]) [] y (j + 1) (v + 1) (by simp at hk ⊢; omega) (by simp at hl ⊢; omega) (by simp)
        rw [show dd x (y :: rest) = y :: dd y rest by simp [dd, hxy]]
        refine ⟨v', Q, ?_, by simpa using hq.1, by omega⟩
        rw [show P ++ y :: dd y rest = (P ++ [y]) ++ dd y rest by simp, ← ih]
        have hset := set0 P x y (y :: rest)
        have hrow := at0' P x (y :: rest)
        simp only [List.append_assoc, List.cons_append, List.nil_append, List.append_nil] at hx hy hset hrow ⊢
        have h6 : (P.length : Int) < (T : Int) := by omega
        simp [h4, h5, h6, h7, w0, w1, w2, w3, hx, hy, hxy, hset, hrow]
      | cons z J =>
        obtain ⟨v', Q, ih, hq⟩ := comp_loop k T hT rest (P ++ [y]) (J ++ [x]) y (j + 1) (v + 1) (by simp at hk ⊢; omega) (by simp at hl ⊢; omega) (by simp)
        rw [show dd x (y :: rest) = y :: dd y rest by simp [dd, hxy]]
        refine ⟨v', Q, ?_, by simpa using hq.1, by omega⟩
        rw [show P ++ y :: dd y rest = (P ++ [y]) ++ dd y rest by simp, ← ih]
        have hset := set0 P z y (J ++ x :: y :: rest)
        have hrow := at0' P z (J ++ x :: y :: rest)
        simp only [List.append_assoc, List.cons_append, List.nil_append, List.append_nil] at hx hy hset hrow ⊢
        have h6 : (P.length : Int) < (T : Int) := by omega
        simp [h4, h5, h6, h7, w0, w1, w2, w3, hx, hy, hxy, hset, hrow]

abbrev bk (T v : Nat) (l : List Int) : Option Blk := some { box := false, esz := 1, rows := rowsOf l, gen := T, fz := false, ver := v }
set_option maxHeartbeats 1000000 in
/-- Compact's search for two neighbours that are equal, and what follows. -/
theorem find_loop (l : List Int) (T v : Nat) (hT : T ≤ 100000) (hlT : l.length = T) : ∀ (rest A : List Int) (x : Int), l = A ++ x :: rest → compF l = A ++ x :: dd x rest →
    (Y L Cs c_slices_Compact_int_l2 (some [3, 0]) 2 [(3, .w (W ((A.length : Int) + 1))), (0, .w (.c (.slice 0 T 1 0 T none)))] [bk T v l, gb 1] = some (.exit 0, [(13, .w (Bo false)), (3, .w (W T)), (0, .w (.c (.slice 0 T 1 0 T none)))], [bk T v l, gb 1]) ∧ compF l = l) ∨
    ∃ v' Q, Y L Cs c_slices_Compact_int_l2 (some [3, 0]) 2 [(3, .w (W ((A.length : Int) + 1))), (0, .w (.c (.slice 0 T 1 0 T none)))] [bk T v l, gb 1] = some (.ret, [(2, .w (.c (.slice 0 T 1 0 (compF l).length none)))], [bk T v' (compF l ++ Q), gb 1]) ∧ ((compF l ++ Q).length = T ∧ v < v')
  | [], A, x, hl, hc => by
    refine .inl ⟨?_, by rw [hc, hl]; rfl⟩
    have e1 : T = A.length + 1 := by rw [← hlT, hl]; simp
    rw [Y_step c_slices_Compact_int_l2.eq_1]
    simp [e1]
  | y :: rest, A, x, hl, hc => by
    have e1 : T = A.length + 1 + rest.length + 1 := by rw [← hlT, hl]; simp; omega
    have h4 : (A.length : Int) + 1 < (T : Int) := by omega
    have h5 : (A.length : Int) < (T : Int) := by omega
    have h7 : (0 : Int) ≤ (A.length : Int) + 1 := by omega
    have h8 : (A.length : Int) + 1 ≤ (T : Int) := by omega
    have w0 : IntKind.i64.wrap (A.length : Int) = (A.length : Int) := i64_id _ (by omega) (by omega)
    have w1 : IntKind.i64.wrap ((A.length : Int) + 1 - 1) = (A.length : Int) := by rw [i64_id _ (by omega) (by omega)]; omega
    have w2 : IntKind.i64.wrap ((A.length : Int) + 1 + 1) = ((A ++ [x]).length : Int) + 1 := by rw [i64_id _ (by omega) (by omega)]; simp
    have hx := at0 A x (y :: rest)
    have hy := at1 A x y rest
    rw [← hl] at hx hy
    by_cases hxy : y = x
    · subst hxy
      obtain ⟨v1, Q, hY, hq, hv1⟩ := comp_loop (A.length + 1) T hT rest (A ++ [y]) [] y 0 v (by simp) (by rw [← hlT, hl]; simp) (by simp)
      have hcc : compF l = A ++ [y] ++ dd y rest := by rw [hc]; simp [dd]
      have hlen : (A ++ [y] ++ dd y rest).length ≤ T := by simp at hq ⊢; omega
      rw [hcc]
      generalize hc2 : A ++ [y] ++ dd y rest = cc at hY hq hlen ⊢
      have hccp : cc.length < T := by
        have := dd_len y rest
        rw [← hc2, e1]; simp; omega
      have q1 : (cc.length : Int) ≤ (T : Int) := by omega
      have q2 : ¬ T - cc.length = 0 := by omega
      have q3 : cc.length + (T - cc.length) ≤ (rowsOf (cc ++ Q)).length := by rw [rowsOf_len, hq]; omega
      have q4 : (rowsOf (cc ++ Q)).take cc.length = rowsOf cc := by rw [rowsOf_append]; simp
      have q5 : (rowsOf (cc ++ Q)).drop (cc.length + (T - cc.length)) = [] := List.drop_of_length_le (by rw [rowsOf_len, hq]; omega)
      have q6 : rowsOf (cc ++ List.replicate (T - cc.length) 0) = rowsOf cc ++ List.replicate (T - cc.length) [I 0] := by rw [rowsOf_append]; simp [rowsOf]
      have q7 : (0 : Int) ≤ (cc.length : Int) := by omega
      refine .inr ⟨v1 + 1, List.replicate (T - cc.length) 0, ?_, by simp; omega, by omega⟩
      rw [Y_step c_slices_Compact_int_l2.eq_1]
      simp only [bk, q6]
      simp only [List.append_nil, ← hl, List.append_assoc, List.cons_append, List.nil_append] at hY
      simp at hY
      rw [rowsOf_len, hq] at q3
      simp [h4, h5, h7, h8, w0, w1, w2, hx, hy, hY, q1, q2, q3, q4, q5, q7, clearOp, noIds, hq]
    · rcases find_loop l T v hT hlT rest (A ++ [x]) y (by rw [hl]; simp) (by rw [hc]; simp [dd, hxy]) with ⟨ih, hq⟩ | ⟨v', Q, ih, hq⟩
      · refine .inl ⟨?_, hq⟩
        rw [← ih, Y_step c_slices_Compact_int_l2.eq_1]
        simp [h4, h5, h7, h8, w0, w1, w2, hx, hy, hxy]
      · refine .inr ⟨v', Q, ?_, hq⟩
        rw [← ih, Y_step c_slices_Compact_int_l2.eq_1]
        simp [h4, h5, h7, h8, w0, w1, w2, hx, hy, hxy]

theorem compF_len (l : List Int) : (compF l).length ≤ l.length := by
  cases l with
  | nil => exact Nat.le_refl _
  | cons x l => have := dd_len x l; simp [compF]; exact this
set_option maxHeartbeats 1000000 in
theorem R_Compact (l : List Int) (T v : Nat) (hT : T ≤ 100000) (hlT : l.length = T) : (R L Cs f_slices_Compact_int [.c (.slice 0 T 1 0 T none)] [bk T v l] = some (.w (.c (.slice 0 T 1 0 T none)), [bk T v l]) ∧ compF l = l) ∨
    ∃ v' Q, R L Cs f_slices_Compact_int [.c (.slice 0 T 1 0 T none)] [bk T v l] = some (.w (.c (.slice 0 T 1 0 (compF l).length none)), [bk T v' (compF l ++ Q)]) ∧ (compF l ++ Q).length = T ∧ v < v' := by
  rw [R_fn F_slices_Compact_int rfl]
  cases l with
  | nil =>
    simp at hlT; subst hlT
    exact .inl ⟨by simp [c_slices_Compact_int], rfl⟩
  | cons x l =>
    cases l with
    | nil =>
      simp at hlT; subst hlT
      exact .inl ⟨by simp [c_slices_Compact_int], rfl⟩
    | cons y l =>
      have h1 : ¬ (T : Int) < 2 := by simp at hlT; omega
      rcases find_loop (x :: y :: l) T v hT hlT (y :: l) [] x rfl rfl with ⟨hY, hq⟩ | ⟨v', Q, hY, hq, hv⟩
      · refine .inl ⟨?_, hq⟩
        simp at hY
        simp [c_slices_Compact_int, h1, hY]
      · refine .inr ⟨v', Q, ?_, hq, hv⟩
        simp only [List.length_nil] at hY
        simp at hY
        simp [c_slices_Compact_int, h1, hY]

@[reducible] def rp : RecP := { toGlobP := inferInstance, base := 0, okc := fun _ _ _ _ _ => False, le := fun _ _ _ _ _ h => h.elim }
theorem sortL_len (l : List Int) : (sortI l).length = l.length := @sortI_len rp l
theorem R_Compact0 : R L Cs f_slices_Compact_int [.c (.slice 0 0 1 0 0 none)] [some { box := false, esz := 1, rows := [], gen := 0, fz := false, ver := 0 }] = some (.w (.c (.slice 0 0 1 0 0 none)), [some { box := false, esz := 1, rows := [], gen := 0, fz := false, ver := 0 }]) := R_run (k := 100) (by kernel_rfl)
/-- What the situations of frames are: each once, ascending. -/
def sitL (l : List Fr) : List Int := compF (sortI (sitsF l))
set_option maxHeartbeats 2000000 in
theorem R_Situations (l : List Fr) (hl : l.length ≤ 1000) (cr : List (List Cl)) (w n : ByteArray) : R L Cs f_lab_Situations [.a (tripC l cr w n)] [] = some (.w (.c (.rslice (rowsOf (sitL l)))), []) := by
  have hY := sits_loop l hl cr w n l 0 [] rfl (Nat.zero_le _) (Nat.zero_le _)
  have hsl := sitsF_len l
  have hS := R_Sort (sitsF l) (by omega)
  have hlen : (sortI (sitsF l)).length = (sitsF l).length := sortL_len _
  rw [R_fn F_lab_Situations rfl]
  unfold sitL
  generalize sitsF l = z at *
  simp only [List.nil_append] at hY
  by_cases h0 : z.length = 0
  · have hz : z = [] := List.eq_nil_of_length_eq_zero h0
    subst hz
    have hC := R_Compact0
    simp only [tripC] at hY
    simp [sl, own] at hY hS hC
    simp [sortI] at hS
    simp [c_lab_Situations, tripC, hY, hS, hC, sortI, compF]
  · have hC := R_Compact (sortI z) z.length (z.length + 1) (by omega) hlen
    have hS' := hS
    rw [if_neg h0] at hS'
    rcases hC with ⟨hC, hcc⟩ | ⟨v', Q, hC, hq, hv⟩
    · have hne : ¬ z.length + 1 = z.length := by omega
      have htk : (rowsOf (sortI z)).take z.length = rowsOf (sortI z) := List.take_of_length_le (by rw [rowsOf_len, hlen]; exact Nat.le_refl _)
      simp only [tripC] at hY
      simp only [bk] at hC
      simp [sl, own] at hY hS' hC
      simp [c_lab_Situations, tripC, hY, hS', hC, hne, htk, hcc, hlen]
    · have hne : ¬ z.length + 1 = z.length := by omega
      have hnv : ¬ v' = z.length + 1 := by omega
      have htk : (rowsOf (compF (sortI z) ++ Q)).take (compF (sortI z)).length = rowsOf (compF (sortI z)) := by rw [rowsOf_append]; simp
      have hle := compF_len (sortI z)
      rw [hlen] at hle
      simp only [tripC] at hY
      simp only [bk] at hC
      simp [sl, own] at hY hS' hC hq
      simp [c_lab_Situations, tripC, hY, hS', hC, hne, hnv, htk, hlen, hle, hq]
end Go.LbRun
