/- What trips cover: the reference's side. -/
import Derived.Test.YtalckbmgdimcpaaGreatDoorLbCov
set_option linter.unusedVariables false
set_option linter.unusedSimpArgs false
set_option maxRecDepth 10000
namespace Go.LbRun
open Go Go.Eng
theorem F_kerbstoneref10_Cover : L.lookup f_kerbstoneref10_Cover = some c_kerbstoneref10_Cover := by kernel_rfl
theorem F_kerbstoneref10_Situations : L.lookup f_kerbstoneref10_Situations = some c_kerbstoneref10_Situations := by kernel_rfl
abbrev bC (s : List Bool) : List Cl := s.map .bool
def markF : List Bool → List Fr → List Bool
  | s, [] => s
  | s, f :: l => markF (if f.sits then s.set f.sit.toNat true else s) l
theorem markF_len : ∀ (l : List Fr) (s : List Bool), (markF s l).length = s.length
  | [], s => rfl
  | f :: l, s => by
    rw [markF, markF_len l]
    split <;> simp
theorem sit_in {f : Fr} (h : f.sits = true) : 0 ≤ f.sit ∧ f.sit < 72 := by
  simp only [Fr.sits, Bool.and_eq_true, decide_eq_true_eq] at h
  have h1 := speed_in f.v
  have h2 : 0 ≤ pushF f.act ∧ pushF f.act ≤ 2 := by unfold pushF; split <;> (try split) <;> omega
  unfold Fr.sit
  omega
theorem take_set {α : Type} (l : List α) (k : Nat) (x : α) (h : k < l.length) : l.take k ++ x :: l.drop (k + 1) = l.set k x := by
  rw [List.set_eq_take_append_cons_drop, if_pos h]

set_option maxHeartbeats 2000000 in
/-- The inner loop: a trip's frames are marked. -/
theorem mark_loop (T : List (List Cl)) (i : Nat) (hi : i < T.length) (l : List Fr) (hl : l.length ≤ 1000) (cr : List (List Cl)) (w n : ByteArray) (hT : T[i]? = some (tripC l cr w n)) (hTi : i ≤ 1000) : ∀ (r : List Fr) (j : Nat) (s : List Bool) (v : Nat), l.drop j = r → j ≤ l.length → s.length = 72 →
    ∃ v', Y L Cs c_kerbstoneref10_Cover_l1 (some [5, 0, 4, 3]) 2 [(5, .w (W j)), (0, .w (.c (.rslice T))), (4, .w (W i)), (3, .w (Pt 1))] [gb 1, bxv v 72 (bC s)] =
      some (.exit 2, [(22, .w (Bo false)), (5, .w (W l.length)), (0, .w (.c (.rslice T))), (4, .w (W i)), (3, .w (Pt 1))], [gb 1, bxv v' 72 (bC (markF s r))])
  | [], j, s, v, hd, hj, hs => by
    have hj' : j = l.length := by
      have := congrArg List.length hd
      simp at this; omega
    subst hj'
    refine ⟨v, ?_⟩
    have hT' : ∀ h : i < T.length, T[i] = tripC l cr w n := fun h => by
      rw [List.getElem?_eq_getElem h] at hT; exact Option.some.inj hT
    have h5 : (i : Int) < (T.length : Int) := by omega
    rw [Y_step c_kerbstoneref10_Cover_l1.eq_1]
    simp [hi, hT', tripC, markF]
  | f :: r, j, s, v, hd, hj, hs => by
    obtain ⟨h1, h2, h3⟩ := rowsF_get hd
    have hT' : ∀ h : i < T.length, T[i] = tripC l cr w n := fun h => by
      rw [List.getElem?_eq_getElem h] at hT; exact Option.some.inj hT
    have w2 : IntKind.i64.wrap ((j : Int) + 1) = ((j + 1 : Nat) : Int) := by rw [i64_id _ (by omega) (by omega)]; omega
    have h4 : (j : Int) < (l.length : Int) := by omega
    have hf := R_situation0 f
    rw [Y_step c_kerbstoneref10_Cover_l1.eq_1]
    cases hb : f.sits
    · obtain ⟨v', ih⟩ := mark_loop T i hi l hl cr w n hT hTi r (j + 1) s v h3 (by omega) hs
      refine ⟨v', ?_⟩
      rw [markF, hb, if_neg (by simp), ← ih]
      rw [hb] at hf
      simp only [Fr.C] at hf h2
      simp at hf
      simp [hi, hT', tripC, h1, h2, h4, hf, w2]
    · obtain ⟨q1, q2⟩ := sit_in hb
      obtain ⟨v', ih⟩ := mark_loop T i hi l hl cr w n hT hTi r (j + 1) (s.set f.sit.toNat true) (v + 1) h3 (by omega) (by simpa using hs)
      refine ⟨v', ?_⟩
      rw [markF, hb, if_pos rfl, ← ih]
      rw [hb] at hf
      simp only [Fr.C] at hf h2
      simp at hf
      have q3 : f.sit.toNat < 72 := by omega
      have q4 : f.sit.toNat + 1 ≤ 72 := by omega
      have q5 := take_set (bC s) f.sit.toNat (.bool true) (by simp [hs]; omega)
      simp [hi, hT', tripC, h1, h2, h4, hf, w2, q1, q2, q3, q4, hs]
      rw [q5]

/-- Which of 72 are marked, from n on. -/
def outF (s : List Bool) : Nat → Nat → List Int
  | _, 0 => []
  | n, k + 1 => if s.getD n false then (n : Int) :: outF s (n + 1) k else outF s (n + 1) k
theorem outF_len (s : List Bool) : ∀ (k n : Nat), (outF s n k).length ≤ k
  | 0, n => Nat.le_refl _
  | k + 1, n => by
    have := outF_len s k (n + 1)
    unfold outF; split <;> simp <;> omega
theorem cell1 (s : List Bool) {n : Nat} (h : n < s.length) : List.take 1 (List.drop n (bC s)) = [.bool (s.getD n false)] := by
  have h' : n < (bC s).length := by simpa using h
  rw [List.drop_eq_getElem_cons h']
  simp [List.getD, List.getElem?_eq_getElem h]
set_option maxHeartbeats 2000000 in
theorem out_loop (s : List Bool) (hs : s.length = 72) (v : Nat) : ∀ (k n : Nat) (acc : List Int), n + k = 72 → acc.length ≤ n →
    Y L Cs c_kerbstoneref10_Cover_l3 (some [7, 8, 3]) 3 [(7, .w (.c (sl 2 1 (rowsOf acc)))), (8, .w (W n)), (3, .w (Pt 1))] [gb 1, bxv v 72 (bC s), some (own 1 (rowsOf acc))] =
      some (.exit 4, [(39, .w (Bo false)), (7, .w (.c (sl 2 1 (rowsOf (acc ++ outF s n k))))), (8, .w (W 72)), (3, .w (Pt 1))], [gb 1, bxv v 72 (bC s), some (own 1 (rowsOf (acc ++ outF s n k)))])
  | 0, n, acc, hk, ha => by
    obtain rfl : n = 72 := by omega
    rw [Y_step c_kerbstoneref10_Cover_l3.eq_1]
    simp [outF]
  | k + 1, n, acc, hk, ha => by
    have h1 : (n : Int) < 72 := by omega
    have h2 : n < s.length := by omega
    have h3 : n < 72 := by omega
    have w2 : IntKind.i64.wrap ((n : Int) + 1) = ((n + 1 : Nat) : Int) := by rw [i64_id _ (by omega) (by omega)]; omega
    have hroom : (acc.length + 1) * 8 ≤ 140737488355328 := by omega
    have htk : (rowsOf acc).take acc.length = rowsOf acc := List.take_of_length_le (by simp)
    have hq : n + 1 ≤ 72 := by omega
    rw [Y_step c_kerbstoneref10_Cover_l3.eq_1]
    cases hb : s.getD n false
    · have ih := out_loop s hs v k (n + 1) acc (by omega) (by omega)
      rw [outF, hb, if_neg (by simp), ← ih]
      have hc := cell1 s h2
      rw [hb] at hc
      simp [h1, h2, h3, hs, w2, hc, hq]
    · have ih := out_loop s hs v k (n + 1) (acc ++ [(n : Int)]) (by omega) (by simp; omega)
      rw [outF, hb, if_pos rfl, show acc ++ (n : Int) :: outF s (n + 1) k = (acc ++ [(n : Int)]) ++ outF s (n + 1) k by simp, ← ih]
      have hc := cell1 s h2
      rw [hb] at hc
      simp [h1, h2, h3, hs, w2, hc, hq, hroom, htk, rowsOf_append, rowsOf_cons]

def no72 : List Bool := List.replicate 72 false
/-- What the marks of frames give. -/
def covF (l : List Fr) : List Int := outF (markF no72 l) 0 72
theorem markF_append : ∀ (l m : List Fr) (s : List Bool), markF s (l ++ m) = markF (markF s l) m
  | [], m, s => rfl
  | f :: l, m, s => by simp only [List.cons_append, markF]; exact markF_append l m _
set_option maxHeartbeats 4000000 in
theorem R_Cover0 (l1 l2 : List Fr) (h1 : l1.length ≤ 400) (h2 : l2.length ≤ 400) (cr1 cr2 : List (List Cl)) (w1 n1 w2 n2 : ByteArray) :
    R L Cs f_kerbstoneref10_Cover [.c (.rslice [tripC l1 cr1 w1 n1, tripC l2 cr2 w2 n2])] [] = some (.w (.c (.rslice (rowsOf (covF (l1 ++ l2))))), []) := by
  have hn : no72.length = 72 := by simp [no72]
  obtain ⟨v1, hA⟩ := mark_loop [tripC l1 cr1 w1 n1, tripC l2 cr2 w2 n2] 0 (by simp) l1 (by omega) cr1 w1 n1 rfl (by omega) l1 0 no72 0 rfl (Nat.zero_le _) hn
  obtain ⟨v2, hB⟩ := mark_loop [tripC l1 cr1 w1 n1, tripC l2 cr2 w2 n2] 1 (by simp) l2 (by omega) cr2 w2 n2 rfl (by omega) l2 0 (markF no72 l1) v1 rfl (Nat.zero_le _) (by rw [markF_len, hn])
  have hO := out_loop (markF (markF no72 l1) l2) (by rw [markF_len, markF_len, hn]) v2 72 0 [] rfl (Nat.zero_le _)
  rw [← markF_append] at hB hO
  have hlen := outF_len (markF no72 (l1 ++ l2)) 72 0
  unfold covF
  simp only [List.nil_append] at hO
  generalize outF (markF no72 (l1 ++ l2)) 0 72 = out at hO hlen ⊢
  generalize hm2 : markF no72 (l1 ++ l2) = m2 at hB hO
  have htk : (rowsOf out).take out.length = rowsOf out := List.take_of_length_le (by simp)
  have hno : bC no72 = List.replicate 72 (.bool false) := by simp [no72]
  rw [hno] at hA
  generalize hm1 : bC (markF no72 l1) = m1 at hA hB
  generalize hm3 : bC m2 = m3 at hB hO
  simp only [tripC] at hA hB ⊢
  rw [R_fn F_kerbstoneref10_Cover rfl]
  simp at hA hB hO
  simp [c_kerbstoneref10_Cover]
  rw [Y_step c_kerbstoneref10_Cover_l2.eq_1]
  simp [wr1, wr2, hA]
  rw [Y_step c_kerbstoneref10_Cover_l2.eq_1]
  simp [wr1, wr2, hB]
  rw [Y_step c_kerbstoneref10_Cover_l2.eq_1]
  simp [hO, htk]
end Go.LbRun
