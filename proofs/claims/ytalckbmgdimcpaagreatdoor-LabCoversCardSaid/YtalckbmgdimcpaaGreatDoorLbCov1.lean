/- What trips cover: a trip alone; the two sides agree. -/
import Derived.Test.YtalckbmgdimcpaaGreatDoorLbCov0
set_option linter.unusedVariables false
set_option linter.unusedSimpArgs false
set_option maxRecDepth 10000
namespace Go.LbRun
open Go Go.Eng
set_option maxHeartbeats 4000000 in
theorem R_Cover01 (l1 : List Fr) (h1 : l1.length ≤ 400) (cr1 : List (List Cl)) (w1 n1 : ByteArray) :
    R L Cs f_kerbstoneref10_Cover [.c (.rslice [tripC l1 cr1 w1 n1])] [] = some (.w (.c (.rslice (rowsOf (covF l1)))), []) := by
  have hn : no72.length = 72 := by simp [no72]
  obtain ⟨v1, hA⟩ := mark_loop [tripC l1 cr1 w1 n1] 0 (by simp) l1 (by omega) cr1 w1 n1 rfl (by omega) l1 0 no72 0 rfl (Nat.zero_le _) hn
  have hO := out_loop (markF no72 l1) (by rw [markF_len, hn]) v1 72 0 [] rfl (Nat.zero_le _)
  have hlen := outF_len (markF no72 l1) 72 0
  unfold covF
  simp only [List.nil_append] at hO
  generalize outF (markF no72 l1) 0 72 = out at hO hlen ⊢
  have htk : (rowsOf out).take out.length = rowsOf out := List.take_of_length_le (by simp)
  have hno : bC no72 = List.replicate 72 (.bool false) := by simp [no72]
  rw [hno] at hA
  generalize hm1 : bC (markF no72 l1) = m1 at hA hO
  simp only [tripC] at hA ⊢
  rw [R_fn F_kerbstoneref10_Cover rfl]
  simp at hA hO
  simp [c_kerbstoneref10_Cover]
  rw [Y_step c_kerbstoneref10_Cover_l2.eq_1]
  simp [wr1, wr2, hA]
  rw [Y_step c_kerbstoneref10_Cover_l2.eq_1]
  simp [hO, htk]
theorem R_Situations0 (l1 : List Fr) (h1 : l1.length ≤ 400) (cr1 : List (List Cl)) (w1 n1 : ByteArray) : R L Cs f_kerbstoneref10_Situations [.a (tripC l1 cr1 w1 n1)] [] = some (.w (.c (.rslice (rowsOf (covF l1)))), []) := by
  have hC := R_Cover01 l1 h1 cr1 w1 n1
  simp only [tripC] at hC
  rw [R_fn F_kerbstoneref10_Situations rfl]
  simp [c_kerbstoneref10_Situations, tripC, hC]

/-! ### The plain law -/
theorem markF_get : ∀ (l : List Fr) (s : List Bool) (n : Nat), s.length = 72 → n < 72 → ((markF s l).getD n false = true ↔ s.getD n false = true ∨ ((n : Int) ∈ sitsF l))
  | [], s, n, hs, hn => by simp [markF, sitsF]
  | f :: l, s, n, hs, hn => by
    rw [markF, sitsF]
    cases hb : f.sits
    · rw [if_neg (by simp), if_neg (by simp)]
      exact markF_get l s n hs hn
    · rw [if_pos rfl, if_pos rfl, markF_get l (s.set f.sit.toNat true) n (by simpa using hs) hn]
      obtain ⟨q1, q2⟩ := sit_in hb
      by_cases hq : f.sit.toNat = n
      · have e : f.sit = (n : Int) := by omega
        have h1 : (s.set f.sit.toNat true).getD n false = true := by
          rw [hq]; simp [List.getD, List.getElem?_set, hs, hn]
        exact ⟨fun _ => .inr (by rw [e]; exact List.mem_cons_self ..), fun _ => .inl h1⟩
      · have e : ¬ f.sit = (n : Int) := by omega
        have h1 : (s.set f.sit.toNat true).getD n false = s.getD n false := by
          simp [List.getD, List.getElem?_set, hq]
        rw [h1, List.mem_cons]
        constructor
        · rintro (h | h)
          · exact .inl h
          · exact .inr (.inr h)
        · rintro (h | h | h)
          · exact .inl h
          · exact absurd h.symm e
          · exact .inr h
theorem outF_mem (s : List Bool) : ∀ (k n : Nat) (x : Int), x ∈ outF s n k ↔ ∃ m : Nat, x = (m : Int) ∧ n ≤ m ∧ m < n + k ∧ s.getD m false = true
  | 0, n, x => by simp [outF]; omega
  | k + 1, n, x => by
    have ih := outF_mem s k (n + 1) x
    unfold outF
    constructor
    · intro h
      split at h
      · rename_i hb
        rcases List.mem_cons.1 h with rfl | h
        · exact ⟨n, rfl, by omega, by omega, hb⟩
        · obtain ⟨m, h1, h2, h3, h4⟩ := ih.1 h
          exact ⟨m, h1, by omega, by omega, h4⟩
      · obtain ⟨m, h1, h2, h3, h4⟩ := ih.1 h
        exact ⟨m, h1, by omega, by omega, h4⟩
    · rintro ⟨m, h1, h2, h3, h4⟩
      by_cases hm : m = n
      · subst hm
        rw [if_pos h4]; subst h1; exact List.mem_cons_self ..
      · have := ih.2 ⟨m, h1, by omega, by omega, h4⟩
        split
        · exact List.mem_cons_of_mem _ this
        · exact this
theorem outF_sorted (s : List Bool) : ∀ (k n : Nat), (outF s n k).Pairwise (· < ·)
  | 0, n => List.Pairwise.nil
  | k + 1, n => by
    have ih := outF_sorted s k (n + 1)
    unfold outF
    split
    · refine List.pairwise_cons.2 ⟨fun x hx => ?_, ih⟩
      obtain ⟨m, rfl, h2, _, _⟩ := (outF_mem s k (n + 1) x).1 hx
      omega
    · exact ih
theorem dd_mem : ∀ (x : Int) (l : List Int) (z : Int), z ∈ x :: dd x l ↔ z ∈ x :: l
  | x, [], z => by simp [dd]
  | x, y :: l, z => by
    unfold dd
    split
    · rename_i h
      subst h
      rw [dd_mem y l z]; simp
    · have := dd_mem y l z
      simp only [List.mem_cons] at this ⊢
      constructor
      · rintro (h | h | h)
        · exact .inl h
        · exact .inr (.inl h)
        · exact .inr (this.1 (.inr h))
      · rintro (h | h)
        · exact .inl h
        · exact .inr (this.2 h)
theorem dd_sorted : ∀ (x : Int) (l : List Int), (x :: l).Pairwise (· ≤ ·) → (x :: dd x l).Pairwise (· < ·)
  | x, [], _ => by simp [dd]
  | x, y :: l, h => by
    obtain ⟨h1, h2⟩ := List.pairwise_cons.1 h
    have hxy := h1 y (List.mem_cons_self ..)
    unfold dd
    split
    · rename_i e
      subst e
      exact dd_sorted y l h2
    · rename_i e
      have ih := dd_sorted y l h2
      refine List.pairwise_cons.2 ⟨fun z hz => ?_, ih⟩
      have hz' := (dd_mem y l z).1 hz
      rcases List.mem_cons.1 hz' with rfl | hz'
      · omega
      · have := (List.pairwise_cons.1 h2).1 z hz'
        omega
theorem compF_mem (l : List Int) (z : Int) : z ∈ compF l ↔ z ∈ l := by
  cases l with
  | nil => rfl
  | cons x l => exact dd_mem x l z
theorem compF_sorted (l : List Int) (h : l.Pairwise (· ≤ ·)) : (compF l).Pairwise (· < ·) := by
  cases l with
  | nil => exact List.Pairwise.nil
  | cons x l => exact dd_sorted x l h
theorem sorted_ext {l m : List Int} (hl : l.Pairwise (· < ·)) (hm : m.Pairwise (· < ·)) (h : ∀ z, z ∈ l ↔ z ∈ m) : l = m := by
  have nl : l.Nodup := hl.imp fun h => Int.ne_of_lt h
  have nm : m.Nodup := hm.imp fun h => Int.ne_of_lt h
  exact List.Perm.eq_of_pairwise (le := fun a b => a < b) (fun a b _ _ h1 h2 => by omega) hl hm ((List.perm_ext_iff_of_nodup nl nm).2 h)
theorem sortL_mem (l : List Int) (z : Int) : z ∈ sortI l ↔ z ∈ l := (@sortI_perm rp l).mem_iff
theorem sits_bound : ∀ (l : List Fr) (z : Int), z ∈ sitsF l → 0 ≤ z ∧ z < 72
  | [], z, h => by cases h
  | f :: l, z, h => by
    rw [sitsF] at h
    split at h
    · rename_i hb
      rcases List.mem_cons.1 h with rfl | h
      · exact sit_in hb
      · exact sits_bound l z h
    · exact sits_bound l z h
theorem rep_getD (k m : Nat) : (List.replicate k false).getD m false = false := by
  rw [List.getD_eq_getElem?_getD, List.getElem?_replicate]; split <;> rfl
theorem covF_eq (l : List Fr) : covF l = sitL l := by
  refine sorted_ext (outF_sorted _ _ _) (compF_sorted _ (@sortI_sorted rp _)) fun z => ?_
  unfold sitL covF
  rw [compF_mem, sortL_mem, outF_mem]
  constructor
  · rintro ⟨m, rfl, _, h2, h3⟩
    rcases (markF_get l no72 m (by simp [no72]) (by omega)).1 h3 with h | h
    · exfalso
      unfold no72 at h
      rw [rep_getD] at h
      cases h
    · exact h
  · intro hz
    obtain ⟨h1, h2⟩ := sits_bound l z hz
    refine ⟨z.toNat, by omega, by omega, by omega, (markF_get l no72 z.toNat (by simp [no72]) (by omega)).2 (.inr ?_)⟩
    rw [Int.toNat_of_nonneg h1]; exact hz
end Go.LbRun
