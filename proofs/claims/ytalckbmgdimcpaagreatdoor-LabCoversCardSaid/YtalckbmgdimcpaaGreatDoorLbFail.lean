/- Where a trip fails an aim: both sides. -/
import Derived.Test.YtalckbmgdimcpaaGreatDoorLbBase
set_option linter.unusedVariables false
set_option linter.unusedSimpArgs false
set_option maxRecDepth 10000
namespace Go.LbRun
open Go Go.Eng

theorem F_lab_Fails : L.lookup f_lab_Fails = some c_lab_Fails := by kernel_rfl
theorem F_kerbstoneref10_Fails : L.lookup f_kerbstoneref10_Fails = some c_kerbstoneref10_Fails := by kernel_rfl

/-- A frame fails an aim; whether it is the last one. -/
def badF (k n : Int) (f : Fr) (last : Bool) : Bool :=
  if k = 1 then decide (0 < f.guilt) else if k = 2 then decide (0 < f.hits) else if k = 3 then f.mode == 2 else if k = 4 then f.why != 0 else if k = 5 then last && decide (f.s < n) else false
def aimC (k n : Int) : List Cl := [I k, I n]
def rowsF (l : List Fr) : List (List Cl) := l.map Fr.C
@[simp] theorem rowsF_len (l : List Fr) : (rowsF l).length = l.length := by simp [rowsF]

theorem R_fail1 (f : Fr) (b : Bool) : R L Cs f_lab_fails_1 [.a f.C, Bo b] [] = some (.w (Bo (decide (0 < f.guilt))), []) := by
  rw [R_fn F_lab_fails_1 rfl]; simp [c_lab_fails_1, Fr.C]
theorem R_fail2 (f : Fr) (b : Bool) : R L Cs f_lab_fails_2 [.a f.C, Bo b] [] = some (.w (Bo (decide (0 < f.hits))), []) := by
  rw [R_fn F_lab_fails_2 rfl]; simp [c_lab_fails_2, Fr.C]
theorem R_fail3 (f : Fr) (b : Bool) : R L Cs f_lab_fails_3 [.a f.C, Bo b] [] = some (.w (Bo (f.mode == 2)), []) := by
  rw [R_fn F_lab_fails_3 rfl]; simp [c_lab_fails_3, Fr.C]
theorem R_fail4 (f : Fr) (b : Bool) : R L Cs f_lab_fails_4 [.a f.C, Bo b] [] = some (.w (Bo (f.why != 0)), []) := by
  rw [R_fn F_lab_fails_4 rfl]; simp [c_lab_fails_4, Fr.C]
theorem R_fail5 (f : Fr) (b : Bool) (k n : Int) : R L Cs f_lab_fails_5 [.a f.C, Bo b, Pt 0] [bx 2 (aimC k n)] = some (.w (Bo (b && decide (f.s < n))), [bx 2 (aimC k n)]) := by
  rw [R_fn F_lab_fails_5 rfl]
  cases b <;> simp [c_lab_fails_5, Fr.C, aimC]

def failFn (k : Int) : Cl := if k = 1 then .fn f_lab_fails_1 [] [] else if k = 2 then .fn f_lab_fails_2 [] [] else if k = 3 then .fn f_lab_fails_3 [] [] else if k = 4 then .fn f_lab_fails_4 [] [] else .nilfn
theorem R_run {k : Nat} {f : FuncId} {a : List WV} {M : Mem} {r : AV × Mem} (h : runE L Cs k f a M = some r) : R L Cs f a M = some r := R_iff.2 ⟨k, h⟩
theorem R_fails5 (n : Int) : R L Cs f_lab_fails [.a (aimC 5 n)] [] = some (.t [.c (.fn f_lab_fails_5 [] [.ptr 0 0 0 0]), Bo true], [bx 2 (aimC 5 n)]) := R_run (k := 100) (by kernel_rfl)
theorem R_fails (k n : Int) (h5 : k ≠ 5) : R L Cs f_lab_fails [.a (aimC k n)] [] = some (.t [.c (failFn k), Bo (decide (1 ≤ k) && decide (k ≤ 4))], []) := by
  by_cases h1 : k = 1
  · subst h1; exact R_run (k := 100) (by kernel_rfl)
  · by_cases h2 : k = 2
    · subst h2; exact R_run (k := 100) (by kernel_rfl)
    · by_cases h3 : k = 3
      · subst h3; exact R_run (k := 100) (by kernel_rfl)
      · by_cases h4 : k = 4
        · subst h4; exact R_run (k := 100) (by kernel_rfl)
        · have hd : (decide (1 ≤ k) && decide (k ≤ 4)) = false := by
            by_cases q : 1 ≤ k <;> simp [q] <;> omega
          rw [R_fn F_lab_fails rfl]
          simp [c_lab_fails, aimC, failFn, h1, h2, h3, h4, h5, hd, mlayF, mopF, mapPut, mapGet, mapAt, findM, mapSet, okW]

/-- Where a list fails, and the frame. -/
def failAt (bad : Fr → Bool → Bool) (len : Nat) : Nat → List Fr → Option (Nat × Fr)
  | _, [] => none
  | i, f :: r => if bad f ((i : Int) == (len : Int) - 1) then some (i, f) else failAt bad len (i + 1) r
def tripC (l : List Fr) (cr : List (List Cl)) (w n : ByteArray) : List Cl := [.rslice (rowsF l), .rslice cr, .str w, .str n]
theorem rowsF_get {l : List Fr} {i : Nat} {f : Fr} {r : List Fr} (h : l.drop i = f :: r) : i < l.length ∧ (∀ h : i < (rowsF l).length, (rowsF l)[i] = f.C) ∧ l.drop (i + 1) = r := by
  have h1 : l[i]? = some f := by
    have := congrArg (·[0]?) h
    simpa [List.getElem?_drop] using this
  refine ⟨(List.getElem?_eq_some_iff.1 h1).1, fun hh => ?_, ?_⟩
  · have := (List.getElem?_eq_some_iff.1 h1).2
    simp [rowsF, this]
  · have := congrArg (List.drop 1) h
    simpa [List.drop_drop, Nat.add_comm] using this

set_option maxHeartbeats 1000000 in
theorem fails_loop (l : List Fr) (hl : l.length ≤ 1000) (cr : List (List Cl)) (w n : ByteArray) (k m : Int) (fid : FuncId) (bad : Fr → Bool → Bool)
    (hR : ∀ f b, R L Cs fid [.a f.C, Bo b] [] = some (.w (Bo (bad f b)), [])) : ∀ (r : List Fr) (i : Nat), l.drop i = r → i ≤ l.length →
    Y L Cs c_lab_Fails_l1 (some [19, 18, 6, 2, 20]) 2 [(19, .w (W l.length)), (18, .w (.c (.rslice (rowsF l)))), (6, .w (.c (.fn fid [] []))), (2, .w (Pt 0)), (20, .w (W i))] [bx 4 (tripC l cr w n), bx 2 (aimC k m)] =
      some (match failAt bad l.length i r with
        | none => (.exit 0, [(21, .w (Bo false)), (2, .w (Pt 0)), (6, .w (.c (.fn fid [] []))), (18, .w (.c (.rslice (rowsF l)))), (19, .w (W l.length)), (20, .w (W l.length))], [bx 4 (tripC l cr w n), bx 2 (aimC k m)])
        | some (j, f) => (.ret, [(4, .w (W j)), (5, .w (Bo true))], [bx 4 (tripC l cr w n), bx 2 (aimC k m), bxv 1 11 f.C]))
  | [], i, hd, hi => by
    have hi' : i = l.length := by
      have := congrArg List.length hd
      simp at this; omega
    subst hi'
    rw [Y_step c_lab_Fails_l1.eq_1]
    simp [failAt, tripC]
  | f :: r, i, hd, hi => by
    obtain ⟨h1, h2, h3⟩ := rowsF_get hd
    have ih := fails_loop l hl cr w n k m fid bad hR r (i + 1) h3 (by omega)
    have w1 : IntKind.i64.wrap ((l.length : Int) - 1) = (l.length : Int) - 1 := i64_id _ (by omega) (by omega)
    have w2 : IntKind.i64.wrap ((i : Int) + 1) = ((i + 1 : Nat) : Int) := by rw [i64_id _ (by omega) (by omega)]; omega
    have h4 : (i : Int) < (l.length : Int) := by omega
    have hf := hR f ((i : Int) == (l.length : Int) - 1)
    rw [Y_step c_lab_Fails_l1.eq_1]
    cases hb : bad f ((i : Int) == (l.length : Int) - 1)
    · rw [hb] at hf
      rw [failAt, hb]
      rw [if_neg (by simp), ← ih]
      simp only [Fr.C] at hf h2
      simp [tripC, aimC, fnFlat1, h1, h2, h4, hf, w1, w2]
    · rw [hb] at hf
      rw [failAt, hb, if_pos rfl]
      simp only [Fr.C] at hf h2
      simp [tripC, aimC, Fr.C, h1, h2, h4, hf, w1, w2]
set_option maxHeartbeats 1000000 in
theorem fails_loop5 (l : List Fr) (hl : l.length ≤ 1000) (cr : List (List Cl)) (w n : ByteArray) (m : Int) : ∀ (r : List Fr) (i : Nat), l.drop i = r → i ≤ l.length →
    Y L Cs c_lab_Fails_l1 (some [19, 18, 6, 2, 20]) 3 [(19, .w (W l.length)), (18, .w (.c (.rslice (rowsF l)))), (6, .w (.c (.fn f_lab_fails_5 [] [.ptr 2 0 0 0]))), (2, .w (Pt 0)), (20, .w (W i))] [bx 4 (tripC l cr w n), bx 2 (aimC 5 m), bx 2 (aimC 5 m)] =
      some (match failAt (badF 5 m) l.length i r with
        | none => (.exit 0, [(21, .w (Bo false)), (2, .w (Pt 0)), (6, .w (.c (.fn f_lab_fails_5 [] [.ptr 2 0 0 0]))), (18, .w (.c (.rslice (rowsF l)))), (19, .w (W l.length)), (20, .w (W l.length))], [bx 4 (tripC l cr w n), bx 2 (aimC 5 m), bx 2 (aimC 5 m)])
        | some (j, f) => (.ret, [(4, .w (W j)), (5, .w (Bo true))], [bx 4 (tripC l cr w n), bx 2 (aimC 5 m), bx 2 (aimC 5 m), bxv 1 11 f.C]))
  | [], i, hd, hi => by
    have hi' : i = l.length := by
      have := congrArg List.length hd
      simp at this; omega
    subst hi'
    rw [Y_step c_lab_Fails_l1.eq_1]
    simp [failAt, tripC]
  | f :: r, i, hd, hi => by
    obtain ⟨h1, h2, h3⟩ := rowsF_get hd
    have ih := fails_loop5 l hl cr w n m r (i + 1) h3 (by omega)
    have w1 : IntKind.i64.wrap ((l.length : Int) - 1) = (l.length : Int) - 1 := i64_id _ (by omega) (by omega)
    have w2 : IntKind.i64.wrap ((i : Int) + 1) = ((i + 1 : Nat) : Int) := by rw [i64_id _ (by omega) (by omega)]; omega
    have h4 : (i : Int) < (l.length : Int) := by omega
    have hf := R_fail5 f ((i : Int) == (l.length : Int) - 1) 5 m
    have hbd : badF 5 m f ((i : Int) == (l.length : Int) - 1) = (((i : Int) == (l.length : Int) - 1) && decide (f.s < m)) := by simp [badF]
    rw [Y_step c_lab_Fails_l1.eq_1]
    rw [← hbd] at hf
    cases hb : badF 5 m f ((i : Int) == (l.length : Int) - 1)
    · rw [hb] at hf
      rw [failAt, hb]
      rw [if_neg (by simp), ← ih]
      simp only [Fr.C, aimC] at hf h2
      simp [tripC, aimC, fnFlat1, h1, h2, h4, hf, w1, w2]
    · rw [hb] at hf
      rw [failAt, hb, if_pos rfl]
      simp only [Fr.C, aimC] at hf h2
      simp [tripC, aimC, Fr.C, h1, h2, h4, hf, w1, w2]

theorem badF_eq (k m : Int) (f : Fr) (b : Bool) : (k = 1 → badF k m f b = decide (0 < f.guilt)) ∧ (k = 2 → badF k m f b = decide (0 < f.hits)) ∧ (k = 3 → badF k m f b = (f.mode == 2)) ∧ (k = 4 → badF k m f b = (f.why != 0)) ∧ (k = 5 → badF k m f b = (b && decide (f.s < m))) := by
  refine ⟨fun h => ?_, fun h => ?_, fun h => ?_, fun h => ?_, fun h => ?_⟩ <;> subst h <;> simp [badF]
theorem failAt_congr {b1 b2 : Fr → Bool → Bool} (h : ∀ f b, b1 f b = b2 f b) (n : Nat) : ∀ (r : List Fr) (i : Nat), failAt b1 n i r = failAt b2 n i r
  | [], _ => rfl
  | f :: r, i => by simp only [failAt, h]; rw [failAt_congr h n r (i + 1)]
theorem failAt_none {n : Nat} : ∀ (r : List Fr) (i : Nat), failAt (fun _ _ => false) n i r = none
  | [], _ => rfl
  | f :: r, i => by simp [failAt, failAt_none r (i + 1)]
def failN (k m : Int) (l : List Fr) : Int := match failAt (badF k m) l.length 0 l with | none => 0 | some (j, _) => j
def failB (k m : Int) (l : List Fr) : Bool := (failAt (badF k m) l.length 0 l).isSome

set_option maxHeartbeats 1000000 in
theorem R_Fails (l : List Fr) (hl : l.length ≤ 1000) (cr : List (List Cl)) (w n : ByteArray) (k m : Int) : R L Cs f_lab_Fails [.a (tripC l cr w n), .a (aimC k m)] [] = some (.t [W (failN k m l), Bo (failB k m l)], []) := by
  have hcall : ∀ (fid : FuncId) (kk : Int) (hk : kk ≠ 5) (hkk : 1 ≤ kk ∧ kk ≤ 4) (hfn : failFn kk = .fn fid [] []) (bad : Fr → Bool → Bool) (hR : ∀ f b, R L Cs fid [.a f.C, Bo b] [] = some (.w (Bo (bad f b)), [])) (hb : ∀ f b, badF kk m f b = bad f b),
      R L Cs f_lab_Fails [.a (tripC l cr w n), .a (aimC kk m)] [] = some (.t [W (failN kk m l), Bo (failB kk m l)], []) := by
    intro fid kk hk hkk hfn bad hR hb
    have hY := fails_loop l hl cr w n kk m fid bad hR l 0 rfl (Nat.zero_le _)
    have h0 := R_fails kk m hk
    have hd : (decide (1 ≤ kk) && decide (kk ≤ 4)) = true := by simp [hkk.1, hkk.2]
    rw [hfn, hd] at h0
    unfold failN failB
    rw [failAt_congr hb]
    rw [R_fn F_lab_Fails rfl]
    cases hf : failAt bad l.length 0 l with
    | none =>
      rw [hf] at hY
      simp only [tripC, aimC] at hY h0
      simp at hY
      simp [c_lab_Fails, tripC, aimC, h0, hY]
    | some p =>
      obtain ⟨j, f⟩ := p
      rw [hf] at hY
      simp only [tripC, aimC, Fr.C] at hY h0
      simp at hY
      simp [c_lab_Fails, tripC, aimC, h0, hY]
  by_cases h1 : k = 1
  · subst h1; exact hcall f_lab_fails_1 1 (by decide) (by decide) rfl _ R_fail1 (fun f b => (badF_eq 1 m f b).1 rfl)
  · by_cases h2 : k = 2
    · subst h2; exact hcall f_lab_fails_2 2 (by decide) (by decide) rfl _ R_fail2 (fun f b => (badF_eq 2 m f b).2.1 rfl)
    · by_cases h3 : k = 3
      · subst h3; exact hcall f_lab_fails_3 3 (by decide) (by decide) rfl _ R_fail3 (fun f b => (badF_eq 3 m f b).2.2.1 rfl)
      · by_cases h4 : k = 4
        · subst h4; exact hcall f_lab_fails_4 4 (by decide) (by decide) rfl _ R_fail4 (fun f b => (badF_eq 4 m f b).2.2.2.1 rfl)
        · by_cases h5 : k = 5
          · subst h5
            have hY := fails_loop5 l hl cr w n m l 0 rfl (Nat.zero_le _)
            have h0 := R_fails5 m
            unfold failN failB
            rw [R_fn F_lab_Fails rfl]
            cases hf : failAt (badF 5 m) l.length 0 l with
            | none =>
              rw [hf] at hY
              simp only [tripC, aimC] at hY h0
              simp at hY
              simp [c_lab_Fails, tripC, aimC, h0, hY]
            | some p =>
              obtain ⟨j, f⟩ := p
              rw [hf] at hY
              simp only [tripC, aimC, Fr.C] at hY h0
              simp at hY
              simp [c_lab_Fails, tripC, aimC, h0, hY]
          · have hb : ∀ f b, badF k m f b = false := fun f b => by simp [badF, h1, h2, h3, h4, h5]
            have hd : (decide (1 ≤ k) && decide (k ≤ 4)) = false := by
              by_cases q : 1 ≤ k <;> simp [q] <;> omega
            have h0 := R_fails k m h5
            have hfn : failFn k = .nilfn := by simp [failFn, h1, h2, h3, h4]
            rw [hd, hfn] at h0
            unfold failN failB
            rw [failAt_congr hb, failAt_none]
            rw [R_fn F_lab_Fails rfl]
            simp only [aimC] at h0
            simp [c_lab_Fails, tripC, aimC, h0]

set_option maxHeartbeats 1000000 in
theorem R_bad (l : List Fr) (hl : l.length ≤ 1000) (cr : List (List Cl)) (w n : ByteArray) (k m : Int) {i : Nat} {f : Fr} {r : List Fr} (hd : l.drop i = f :: r) :
    R L Cs f_kerbstoneref10_bad [.a (tripC l cr w n), W i, .a (aimC k m)] [] = some (.w (Bo (badF k m f ((i : Int) == (l.length : Int) - 1))), []) := by
  obtain ⟨h1, h2, h3⟩ := rowsF_get hd
  have w1 : IntKind.i64.wrap ((l.length : Int) - 1) = (l.length : Int) - 1 := i64_id _ (by omega) (by omega)
  have h4 : (i : Int) < (l.length : Int) := by omega
  simp only [Fr.C] at h2
  rw [R_fn F_kerbstoneref10_bad rfl]
  by_cases k1 : k = 1
  · subst k1; simp [c_kerbstoneref10_bad, tripC, aimC, badF, h1, h2, h4]
  · by_cases k2 : k = 2
    · subst k2; simp [c_kerbstoneref10_bad, tripC, aimC, badF, h1, h2, h4]
    · by_cases k3 : k = 3
      · subst k3; simp [c_kerbstoneref10_bad, tripC, aimC, badF, h1, h2, h4]
      · by_cases k4 : k = 4
        · subst k4; simp [c_kerbstoneref10_bad, tripC, aimC, badF, h1, h2, h4]
        · by_cases k5 : k = 5
          · subst k5
            cases hq : ((i : Int) == (l.length : Int) - 1) <;> simp [c_kerbstoneref10_bad, tripC, aimC, badF, h1, h2, h4, w1, hq]
          · simp [c_kerbstoneref10_bad, tripC, aimC, badF, h1, h2, h4, k1, k2, k3, k4, k5]

set_option maxHeartbeats 1000000 in
theorem fails_loop0 (l : List Fr) (hl : l.length ≤ 1000) (cr : List (List Cl)) (w n : ByteArray) (k m : Int) : ∀ (r : List Fr) (i : Nat), l.drop i = r → i ≤ l.length →
    ∃ E', Y L Cs c_kerbstoneref10_Fails_l1 (some [2, 3, 6]) 2 [(2, .w (Pt 0)), (3, .w (Pt 1)), (6, .w (W i))] [bx 4 (tripC l cr w n), bx 2 (aimC k m)] =
      some (match failAt (badF k m) l.length i r with
        | none => (.exit 0, E', [bx 4 (tripC l cr w n), bx 2 (aimC k m)])
        | some (j, f) => (.ret, [(4, .w (W j)), (5, .w (Bo true))], [bx 4 (tripC l cr w n), bx 2 (aimC k m)]))
  | [], i, hd, hi => by
    have hi' : i = l.length := by
      have := congrArg List.length hd
      simp at this; omega
    subst hi'
    rw [Y_step c_kerbstoneref10_Fails_l1.eq_1]
    simp [failAt, tripC]
  | f :: r, i, hd, hi => by
    obtain ⟨h1, h2, h3⟩ := rowsF_get hd
    obtain ⟨E', ih⟩ := fails_loop0 l hl cr w n k m r (i + 1) h3 (by omega)
    have w2 : IntKind.i64.wrap ((i : Int) + 1) = ((i + 1 : Nat) : Int) := by rw [i64_id _ (by omega) (by omega)]; omega
    have h4 : (i : Int) < (l.length : Int) := by omega
    have hf := R_bad l hl cr w n k m hd
    refine ⟨E', ?_⟩
    rw [Y_step c_kerbstoneref10_Fails_l1.eq_1]
    cases hb : badF k m f ((i : Int) == (l.length : Int) - 1)
    · rw [hb] at hf
      rw [failAt, hb]
      rw [if_neg (by simp), ← ih]
      simp only [tripC, aimC] at hf
      simp [tripC, aimC, h1, h4, hf, w2]
    · rw [hb] at hf
      rw [failAt, hb, if_pos rfl]
      simp only [tripC, aimC] at hf
      simp [tripC, aimC, h1, h4, hf, w2]
set_option maxHeartbeats 1000000 in
theorem R_Fails0 (l : List Fr) (hl : l.length ≤ 1000) (cr : List (List Cl)) (w n : ByteArray) (k m : Int) : R L Cs f_kerbstoneref10_Fails [.a (tripC l cr w n), .a (aimC k m)] [] = some (.t [W (failN k m l), Bo (failB k m l)], []) := by
  obtain ⟨E', hY⟩ := fails_loop0 l hl cr w n k m l 0 rfl (Nat.zero_le _)
  unfold failN failB
  rw [R_fn F_kerbstoneref10_Fails rfl]
  cases hf : failAt (badF k m) l.length 0 l with
  | none =>
    rw [hf] at hY
    simp only [tripC, aimC] at hY
    simp at hY
    simp [c_kerbstoneref10_Fails, tripC, aimC, hY]
  | some p =>
    obtain ⟨j, f⟩ := p
    rw [hf] at hY
    simp only [tripC, aimC] at hY
    simp at hY
    simp [c_kerbstoneref10_Fails, tripC, aimC, hY]
end Go.LbRun
