/- Plain data of the statements about tracks: lists, blobs, what is known. -/
import Derived.Test.YtfedgghdmiomkaaGreatTrTab
import Derived.Test.YtfedgghdmiomkaaGreatEvl3
set_option linter.unusedVariables false
set_option linter.unusedSimpArgs false
set_option linter.unusedSectionVars false
/- Plain data of the statements about tracks: lists, blobs, what is known. -/
set_option linter.unusedVariables false
set_option linter.unusedSimpArgs false
set_option maxRecDepth 10000
namespace Go.TrRun
open Go Go.Eng

/-! ### Lists -/
theorem drop_cons {α : Type} {l r : List α} {i : Nat} {x : α} (h : l.drop i = x :: r) : ∃ hi : i < l.length, l[i] = x ∧ l.drop (i + 1) = r := by
  have hi : i < l.length := by
    have := congrArg List.length h
    simp at this
    omega
  rw [List.drop_eq_getElem_cons hi] at h
  exact ⟨hi, (List.cons.inj h).1, (List.cons.inj h).2⟩
theorem drop_nil {α : Type} {l : List α} {i : Nat} (h : l.drop i = []) (hi : i ≤ l.length) : i = l.length := by
  have := congrArg List.length h
  simp at this
  omega
theorem wrap_succ {i : Nat} (h : i < 1000000) : IntKind.i64.wrap ((i : Int) + 1) = ((i + 1 : Nat) : Int) := by
  rw [i64_id _ (by omega) (by omega)]; simp

/-! ### Rows -/
def rowsI (l : List Int) : List (List Cl) := l.map fun x => [I x]
@[simp] theorem rowsI_len (l : List Int) : (rowsI l).length = l.length := by simp [rowsI]
@[simp] theorem rowsI_append (l m : List Int) : rowsI (l ++ m) = rowsI l ++ rowsI m := by simp [rowsI]
@[simp] theorem rowsI_nil : rowsI [] = [] := rfl
@[simp] theorem rowsI_cons (x : Int) (l : List Int) : rowsI (x :: l) = [I x] :: rowsI l := rfl
@[simp] theorem rowsI_take (l : List Int) : (rowsI l).take l.length = rowsI l := List.take_of_length_le (by simp)
@[simp] theorem rowsI_getElem {l : List Int} {i : Nat} (h : i < (rowsI l).length) : (rowsI l)[i] = [I (l[i]'(by simpa using h))] := by simp [rowsI]
@[simp] theorem rowsI_ones (t : List Int) : (∀ x, x ∈ rowsI t → x.length = 1) ↔ True := by simp [rowsI]

structure Blob where
  lane : Int
  lo : Int
  hi : Int
  vlo : Int
  vhi : Int
  hold : Int
  deriving DecidableEq
structure Ego where
  slo : Int
  shi : Int
  vlo : Int
  vhi : Int
  deriving DecidableEq
structure Know where
  tick : Int
  blobs : List Blob
  ego : Ego
def blobC (b : Blob) : List Cl := [I b.lane, I b.lo, I b.hi, I b.vlo, I b.vhi, I b.hold]
def rowsB (l : List Blob) : List (List Cl) := l.map blobC
def knowC (k : Know) : List Cl := [I k.tick, .rslice (rowsB k.blobs), I k.ego.slo, I k.ego.shi, I k.ego.vlo, I k.ego.vhi]
@[simp] theorem rowsB_len (l : List Blob) : (rowsB l).length = l.length := by simp [rowsB]
@[simp] theorem rowsB_append (l m : List Blob) : rowsB (l ++ m) = rowsB l ++ rowsB m := by simp [rowsB]
@[simp] theorem rowsB_nil : rowsB [] = [] := rfl
@[simp] theorem rowsB_cons (x : Blob) (l : List Blob) : rowsB (x :: l) = blobC x :: rowsB l := rfl
@[simp] theorem rowsB_take (l : List Blob) : (rowsB l).take l.length = rowsB l := List.take_of_length_le (by simp)
@[simp] theorem rowsB_getElem {l : List Blob} {i : Nat} (h : i < (rowsB l).length) : (rowsB l)[i] = blobC (l[i]'(by simpa using h)) := by simp [rowsB]
@[simp] theorem blobC_len (b : Blob) : (blobC b).length = 6 := rfl
@[simp] theorem blobC_take (b : Blob) : (blobC b).take 6 = blobC b := rfl
@[simp] theorem rowsB_six (t : List Blob) : (∀ x, x ∈ rowsB t → x.length = 6) ↔ True := by simp [rowsB]

theorem clone_blobs (l : List Blob) (hl : l.length ≤ 100000) : R L Cs f_slices_Clone_Blob [.c (.rslice (rowsB l))] [] = some (.w (.c (sl 0 6 (rowsB l))), [some (own 6 (rowsB l))]) := by
  have hr : l.length * 48 ≤ 140737488355328 := by omega
  rw [R_oracle rfl]
  simp [clones, Cs, cloneX, hr]

theorem R_Copy (k : Know) (hl : k.blobs.length ≤ 100000) : R L Cs f_track_Copy [.a (knowC k)] [] = some (.w (.a (knowC k)), []) := by
  have hc := clone_blobs k.blobs hl
  rw [R_fn F_track_Copy rfl]
  simp [c_track_Copy, knowC, hc]
end Go.TrRun

/- Marks: what Same, Speed and Fix answer. -/
set_option linter.unusedVariables false
set_option linter.unusedSimpArgs false
set_option maxRecDepth 10000
namespace Go.TrRun
open Go Go.Eng

theorem eqCells_blob (a b : Blob) : eqCells [false, false, false, false, false, false] (blobC a) (blobC b) = some (decide (a = b)) := by
  obtain ⟨a1, a2, a3, a4, a5, a6⟩ := a
  obtain ⟨b1, b2, b3, b4, b5, b6⟩ := b
  simp only [blobC, eqCells, eqC1, if_true]
  by_cases h1 : a1 = b1 <;> by_cases h2 : a2 = b2 <;> by_cases h3 : a3 = b3 <;> by_cases h4 : a4 = b4 <;> by_cases h5 : a5 = b5 <;> by_cases h6 : a6 = b6 <;> simp [h1, h2, h3, h4, h5, h6]
theorem zip_any_ne {α : Type} [DecidableEq α] : ∀ {a b : List α}, a.length = b.length → ((a.zip b).any fun x => decide (x.1 ≠ x.2)) = !decide (a = b)
  | [], [], _ => rfl
  | x :: a, y :: b, h => by
    have := zip_any_ne (a := a) (b := b) (by simpa using h)
    simp only [List.zip_cons_cons, List.any_cons, this]
    by_cases h1 : x = y <;> by_cases h2 : a = b <;> simp [h1, h2]
  | [], _ :: _, h => by simp at h
  | _ :: _, [], h => by simp at h

def sameK (a b : Know) : Bool := decide (a.tick = b.tick) && decide (a.ego = b.ego) && decide (a.blobs = b.blobs)
def narrowK (k : Know) (st lo hi : Int) : Know × Bool :=
  if st ≠ k.tick then (k, true) else
  if max k.ego.vlo lo > min k.ego.vhi hi then (k, false) else ({ k with ego := { k.ego with vlo := max k.ego.vlo lo, vhi := min k.ego.vhi hi } }, true)
def fixK (k : Know) (st lo hi : Int) : Know × Bool :=
  if st ≠ k.tick then (k, true) else
  if max k.ego.slo lo > min k.ego.shi hi then (k, false) else ({ k with ego := { k.ego with slo := max k.ego.slo lo, shi := min k.ego.shi hi } }, true)
def pairC (r : Know × Bool) : AV := .t [.a (knowC r.1), Bo r.2]
end Go.TrRun

/- The examples that each statement about tracks asks. -/
namespace Go.TrRun
open Go Go.Eng
theorem awake_run : runE L Cs 400 f_kerbstonelaw05_awake [] [] = some (.w (.c (.bool true)), []) := by kernel_rfl
theorem R_awake : R L Cs f_kerbstonelaw05_awake [] [] = some (.w (Bo true), []) := R_iff.2 ⟨400, awake_run⟩
end Go.TrRun

/- TrackMarks answers true. -/
set_option linter.unusedVariables false
set_option linter.unusedSimpArgs false
set_option maxRecDepth 10000
namespace Go.TrRun
open Go Go.Eng
@[simp] theorem sameK_self (a : Know) : sameK a a = true := by simp [sameK]
theorem narrowK_len (k : Know) (a b c : Int) : (narrowK k a b c).1.blobs = k.blobs := by unfold narrowK; split; rfl; split <;> rfl
theorem fixK_len (k : Know) (a b c : Int) : (fixK k a b c).1.blobs = k.blobs := by unfold fixK; split; rfl; split <;> rfl
end Go.TrRun

/- Sorting blobs: comparisons, and what is deleted. -/
set_option linter.unusedVariables false
set_option linter.unusedSimpArgs false
set_option maxRecDepth 10000
namespace Go.TrRun
open Go Go.Eng

def cmpI (a b : Int) : Int := if a < b then -1 else if b < a then 1 else 0
theorem R_isNaN_int (a : Int) : R L Cs f_cmp_isNaN_int [W a] [] = some (.w (Bo false), []) := by
  rw [R_fn F_cmp_isNaN_int rfl]
  simp [c_cmp_isNaN_int]
theorem R_isNaN_int64 (a : Int) : R L Cs f_cmp_isNaN_int64 [W a] [] = some (.w (Bo false), []) := by
  rw [R_fn F_cmp_isNaN_int64 rfl]
  simp [c_cmp_isNaN_int64]
theorem R_Compare_int (a b : Int) : R L Cs f_cmp_Compare_int [W a, W b] [] = some (.w (W (cmpI a b)), []) := by
  rw [R_fn F_cmp_Compare_int rfl]
  have h1 := R_isNaN_int a
  have h2 := R_isNaN_int b
  by_cases h : a < b
  · simp [c_cmp_Compare_int, h1, h2, h, cmpI]
  · by_cases h' : b < a
    · simp [c_cmp_Compare_int, h1, h2, h, h', cmpI]
    · simp [c_cmp_Compare_int, h1, h2, h, h', cmpI]
theorem R_Compare_int64 (a b : Int) : R L Cs f_cmp_Compare_int64 [W a, W b] [] = some (.w (W (cmpI a b)), []) := by
  rw [R_fn F_cmp_Compare_int64 rfl]
  have h1 := R_isNaN_int64 a
  have h2 := R_isNaN_int64 b
  by_cases h : a < b
  · simp [c_cmp_Compare_int64, h1, h2, h, cmpI]
  · by_cases h' : b < a
    · simp [c_cmp_Compare_int64, h1, h2, h, h', cmpI]
    · simp [c_cmp_Compare_int64, h1, h2, h, h', cmpI]
theorem or_loop (l : List Int) (hl : l.length ≤ 1000) : Y L Cs c_cmp_Or_int_l1 (some [7, 6, 3, 8]) 0 [(7, .w (W l.length)), (6, .w (.c (.rslice (rowsI l)))), (3, .w (W 0)), (8, .w (W (0 : Nat)))] [] =
    some (match l.findIdx? (fun x => x != 0) with | some i => (.ret, [(2, .w (W ((l[i]?).getD 0)))], []) | none => (.exit 0, [(9, .w (Bo false)), (3, .w (W 0)), (6, .w (.c (.rslice (rowsI l)))), (7, .w (W l.length)), (8, .w (W l.length))], [])) := by
  refine Y_find l (fun i => [(7, .w (W l.length)), (6, .w (.c (.rslice (rowsI l)))), (3, .w (W 0)), (8, .w (W i))]) _ _ _ _ ?_ ?_ ?_
  · intro i h hp
    have hw := wrap_succ (i := i) (by omega)
    simp at hp
    rw [Y_step c_cmp_Or_int_l1.eq_1]
    simp [h, hw, hp]
  · intro i h hp
    rw [Y_step c_cmp_Or_int_l1.eq_1]
    simp [h, hp]
  · rw [Y_step c_cmp_Or_int_l1.eq_1]
    simp
theorem R_Or_int (x y : Int) : R L Cs f_cmp_Or_int [.c (.rslice (rowsI [x, y]))] [] = some (.w (W (if x ≠ 0 then x else y)), []) := by
  have h := or_loop [x, y] (by simp)
  simp only [Int.natCast_zero, rowsI_cons, rowsI_nil, List.length_cons, List.length_nil] at h
  rw [R_fn F_cmp_Or_int rfl]
  by_cases hx : x = 0
  · by_cases hy : y = 0
    · simp [hx, hy, List.findIdx?_cons] at h
      simp [c_cmp_Or_int, h, hx, hy]
    · have hb : (y != 0) = true := by simp [hy]
      simp [hx, hy, hb, List.findIdx?_cons] at h
      simp [c_cmp_Or_int, h, hx, hy]
  · have hb : (x != 0) = true := by simp [hx]
    simp [hx, hb, List.findIdx?_cons] at h
    simp [c_cmp_Or_int, h, hx]
def cmpB (a b : Blob) : Int := if cmpI a.lane b.lane ≠ 0 then cmpI a.lane b.lane else cmpI a.lo b.lo
theorem R_Join_1 (b : Blob) : R L Cs f_motion_Join_1 [.a (blobC b)] [] = some (.w (Bo (decide (b.hi < b.lo))), []) := by
  rw [R_fn F_motion_Join_1 rfl]
  simp [c_motion_Join_1, blobC]
theorem R_Join_2 (a b : Blob) : R L Cs f_motion_Join_2 [.a (blobC a), .a (blobC b)] [] = some (.w (W (cmpB a b)), []) := by
  have h := R_Or_int (cmpI a.lane b.lane) (cmpI a.lo b.lo)
  have h1 := R_Compare_int a.lane b.lane
  have h2 := R_Compare_int64 a.lo b.lo
  simp only [rowsI_cons, rowsI_nil] at h
  rw [R_fn F_motion_Join_2 rfl]
  simp [c_motion_Join_2, blobC, h1, h2, h, cmpB, markOne]
end Go.TrRun

/- Sorting blobs: what is deleted. -/
set_option linter.unusedVariables false
set_option linter.unusedSimpArgs false
set_option maxRecDepth 10000
namespace Go.TrRun
open Go Go.Eng

abbrev fn1 (f : Nat) : WV := .c (.fn f [] [])
abbrev bad (b : Blob) : Bool := decide (b.hi < b.lo)
/-- A block of rows that were written v times. -/
abbrev blk (v : Nat) (l : List Blob) : Option Blk := some { box := false, esz := 6, rows := rowsB l, gen := l.length, fz := false, ver := v }
theorem rowsB_set (l : List Blob) (i : Nat) (b : Blob) : (rowsB l).set i (blobC b) = rowsB (l.set i b) := by simp [rowsB, List.map_set]
theorem index_loop (l : List Blob) (hl : l.length ≤ 1000) : Y L Cs c_slices_IndexFunc_Blob_l1 (some [7, 1, 0, 8]) 0 [(7, .w (W l.length)), (1, .w (fn1 f_motion_Join_1)), (0, .w (.c (.rslice (rowsB l)))), (8, .w (W (0 : Nat)))] [] =
    some (match l.findIdx? bad with | some i => (.ret, [(4, .w (W i))], []) | none => (.exit 0, [(9, .w (Bo false)), (0, .w (.c (.rslice (rowsB l)))), (1, .w (fn1 f_motion_Join_1)), (7, .w (W l.length)), (8, .w (W l.length))], [])) := by
  refine Y_find l (fun i => [(7, .w (W l.length)), (1, .w (fn1 f_motion_Join_1)), (0, .w (.c (.rslice (rowsB l)))), (8, .w (W i))]) _ _ _ _ ?_ ?_ ?_
  · intro i h hp
    have hw := wrap_succ (i := i) (by omega)
    have hc := R_Join_1 l[i]
    simp only [bad] at hp
    rw [hp] at hc
    simp only [blobC] at hc
    rw [Y_step c_slices_IndexFunc_Blob_l1.eq_1]
    simp [h, hw, hc, blobC]
  · intro i h hp
    have hc := R_Join_1 l[i]
    simp only [bad] at hp
    rw [hp] at hc
    simp only [blobC] at hc
    rw [Y_step c_slices_IndexFunc_Blob_l1.eq_1]
    simp [h, hc, blobC]
  · rw [Y_step c_slices_IndexFunc_Blob_l1.eq_1]
    simp
def idxI : Option Nat → Int
  | some i => i
  | none => -1
theorem R_IndexFunc (l : List Blob) (hl : l.length ≤ 1000) : R L Cs f_slices_IndexFunc_Blob [.c (.rslice (rowsB l)), fn1 f_motion_Join_1] [] = some (.w (W (idxI (l.findIdx? bad))), []) := by
  have h := index_loop l hl
  simp only [Int.natCast_zero] at h
  rw [R_fn F_slices_IndexFunc_Blob rfl]
  cases hf : l.findIdx? bad with
  | none =>
    simp only [hf] at h
    simp [c_slices_IndexFunc_Blob, h, idxI]
  | some i =>
    simp only [hf] at h
    simp [c_slices_IndexFunc_Blob, h, idxI]
theorem delete_loop (n : Nat) (hn : n ≤ 1000) : ∀ (r : List Blob) (l : List Blob) (i j v : Nat), l.length = n → l.drop j = r → i < j → j ≤ n → ∃ l' i' v', v ≤ v' ∧ (v' = v → l' = l) ∧ l'.length = n ∧ i' ≤ n ∧ l'.take i' = l.take i ++ r.filter (fun b => !bad b) ∧
    Y L Cs c_slices_DeleteFunc_Blob_l1 (some [5, 6, 1, 0]) 2 [(5, .w (W i)), (6, .w (W j)), (1, .w (fn1 f_motion_Join_1)), (0, .w (.c (.slice 0 n 6 0 n none)))] [blk v l, gb 6] =
      some (.exit 0, [(19, .w (Bo false)), (5, .w (W i')), (6, .w (W n)), (1, .w (fn1 f_motion_Join_1)), (0, .w (.c (.slice 0 n 6 0 n none)))], [blk v' l', gb 6]) := by
  intro r
  induction r with
  | nil =>
    intro l i j v hl hd hij hj
    obtain rfl := drop_nil hd (by omega)
    refine ⟨l, i, v, Nat.le_refl _, fun _ => rfl, hl, by omega, by simp, ?_⟩
    rw [Y_step c_slices_DeleteFunc_Blob_l1.eq_1]
    simp [hl]
  | cons x r ih =>
    intro l i j v hl hd hij hj
    obtain ⟨hjl, hx, hd'⟩ := drop_cons hd
    have hw := wrap_succ (i := j) (by omega)
    have hw2 := wrap_succ (i := i) (by omega)
    have hc := R_Join_1 x
    have hjn : j < n := by omega
    have hin : i < n := by omega
    by_cases hb : x.hi < x.lo
    · obtain ⟨l', i', v', g1, g2, h1, h2, h3, h4⟩ := ih l i (j + 1) v hl hd' (by omega) (by omega)
      refine ⟨l', i', v', g1, g2, h1, h2, by simp [h3, hb], ?_⟩
      rw [← h4, Y_step c_slices_DeleteFunc_Blob_l1.eq_1]
      simp [hb, blobC] at hc
      simp [hl, hjl, hjn, hx, hc, hw, blobC]
    · obtain ⟨l', i', v', g1, g2, h1, h2, h3, h4⟩ := ih (l.set i x) (i + 1) (j + 1) (v + 1) (by simp [hl]) (by rw [List.drop_set_of_lt (by omega)]; exact hd') (by omega) (by omega)
      have ht : (l.set i x).take (i + 1) = l.take i ++ [x] := by
        rw [List.take_succ_eq_append_getElem (by simp; omega), List.take_set_of_le (Nat.le_refl _)]
        simp
      refine ⟨l', i', v', by omega, fun hv => by omega, h1, h2, by rw [h3, ht]; simp [hb], ?_⟩
      rw [← h4, Y_step c_slices_DeleteFunc_Blob_l1.eq_1]
      simp [hb, blobC] at hc
      have hs := rowsB_set l i x
      simp only [blobC] at hs
      simp [hl, hjl, hjn, hin, hx, hc, hw, hw2, hs, blobC, blk]
abbrev zeroB : Blob := ⟨0, 0, 0, 0, 0, 0⟩
@[simp] theorem rowsB_take' (l : List Blob) (k : Nat) : (rowsB l).take k = rowsB (l.take k) := by simp [rowsB, List.map_take]
@[simp] theorem rowsB_drop (l : List Blob) (k : Nat) : (rowsB l).drop k = rowsB (l.drop k) := by simp [rowsB, List.map_drop]
@[simp] theorem rowsB_zero (k : Nat) : List.replicate k [I 0, I 0, I 0, I 0, I 0, I 0] = rowsB (List.replicate k zeroB) := by simp [rowsB, blobC]
theorem rowsB_flat (l : List Blob) : (rowsB l).all (fun r => r.length == 6) = true := by simp [rowsB]

theorem R_DeleteFunc (l : List Blob) (v : Nat) (hn : l.length ≤ 1000) : ∃ l' v', v ≤ v' ∧ (v' = v → l' = l) ∧ l'.length = l.length ∧ (l.filter (fun b => !bad b)).length ≤ l.length ∧ l'.take (l.filter (fun b => !bad b)).length = l.filter (fun b => !bad b) ∧
    R L Cs f_slices_DeleteFunc_Blob [.c (.slice 0 l.length 6 0 l.length none), fn1 f_motion_Join_1] [blk v l] = some (.w (.c (.slice 0 l.length 6 0 (l.filter (fun b => !bad b)).length none)), [blk v' l']) := by
  have hi := R_IndexFunc l hn
  rw [R_fn F_slices_DeleteFunc_Blob rfl]
  cases hf : l.findIdx? bad with
  | none =>
    have hall : ∀ b ∈ l, bad b = false := fun b hb => List.findIdx?_eq_none_iff.1 hf b hb
    have hfil : l.filter (fun b => !bad b) = l := List.filter_eq_self.2 fun b hb => by rw [hall b hb]; rfl
    refine ⟨l, v, Nat.le_refl _, fun _ => rfl, rfl, by rw [hfil]; exact Nat.le_refl _, by rw [hfil]; simp, ?_⟩
    rw [hfil]
    simp only [hf, idxI] at hi
    simp [c_slices_DeleteFunc_Blob, hi, markOne]
  | some k =>
    obtain ⟨hk, hbk, hbef⟩ := List.findIdx?_eq_some_iff_getElem.1 hf
    obtain ⟨l', i', v', g1, g2, h1, h2, h3, h4⟩ := delete_loop l.length hn (l.drop (k + 1)) l k (k + 1) v rfl rfl (by omega) hk
    have hpre : l.filter (fun b => !bad b) = l.take k ++ (l.drop (k + 1)).filter (fun b => !bad b) := by
      conv => lhs; rw [← List.take_append_drop k l, List.filter_append, List.drop_eq_getElem_cons hk, List.filter_cons]
      rw [if_neg (by simp [hbk])]
      congr 1
      refine List.filter_eq_self.2 fun b hb => ?_
      obtain ⟨j, hj, rfl⟩ := List.getElem_of_mem hb
      simp at hj
      have := hbef j (by omega)
      simpa using this
    rw [← hpre] at h3
    have hlen : (l.filter (fun b => !bad b)).length = i' := by rw [← h3]; simp; omega
    have hw := wrap_succ (i := k) (by omega)
    simp only [hf, idxI] at hi
    refine ⟨if l.length - i' = 0 then l' else l'.take i' ++ List.replicate (l.length - i') zeroB ++ l'.drop (i' + (l.length - i')), if l.length - i' = 0 then v' else v' + 1, by split <;> omega, fun hv => ?_, ?_, by omega, ?_, ?_⟩
    · split at hv
      · rename_i h0
        rw [if_pos h0]; exact g2 hv
      · omega
    · split
      · exact h1
      · simp; omega
    · rw [hlen, h3.symm]
      split
      · rfl
      · rw [List.append_assoc, List.take_append_of_le_length (by simp; omega)]
        rw [List.take_take, Nat.min_self]
    · rw [hlen]
      have hne : ((k : Int) == -1) = false := by simp
      have hi0 : (0 : Int) ≤ i' ∧ (i' : Int) ≤ (l.length : Int) := by omega
      have hil : i' + (l.length - i') ≤ l'.length := by omega
      simp only [Int.natCast_add, Int.natCast_one, blk] at h4
      by_cases h0 : l.length - i' = 0
      · simp [c_slices_DeleteFunc_Blob, hi, markOne, hne, hw, h4, h0, h2, hi0, h1, blk, clearOp, noIds]
      · simp [c_slices_DeleteFunc_Blob, hi, markOne, hne, hw, h4, h0, h2, hi0, h1, hil, clearOp, noIds, blk]
end Go.TrRun

/- Sorting blobs: insertion. -/
set_option linter.unusedVariables false
set_option linter.unusedSimpArgs false
set_option maxRecDepth 10000
namespace Go.TrRun
open Go Go.Eng

def bub (l : List Blob) : Nat → List Blob
  | 0 => l
  | j + 1 => if cmpB (l.getD (j + 1) zeroB) (l.getD j zeroB) < 0 then bub ((l.set (j + 1) (l.getD j zeroB)).set j (l.getD (j + 1) zeroB)) j else l
theorem bub_len : ∀ (j : Nat) (l : List Blob), (bub l j).length = l.length
  | 0, l => rfl
  | j + 1, l => by
    unfold bub
    split
    · rw [bub_len j]; simp
    · rfl
theorem inner_loop (k i : Nat) (hk : k ≤ 1000) (N : Nat) : ∀ (j : Nat) (l : List Blob) (v : Nat), j < k → k ≤ l.length → l.length = N → ∃ v' j', v ≤ v' ∧ (v' = v → bub l j = l) ∧ Y L Cs c_slices_insertionSortCmpFunc_Blob_l1 (some [9, 3, 1, 2, 8, 0]) 1 [(9, .w (W j)), (3, .w (fn1 f_motion_Join_2)), (1, .w (W 0)), (2, .w (W k)), (8, .w (W i)), (0, .w (.c (.slice 0 N 6 0 k none)))] [blk v l] =
      some (.exit 2, [(34, .w (Bo false)), (9, .w (W j')), (3, .w (fn1 f_motion_Join_2)), (1, .w (W 0)), (2, .w (W k)), (8, .w (W i)), (0, .w (.c (.slice 0 N 6 0 k none)))], [blk v' (bub l j)]) := by
  intro j
  induction j with
  | zero =>
    intro l v hj hl hN
    refine ⟨v, 0, Nat.le_refl _, fun _ => rfl, ?_⟩
    rw [Y_step c_slices_insertionSortCmpFunc_Blob_l1.eq_1]
    simp [bub]
  | succ j ih =>
    intro l v hj hl hN
    have h1 : j + 1 < l.length := by omega
    have h2 : j < l.length := by omega
    have hw : IntKind.i64.wrap ((j : Int) + 1 - 1) = (j : Int) := by rw [i64_id _ (by omega) (by omega)]; omega
    have e1 : l.getD (j + 1) zeroB = l[j + 1] := by simp [h1]
    have e2 : l.getD j zeroB = l[j] := by simp [h2]
    have hc := R_Join_2 l[j + 1] l[j]
    have hg : (0 : Int) < (j : Int) + 1 := by omega
    have hwj : IntKind.i64.wrap (j : Int) = (j : Int) := i64_id _ (by omega) (by omega)
    have a1 : (0 : Int) ≤ (j : Int) + 1 := by omega
    have a2 : (j : Int) + 1 < (k : Int) := by omega
    have a3 : ((j : Int) + 1).toNat = j + 1 := by omega
    have a4 : j < k := by omega
    have a5 : j < N := by omega
    have a6 : j + 1 < N := by omega
    simp only [blobC] at hc
    by_cases h : cmpB l[j + 1] l[j] < 0
    · obtain ⟨v', j', hv1, hv2, h4⟩ := ih ((l.set (j + 1) l[j]).set j l[j + 1]) (v + 1 + 1) (by omega) (by simp; omega) (by simp [hN])
      refine ⟨v', j', by omega, fun hv => by omega, ?_⟩
      rw [bub, e1, e2, if_pos h, ← h4, Y_step c_slices_insertionSortCmpFunc_Blob_l1.eq_1]
      have hs1 := rowsB_set l (j + 1) l[j]
      have hs2 := rowsB_set (l.set (j + 1) l[j]) j l[j + 1]
      simp only [blobC] at hs1 hs2
      simp [hg, hc, h, hw, h1, h2, hwj, a1, a2, a3, a4, a5, a6, hN, blobC, blk, hs1, hs2]
    · refine ⟨v, j + 1, Nat.le_refl _, fun _ => by rw [bub, e1, e2, if_neg h], ?_⟩
      rw [bub, e1, e2, if_neg h, Y_step c_slices_insertionSortCmpFunc_Blob_l1.eq_1]
      simp [hg, hc, h, hw, h1, h2, hwj, a1, a2, a3, a4, a5, a6, hN, blobC, blk]
def insS (l : List Blob) (i : Nat) : Nat → List Blob
  | 0 => l
  | m + 1 => insS (bub l i) (i + 1) m
theorem insS_len : ∀ (m : Nat) (l : List Blob) (i : Nat), (insS l i m).length = l.length
  | 0, l, i => rfl
  | m + 1, l, i => by unfold insS; rw [insS_len m, bub_len]
theorem outer_loop (k : Nat) (hk : k ≤ 1000) (N : Nat) : ∀ (m i : Nat) (l : List Blob) (v : Nat), k - i = m → i ≤ k + 1 → k ≤ l.length → l.length = N → ∃ v' i', v ≤ v' ∧ (v' = v → insS l i m = l) ∧ Y L Cs c_slices_insertionSortCmpFunc_Blob_l2 (some [2, 1, 3, 8, 0]) 1 [(2, .w (W k)), (1, .w (W 0)), (3, .w (fn1 f_motion_Join_2)), (8, .w (W i)), (0, .w (.c (.slice 0 N 6 0 k none)))] [blk v l] =
      some (.exit 0, [(14, .w (Bo false)), (3, .w (fn1 f_motion_Join_2)), (1, .w (W 0)), (2, .w (W k)), (8, .w (W i')), (0, .w (.c (.slice 0 N 6 0 k none)))], [blk v' (insS l i m)]) := by
  intro m
  induction m with
  | zero =>
    intro i l v hm hi hl hN
    have hg : ¬ (i : Int) < (k : Int) := by omega
    have hg' : ¬ i < k := by omega
    refine ⟨v, i, Nat.le_refl _, fun _ => rfl, ?_⟩
    rw [Y_step c_slices_insertionSortCmpFunc_Blob_l2.eq_1]
    simp [hg, hg', insS, hN]
  | succ m ih =>
    intro i l v hm hi hl hN
    have hg : (i : Int) < (k : Int) := by omega
    have hg' : i < k := by omega
    have hw := wrap_succ (i := i) (by omega)
    obtain ⟨v1, j1, q1, q2, h1⟩ := inner_loop k i hk N i l v hg' hl hN
    obtain ⟨v2, i2, q3, q4, h2⟩ := ih (i + 1) (bub l i) v1 (by omega) (by omega) (by rw [bub_len]; exact hl) (by rw [bub_len]; exact hN)
    refine ⟨v2, i2, by omega, fun hv => by rw [insS, q4 (by omega), q2 (by omega)], ?_⟩
    rw [insS, ← h2, Y_step c_slices_insertionSortCmpFunc_Blob_l2.eq_1]
    simp only [blk, bub_len, hN] at h1
    simp [hg, hg', h1, hw, blk, bub_len, hN]
theorem R_insertionSort (k : Nat) (hk : k ≤ 1000) (l : List Blob) (v : Nat) (hl : k ≤ l.length) : ∃ v', v ≤ v' ∧ (v' = v → insS l 1 (k - 1) = l) ∧ R L Cs f_slices_insertionSortCmpFunc_Blob [.c (.slice 0 l.length 6 0 k none), W 0, W k, fn1 f_motion_Join_2] [blk v l] = some (.t [], [blk v' (insS l 1 (k - 1))]) := by
  obtain ⟨v', i', q1, q2, h⟩ := outer_loop k hk l.length (k - 1) 1 l v rfl (by omega) hl rfl
  refine ⟨v', q1, q2, ?_⟩
  rw [R_fn F_slices_insertionSortCmpFunc_Blob rfl]
  have hw : IntKind.i64.wrap 1 = 1 := rfl
  simp only [blk, Int.natCast_one, insS_len] at h
  simp [c_slices_insertionSortCmpFunc_Blob, hw, h, blk, insS_len]
theorem R_SortStable (k : Nat) (hk : k ≤ 19) (l : List Blob) (v : Nat) (hl : k ≤ l.length) : ∃ v', v ≤ v' ∧ (v' = v → insS l 1 (k - 1) = l) ∧ R L Cs f_slices_SortStableFunc_Blob [.c (.slice 0 l.length 6 0 k none), fn1 f_motion_Join_2] [blk v l] = some (.t [], [blk v' (insS l 1 (k - 1))]) := by
  obtain ⟨v', q1, q2, h⟩ := R_insertionSort k (by omega) l v hl
  have h1 : ¬ (20 : Int) ≤ (k : Int) := by omega
  have h2 : ¬ (20 : Int) < (k : Int) := by omega
  have h3 : ¬ 20 ≤ k := by omega
  have h4 : ¬ 20 < k := by omega
  simp only [blk, insS_len] at h
  have hs : R L Cs f_slices_stableCmpFunc_Blob [.c (.slice 0 l.length 6 0 k none), W k, fn1 f_motion_Join_2] [blk v l] = some (.t [], [blk v' (insS l 1 (k - 1))]) := by
    rw [R_fn F_slices_stableCmpFunc_Blob rfl]
    have e1 : ∀ E M, Y L Cs c_slices_stableCmpFunc_Blob_l1 (some [7, 8, 1, 0, 2, 6]) 1 [(7, .w (W 0)), (8, .w (W 20)), (1, .w (W k)), (0, E), (2, .w (fn1 f_motion_Join_2)), (6, .w (W 20))] M = some (.exit 0, [(13, .w (Bo false)), (7, .w (W 0)), (8, .w (W 20)), (1, .w (W k)), (0, E), (2, .w (fn1 f_motion_Join_2)), (6, .w (W 20))], M) := by
      intro E M
      rw [Y_step c_slices_stableCmpFunc_Blob_l1.eq_1]
      simp [h1, h3]
    have e2 : ∀ E M, Y L Cs c_slices_stableCmpFunc_Blob_l3 (some [1, 0, 2, 6]) 1 [(1, .w (W k)), (0, E), (2, .w (fn1 f_motion_Join_2)), (6, .w (W 20))] M = some (.exit 2, [(30, .w (Bo false)), (1, .w (W k)), (0, E), (2, .w (fn1 f_motion_Join_2)), (6, .w (W 20))], M) := by
      intro E M
      rw [Y_step c_slices_stableCmpFunc_Blob_l3.eq_1]
      simp [h2, h4]
    by_cases hv : v' = v
    · have q3 := q2 hv
      subst hv
      rw [q3] at h ⊢
      simp [c_slices_stableCmpFunc_Blob, e1, e2, h, blk, insS_len]
    · simp [c_slices_stableCmpFunc_Blob, e1, e2, h, blk, insS_len, hv]
  refine ⟨v', q1, q2, ?_⟩
  rw [R_fn F_slices_SortStableFunc_Blob rfl]
  simp only [blk, insS_len] at hs
  by_cases hv : v' = v
  · have q3 := q2 hv
    subst hv
    rw [q3] at hs ⊢
    simp [c_slices_SortStableFunc_Blob, hs, blk, insS_len]
  · simp [c_slices_SortStableFunc_Blob, hs, blk, insS_len, hv]
end Go.TrRun

/- Joining blobs: the program's join. -/
set_option linter.unusedVariables false
set_option linter.unusedSimpArgs false
set_option maxRecDepth 10000
namespace Go.TrRun
open Go Go.Eng

def hullB (a b : Blob) : Blob := ⟨a.lane, min a.lo b.lo, max a.hi b.hi, min a.vlo b.vlo, max a.vhi b.vhi, if a.hold = 0 ∨ b.hold = 0 then 0 else max a.hold b.hold⟩
theorem R_hull (a b : Blob) : R L Cs f_motion_hull [.a (blobC a), .a (blobC b)] [] = some (.w (.a (blobC (hullB a b))), []) := by
  rw [R_fn F_motion_hull rfl]
  by_cases h1 : a.hold = 0
  · simp [c_motion_hull, blobC, hullB, h1]
  · have b1 : (a.hold == 0) = false := by simp [h1]
    by_cases h2 : b.hold = 0
    · simp [c_motion_hull, blobC, hullB, h1, h2, b1]
    · have b2 : (b.hold == 0) = false := by simp [h2]
      simp [c_motion_hull, blobC, hullB, h1, h2, b1, b2]

def meets (a b : Blob) : Bool := decide (a.lane = b.lane) && (decide (b.lo ≤ a.hi) || decide (b.lo - 1 = a.hi))
def joinStep (out : List Blob) (b : Blob) : List Blob :=
  if 0 < out.length ∧ meets (out.getD (out.length - 1) zeroB) b = true then out.set (out.length - 1) (hullB (out.getD (out.length - 1) zeroB) b) else out ++ [b]
structure OKB (b : Blob) : Prop where
  lo1 : -9223372036854775808 ≤ b.lo
  lo2 : b.lo ≤ 9223372036854775807
  hi1 : -9223372036854775808 ≤ b.hi
  hi2 : b.hi ≤ 9223372036854775807
theorem hull_ok {a b : Blob} (ha : OKB a) (hb : OKB b) : OKB (hullB a b) := ⟨by simp [hullB]; have := ha.lo1; have := hb.lo1; omega, by simp [hullB]; have := ha.lo2; have := hb.lo2; omega, by simp [hullB]; have := ha.hi1; have := hb.hi1; omega, by simp [hullB]; have := ha.hi2; have := hb.hi2; omega⟩
theorem joinStep_ok {out : List Blob} {b : Blob} (h : ∀ x ∈ out, OKB x) (hb : OKB b) : ∀ x ∈ joinStep out b, OKB x := by
  intro x hx
  unfold joinStep at hx
  split at hx
  · rename_i hc
    rcases List.mem_or_eq_of_mem_set hx with h1 | h1
    · exact h x h1
    · subst h1
      refine hull_ok (h _ ?_) hb
      have : out.length - 1 < out.length := by omega
      rw [List.getD_eq_getElem?_getD, List.getElem?_eq_getElem this]
      exact List.getElem_mem this
  · rcases List.mem_append.1 hx with h1 | h1
    · exact h x h1
    · simp at h1; subst h1; exact hb
theorem joinStep_len (out : List Blob) (b : Blob) : (joinStep out b).length ≤ out.length + 1 := by
  unfold joinStep; split <;> simp

set_option maxHeartbeats 2000000 in
theorem join_loop (S : List Blob) (k : Nat) (hk : k ≤ 1000) (hS : k ≤ S.length) (v : Nat) (hok : ∀ x ∈ S.take k, OKB x) : ∀ (r : List Blob) (i : Nat) (out : List Blob) (w : Nat), (S.take k).drop i = r → i ≤ k → out.length ≤ i → (∀ x ∈ out, OKB x) → ∃ w', 
    Y L Cs c_motion_Join_l1 (some [15, 14, 13, 4]) 3 [(15, .w (W i)), (14, .w (W k)), (13, .w (.c (.slice 1 S.length 6 0 k none))), (4, .w (.c (.slice 2 out.length 6 0 out.length none)))] [gb 6, blk v S, blk w out] =
      some (.exit 0, [(16, .w (Bo false)), (15, .w (W k)), (14, .w (W k)), (13, .w (.c (.slice 1 S.length 6 0 k none))), (4, .w (.c (.slice 2 (r.foldl joinStep out).length 6 0 (r.foldl joinStep out).length none)))], [gb 6, blk v S, blk w' (r.foldl joinStep out)]) := by
  intro r
  induction r with
  | nil =>
    intro i out w hd hi ho hoo
    have : i = k := by
      have := drop_nil hd (by simp; omega)
      simp at this; omega
    subst this
    refine ⟨w, ?_⟩
    rw [Y_step c_motion_Join_l1.eq_1]
    simp
  | cons b r ih =>
    intro i out w hd hi ho hoo
    obtain ⟨hil, hb, hd'⟩ := drop_cons hd
    simp at hil hb
    have hik : i < k := by omega
    have hiS : i < S.length := by omega
    have hbok : OKB b := hok b (List.mem_of_mem_drop (i := i) (by rw [hd]; exact List.mem_cons_self))
    have hw := wrap_succ (i := i) (by omega)
    obtain ⟨w', h4⟩ := ih (i + 1) (joinStep out b) (if 0 < out.length ∧ meets (out.getD (out.length - 1) zeroB) b = true then w + 1 else w + 1) hd' hik (by have := joinStep_len out b; omega) (joinStep_ok hoo hbok)
    refine ⟨w', ?_⟩
    rw [List.foldl_cons, ← h4, Y_step c_motion_Join_l1.eq_1]
    have hroom : (out.length + 1) * 48 ≤ 140737488355328 := by omega
    by_cases h0 : out.length = 0
    · have e : out = [] := List.length_eq_zero_iff.1 h0
      subst e
      simp [joinStep, hik, hiS, hb, hw, blobC, blk]
    have hp : 0 < out.length := by omega
    have hp' : (0 : Int) < (out.length : Int) := by omega
    have hlast : out.length - 1 < out.length := by omega
    have e1 : out.getD (out.length - 1) zeroB = out[out.length - 1] := by simp [hlast]
    have hw1 : IntKind.i64.wrap ((out.length : Int) - 1) = (out.length : Int) - 1 := i64_id _ (by omega) (by omega)
    have i1 : (1 : Int) ≤ (out.length : Int) := by omega
    have i2 : (out.length : Int) - 1 < (out.length : Int) := by omega
    have i3 : ((out.length : Int) - 1).toNat = out.length - 1 := by omega
    have aok : OKB out[out.length - 1] := hoo _ (List.getElem_mem _)
    have hc := R_hull out[out.length - 1] b
    rw [joinStep, e1]
    generalize ha : out[out.length - 1] = a at *
    have hs := rowsB_set out (out.length - 1) (hullB a b)
    simp only [blobC] at hc hs
    by_cases h2 : a.lane = b.lane
    · rw [h2] at hc
      by_cases h3 : b.lo ≤ a.hi
      · have hm : meets a b = true := by simp [meets, h2, h3]
        simp [hm, hik, hiS, hb, hw, blobC, blk, hp, hp', hw1, i1, i2, i3, hlast, ha, h2, h3, hc, hs]
      · have hw2 : IntKind.i64.wrap (b.lo - 1) = b.lo - 1 := i64_id _ (by have := aok.hi1; omega) (by have := hbok.lo2; omega)
        by_cases h5 : b.lo - 1 = a.hi
        · have hm : meets a b = true := by simp [meets, h2, h5]
          have hw3 : IntKind.i64.wrap a.hi = a.hi := i64_id _ aok.hi1 aok.hi2
          simp [hw3, hm, hik, hiS, hb, hw, blobC, blk, hp, hp', hw1, i1, i2, i3, hlast, ha, h2, h3, hc, hs, hw2, h5]
        · have hm : meets a b = false := by simp [meets, h2, h3, h5]
          have b5 : (b.lo - 1 == a.hi) = false := by simp [h5]
          simp [hm, hik, hiS, hb, hw, blobC, blk, hp, hp', hw1, i1, i2, i3, hlast, ha, h2, h3, hw2, h5, b5, hroom]
    · have hm : meets a b = false := by simp [meets, h2]
      have b2 : (a.lane == b.lane) = false := by simp [h2]
      simp [hm, hik, hiS, hb, hw, blobC, blk, hp, hp', hw1, i1, i2, i3, hlast, ha, h2, b2, hroom]

def sortF (l : List Blob) : List Blob := insS l 1 (l.length - 1)
theorem insS_take : ∀ (m i : Nat) (l : List Blob) (k : Nat), i + m ≤ k → k ≤ l.length → (insS l i m).take k = insS (l.take k) i m := by
  have hb : ∀ (j : Nat) (l : List Blob) (k : Nat), j < k → k ≤ l.length → (bub l j).take k = bub (l.take k) j := by
    intro j
    induction j with
    | zero => intro l k _ _; rfl
    | succ j ih =>
      intro l k h1 h2
      have e1 : (l.take k).getD (j + 1) zeroB = l.getD (j + 1) zeroB := by simp [List.getD_eq_getElem?_getD, List.getElem?_take_of_lt h1]
      have e2 : (l.take k).getD j zeroB = l.getD j zeroB := by simp [List.getD_eq_getElem?_getD, List.getElem?_take_of_lt (show j < k by omega)]
      rw [bub, bub, e1, e2]
      split
      · rw [ih _ _ (by omega) (by simp; omega)]
        simp [List.take_set]
      · rfl
  intro m
  induction m with
  | zero => intro i l k _ _; rfl
  | succ m ih =>
    intro i l k h1 h2
    rw [insS, insS, ih _ _ _ (by omega) (by rw [bub_len]; exact h2), hb i l k (by omega) h2]
def joinF (l : List Blob) : List Blob := (sortF (l.filter fun b => !bad b)).foldl joinStep []
theorem bub_mem : ∀ (j : Nat) (l : List Blob) (x : Blob), j < l.length → x ∈ bub l j → x ∈ l := by
  intro j
  induction j with
  | zero => intro l x _ h; exact h
  | succ j ih =>
    intro l x hj h
    rw [bub] at h
    split at h
    · have h1 := ih _ x (by simp; omega) h
      have e1 : l.getD (j + 1) zeroB ∈ l := by rw [List.getD_eq_getElem?_getD, List.getElem?_eq_getElem hj]; exact List.getElem_mem _
      have e2 : l.getD j zeroB ∈ l := by rw [List.getD_eq_getElem?_getD, List.getElem?_eq_getElem (by omega)]; exact List.getElem_mem _
      rcases List.mem_or_eq_of_mem_set h1 with h2 | h2
      · rcases List.mem_or_eq_of_mem_set h2 with h3 | h3
        · exact h3
        · rw [h3]; exact e2
      · rw [h2]; exact e1
    · exact h
theorem insS_mem : ∀ (m i : Nat) (l : List Blob) (x : Blob), i + m ≤ l.length → x ∈ insS l i m → x ∈ l := by
  intro m
  induction m with
  | zero => intro i l x _ h; exact h
  | succ m ih => intro i l x h1 h; exact bub_mem i l x (by omega) (ih (i + 1) (bub l i) x (by rw [bub_len]; omega) h)

theorem R_motionJoin (l : List Blob) (hl : l.length ≤ 19) (hok : ∀ x ∈ l, OKB x) : R L Cs f_motion_Join [.c (.rslice (rowsB l))] [] = some (.w (.c (.rslice (rowsB (joinF l)))), []) := by
  have hc := clone_blobs l (by omega)
  obtain ⟨l', v1, d1, d2, d3, d4, d5, hD⟩ := R_DeleteFunc l l.length (by omega)
  have hkl : (l.filter fun b => !bad b).length ≤ l'.length := by rw [d3]; exact d4
  obtain ⟨v2, s1, s2, hS⟩ := R_SortStable (l.filter fun b => !bad b).length (by omega) l' v1 hkl
  have htake : (insS l' 1 ((l.filter fun b => !bad b).length - 1)).take (l.filter fun b => !bad b).length = sortF (l.filter fun b => !bad b) := by
    by_cases h0 : (l.filter fun b => !bad b).length = 0
    · have e : (l.filter fun b => !bad b) = [] := List.length_eq_zero_iff.1 h0
      rw [e]; rfl
    · rw [insS_take _ _ _ _ (by omega) hkl, d5]; rfl
  have hfok : ∀ x ∈ sortF (l.filter fun b => !bad b), OKB x := by
    intro x hx
    by_cases h0 : (l.filter fun b => !bad b).length = 0
    · have e : (l.filter fun b => !bad b) = [] := List.length_eq_zero_iff.1 h0
      rw [e] at hx; cases hx
    · exact hok x (List.mem_filter.1 (insS_mem _ _ _ x (by omega) hx)).1
  obtain ⟨w', hJ⟩ := join_loop (insS l' 1 ((l.filter fun b => !bad b).length - 1)) (l.filter fun b => !bad b).length (by omega) (by rw [insS_len]; exact hkl) v2 (by rw [htake]; exact hfok) _ 0 [] 0 rfl (Nat.zero_le _) (Nat.zero_le _) (by simp)
  rw [List.drop_zero, htake, ← joinF] at hJ
  generalize hk : (l.filter fun b => !bad b).length = k at *
  generalize hQ : joinF l = Q at *
  generalize hI : insS l' 1 (k - 1) = S at *
  have hSl : S.length = l.length := by rw [← hI, insS_len, d3]
  simp only [blk, hSl, d3, Int.natCast_zero, List.length_nil, rowsB_nil] at hD hS hJ
  rw [R_fn F_motion_Join rfl]
  by_cases q1 : v1 = l.length
  · have e1 := d2 q1
    by_cases q2 : v2 = v1
    · have e2 := s2 q2
      rw [e1, q1] at hD
      rw [e2, e1, q2, q1] at hS hJ
      simp [c_motion_Join, hc, hD, hS, hJ]
    · rw [e1, q1] at hD
      rw [e1, q1] at hS
      rw [q1] at q2
      simp [c_motion_Join, hc, hD, hS, hJ, q2]
  · by_cases q2 : v2 = v1
    · have e2 := s2 q2
      rw [e2, q2] at hS hJ
      simp [c_motion_Join, hc, hD, hS, hJ, q1]
    · simp [c_motion_Join, hc, hD, hS, hJ, q1, q2]
end Go.TrRun

/- Joining blobs: the reference's join. -/
set_option linter.unusedVariables false
set_option linter.unusedSimpArgs false
set_option maxRecDepth 10000
namespace Go.TrRun
open Go Go.Eng

def ltB (a b : Blob) : Bool := decide (a.lane < b.lane) || (decide (a.lane = b.lane) && decide (a.lo < b.lo))
theorem ltB_cmp (a b : Blob) : (cmpB a b < 0) ↔ ltB a b = true := by
  unfold cmpB ltB cmpI
  by_cases h1 : a.lane < b.lane
  · simp [h1]
  · by_cases h2 : b.lane < a.lane
    · have h3 : ¬ a.lane = b.lane := by omega
      simp [h1, h2, h3]
    · have h3 : a.lane = b.lane := by omega
      by_cases h4 : a.lo < b.lo
      · simp [h3, h4]
      · by_cases h5 : b.lo < a.lo
        · simp [h3, h4, h5]
        · simp [h3, h4, h5]
theorem R_less (a b : Blob) : R L Cs f_kerbstoneref05_less [.a (blobC a), .a (blobC b)] [] = some (.w (Bo (ltB a b)), []) := by
  rw [R_fn F_kerbstoneref05_less rfl]
  by_cases h1 : a.lane < b.lane
  · simp [c_kerbstoneref05_less, blobC, ltB, h1]
  · by_cases h2 : a.lane = b.lane
    · simp [c_kerbstoneref05_less, blobC, ltB, h2]
    · have b2 : (a.lane == b.lane) = false := by simp [h2]
      simp [c_kerbstoneref05_less, blobC, ltB, h1, h2, b2]
/-- The place of a blob in a sorted list, looked for from the end. -/
def insAt (x : Blob) (s : List Blob) : Nat → Nat
  | 0 => 0
  | a + 1 => if ltB x (s.getD a zeroB) = true then insAt x s a else a + 1
theorem insAt_le (x : Blob) (s : List Blob) : ∀ a, insAt x s a ≤ a
  | 0 => Nat.le_refl _
  | a + 1 => by unfold insAt; split; exact Nat.le_succ_of_le (insAt_le x s a); exact Nat.le_refl _
theorem at_loop (l s : List Blob) (i : Nat) (hi : i < l.length) (hs : s.length ≤ 1000) (M : Mem) (id : Nat) (hM : M[id]? = some (some (own 6 (rowsB s)))) : ∀ (a : Nat), a ≤ s.length →
    Y L Cs c_kerbstoneref05_Join_l1 (some [5, 0, 4, 3]) M.length [(5, .w (W a)), (0, .w (.c (.rslice (rowsB l)))), (4, .w (W i)), (3, .w (.c (.slice id s.length 6 0 s.length none)))] M =
      some (.exit 2, [(44, .w (Bo false)), (5, .w (W (insAt l[i] s a))), (0, .w (.c (.rslice (rowsB l)))), (4, .w (W i)), (3, .w (.c (.slice id s.length 6 0 s.length none)))], M) := by
  intro a
  induction a with
  | zero =>
    intro ha
    rw [Y_step c_kerbstoneref05_Join_l1.eq_1]
    simp [insAt]
  | succ a ih =>
    intro ha
    have has : a < s.length := by omega
    have e1 : s.getD a zeroB = s[a] := by simp [has]
    have hc := R_less l[i] s[a]
    have hg : (0 : Int) < (a : Int) + 1 := by omega
    have hwa : IntKind.i64.wrap (a : Int) = (a : Int) := i64_id _ (by omega) (by omega)
    simp only [blobC] at hc
    rw [insAt, e1]
    have hdrop : ∀ E : Env, drop0 M.length E M = M := fun E => by simp [drop0]
    by_cases h : ltB l[i] s[a] = true
    · rw [h] at hc
      rw [if_pos h, ← ih (by omega), Y_step c_kerbstoneref05_Join_l1.eq_1]
      simp [hg, hi, hM, own, has, hwa, hc, blobC, hdrop]
    · have h' : ltB l[i] s[a] = false := by simpa using h
      rw [h'] at hc
      rw [if_neg h, Y_step c_kerbstoneref05_Join_l1.eq_1]
      simp [hg, hi, hM, own, has, hwa, hc, blobC]
end Go.TrRun

/- Joining blobs: the reference's sorted list. -/
set_option linter.unusedVariables false
set_option linter.unusedSimpArgs false
set_option maxRecDepth 10000
namespace Go.TrRun
open Go Go.Eng

def insB (s : List Blob) (x : Blob) : List Blob := s.take (insAt x s s.length) ++ x :: s.drop (insAt x s s.length)
theorem insB_len (s : List Blob) (x : Blob) : (insB s x).length = s.length + 1 := by
  have := insAt_le x s s.length
  simp [insB]; omega
def flatM (M : Mem) : Prop := ∀ x ∈ M, ∀ b, x = some b → b.box = false
def sortStep (s : List Blob) (x : Blob) : List Blob := if bad x = true then s else insB s x
theorem drop0_keep {M : Mem} {E : Env} {id g es off len : Nat} {c : Option Nat} (hE : (3, AV.w (.c (.slice id g es off len c))) ∈ E) (h : M.length ≤ 2 ∨ 2 ≤ id) : drop0 2 E M = M := by
  unfold drop0
  split
  · rfl
  · rename_i hl
    have hid : 2 ≤ id := h.resolve_left hl
    rw [if_neg]
    simp only [Bool.and_eq_true, List.all_eq_true, not_and]
    intro hall
    have := hall _ hE
    simp [AV.below, WV.below, WV.cells, Eng.below, top1] at this
    omega

set_option maxHeartbeats 8000000 in
theorem sort_loop (l : List Blob) (hl : l.length ≤ 1000) : ∀ (r : List Blob) (i : Nat) (s : List Blob) (M : Mem) (id : Nat), l.drop i = r → i ≤ l.length → s.length ≤ i → M[id]? = some (some (own 6 (rowsB s))) → (M.length ≤ 2 ∨ 2 ≤ id) → 2 ≤ M.length → flatM M →
    ∃ M' id', flatM M' ∧ M'[id']? = some (some (own 6 (rowsB (r.foldl sortStep s)))) ∧ Y L Cs c_kerbstoneref05_Join_l2 (some [4, 0, 3]) 2 [(4, .w (W i)), (0, .w (.c (.rslice (rowsB l)))), (3, .w (.c (.slice id s.length 6 0 s.length none)))] M =
      some (.exit 0, [(15, .w (Bo false)), (4, .w (W l.length)), (0, .w (.c (.rslice (rowsB l)))), (3, .w (.c (.slice id' (r.foldl sortStep s).length 6 0 (r.foldl sortStep s).length none)))], M') := by
  intro r
  induction r with
  | nil =>
    intro i s M id hd hi hs hM hid hML hfl
    obtain rfl := drop_nil hd hi
    refine ⟨M, id, hfl, hM, ?_⟩
    rw [Y_step c_kerbstoneref05_Join_l2.eq_1]
    simp
  | cons x r ih =>
    intro i s M id hd hi hs hM hid hML hfl
    obtain ⟨hil, hx, hd'⟩ := drop_cons hd
    have hw := wrap_succ (i := i) (by omega)
    by_cases hb : x.hi < x.lo
    · obtain ⟨M', id', hf', h1, h2⟩ := ih (i + 1) s M id hd' hil (by omega) hM hid hML hfl
      have e : sortStep s x = s := by simp [sortStep, hb]
      rw [List.foldl_cons, e]
      refine ⟨M', id', hf', h1, ?_⟩
      rw [← h2, Y_step c_kerbstoneref05_Join_l2.eq_1]
      have hdr := fun (E : Env) (hE : (3, AV.w (.c (.slice id s.length 6 0 s.length none))) ∈ E) => drop0_keep hE hid
      simp [hil, hx, hb, blobC, hw, hdr, -drop0]
    · have hidM : id < M.length := (List.getElem?_eq_some_iff.1 hM).1
      have e : sortStep s x = insB s x := by simp [sortStep, hb]
      have hM2 : (M ++ [some (own 6 (rowsB (insB s x))), some (own 6 [blobC x])])[M.length]? = some (some (own 6 (rowsB (insB s x)))) := by simp
      have hl2 : (2 : Nat) ≤ M.length := hML
      have hs999 : s.length ≤ 999 := by omega
      obtain ⟨M', id', hf', h1, h2⟩ := ih (i + 1) (insB s x) (M ++ [some (own 6 (rowsB (insB s x))), some (own 6 [blobC x])]) M.length hd' hil (by rw [insB_len]; omega) hM2 (.inr hl2) (by simp) (by
        intro y hy b hb
        rcases List.mem_append.1 hy with h | h
        · exact hfl y h b hb
        · simp at h
          rcases h with rfl | rfl <;> (cases hb; rfl))
      rw [List.foldl_cons, e]
      refine ⟨M', id', hf', h1, ?_⟩
      have hat := at_loop l s i hil (by omega) M id hM s.length (Nat.le_refl _)
      rw [hx] at hat
      have hdr : ∀ (v v2 : AV) (g len : Nat) (N : Mem), drop0 2 [(4, v), (0, v2), (3, .w (.c (.slice M.length g 6 0 len none)))] (M ++ N) = M ++ N := fun v v2 g len N => drop0_keep (id := M.length) (g := g) (es := 6) (off := 0) (len := len) (c := none) (by simp) (.inr hl2)
      have hle := insAt_le x s s.length
      rw [← h2, Y_step c_kerbstoneref05_Join_l2.eq_1]
      simp only [insB]
      generalize insAt x s s.length = a at *
      have hdl : ∀ E : Env, drop0 M.length E M = M := fun E => by simp [drop0]
      have hal : (a : Int) ≤ (s.length : Int) := by omega
      have r1 : ∀ n, n ≤ 1000 → n * 48 ≤ 140737488355328 := fun n hn => by omega
      have hta : (s.take a).length = a := by simp; omega
      have htd : (s.drop a).length = s.length - a := by simp
      have hsz : a + (s.length - a) = s.length := by omega
      have hg : ∀ N : Mem, (M ++ N)[id]? = some (some (own 6 (rowsB s))) := fun N => by rw [List.getElem?_append_left hidM, hM]
      simp only [own, rowsB_len] at hg
      have d1 : a - s.length = 0 := by omega
      cases h1 : s.take a with
      | nil =>
        cases h2 : s.drop a with
        | nil => simp [hil, hx, hb, blobC, hw, hdr, hat, hM, hidM, hg, own, hle, h1, h2, newAt, hdl, hal, hsz, r1, -drop0]
        | cons z t2 =>
          have ht2 : t2.length + 1 + 1 ≤ 1000 := by have := congrArg List.length h2; simp at this; omega
          have ht3 : s.length - a = t2.length + 1 := by have := congrArg List.length h2; simp at this; omega
          have ht4 : (1 + (t2.length + 1)) * 48 ≤ 140737488355328 := by omega
          have ht5 : 1 + (t2.length + 1) = t2.length + 1 + 1 := by omega
          have ht6 : a + (t2.length + 1) ≤ s.length := by omega
          simp [hil, hx, hb, blobC, hw, hdr, hat, hM, hidM, hg, own, hle, h1, h2, newAt, hdl, hal, hsz, r1, ht2, ht3, ht4, ht5, ht6, -drop0]
      | cons y t1 =>
        have ht1 : t1.length + 1 = a := by have := congrArg List.length h1; simp at this; omega
        have hr1 := r1 (t1.length + 1) (by omega)
        have hr2 := r1 (t1.length + 1 + 1) (by omega)
        cases h2 : s.drop a with
        | nil => simp [hil, hx, hb, blobC, hw, hdr, hat, hM, hidM, hg, own, hle, h1, h2, newAt, hdl, hal, hsz, r1, hr1, hr2, -drop0]
        | cons z t2 =>
          have hr3 := r1 (t1.length + 1 + 1 + (t2.length + 1)) (by have := congrArg List.length h2; simp at this; omega)
          have ht3 : s.length - a = t2.length + 1 := by have := congrArg List.length h2; simp at this; omega
          have ht6 : a + (t2.length + 1) ≤ s.length := by omega
          have ht7 : t1.length + 1 + 1 + (t2.length + 1) = t1.length + (t2.length + 1 + 1) + 1 := by omega
          have hr4 : (t1.length + (t2.length + 1 + 1) + 1) * 48 ≤ 140737488355328 := by rw [← ht7]; exact hr3
          have ht8 : List.take (t1.length + 1) (rowsB t1 ++ [[I x.lane, I x.lo, I x.hi, I x.vlo, I x.vhi, I x.hold]]) = rowsB t1 ++ [[I x.lane, I x.lo, I x.hi, I x.vlo, I x.vhi, I x.hold]] := List.take_of_length_le (by simp)
          have ht2 : t2.length + 1 + a = s.length := by have := congrArg List.length h2; simp at this; omega
          simp [hil, hx, hb, blobC, hw, hdr, hat, hM, hidM, hg, own, hle, h1, h2, newAt, hdl, hal, hsz, r1, ht2, hr1, hr2, hr3, hr4, ht3, ht6, ht7, ht8, -drop0]
end Go.TrRun

/- Joining blobs: the reference's join of a sorted list. -/
set_option linter.unusedVariables false
set_option linter.unusedSimpArgs false
set_option maxRecDepth 10000
namespace Go.TrRun
open Go Go.Eng

def glue (a b : Blob) : Blob := ⟨b.lane, a.lo, max a.hi b.hi, min a.vlo b.vlo, max a.vhi b.vhi, if a.hold = 0 ∨ b.hold = 0 then 0 else max a.hold b.hold⟩
def far (a b : Blob) : Bool := !decide (a.lane = b.lane) || (decide (a.hi < b.lo) && decide (a.hi < b.lo - 1))
def glueStep (out : List Blob) (b : Blob) : List Blob :=
  if 0 < out.length ∧ far (out.getD (out.length - 1) zeroB) b = false then out.set (out.length - 1) (glue (out.getD (out.length - 1) zeroB) b) else out ++ [b]
theorem glueStep_len (out : List Blob) (b : Blob) : (glueStep out b).length ≤ out.length + 1 := by
  unfold glueStep; split <;> simp
theorem glueStep_ok {out : List Blob} {b : Blob} (h : ∀ x ∈ out, OKB x) (hb : OKB b) : ∀ x ∈ glueStep out b, OKB x := by
  intro x hx
  unfold glueStep at hx
  split at hx
  · rename_i hc
    rcases List.mem_or_eq_of_mem_set hx with h1 | h1
    · exact h x h1
    · subst h1
      have hl : out.length - 1 < out.length := by omega
      have ho : OKB (out.getD (out.length - 1) zeroB) := by
        refine h _ ?_
        rw [List.getD_eq_getElem?_getD, List.getElem?_eq_getElem hl]
        exact List.getElem_mem hl
      exact ⟨ho.lo1, ho.lo2, by show _ ≤ max _ _; have := ho.hi1; have := hb.hi1; omega, by show max _ _ ≤ _; have := ho.hi2; have := hb.hi2; omega⟩
  · rcases List.mem_append.1 hx with h1 | h1
    · exact h x h1
    · simp at h1; subst h1; exact hb
theorem drop0_tail {P N : Mem} (hP : flatM P) {g len id g' len' : Nat} {v : AV} {o x : Option Blk} (ho : ∀ b, o = some b → b.box = false) (hid : id < P.length) (hv : v.below (P.length + 1) = true) :
    drop0 (P.length + 1) [(6, .w (.c (.slice P.length g 6 0 len none))), (7, v), (3, .w (.c (.slice id g' 6 0 len' none)))] (P ++ o :: x :: N) = P ++ [o] := by
  unfold drop0
  have ht : (P ++ o :: x :: N).take (P.length + 1) = P ++ [o] := by
    rw [List.take_append, List.take_of_length_le (by omega)]; simp
  rw [if_neg (by simp), ht, if_pos]
  simp only [Bool.and_eq_true, List.all_eq_true]
  refine ⟨?_, ?_⟩
  · intro y hy
    simp at hy
    rcases hy with rfl | rfl | rfl
    · simp [AV.below, WV.below, WV.cells, Eng.below, top1]
    · exact hv
    · simp [AV.below, WV.below, WV.cells, Eng.below, top1]; omega
  · simp only [memBelow, List.all_eq_true]
    intro y hy
    have : ∀ b, y = some b → b.box = false := by
      rcases List.mem_append.1 hy with h | h
      · exact hP y h
      · simp at h; subst h; exact ho
    cases y with
    | none => rfl
    | some b => simp [Blk.below, this b rfl]
set_option maxHeartbeats 4000000 in
theorem glue_loop (S : List Blob) (hS : S.length ≤ 1000) (P : Mem) (id : Nat) (hP : flatM P) (hM : P[id]? = some (some (own 6 (rowsB S)))) (hok : ∀ x ∈ S, OKB x) : ∀ (r : List Blob) (i : Nat) (out : List Blob) (w : Nat), S.drop i = r → i ≤ S.length → out.length ≤ i → (∀ x ∈ out, OKB x) → ∃ w', 
    Y L Cs c_kerbstoneref05_Join_l3 (some [6, 7, 3]) (P.length + 1) [(6, .w (.c (.slice P.length out.length 6 0 out.length none))), (7, .w (W i)), (3, .w (.c (.slice id S.length 6 0 S.length none)))] (P ++ [blk w out]) =
      some (.exit 4, [(65, .w (Bo false)), (6, .w (.c (.slice P.length (r.foldl glueStep out).length 6 0 (r.foldl glueStep out).length none))), (7, .w (W S.length)), (3, .w (.c (.slice id S.length 6 0 S.length none)))], P ++ [blk w' (r.foldl glueStep out)]) := by
  have hidP : id < P.length := (List.getElem?_eq_some_iff.1 hM).1
  have hg : ∀ N : Mem, (P ++ N)[id]? = some (some (own 6 (rowsB S))) := fun N => by rw [List.getElem?_append_left hidP, hM]
  simp only [own, rowsB_len] at hg
  intro r
  induction r with
  | nil =>
    intro i out w hd hi ho hoo
    obtain rfl := drop_nil hd hi
    refine ⟨w, ?_⟩
    rw [Y_step c_kerbstoneref05_Join_l3.eq_1]
    simp [hg]
  | cons b r ih =>
    intro i out w hd hi ho hoo
    obtain ⟨hil, hb, hd'⟩ := drop_cons hd
    have hbok : OKB b := hok b (by rw [← hb]; exact List.getElem_mem _)
    have hw := wrap_succ (i := i) (by omega)
    obtain ⟨w', h4⟩ := ih (i + 1) (glueStep out b) (w + 1) hd' hil (by have := glueStep_len out b; omega) (glueStep_ok hoo hbok)
    refine ⟨w', ?_⟩
    rw [List.foldl_cons, ← h4, Y_step c_kerbstoneref05_Join_l3.eq_1]
    have hroom : (out.length + 1) * 48 ≤ 140737488355328 := by omega
    have hdt : ∀ (g len g' len' : Nat) (k : Int) (w : Nat) (rows : List (List Cl)) (x : Option Blk) (N : Mem), drop0 (P.length + 1) [(6, .w (.c (.slice P.length g 6 0 len none))), (7, .w (W k)), (3, .w (.c (.slice id g' 6 0 len' none)))] (P ++ some { box := false, esz := 6, rows := rows, gen := g, fz := false, ver := w } :: x :: N) = P ++ [some { box := false, esz := 6, rows := rows, gen := g, fz := false, ver := w }] :=
      fun g len g' len' k w rows x N => drop0_tail hP (by intro b hb; cases hb; rfl) hidP (by simp [AV.below, WV.below, WV.cells, Eng.below, top1])
    by_cases h0 : out.length = 0
    · have e : out = [] := List.length_eq_zero_iff.1 h0
      subst e
      have hwm : IntKind.i64.wrap (-1) = -1 := rfl
      simp [glueStep, hil, hb, hw, blobC, blk, hg, hwm, hdt, newAt, -drop0]
    have hp : 0 < out.length := by omega
    have hlast : out.length - 1 < out.length := by omega
    have e1 : out.getD (out.length - 1) zeroB = out[out.length - 1] := by simp [hlast]
    have hw1 : IntKind.i64.wrap ((out.length : Int) - 1) = (out.length : Int) - 1 := i64_id _ (by omega) (by omega)
    have i1 : (1 : Int) ≤ (out.length : Int) := by omega
    have i2 : (out.length : Int) - 1 < (out.length : Int) := by omega
    have i3 : ¬ ((out.length : Int) - 1 < 0) := by omega
    have i4 : ¬ ((out.length : Int) < 1) := by omega
    have i5 : ¬ (out.length < 1) := by omega
    have aok : OKB out[out.length - 1] := hoo _ (List.getElem_mem _)
    rw [glueStep, e1]
    generalize ha : out[out.length - 1] = a at *
    have hs : ∀ x1 x2 x3 x4 x5 x6 : Int, (rowsB out).set (out.length - 1) [.int .i64 x1, .int .i64 x2, .int .i64 x3, .int .i64 x4, .int .i64 x5, .int .i64 x6] = rowsB (out.set (out.length - 1) ⟨x1, x2, x3, x4, x5, x6⟩) := fun x1 x2 x3 x4 x5 x6 => rowsB_set out (out.length - 1) ⟨x1, x2, x3, x4, x5, x6⟩
    by_cases h2 : a.lane = b.lane
    · by_cases h3 : a.hi < b.lo
      · have hw2 : IntKind.i64.wrap (b.lo - 1) = b.lo - 1 := i64_id _ (by have := aok.hi1; omega) (by have := hbok.lo2; omega)
        by_cases h5 : a.hi < b.lo - 1
        · have hm : far a b = true := by simp [far, h3, h5]
          simp [hm, hil, hb, hw, blobC, blk, hp, hw1, i1, i2, i3, i4, i5, hlast, ha, h2, h3, h5, hw2, hroom, hg, hdt, newAt, -drop0]
        · have hm : far a b = false := by simp [far, h2, h5]
          by_cases h6 : a.hold = 0
          · simp [hm, hil, hb, hw, blobC, blk, hp, hw1, i1, i2, i3, i4, i5, hlast, ha, h2, h3, h5, hw2, hroom, hg, hdt, newAt, h6, glue, hs, -drop0]
          · have b6 : (a.hold == 0) = false := by simp [h6]
            by_cases h7 : b.hold = 0
            · simp [hm, hil, hb, hw, blobC, blk, hp, hw1, i1, i2, i3, i4, i5, hlast, ha, h2, h3, h5, hw2, hroom, hg, hdt, newAt, h6, h7, b6, glue, hs, -drop0]
            · have b7 : (b.hold == 0) = false := by simp [h7]
              simp [hm, hil, hb, hw, blobC, blk, hp, hw1, i1, i2, i3, i4, i5, hlast, ha, h2, h3, h5, hw2, hroom, hg, hdt, newAt, h6, h7, b6, b7, glue, hs, -drop0]
      · have hm : far a b = false := by simp [far, h2, h3]
        by_cases h6 : a.hold = 0
        · simp [hm, hil, hb, hw, blobC, blk, hp, hw1, i1, i2, i3, i4, i5, hlast, ha, h2, h3,  hg, hdt, newAt, h6, glue, hs, -drop0]
        · have b6 : (a.hold == 0) = false := by simp [h6]
          by_cases h7 : b.hold = 0
          · simp [hm, hil, hb, hw, blobC, blk, hp, hw1, i1, i2, i3, i4, i5, hlast, ha, h2, h3,  hg, hdt, newAt, h6, h7, b6, glue, hs, -drop0]
          · have b7 : (b.hold == 0) = false := by simp [h7]
            simp [hm, hil, hb, hw, blobC, blk, hp, hw1, i1, i2, i3, i4, i5, hlast, ha, h2, h3,  hg, hdt, newAt, h6, h7, b6, b7, glue, hs, -drop0]
    · have hm : far a b = true := by simp [far, h2]
      have b2 : (a.lane == b.lane) = false := by simp [h2]
      have b3 : (a.lane != b.lane) = true := by simp [h2]
      simp [hm, hil, hb, hw, blobC, blk, hp, hw1, i1, i2, i3, i4, i5, hlast, ha, h2, b2, b3, hroom, hg, hdt, newAt, -drop0]
end Go.TrRun

/- Joining blobs: both joins are equal. -/
set_option linter.unusedVariables false
set_option linter.unusedSimpArgs false
set_option maxRecDepth 10000
namespace Go.TrRun
open Go Go.Eng

theorem insB_mem {s : List Blob} {x y : Blob} : y ∈ insB s x ↔ y = x ∨ y ∈ s := by
  unfold insB
  generalize insAt x s s.length = a
  conv => rhs; rw [← List.take_append_drop a s]
  simp only [List.mem_append, List.mem_cons]
  constructor
  · rintro (h | h | h)
    · exact .inr (.inl h)
    · exact .inl h
    · exact .inr (.inr h)
  · rintro (h | h | h)
    · exact .inr (.inl h)
    · exact .inl h
    · exact .inr (.inr h)
theorem sort_mem : ∀ (l s : List Blob) (y : Blob), y ∈ l.foldl sortStep s → y ∈ l ∨ y ∈ s
  | [], s, y, h => .inr h
  | x :: l, s, y, h => by
    rcases sort_mem l (sortStep s x) y h with h | h
    · exact .inl (List.mem_cons_of_mem _ h)
    · unfold sortStep at h
      split at h
      · exact .inr h
      · rcases insB_mem.1 h with h | h
        · exact .inl (h ▸ List.mem_cons_self)
        · exact .inr h
theorem sort_len : ∀ (l s : List Blob), (l.foldl sortStep s).length ≤ l.length + s.length
  | [], s => by simp
  | x :: l, s => by
    have h := sort_len l (sortStep s x)
    have h2 : (sortStep s x).length ≤ s.length + 1 := by unfold sortStep; split; omega; rw [insB_len]; omega
    simp only [List.foldl_cons, List.length_cons]; omega
def refJoinF (l : List Blob) : List Blob := (l.foldl sortStep []).foldl glueStep []
theorem R_refJoin (l : List Blob) (hl : l.length ≤ 900) (hok : ∀ x ∈ l, OKB x) : R L Cs f_kerbstoneref05_Join [.c (.rslice (rowsB l))] [] = some (.w (.c (.rslice (rowsB (refJoinF l)))), []) := by
  obtain ⟨P, id, hP, hid, h2⟩ := sort_loop l (by omega) l 0 [] [gb 6, gb 6] 1 rfl (Nat.zero_le _) (Nat.zero_le _) rfl (.inl (by simp)) (by simp) (by intro x hx b hb; simp at hx; subst hx; cases hb; rfl)
  have hl2 := sort_len l []
  simp at hl2
  obtain ⟨w', h3⟩ := glue_loop (l.foldl sortStep []) (by omega) P id hP hid (fun x hx => hok x ((sort_mem l [] x hx).resolve_right (by simp))) _ 0 [] 0 rfl (Nat.zero_le _) (Nat.zero_le _) (by simp)
  rw [List.drop_zero, ← refJoinF] at h3
  generalize l.foldl sortStep [] = S at *
  generalize refJoinF l = Q at *
  simp only [blk, Int.natCast_zero, List.length_nil, rowsB_nil] at h2 h3
  have hidP : id < P.length := (List.getElem?_eq_some_iff.1 hid).1
  have hdp : ∀ (E : Env) (b : Option Blk), drop0 (P.length + 1) E (P ++ [b]) = P ++ [b] := by
    intro E b
    simp [drop0]
  have hd0 : ∀ (E : Env) (a b : Option Blk), drop0 2 E [a, b] = [a, b] := by
    intro E a b
    simp [drop0]
  rw [R_fn F_kerbstoneref05_Join rfl]
  simp [c_kerbstoneref05_Join, h2, h3, newAt, hdp, hd0, -drop0]

/-! ### The plain law -/
def leB (a b : Blob) : Prop := a.lane < b.lane ∨ (a.lane = b.lane ∧ a.lo ≤ b.lo)
theorem leB_iff (a b : Blob) : leB a b ↔ ¬ ltB b a = true := by
  unfold leB ltB; simp; omega
theorem leB_trans {a b c : Blob} (h1 : leB a b) (h2 : leB b c) : leB a c := by unfold leB at *; omega
theorem lt_le {a b : Blob} (h : ltB a b = true) : leB a b := by unfold leB; unfold ltB at h; simp at h; omega
theorem insAt_append (x : Blob) (t u : List Blob) : ∀ a, a ≤ t.length → insAt x (t ++ u) a = insAt x t a
  | 0, _ => rfl
  | a + 1, h => by
    have e : (t ++ u).getD a zeroB = t.getD a zeroB := by simp [List.getD_eq_getElem?_getD, List.getElem?_append_left (show a < t.length by omega)]
    unfold insAt
    rw [e, insAt_append x t u a (by omega)]
theorem bub_ins (x : Blob) : ∀ (n : Nat) (s r : List Blob), s.length = n → bub (s ++ x :: r) n = insB s x ++ r
  | 0, s, r, h => by
    have e : s = [] := List.length_eq_zero_iff.1 h
    subst e; simp [bub, insB, insAt]
  | n + 1, s, r, h => by
    rcases List.eq_nil_or_concat s with e | ⟨t, y, e⟩
    · subst e; simp at h
    · rw [List.concat_eq_append] at e
      subst e
      have ht : t.length = n := by simpa using h
      subst ht
      have e1 : (t ++ [y] ++ x :: r).getD (t.length + 1) zeroB = x := by simp [List.getD_eq_getElem?_getD]
      have e2 : (t ++ [y] ++ x :: r).getD t.length zeroB = y := by simp [List.getD_eq_getElem?_getD]
      have e3 : ((t ++ [y] ++ x :: r).set (t.length + 1) y).set t.length x = t ++ x :: (y :: r) := by simp
      rw [bub, e1, e2, e3]
      have e4 : insAt x (t ++ [y]) (t.length + 1) = if ltB x y = true then insAt x t t.length else t.length + 1 := by
        rw [insAt]
        have : (t ++ [y]).getD t.length zeroB = y := by simp [List.getD_eq_getElem?_getD]
        rw [this, insAt_append x t [y] t.length (Nat.le_refl _)]
      by_cases hc : cmpB x y < 0
      · have hl := (ltB_cmp x y).1 hc
        rw [if_pos hc, bub_ins x t.length t (y :: r) rfl]
        have hle := insAt_le x t t.length
        simp only [insB, List.length_append, List.length_cons, List.length_nil, Nat.zero_add]
        rw [e4, if_pos hl, List.take_append_of_le_length hle, List.drop_append_of_le_length hle]
        simp
      · have hl : ¬ ltB x y = true := fun h => hc ((ltB_cmp x y).2 h)
        rw [if_neg hc]
        simp only [insB, List.length_append, List.length_cons, List.length_nil, Nat.zero_add]
        rw [e4, if_neg hl, List.take_of_length_le (by simp), List.drop_of_length_le (by simp)]
        simp
theorem insS_ins : ∀ (r s : List Blob), insS (s ++ r) s.length r.length = r.foldl insB s
  | [], s => by simp [insS]
  | x :: r, s => by
    rw [List.length_cons, insS, bub_ins x s.length s r rfl, List.foldl_cons]
    have h := insS_ins r (insB s x)
    rw [insB_len] at h
    exact h
theorem sortF_ins (l : List Blob) : sortF l = l.foldl insB [] := by
  cases l with
  | nil => rfl
  | cons x r =>
    have h := insS_ins r [x]
    simp only [List.length_cons, List.length_nil, List.singleton_append] at h
    simp only [sortF, List.length_cons, Nat.add_sub_cancel, List.foldl_cons]
    have e : insB [] x = [x] := by simp [insB, insAt]
    rw [e]; exact h
theorem sort_filter : ∀ (l s : List Blob), l.foldl sortStep s = (l.filter fun b => !bad b).foldl insB s
  | [], s => rfl
  | x :: l, s => by
    rw [List.foldl_cons, sort_filter l, List.filter_cons]
    cases h : bad x with
    | true => simp [sortStep, h]
    | false => simp [sortStep, h]
theorem insAt_above (x : Blob) (s : List Blob) : ∀ a, a ≤ s.length → ∀ i, insAt x s a ≤ i → i < a → ltB x (s.getD i zeroB) = true
  | 0, _, i, _, h => by omega
  | a + 1, ha, i, h1, h2 => by
    unfold insAt at h1
    split at h1
    · rename_i h
      rcases Nat.lt_or_ge i a with h3 | h3
      · exact insAt_above x s a (by omega) i h1 h3
      · have : i = a := by omega
        subst this; exact h
    · omega
theorem insAt_below (x : Blob) (s : List Blob) : ∀ a, 0 < insAt x s a → ltB x (s.getD (insAt x s a - 1) zeroB) = false
  | 0, h => by simp [insAt] at h
  | a + 1, h => by
    unfold insAt at h ⊢
    split at h
    · rename_i h1
      rw [if_pos h1]; exact insAt_below x s a h
    · rename_i h1
      rw [if_neg h1]; simpa using h1
theorem insB_sorted (s : List Blob) (x : Blob) (h : s.Pairwise leB) : (insB s x).Pairwise leB := by
  unfold insB
  have hab := insAt_above x s s.length (Nat.le_refl _)
  have hbe := insAt_below x s s.length
  have hle := insAt_le x s s.length
  generalize insAt x s s.length = a at *
  have hs := List.pairwise_iff_getElem.1 h
  have hx1 : ∀ y ∈ s.take a, leB y x := by
    intro y hy
    obtain ⟨i, hi, rfl⟩ := List.getElem_of_mem hy
    simp at hi
    have hb := hbe (by omega)
    have hsa : a - 1 < s.length := by omega
    have e : s.getD (a - 1) zeroB = s[a - 1] := by simp [hsa]
    rw [e] at hb
    have h1 : leB s[a - 1] x := (leB_iff _ _).2 (by simp [hb])
    simp only [List.getElem_take]
    rcases Nat.lt_or_ge i (a - 1) with h2 | h2
    · exact leB_trans (hs i (a - 1) (by omega) hsa h2) h1
    · have : i = a - 1 := by omega
      subst this; exact h1
  have hx2 : ∀ y ∈ s.drop a, leB x y := by
    intro y hy
    obtain ⟨i, hi, rfl⟩ := List.getElem_of_mem hy
    simp at hi
    simp only [List.getElem_drop]
    have hai : a + i < s.length := by omega
    have := hab (a + i) (by omega) (by omega)
    have e : s.getD (a + i) zeroB = s[a + i] := by simp [hai]
    rw [e] at this
    exact lt_le this
  have hsp : (s.take a ++ s.drop a).Pairwise leB := by rw [List.take_append_drop]; exact h
  rw [List.pairwise_append] at hsp ⊢
  refine ⟨hsp.1, List.pairwise_cons.2 ⟨hx2, hsp.2.1⟩, fun y hy z hz => ?_⟩
  rcases List.mem_cons.1 hz with rfl | hz
  · exact hx1 y hy
  · exact hsp.2.2 y hy z hz
theorem sorted_fold : ∀ (l s : List Blob), s.Pairwise leB → (l.foldl insB s).Pairwise leB
  | [], s, h => h
  | x :: l, s, h => sorted_fold l _ (insB_sorted s x h)
theorem meets_far (a b : Blob) : meets a b = !far a b := by
  unfold meets far
  by_cases h : a.lane = b.lane
  · by_cases h1 : b.lo ≤ a.hi
    · have h2 : ¬ a.hi < b.lo := by omega
      simp [h, h1, h2]
    · by_cases h2 : b.lo - 1 = a.hi
      · have h3 : ¬ a.hi < b.lo - 1 := by omega
        have h4 : a.hi < b.lo := by omega
        simp [h, h1, h2, h3, h4]
      · have h3 : a.hi < b.lo - 1 := by omega
        have h4 : a.hi < b.lo := by omega
        simp [h, h1, h2, h3, h4]
  · simp [h]
theorem fold_eq : ∀ (l out : List Blob), l.Pairwise leB → (0 < out.length → ∀ b ∈ l, leB (out.getD (out.length - 1) zeroB) b) → l.foldl joinStep out = l.foldl glueStep out
  | [], out, _, _ => rfl
  | b :: l, out, h, ho => by
    rw [List.pairwise_cons] at h
    have hst : joinStep out b = glueStep out b := by
      unfold joinStep glueStep
      rw [meets_far]
      by_cases hc : 0 < out.length ∧ far (out.getD (out.length - 1) zeroB) b = false
      · have hle := ho hc.1 b List.mem_cons_self
        rw [if_pos ⟨hc.1, by rw [hc.2]; rfl⟩, if_pos hc]
        congr 1
        generalize out.getD (out.length - 1) zeroB = a at *
        have hm := meets_far a b
        rw [hc.2] at hm
        have hlane : a.lane = b.lane := by unfold meets at hm; simp at hm; exact hm.1
        have hlo : a.lo ≤ b.lo := by unfold leB at hle; omega
        unfold hullB glue
        rw [hlane, show min a.lo b.lo = a.lo by omega]
      · rw [if_neg (by simpa using hc), if_neg hc]
    rw [List.foldl_cons, List.foldl_cons, hst]
    refine fold_eq l _ h.2 fun hp c hcm => ?_
    have hbc := h.1 c hcm
    unfold glueStep
    split
    · rename_i hcc
      simp only [List.length_set]
      have hl : out.length - 1 < out.length := by omega
      have e : (out.set (out.length - 1) (glue (out.getD (out.length - 1) zeroB) b)).getD (out.length - 1) zeroB = glue (out.getD (out.length - 1) zeroB) b := by simp [List.getD_eq_getElem?_getD, List.getElem?_set_self hl]
      rw [e]
      have h1 := ho hcc.1 b List.mem_cons_self
      generalize out.getD (out.length - 1) zeroB = a at *
      have : leB (glue a b) b := by unfold leB glue; unfold leB at h1; simp; have := meets_far a b; rw [hcc.2] at this; unfold meets at this; simp at this; omega
      exact leB_trans this hbc
    · have e : (out ++ [b]).getD ((out ++ [b]).length - 1) zeroB = b := by simp [List.getD_eq_getElem?_getD]
      rw [e]; exact hbc
theorem joins_eq (l : List Blob) : joinF l = refJoinF l := by
  unfold joinF refJoinF
  rw [sortF_ins, sort_filter]
  exact fold_eq _ [] (sorted_fold _ [] List.Pairwise.nil) (by simp)
end Go.TrRun

/- TrackJoins answers true. -/
set_option linter.unusedVariables false
set_option linter.unusedSimpArgs false
set_option maxRecDepth 10000
namespace Go.TrRun
open Go Go.Eng

theorem sameblobs_loop (l : List Blob) (hl : l.length ≤ 100000) : Y L Cs c_kerbstonekit_SameBlobs_l1 (some [0, 1, 5]) 0 [(0, .w (.c (.rslice (rowsB l)))), (1, .w (.c (.rslice (rowsB l)))), (5, .w (W (0 : Nat)))] [] =
    some (.exit 0, [(15, .w (Bo false)), (1, .w (.c (.rslice (rowsB l)))), (0, .w (.c (.rslice (rowsB l)))), (5, .w (W l.length))], []) := by
  have h := Y_any (L := L) (Cs := Cs) (b := c_kerbstonekit_SameBlobs_l1) (live := some [0, 1, 5]) (n0 := 0) l (fun i => [(0, .w (.c (.rslice (rowsB l)))), (1, .w (.c (.rslice (rowsB l)))), (5, .w (W i))]) [] (fun _ => false) (.ret, [], []) (.exit 0, [(15, .w (Bo false)), (1, .w (.c (.rslice (rowsB l)))), (0, .w (.c (.rslice (rowsB l)))), (5, .w (W l.length))], []) ?_ ?_ ?_
  · simpa using h
  · intro i h _
    have hw := wrap_succ (i := i) (by omega)
    rw [Y_step c_kerbstonekit_SameBlobs_l1.eq_1]
    simp [h, hw, eqCells_blob]
  · intro i h hp; cases hp
  · rw [Y_step c_kerbstonekit_SameBlobs_l1.eq_1]
    simp
theorem R_SameBlobs_self (l : List Blob) (hl : l.length ≤ 100000) : R L Cs f_kerbstonekit_SameBlobs [.c (.rslice (rowsB l)), .c (.rslice (rowsB l))] [] = some (.w (Bo true), []) := by
  have h := sameblobs_loop l hl
  simp only [Int.natCast_zero] at h
  rw [R_fn F_kerbstonekit_SameBlobs rfl]
  simp [c_kerbstonekit_SameBlobs, h]
theorem R_trackJoin (l : List Blob) (hl : l.length ≤ 19) (hok : ∀ x ∈ l, OKB x) : R L Cs f_track_Join [.c (.rslice (rowsB l))] [] = some (.w (.c (.rslice (rowsB (refJoinF l)))), []) := by
  have h := R_motionJoin l hl hok
  rw [joins_eq] at h
  rw [R_fn F_track_Join rfl]
  simp [c_track_Join, h]
theorem glue_len : ∀ (l out : List Blob), (l.foldl glueStep out).length ≤ l.length + out.length
  | [], out => by simp
  | b :: l, out => by
    have := glue_len l (glueStep out b)
    have := glueStep_len out b
    simp only [List.foldl_cons, List.length_cons]; omega
theorem refJoinF_len (l : List Blob) : (refJoinF l).length ≤ l.length := by
  have h1 := glue_len (l.foldl sortStep []) []
  have h2 := sort_len l []
  simp at h1 h2
  unfold refJoinF; omega
end Go.TrRun

/- Plain data of the statements about tracks, as arguments have it. -/
set_option linter.unusedVariables false
set_option linter.unusedSimpArgs false
namespace Go.TrRun
open Go Go.Eng

abbrev i64S : Sh := .int .i64
abbrev blobS : Sh := .st [i64S, i64S, i64S, i64S, i64S, i64S]
abbrev knowS : Sh := .st [i64S, .slice blobS, .st [i64S, i64S, i64S, i64S]]
abbrev markS : Sh := .st [i64S, i64S, i64S]
def In64 (n : Int) : Prop := -9223372036854775808 ≤ n ∧ n ≤ 9223372036854775807
structure RB (b : Blob) : Prop where
  lane : In64 b.lane
  lo : In64 b.lo
  hi : In64 b.hi
  vlo : In64 b.vlo
  vhi : In64 b.vhi
  hold : In64 b.hold
theorem RB.ok {b : Blob} (h : RB b) : OKB b := ⟨h.lo.1, h.lo.2, h.hi.1, h.hi.2⟩
theorem blob_of {r : List Cl} (h : HasSh blobS r) : ∃ b, r = blobC b ∧ RB b := by
  simp only [HasSh, HasShs] at h
  obtain ⟨_, _, rfl, ⟨a1, rfl, q1⟩, _, _, rfl, ⟨a2, rfl, q2⟩, _, _, rfl, ⟨a3, rfl, q3⟩, _, _, rfl, ⟨a4, rfl, q4⟩, _, _, rfl, ⟨a5, rfl, q5⟩, _, _, rfl, ⟨a6, rfl, q6⟩, rfl⟩ := h
  exact ⟨⟨a1, a2, a3, a4, a5, a6⟩, rfl, ⟨q1, q2, q3, q4, q5, q6⟩⟩
theorem blobs_of : ∀ {rows : List (List Cl)}, (∀ r ∈ rows, HasSh blobS r) → ∃ l, rows = rowsB l ∧ ∀ b ∈ l, RB b
  | [], _ => ⟨[], rfl, by simp⟩
  | r :: rows, h => by
    obtain ⟨b, rfl, hb⟩ := blob_of (h r (List.mem_cons_self ..))
    obtain ⟨l, rfl, hl⟩ := blobs_of fun x hx => h x (List.mem_cons_of_mem _ hx)
    refine ⟨b :: l, rfl, fun x hx => ?_⟩
    rcases List.mem_cons.1 hx with rfl | hx
    · exact hb
    · exact hl x hx
structure RK (k : Know) : Prop where
  tick : In64 k.tick
  blobs : ∀ b ∈ k.blobs, RB b
  slo : In64 k.ego.slo
  shi : In64 k.ego.shi
  vlo : In64 k.ego.vlo
  vhi : In64 k.ego.vhi
theorem know_of {cs : List Cl} (h : HasSh knowS cs) : ∃ k, cs = knowC k ∧ RK k := by
  simp only [HasSh, HasShs] at h
  obtain ⟨_, _, rfl, ⟨t, rfl, qt⟩, _, _, rfl, ⟨rows, rfl, _, hrows⟩, _, _, rfl, ⟨_, _, rfl, ⟨a1, rfl, q1⟩, _, _, rfl, ⟨a2, rfl, q2⟩, _, _, rfl, ⟨a3, rfl, q3⟩, _, _, rfl, ⟨a4, rfl, q4⟩, rfl⟩, rfl⟩ := h
  obtain ⟨l, rfl, hl⟩ := blobs_of (rows := rows) (fun r hr => by
    have := hrows r hr
    simp only [HasSh, HasShs]
    exact this)
  exact ⟨⟨t, l, a1, a2, a3, a4⟩, rfl, ⟨qt, hl, q1, q2, q3, q4⟩⟩
theorem mark_of {cs : List Cl} (h : HasSh markS cs) : ∃ a b c, cs = [I a, I b, I c] ∧ In64 a ∧ In64 b ∧ In64 c := by
  simp only [HasSh, HasShs] at h
  obtain ⟨_, _, rfl, ⟨a1, rfl, q1⟩, _, _, rfl, ⟨a2, rfl, q2⟩, _, _, rfl, ⟨a3, rfl, q3⟩, rfl⟩ := h
  exact ⟨a1, a2, a3, rfl, q1, q2, q3⟩
end Go.TrRun

