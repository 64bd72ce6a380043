/- This text proves what functions of this seat's program answer, run by the evaluator; no condition. -/
import Derived.Test.YtammkplkmigccaaGreatTb1
set_option linter.unusedVariables false
set_option linter.unusedSimpArgs false
set_option linter.unusedSectionVars false
set_option maxRecDepth 10000
namespace Go.TrRun
open Go Go.Eng
theorem drop_cons {α : Type} {l r : List α} {i : Nat} {x : α} (h : l.drop i = x :: r) : ∃ hi : i < l.length, l[i] = x ∧ l.drop (i + 1) = r := by
  have hi : i < l.length := by
    have := congrArg List.length h
    simp at this
    omega
  rw [List.drop_eq_getElem_cons hi] at h
  exact ⟨hi, (List.cons.inj h).1, (List.cons.inj h).2⟩
theorem drop_nil {α : Type} {l : List α} {i : Nat} (h : l.drop i = []) (hi : i ≤ l.length) : i = l.length := by
  have := congrArg List.length h
  simp at this
  omega
theorem wrap_succ {i : Nat} (h : i < 1000000) : IntKind.i64.wrap ((i : Int) + 1) = ((i + 1 : Nat) : Int) := by
  rw [i64_id _ (by omega) (by omega)]; simp
def rowsI (l : List Int) : List (List Cl) := l.map fun x => [I x]
@[simp] theorem rowsI_len (l : List Int) : (rowsI l).length = l.length := by simp [rowsI]
@[simp] theorem rowsI_append (l m : List Int) : rowsI (l ++ m) = rowsI l ++ rowsI m := by simp [rowsI]
@[simp] theorem rowsI_nil : rowsI [] = [] := rfl
@[simp] theorem rowsI_cons (x : Int) (l : List Int) : rowsI (x :: l) = [I x] :: rowsI l := rfl
@[simp] theorem rowsI_take (l : List Int) : (rowsI l).take l.length = rowsI l := List.take_of_length_le (by simp)
@[simp] theorem rowsI_getElem {l : List Int} {i : Nat} (h : i < (rowsI l).length) : (rowsI l)[i] = [I (l[i]'(by simpa using h))] := by simp [rowsI]
@[simp] theorem rowsI_ones (t : List Int) : (∀ x, x ∈ rowsI t → x.length = 1) ↔ True := by simp [rowsI]
structure Blob where
  lane : Int
  lo : Int
  hi : Int
  vlo : Int
  vhi : Int
  hold : Int
  deriving DecidableEq
structure Ego where
  slo : Int
  shi : Int
  vlo : Int
  vhi : Int
  deriving DecidableEq
structure Know where
  tick : Int
  blobs : List Blob
  ego : Ego
def blobC (b : Blob) : List Cl := [I b.lane, I b.lo, I b.hi, I b.vlo, I b.vhi, I b.hold]
def rowsB (l : List Blob) : List (List Cl) := l.map blobC
@[simp] theorem rowsB_len (l : List Blob) : (rowsB l).length = l.length := by simp [rowsB]
@[simp] theorem rowsB_append (l m : List Blob) : rowsB (l ++ m) = rowsB l ++ rowsB m := by simp [rowsB]
@[simp] theorem rowsB_nil : rowsB [] = [] := rfl
@[simp] theorem rowsB_cons (x : Blob) (l : List Blob) : rowsB (x :: l) = blobC x :: rowsB l := rfl
@[simp] theorem rowsB_take (l : List Blob) : (rowsB l).take l.length = rowsB l := List.take_of_length_le (by simp)
@[simp] theorem rowsB_getElem {l : List Blob} {i : Nat} (h : i < (rowsB l).length) : (rowsB l)[i] = blobC (l[i]'(by simpa using h)) := by simp [rowsB]
@[simp] theorem blobC_len (b : Blob) : (blobC b).length = 6 := rfl
@[simp] theorem blobC_take (b : Blob) : (blobC b).take 6 = blobC b := rfl
@[simp] theorem rowsB_six (t : List Blob) : (∀ x, x ∈ rowsB t → x.length = 6) ↔ True := by simp [rowsB]
theorem clone_blobs (l : List Blob) (hl : l.length ≤ 100000) : R L Cs f_slices_Clone_Blob [.c (.rslice (rowsB l))] [] = some (.w (.c (sl 0 6 (rowsB l))), [some (own 6 (rowsB l))]) := by
  have hr : l.length * 48 ≤ 140737488355328 := by omega
  rw [R_oracle rfl]
  simp [clones, Cs, cloneX, hr]
end Go.TrRun
set_option maxRecDepth 10000
namespace Go.TrRun
open Go Go.Eng
def cmpI (a b : Int) : Int := if a < b then -1 else if b < a then 1 else 0
theorem R_isNaN_int (a : Int) : R L Cs f_cmp_isNaN_int [W a] [] = some (.w (Bo false), []) := by
  rw [R_fn F_cmp_isNaN_int rfl]
  simp [c_cmp_isNaN_int]
theorem R_isNaN_int64 (a : Int) : R L Cs f_cmp_isNaN_int64 [W a] [] = some (.w (Bo false), []) := by
  rw [R_fn F_cmp_isNaN_int64 rfl]
  simp [c_cmp_isNaN_int64]
theorem R_Compare_int (a b : Int) : R L Cs f_cmp_Compare_int [W a, W b] [] = some (.w (W (cmpI a b)), []) := by
  rw [R_fn F_cmp_Compare_int rfl]
  have h1 := R_isNaN_int a
  have h2 := R_isNaN_int b
  by_cases h : a < b
  · simp [c_cmp_Compare_int, h1, h2, h, cmpI]
  · by_cases h' : b < a
    · simp [c_cmp_Compare_int, h1, h2, h, h', cmpI]
    · simp [c_cmp_Compare_int, h1, h2, h, h', cmpI]
theorem R_Compare_int64 (a b : Int) : R L Cs f_cmp_Compare_int64 [W a, W b] [] = some (.w (W (cmpI a b)), []) := by
  rw [R_fn F_cmp_Compare_int64 rfl]
  have h1 := R_isNaN_int64 a
  have h2 := R_isNaN_int64 b
  by_cases h : a < b
  · simp [c_cmp_Compare_int64, h1, h2, h, cmpI]
  · by_cases h' : b < a
    · simp [c_cmp_Compare_int64, h1, h2, h, h', cmpI]
    · simp [c_cmp_Compare_int64, h1, h2, h, h', cmpI]
theorem or_loop (l : List Int) (hl : l.length ≤ 1000) : Y L Cs c_cmp_Or_int_l1 (some [7, 6, 3, 8]) 0 [(7, .w (W l.length)), (6, .w (.c (.rslice (rowsI l)))), (3, .w (W 0)), (8, .w (W (0 : Nat)))] [] =
    some (match l.findIdx? (fun x => x != 0) with | some i => (.ret, [(2, .w (W ((l[i]?).getD 0)))], []) | none => (.exit 0, [(9, .w (Bo false)), (3, .w (W 0)), (6, .w (.c (.rslice (rowsI l)))), (7, .w (W l.length)), (8, .w (W l.length))], [])) := by
  refine Y_find l (fun i => [(7, .w (W l.length)), (6, .w (.c (.rslice (rowsI l)))), (3, .w (W 0)), (8, .w (W i))]) _ _ _ _ ?_ ?_ ?_
  · intro i h hp
    have hw := wrap_succ (i := i) (by omega)
    simp at hp
    rw [Y_step c_cmp_Or_int_l1.eq_1]
    simp [h, hw, hp]
  · intro i h hp
    rw [Y_step c_cmp_Or_int_l1.eq_1]
    simp [h, hp]
  · rw [Y_step c_cmp_Or_int_l1.eq_1]
    simp
theorem R_Or_int (x y : Int) : R L Cs f_cmp_Or_int [.c (.rslice (rowsI [x, y]))] [] = some (.w (W (if x ≠ 0 then x else y)), []) := by
  have h := or_loop [x, y] (by simp)
  simp only [Int.natCast_zero, rowsI_cons, rowsI_nil, List.length_cons, List.length_nil] at h
  rw [R_fn F_cmp_Or_int rfl]
  by_cases hx : x = 0
  · by_cases hy : y = 0
    · simp [hx, hy, List.findIdx?_cons] at h
      simp [c_cmp_Or_int, h, hx, hy]
    · have hb : (y != 0) = true := by simp [hy]
      simp [hx, hy, hb, List.findIdx?_cons] at h
      simp [c_cmp_Or_int, h, hx, hy]
  · have hb : (x != 0) = true := by simp [hx]
    simp [hx, hb, List.findIdx?_cons] at h
    simp [c_cmp_Or_int, h, hx]
def cmpB (a b : Blob) : Int := if cmpI a.lane b.lane ≠ 0 then cmpI a.lane b.lane else cmpI a.lo b.lo
theorem R_Join_1 (b : Blob) : R L Cs f_motion_Join_1 [.a (blobC b)] [] = some (.w (Bo (decide (b.hi < b.lo))), []) := by
  rw [R_fn F_motion_Join_1 rfl]
  simp [c_motion_Join_1, blobC]
theorem R_Join_2 (a b : Blob) : R L Cs f_motion_Join_2 [.a (blobC a), .a (blobC b)] [] = some (.w (W (cmpB a b)), []) := by
  have h := R_Or_int (cmpI a.lane b.lane) (cmpI a.lo b.lo)
  have h1 := R_Compare_int a.lane b.lane
  have h2 := R_Compare_int64 a.lo b.lo
  simp only [rowsI_cons, rowsI_nil] at h
  rw [R_fn F_motion_Join_2 rfl]
  simp [c_motion_Join_2, blobC, h1, h2, h, cmpB, markOne]
end Go.TrRun
set_option maxRecDepth 10000
namespace Go.TrRun
open Go Go.Eng
structure Lane where
  kind : Int
  pts : List (Int × Int)
  half : Int
  limit : Int
  next : List Int
  len : Int
structure Work where
  lane : Int
  lo : Int
  hi : Int
  begins : Int
  ends : Int
  limit : Int
structure GMap where
  version : Int
  lanes : List Lane
  zones : List (List Cl)
  signals : List (List Cl)
  works : List Work
def laneC (l : Lane) : List Cl := [I l.kind, .rslice (l.pts.map fun p => [I p.1, I p.2]), I l.half, I l.limit, .rslice (rowsI l.next)]
def workC (w : Work) : List Cl := [I w.lane, I w.lo, I w.hi, I w.begins, I w.ends, I w.limit]
def mapC (m : GMap) : List Cl := [I m.version, .rslice (m.lanes.map laneC), .rslice m.zones, .rslice m.signals, .rslice (m.works.map workC)]
end Go.TrRun
set_option maxRecDepth 10000
namespace Go.TrRun
open Go Go.Eng
structure Small (m : GMap) : Prop where
  lanes : m.lanes.length ≤ 14
  next : ∀ l ∈ m.lanes, l.next.length ≤ 10
  valid : ∀ l ∈ m.lanes, ∀ x ∈ l.next, 0 ≤ x ∧ x < m.lanes.length
end Go.TrRun
set_option maxRecDepth 10000
namespace Go.TrRun
open Go Go.Eng
def ptsC (l : Lane) : Cl := .rslice (l.pts.map fun p => [I p.1, I p.2])
structure Good (m : GMap) : Prop where
  small : Small m
  chk : R L Cs f_roads_Check [.a (mapC m)] [] = some (.w (W 0), [])
  rchk : R L Cs f_kerbstoneref03_Check [.a (mapC m)] [] = some (.w (W 0), [])
  len : ∀ l ∈ m.lanes, R L Cs f_curve_Length [.a [ptsC l]] [] = some (.w (W l.len), [])
  rlen : ∀ l ∈ m.lanes, R L Cs f_kerbstoneref01_Length [.a [ptsC l]] [] = some (.w (W l.len), [])
  len1 : ∀ l ∈ m.lanes, 1000 ≤ l.len ∧ l.len ≤ 1000000
  kind : ∀ l ∈ m.lanes, l.kind = 1 ∨ l.kind = 2 ∨ l.kind = 3
  limit : ∀ l ∈ m.lanes, 1 ≤ l.limit ∧ l.limit ≤ 2000
def lenF (m : GMap) (i : Int) : Int := if 0 ≤ i then ((m.lanes[i.toNat]?).map Lane.len).getD 0 else 0
theorem R_long {m : GMap} (h : Good m) {i : Nat} (hi : i < m.lanes.length) : R L Cs f_roads_long [.a (mapC m), W i] [] = some (.w (W m.lanes[i].len), []) := by
  have hc := h.len _ (List.getElem_mem hi)
  simp only [ptsC] at hc
  rw [R_fn F_roads_long rfl]
  simp [c_roads_long, mapC, hi, laneC, hc]
theorem R_rlength {m : GMap} (h : Good m) {i : Nat} (hi : i < m.lanes.length) : R L Cs f_kerbstoneref03_length [.a (mapC m), W i] [] = some (.w (W m.lanes[i].len), []) := by
  have hc := h.rlen _ (List.getElem_mem hi)
  simp only [ptsC] at hc
  rw [R_fn F_kerbstoneref03_length rfl]
  simp [c_kerbstoneref03_length, mapC, hi, laneC, hc]
theorem R_Long {m : GMap} (h : Good m) {i : Nat} (hi : i < m.lanes.length) : R L Cs f_kerbstoneref03_Long [.a (mapC m), W i] [] = some (.w (W m.lanes[i].len), []) := by
  have hc := R_rlength h hi
  simp only [mapC] at hc
  rw [R_fn F_kerbstoneref03_Long rfl]
  simp [c_kerbstoneref03_Long, mapC, hc]
theorem R_Length {m : GMap} (h : Good m) {i : Nat} (hi : i < m.lanes.length) : R L Cs f_roads_Length [.a (mapC m), W i] [] = some (.w (W m.lanes[i].len), []) := by
  have hl := R_long h hi
  have hk := h.chk
  simp only [mapC] at hl hk
  have his : R L Cs f_roads_is [.a (mapC m), W i] [] = some (.w (Bo true), []) := by
    rw [R_fn F_roads_is rfl]
    simp [c_roads_is, mapC, hi, hk]
  simp only [mapC] at his
  rw [R_fn F_roads_Length rfl]
  simp [c_roads_Length, mapC, his, hl]
def topV (k : Int) : Int := if k = 1 then 2000 else if k = 2 then 1000 else 300
def topA (k : Int) : Int := if k = 1 then 30 else if k = 2 then 20 else 100
def topB (k : Int) : Int := if k = 1 then 90 else if k = 2 then 60 else 300
theorem Bounds_run : runE L Cs 400 f_roads_Bounds [W 1] [] = some (.t [W 2000, W 30, W 90], []) ∧ runE L Cs 400 f_roads_Bounds [W 2] [] = some (.t [W 1000, W 20, W 60], []) ∧ runE L Cs 400 f_roads_Bounds [W 3] [] = some (.t [W 300, W 100, W 300], []) := ⟨by kernel_rfl, by kernel_rfl, by kernel_rfl⟩
theorem refBounds_run : runE L Cs 400 f_kerbstoneref03_Bounds [W 1] [] = some (.t [W 2000, W 30, W 90], []) ∧ runE L Cs 400 f_kerbstoneref03_Bounds [W 2] [] = some (.t [W 1000, W 20, W 60], []) ∧ runE L Cs 400 f_kerbstoneref03_Bounds [W 3] [] = some (.t [W 300, W 100, W 300], []) := ⟨by kernel_rfl, by kernel_rfl, by kernel_rfl⟩
theorem R_Bounds {k : Int} (h : k = 1 ∨ k = 2 ∨ k = 3) : R L Cs f_roads_Bounds [W k] [] = some (.t [W (topV k), W (topA k), W (topB k)], []) := by
  rcases h with rfl | rfl | rfl
  · exact R_iff.2 ⟨400, Bounds_run.1⟩
  · exact R_iff.2 ⟨400, Bounds_run.2.1⟩
  · exact R_iff.2 ⟨400, Bounds_run.2.2⟩
theorem R_refBounds {k : Int} (h : k = 1 ∨ k = 2 ∨ k = 3) : R L Cs f_kerbstoneref03_Bounds [W k] [] = some (.t [W (topV k), W (topA k), W (topB k)], []) := by
  rcases h with rfl | rfl | rfl
  · exact R_iff.2 ⟨400, refBounds_run.1⟩
  · exact R_iff.2 ⟨400, refBounds_run.2.1⟩
  · exact R_iff.2 ⟨400, refBounds_run.2.2⟩
end Go.TrRun
set_option maxRecDepth 10000
namespace Go.TrRun
open Go Go.Eng
theorem wr {x : Int} (h1 : -9000000000000000000 ≤ x) (h2 : x ≤ 9000000000000000000) : IntKind.i64.wrap x = x := i64_id _ (by omega) (by omega)
theorem mul_bd {a b A B : Int} (h1 : -A ≤ a) (h2 : a ≤ A) (h3 : -B ≤ b) (h4 : b ≤ B) : -(A * B) ≤ a * b ∧ a * b ≤ A * B := by
  have e1 : 0 ≤ (A - a) * (B + b) := Int.mul_nonneg (by omega) (by omega)
  have e2 : 0 ≤ (A + a) * (B - b) := Int.mul_nonneg (by omega) (by omega)
  have e3 : 0 ≤ (A - a) * (B - b) := Int.mul_nonneg (by omega) (by omega)
  have e4 : 0 ≤ (A + a) * (B + b) := Int.mul_nonneg (by omega) (by omega)
  simp only [Int.sub_mul, Int.add_mul, Int.mul_sub, Int.mul_add] at e1 e2 e3 e4
  omega
structure Vw (vx vy wx wy : Int) : Prop where
  a1 : -1000000 ≤ vx ∧ vx ≤ 1000000
  a2 : -1000000 ≤ vy ∧ vy ≤ 1000000
  a3 : -20000000 ≤ wx ∧ wx ≤ 20000000
  a4 : -20000000 ≤ wy ∧ wy ≤ 20000000
theorem R_from (x0 y0 x y : Int) (h : (-16777216 ≤ x0 ∧ x0 ≤ 16777216) ∧ (-16777216 ≤ y0 ∧ y0 ≤ 16777216) ∧ (-16777216 ≤ x ∧ x ≤ 16777216) ∧ (-16777216 ≤ y ∧ y ≤ 16777216)) :
    R L Cs f_curve_from [.a [I x0, I y0], .a [I x, I y]] [] = some (.w (.a [I (x - x0), I (y - y0)]), []) := by
  have h1 := wr (x := x - x0) (by omega) (by omega)
  have h2 := wr (x := y - y0) (by omega) (by omega)
  rw [R_fn F_curve_from rfl]
  simp [c_curve_from, newAt, h1, h2]
theorem R_Minus (x0 y0 x y : Int) (h : (-16777216 ≤ x0 ∧ x0 ≤ 16777216) ∧ (-16777216 ≤ y0 ∧ y0 ≤ 16777216) ∧ (-16777216 ≤ x ∧ x ≤ 16777216) ∧ (-16777216 ≤ y ∧ y ≤ 16777216)) :
    R L Cs f_kerbstoneref01_Minus [.a [I x, I y], .a [I x0, I y0]] [] = some (.w (.a [I (x - x0), I (y - y0)]), []) := by
  have h1 := wr (x := x - x0) (by omega) (by omega)
  have h2 := wr (x := y - y0) (by omega) (by omega)
  rw [R_fn F_kerbstoneref01_Minus rfl]
  simp [c_kerbstoneref01_Minus, newAt, h1, h2]
theorem Vw.m {vx vy wx wy : Int} (h : Vw vx vy wx wy) : (-20000000000000 ≤ vx * wx ∧ vx * wx ≤ 20000000000000) ∧ (-20000000000000 ≤ vy * wy ∧ vy * wy ≤ 20000000000000) ∧ (-20000000000000 ≤ vx * wy ∧ vx * wy ≤ 20000000000000) ∧ (-20000000000000 ≤ vy * wx ∧ vy * wx ≤ 20000000000000) := by
  obtain ⟨⟨a1, a2⟩, ⟨b1, b2⟩, ⟨c1, c2⟩, ⟨d1, d2⟩⟩ := h
  have h1 := mul_bd (by omega : -1000000 ≤ vx) a2 (by omega : -20000000 ≤ wx) c2
  have h2 := mul_bd (by omega : -1000000 ≤ vy) b2 (by omega : -20000000 ≤ wy) d2
  have h3 := mul_bd (by omega : -1000000 ≤ vx) a2 (by omega : -20000000 ≤ wy) d2
  have h4 := mul_bd (by omega : -1000000 ≤ vy) b2 (by omega : -20000000 ≤ wx) c2
  omega
theorem R_dot {vx vy wx wy : Int} (h : Vw vx vy wx wy) : R L Cs f_curve_vector_dot [.a [I vx, I vy], .a [I wx, I wy]] [] = some (.w (W (vx * wx + vy * wy)), []) := by
  have hm := h.m
  have h1 := wr (x := vx * wx) (by omega) (by omega)
  have h2 := wr (x := vy * wy) (by omega) (by omega)
  have h3 := wr (x := vx * wx + vy * wy) (by omega) (by omega)
  rw [R_fn F_curve_vector_dot rfl]
  simp [c_curve_vector_dot, newAt, h1, h2, h3]
theorem R_cross {vx vy wx wy : Int} (h : Vw vx vy wx wy) : R L Cs f_curve_vector_cross [.a [I vx, I vy], .a [I wx, I wy]] [] = some (.w (W (vx * wy - vy * wx)), []) := by
  have hm := h.m
  have h1 := wr (x := vx * wy) (by omega) (by omega)
  have h2 := wr (x := vy * wx) (by omega) (by omega)
  have h3 := wr (x := vx * wy - vy * wx) (by omega) (by omega)
  rw [R_fn F_curve_vector_cross rfl]
  simp [c_curve_vector_cross, newAt, h1, h2, h3]
theorem R_Dot {vx vy wx wy : Int} (h : Vw vx vy wx wy) : R L Cs f_kerbstoneref01_Dot [.a [I wx, I wy], .a [I vx, I vy]] [] = some (.w (W (vx * wx + vy * wy)), []) := by
  have hm := h.m
  have h1 := wr (x := vx * wx) (by omega) (by omega)
  have h2 := wr (x := vy * wy) (by omega) (by omega)
  have h3 := wr (x := vx * wx + vy * wy) (by omega) (by omega)
  rw [R_fn F_kerbstoneref01_Dot rfl]
  simp [c_kerbstoneref01_Dot, newAt, Int.mul_comm wx, Int.mul_comm wy, h1, h2, h3]
theorem R_Cross {vx vy wx wy : Int} (h : Vw vx vy wx wy) : R L Cs f_kerbstoneref01_Cross [.a [I vx, I vy], .a [I wx, I wy]] [] = some (.w (W (vx * wy - vy * wx)), []) := by
  have hm := h.m
  have h1 := wr (x := vx * wy) (by omega) (by omega)
  have h2 := wr (x := vy * wx) (by omega) (by omega)
  have h3 := wr (x := vx * wy - vy * wx) (by omega) (by omega)
  rw [R_fn F_kerbstoneref01_Cross rfl]
  simp [c_kerbstoneref01_Cross, newAt, h1, h2, h3]
def absZ (n : Int) : Int := if -n > n then -n else n
theorem R_abs {n : Int} (h1 : -9000000000000000000 ≤ n) (h2 : n ≤ 9000000000000000000) : R L Cs f_curve_abs [W n] [] = some (.w (W (absZ n)), []) := by
  have e := wr (x := -n) (by omega) (by omega)
  rw [R_fn F_curve_abs rfl]
  simp [c_curve_abs, e, absZ, foldMM, maxI]
def floorZ (a b : Int) : Int := if a.tmod b < 0 then a.tdiv b - 1 else a.tdiv b
theorem tdiv_bd {a b : Int} (hb : 0 < b) (h1 : -9000000000000000 ≤ a) (h2 : a ≤ 9000000000000000) : -9000000000000000 ≤ a.tdiv b ∧ a.tdiv b ≤ 9000000000000000 := by
  have h := Int.natAbs_tdiv_le_natAbs a b
  omega
theorem R_floor {a b : Int} (hb : 0 < b) (h1 : -9000000000000000 ≤ a) (h2 : a ≤ 9000000000000000) : R L Cs f_curve_floor [W a, W b] [] = some (.w (W (floorZ a b)), []) := by
  have hd := tdiv_bd hb h1 h2
  have e1 := wr (x := a.tdiv b) (by omega) (by omega)
  have e2 := wr (x := a.tdiv b - 1) (by omega) (by omega)
  have hb0 : b ≠ 0 := by omega
  rw [R_fn F_curve_floor rfl]
  by_cases c : a.tmod b < 0 <;> simp [c_curve_floor, e1, e2, hb0, c, floorZ]
theorem R_rfloor {a b : Int} (hb : 0 < b) (h1 : -9000000000000000 ≤ a) (h2 : a ≤ 9000000000000000) : R L Cs f_kerbstoneref01_floor [W a, W b] [] = some (.w (W (floorZ a b)), []) := by
  have hd := tdiv_bd hb h1 h2
  have e1 := wr (x := a.tdiv b) (by omega) (by omega)
  have e2 := wr (x := a.tdiv b - 1) (by omega) (by omega)
  have hb0 : b ≠ 0 := by omega
  rw [R_fn F_kerbstoneref01_floor rfl]
  by_cases c : a.tmod b < 0 <;> simp [c_kerbstoneref01_floor, e1, e2, hb0, c, floorZ]
def fairZ (x y : Int) : Bool := decide (-16777216 ≤ x) && decide (x ≤ 16777216) && decide (-16777216 ≤ y) && decide (y ≤ 16777216)
theorem fair_end (x y : Int) : Y L Cs c_curve_fair_l1 (some [6, 5, 7]) 0 [(6, .w (W 1)), (5, .w (.c (.rslice [[I x, I y]]))), (7, .w (W 1))] [] = some (.exit 0, [(8, .w (Bo false)), (5, .w (.c (.rslice [[I x, I y]]))), (6, .w (W 1)), (7, .w (W 1))], []) := by
  rw [Y_step c_curve_fair_l1.eq_1]
  simp
theorem R_fair (x y : Int) : R L Cs f_curve_fair [.c (.rslice [[I x, I y]])] [] = some (.w (Bo (fairZ x y)), []) := by
  have e : IntKind.i64.wrap 1 = 1 := rfl
  have h2 := fair_end x y
  have hy : ∃ E', Y L Cs c_curve_fair_l1 (some [6, 5, 7]) 0 [(6, .w (W 1)), (5, .w (.c (.rslice [[I x, I y]]))), (7, .w (W 0))] [] = some (if fairZ x y then (.exit 0, [(8, .w (Bo false)), (5, .w (.c (.rslice [[I x, I y]]))), (6, .w (W 1)), (7, .w (W 1))], []) else (.ret, [(2, .w (Bo false))], E')) := by
    refine ⟨[some { box := true, esz := 2, rows := [[I x, I y]], gen := 0, fz := false, ver := 1 }], ?_⟩
    rw [Y_step c_curve_fair_l1.eq_1]
    unfold fairZ
    rcases Int.lt_trichotomy x y with c | c | c
    · by_cases c1 : x < -16777216
      · have c2 : ¬ (-16777216 ≤ x) := by omega
        have c3 : ¬ y < x := by omega
        simp [newAt, foldMM, maxI, c, c3, c1, c2]
      · have c2 : -16777216 ≤ x := by omega
        have c3 : ¬ y < x := by omega
        by_cases c4 : 16777216 < y
        · have c5 : ¬ (y ≤ 16777216) := by omega
          simp [newAt, foldMM, maxI, c, c3, c1, c2, c4, c5]
        · have c5 : y ≤ 16777216 := by omega
          have c6 : -16777216 ≤ y := by omega
          have c7 : x ≤ 16777216 := by omega
          simp [newAt, foldMM, maxI, c, c3, c1, c2, c4, c5, c6, c7, e, h2]
    · subst c
      by_cases c1 : x < -16777216
      · have c2 : ¬ (-16777216 ≤ x) := by omega
        simp [newAt, foldMM, maxI, c1, c2]
      · have c2 : -16777216 ≤ x := by omega
        by_cases c4 : 16777216 < x
        · have c5 : ¬ (x ≤ 16777216) := by omega
          simp [newAt, foldMM, maxI, c1, c2, c4, c5]
        · have c5 : x ≤ 16777216 := by omega
          simp [newAt, foldMM, maxI, c1, c2, c4, c5, e, h2]
    · have c' : ¬ x < y := by omega
      by_cases c1 : y < -16777216
      · have c2 : ¬ (-16777216 ≤ y) := by omega
        simp [newAt, foldMM, maxI, c, c', c1, c2]
      · have c2 : -16777216 ≤ y := by omega
        by_cases c4 : 16777216 < x
        · have c5 : ¬ (x ≤ 16777216) := by omega
          simp [newAt, foldMM, maxI, c, c', c1, c2, c4, c5]
        · have c5 : x ≤ 16777216 := by omega
          have c6 : -16777216 ≤ x := by omega
          have c7 : y ≤ 16777216 := by omega
          simp [newAt, foldMM, maxI, c, c', c1, c2, c4, c5, c6, c7, e, h2]
  obtain ⟨E', hy⟩ := hy
  rw [R_fn F_curve_fair rfl]
  by_cases c : fairZ x y = true
  · rw [if_pos c] at hy
    simp [c_curve_fair, hy, c]
  · rw [if_neg c] at hy
    simp [c_curve_fair, hy, c]
theorem R_Valid (x y : Int) : R L Cs f_kerbstoneref01_Valid [.a [I x, I y]] [] = some (.w (Bo (fairZ x y)), []) := by
  rw [R_fn F_kerbstoneref01_Valid rfl]
  unfold fairZ
  by_cases c1 : -16777216 ≤ x
  · by_cases c2 : x ≤ 16777216
    · by_cases c3 : -16777216 ≤ y
      · simp [c_kerbstoneref01_Valid, newAt, c1, c2, c3]
      · simp [c_kerbstoneref01_Valid, newAt, c1, c2, c3]
    · simp [c_kerbstoneref01_Valid, newAt, c1, c2]
  · simp [c_kerbstoneref01_Valid, newAt, c1]
abbrev nsh : List (Nat × Bool × Nat) := [(4, false, 1), (5, false, 1), (7, false, 1)]
abbrev ghN (s : Int) (v : Nat) : Option Blk := some { box := true, esz := 4, rows := [[I s, Cl.ptr 1 0 0 0, Cl.ptr 2 0 0 0, Cl.ptr 3 0 0 0]], gen := 0, fz := false, ver := v }
abbrev pcb (x0 y0 vx vy len : Int) : Option Blk := some { box := true, esz := 6, rows := [[I x0, I y0, I vx, I vy, I len, I 0]], gen := 0, fz := false, ver := 1 }
theorem near_pre (x0 y0 vx vy len px py : Int) : X L Cs (rG 1 [o1 0 9 (.box 0 6 (.k (.a [(I 0),(I 0),(I 0),(I 0),(I 0),(I 0)]))),o0 1 (.store 6 (.s 9) (.s 32))] [4,5,7,9]) (zipE [31, 32] [W 0, .a [I x0, I y0, I vx, I vy, I len, I 0]] ++ [(4, .w (Pt 1)), (5, .w (Pt 2)), (7, .w (Pt 3))]) [ghN 0 0, bx 2 [I px, I py], bx 1 [I 100], bx 1 [.nilslice]] =
    some (.normal, [(4, .w (Pt 1)), (5, .w (Pt 2)), (7, .w (Pt 3)), (9, .w (Pt 4))], [ghN 0 0, bx 2 [I px, I py], bx 1 [I 100], bx 1 [.nilslice], pcb x0 y0 vx vy len]) := by
  simp [zipE, newAt, memBelow]
structure Rnd (x0 y0 vx vy len px py wx wy c d q : Int) : Prop where
  hl : IntKind.i64.wrap (100 * len) = 100 * len
  hl2 : IntKind.i64.wrap (-100 * len) = -100 * len
  hl3 : IntKind.i64.wrap (len + 100) = len + 100
  hl4 : IntKind.i64.wrap ((len + 100) * len) = (len + 100) * len
  hfrom : R L Cs f_curve_from [.a [I x0, I y0], .a [I px, I py]] [] = some (.w (.a [I wx, I wy]), [])
  hcross : R L Cs f_curve_vector_cross [.a [I vx, I vy], .a [I wx, I wy]] [] = some (.w (W c), [])
  hdot : R L Cs f_curve_vector_dot [.a [I vx, I vy], .a [I wx, I wy]] [] = some (.w (W d), [])
  habs : R L Cs f_curve_abs [W c] [] = some (.w (W (absZ c)), [])
  hfl : R L Cs f_curve_floor [W d, W len] [] = some (.w (W q), [])
def missZ (len c d : Int) : Bool := decide (100 * len < absZ c) || decide (d < -100 * len) || decide ((len + 100) * len < d)
set_option maxHeartbeats 1000000 in
theorem near_miss {x0 y0 vx vy len px py wx wy c d q : Int} (h : Rnd x0 y0 vx vy len px py wx wy c d q) (hm : missZ len c d = true) :
   ∃ E M, X L Cs c_curve_Near_r1.code [(4, .w (Pt 1)), (5, .w (Pt 2)), (7, .w (Pt 3)), (9, .w (Pt 4))] [ghN 1 1, bx 2 [I px, I py], bx 1 [I 100], bx 1 [.nilslice], pcb x0 y0 vx vy len] = some (.normal, E, [ghN 1 1, bx 2 [I px, I py], bx 1 [I 100], bx 1 [.nilslice], M, some { box := true, esz := 2, rows := [[I wx, I wy]], gen := 0, fz := false, ver := 1 }]) := by
  obtain ⟨hl, hl2, hl3, hl4, hfrom, hcross, hdot, habs, hfl⟩ := h
  have e1 : IntKind.i64.wrap (-100) = -100 := rfl
  refine ⟨[(70, .w (Bo true)), (7, .w (Pt 3)), (9, .w (Pt 4)), (11, .w (W d))], pcb x0 y0 vx vy len, ?_⟩
  unfold missZ at hm
  by_cases h1 : 100 * len < absZ c
  · simp [c_curve_Near_r1, newAt, memBelow, hfrom, hcross, hdot, habs, hl, h1]
  · by_cases h2 : d < -100 * len
    · simp [c_curve_Near_r1, newAt, memBelow, hfrom, hcross, hdot, habs, hl, hl2, e1, h1, h2]
    · have h3 : (len + 100) * len < d := by simpa [h1, h2] using hm
      simp [c_curve_Near_r1, newAt, memBelow, hfrom, hcross, hdot, habs, hl, hl2, hl3, hl4, e1, h1, h2, h3]
abbrev valZ (q len : Int) : Int := if 0 < if len < q then len else q then if len < q then len else q else 0
abbrev outB (v : Int) : Option Blk := some { box := false, esz := 1, rows := [[I v]], gen := 1, fz := false, ver := 1 }
abbrev outS (id : Nat) : Option Blk := some { box := true, esz := 1, rows := [[Cl.slice id 1 1 0 1 none]], gen := 0, fz := false, ver := 1 }
set_option maxHeartbeats 1000000 in
theorem near_hit {x0 y0 vx vy len px py wx wy c d q : Int} (h : Rnd x0 y0 vx vy len px py wx wy c d q) (hm : missZ len c d = false) (hw : IntKind.i64.wrap (valZ q len) = valZ q len) :
   X L Cs c_curve_Near_r1.code [(4, .w (Pt 1)), (5, .w (Pt 2)), (7, .w (Pt 3)), (9, .w (Pt 4))] [ghN 1 1, bx 2 [I px, I py], bx 1 [I 100], bx 1 [.nilslice], pcb x0 y0 vx vy len] =
     some (.normal, [], [ghN 1 1, bx 2 [I px, I py], bx 1 [I 100], outS 7, pcb x0 y0 vx vy len, some { box := true, esz := 2, rows := [[I wx, I wy]], gen := 0, fz := false, ver := 1 }, outB (valZ q len), outB (valZ q len)]) := by
  obtain ⟨hl, hl2, hl3, hl4, hfrom, hcross, hdot, habs, hfl⟩ := h
  have e1 : IntKind.i64.wrap (-100) = -100 := rfl
  simp only [missZ, Bool.or_eq_false_iff, decide_eq_false_iff_not] at hm
  obtain ⟨⟨h1, h2⟩, h3⟩ := hm
  simp [c_curve_Near_r1, newAt, memBelow, hfrom, hcross, hdot, habs, hl, hl2, hl3, hl4, e1, h1, h2, h3, hfl, foldMM, maxI, hw]
theorem round_miss {x0 y0 vx vy len px py wx wy c d q : Int} (h : Rnd x0 y0 vx vy len px py wx wy c d q) (hm : missZ len c d = true) :
    R L Cs f_curve_Near_r1 [.c (.yld 0 f_curve_Near_r1 nsh), W 0, .a [I x0, I y0, I vx, I vy, I len, I 0]] [ghN 0 0, bx 2 [I px, I py], bx 1 [I 100], bx 1 [.nilslice]] =
      some (.w (Bo true), [ghN 0 2, bx 2 [I px, I py], bx 1 [I 100], bx 1 [.nilslice]]) := by
  obtain ⟨E, M, hc⟩ := near_miss h hm
  exact R_rnd (cells := [.ptr 1 0 0 0, .ptr 2 0 0 0, .ptr 3 0 0 0]) (M2 := [ghN 1 1, bx 2 [I px, I py], bx 1 [I 100], bx 1 [.nilslice], pcb x0 y0 vx vy len]) (M4 := [ghN 0 2, bx 2 [I px, I py], bx 1 [I 100], bx 1 [.nilslice], M, some { box := true, esz := 2, rows := [[I wx, I wy]], gen := 0, fz := false, ver := 1 }]) F_curve_Near_r1 rfl rfl (by simp [stAt]) (by simp [capsAt]) (by rfl) (near_pre x0 y0 vx vy len px py) (by simp [setSt]) hc (by simp [setSt, stOf]) (by simp [finish, memBelow])
theorem round_hit {x0 y0 vx vy len px py wx wy c d q : Int} (h : Rnd x0 y0 vx vy len px py wx wy c d q) (hm : missZ len c d = false) (hw : IntKind.i64.wrap (valZ q len) = valZ q len) :
    R L Cs f_curve_Near_r1 [.c (.yld 0 f_curve_Near_r1 nsh), W 0, .a [I x0, I y0, I vx, I vy, I len, I 0]] [ghN 0 0, bx 2 [I px, I py], bx 1 [I 100], bx 1 [.nilslice]] =
      some (.w (Bo true), [ghN 0 2, bx 2 [I px, I py], bx 1 [I 100], outS 4, outB (valZ q len)]) := by
  have hc := near_hit h hm hw
  exact R_rnd (cells := [.ptr 1 0 0 0, .ptr 2 0 0 0, .ptr 3 0 0 0]) (M2 := [ghN 1 1, bx 2 [I px, I py], bx 1 [I 100], bx 1 [.nilslice], pcb x0 y0 vx vy len]) (M4 := [ghN 0 2, bx 2 [I px, I py], bx 1 [I 100], outS 7, pcb x0 y0 vx vy len, some { box := true, esz := 2, rows := [[I wx, I wy]], gen := 0, fz := false, ver := 1 }, outB (valZ q len), outB (valZ q len)]) F_curve_Near_r1 rfl rfl (by simp [stAt]) (by simp [capsAt]) (by rfl) (near_pre x0 y0 vx vy len px py) (by simp [setSt]) hc (by simp [setSt, stOf]) (by simp [memBelow, List.range, List.range.loop])
abbrev crv (x0 y0 x1 y1 : Int) : Cl := .rslice [[I x0, I y0], [I x1, I y1]]
set_option maxHeartbeats 1000000 in
theorem pieces_hit {x0 y0 x1 y1 vx vy len px py a v : Int} (hw : IntKind.i64.wrap len = len)
   (hfrom : R L Cs f_curve_from [.a [I x0, I y0], .a [I x1, I y1]] [] = some (.w (.a [I vx, I vy]), []))
   (hdot : R L Cs f_curve_vector_dot [.a [I vx, I vy], .a [I vx, I vy]] [] = some (.w (W a), []))
   (hroot : R L Cs f_curve_root [W a] [] = some (.t [W len, Bo true], []))
   (hround : R L Cs f_curve_Near_r1 [.c (.yld 0 f_curve_Near_r1 nsh), W 0, .a [I x0, I y0, I vx, I vy, I len, I 0]] [ghN 0 0, bx 2 [I px, I py], bx 1 [I 100], bx 1 [.nilslice]] =
      some (.w (Bo true), [ghN 0 2, bx 2 [I px, I py], bx 1 [I 100], outS 4, outB v])) :
   R L Cs f_curve_pieces_1 [.c (.yld 0 f_curve_Near_r1 nsh), .c (.ptr 4 0 0 0)] [ghN 0 0, bx 2 [I px, I py], bx 1 [I 100], bx 1 [.nilslice], bx 1 [crv x0 y0 x1 y1]] = some (.t [], [ghN 0 2, bx 2 [I px, I py], bx 1 [I 100], outS 5, bx 1 [crv x0 y0 x1 y1], outB v]) := by
  have e : IntKind.i64.wrap 1 = 1 := rfl
  rw [R_fn F_curve_pieces_1 rfl]
  simp [c_curve_pieces_1, newAt, memBelow, e]
  rw [Y_step c_curve_pieces_1_l1.eq_1]
  simp [newAt, memBelow, hfrom, hdot, hroot, hround, e, hw]
  rw [Y_step c_curve_pieces_1_l1.eq_1]
  simp [newAt, memBelow, List.range, List.range.loop]
set_option maxHeartbeats 1000000 in
theorem pieces_miss {x0 y0 x1 y1 vx vy len px py a : Int} (hw : IntKind.i64.wrap len = len)
   (hfrom : R L Cs f_curve_from [.a [I x0, I y0], .a [I x1, I y1]] [] = some (.w (.a [I vx, I vy]), []))
   (hdot : R L Cs f_curve_vector_dot [.a [I vx, I vy], .a [I vx, I vy]] [] = some (.w (W a), []))
   (hroot : R L Cs f_curve_root [W a] [] = some (.t [W len, Bo true], []))
   (hround : R L Cs f_curve_Near_r1 [.c (.yld 0 f_curve_Near_r1 nsh), W 0, .a [I x0, I y0, I vx, I vy, I len, I 0]] [ghN 0 0, bx 2 [I px, I py], bx 1 [I 100], bx 1 [.nilslice]] =
      some (.w (Bo true), [ghN 0 2, bx 2 [I px, I py], bx 1 [I 100], bx 1 [.nilslice]])) :
   R L Cs f_curve_pieces_1 [.c (.yld 0 f_curve_Near_r1 nsh), .c (.ptr 4 0 0 0)] [ghN 0 0, bx 2 [I px, I py], bx 1 [I 100], bx 1 [.nilslice], bx 1 [crv x0 y0 x1 y1]] = some (.t [], [ghN 0 2, bx 2 [I px, I py], bx 1 [I 100], bx 1 [.nilslice], bx 1 [crv x0 y0 x1 y1]]) := by
  have e : IntKind.i64.wrap 1 = 1 := rfl
  rw [R_fn F_curve_pieces_1 rfl]
  simp [c_curve_pieces_1, newAt, memBelow, e]
  rw [Y_step c_curve_pieces_1_l1.eq_1]
  simp [newAt, memBelow, hfrom, hdot, hroot, hround, e, hw]
  rw [Y_step c_curve_pieces_1_l1.eq_1]
  simp [newAt, memBelow, List.range, List.range.loop]
theorem R_pieces (c : Cl) (hc : ∃ rows, c = .rslice rows) : R L Cs f_curve_pieces [.a [c]] [] = some (.w (.c (.fn f_curve_pieces_1 [] [.ptr 0 0 0 0])), [bx 1 [c]]) := by
  obtain ⟨rows, rfl⟩ := hc
  rw [R_fn F_curve_pieces rfl]
  simp [c_curve_pieces, newAt]
end Go.TrRun
set_option maxRecDepth 10000
namespace Go.TrRun
open Go Go.Eng
set_option maxHeartbeats 2000000 in
theorem near_ok {x0 y0 x1 y1 px py : Int} {out : List Int} {M1 : Mem}
   (hk : R L Cs f_curve_Check [.a [crv x0 y0 x1 y1]] [] = some (.w (W 0), []))
   (hf : fairZ px py = true)
   (hp : (out = [] ∧ R L Cs f_curve_pieces_1 [.c (.yld 0 f_curve_Near_r1 nsh), .c (.ptr 4 0 0 0)] [ghN 0 0, bx 2 [I px, I py], bx 1 [I 100], bx 1 [.nilslice], bx 1 [crv x0 y0 x1 y1]] = some (.t [], [ghN 0 2, bx 2 [I px, I py], bx 1 [I 100], bx 1 [.nilslice], bx 1 [crv x0 y0 x1 y1]])) ∨
     ∃ v, out = [v] ∧ R L Cs f_curve_pieces_1 [.c (.yld 0 f_curve_Near_r1 nsh), .c (.ptr 4 0 0 0)] [ghN 0 0, bx 2 [I px, I py], bx 1 [I 100], bx 1 [.nilslice], bx 1 [crv x0 y0 x1 y1]] = some (.t [], [ghN 0 2, bx 2 [I px, I py], bx 1 [I 100], outS 5, bx 1 [crv x0 y0 x1 y1], outB v])) :
   R L Cs f_curve_Near [.a [crv x0 y0 x1 y1], .a [I px, I py], W 100] [] = some (.w (.c (.rslice (rowsI out))), []) := by
  have hF := R_fair px py
  rw [hf] at hF
  have hq := R_pieces (crv x0 y0 x1 y1) ⟨_, rfl⟩
  have hne : ¬ (f_curve_Near_r1 = f_curve_pieces_1) := by decide
  rw [R_fn F_curve_Near rfl]
  rcases hp with ⟨rfl, hp⟩ | ⟨v, rfl, hp⟩
  · simp [c_curve_Near, newAt, memBelow, hk, hF, hq, X_rng, capOf, ghost, hp, markOne, stAt, jumpOf, setSt, hne]
  · simp [c_curve_Near, newAt, memBelow, hk, hF, hq, X_rng, capOf, ghost, hp, markOne, stAt, jumpOf, setSt, hne]
set_option maxHeartbeats 1000000 in
theorem near_far {x0 y0 x1 y1 px py : Int} (hk : R L Cs f_curve_Check [.a [crv x0 y0 x1 y1]] [] = some (.w (W 0), []))
   (hf : fairZ px py = false) : R L Cs f_curve_Near [.a [crv x0 y0 x1 y1], .a [I px, I py], W 100] [] = some (.w (.c (.rslice [])), []) := by
  have hF := R_fair px py
  rw [hf] at hF
  rw [R_fn F_curve_Near rfl]
  simp [c_curve_Near, newAt, memBelow, hk, hF, markOne]
end Go.TrRun
set_option maxRecDepth 10000
namespace Go.TrRun
open Go Go.Eng
structure Pc (x0 y0 x1 y1 len : Int) : Prop where
  b : (-400000 ≤ x0 ∧ x0 ≤ 400000) ∧ (-400000 ≤ y0 ∧ y0 ≤ 400000) ∧ (-400000 ≤ x1 ∧ x1 ≤ 400000) ∧ (-400000 ≤ y1 ∧ y1 ≤ 400000)
  l : 1000 ≤ len ∧ len ≤ 1000000
  chk : R L Cs f_curve_Check [.a [crv x0 y0 x1 y1]] [] = some (.w (W 0), [])
  rchk : R L Cs f_kerbstoneref01_Check [.a [crv x0 y0 x1 y1]] [] = some (.w (W 0), [])
  root : R L Cs f_curve_root [W ((x1 - x0) * (x1 - x0) + (y1 - y0) * (y1 - y0))] [] = some (.t [W len, Bo true], [])
  rroot : R L Cs f_kerbstoneref01_root [W ((x1 - x0) * (x1 - x0) + (y1 - y0) * (y1 - y0))] [] = some (.w (W len), [])
def crossZ (x0 y0 x1 y1 px py : Int) : Int := (x1 - x0) * (py - y0) - (y1 - y0) * (px - x0)
def dotZ (x0 y0 x1 y1 px py : Int) : Int := (x1 - x0) * (px - x0) + (y1 - y0) * (py - y0)
def nearF (x0 y0 x1 y1 len px py : Int) : List Int :=
  if fairZ px py then (if missZ len (crossZ x0 y0 x1 y1 px py) (dotZ x0 y0 x1 y1 px py) then [] else [valZ (floorZ (dotZ x0 y0 x1 y1 px py) len) len]) else []
theorem fair_bd {x y : Int} (h : fairZ x y = true) : (-16777216 ≤ x ∧ x ≤ 16777216) ∧ (-16777216 ≤ y ∧ y ≤ 16777216) := by
  simp [fairZ] at h; omega
theorem valZ_bd {q len : Int} (h : 0 ≤ len) : 0 ≤ valZ q len ∧ valZ q len ≤ len := by
  unfold valZ; split <;> split <;> omega
theorem Pc.vw {x0 y0 x1 y1 len px py : Int} (h : Pc x0 y0 x1 y1 len) (hf : fairZ px py = true) : Vw (x1 - x0) (y1 - y0) (px - x0) (py - y0) := by
  have := h.b
  have := fair_bd hf
  exact ⟨by omega, by omega, by omega, by omega⟩
theorem Pc.nums {x0 y0 x1 y1 len px py : Int} (h : Pc x0 y0 x1 y1 len) (hf : fairZ px py = true) :
    (-40000000000000 ≤ crossZ x0 y0 x1 y1 px py ∧ crossZ x0 y0 x1 y1 px py ≤ 40000000000000) ∧ (-40000000000000 ≤ dotZ x0 y0 x1 y1 px py ∧ dotZ x0 y0 x1 y1 px py ≤ 40000000000000) := by
  have := (h.vw hf).m
  unfold crossZ dotZ
  omega
theorem Pc.rnd {x0 y0 x1 y1 len px py : Int} (h : Pc x0 y0 x1 y1 len) (hf : fairZ px py = true) :
    Rnd x0 y0 (x1 - x0) (y1 - y0) len px py (px - x0) (py - y0) (crossZ x0 y0 x1 y1 px py) (dotZ x0 y0 x1 y1 px py) (floorZ (dotZ x0 y0 x1 y1 px py) len) := by
  have hb := h.b
  have hl := h.l
  have hp := fair_bd hf
  have hn := h.nums hf
  have hm := mul_bd (a := len + 100) (b := len) (A := 2000000) (B := 1000000) (by omega) (by omega) (by omega) (by omega)
  exact ⟨wr (by omega) (by omega), wr (by omega) (by omega), wr (by omega) (by omega), wr (by omega) (by omega), R_from _ _ _ _ (by omega), R_cross (h.vw hf), R_dot (h.vw hf), R_abs (by omega) (by omega), R_floor (by omega) (by omega) (by omega)⟩
theorem R_Near {x0 y0 x1 y1 len : Int} (h : Pc x0 y0 x1 y1 len) (px py : Int) : R L Cs f_curve_Near [.a [crv x0 y0 x1 y1], .a [I px, I py], W 100] [] = some (.w (.c (.rslice (rowsI (nearF x0 y0 x1 y1 len px py)))), []) := by
  unfold nearF
  by_cases hf : fairZ px py = true
  · rw [if_pos hf]
    have hb := h.b
    have hl := h.l
    have hv : Vw (x1 - x0) (y1 - y0) (x1 - x0) (y1 - y0) := ⟨by omega, by omega, by omega, by omega⟩
    have hfrom := R_from x0 y0 x1 y1 (by omega)
    have hval := valZ_bd (q := floorZ (dotZ x0 y0 x1 y1 px py) len) (len := len) (by omega)
    refine near_ok (M1 := []) h.chk hf ?_
    by_cases hm : missZ len (crossZ x0 y0 x1 y1 px py) (dotZ x0 y0 x1 y1 px py) = true
    · rw [if_pos hm]
      exact .inl ⟨rfl, pieces_miss (wr (by omega) (by omega)) hfrom (R_dot hv) h.root (round_miss (h.rnd hf) hm)⟩
    · rw [if_neg hm]
      exact .inr ⟨_, rfl, pieces_hit (wr (by omega) (by omega)) hfrom (R_dot hv) h.root (round_hit (h.rnd hf) (by simpa using hm) (wr (by omega) (by omega)))⟩
  · rw [if_neg hf]
    exact near_far h.chk (by simpa using hf)
theorem R_rPieces {x0 y0 x1 y1 len : Int} (h : Pc x0 y0 x1 y1 len) : R L Cs f_kerbstoneref01_Pieces [.a [crv x0 y0 x1 y1]] [] = some (.w (.c (.rslice [[I len]])), []) := by
  have e : IntKind.i64.wrap 1 = 1 := rfl
  have e2 : IntKind.i64.wrap 2 = 2 := rfl
  have hb := h.b
  have hv : Vw (x1 - x0) (y1 - y0) (x1 - x0) (y1 - y0) := ⟨by omega, by omega, by omega, by omega⟩
  have h1 := R_Minus x0 y0 x1 y1 (by omega)
  have h2 := R_Dot hv
  have h3 := h.rroot
  have h4 := h.rchk
  rw [R_fn F_kerbstoneref01_Pieces rfl]
  simp [c_kerbstoneref01_Pieces, newAt, memBelow, h4]
  rw [Y_step c_kerbstoneref01_Pieces_l1.eq_1]
  simp [newAt, memBelow, e, h1, h2, h3]
  rw [Y_step c_kerbstoneref01_Pieces_l1.eq_1]
  simp [newAt, memBelow, e, e2, markOne]
theorem rnear_end {x0 y0 x1 y1 len px py st : Int} {o : Cl} {M : Mem} : Y L Cs c_kerbstoneref01_Near_l1 (some [7, 9, 10, 3, 4, 2, 8]) 4 [(7, .w (.c o)), (9, .w (W st)), (10, .w (W 1)), (3, .w (Pt 0)), (4, .w (Pt 1)), (2, .w (W 100)), (8, .w (.c (.rslice [[I len]])))] M =
    some (.exit 0, [(31, .w (Bo false)), (7, .w (.c o)), (9, .w (W st)), (10, .w (W 1)), (3, .w (Pt 0)), (4, .w (Pt 1)), (2, .w (W 100)), (8, .w (.c (.rslice [[I len]])))], M) := by
  rw [Y_step c_kerbstoneref01_Near_l1.eq_1]
  simp
set_option maxHeartbeats 2000000 in
theorem R_rNear {x0 y0 x1 y1 len : Int} (h : Pc x0 y0 x1 y1 len) (px py : Int) : R L Cs f_kerbstoneref01_Near [.a [crv x0 y0 x1 y1], .a [I px, I py], W 100] [] = some (.w (.c (.rslice (rowsI (nearF x0 y0 x1 y1 len px py)))), []) := by
  have hV := R_Valid px py
  unfold nearF
  rw [R_fn F_kerbstoneref01_Near rfl]
  by_cases hf : fairZ px py = true
  · rw [if_pos hf]
    rw [hf] at hV
    have hb := h.b
    have hl := h.l
    have hp := fair_bd hf
    have hn := h.nums hf
    have hvw := h.vw hf
    have hP := R_rPieces h
    have h1 := R_Minus x0 y0 x1 y1 (by omega)
    have h2 := R_Minus x0 y0 px py (by omega)
    have h3 := R_Dot hvw
    have h4 := R_Cross hvw
    have hm := mul_bd (a := len + 100) (b := len) (A := 2000000) (B := 1000000) (by omega) (by omega) (by omega) (by omega)
    have h5 := R_rfloor (a := dotZ x0 y0 x1 y1 px py) (b := len) (by omega) (by omega) (by omega)
    have e1 : IntKind.i64.wrap (100 * len) = 100 * len := wr (by omega) (by omega)
    have e2 : IntKind.i64.wrap (-100 * len) = -100 * len := wr (by omega) (by omega)
    have e3 : IntKind.i64.wrap (len + 100) = len + 100 := wr (by omega) (by omega)
    have e4 : IntKind.i64.wrap ((len + 100) * len) = (len + 100) * len := wr (by omega) (by omega)
    have e5 : IntKind.i64.wrap (-100) = -100 := rfl
    have e6 : IntKind.i64.wrap len = len := wr (by omega) (by omega)
    have e7 : IntKind.i64.wrap 1 = 1 := rfl
    have hval := valZ_bd (q := floorZ (dotZ x0 y0 x1 y1 px py) len) (len := len) (by omega)
    have e8 : IntKind.i64.wrap (valZ (floorZ (dotZ x0 y0 x1 y1 px py) len) len) = valZ (floorZ (dotZ x0 y0 x1 y1 px py) len) len := wr (by omega) (by omega)
    simp [c_kerbstoneref01_Near, newAt, memBelow, hV, hP]
    rw [Y_step c_kerbstoneref01_Near_l1.eq_1]
    change R L Cs f_kerbstoneref01_Dot _ _ = some (.w (W (dotZ x0 y0 x1 y1 px py)), []) at h3
    change R L Cs f_kerbstoneref01_Cross _ _ = some (.w (W (crossZ x0 y0 x1 y1 px py)), []) at h4
    generalize crossZ x0 y0 x1 y1 px py = c at *
    generalize dotZ x0 y0 x1 y1 px py = d at *
    generalize floorZ d len = q at *
    have hend := fun (st : Int) (o : Cl) (M : Mem) => @rnear_end x0 y0 x1 y1 len px py st o M
    have habs : (absZ c > 100 * len) ↔ ¬ (c ≤ 100 * len ∧ -100 * len ≤ c) := by unfold absZ; split <;> omega
    by_cases c1 : c ≤ 100 * len
    · by_cases c2 : -100 * len ≤ c
      · by_cases c3 : -100 * len ≤ d
        · by_cases c4 : d ≤ (len + 100) * len
          · have hmi : missZ len c d = false := by simp [missZ]; omega
            rw [if_neg (by simp [hmi])]
            unfold valZ at e8
            simp [newAt, memBelow, h1, h2, h3, h4, e1, e2, e3, e4, e5, e6, e7, c1, c2, c3, c4, h5, foldMM, maxI, e8, hend, markOne]
          · have hmi : missZ len c d = true := by simp [missZ]; omega
            rw [if_pos hmi]
            simp [newAt, memBelow, h1, h2, h3, h4, e1, e2, e3, e4, e5, e6, e7, c1, c2, c3, c4, h5, foldMM, maxI, hend, markOne]
        · have hmi : missZ len c d = true := by simp [missZ]; omega
          rw [if_pos hmi]
          simp [newAt, memBelow, h1, h2, h3, h4, e1, e2, e5, e6, e7, c1, c2, c3, hend, markOne]
      · have hmi : missZ len c d = true := by simp [missZ]; omega
        rw [if_pos hmi]
        simp [newAt, memBelow, h1, h2, h3, h4, e1, e2, e5, e6, e7, c1, c2, hend, markOne]
    · have hmi : missZ len c d = true := by simp [missZ]; omega
      rw [if_pos hmi]
      simp [newAt, memBelow, h1, h2, h3, h4, e1, e2, e5, e6, e7, c1, hend, markOne]
  · rw [if_neg hf]
    have hf' : fairZ px py = false := by simpa using hf
    rw [hf'] at hV
    simp [c_kerbstoneref01_Near, newAt, memBelow, hV, markOne]
end Go.TrRun
set_option maxRecDepth 10000
namespace Go.TrRun
open Go Go.Eng
theorem leave_all {M : Mem} {r r' : AV} (h : frzA M r = some r') (hb : r'.below 0 = true) : leave true 0 r M = some (r', []) := by
  unfold leave
  simp only [if_true, h]
  unfold finish
  split
  · rename_i h0
    have : markAll M r.sls = [] := List.length_eq_zero_iff.1 h0
    rw [this]
  · rw [if_pos (by rw [hb]; simp [memBelow])]; rfl
end Go.TrRun
set_option maxRecDepth 10000
namespace Go.TrRun
open Go Go.Eng
def cutB (x fr to : Int) (b : Blob) : List Blob :=
  if b.lane ≠ x ∨ fr > to ∨ fr > b.hi ∨ to < b.lo then [b] else
  (if b.lo < fr then [{ b with hi := fr - 1 }] else []) ++ (if to < b.hi then [{ b with lo := to + 1 }] else [])
def cutL (x fr to : Int) : List Blob → List Blob
  | [] => []
  | b :: r => cutB x fr to b ++ cutL x fr to r
theorem cutB_len (x fr to : Int) (b : Blob) : (cutB x fr to b).length ≤ 2 := by
  unfold cutB
  split
  · simp
  · split <;> split <;> simp
theorem cutL_len (x fr to : Int) : ∀ (r : List Blob), (cutL x fr to r).length ≤ 2 * r.length
  | [] => by simp [cutL]
  | b :: r => by
    have := cutB_len x fr to b
    have := cutL_len x fr to r
    simp only [cutL, List.length_append, List.length_cons]; omega
def Mid (n : Int) : Prop := -4000000000000000000 ≤ n ∧ n ≤ 4000000000000000000
end Go.TrRun
set_option maxRecDepth 10000
namespace Go.TrRun
open Go Go.Eng
set_option maxHeartbeats 2000000 in
theorem rcut_loop (x fr to : Int) (hfr : Mid fr) (hto : Mid to) (l : List Blob) (hl : l.length ≤ 100000) : ∀ (r : List Blob) (i : Nat) (out : List Blob), l.drop i = r → i ≤ l.length → out.length ≤ 2 * i →
    Y L Cs c_kerbstoneref05_cut_l1 (some [5, 6, 0, 3]) 3 [(5, .w (.c (sl 2 6 (rowsB out)))), (6, .w (W i)), (0, .w (.c (.rslice (rowsB l)))), (3, .w (Pt 0))] [bx 3 [I x, I fr, I to], gb 6, some (own 6 (rowsB out))] =
      some (.exit 0, [(13, .w (Bo false)), (5, .w (.c (sl 2 6 (rowsB (out ++ cutL x fr to r))))), (6, .w (W l.length)), (0, .w (.c (.rslice (rowsB l)))), (3, .w (Pt 0))], [bx 3 [I x, I fr, I to], gb 6, some (own 6 (rowsB (out ++ cutL x fr to r)))]) := by
  intro r
  induction r with
  | nil =>
    intro i out hd hi ho
    obtain rfl := drop_nil hd hi
    rw [Y_step c_kerbstoneref05_cut_l1.eq_1]
    simp [cutL]
  | cons b r ih =>
    intro i out hd hi ho
    obtain ⟨hil, hb, hd'⟩ := drop_cons hd
    have hw := wrap_succ (i := i) (by omega)
    have hcl : (out ++ cutB x fr to b).length ≤ 2 * (i + 1) := by
      have := cutB_len x fr to b
      rw [List.length_append]; omega
    obtain ⟨f1, f2⟩ := hfr
    obtain ⟨t1, t2⟩ := hto
    have hw1 : IntKind.i64.wrap (fr - 1) = fr - 1 := i64_id _ (by omega) (by omega)
    have hw2 : IntKind.i64.wrap (to + 1) = to + 1 := i64_id _ (by omega) (by omega)
    have hroom : (out.length + 1) * 48 ≤ 140737488355328 := by omega
    have hroom2 : (out.length + 2) * 48 ≤ 140737488355328 := by clear hcl hd hb hd' ih; omega
    have e1 : out ++ cutL x fr to (b :: r) = (out ++ cutB x fr to b) ++ cutL x fr to r := by simp [cutL]
    rw [e1, ← ih (i + 1) (out ++ cutB x fr to b) hd' hil hcl, Y_step c_kerbstoneref05_cut_l1.eq_1]
    clear ih e1 hcl
    clear f1 f2 t1 t2
    obtain ⟨bl, lo, hi', vlo, vhi, hold⟩ := b
    simp only [blobC, cutB] at *
    by_cases c1 : bl = x
    · subst c1
      by_cases c2 : to < fr
      · by_cases c3 : hi' < fr
        · simp [hil, hb, blobC, hw, hroom, newAt, memBelow, c2, c3]
        · by_cases c4 : to < lo
          · simp [hil, hb, blobC, hw, hroom, newAt, memBelow, c2, c3, c4]
          · simp [hil, hb, blobC, hw, hroom, newAt, memBelow, c2, c3, c4]
      · by_cases c3 : hi' < fr
        · simp [hil, hb, blobC, hw, hroom, newAt, memBelow, c2, c3]
        · by_cases c4 : to < lo
          · simp [hil, hb, blobC, hw, hroom, newAt, memBelow, c2, c3, c4]
          · by_cases c5 : lo < fr
            · have c5' : lo ≤ fr - 1 := by omega
              by_cases c6 : to < hi'
              · have htk : ∀ y : List Cl, List.take (out.length + 1) (rowsB out ++ [y]) = rowsB out ++ [y] := fun y => List.take_of_length_le (by simp)
                have c6' : to + 1 ≤ hi' := by omega
                simp [hil, hb, blobC, hw, hw1, hw2, hroom, hroom2, newAt, memBelow, c2, c3, c4, c5, c6, htk, c5', c6']
              · have c6' : ¬ (to + 1 ≤ hi') := by omega
                simp [hil, hb, blobC, hw, hw1, hw2, hroom, newAt, memBelow, c2, c3, c4, c5, c6, c5', c6']
            · have c5' : ¬ (lo ≤ fr - 1) := by omega
              by_cases c6 : to < hi'
              · have c6' : to + 1 ≤ hi' := by omega
                simp [hil, hb, blobC, hw, hw1, hw2, hroom, newAt, memBelow, c2, c3, c4, c5, c6, c5', c6']
              · have c6' : ¬ (to + 1 ≤ hi') := by omega
                simp [hil, hb, blobC, hw, hw1, hw2, hroom, newAt, memBelow, c2, c3, c4, c5, c6, c5', c6']
    · have b1 : (bl == x) = false := by simp [c1]
      have b2 : (bl != x) = true := by simp [c1]
      simp [hil, hb, blobC, hw, hroom, newAt, memBelow, c1, b1, b2]
theorem R_rcut (x fr to : Int) (hfr : Mid fr) (hto : Mid to) (l : List Blob) (hl : l.length ≤ 100000) : R L Cs f_kerbstoneref05_cut [.c (.rslice (rowsB l)), .a [I x, I fr, I to]] [] = some (.w (.c (.rslice (rowsB (cutL x fr to l)))), []) := by
  have hc := rcut_loop x fr to hfr hto l hl l 0 [] rfl (Nat.zero_le _) (Nat.zero_le _)
  simp only [Int.natCast_zero, List.nil_append, rowsB_nil, sl, own, List.length_nil, rowsB_len] at hc
  rw [R_fn F_kerbstoneref05_cut rfl]
  simp [c_kerbstoneref05_cut, hc, newAt]
end Go.TrRun
set_option maxRecDepth 10000
namespace Go.TrRun
open Go Go.Eng
theorem lenF_le {m : GMap} (h : Good m) {x : Int} (hx : 0 ≤ x ∧ x < m.lanes.length) : 1000 ≤ lenF m x ∧ lenF m x ≤ 1000000 := by
  obtain ⟨n, rfl⟩ := Int.eq_ofNat_of_zero_le hx.1
  have hn : n < m.lanes.length := by omega
  have := h.len1 _ (List.getElem_mem hn)
  simpa [lenF, hn] using this
abbrev zeroW : List Cl := [I 0, .nilslice, .nilslice, .nilslice, .nilslice, .nilslice, .nilslice, I 0]
end Go.TrRun
set_option maxRecDepth 10000
namespace Go.TrRun
open Go Go.Eng
def kindF (m : GMap) (i : Int) : Int := ((m.lanes[i.toNat]?).map Lane.kind).getD 0
def out2 (m : GMap) (b : Blob) : Prop := b.lo < 0 ∨ b.hi < b.lo ∨ lenF m b.lane < b.hi ∨ b.vlo < 0 ∨ b.vhi < b.vlo ∨ topV (kindF m b.lane) < b.vhi ∨ b.hold < 0 ∨ lenF m b.lane < b.hold
instance (m : GMap) (b : Blob) : Decidable (out2 m b) := by unfold out2; infer_instance
def ordB (p b : Blob) : Prop := b.lane < p.lane ∨ (b.lane = p.lane ∧ b.lo ≤ p.hi + 1)
instance (p b : Blob) : Decidable (ordB p b) := by unfold ordB; infer_instance
theorem R_within_track (n lo hi : Int) : R L Cs f_track_within [W n, W lo, W hi] [] = some (.w (Bo (decide (lo ≤ n) && decide (n ≤ hi))), []) := by
  rw [R_fn F_track_within rfl]
  by_cases h : lo ≤ n
  · simp [c_track_within, h]
  · simp [c_track_within, h]
section
variable {m : GMap} (h : Good m) (k : Know)
set_option maxHeartbeats 4000000 in
include h in
end
end Go.TrRun
set_option maxRecDepth 10000
namespace Go.TrRun
open Go Go.Eng
abbrev maxT : Int := 1099511627776
def outK (k : Know) : Prop := k.tick < 0 ∨ maxT < k.tick ∨ k.ego.slo < 0 ∨ k.ego.shi < k.ego.slo ∨ maxT < k.ego.shi ∨ k.ego.vlo < 0 ∨ k.ego.vhi < k.ego.vlo ∨ 2000 < k.ego.vhi
instance (k : Know) : Decidable (outK k) := by unfold outK; infer_instance
end Go.TrRun
set_option maxRecDepth 10000
namespace Go.TrRun
open Go Go.Eng
abbrev fn1 (f : Nat) : WV := .c (.fn f [] [])
abbrev bad (b : Blob) : Bool := decide (b.hi < b.lo)
abbrev blk (v : Nat) (l : List Blob) : Option Blk := some { box := false, esz := 6, rows := rowsB l, gen := l.length, fz := false, ver := v }
theorem rowsB_set (l : List Blob) (i : Nat) (b : Blob) : (rowsB l).set i (blobC b) = rowsB (l.set i b) := by simp [rowsB, List.map_set]
theorem index_loop (l : List Blob) (hl : l.length ≤ 1000) : Y L Cs c_slices_IndexFunc_Blob_l1 (some [7, 1, 0, 8]) 0 [(7, .w (W l.length)), (1, .w (fn1 f_motion_Join_1)), (0, .w (.c (.rslice (rowsB l)))), (8, .w (W (0 : Nat)))] [] =
    some (match l.findIdx? bad with | some i => (.ret, [(4, .w (W i))], []) | none => (.exit 0, [(9, .w (Bo false)), (0, .w (.c (.rslice (rowsB l)))), (1, .w (fn1 f_motion_Join_1)), (7, .w (W l.length)), (8, .w (W l.length))], [])) := by
  refine Y_find l (fun i => [(7, .w (W l.length)), (1, .w (fn1 f_motion_Join_1)), (0, .w (.c (.rslice (rowsB l)))), (8, .w (W i))]) _ _ _ _ ?_ ?_ ?_
  · intro i h hp
    have hw := wrap_succ (i := i) (by omega)
    have hc := R_Join_1 l[i]
    simp only [bad] at hp
    rw [hp] at hc
    simp only [blobC] at hc
    rw [Y_step c_slices_IndexFunc_Blob_l1.eq_1]
    simp [h, hw, hc, blobC]
  · intro i h hp
    have hc := R_Join_1 l[i]
    simp only [bad] at hp
    rw [hp] at hc
    simp only [blobC] at hc
    rw [Y_step c_slices_IndexFunc_Blob_l1.eq_1]
    simp [h, hc, blobC]
  · rw [Y_step c_slices_IndexFunc_Blob_l1.eq_1]
    simp
def idxI : Option Nat → Int
  | some i => i
  | none => -1
theorem R_IndexFunc (l : List Blob) (hl : l.length ≤ 1000) : R L Cs f_slices_IndexFunc_Blob [.c (.rslice (rowsB l)), fn1 f_motion_Join_1] [] = some (.w (W (idxI (l.findIdx? bad))), []) := by
  have h := index_loop l hl
  simp only [Int.natCast_zero] at h
  rw [R_fn F_slices_IndexFunc_Blob rfl]
  cases hf : l.findIdx? bad with
  | none =>
    simp only [hf] at h
    simp [c_slices_IndexFunc_Blob, h, idxI]
  | some i =>
    simp only [hf] at h
    simp [c_slices_IndexFunc_Blob, h, idxI]
theorem delete_loop (n : Nat) (hn : n ≤ 1000) : ∀ (r : List Blob) (l : List Blob) (i j v : Nat), l.length = n → l.drop j = r → i < j → j ≤ n → ∃ l' i' v', v ≤ v' ∧ (v' = v → l' = l) ∧ l'.length = n ∧ i' ≤ n ∧ l'.take i' = l.take i ++ r.filter (fun b => !bad b) ∧
    Y L Cs c_slices_DeleteFunc_Blob_l1 (some [5, 6, 1, 0]) 2 [(5, .w (W i)), (6, .w (W j)), (1, .w (fn1 f_motion_Join_1)), (0, .w (.c (.slice 0 n 6 0 n none)))] [blk v l, gb 6] =
      some (.exit 0, [(19, .w (Bo false)), (5, .w (W i')), (6, .w (W n)), (1, .w (fn1 f_motion_Join_1)), (0, .w (.c (.slice 0 n 6 0 n none)))], [blk v' l', gb 6]) := by
  intro r
  induction r with
  | nil =>
    intro l i j v hl hd hij hj
    obtain rfl := drop_nil hd (by omega)
    refine ⟨l, i, v, Nat.le_refl _, fun _ => rfl, hl, by omega, by simp, ?_⟩
    rw [Y_step c_slices_DeleteFunc_Blob_l1.eq_1]
    simp [hl]
  | cons x r ih =>
    intro l i j v hl hd hij hj
    obtain ⟨hjl, hx, hd'⟩ := drop_cons hd
    have hw := wrap_succ (i := j) (by omega)
    have hw2 := wrap_succ (i := i) (by omega)
    have hc := R_Join_1 x
    have hjn : j < n := by omega
    have hin : i < n := by omega
    by_cases hb : x.hi < x.lo
    · obtain ⟨l', i', v', g1, g2, h1, h2, h3, h4⟩ := ih l i (j + 1) v hl hd' (by omega) (by omega)
      refine ⟨l', i', v', g1, g2, h1, h2, by simp [h3, hb], ?_⟩
      rw [← h4, Y_step c_slices_DeleteFunc_Blob_l1.eq_1]
      simp [hb, blobC] at hc
      simp [hl, hjl, hjn, hx, hc, hw, blobC]
    · obtain ⟨l', i', v', g1, g2, h1, h2, h3, h4⟩ := ih (l.set i x) (i + 1) (j + 1) (v + 1) (by simp [hl]) (by rw [List.drop_set_of_lt (by omega)]; exact hd') (by omega) (by omega)
      have ht : (l.set i x).take (i + 1) = l.take i ++ [x] := by
        rw [List.take_succ_eq_append_getElem (by simp; omega), List.take_set_of_le (Nat.le_refl _)]
        simp
      refine ⟨l', i', v', by omega, fun hv => by omega, h1, h2, by rw [h3, ht]; simp [hb], ?_⟩
      rw [← h4, Y_step c_slices_DeleteFunc_Blob_l1.eq_1]
      simp [hb, blobC] at hc
      have hs := rowsB_set l i x
      simp only [blobC] at hs
      simp [hl, hjl, hjn, hin, hx, hc, hw, hw2, hs, blobC, blk]
abbrev zeroB : Blob := ⟨0, 0, 0, 0, 0, 0⟩
@[simp] theorem rowsB_take' (l : List Blob) (k : Nat) : (rowsB l).take k = rowsB (l.take k) := by simp [rowsB, List.map_take]
@[simp] theorem rowsB_drop (l : List Blob) (k : Nat) : (rowsB l).drop k = rowsB (l.drop k) := by simp [rowsB, List.map_drop]
@[simp] theorem rowsB_zero (k : Nat) : List.replicate k [I 0, I 0, I 0, I 0, I 0, I 0] = rowsB (List.replicate k zeroB) := by simp [rowsB, blobC]
theorem R_DeleteFunc (l : List Blob) (v : Nat) (hn : l.length ≤ 1000) : ∃ l' v', v ≤ v' ∧ (v' = v → l' = l) ∧ l'.length = l.length ∧ (l.filter (fun b => !bad b)).length ≤ l.length ∧ l'.take (l.filter (fun b => !bad b)).length = l.filter (fun b => !bad b) ∧
    R L Cs f_slices_DeleteFunc_Blob [.c (.slice 0 l.length 6 0 l.length none), fn1 f_motion_Join_1] [blk v l] = some (.w (.c (.slice 0 l.length 6 0 (l.filter (fun b => !bad b)).length none)), [blk v' l']) := by
  have hi := R_IndexFunc l hn
  rw [R_fn F_slices_DeleteFunc_Blob rfl]
  cases hf : l.findIdx? bad with
  | none =>
    have hall : ∀ b ∈ l, bad b = false := fun b hb => List.findIdx?_eq_none_iff.1 hf b hb
    have hfil : l.filter (fun b => !bad b) = l := List.filter_eq_self.2 fun b hb => by rw [hall b hb]; rfl
    refine ⟨l, v, Nat.le_refl _, fun _ => rfl, rfl, by rw [hfil]; exact Nat.le_refl _, by rw [hfil]; simp, ?_⟩
    rw [hfil]
    simp only [hf, idxI] at hi
    simp [c_slices_DeleteFunc_Blob, hi, markOne]
  | some k =>
    obtain ⟨hk, hbk, hbef⟩ := List.findIdx?_eq_some_iff_getElem.1 hf
    obtain ⟨l', i', v', g1, g2, h1, h2, h3, h4⟩ := delete_loop l.length hn (l.drop (k + 1)) l k (k + 1) v rfl rfl (by omega) hk
    have hpre : l.filter (fun b => !bad b) = l.take k ++ (l.drop (k + 1)).filter (fun b => !bad b) := by
      conv => lhs; rw [← List.take_append_drop k l, List.filter_append, List.drop_eq_getElem_cons hk, List.filter_cons]
      rw [if_neg (by simp [hbk])]
      congr 1
      refine List.filter_eq_self.2 fun b hb => ?_
      obtain ⟨j, hj, rfl⟩ := List.getElem_of_mem hb
      simp at hj
      have := hbef j (by omega)
      simpa using this
    rw [← hpre] at h3
    have hlen : (l.filter (fun b => !bad b)).length = i' := by rw [← h3]; simp; omega
    have hw := wrap_succ (i := k) (by omega)
    simp only [hf, idxI] at hi
    refine ⟨if l.length - i' = 0 then l' else l'.take i' ++ List.replicate (l.length - i') zeroB ++ l'.drop (i' + (l.length - i')), if l.length - i' = 0 then v' else v' + 1, by split <;> omega, fun hv => ?_, ?_, by omega, ?_, ?_⟩
    · split at hv
      · rename_i h0
        rw [if_pos h0]; exact g2 hv
      · omega
    · split
      · exact h1
      · simp; omega
    · rw [hlen, h3.symm]
      split
      · rfl
      · rw [List.append_assoc, List.take_append_of_le_length (by simp; omega)]
        rw [List.take_take, Nat.min_self]
    · rw [hlen]
      have hne : ((k : Int) == -1) = false := by simp
      have hi0 : (0 : Int) ≤ i' ∧ (i' : Int) ≤ (l.length : Int) := by omega
      have hil : i' + (l.length - i') ≤ l'.length := by omega
      simp only [Int.natCast_add, Int.natCast_one, blk] at h4
      by_cases h0 : l.length - i' = 0
      · simp [c_slices_DeleteFunc_Blob, hi, markOne, hne, hw, h4, h0, h2, hi0, h1, blk, clearOp, noIds]
      · simp [c_slices_DeleteFunc_Blob, hi, markOne, hne, hw, h4, h0, h2, hi0, h1, hil, clearOp, noIds, blk]
end Go.TrRun
set_option maxRecDepth 10000
namespace Go.TrRun
open Go Go.Eng
def bub (l : List Blob) : Nat → List Blob
  | 0 => l
  | j + 1 => if cmpB (l.getD (j + 1) zeroB) (l.getD j zeroB) < 0 then bub ((l.set (j + 1) (l.getD j zeroB)).set j (l.getD (j + 1) zeroB)) j else l
theorem bub_len : ∀ (j : Nat) (l : List Blob), (bub l j).length = l.length
  | 0, l => rfl
  | j + 1, l => by
    unfold bub
    split
    · rw [bub_len j]; simp
    · rfl
theorem inner_loop (k i : Nat) (hk : k ≤ 1000) (N : Nat) : ∀ (j : Nat) (l : List Blob) (v : Nat), j < k → k ≤ l.length → l.length = N → ∃ v' j', v ≤ v' ∧ (v' = v → bub l j = l) ∧ Y L Cs c_slices_insertionSortCmpFunc_Blob_l1 (some [9, 3, 1, 2, 8, 0]) 1 [(9, .w (W j)), (3, .w (fn1 f_motion_Join_2)), (1, .w (W 0)), (2, .w (W k)), (8, .w (W i)), (0, .w (.c (.slice 0 N 6 0 k none)))] [blk v l] =
      some (.exit 2, [(34, .w (Bo false)), (9, .w (W j')), (3, .w (fn1 f_motion_Join_2)), (1, .w (W 0)), (2, .w (W k)), (8, .w (W i)), (0, .w (.c (.slice 0 N 6 0 k none)))], [blk v' (bub l j)]) := by
  intro j
  induction j with
  | zero =>
    intro l v hj hl hN
    refine ⟨v, 0, Nat.le_refl _, fun _ => rfl, ?_⟩
    rw [Y_step c_slices_insertionSortCmpFunc_Blob_l1.eq_1]
    simp [bub]
  | succ j ih =>
    intro l v hj hl hN
    have h1 : j + 1 < l.length := by omega
    have h2 : j < l.length := by omega
    have hw : IntKind.i64.wrap ((j : Int) + 1 - 1) = (j : Int) := by rw [i64_id _ (by omega) (by omega)]; omega
    have e1 : l.getD (j + 1) zeroB = l[j + 1] := by simp [h1]
    have e2 : l.getD j zeroB = l[j] := by simp [h2]
    have hc := R_Join_2 l[j + 1] l[j]
    have hg : (0 : Int) < (j : Int) + 1 := by omega
    have hwj : IntKind.i64.wrap (j : Int) = (j : Int) := i64_id _ (by omega) (by omega)
    have a1 : (0 : Int) ≤ (j : Int) + 1 := by omega
    have a2 : (j : Int) + 1 < (k : Int) := by omega
    have a3 : ((j : Int) + 1).toNat = j + 1 := by omega
    have a4 : j < k := by omega
    have a5 : j < N := by omega
    have a6 : j + 1 < N := by omega
    simp only [blobC] at hc
    by_cases h : cmpB l[j + 1] l[j] < 0
    · obtain ⟨v', j', hv1, hv2, h4⟩ := ih ((l.set (j + 1) l[j]).set j l[j + 1]) (v + 1 + 1) (by omega) (by simp; omega) (by simp [hN])
      refine ⟨v', j', by omega, fun hv => by omega, ?_⟩
      rw [bub, e1, e2, if_pos h, ← h4, Y_step c_slices_insertionSortCmpFunc_Blob_l1.eq_1]
      have hs1 := rowsB_set l (j + 1) l[j]
      have hs2 := rowsB_set (l.set (j + 1) l[j]) j l[j + 1]
      simp only [blobC] at hs1 hs2
      simp [hg, hc, h, hw, h1, h2, hwj, a1, a2, a3, a4, a5, a6, hN, blobC, blk, hs1, hs2]
    · refine ⟨v, j + 1, Nat.le_refl _, fun _ => by rw [bub, e1, e2, if_neg h], ?_⟩
      rw [bub, e1, e2, if_neg h, Y_step c_slices_insertionSortCmpFunc_Blob_l1.eq_1]
      simp [hg, hc, h, hw, h1, h2, hwj, a1, a2, a3, a4, a5, a6, hN, blobC, blk]
def insS (l : List Blob) (i : Nat) : Nat → List Blob
  | 0 => l
  | m + 1 => insS (bub l i) (i + 1) m
theorem insS_len : ∀ (m : Nat) (l : List Blob) (i : Nat), (insS l i m).length = l.length
  | 0, l, i => rfl
  | m + 1, l, i => by unfold insS; rw [insS_len m, bub_len]
theorem outer_loop (k : Nat) (hk : k ≤ 1000) (N : Nat) : ∀ (m i : Nat) (l : List Blob) (v : Nat), k - i = m → i ≤ k + 1 → k ≤ l.length → l.length = N → ∃ v' i', v ≤ v' ∧ (v' = v → insS l i m = l) ∧ Y L Cs c_slices_insertionSortCmpFunc_Blob_l2 (some [2, 1, 3, 8, 0]) 1 [(2, .w (W k)), (1, .w (W 0)), (3, .w (fn1 f_motion_Join_2)), (8, .w (W i)), (0, .w (.c (.slice 0 N 6 0 k none)))] [blk v l] =
      some (.exit 0, [(14, .w (Bo false)), (3, .w (fn1 f_motion_Join_2)), (1, .w (W 0)), (2, .w (W k)), (8, .w (W i')), (0, .w (.c (.slice 0 N 6 0 k none)))], [blk v' (insS l i m)]) := by
  intro m
  induction m with
  | zero =>
    intro i l v hm hi hl hN
    have hg : ¬ (i : Int) < (k : Int) := by omega
    have hg' : ¬ i < k := by omega
    refine ⟨v, i, Nat.le_refl _, fun _ => rfl, ?_⟩
    rw [Y_step c_slices_insertionSortCmpFunc_Blob_l2.eq_1]
    simp [hg, hg', insS, hN]
  | succ m ih =>
    intro i l v hm hi hl hN
    have hg : (i : Int) < (k : Int) := by omega
    have hg' : i < k := by omega
    have hw := wrap_succ (i := i) (by omega)
    obtain ⟨v1, j1, q1, q2, h1⟩ := inner_loop k i hk N i l v hg' hl hN
    obtain ⟨v2, i2, q3, q4, h2⟩ := ih (i + 1) (bub l i) v1 (by omega) (by omega) (by rw [bub_len]; exact hl) (by rw [bub_len]; exact hN)
    refine ⟨v2, i2, by omega, fun hv => by rw [insS, q4 (by omega), q2 (by omega)], ?_⟩
    rw [insS, ← h2, Y_step c_slices_insertionSortCmpFunc_Blob_l2.eq_1]
    simp only [blk, bub_len, hN] at h1
    simp [hg, hg', h1, hw, blk, bub_len, hN]
theorem R_insertionSort (k : Nat) (hk : k ≤ 1000) (l : List Blob) (v : Nat) (hl : k ≤ l.length) : ∃ v', v ≤ v' ∧ (v' = v → insS l 1 (k - 1) = l) ∧ R L Cs f_slices_insertionSortCmpFunc_Blob [.c (.slice 0 l.length 6 0 k none), W 0, W k, fn1 f_motion_Join_2] [blk v l] = some (.t [], [blk v' (insS l 1 (k - 1))]) := by
  obtain ⟨v', i', q1, q2, h⟩ := outer_loop k hk l.length (k - 1) 1 l v rfl (by omega) hl rfl
  refine ⟨v', q1, q2, ?_⟩
  rw [R_fn F_slices_insertionSortCmpFunc_Blob rfl]
  have hw : IntKind.i64.wrap 1 = 1 := rfl
  simp only [blk, Int.natCast_one, insS_len] at h
  simp [c_slices_insertionSortCmpFunc_Blob, hw, h, blk, insS_len]
theorem R_SortStable (k : Nat) (hk : k ≤ 19) (l : List Blob) (v : Nat) (hl : k ≤ l.length) : ∃ v', v ≤ v' ∧ (v' = v → insS l 1 (k - 1) = l) ∧ R L Cs f_slices_SortStableFunc_Blob [.c (.slice 0 l.length 6 0 k none), fn1 f_motion_Join_2] [blk v l] = some (.t [], [blk v' (insS l 1 (k - 1))]) := by
  obtain ⟨v', q1, q2, h⟩ := R_insertionSort k (by omega) l v hl
  have h1 : ¬ (20 : Int) ≤ (k : Int) := by omega
  have h2 : ¬ (20 : Int) < (k : Int) := by omega
  have h3 : ¬ 20 ≤ k := by omega
  have h4 : ¬ 20 < k := by omega
  simp only [blk, insS_len] at h
  have hs : R L Cs f_slices_stableCmpFunc_Blob [.c (.slice 0 l.length 6 0 k none), W k, fn1 f_motion_Join_2] [blk v l] = some (.t [], [blk v' (insS l 1 (k - 1))]) := by
    rw [R_fn F_slices_stableCmpFunc_Blob rfl]
    have e1 : ∀ E M, Y L Cs c_slices_stableCmpFunc_Blob_l1 (some [7, 8, 1, 0, 2, 6]) 1 [(7, .w (W 0)), (8, .w (W 20)), (1, .w (W k)), (0, E), (2, .w (fn1 f_motion_Join_2)), (6, .w (W 20))] M = some (.exit 0, [(13, .w (Bo false)), (7, .w (W 0)), (8, .w (W 20)), (1, .w (W k)), (0, E), (2, .w (fn1 f_motion_Join_2)), (6, .w (W 20))], M) := by
      intro E M
      rw [Y_step c_slices_stableCmpFunc_Blob_l1.eq_1]
      simp [h1, h3]
    have e2 : ∀ E M, Y L Cs c_slices_stableCmpFunc_Blob_l3 (some [1, 0, 2, 6]) 1 [(1, .w (W k)), (0, E), (2, .w (fn1 f_motion_Join_2)), (6, .w (W 20))] M = some (.exit 2, [(30, .w (Bo false)), (1, .w (W k)), (0, E), (2, .w (fn1 f_motion_Join_2)), (6, .w (W 20))], M) := by
      intro E M
      rw [Y_step c_slices_stableCmpFunc_Blob_l3.eq_1]
      simp [h2, h4]
    by_cases hv : v' = v
    · have q3 := q2 hv
      subst hv
      rw [q3] at h ⊢
      simp [c_slices_stableCmpFunc_Blob, e1, e2, h, blk, insS_len]
    · simp [c_slices_stableCmpFunc_Blob, e1, e2, h, blk, insS_len, hv]
  refine ⟨v', q1, q2, ?_⟩
  rw [R_fn F_slices_SortStableFunc_Blob rfl]
  simp only [blk, insS_len] at hs
  by_cases hv : v' = v
  · have q3 := q2 hv
    subst hv
    rw [q3] at hs ⊢
    simp [c_slices_SortStableFunc_Blob, hs, blk, insS_len]
  · simp [c_slices_SortStableFunc_Blob, hs, blk, insS_len, hv]
end Go.TrRun
set_option maxRecDepth 10000
namespace Go.TrRun
open Go Go.Eng
def hullB (a b : Blob) : Blob := ⟨a.lane, min a.lo b.lo, max a.hi b.hi, min a.vlo b.vlo, max a.vhi b.vhi, if a.hold = 0 ∨ b.hold = 0 then 0 else max a.hold b.hold⟩
theorem R_hull (a b : Blob) : R L Cs f_motion_hull [.a (blobC a), .a (blobC b)] [] = some (.w (.a (blobC (hullB a b))), []) := by
  rw [R_fn F_motion_hull rfl]
  by_cases h1 : a.hold = 0
  · simp [c_motion_hull, blobC, hullB, h1]
  · have b1 : (a.hold == 0) = false := by simp [h1]
    by_cases h2 : b.hold = 0
    · simp [c_motion_hull, blobC, hullB, h1, h2, b1]
    · have b2 : (b.hold == 0) = false := by simp [h2]
      simp [c_motion_hull, blobC, hullB, h1, h2, b1, b2]
def meets (a b : Blob) : Bool := decide (a.lane = b.lane) && (decide (b.lo ≤ a.hi) || decide (b.lo - 1 = a.hi))
def joinStep (out : List Blob) (b : Blob) : List Blob :=
  if 0 < out.length ∧ meets (out.getD (out.length - 1) zeroB) b = true then out.set (out.length - 1) (hullB (out.getD (out.length - 1) zeroB) b) else out ++ [b]
structure OKB (b : Blob) : Prop where
  lo1 : -9223372036854775808 ≤ b.lo
  lo2 : b.lo ≤ 9223372036854775807
  hi1 : -9223372036854775808 ≤ b.hi
  hi2 : b.hi ≤ 9223372036854775807
theorem hull_ok {a b : Blob} (ha : OKB a) (hb : OKB b) : OKB (hullB a b) := ⟨by simp [hullB]; have := ha.lo1; have := hb.lo1; omega, by simp [hullB]; have := ha.lo2; have := hb.lo2; omega, by simp [hullB]; have := ha.hi1; have := hb.hi1; omega, by simp [hullB]; have := ha.hi2; have := hb.hi2; omega⟩
theorem joinStep_ok {out : List Blob} {b : Blob} (h : ∀ x ∈ out, OKB x) (hb : OKB b) : ∀ x ∈ joinStep out b, OKB x := by
  intro x hx
  unfold joinStep at hx
  split at hx
  · rename_i hc
    rcases List.mem_or_eq_of_mem_set hx with h1 | h1
    · exact h x h1
    · subst h1
      refine hull_ok (h _ ?_) hb
      have : out.length - 1 < out.length := by omega
      rw [List.getD_eq_getElem?_getD, List.getElem?_eq_getElem this]
      exact List.getElem_mem this
  · rcases List.mem_append.1 hx with h1 | h1
    · exact h x h1
    · simp at h1; subst h1; exact hb
theorem joinStep_len (out : List Blob) (b : Blob) : (joinStep out b).length ≤ out.length + 1 := by
  unfold joinStep; split <;> simp
set_option maxHeartbeats 2000000 in
theorem join_loop (S : List Blob) (k : Nat) (hk : k ≤ 1000) (hS : k ≤ S.length) (v : Nat) (hok : ∀ x ∈ S.take k, OKB x) : ∀ (r : List Blob) (i : Nat) (out : List Blob) (w : Nat), (S.take k).drop i = r → i ≤ k → out.length ≤ i → (∀ x ∈ out, OKB x) → ∃ w', 
    Y L Cs c_motion_Join_l1 (some [15, 14, 13, 4]) 3 [(15, .w (W i)), (14, .w (W k)), (13, .w (.c (.slice 1 S.length 6 0 k none))), (4, .w (.c (.slice 2 out.length 6 0 out.length none)))] [gb 6, blk v S, blk w out] =
      some (.exit 0, [(16, .w (Bo false)), (15, .w (W k)), (14, .w (W k)), (13, .w (.c (.slice 1 S.length 6 0 k none))), (4, .w (.c (.slice 2 (r.foldl joinStep out).length 6 0 (r.foldl joinStep out).length none)))], [gb 6, blk v S, blk w' (r.foldl joinStep out)]) := by
  intro r
  induction r with
  | nil =>
    intro i out w hd hi ho hoo
    have : i = k := by
      have := drop_nil hd (by simp; omega)
      simp at this; omega
    subst this
    refine ⟨w, ?_⟩
    rw [Y_step c_motion_Join_l1.eq_1]
    simp
  | cons b r ih =>
    intro i out w hd hi ho hoo
    obtain ⟨hil, hb, hd'⟩ := drop_cons hd
    simp at hil hb
    have hik : i < k := by omega
    have hiS : i < S.length := by omega
    have hbok : OKB b := hok b (List.mem_of_mem_drop (i := i) (by rw [hd]; exact List.mem_cons_self))
    have hw := wrap_succ (i := i) (by omega)
    obtain ⟨w', h4⟩ := ih (i + 1) (joinStep out b) (if 0 < out.length ∧ meets (out.getD (out.length - 1) zeroB) b = true then w + 1 else w + 1) hd' hik (by have := joinStep_len out b; omega) (joinStep_ok hoo hbok)
    refine ⟨w', ?_⟩
    rw [List.foldl_cons, ← h4, Y_step c_motion_Join_l1.eq_1]
    have hroom : (out.length + 1) * 48 ≤ 140737488355328 := by omega
    by_cases h0 : out.length = 0
    · have e : out = [] := List.length_eq_zero_iff.1 h0
      subst e
      simp [joinStep, hik, hiS, hb, hw, blobC, blk]
    have hp : 0 < out.length := by omega
    have hp' : (0 : Int) < (out.length : Int) := by omega
    have hlast : out.length - 1 < out.length := by omega
    have e1 : out.getD (out.length - 1) zeroB = out[out.length - 1] := by simp [hlast]
    have hw1 : IntKind.i64.wrap ((out.length : Int) - 1) = (out.length : Int) - 1 := i64_id _ (by omega) (by omega)
    have i1 : (1 : Int) ≤ (out.length : Int) := by omega
    have i2 : (out.length : Int) - 1 < (out.length : Int) := by omega
    have i3 : ((out.length : Int) - 1).toNat = out.length - 1 := by omega
    have aok : OKB out[out.length - 1] := hoo _ (List.getElem_mem _)
    have hc := R_hull out[out.length - 1] b
    rw [joinStep, e1]
    generalize ha : out[out.length - 1] = a at *
    have hs := rowsB_set out (out.length - 1) (hullB a b)
    simp only [blobC] at hc hs
    by_cases h2 : a.lane = b.lane
    · rw [h2] at hc
      by_cases h3 : b.lo ≤ a.hi
      · have hm : meets a b = true := by simp [meets, h2, h3]
        simp [hm, hik, hiS, hb, hw, blobC, blk, hp, hp', hw1, i1, i2, i3, hlast, ha, h2, h3, hc, hs]
      · have hw2 : IntKind.i64.wrap (b.lo - 1) = b.lo - 1 := i64_id _ (by have := aok.hi1; omega) (by have := hbok.lo2; omega)
        by_cases h5 : b.lo - 1 = a.hi
        · have hm : meets a b = true := by simp [meets, h2, h5]
          have hw3 : IntKind.i64.wrap a.hi = a.hi := i64_id _ aok.hi1 aok.hi2
          simp [hw3, hm, hik, hiS, hb, hw, blobC, blk, hp, hp', hw1, i1, i2, i3, hlast, ha, h2, h3, hc, hs, hw2, h5]
        · have hm : meets a b = false := by simp [meets, h2, h3, h5]
          have b5 : (b.lo - 1 == a.hi) = false := by simp [h5]
          simp [hm, hik, hiS, hb, hw, blobC, blk, hp, hp', hw1, i1, i2, i3, hlast, ha, h2, h3, hw2, h5, b5, hroom]
    · have hm : meets a b = false := by simp [meets, h2]
      have b2 : (a.lane == b.lane) = false := by simp [h2]
      simp [hm, hik, hiS, hb, hw, blobC, blk, hp, hp', hw1, i1, i2, i3, hlast, ha, h2, b2, hroom]
def sortF (l : List Blob) : List Blob := insS l 1 (l.length - 1)
theorem insS_take : ∀ (m i : Nat) (l : List Blob) (k : Nat), i + m ≤ k → k ≤ l.length → (insS l i m).take k = insS (l.take k) i m := by
  have hb : ∀ (j : Nat) (l : List Blob) (k : Nat), j < k → k ≤ l.length → (bub l j).take k = bub (l.take k) j := by
    intro j
    induction j with
    | zero => intro l k _ _; rfl
    | succ j ih =>
      intro l k h1 h2
      have e1 : (l.take k).getD (j + 1) zeroB = l.getD (j + 1) zeroB := by simp [List.getD_eq_getElem?_getD, List.getElem?_take_of_lt h1]
      have e2 : (l.take k).getD j zeroB = l.getD j zeroB := by simp [List.getD_eq_getElem?_getD, List.getElem?_take_of_lt (show j < k by omega)]
      rw [bub, bub, e1, e2]
      split
      · rw [ih _ _ (by omega) (by simp; omega)]
        simp [List.take_set]
      · rfl
  intro m
  induction m with
  | zero => intro i l k _ _; rfl
  | succ m ih =>
    intro i l k h1 h2
    rw [insS, insS, ih _ _ _ (by omega) (by rw [bub_len]; exact h2), hb i l k (by omega) h2]
def joinF (l : List Blob) : List Blob := (sortF (l.filter fun b => !bad b)).foldl joinStep []
theorem bub_mem : ∀ (j : Nat) (l : List Blob) (x : Blob), j < l.length → x ∈ bub l j → x ∈ l := by
  intro j
  induction j with
  | zero => intro l x _ h; exact h
  | succ j ih =>
    intro l x hj h
    rw [bub] at h
    split at h
    · have h1 := ih _ x (by simp; omega) h
      have e1 : l.getD (j + 1) zeroB ∈ l := by rw [List.getD_eq_getElem?_getD, List.getElem?_eq_getElem hj]; exact List.getElem_mem _
      have e2 : l.getD j zeroB ∈ l := by rw [List.getD_eq_getElem?_getD, List.getElem?_eq_getElem (by omega)]; exact List.getElem_mem _
      rcases List.mem_or_eq_of_mem_set h1 with h2 | h2
      · rcases List.mem_or_eq_of_mem_set h2 with h3 | h3
        · exact h3
        · rw [h3]; exact e2
      · rw [h2]; exact e1
    · exact h
theorem insS_mem : ∀ (m i : Nat) (l : List Blob) (x : Blob), i + m ≤ l.length → x ∈ insS l i m → x ∈ l := by
  intro m
  induction m with
  | zero => intro i l x _ h; exact h
  | succ m ih => intro i l x h1 h; exact bub_mem i l x (by omega) (ih (i + 1) (bub l i) x (by rw [bub_len]; omega) h)
theorem R_motionJoin (l : List Blob) (hl : l.length ≤ 19) (hok : ∀ x ∈ l, OKB x) : R L Cs f_motion_Join [.c (.rslice (rowsB l))] [] = some (.w (.c (.rslice (rowsB (joinF l)))), []) := by
  have hc := clone_blobs l (by omega)
  obtain ⟨l', v1, d1, d2, d3, d4, d5, hD⟩ := R_DeleteFunc l l.length (by omega)
  have hkl : (l.filter fun b => !bad b).length ≤ l'.length := by rw [d3]; exact d4
  obtain ⟨v2, s1, s2, hS⟩ := R_SortStable (l.filter fun b => !bad b).length (by omega) l' v1 hkl
  have htake : (insS l' 1 ((l.filter fun b => !bad b).length - 1)).take (l.filter fun b => !bad b).length = sortF (l.filter fun b => !bad b) := by
    by_cases h0 : (l.filter fun b => !bad b).length = 0
    · have e : (l.filter fun b => !bad b) = [] := List.length_eq_zero_iff.1 h0
      rw [e]; rfl
    · rw [insS_take _ _ _ _ (by omega) hkl, d5]; rfl
  have hfok : ∀ x ∈ sortF (l.filter fun b => !bad b), OKB x := by
    intro x hx
    by_cases h0 : (l.filter fun b => !bad b).length = 0
    · have e : (l.filter fun b => !bad b) = [] := List.length_eq_zero_iff.1 h0
      rw [e] at hx; cases hx
    · exact hok x (List.mem_filter.1 (insS_mem _ _ _ x (by omega) hx)).1
  obtain ⟨w', hJ⟩ := join_loop (insS l' 1 ((l.filter fun b => !bad b).length - 1)) (l.filter fun b => !bad b).length (by omega) (by rw [insS_len]; exact hkl) v2 (by rw [htake]; exact hfok) _ 0 [] 0 rfl (Nat.zero_le _) (Nat.zero_le _) (by simp)
  rw [List.drop_zero, htake, ← joinF] at hJ
  generalize hk : (l.filter fun b => !bad b).length = k at *
  generalize hQ : joinF l = Q at *
  generalize hI : insS l' 1 (k - 1) = S at *
  have hSl : S.length = l.length := by rw [← hI, insS_len, d3]
  simp only [blk, hSl, d3, Int.natCast_zero, List.length_nil, rowsB_nil] at hD hS hJ
  rw [R_fn F_motion_Join rfl]
  by_cases q1 : v1 = l.length
  · have e1 := d2 q1
    by_cases q2 : v2 = v1
    · have e2 := s2 q2
      rw [e1, q1] at hD
      rw [e2, e1, q2, q1] at hS hJ
      simp [c_motion_Join, hc, hD, hS, hJ]
    · rw [e1, q1] at hD
      rw [e1, q1] at hS
      rw [q1] at q2
      simp [c_motion_Join, hc, hD, hS, hJ, q2]
  · by_cases q2 : v2 = v1
    · have e2 := s2 q2
      rw [e2, q2] at hS hJ
      simp [c_motion_Join, hc, hD, hS, hJ, q1]
    · simp [c_motion_Join, hc, hD, hS, hJ, q1, q2]
end Go.TrRun
set_option maxRecDepth 10000
namespace Go.TrRun
open Go Go.Eng
def ltB (a b : Blob) : Bool := decide (a.lane < b.lane) || (decide (a.lane = b.lane) && decide (a.lo < b.lo))
theorem ltB_cmp (a b : Blob) : (cmpB a b < 0) ↔ ltB a b = true := by
  unfold cmpB ltB cmpI
  by_cases h1 : a.lane < b.lane
  · simp [h1]
  · by_cases h2 : b.lane < a.lane
    · have h3 : ¬ a.lane = b.lane := by omega
      simp [h1, h2, h3]
    · have h3 : a.lane = b.lane := by omega
      by_cases h4 : a.lo < b.lo
      · simp [h3, h4]
      · by_cases h5 : b.lo < a.lo
        · simp [h3, h4, h5]
        · simp [h3, h4, h5]
theorem R_less (a b : Blob) : R L Cs f_kerbstoneref05_less [.a (blobC a), .a (blobC b)] [] = some (.w (Bo (ltB a b)), []) := by
  rw [R_fn F_kerbstoneref05_less rfl]
  by_cases h1 : a.lane < b.lane
  · simp [c_kerbstoneref05_less, blobC, ltB, h1]
  · by_cases h2 : a.lane = b.lane
    · simp [c_kerbstoneref05_less, blobC, ltB, h2]
    · have b2 : (a.lane == b.lane) = false := by simp [h2]
      simp [c_kerbstoneref05_less, blobC, ltB, h1, h2, b2]
def insAt (x : Blob) (s : List Blob) : Nat → Nat
  | 0 => 0
  | a + 1 => if ltB x (s.getD a zeroB) = true then insAt x s a else a + 1
theorem insAt_le (x : Blob) (s : List Blob) : ∀ a, insAt x s a ≤ a
  | 0 => Nat.le_refl _
  | a + 1 => by unfold insAt; split; exact Nat.le_succ_of_le (insAt_le x s a); exact Nat.le_refl _
theorem at_loop (l s : List Blob) (i : Nat) (hi : i < l.length) (hs : s.length ≤ 1000) (M : Mem) (id : Nat) (hM : M[id]? = some (some (own 6 (rowsB s)))) : ∀ (a : Nat), a ≤ s.length →
    Y L Cs c_kerbstoneref05_Join_l1 (some [5, 0, 4, 3]) M.length [(5, .w (W a)), (0, .w (.c (.rslice (rowsB l)))), (4, .w (W i)), (3, .w (.c (.slice id s.length 6 0 s.length none)))] M =
      some (.exit 2, [(44, .w (Bo false)), (5, .w (W (insAt l[i] s a))), (0, .w (.c (.rslice (rowsB l)))), (4, .w (W i)), (3, .w (.c (.slice id s.length 6 0 s.length none)))], M) := by
  intro a
  induction a with
  | zero =>
    intro ha
    rw [Y_step c_kerbstoneref05_Join_l1.eq_1]
    simp [insAt]
  | succ a ih =>
    intro ha
    have has : a < s.length := by omega
    have e1 : s.getD a zeroB = s[a] := by simp [has]
    have hc := R_less l[i] s[a]
    have hg : (0 : Int) < (a : Int) + 1 := by omega
    have hwa : IntKind.i64.wrap (a : Int) = (a : Int) := i64_id _ (by omega) (by omega)
    simp only [blobC] at hc
    rw [insAt, e1]
    have hdrop : ∀ E : Env, drop0 M.length E M = M := fun E => by simp [drop0]
    by_cases h : ltB l[i] s[a] = true
    · rw [h] at hc
      rw [if_pos h, ← ih (by omega), Y_step c_kerbstoneref05_Join_l1.eq_1]
      simp [hg, hi, hM, own, has, hwa, hc, blobC, hdrop]
    · have h' : ltB l[i] s[a] = false := by simpa using h
      rw [h'] at hc
      rw [if_neg h, Y_step c_kerbstoneref05_Join_l1.eq_1]
      simp [hg, hi, hM, own, has, hwa, hc, blobC]
end Go.TrRun
set_option maxRecDepth 10000
namespace Go.TrRun
open Go Go.Eng
def insB (s : List Blob) (x : Blob) : List Blob := s.take (insAt x s s.length) ++ x :: s.drop (insAt x s s.length)
theorem insB_len (s : List Blob) (x : Blob) : (insB s x).length = s.length + 1 := by
  have := insAt_le x s s.length
  simp [insB]; omega
def flatM (M : Mem) : Prop := ∀ x ∈ M, ∀ b, x = some b → b.box = false
def sortStep (s : List Blob) (x : Blob) : List Blob := if bad x = true then s else insB s x
theorem drop0_keep {M : Mem} {E : Env} {id g es off len : Nat} {c : Option Nat} (hE : (3, AV.w (.c (.slice id g es off len c))) ∈ E) (h : M.length ≤ 2 ∨ 2 ≤ id) : drop0 2 E M = M := by
  unfold drop0
  split
  · rfl
  · rename_i hl
    have hid : 2 ≤ id := h.resolve_left hl
    rw [if_neg]
    simp only [Bool.and_eq_true, List.all_eq_true, not_and]
    intro hall
    have := hall _ hE
    simp [AV.below, WV.below, WV.cells, Eng.below, top1] at this
    omega
set_option maxHeartbeats 8000000 in
theorem sort_loop (l : List Blob) (hl : l.length ≤ 1000) : ∀ (r : List Blob) (i : Nat) (s : List Blob) (M : Mem) (id : Nat), l.drop i = r → i ≤ l.length → s.length ≤ i → M[id]? = some (some (own 6 (rowsB s))) → (M.length ≤ 2 ∨ 2 ≤ id) → 2 ≤ M.length → flatM M →
    ∃ M' id', flatM M' ∧ M'[id']? = some (some (own 6 (rowsB (r.foldl sortStep s)))) ∧ Y L Cs c_kerbstoneref05_Join_l2 (some [4, 0, 3]) 2 [(4, .w (W i)), (0, .w (.c (.rslice (rowsB l)))), (3, .w (.c (.slice id s.length 6 0 s.length none)))] M =
      some (.exit 0, [(15, .w (Bo false)), (4, .w (W l.length)), (0, .w (.c (.rslice (rowsB l)))), (3, .w (.c (.slice id' (r.foldl sortStep s).length 6 0 (r.foldl sortStep s).length none)))], M') := by
  intro r
  induction r with
  | nil =>
    intro i s M id hd hi hs hM hid hML hfl
    obtain rfl := drop_nil hd hi
    refine ⟨M, id, hfl, hM, ?_⟩
    rw [Y_step c_kerbstoneref05_Join_l2.eq_1]
    simp
  | cons x r ih =>
    intro i s M id hd hi hs hM hid hML hfl
    obtain ⟨hil, hx, hd'⟩ := drop_cons hd
    have hw := wrap_succ (i := i) (by omega)
    by_cases hb : x.hi < x.lo
    · obtain ⟨M', id', hf', h1, h2⟩ := ih (i + 1) s M id hd' hil (by omega) hM hid hML hfl
      have e : sortStep s x = s := by simp [sortStep, hb]
      rw [List.foldl_cons, e]
      refine ⟨M', id', hf', h1, ?_⟩
      rw [← h2, Y_step c_kerbstoneref05_Join_l2.eq_1]
      have hdr := fun (E : Env) (hE : (3, AV.w (.c (.slice id s.length 6 0 s.length none))) ∈ E) => drop0_keep hE hid
      simp [hil, hx, hb, blobC, hw, hdr, -drop0]
    · have hidM : id < M.length := (List.getElem?_eq_some_iff.1 hM).1
      have e : sortStep s x = insB s x := by simp [sortStep, hb]
      have hM2 : (M ++ [some (own 6 (rowsB (insB s x))), some (own 6 [blobC x])])[M.length]? = some (some (own 6 (rowsB (insB s x)))) := by simp
      have hl2 : (2 : Nat) ≤ M.length := hML
      have hs999 : s.length ≤ 999 := by omega
      obtain ⟨M', id', hf', h1, h2⟩ := ih (i + 1) (insB s x) (M ++ [some (own 6 (rowsB (insB s x))), some (own 6 [blobC x])]) M.length hd' hil (by rw [insB_len]; omega) hM2 (.inr hl2) (by simp) (by
        intro y hy b hb
        rcases List.mem_append.1 hy with h | h
        · exact hfl y h b hb
        · simp at h
          rcases h with rfl | rfl <;> (cases hb; rfl))
      rw [List.foldl_cons, e]
      refine ⟨M', id', hf', h1, ?_⟩
      have hat := at_loop l s i hil (by omega) M id hM s.length (Nat.le_refl _)
      rw [hx] at hat
      have hdr : ∀ (v v2 : AV) (g len : Nat) (N : Mem), drop0 2 [(4, v), (0, v2), (3, .w (.c (.slice M.length g 6 0 len none)))] (M ++ N) = M ++ N := fun v v2 g len N => drop0_keep (id := M.length) (g := g) (es := 6) (off := 0) (len := len) (c := none) (by simp) (.inr hl2)
      have hle := insAt_le x s s.length
      rw [← h2, Y_step c_kerbstoneref05_Join_l2.eq_1]
      simp only [insB]
      generalize insAt x s s.length = a at *
      have hdl : ∀ E : Env, drop0 M.length E M = M := fun E => by simp [drop0]
      have hal : (a : Int) ≤ (s.length : Int) := by omega
      have r1 : ∀ n, n ≤ 1000 → n * 48 ≤ 140737488355328 := fun n hn => by omega
      have hta : (s.take a).length = a := by simp; omega
      have htd : (s.drop a).length = s.length - a := by simp
      have hsz : a + (s.length - a) = s.length := by omega
      have hg : ∀ N : Mem, (M ++ N)[id]? = some (some (own 6 (rowsB s))) := fun N => by rw [List.getElem?_append_left hidM, hM]
      simp only [own, rowsB_len] at hg
      have d1 : a - s.length = 0 := by omega
      cases h1 : s.take a with
      | nil =>
        cases h2 : s.drop a with
        | nil => simp [hil, hx, hb, blobC, hw, hdr, hat, hM, hidM, hg, own, hle, h1, h2, newAt, hdl, hal, hsz, r1, -drop0]
        | cons z t2 =>
          have ht2 : t2.length + 1 + 1 ≤ 1000 := by have := congrArg List.length h2; simp at this; omega
          have ht3 : s.length - a = t2.length + 1 := by have := congrArg List.length h2; simp at this; omega
          have ht4 : (1 + (t2.length + 1)) * 48 ≤ 140737488355328 := by omega
          have ht5 : 1 + (t2.length + 1) = t2.length + 1 + 1 := by omega
          have ht6 : a + (t2.length + 1) ≤ s.length := by omega
          simp [hil, hx, hb, blobC, hw, hdr, hat, hM, hidM, hg, own, hle, h1, h2, newAt, hdl, hal, hsz, r1, ht2, ht3, ht4, ht5, ht6, -drop0]
      | cons y t1 =>
        have ht1 : t1.length + 1 = a := by have := congrArg List.length h1; simp at this; omega
        have hr1 := r1 (t1.length + 1) (by omega)
        have hr2 := r1 (t1.length + 1 + 1) (by omega)
        cases h2 : s.drop a with
        | nil => simp [hil, hx, hb, blobC, hw, hdr, hat, hM, hidM, hg, own, hle, h1, h2, newAt, hdl, hal, hsz, r1, hr1, hr2, -drop0]
        | cons z t2 =>
          have hr3 := r1 (t1.length + 1 + 1 + (t2.length + 1)) (by have := congrArg List.length h2; simp at this; omega)
          have ht3 : s.length - a = t2.length + 1 := by have := congrArg List.length h2; simp at this; omega
          have ht6 : a + (t2.length + 1) ≤ s.length := by omega
          have ht7 : t1.length + 1 + 1 + (t2.length + 1) = t1.length + (t2.length + 1 + 1) + 1 := by omega
          have hr4 : (t1.length + (t2.length + 1 + 1) + 1) * 48 ≤ 140737488355328 := by rw [← ht7]; exact hr3
          have ht8 : List.take (t1.length + 1) (rowsB t1 ++ [[I x.lane, I x.lo, I x.hi, I x.vlo, I x.vhi, I x.hold]]) = rowsB t1 ++ [[I x.lane, I x.lo, I x.hi, I x.vlo, I x.vhi, I x.hold]] := List.take_of_length_le (by simp)
          have ht2 : t2.length + 1 + a = s.length := by have := congrArg List.length h2; simp at this; omega
          simp [hil, hx, hb, blobC, hw, hdr, hat, hM, hidM, hg, own, hle, h1, h2, newAt, hdl, hal, hsz, r1, ht2, hr1, hr2, hr3, hr4, ht3, ht6, ht7, ht8, -drop0]
end Go.TrRun
set_option maxRecDepth 10000
namespace Go.TrRun
open Go Go.Eng
def glue (a b : Blob) : Blob := ⟨b.lane, a.lo, max a.hi b.hi, min a.vlo b.vlo, max a.vhi b.vhi, if a.hold = 0 ∨ b.hold = 0 then 0 else max a.hold b.hold⟩
def far (a b : Blob) : Bool := !decide (a.lane = b.lane) || (decide (a.hi < b.lo) && decide (a.hi < b.lo - 1))
def glueStep (out : List Blob) (b : Blob) : List Blob :=
  if 0 < out.length ∧ far (out.getD (out.length - 1) zeroB) b = false then out.set (out.length - 1) (glue (out.getD (out.length - 1) zeroB) b) else out ++ [b]
theorem glueStep_len (out : List Blob) (b : Blob) : (glueStep out b).length ≤ out.length + 1 := by
  unfold glueStep; split <;> simp
theorem glueStep_ok {out : List Blob} {b : Blob} (h : ∀ x ∈ out, OKB x) (hb : OKB b) : ∀ x ∈ glueStep out b, OKB x := by
  intro x hx
  unfold glueStep at hx
  split at hx
  · rename_i hc
    rcases List.mem_or_eq_of_mem_set hx with h1 | h1
    · exact h x h1
    · subst h1
      have hl : out.length - 1 < out.length := by omega
      have ho : OKB (out.getD (out.length - 1) zeroB) := by
        refine h _ ?_
        rw [List.getD_eq_getElem?_getD, List.getElem?_eq_getElem hl]
        exact List.getElem_mem hl
      exact ⟨ho.lo1, ho.lo2, by show _ ≤ max _ _; have := ho.hi1; have := hb.hi1; omega, by show max _ _ ≤ _; have := ho.hi2; have := hb.hi2; omega⟩
  · rcases List.mem_append.1 hx with h1 | h1
    · exact h x h1
    · simp at h1; subst h1; exact hb
theorem drop0_tail {P N : Mem} (hP : flatM P) {g len id g' len' : Nat} {v : AV} {o x : Option Blk} (ho : ∀ b, o = some b → b.box = false) (hid : id < P.length) (hv : v.below (P.length + 1) = true) :
    drop0 (P.length + 1) [(6, .w (.c (.slice P.length g 6 0 len none))), (7, v), (3, .w (.c (.slice id g' 6 0 len' none)))] (P ++ o :: x :: N) = P ++ [o] := by
  unfold drop0
  have ht : (P ++ o :: x :: N).take (P.length + 1) = P ++ [o] := by
    rw [List.take_append, List.take_of_length_le (by omega)]; simp
  rw [if_neg (by simp), ht, if_pos]
  simp only [Bool.and_eq_true, List.all_eq_true]
  refine ⟨?_, ?_⟩
  · intro y hy
    simp at hy
    rcases hy with rfl | rfl | rfl
    · simp [AV.below, WV.below, WV.cells, Eng.below, top1]
    · exact hv
    · simp [AV.below, WV.below, WV.cells, Eng.below, top1]; omega
  · simp only [memBelow, List.all_eq_true]
    intro y hy
    have : ∀ b, y = some b → b.box = false := by
      rcases List.mem_append.1 hy with h | h
      · exact hP y h
      · simp at h; subst h; exact ho
    cases y with
    | none => rfl
    | some b => simp [Blk.below, this b rfl]
set_option maxHeartbeats 4000000 in
theorem glue_loop (S : List Blob) (hS : S.length ≤ 1000) (P : Mem) (id : Nat) (hP : flatM P) (hM : P[id]? = some (some (own 6 (rowsB S)))) (hok : ∀ x ∈ S, OKB x) : ∀ (r : List Blob) (i : Nat) (out : List Blob) (w : Nat), S.drop i = r → i ≤ S.length → out.length ≤ i → (∀ x ∈ out, OKB x) → ∃ w', 
    Y L Cs c_kerbstoneref05_Join_l3 (some [6, 7, 3]) (P.length + 1) [(6, .w (.c (.slice P.length out.length 6 0 out.length none))), (7, .w (W i)), (3, .w (.c (.slice id S.length 6 0 S.length none)))] (P ++ [blk w out]) =
      some (.exit 4, [(65, .w (Bo false)), (6, .w (.c (.slice P.length (r.foldl glueStep out).length 6 0 (r.foldl glueStep out).length none))), (7, .w (W S.length)), (3, .w (.c (.slice id S.length 6 0 S.length none)))], P ++ [blk w' (r.foldl glueStep out)]) := by
  have hidP : id < P.length := (List.getElem?_eq_some_iff.1 hM).1
  have hg : ∀ N : Mem, (P ++ N)[id]? = some (some (own 6 (rowsB S))) := fun N => by rw [List.getElem?_append_left hidP, hM]
  simp only [own, rowsB_len] at hg
  intro r
  induction r with
  | nil =>
    intro i out w hd hi ho hoo
    obtain rfl := drop_nil hd hi
    refine ⟨w, ?_⟩
    rw [Y_step c_kerbstoneref05_Join_l3.eq_1]
    simp [hg]
  | cons b r ih =>
    intro i out w hd hi ho hoo
    obtain ⟨hil, hb, hd'⟩ := drop_cons hd
    have hbok : OKB b := hok b (by rw [← hb]; exact List.getElem_mem _)
    have hw := wrap_succ (i := i) (by omega)
    obtain ⟨w', h4⟩ := ih (i + 1) (glueStep out b) (w + 1) hd' hil (by have := glueStep_len out b; omega) (glueStep_ok hoo hbok)
    refine ⟨w', ?_⟩
    rw [List.foldl_cons, ← h4, Y_step c_kerbstoneref05_Join_l3.eq_1]
    have hroom : (out.length + 1) * 48 ≤ 140737488355328 := by omega
    have hdt : ∀ (g len g' len' : Nat) (k : Int) (w : Nat) (rows : List (List Cl)) (x : Option Blk) (N : Mem), drop0 (P.length + 1) [(6, .w (.c (.slice P.length g 6 0 len none))), (7, .w (W k)), (3, .w (.c (.slice id g' 6 0 len' none)))] (P ++ some { box := false, esz := 6, rows := rows, gen := g, fz := false, ver := w } :: x :: N) = P ++ [some { box := false, esz := 6, rows := rows, gen := g, fz := false, ver := w }] :=
      fun g len g' len' k w rows x N => drop0_tail hP (by intro b hb; cases hb; rfl) hidP (by simp [AV.below, WV.below, WV.cells, Eng.below, top1])
    by_cases h0 : out.length = 0
    · have e : out = [] := List.length_eq_zero_iff.1 h0
      subst e
      have hwm : IntKind.i64.wrap (-1) = -1 := rfl
      simp [glueStep, hil, hb, hw, blobC, blk, hg, hwm, hdt, newAt, -drop0]
    have hp : 0 < out.length := by omega
    have hlast : out.length - 1 < out.length := by omega
    have e1 : out.getD (out.length - 1) zeroB = out[out.length - 1] := by simp [hlast]
    have hw1 : IntKind.i64.wrap ((out.length : Int) - 1) = (out.length : Int) - 1 := i64_id _ (by omega) (by omega)
    have i1 : (1 : Int) ≤ (out.length : Int) := by omega
    have i2 : (out.length : Int) - 1 < (out.length : Int) := by omega
    have i3 : ¬ ((out.length : Int) - 1 < 0) := by omega
    have i4 : ¬ ((out.length : Int) < 1) := by omega
    have i5 : ¬ (out.length < 1) := by omega
    have aok : OKB out[out.length - 1] := hoo _ (List.getElem_mem _)
    rw [glueStep, e1]
    generalize ha : out[out.length - 1] = a at *
    have hs : ∀ x1 x2 x3 x4 x5 x6 : Int, (rowsB out).set (out.length - 1) [.int .i64 x1, .int .i64 x2, .int .i64 x3, .int .i64 x4, .int .i64 x5, .int .i64 x6] = rowsB (out.set (out.length - 1) ⟨x1, x2, x3, x4, x5, x6⟩) := fun x1 x2 x3 x4 x5 x6 => rowsB_set out (out.length - 1) ⟨x1, x2, x3, x4, x5, x6⟩
    by_cases h2 : a.lane = b.lane
    · by_cases h3 : a.hi < b.lo
      · have hw2 : IntKind.i64.wrap (b.lo - 1) = b.lo - 1 := i64_id _ (by have := aok.hi1; omega) (by have := hbok.lo2; omega)
        by_cases h5 : a.hi < b.lo - 1
        · have hm : far a b = true := by simp [far, h3, h5]
          simp [hm, hil, hb, hw, blobC, blk, hp, hw1, i1, i2, i3, i4, i5, hlast, ha, h2, h3, h5, hw2, hroom, hg, hdt, newAt, -drop0]
        · have hm : far a b = false := by simp [far, h2, h5]
          by_cases h6 : a.hold = 0
          · simp [hm, hil, hb, hw, blobC, blk, hp, hw1, i1, i2, i3, i4, i5, hlast, ha, h2, h3, h5, hw2, hroom, hg, hdt, newAt, h6, glue, hs, -drop0]
          · have b6 : (a.hold == 0) = false := by simp [h6]
            by_cases h7 : b.hold = 0
            · simp [hm, hil, hb, hw, blobC, blk, hp, hw1, i1, i2, i3, i4, i5, hlast, ha, h2, h3, h5, hw2, hroom, hg, hdt, newAt, h6, h7, b6, glue, hs, -drop0]
            · have b7 : (b.hold == 0) = false := by simp [h7]
              simp [hm, hil, hb, hw, blobC, blk, hp, hw1, i1, i2, i3, i4, i5, hlast, ha, h2, h3, h5, hw2, hroom, hg, hdt, newAt, h6, h7, b6, b7, glue, hs, -drop0]
      · have hm : far a b = false := by simp [far, h2, h3]
        by_cases h6 : a.hold = 0
        · simp [hm, hil, hb, hw, blobC, blk, hp, hw1, i1, i2, i3, i4, i5, hlast, ha, h2, h3,  hg, hdt, newAt, h6, glue, hs, -drop0]
        · have b6 : (a.hold == 0) = false := by simp [h6]
          by_cases h7 : b.hold = 0
          · simp [hm, hil, hb, hw, blobC, blk, hp, hw1, i1, i2, i3, i4, i5, hlast, ha, h2, h3,  hg, hdt, newAt, h6, h7, b6, glue, hs, -drop0]
          · have b7 : (b.hold == 0) = false := by simp [h7]
            simp [hm, hil, hb, hw, blobC, blk, hp, hw1, i1, i2, i3, i4, i5, hlast, ha, h2, h3,  hg, hdt, newAt, h6, h7, b6, b7, glue, hs, -drop0]
    · have hm : far a b = true := by simp [far, h2]
      have b2 : (a.lane == b.lane) = false := by simp [h2]
      have b3 : (a.lane != b.lane) = true := by simp [h2]
      simp [hm, hil, hb, hw, blobC, blk, hp, hw1, i1, i2, i3, i4, i5, hlast, ha, h2, b2, b3, hroom, hg, hdt, newAt, -drop0]
end Go.TrRun
set_option maxRecDepth 10000
namespace Go.TrRun
open Go Go.Eng
theorem insB_mem {s : List Blob} {x y : Blob} : y ∈ insB s x ↔ y = x ∨ y ∈ s := by
  unfold insB
  generalize insAt x s s.length = a
  conv => rhs; rw [← List.take_append_drop a s]
  simp only [List.mem_append, List.mem_cons]
  constructor
  · rintro (h | h | h)
    · exact .inr (.inl h)
    · exact .inl h
    · exact .inr (.inr h)
  · rintro (h | h | h)
    · exact .inr (.inl h)
    · exact .inl h
    · exact .inr (.inr h)
theorem sort_mem : ∀ (l s : List Blob) (y : Blob), y ∈ l.foldl sortStep s → y ∈ l ∨ y ∈ s
  | [], s, y, h => .inr h
  | x :: l, s, y, h => by
    rcases sort_mem l (sortStep s x) y h with h | h
    · exact .inl (List.mem_cons_of_mem _ h)
    · unfold sortStep at h
      split at h
      · exact .inr h
      · rcases insB_mem.1 h with h | h
        · exact .inl (h ▸ List.mem_cons_self)
        · exact .inr h
theorem sort_len : ∀ (l s : List Blob), (l.foldl sortStep s).length ≤ l.length + s.length
  | [], s => by simp
  | x :: l, s => by
    have h := sort_len l (sortStep s x)
    have h2 : (sortStep s x).length ≤ s.length + 1 := by unfold sortStep; split; omega; rw [insB_len]; omega
    simp only [List.foldl_cons, List.length_cons]; omega
def refJoinF (l : List Blob) : List Blob := (l.foldl sortStep []).foldl glueStep []
theorem R_refJoin (l : List Blob) (hl : l.length ≤ 900) (hok : ∀ x ∈ l, OKB x) : R L Cs f_kerbstoneref05_Join [.c (.rslice (rowsB l))] [] = some (.w (.c (.rslice (rowsB (refJoinF l)))), []) := by
  obtain ⟨P, id, hP, hid, h2⟩ := sort_loop l (by omega) l 0 [] [gb 6, gb 6] 1 rfl (Nat.zero_le _) (Nat.zero_le _) rfl (.inl (by simp)) (by simp) (by intro x hx b hb; simp at hx; subst hx; cases hb; rfl)
  have hl2 := sort_len l []
  simp at hl2
  obtain ⟨w', h3⟩ := glue_loop (l.foldl sortStep []) (by omega) P id hP hid (fun x hx => hok x ((sort_mem l [] x hx).resolve_right (by simp))) _ 0 [] 0 rfl (Nat.zero_le _) (Nat.zero_le _) (by simp)
  rw [List.drop_zero, ← refJoinF] at h3
  generalize l.foldl sortStep [] = S at *
  generalize refJoinF l = Q at *
  simp only [blk, Int.natCast_zero, List.length_nil, rowsB_nil] at h2 h3
  have hidP : id < P.length := (List.getElem?_eq_some_iff.1 hid).1
  have hdp : ∀ (E : Env) (b : Option Blk), drop0 (P.length + 1) E (P ++ [b]) = P ++ [b] := by
    intro E b
    simp [drop0]
  have hd0 : ∀ (E : Env) (a b : Option Blk), drop0 2 E [a, b] = [a, b] := by
    intro E a b
    simp [drop0]
  rw [R_fn F_kerbstoneref05_Join rfl]
  simp [c_kerbstoneref05_Join, h2, h3, newAt, hdp, hd0, -drop0]
def leB (a b : Blob) : Prop := a.lane < b.lane ∨ (a.lane = b.lane ∧ a.lo ≤ b.lo)
theorem leB_iff (a b : Blob) : leB a b ↔ ¬ ltB b a = true := by
  unfold leB ltB; simp; omega
theorem leB_trans {a b c : Blob} (h1 : leB a b) (h2 : leB b c) : leB a c := by unfold leB at *; omega
theorem lt_le {a b : Blob} (h : ltB a b = true) : leB a b := by unfold leB; unfold ltB at h; simp at h; omega
theorem insAt_append (x : Blob) (t u : List Blob) : ∀ a, a ≤ t.length → insAt x (t ++ u) a = insAt x t a
  | 0, _ => rfl
  | a + 1, h => by
    have e : (t ++ u).getD a zeroB = t.getD a zeroB := by simp [List.getD_eq_getElem?_getD, List.getElem?_append_left (show a < t.length by omega)]
    unfold insAt
    rw [e, insAt_append x t u a (by omega)]
theorem bub_ins (x : Blob) : ∀ (n : Nat) (s r : List Blob), s.length = n → bub (s ++ x :: r) n = insB s x ++ r
  | 0, s, r, h => by
    have e : s = [] := List.length_eq_zero_iff.1 h
    subst e; simp [bub, insB, insAt]
  | n + 1, s, r, h => by
    rcases List.eq_nil_or_concat s with e | ⟨t, y, e⟩
    · subst e; simp at h
    · rw [List.concat_eq_append] at e
      subst e
      have ht : t.length = n := by simpa using h
      subst ht
      have e1 : (t ++ [y] ++ x :: r).getD (t.length + 1) zeroB = x := by simp [List.getD_eq_getElem?_getD]
      have e2 : (t ++ [y] ++ x :: r).getD t.length zeroB = y := by simp [List.getD_eq_getElem?_getD]
      have e3 : ((t ++ [y] ++ x :: r).set (t.length + 1) y).set t.length x = t ++ x :: (y :: r) := by simp
      rw [bub, e1, e2, e3]
      have e4 : insAt x (t ++ [y]) (t.length + 1) = if ltB x y = true then insAt x t t.length else t.length + 1 := by
        rw [insAt]
        have : (t ++ [y]).getD t.length zeroB = y := by simp [List.getD_eq_getElem?_getD]
        rw [this, insAt_append x t [y] t.length (Nat.le_refl _)]
      by_cases hc : cmpB x y < 0
      · have hl := (ltB_cmp x y).1 hc
        rw [if_pos hc, bub_ins x t.length t (y :: r) rfl]
        have hle := insAt_le x t t.length
        simp only [insB, List.length_append, List.length_cons, List.length_nil, Nat.zero_add]
        rw [e4, if_pos hl, List.take_append_of_le_length hle, List.drop_append_of_le_length hle]
        simp
      · have hl : ¬ ltB x y = true := fun h => hc ((ltB_cmp x y).2 h)
        rw [if_neg hc]
        simp only [insB, List.length_append, List.length_cons, List.length_nil, Nat.zero_add]
        rw [e4, if_neg hl, List.take_of_length_le (by simp), List.drop_of_length_le (by simp)]
        simp
theorem insS_ins : ∀ (r s : List Blob), insS (s ++ r) s.length r.length = r.foldl insB s
  | [], s => by simp [insS]
  | x :: r, s => by
    rw [List.length_cons, insS, bub_ins x s.length s r rfl, List.foldl_cons]
    have h := insS_ins r (insB s x)
    rw [insB_len] at h
    exact h
theorem sortF_ins (l : List Blob) : sortF l = l.foldl insB [] := by
  cases l with
  | nil => rfl
  | cons x r =>
    have h := insS_ins r [x]
    simp only [List.length_cons, List.length_nil, List.singleton_append] at h
    simp only [sortF, List.length_cons, Nat.add_sub_cancel, List.foldl_cons]
    have e : insB [] x = [x] := by simp [insB, insAt]
    rw [e]; exact h
theorem sort_filter : ∀ (l s : List Blob), l.foldl sortStep s = (l.filter fun b => !bad b).foldl insB s
  | [], s => rfl
  | x :: l, s => by
    rw [List.foldl_cons, sort_filter l, List.filter_cons]
    cases h : bad x with
    | true => simp [sortStep, h]
    | false => simp [sortStep, h]
theorem insAt_above (x : Blob) (s : List Blob) : ∀ a, a ≤ s.length → ∀ i, insAt x s a ≤ i → i < a → ltB x (s.getD i zeroB) = true
  | 0, _, i, _, h => by omega
  | a + 1, ha, i, h1, h2 => by
    unfold insAt at h1
    split at h1
    · rename_i h
      rcases Nat.lt_or_ge i a with h3 | h3
      · exact insAt_above x s a (by omega) i h1 h3
      · have : i = a := by omega
        subst this; exact h
    · omega
theorem insAt_below (x : Blob) (s : List Blob) : ∀ a, 0 < insAt x s a → ltB x (s.getD (insAt x s a - 1) zeroB) = false
  | 0, h => by simp [insAt] at h
  | a + 1, h => by
    unfold insAt at h ⊢
    split at h
    · rename_i h1
      rw [if_pos h1]; exact insAt_below x s a h
    · rename_i h1
      rw [if_neg h1]; simpa using h1
theorem insB_sorted (s : List Blob) (x : Blob) (h : s.Pairwise leB) : (insB s x).Pairwise leB := by
  unfold insB
  have hab := insAt_above x s s.length (Nat.le_refl _)
  have hbe := insAt_below x s s.length
  have hle := insAt_le x s s.length
  generalize insAt x s s.length = a at *
  have hs := List.pairwise_iff_getElem.1 h
  have hx1 : ∀ y ∈ s.take a, leB y x := by
    intro y hy
    obtain ⟨i, hi, rfl⟩ := List.getElem_of_mem hy
    simp at hi
    have hb := hbe (by omega)
    have hsa : a - 1 < s.length := by omega
    have e : s.getD (a - 1) zeroB = s[a - 1] := by simp [hsa]
    rw [e] at hb
    have h1 : leB s[a - 1] x := (leB_iff _ _).2 (by simp [hb])
    simp only [List.getElem_take]
    rcases Nat.lt_or_ge i (a - 1) with h2 | h2
    · exact leB_trans (hs i (a - 1) (by omega) hsa h2) h1
    · have : i = a - 1 := by omega
      subst this; exact h1
  have hx2 : ∀ y ∈ s.drop a, leB x y := by
    intro y hy
    obtain ⟨i, hi, rfl⟩ := List.getElem_of_mem hy
    simp at hi
    simp only [List.getElem_drop]
    have hai : a + i < s.length := by omega
    have := hab (a + i) (by omega) (by omega)
    have e : s.getD (a + i) zeroB = s[a + i] := by simp [hai]
    rw [e] at this
    exact lt_le this
  have hsp : (s.take a ++ s.drop a).Pairwise leB := by rw [List.take_append_drop]; exact h
  rw [List.pairwise_append] at hsp ⊢
  refine ⟨hsp.1, List.pairwise_cons.2 ⟨hx2, hsp.2.1⟩, fun y hy z hz => ?_⟩
  rcases List.mem_cons.1 hz with rfl | hz
  · exact hx1 y hy
  · exact hsp.2.2 y hy z hz
theorem sorted_fold : ∀ (l s : List Blob), s.Pairwise leB → (l.foldl insB s).Pairwise leB
  | [], s, h => h
  | x :: l, s, h => sorted_fold l _ (insB_sorted s x h)
theorem meets_far (a b : Blob) : meets a b = !far a b := by
  unfold meets far
  by_cases h : a.lane = b.lane
  · by_cases h1 : b.lo ≤ a.hi
    · have h2 : ¬ a.hi < b.lo := by omega
      simp [h, h1, h2]
    · by_cases h2 : b.lo - 1 = a.hi
      · have h3 : ¬ a.hi < b.lo - 1 := by omega
        have h4 : a.hi < b.lo := by omega
        simp [h, h1, h2, h3, h4]
      · have h3 : a.hi < b.lo - 1 := by omega
        have h4 : a.hi < b.lo := by omega
        simp [h, h1, h2, h3, h4]
  · simp [h]
theorem fold_eq : ∀ (l out : List Blob), l.Pairwise leB → (0 < out.length → ∀ b ∈ l, leB (out.getD (out.length - 1) zeroB) b) → l.foldl joinStep out = l.foldl glueStep out
  | [], out, _, _ => rfl
  | b :: l, out, h, ho => by
    rw [List.pairwise_cons] at h
    have hst : joinStep out b = glueStep out b := by
      unfold joinStep glueStep
      rw [meets_far]
      by_cases hc : 0 < out.length ∧ far (out.getD (out.length - 1) zeroB) b = false
      · have hle := ho hc.1 b List.mem_cons_self
        rw [if_pos ⟨hc.1, by rw [hc.2]; rfl⟩, if_pos hc]
        congr 1
        generalize out.getD (out.length - 1) zeroB = a at *
        have hm := meets_far a b
        rw [hc.2] at hm
        have hlane : a.lane = b.lane := by unfold meets at hm; simp at hm; exact hm.1
        have hlo : a.lo ≤ b.lo := by unfold leB at hle; omega
        unfold hullB glue
        rw [hlane, show min a.lo b.lo = a.lo by omega]
      · rw [if_neg (by simpa using hc), if_neg hc]
    rw [List.foldl_cons, List.foldl_cons, hst]
    refine fold_eq l _ h.2 fun hp c hcm => ?_
    have hbc := h.1 c hcm
    unfold glueStep
    split
    · rename_i hcc
      simp only [List.length_set]
      have hl : out.length - 1 < out.length := by omega
      have e : (out.set (out.length - 1) (glue (out.getD (out.length - 1) zeroB) b)).getD (out.length - 1) zeroB = glue (out.getD (out.length - 1) zeroB) b := by simp [List.getD_eq_getElem?_getD, List.getElem?_set_self hl]
      rw [e]
      have h1 := ho hcc.1 b List.mem_cons_self
      generalize out.getD (out.length - 1) zeroB = a at *
      have : leB (glue a b) b := by unfold leB glue; unfold leB at h1; simp; have := meets_far a b; rw [hcc.2] at this; unfold meets at this; simp at this; omega
      exact leB_trans this hbc
    · have e : (out ++ [b]).getD ((out ++ [b]).length - 1) zeroB = b := by simp [List.getD_eq_getElem?_getD]
      rw [e]; exact hbc
theorem joins_eq (l : List Blob) : joinF l = refJoinF l := by
  unfold joinF refJoinF
  rw [sortF_ins, sort_filter]
  exact fold_eq _ [] (sorted_fold _ [] List.Pairwise.nil) (by simp)
end Go.TrRun
namespace Go.TrRun
open Go Go.Eng
theorem awake_run : runE L Cs 400 f_kerbstonelaw05_awake [] [] = some (.w (.c (.bool true)), []) := by kernel_rfl
theorem R_awake : R L Cs f_kerbstonelaw05_awake [] [] = some (.w (Bo true), []) := R_iff.2 ⟨400, awake_run⟩
end Go.TrRun
set_option maxRecDepth 10000
namespace Go.TrRun
open Go Go.Eng
theorem R_trackJoin (l : List Blob) (hl : l.length ≤ 19) (hok : ∀ x ∈ l, OKB x) : R L Cs f_track_Join [.c (.rslice (rowsB l))] [] = some (.w (.c (.rslice (rowsB (refJoinF l)))), []) := by
  have h := R_motionJoin l hl hok
  rw [joins_eq] at h
  rw [R_fn F_track_Join rfl]
  simp [c_track_Join, h]
theorem glue_len : ∀ (l out : List Blob), (l.foldl glueStep out).length ≤ l.length + out.length
  | [], out => by simp
  | b :: l, out => by
    have := glue_len l (glueStep out b)
    have := glueStep_len out b
    simp only [List.foldl_cons, List.length_cons]; omega
theorem refJoinF_len (l : List Blob) : (refJoinF l).length ≤ l.length := by
  have h1 := glue_len (l.foldl sortStep []) []
  have h2 := sort_len l []
  simp at h1 h2
  unfold refJoinF; omega
end Go.TrRun
set_option maxRecDepth 10000
namespace Go.TrRun
open Go Go.Eng
def roadL (kind lim : Int) (next : List Int) (a b c d len : Int) : Lane := { kind := kind, pts := [(a, b), (c, d)], half := if kind = 3 then 500 else 1500, limit := lim, next := next, len := len }
def signalC (o a b : Int) : List Cl := [I o, .rslice [[I 12, .rslice [[I a]]], [I 5, .rslice []], [I 9, .rslice [[I b]]], [I 4, .rslice []]]]
theorem R_road (kind lim : Int) (next : List Int) (a b c d len : Int) : R L Cs f_kerbstonekit_road [W kind, W lim, .c (.rslice (rowsI next)), .c (.rslice (rowsI [a, b, c, d]))] [] = some (.w (.a (laneC (roadL kind lim next a b c d len))), []) := by
  rw [R_fn F_kerbstonekit_road rfl]
  have hw1 : IntKind.i64.wrap 1 = 1 := rfl
  have hw2 : IntKind.i64.wrap 2 = 2 := rfl
  have hw3 : IntKind.i64.wrap 3 = 3 := rfl
  have hw4 : IntKind.i64.wrap 4 = 4 := rfl
  have hw5 : IntKind.i64.wrap 5 = 5 := rfl
  have hy : ∃ M' S v, Y L Cs c_kerbstonekit_road_l1 (some [10, 8, 0, 3, 9]) 2 [(10, .w (W 0)), (8, .w (Pt 0)), (0, .w (W kind)), (3, .w (.c (.rslice (rowsI [a, b, c, d])))), (9, .w (Pt 1))] [bx 5 [I 0, .nilslice, I 0, I 0, .nilslice], bxv 1 5 [I kind, .nilslice, I 1500, I lim, .rslice (rowsI next)]] =
      some (.exit 0, [(19, .w (Bo false)), (10, .w (W 4)), (8, .w (Pt 0)), (0, .w (W kind)), (3, .w (.c (.rslice (rowsI [a, b, c, d])))), (9, .w (Pt 1))], bx 5 [I 0, .nilslice, I 0, I 0, .nilslice] :: bxv v 5 [I kind, S, I 1500, I lim, .rslice (rowsI next)] :: M') ∧
      (∀ x y : Option Blk, frzC (x :: y :: M') S = some (.rslice [[I a, I b], [I c, I d]])) := by
    refine ⟨[some (own 2 [[I a, I b]]), some (own 2 [[I a, I b], [I c, I d]]), some (own 2 [[I c, I d]])], .slice 3 2 2 0 2 none, 3, ?_, ?_⟩
    · rw [Y_step c_kerbstonekit_road_l1.eq_1]
      simp [hw1, hw2, hw3, hw4, hw5, newAt, memBelow]
      rw [Y_step c_kerbstonekit_road_l1.eq_1]
      simp [hw1, hw2, hw3, hw4, hw5, newAt, memBelow]
      rw [Y_step c_kerbstonekit_road_l1.eq_1]
      simp [hw1, hw2, hw3, hw4, hw5, newAt, memBelow]
    · intro x y; simp [frzC, look]
  obtain ⟨M', S, v, h1, h2⟩ := hy
  simp only [rowsI_cons, rowsI_nil] at h1
  have hf : ∀ (M : Mem) (x y : Option Blk) (k2 h2 l2 : Int), M = x :: y :: M' → frzA M (.w (.a [I k2, S, I h2, I l2, .rslice (rowsI next)])) = some (.w (.a [I k2, .rslice [[I a, I b], [I c, I d]], I h2, I l2, .rslice (rowsI next)])) := by
    intro M x y k2 h2' l2 hM
    subst hM
    simp only [frzA, frzW, frzs, h2 x y]
    rfl
  by_cases hk : kind = 3
  · subst hk
    simp [c_kerbstonekit_road, h1, -leave]
    exact leave_all (hf _ _ _ _ _ _ rfl) rfl
  · have hb : (kind == 3) = false := by simp [hk]
    simp [c_kerbstonekit_road, h1, hk, hb, -leave]
    have e : laneC (roadL kind lim next a b c d len) = [I kind, .rslice [[I a, I b], [I c, I d]], I 1500, I lim, .rslice (rowsI next)] := by simp [laneC, roadL, hk]
    rw [e]
    exact leave_all (hf _ _ _ _ _ _ rfl) rfl
theorem R_signal (o a b : Int) : R L Cs f_kerbstonekit_signal [W o, W a, W b] [] = some (.w (.a (signalC o a b)), []) := by
  rw [R_fn F_kerbstonekit_signal rfl]
  simp [c_kerbstonekit_signal, signalC, newAt, markOne]
theorem R_Mod (n : Int) : R L Cs f_kerbstonekit_Mod [W n, W 16777216] [] = some (.w (W (n % 16777216)), []) := by
  rw [R_fn F_kerbstonekit_Mod rfl]
  have h1 : 0 ≤ n → n.tmod 16777216 = n % 16777216 := Int.tmod_eq_emod_of_nonneg
  have h2 : n < 0 → n.tmod 16777216 = -((-n) % 16777216) := fun hn => by
    have e1 : (-n).tmod 16777216 = (-n) % 16777216 := Int.tmod_eq_emod_of_nonneg (by omega)
    have e2 := Int.neg_tmod (-n) 16777216
    rw [Int.neg_neg, e1] at e2
    exact e2
  by_cases h : n.tmod 16777216 < 0
  · have e : IntKind.i64.wrap (n.tmod 16777216 + 16777216) = n % 16777216 := by
      rw [i64_id _ (by omega) (by omega)]; omega
    simp [c_kerbstonekit_Mod, h, e]
  · have e : n.tmod 16777216 = n % 16777216 := by omega
    have h3 : ¬ n % 16777216 < 0 := by omega
    simp [c_kerbstonekit_Mod, h3, e]
theorem tdiv_wrap {N d : Int} (hN : 0 ≤ N ∧ N < 16777216) (hd : 0 < d) : IntKind.i64.wrap (N.tdiv d) = N.tdiv d := by
  rw [Int.tdiv_eq_ediv_of_nonneg hN.1]
  have h1 : 0 ≤ N / d := Int.ediv_nonneg hN.1 (by omega)
  have h2 : N / d ≤ N := Int.ediv_le_self _ hN.1
  exact i64_id _ (by omega) (by omega)
theorem tmod_lt (N d e : Int) (hN : 0 ≤ N ∧ N < 16777216) (hd : 0 < d) (he : 0 < e) : 0 ≤ (N.tdiv d).tmod e ∧ (N.tdiv d).tmod e < e := by
  rw [Int.tdiv_eq_ediv_of_nonneg hN.1]
  have h1 : 0 ≤ N / d := Int.ediv_nonneg hN.1 (by omega)
  rw [Int.tmod_eq_emod_of_nonneg h1]
  exact ⟨Int.emod_nonneg _ (by omega), Int.emod_lt_of_pos _ he⟩
end Go.TrRun
set_option maxRecDepth 10000
namespace Go.TrRun
open Go Go.Eng
def partC (l a b r : Int) : List Cl := [I l, I a, I b, I r]
def zoneC (ps : List (List Cl)) (s : Int) : List Cl := [.rslice ps, I s]
def lanesP (k : Nat) (lim : Int) : List Lane := match k with
  | 0 => [roadL 1 lim [] 0 0 60000 0 60000]
  | 1 | 2 => [roadL 1 lim [] 0 0 50000 0 50000, roadL 1 1500 [] 30000 (-20000) 30000 20000 40000]
  | 3 => [roadL 1 lim [1, 2] 0 0 30000 0 30000, roadL 1 1500 [] 30000 0 60000 0 30000, roadL 1 800 [] 30000 0 54000 10000 26000]
  | 4 => [roadL 1 lim [2] 0 0 30000 0 30000, roadL 1 1500 [2] 6000 (-10000) 30000 0 26000, roadL 1 1500 [] 30000 0 60000 0 30000]
  | 5 => [roadL 1 lim [1] 0 0 20000 0 20000, roadL 1 lim [] 20000 0 50000 0 30000, roadL 3 200 [] 35000 (-8000) 35000 8000 16000]
  | _ => [roadL 1 lim [1, 2] 0 0 20000 0 20000, roadL 1 1500 [] 20000 0 50000 0 30000, roadL 1 1000 [] 20000 0 44000 10000 26000, roadL 2 700 [] 36000 (-12000) 36000 18000 30000]
def zonesP (k : Nat) (r : Int) : List (List Cl) := match k with
  | 0 => []
  | 1 => [zoneC [partC 0 28000 32000 r, partC 1 18000 22000 (2 - 2 * r)] 0]
  | 2 => [zoneC [partC 0 28000 32000 r, partC 1 18000 22000 (2 - 2 * r)] 1]
  | 3 => []
  | 4 => [zoneC [partC 0 25000 30000 1, partC 1 20000 26000 0, partC 2 0 5000 0] 0]
  | 5 => [zoneC [partC 1 14000 16000 0, partC 2 6000 10000 3] 0]
  | _ => [zoneC [partC 1 14000 18000 1, partC 3 10000 14000 0] (if r = 1 then 1 else 0), zoneC [partC 2 14000 21000 1, partC 3 14500 23000 0] (if r = 1 then 2 else 0)]
def signalsP (k : Nat) (r o1 o2 o3 : Int) : List (List Cl) := match k with
  | 2 => [signalC o1 0 1]
  | 6 => if r = 1 then [signalC o2 1 3, signalC o3 2 3] else []
  | _ => []
def worksP (w b t : Int) : List Work := if w = 1 then [⟨0, 10000, 15000, b, b + 20, t * 200⟩] else []
def mapP (k : Nat) (lim r o1 o2 o3 v w b t : Int) : GMap := { version := v, lanes := lanesP k lim, zones := zonesP k r, signals := signalsP k r o1 o2 o3, works := worksP w b t }
def limF (j : Nat) : Int := match j with | 0 => 1500 | 1 => 600 | 2 => 1000 | _ => 300
theorem lim_get (j : Nat) (hj : j < 4) : ([[I 1500], [I 600], [I 1000], [I 300]] : List (List Cl))[j]? = some [I (limF j)] := by
  match j, hj with
  | 0, _ => rfl
  | 1, _ => rfl
  | 2, _ => rfl
  | 3, _ => rfl
theorem lim_get2 (j : Nat) (h : j < ([[I 1500], [I 600], [I 1000], [I 300]] : List (List Cl)).length) : ([[I 1500], [I 600], [I 1000], [I 300]] : List (List Cl))[j] = [I (limF j)] := by
  match j, h with
  | 0, _ => rfl
  | 1, _ => rfl
  | 2, _ => rfl
  | 3, _ => rfl
set_option maxHeartbeats 4000000 in
theorem R_Map0w (n : Int) (h7 : (n % 16777216).tmod 7 = 0)  (hw : ((n % 16777216).tdiv 1736).tmod 3 = 1) :
    R L Cs f_kerbstonekit_Map [W n] [] = some (.w (.a (mapC (mapP 0 (limF (((n % 16777216).tdiv 7).tmod 4).toNat) (((n % 16777216).tdiv 28).tmod 2) (((n % 16777216).tdiv 28).tmod 31) (((n % 16777216).tdiv 56).tmod 31) (((n % 16777216).tdiv 56).tmod 17) (((n % 16777216).tdiv 28).tmod 5) (((n % 16777216).tdiv 1736).tmod 3) (((n % 16777216).tdiv 5208).tmod 40) (((n % 16777216).tdiv 208320).tmod 3)))), []) := by
  have hM := R_Mod n
  have hN : 0 ≤ n % 16777216 ∧ n % 16777216 < 16777216 := by omega
  generalize n % 16777216 = N at *
  have w7 : IntKind.i64.wrap (N.tdiv 7) = N.tdiv 7 := tdiv_wrap hN (by decide)
  have w28 : IntKind.i64.wrap (N.tdiv 28) = N.tdiv 28 := tdiv_wrap hN (by decide)
  have w56 : IntKind.i64.wrap (N.tdiv 56) = N.tdiv 56 := tdiv_wrap hN (by decide)
  have w1736 : IntKind.i64.wrap (N.tdiv 1736) = N.tdiv 1736 := tdiv_wrap hN (by decide)
  have w5208 : IntKind.i64.wrap (N.tdiv 5208) = N.tdiv 5208 := tdiv_wrap hN (by decide)
  have w208320 : IntKind.i64.wrap (N.tdiv 208320) = N.tdiv 208320 := tdiv_wrap hN (by decide)
  have hj := tmod_lt N 7 4 hN (by decide) (by decide)
  obtain ⟨j, hje⟩ := Int.eq_ofNat_of_zero_le hj.1
  have hj4 : j < 4 := by omega
  have hlg := lim_get j hj4
  have hj4' : (j : Int) < 4 := by omega
  have r2 := tmod_lt N 28 2 hN (by decide) (by decide)
  have v5 := tmod_lt N 28 5 hN (by decide) (by decide)
  have b40 := tmod_lt N 5208 40 hN (by decide) (by decide)
  have t3 := tmod_lt N 208320 3 hN (by decide) (by decide)
  have wr1 : IntKind.i64.wrap (2 * (N.tdiv 28).tmod 2) = 2 * (N.tdiv 28).tmod 2 := i64_id _ (by omega) (by omega)
  have wr2 : IntKind.i64.wrap (2 - 2 * (N.tdiv 28).tmod 2) = 2 - 2 * (N.tdiv 28).tmod 2 := i64_id _ (by omega) (by omega)
  have wb : IntKind.i64.wrap ((N.tdiv 5208).tmod 40 + 20) = (N.tdiv 5208).tmod 40 + 20 := i64_id _ (by omega) (by omega)
  have wt : IntKind.i64.wrap ((N.tdiv 208320).tmod 3 * 200) = (N.tdiv 208320).tmod 3 * 200 := i64_id _ (by omega) (by omega)
  have hwb : (((N.tdiv 1736).tmod 3) == 1) = true := by simp [hw]
  have q0 := R_road 1 (limF j) [] 0 0 60000 0 60000
  simp only [rowsI_cons, rowsI_nil, laneC, roadL, List.map_cons, List.map_nil] at q0
  simp at q0
  rw [R_fn F_kerbstonekit_Map rfl]
  simp (config := { maxSteps := 1000000 }) [c_kerbstonekit_Map, hM, h7, hje, hlg, lim_get2, hj4, hj4', w7, w28, w56, w1736, w5208, w208320, wr1, wr2, wb, wt, hwb, hw, q0, newAt, markOne, memBelow, noIds, mapC, mapP, lanesP, zonesP, signalsP, worksP, laneC, roadL, workC, zoneC, partC, signalC]
set_option maxHeartbeats 4000000 in
theorem R_Map0 (n : Int) (h7 : (n % 16777216).tmod 7 = 0)  (hw : ((n % 16777216).tdiv 1736).tmod 3 ≠ 1) :
    R L Cs f_kerbstonekit_Map [W n] [] = some (.w (.a (mapC (mapP 0 (limF (((n % 16777216).tdiv 7).tmod 4).toNat) (((n % 16777216).tdiv 28).tmod 2) (((n % 16777216).tdiv 28).tmod 31) (((n % 16777216).tdiv 56).tmod 31) (((n % 16777216).tdiv 56).tmod 17) (((n % 16777216).tdiv 28).tmod 5) (((n % 16777216).tdiv 1736).tmod 3) (((n % 16777216).tdiv 5208).tmod 40) (((n % 16777216).tdiv 208320).tmod 3)))), []) := by
  have hM := R_Mod n
  have hN : 0 ≤ n % 16777216 ∧ n % 16777216 < 16777216 := by omega
  generalize n % 16777216 = N at *
  have w7 : IntKind.i64.wrap (N.tdiv 7) = N.tdiv 7 := tdiv_wrap hN (by decide)
  have w28 : IntKind.i64.wrap (N.tdiv 28) = N.tdiv 28 := tdiv_wrap hN (by decide)
  have w56 : IntKind.i64.wrap (N.tdiv 56) = N.tdiv 56 := tdiv_wrap hN (by decide)
  have w1736 : IntKind.i64.wrap (N.tdiv 1736) = N.tdiv 1736 := tdiv_wrap hN (by decide)
  have w5208 : IntKind.i64.wrap (N.tdiv 5208) = N.tdiv 5208 := tdiv_wrap hN (by decide)
  have w208320 : IntKind.i64.wrap (N.tdiv 208320) = N.tdiv 208320 := tdiv_wrap hN (by decide)
  have hj := tmod_lt N 7 4 hN (by decide) (by decide)
  obtain ⟨j, hje⟩ := Int.eq_ofNat_of_zero_le hj.1
  have hj4 : j < 4 := by omega
  have hlg := lim_get j hj4
  have hj4' : (j : Int) < 4 := by omega
  have r2 := tmod_lt N 28 2 hN (by decide) (by decide)
  have v5 := tmod_lt N 28 5 hN (by decide) (by decide)
  have b40 := tmod_lt N 5208 40 hN (by decide) (by decide)
  have t3 := tmod_lt N 208320 3 hN (by decide) (by decide)
  have wr1 : IntKind.i64.wrap (2 * (N.tdiv 28).tmod 2) = 2 * (N.tdiv 28).tmod 2 := i64_id _ (by omega) (by omega)
  have wr2 : IntKind.i64.wrap (2 - 2 * (N.tdiv 28).tmod 2) = 2 - 2 * (N.tdiv 28).tmod 2 := i64_id _ (by omega) (by omega)
  have wb : IntKind.i64.wrap ((N.tdiv 5208).tmod 40 + 20) = (N.tdiv 5208).tmod 40 + 20 := i64_id _ (by omega) (by omega)
  have wt : IntKind.i64.wrap ((N.tdiv 208320).tmod 3 * 200) = (N.tdiv 208320).tmod 3 * 200 := i64_id _ (by omega) (by omega)
  have hwb : (((N.tdiv 1736).tmod 3) == 1) = false := by simp [hw]
  have q0 := R_road 1 (limF j) [] 0 0 60000 0 60000
  simp only [rowsI_cons, rowsI_nil, laneC, roadL, List.map_cons, List.map_nil] at q0
  simp at q0
  rw [R_fn F_kerbstonekit_Map rfl]
  simp (config := { maxSteps := 1000000 }) [c_kerbstonekit_Map, hM, h7, hje, hlg, lim_get2, hj4, hj4', w7, w28, w56, w1736, w5208, w208320, wr1, wr2, wb, wt, hwb, hw, q0, newAt, markOne, memBelow, noIds, mapC, mapP, lanesP, zonesP, signalsP, worksP, laneC, roadL, workC, zoneC, partC, signalC]
set_option maxHeartbeats 4000000 in
theorem R_Map1w (n : Int) (h7 : (n % 16777216).tmod 7 = 1)  (hw : ((n % 16777216).tdiv 1736).tmod 3 = 1) :
    R L Cs f_kerbstonekit_Map [W n] [] = some (.w (.a (mapC (mapP 1 (limF (((n % 16777216).tdiv 7).tmod 4).toNat) (((n % 16777216).tdiv 28).tmod 2) (((n % 16777216).tdiv 28).tmod 31) (((n % 16777216).tdiv 56).tmod 31) (((n % 16777216).tdiv 56).tmod 17) (((n % 16777216).tdiv 28).tmod 5) (((n % 16777216).tdiv 1736).tmod 3) (((n % 16777216).tdiv 5208).tmod 40) (((n % 16777216).tdiv 208320).tmod 3)))), []) := by
  have hM := R_Mod n
  have hN : 0 ≤ n % 16777216 ∧ n % 16777216 < 16777216 := by omega
  generalize n % 16777216 = N at *
  have w7 : IntKind.i64.wrap (N.tdiv 7) = N.tdiv 7 := tdiv_wrap hN (by decide)
  have w28 : IntKind.i64.wrap (N.tdiv 28) = N.tdiv 28 := tdiv_wrap hN (by decide)
  have w56 : IntKind.i64.wrap (N.tdiv 56) = N.tdiv 56 := tdiv_wrap hN (by decide)
  have w1736 : IntKind.i64.wrap (N.tdiv 1736) = N.tdiv 1736 := tdiv_wrap hN (by decide)
  have w5208 : IntKind.i64.wrap (N.tdiv 5208) = N.tdiv 5208 := tdiv_wrap hN (by decide)
  have w208320 : IntKind.i64.wrap (N.tdiv 208320) = N.tdiv 208320 := tdiv_wrap hN (by decide)
  have hj := tmod_lt N 7 4 hN (by decide) (by decide)
  obtain ⟨j, hje⟩ := Int.eq_ofNat_of_zero_le hj.1
  have hj4 : j < 4 := by omega
  have hlg := lim_get j hj4
  have hj4' : (j : Int) < 4 := by omega
  have r2 := tmod_lt N 28 2 hN (by decide) (by decide)
  have v5 := tmod_lt N 28 5 hN (by decide) (by decide)
  have b40 := tmod_lt N 5208 40 hN (by decide) (by decide)
  have t3 := tmod_lt N 208320 3 hN (by decide) (by decide)
  have wr1 : IntKind.i64.wrap (2 * (N.tdiv 28).tmod 2) = 2 * (N.tdiv 28).tmod 2 := i64_id _ (by omega) (by omega)
  have wr2 : IntKind.i64.wrap (2 - 2 * (N.tdiv 28).tmod 2) = 2 - 2 * (N.tdiv 28).tmod 2 := i64_id _ (by omega) (by omega)
  have wb : IntKind.i64.wrap ((N.tdiv 5208).tmod 40 + 20) = (N.tdiv 5208).tmod 40 + 20 := i64_id _ (by omega) (by omega)
  have wt : IntKind.i64.wrap ((N.tdiv 208320).tmod 3 * 200) = (N.tdiv 208320).tmod 3 * 200 := i64_id _ (by omega) (by omega)
  have hwb : (((N.tdiv 1736).tmod 3) == 1) = true := by simp [hw]
  have q0 := R_road 1 (limF j) [] 0 0 50000 0 50000
  have q1 := R_road 1 1500 [] 30000 (-20000) 30000 20000 40000
  simp only [rowsI_cons, rowsI_nil, laneC, roadL, List.map_cons, List.map_nil] at q0 q1
  simp at q0 q1
  rw [R_fn F_kerbstonekit_Map rfl]
  simp (config := { maxSteps := 1000000 }) [c_kerbstonekit_Map, hM, h7, hje, hlg, lim_get2, hj4, hj4', w7, w28, w56, w1736, w5208, w208320, wr1, wr2, wb, wt, hwb, hw, q0, q1, newAt, markOne, memBelow, noIds, mapC, mapP, lanesP, zonesP, signalsP, worksP, laneC, roadL, workC, zoneC, partC, signalC]
set_option maxHeartbeats 4000000 in
theorem R_Map1 (n : Int) (h7 : (n % 16777216).tmod 7 = 1)  (hw : ((n % 16777216).tdiv 1736).tmod 3 ≠ 1) :
    R L Cs f_kerbstonekit_Map [W n] [] = some (.w (.a (mapC (mapP 1 (limF (((n % 16777216).tdiv 7).tmod 4).toNat) (((n % 16777216).tdiv 28).tmod 2) (((n % 16777216).tdiv 28).tmod 31) (((n % 16777216).tdiv 56).tmod 31) (((n % 16777216).tdiv 56).tmod 17) (((n % 16777216).tdiv 28).tmod 5) (((n % 16777216).tdiv 1736).tmod 3) (((n % 16777216).tdiv 5208).tmod 40) (((n % 16777216).tdiv 208320).tmod 3)))), []) := by
  have hM := R_Mod n
  have hN : 0 ≤ n % 16777216 ∧ n % 16777216 < 16777216 := by omega
  generalize n % 16777216 = N at *
  have w7 : IntKind.i64.wrap (N.tdiv 7) = N.tdiv 7 := tdiv_wrap hN (by decide)
  have w28 : IntKind.i64.wrap (N.tdiv 28) = N.tdiv 28 := tdiv_wrap hN (by decide)
  have w56 : IntKind.i64.wrap (N.tdiv 56) = N.tdiv 56 := tdiv_wrap hN (by decide)
  have w1736 : IntKind.i64.wrap (N.tdiv 1736) = N.tdiv 1736 := tdiv_wrap hN (by decide)
  have w5208 : IntKind.i64.wrap (N.tdiv 5208) = N.tdiv 5208 := tdiv_wrap hN (by decide)
  have w208320 : IntKind.i64.wrap (N.tdiv 208320) = N.tdiv 208320 := tdiv_wrap hN (by decide)
  have hj := tmod_lt N 7 4 hN (by decide) (by decide)
  obtain ⟨j, hje⟩ := Int.eq_ofNat_of_zero_le hj.1
  have hj4 : j < 4 := by omega
  have hlg := lim_get j hj4
  have hj4' : (j : Int) < 4 := by omega
  have r2 := tmod_lt N 28 2 hN (by decide) (by decide)
  have v5 := tmod_lt N 28 5 hN (by decide) (by decide)
  have b40 := tmod_lt N 5208 40 hN (by decide) (by decide)
  have t3 := tmod_lt N 208320 3 hN (by decide) (by decide)
  have wr1 : IntKind.i64.wrap (2 * (N.tdiv 28).tmod 2) = 2 * (N.tdiv 28).tmod 2 := i64_id _ (by omega) (by omega)
  have wr2 : IntKind.i64.wrap (2 - 2 * (N.tdiv 28).tmod 2) = 2 - 2 * (N.tdiv 28).tmod 2 := i64_id _ (by omega) (by omega)
  have wb : IntKind.i64.wrap ((N.tdiv 5208).tmod 40 + 20) = (N.tdiv 5208).tmod 40 + 20 := i64_id _ (by omega) (by omega)
  have wt : IntKind.i64.wrap ((N.tdiv 208320).tmod 3 * 200) = (N.tdiv 208320).tmod 3 * 200 := i64_id _ (by omega) (by omega)
  have hwb : (((N.tdiv 1736).tmod 3) == 1) = false := by simp [hw]
  have q0 := R_road 1 (limF j) [] 0 0 50000 0 50000
  have q1 := R_road 1 1500 [] 30000 (-20000) 30000 20000 40000
  simp only [rowsI_cons, rowsI_nil, laneC, roadL, List.map_cons, List.map_nil] at q0 q1
  simp at q0 q1
  rw [R_fn F_kerbstonekit_Map rfl]
  simp (config := { maxSteps := 1000000 }) [c_kerbstonekit_Map, hM, h7, hje, hlg, lim_get2, hj4, hj4', w7, w28, w56, w1736, w5208, w208320, wr1, wr2, wb, wt, hwb, hw, q0, q1, newAt, markOne, memBelow, noIds, mapC, mapP, lanesP, zonesP, signalsP, worksP, laneC, roadL, workC, zoneC, partC, signalC]
set_option maxHeartbeats 4000000 in
theorem R_Map2w (n : Int) (h7 : (n % 16777216).tmod 7 = 2)  (hw : ((n % 16777216).tdiv 1736).tmod 3 = 1) :
    R L Cs f_kerbstonekit_Map [W n] [] = some (.w (.a (mapC (mapP 2 (limF (((n % 16777216).tdiv 7).tmod 4).toNat) (((n % 16777216).tdiv 28).tmod 2) (((n % 16777216).tdiv 28).tmod 31) (((n % 16777216).tdiv 56).tmod 31) (((n % 16777216).tdiv 56).tmod 17) (((n % 16777216).tdiv 28).tmod 5) (((n % 16777216).tdiv 1736).tmod 3) (((n % 16777216).tdiv 5208).tmod 40) (((n % 16777216).tdiv 208320).tmod 3)))), []) := by
  have hM := R_Mod n
  have hN : 0 ≤ n % 16777216 ∧ n % 16777216 < 16777216 := by omega
  generalize n % 16777216 = N at *
  have w7 : IntKind.i64.wrap (N.tdiv 7) = N.tdiv 7 := tdiv_wrap hN (by decide)
  have w28 : IntKind.i64.wrap (N.tdiv 28) = N.tdiv 28 := tdiv_wrap hN (by decide)
  have w56 : IntKind.i64.wrap (N.tdiv 56) = N.tdiv 56 := tdiv_wrap hN (by decide)
  have w1736 : IntKind.i64.wrap (N.tdiv 1736) = N.tdiv 1736 := tdiv_wrap hN (by decide)
  have w5208 : IntKind.i64.wrap (N.tdiv 5208) = N.tdiv 5208 := tdiv_wrap hN (by decide)
  have w208320 : IntKind.i64.wrap (N.tdiv 208320) = N.tdiv 208320 := tdiv_wrap hN (by decide)
  have hj := tmod_lt N 7 4 hN (by decide) (by decide)
  obtain ⟨j, hje⟩ := Int.eq_ofNat_of_zero_le hj.1
  have hj4 : j < 4 := by omega
  have hlg := lim_get j hj4
  have hj4' : (j : Int) < 4 := by omega
  have r2 := tmod_lt N 28 2 hN (by decide) (by decide)
  have v5 := tmod_lt N 28 5 hN (by decide) (by decide)
  have b40 := tmod_lt N 5208 40 hN (by decide) (by decide)
  have t3 := tmod_lt N 208320 3 hN (by decide) (by decide)
  have wr1 : IntKind.i64.wrap (2 * (N.tdiv 28).tmod 2) = 2 * (N.tdiv 28).tmod 2 := i64_id _ (by omega) (by omega)
  have wr2 : IntKind.i64.wrap (2 - 2 * (N.tdiv 28).tmod 2) = 2 - 2 * (N.tdiv 28).tmod 2 := i64_id _ (by omega) (by omega)
  have wb : IntKind.i64.wrap ((N.tdiv 5208).tmod 40 + 20) = (N.tdiv 5208).tmod 40 + 20 := i64_id _ (by omega) (by omega)
  have wt : IntKind.i64.wrap ((N.tdiv 208320).tmod 3 * 200) = (N.tdiv 208320).tmod 3 * 200 := i64_id _ (by omega) (by omega)
  have hwb : (((N.tdiv 1736).tmod 3) == 1) = true := by simp [hw]
  have q0 := R_road 1 (limF j) [] 0 0 50000 0 50000
  have q1 := R_road 1 1500 [] 30000 (-20000) 30000 20000 40000
  simp only [rowsI_cons, rowsI_nil, laneC, roadL, List.map_cons, List.map_nil] at q0 q1
  simp at q0 q1
  have s1 := R_signal ((N.tdiv 28).tmod 31) 0 1
  simp only [signalC] at s1
  rw [R_fn F_kerbstonekit_Map rfl]
  simp (config := { maxSteps := 1000000 }) [c_kerbstonekit_Map, hM, h7, hje, hlg, lim_get2, hj4, hj4', w7, w28, w56, w1736, w5208, w208320, wr1, wr2, wb, wt, hwb, hw, q0, q1, s1, newAt, markOne, memBelow, noIds, mapC, mapP, lanesP, zonesP, signalsP, worksP, laneC, roadL, workC, zoneC, partC, signalC]
set_option maxHeartbeats 4000000 in
theorem R_Map2 (n : Int) (h7 : (n % 16777216).tmod 7 = 2)  (hw : ((n % 16777216).tdiv 1736).tmod 3 ≠ 1) :
    R L Cs f_kerbstonekit_Map [W n] [] = some (.w (.a (mapC (mapP 2 (limF (((n % 16777216).tdiv 7).tmod 4).toNat) (((n % 16777216).tdiv 28).tmod 2) (((n % 16777216).tdiv 28).tmod 31) (((n % 16777216).tdiv 56).tmod 31) (((n % 16777216).tdiv 56).tmod 17) (((n % 16777216).tdiv 28).tmod 5) (((n % 16777216).tdiv 1736).tmod 3) (((n % 16777216).tdiv 5208).tmod 40) (((n % 16777216).tdiv 208320).tmod 3)))), []) := by
  have hM := R_Mod n
  have hN : 0 ≤ n % 16777216 ∧ n % 16777216 < 16777216 := by omega
  generalize n % 16777216 = N at *
  have w7 : IntKind.i64.wrap (N.tdiv 7) = N.tdiv 7 := tdiv_wrap hN (by decide)
  have w28 : IntKind.i64.wrap (N.tdiv 28) = N.tdiv 28 := tdiv_wrap hN (by decide)
  have w56 : IntKind.i64.wrap (N.tdiv 56) = N.tdiv 56 := tdiv_wrap hN (by decide)
  have w1736 : IntKind.i64.wrap (N.tdiv 1736) = N.tdiv 1736 := tdiv_wrap hN (by decide)
  have w5208 : IntKind.i64.wrap (N.tdiv 5208) = N.tdiv 5208 := tdiv_wrap hN (by decide)
  have w208320 : IntKind.i64.wrap (N.tdiv 208320) = N.tdiv 208320 := tdiv_wrap hN (by decide)
  have hj := tmod_lt N 7 4 hN (by decide) (by decide)
  obtain ⟨j, hje⟩ := Int.eq_ofNat_of_zero_le hj.1
  have hj4 : j < 4 := by omega
  have hlg := lim_get j hj4
  have hj4' : (j : Int) < 4 := by omega
  have r2 := tmod_lt N 28 2 hN (by decide) (by decide)
  have v5 := tmod_lt N 28 5 hN (by decide) (by decide)
  have b40 := tmod_lt N 5208 40 hN (by decide) (by decide)
  have t3 := tmod_lt N 208320 3 hN (by decide) (by decide)
  have wr1 : IntKind.i64.wrap (2 * (N.tdiv 28).tmod 2) = 2 * (N.tdiv 28).tmod 2 := i64_id _ (by omega) (by omega)
  have wr2 : IntKind.i64.wrap (2 - 2 * (N.tdiv 28).tmod 2) = 2 - 2 * (N.tdiv 28).tmod 2 := i64_id _ (by omega) (by omega)
  have wb : IntKind.i64.wrap ((N.tdiv 5208).tmod 40 + 20) = (N.tdiv 5208).tmod 40 + 20 := i64_id _ (by omega) (by omega)
  have wt : IntKind.i64.wrap ((N.tdiv 208320).tmod 3 * 200) = (N.tdiv 208320).tmod 3 * 200 := i64_id _ (by omega) (by omega)
  have hwb : (((N.tdiv 1736).tmod 3) == 1) = false := by simp [hw]
  have q0 := R_road 1 (limF j) [] 0 0 50000 0 50000
  have q1 := R_road 1 1500 [] 30000 (-20000) 30000 20000 40000
  simp only [rowsI_cons, rowsI_nil, laneC, roadL, List.map_cons, List.map_nil] at q0 q1
  simp at q0 q1
  have s1 := R_signal ((N.tdiv 28).tmod 31) 0 1
  simp only [signalC] at s1
  rw [R_fn F_kerbstonekit_Map rfl]
  simp (config := { maxSteps := 1000000 }) [c_kerbstonekit_Map, hM, h7, hje, hlg, lim_get2, hj4, hj4', w7, w28, w56, w1736, w5208, w208320, wr1, wr2, wb, wt, hwb, hw, q0, q1, s1, newAt, markOne, memBelow, noIds, mapC, mapP, lanesP, zonesP, signalsP, worksP, laneC, roadL, workC, zoneC, partC, signalC]
set_option maxHeartbeats 4000000 in
theorem R_Map3w (n : Int) (h7 : (n % 16777216).tmod 7 = 3)  (hw : ((n % 16777216).tdiv 1736).tmod 3 = 1) :
    R L Cs f_kerbstonekit_Map [W n] [] = some (.w (.a (mapC (mapP 3 (limF (((n % 16777216).tdiv 7).tmod 4).toNat) (((n % 16777216).tdiv 28).tmod 2) (((n % 16777216).tdiv 28).tmod 31) (((n % 16777216).tdiv 56).tmod 31) (((n % 16777216).tdiv 56).tmod 17) (((n % 16777216).tdiv 28).tmod 5) (((n % 16777216).tdiv 1736).tmod 3) (((n % 16777216).tdiv 5208).tmod 40) (((n % 16777216).tdiv 208320).tmod 3)))), []) := by
  have hM := R_Mod n
  have hN : 0 ≤ n % 16777216 ∧ n % 16777216 < 16777216 := by omega
  generalize n % 16777216 = N at *
  have w7 : IntKind.i64.wrap (N.tdiv 7) = N.tdiv 7 := tdiv_wrap hN (by decide)
  have w28 : IntKind.i64.wrap (N.tdiv 28) = N.tdiv 28 := tdiv_wrap hN (by decide)
  have w56 : IntKind.i64.wrap (N.tdiv 56) = N.tdiv 56 := tdiv_wrap hN (by decide)
  have w1736 : IntKind.i64.wrap (N.tdiv 1736) = N.tdiv 1736 := tdiv_wrap hN (by decide)
  have w5208 : IntKind.i64.wrap (N.tdiv 5208) = N.tdiv 5208 := tdiv_wrap hN (by decide)
  have w208320 : IntKind.i64.wrap (N.tdiv 208320) = N.tdiv 208320 := tdiv_wrap hN (by decide)
  have hj := tmod_lt N 7 4 hN (by decide) (by decide)
  obtain ⟨j, hje⟩ := Int.eq_ofNat_of_zero_le hj.1
  have hj4 : j < 4 := by omega
  have hlg := lim_get j hj4
  have hj4' : (j : Int) < 4 := by omega
  have r2 := tmod_lt N 28 2 hN (by decide) (by decide)
  have v5 := tmod_lt N 28 5 hN (by decide) (by decide)
  have b40 := tmod_lt N 5208 40 hN (by decide) (by decide)
  have t3 := tmod_lt N 208320 3 hN (by decide) (by decide)
  have wr1 : IntKind.i64.wrap (2 * (N.tdiv 28).tmod 2) = 2 * (N.tdiv 28).tmod 2 := i64_id _ (by omega) (by omega)
  have wr2 : IntKind.i64.wrap (2 - 2 * (N.tdiv 28).tmod 2) = 2 - 2 * (N.tdiv 28).tmod 2 := i64_id _ (by omega) (by omega)
  have wb : IntKind.i64.wrap ((N.tdiv 5208).tmod 40 + 20) = (N.tdiv 5208).tmod 40 + 20 := i64_id _ (by omega) (by omega)
  have wt : IntKind.i64.wrap ((N.tdiv 208320).tmod 3 * 200) = (N.tdiv 208320).tmod 3 * 200 := i64_id _ (by omega) (by omega)
  have hwb : (((N.tdiv 1736).tmod 3) == 1) = true := by simp [hw]
  have q0 := R_road 1 (limF j) [1, 2] 0 0 30000 0 30000
  have q1 := R_road 1 1500 [] 30000 0 60000 0 30000
  have q2 := R_road 1 800 [] 30000 0 54000 10000 26000
  simp only [rowsI_cons, rowsI_nil, laneC, roadL, List.map_cons, List.map_nil] at q0 q1 q2
  simp at q0 q1 q2
  rw [R_fn F_kerbstonekit_Map rfl]
  simp (config := { maxSteps := 1000000 }) [c_kerbstonekit_Map, hM, h7, hje, hlg, lim_get2, hj4, hj4', w7, w28, w56, w1736, w5208, w208320, wr1, wr2, wb, wt, hwb, hw, q0, q1, q2, newAt, markOne, memBelow, noIds, mapC, mapP, lanesP, zonesP, signalsP, worksP, laneC, roadL, workC, zoneC, partC, signalC]
set_option maxHeartbeats 4000000 in
theorem R_Map3 (n : Int) (h7 : (n % 16777216).tmod 7 = 3)  (hw : ((n % 16777216).tdiv 1736).tmod 3 ≠ 1) :
    R L Cs f_kerbstonekit_Map [W n] [] = some (.w (.a (mapC (mapP 3 (limF (((n % 16777216).tdiv 7).tmod 4).toNat) (((n % 16777216).tdiv 28).tmod 2) (((n % 16777216).tdiv 28).tmod 31) (((n % 16777216).tdiv 56).tmod 31) (((n % 16777216).tdiv 56).tmod 17) (((n % 16777216).tdiv 28).tmod 5) (((n % 16777216).tdiv 1736).tmod 3) (((n % 16777216).tdiv 5208).tmod 40) (((n % 16777216).tdiv 208320).tmod 3)))), []) := by
  have hM := R_Mod n
  have hN : 0 ≤ n % 16777216 ∧ n % 16777216 < 16777216 := by omega
  generalize n % 16777216 = N at *
  have w7 : IntKind.i64.wrap (N.tdiv 7) = N.tdiv 7 := tdiv_wrap hN (by decide)
  have w28 : IntKind.i64.wrap (N.tdiv 28) = N.tdiv 28 := tdiv_wrap hN (by decide)
  have w56 : IntKind.i64.wrap (N.tdiv 56) = N.tdiv 56 := tdiv_wrap hN (by decide)
  have w1736 : IntKind.i64.wrap (N.tdiv 1736) = N.tdiv 1736 := tdiv_wrap hN (by decide)
  have w5208 : IntKind.i64.wrap (N.tdiv 5208) = N.tdiv 5208 := tdiv_wrap hN (by decide)
  have w208320 : IntKind.i64.wrap (N.tdiv 208320) = N.tdiv 208320 := tdiv_wrap hN (by decide)
  have hj := tmod_lt N 7 4 hN (by decide) (by decide)
  obtain ⟨j, hje⟩ := Int.eq_ofNat_of_zero_le hj.1
  have hj4 : j < 4 := by omega
  have hlg := lim_get j hj4
  have hj4' : (j : Int) < 4 := by omega
  have r2 := tmod_lt N 28 2 hN (by decide) (by decide)
  have v5 := tmod_lt N 28 5 hN (by decide) (by decide)
  have b40 := tmod_lt N 5208 40 hN (by decide) (by decide)
  have t3 := tmod_lt N 208320 3 hN (by decide) (by decide)
  have wr1 : IntKind.i64.wrap (2 * (N.tdiv 28).tmod 2) = 2 * (N.tdiv 28).tmod 2 := i64_id _ (by omega) (by omega)
  have wr2 : IntKind.i64.wrap (2 - 2 * (N.tdiv 28).tmod 2) = 2 - 2 * (N.tdiv 28).tmod 2 := i64_id _ (by omega) (by omega)
  have wb : IntKind.i64.wrap ((N.tdiv 5208).tmod 40 + 20) = (N.tdiv 5208).tmod 40 + 20 := i64_id _ (by omega) (by omega)
  have wt : IntKind.i64.wrap ((N.tdiv 208320).tmod 3 * 200) = (N.tdiv 208320).tmod 3 * 200 := i64_id _ (by omega) (by omega)
  have hwb : (((N.tdiv 1736).tmod 3) == 1) = false := by simp [hw]
  have q0 := R_road 1 (limF j) [1, 2] 0 0 30000 0 30000
  have q1 := R_road 1 1500 [] 30000 0 60000 0 30000
  have q2 := R_road 1 800 [] 30000 0 54000 10000 26000
  simp only [rowsI_cons, rowsI_nil, laneC, roadL, List.map_cons, List.map_nil] at q0 q1 q2
  simp at q0 q1 q2
  rw [R_fn F_kerbstonekit_Map rfl]
  simp (config := { maxSteps := 1000000 }) [c_kerbstonekit_Map, hM, h7, hje, hlg, lim_get2, hj4, hj4', w7, w28, w56, w1736, w5208, w208320, wr1, wr2, wb, wt, hwb, hw, q0, q1, q2, newAt, markOne, memBelow, noIds, mapC, mapP, lanesP, zonesP, signalsP, worksP, laneC, roadL, workC, zoneC, partC, signalC]
set_option maxHeartbeats 4000000 in
theorem R_Map4w (n : Int) (h7 : (n % 16777216).tmod 7 = 4)  (hw : ((n % 16777216).tdiv 1736).tmod 3 = 1) :
    R L Cs f_kerbstonekit_Map [W n] [] = some (.w (.a (mapC (mapP 4 (limF (((n % 16777216).tdiv 7).tmod 4).toNat) (((n % 16777216).tdiv 28).tmod 2) (((n % 16777216).tdiv 28).tmod 31) (((n % 16777216).tdiv 56).tmod 31) (((n % 16777216).tdiv 56).tmod 17) (((n % 16777216).tdiv 28).tmod 5) (((n % 16777216).tdiv 1736).tmod 3) (((n % 16777216).tdiv 5208).tmod 40) (((n % 16777216).tdiv 208320).tmod 3)))), []) := by
  have hM := R_Mod n
  have hN : 0 ≤ n % 16777216 ∧ n % 16777216 < 16777216 := by omega
  generalize n % 16777216 = N at *
  have w7 : IntKind.i64.wrap (N.tdiv 7) = N.tdiv 7 := tdiv_wrap hN (by decide)
  have w28 : IntKind.i64.wrap (N.tdiv 28) = N.tdiv 28 := tdiv_wrap hN (by decide)
  have w56 : IntKind.i64.wrap (N.tdiv 56) = N.tdiv 56 := tdiv_wrap hN (by decide)
  have w1736 : IntKind.i64.wrap (N.tdiv 1736) = N.tdiv 1736 := tdiv_wrap hN (by decide)
  have w5208 : IntKind.i64.wrap (N.tdiv 5208) = N.tdiv 5208 := tdiv_wrap hN (by decide)
  have w208320 : IntKind.i64.wrap (N.tdiv 208320) = N.tdiv 208320 := tdiv_wrap hN (by decide)
  have hj := tmod_lt N 7 4 hN (by decide) (by decide)
  obtain ⟨j, hje⟩ := Int.eq_ofNat_of_zero_le hj.1
  have hj4 : j < 4 := by omega
  have hlg := lim_get j hj4
  have hj4' : (j : Int) < 4 := by omega
  have r2 := tmod_lt N 28 2 hN (by decide) (by decide)
  have v5 := tmod_lt N 28 5 hN (by decide) (by decide)
  have b40 := tmod_lt N 5208 40 hN (by decide) (by decide)
  have t3 := tmod_lt N 208320 3 hN (by decide) (by decide)
  have wr1 : IntKind.i64.wrap (2 * (N.tdiv 28).tmod 2) = 2 * (N.tdiv 28).tmod 2 := i64_id _ (by omega) (by omega)
  have wr2 : IntKind.i64.wrap (2 - 2 * (N.tdiv 28).tmod 2) = 2 - 2 * (N.tdiv 28).tmod 2 := i64_id _ (by omega) (by omega)
  have wb : IntKind.i64.wrap ((N.tdiv 5208).tmod 40 + 20) = (N.tdiv 5208).tmod 40 + 20 := i64_id _ (by omega) (by omega)
  have wt : IntKind.i64.wrap ((N.tdiv 208320).tmod 3 * 200) = (N.tdiv 208320).tmod 3 * 200 := i64_id _ (by omega) (by omega)
  have hwb : (((N.tdiv 1736).tmod 3) == 1) = true := by simp [hw]
  have q0 := R_road 1 (limF j) [2] 0 0 30000 0 30000
  have q1 := R_road 1 1500 [2] 6000 (-10000) 30000 0 26000
  have q2 := R_road 1 1500 [] 30000 0 60000 0 30000
  simp only [rowsI_cons, rowsI_nil, laneC, roadL, List.map_cons, List.map_nil] at q0 q1 q2
  simp at q0 q1 q2
  rw [R_fn F_kerbstonekit_Map rfl]
  simp (config := { maxSteps := 1000000 }) [c_kerbstonekit_Map, hM, h7, hje, hlg, lim_get2, hj4, hj4', w7, w28, w56, w1736, w5208, w208320, wr1, wr2, wb, wt, hwb, hw, q0, q1, q2, newAt, markOne, memBelow, noIds, mapC, mapP, lanesP, zonesP, signalsP, worksP, laneC, roadL, workC, zoneC, partC, signalC]
set_option maxHeartbeats 4000000 in
theorem R_Map4 (n : Int) (h7 : (n % 16777216).tmod 7 = 4)  (hw : ((n % 16777216).tdiv 1736).tmod 3 ≠ 1) :
    R L Cs f_kerbstonekit_Map [W n] [] = some (.w (.a (mapC (mapP 4 (limF (((n % 16777216).tdiv 7).tmod 4).toNat) (((n % 16777216).tdiv 28).tmod 2) (((n % 16777216).tdiv 28).tmod 31) (((n % 16777216).tdiv 56).tmod 31) (((n % 16777216).tdiv 56).tmod 17) (((n % 16777216).tdiv 28).tmod 5) (((n % 16777216).tdiv 1736).tmod 3) (((n % 16777216).tdiv 5208).tmod 40) (((n % 16777216).tdiv 208320).tmod 3)))), []) := by
  have hM := R_Mod n
  have hN : 0 ≤ n % 16777216 ∧ n % 16777216 < 16777216 := by omega
  generalize n % 16777216 = N at *
  have w7 : IntKind.i64.wrap (N.tdiv 7) = N.tdiv 7 := tdiv_wrap hN (by decide)
  have w28 : IntKind.i64.wrap (N.tdiv 28) = N.tdiv 28 := tdiv_wrap hN (by decide)
  have w56 : IntKind.i64.wrap (N.tdiv 56) = N.tdiv 56 := tdiv_wrap hN (by decide)
  have w1736 : IntKind.i64.wrap (N.tdiv 1736) = N.tdiv 1736 := tdiv_wrap hN (by decide)
  have w5208 : IntKind.i64.wrap (N.tdiv 5208) = N.tdiv 5208 := tdiv_wrap hN (by decide)
  have w208320 : IntKind.i64.wrap (N.tdiv 208320) = N.tdiv 208320 := tdiv_wrap hN (by decide)
  have hj := tmod_lt N 7 4 hN (by decide) (by decide)
  obtain ⟨j, hje⟩ := Int.eq_ofNat_of_zero_le hj.1
  have hj4 : j < 4 := by omega
  have hlg := lim_get j hj4
  have hj4' : (j : Int) < 4 := by omega
  have r2 := tmod_lt N 28 2 hN (by decide) (by decide)
  have v5 := tmod_lt N 28 5 hN (by decide) (by decide)
  have b40 := tmod_lt N 5208 40 hN (by decide) (by decide)
  have t3 := tmod_lt N 208320 3 hN (by decide) (by decide)
  have wr1 : IntKind.i64.wrap (2 * (N.tdiv 28).tmod 2) = 2 * (N.tdiv 28).tmod 2 := i64_id _ (by omega) (by omega)
  have wr2 : IntKind.i64.wrap (2 - 2 * (N.tdiv 28).tmod 2) = 2 - 2 * (N.tdiv 28).tmod 2 := i64_id _ (by omega) (by omega)
  have wb : IntKind.i64.wrap ((N.tdiv 5208).tmod 40 + 20) = (N.tdiv 5208).tmod 40 + 20 := i64_id _ (by omega) (by omega)
  have wt : IntKind.i64.wrap ((N.tdiv 208320).tmod 3 * 200) = (N.tdiv 208320).tmod 3 * 200 := i64_id _ (by omega) (by omega)
  have hwb : (((N.tdiv 1736).tmod 3) == 1) = false := by simp [hw]
  have q0 := R_road 1 (limF j) [2] 0 0 30000 0 30000
  have q1 := R_road 1 1500 [2] 6000 (-10000) 30000 0 26000
  have q2 := R_road 1 1500 [] 30000 0 60000 0 30000
  simp only [rowsI_cons, rowsI_nil, laneC, roadL, List.map_cons, List.map_nil] at q0 q1 q2
  simp at q0 q1 q2
  rw [R_fn F_kerbstonekit_Map rfl]
  simp (config := { maxSteps := 1000000 }) [c_kerbstonekit_Map, hM, h7, hje, hlg, lim_get2, hj4, hj4', w7, w28, w56, w1736, w5208, w208320, wr1, wr2, wb, wt, hwb, hw, q0, q1, q2, newAt, markOne, memBelow, noIds, mapC, mapP, lanesP, zonesP, signalsP, worksP, laneC, roadL, workC, zoneC, partC, signalC]
set_option maxHeartbeats 4000000 in
theorem R_Map5w (n : Int) (h7 : (n % 16777216).tmod 7 = 5)  (hw : ((n % 16777216).tdiv 1736).tmod 3 = 1) :
    R L Cs f_kerbstonekit_Map [W n] [] = some (.w (.a (mapC (mapP 5 (limF (((n % 16777216).tdiv 7).tmod 4).toNat) (((n % 16777216).tdiv 28).tmod 2) (((n % 16777216).tdiv 28).tmod 31) (((n % 16777216).tdiv 56).tmod 31) (((n % 16777216).tdiv 56).tmod 17) (((n % 16777216).tdiv 28).tmod 5) (((n % 16777216).tdiv 1736).tmod 3) (((n % 16777216).tdiv 5208).tmod 40) (((n % 16777216).tdiv 208320).tmod 3)))), []) := by
  have hM := R_Mod n
  have hN : 0 ≤ n % 16777216 ∧ n % 16777216 < 16777216 := by omega
  generalize n % 16777216 = N at *
  have w7 : IntKind.i64.wrap (N.tdiv 7) = N.tdiv 7 := tdiv_wrap hN (by decide)
  have w28 : IntKind.i64.wrap (N.tdiv 28) = N.tdiv 28 := tdiv_wrap hN (by decide)
  have w56 : IntKind.i64.wrap (N.tdiv 56) = N.tdiv 56 := tdiv_wrap hN (by decide)
  have w1736 : IntKind.i64.wrap (N.tdiv 1736) = N.tdiv 1736 := tdiv_wrap hN (by decide)
  have w5208 : IntKind.i64.wrap (N.tdiv 5208) = N.tdiv 5208 := tdiv_wrap hN (by decide)
  have w208320 : IntKind.i64.wrap (N.tdiv 208320) = N.tdiv 208320 := tdiv_wrap hN (by decide)
  have hj := tmod_lt N 7 4 hN (by decide) (by decide)
  obtain ⟨j, hje⟩ := Int.eq_ofNat_of_zero_le hj.1
  have hj4 : j < 4 := by omega
  have hlg := lim_get j hj4
  have hj4' : (j : Int) < 4 := by omega
  have r2 := tmod_lt N 28 2 hN (by decide) (by decide)
  have v5 := tmod_lt N 28 5 hN (by decide) (by decide)
  have b40 := tmod_lt N 5208 40 hN (by decide) (by decide)
  have t3 := tmod_lt N 208320 3 hN (by decide) (by decide)
  have wr1 : IntKind.i64.wrap (2 * (N.tdiv 28).tmod 2) = 2 * (N.tdiv 28).tmod 2 := i64_id _ (by omega) (by omega)
  have wr2 : IntKind.i64.wrap (2 - 2 * (N.tdiv 28).tmod 2) = 2 - 2 * (N.tdiv 28).tmod 2 := i64_id _ (by omega) (by omega)
  have wb : IntKind.i64.wrap ((N.tdiv 5208).tmod 40 + 20) = (N.tdiv 5208).tmod 40 + 20 := i64_id _ (by omega) (by omega)
  have wt : IntKind.i64.wrap ((N.tdiv 208320).tmod 3 * 200) = (N.tdiv 208320).tmod 3 * 200 := i64_id _ (by omega) (by omega)
  have hwb : (((N.tdiv 1736).tmod 3) == 1) = true := by simp [hw]
  have q0 := R_road 1 (limF j) [1] 0 0 20000 0 20000
  have q1 := R_road 1 (limF j) [] 20000 0 50000 0 30000
  have q2 := R_road 3 200 [] 35000 (-8000) 35000 8000 16000
  simp only [rowsI_cons, rowsI_nil, laneC, roadL, List.map_cons, List.map_nil] at q0 q1 q2
  simp at q0 q1 q2
  rw [R_fn F_kerbstonekit_Map rfl]
  simp (config := { maxSteps := 1000000 }) [c_kerbstonekit_Map, hM, h7, hje, hlg, lim_get2, hj4, hj4', w7, w28, w56, w1736, w5208, w208320, wr1, wr2, wb, wt, hwb, hw, q0, q1, q2, newAt, markOne, memBelow, noIds, mapC, mapP, lanesP, zonesP, signalsP, worksP, laneC, roadL, workC, zoneC, partC, signalC]
set_option maxHeartbeats 4000000 in
theorem R_Map5 (n : Int) (h7 : (n % 16777216).tmod 7 = 5)  (hw : ((n % 16777216).tdiv 1736).tmod 3 ≠ 1) :
    R L Cs f_kerbstonekit_Map [W n] [] = some (.w (.a (mapC (mapP 5 (limF (((n % 16777216).tdiv 7).tmod 4).toNat) (((n % 16777216).tdiv 28).tmod 2) (((n % 16777216).tdiv 28).tmod 31) (((n % 16777216).tdiv 56).tmod 31) (((n % 16777216).tdiv 56).tmod 17) (((n % 16777216).tdiv 28).tmod 5) (((n % 16777216).tdiv 1736).tmod 3) (((n % 16777216).tdiv 5208).tmod 40) (((n % 16777216).tdiv 208320).tmod 3)))), []) := by
  have hM := R_Mod n
  have hN : 0 ≤ n % 16777216 ∧ n % 16777216 < 16777216 := by omega
  generalize n % 16777216 = N at *
  have w7 : IntKind.i64.wrap (N.tdiv 7) = N.tdiv 7 := tdiv_wrap hN (by decide)
  have w28 : IntKind.i64.wrap (N.tdiv 28) = N.tdiv 28 := tdiv_wrap hN (by decide)
  have w56 : IntKind.i64.wrap (N.tdiv 56) = N.tdiv 56 := tdiv_wrap hN (by decide)
  have w1736 : IntKind.i64.wrap (N.tdiv 1736) = N.tdiv 1736 := tdiv_wrap hN (by decide)
  have w5208 : IntKind.i64.wrap (N.tdiv 5208) = N.tdiv 5208 := tdiv_wrap hN (by decide)
  have w208320 : IntKind.i64.wrap (N.tdiv 208320) = N.tdiv 208320 := tdiv_wrap hN (by decide)
  have hj := tmod_lt N 7 4 hN (by decide) (by decide)
  obtain ⟨j, hje⟩ := Int.eq_ofNat_of_zero_le hj.1
  have hj4 : j < 4 := by omega
  have hlg := lim_get j hj4
  have hj4' : (j : Int) < 4 := by omega
  have r2 := tmod_lt N 28 2 hN (by decide) (by decide)
  have v5 := tmod_lt N 28 5 hN (by decide) (by decide)
  have b40 := tmod_lt N 5208 40 hN (by decide) (by decide)
  have t3 := tmod_lt N 208320 3 hN (by decide) (by decide)
  have wr1 : IntKind.i64.wrap (2 * (N.tdiv 28).tmod 2) = 2 * (N.tdiv 28).tmod 2 := i64_id _ (by omega) (by omega)
  have wr2 : IntKind.i64.wrap (2 - 2 * (N.tdiv 28).tmod 2) = 2 - 2 * (N.tdiv 28).tmod 2 := i64_id _ (by omega) (by omega)
  have wb : IntKind.i64.wrap ((N.tdiv 5208).tmod 40 + 20) = (N.tdiv 5208).tmod 40 + 20 := i64_id _ (by omega) (by omega)
  have wt : IntKind.i64.wrap ((N.tdiv 208320).tmod 3 * 200) = (N.tdiv 208320).tmod 3 * 200 := i64_id _ (by omega) (by omega)
  have hwb : (((N.tdiv 1736).tmod 3) == 1) = false := by simp [hw]
  have q0 := R_road 1 (limF j) [1] 0 0 20000 0 20000
  have q1 := R_road 1 (limF j) [] 20000 0 50000 0 30000
  have q2 := R_road 3 200 [] 35000 (-8000) 35000 8000 16000
  simp only [rowsI_cons, rowsI_nil, laneC, roadL, List.map_cons, List.map_nil] at q0 q1 q2
  simp at q0 q1 q2
  rw [R_fn F_kerbstonekit_Map rfl]
  simp (config := { maxSteps := 1000000 }) [c_kerbstonekit_Map, hM, h7, hje, hlg, lim_get2, hj4, hj4', w7, w28, w56, w1736, w5208, w208320, wr1, wr2, wb, wt, hwb, hw, q0, q1, q2, newAt, markOne, memBelow, noIds, mapC, mapP, lanesP, zonesP, signalsP, worksP, laneC, roadL, workC, zoneC, partC, signalC]
set_option maxHeartbeats 4000000 in
theorem R_Map6aw (n : Int) (h7 : (n % 16777216).tmod 7 = 6) (h28 : ((n % 16777216).tdiv 28).tmod 2 = 1) (hw : ((n % 16777216).tdiv 1736).tmod 3 = 1) :
    R L Cs f_kerbstonekit_Map [W n] [] = some (.w (.a (mapC (mapP 6 (limF (((n % 16777216).tdiv 7).tmod 4).toNat) (((n % 16777216).tdiv 28).tmod 2) (((n % 16777216).tdiv 28).tmod 31) (((n % 16777216).tdiv 56).tmod 31) (((n % 16777216).tdiv 56).tmod 17) (((n % 16777216).tdiv 28).tmod 5) (((n % 16777216).tdiv 1736).tmod 3) (((n % 16777216).tdiv 5208).tmod 40) (((n % 16777216).tdiv 208320).tmod 3)))), []) := by
  have hM := R_Mod n
  have hN : 0 ≤ n % 16777216 ∧ n % 16777216 < 16777216 := by omega
  generalize n % 16777216 = N at *
  have w7 : IntKind.i64.wrap (N.tdiv 7) = N.tdiv 7 := tdiv_wrap hN (by decide)
  have w28 : IntKind.i64.wrap (N.tdiv 28) = N.tdiv 28 := tdiv_wrap hN (by decide)
  have w56 : IntKind.i64.wrap (N.tdiv 56) = N.tdiv 56 := tdiv_wrap hN (by decide)
  have w1736 : IntKind.i64.wrap (N.tdiv 1736) = N.tdiv 1736 := tdiv_wrap hN (by decide)
  have w5208 : IntKind.i64.wrap (N.tdiv 5208) = N.tdiv 5208 := tdiv_wrap hN (by decide)
  have w208320 : IntKind.i64.wrap (N.tdiv 208320) = N.tdiv 208320 := tdiv_wrap hN (by decide)
  have hj := tmod_lt N 7 4 hN (by decide) (by decide)
  obtain ⟨j, hje⟩ := Int.eq_ofNat_of_zero_le hj.1
  have hj4 : j < 4 := by omega
  have hlg := lim_get j hj4
  have hj4' : (j : Int) < 4 := by omega
  have r2 := tmod_lt N 28 2 hN (by decide) (by decide)
  have v5 := tmod_lt N 28 5 hN (by decide) (by decide)
  have b40 := tmod_lt N 5208 40 hN (by decide) (by decide)
  have t3 := tmod_lt N 208320 3 hN (by decide) (by decide)
  have wb : IntKind.i64.wrap ((N.tdiv 5208).tmod 40 + 20) = (N.tdiv 5208).tmod 40 + 20 := i64_id _ (by omega) (by omega)
  have wt : IntKind.i64.wrap ((N.tdiv 208320).tmod 3 * 200) = (N.tdiv 208320).tmod 3 * 200 := i64_id _ (by omega) (by omega)
  have hwb : (((N.tdiv 1736).tmod 3) == 1) = true := by simp [hw]
  have q0 := R_road 1 (limF j) [1, 2] 0 0 20000 0 20000
  have q1 := R_road 1 1500 [] 20000 0 50000 0 30000
  have q2 := R_road 1 1000 [] 20000 0 44000 10000 26000
  have q3 := R_road 2 700 [] 36000 (-12000) 36000 18000 30000
  simp only [rowsI_cons, rowsI_nil, laneC, roadL, List.map_cons, List.map_nil] at q0 q1 q2 q3
  simp at q0 q1 q2 q3
  have s1 := R_signal ((N.tdiv 56).tmod 31) 1 3
  have s2 := R_signal ((N.tdiv 56).tmod 17) 2 3
  simp only [signalC] at s1 s2
  rw [R_fn F_kerbstonekit_Map rfl]
  simp (config := { maxSteps := 1000000 }) [c_kerbstonekit_Map, hM, h7, hje, hlg, lim_get2, hj4, hj4', w7, w28, w56, w1736, w5208, w208320, h28, wb, wt, hwb, hw, q0, q1, q2, q3, s1, s2, newAt, markOne, memBelow, noIds, mapC, mapP, lanesP, zonesP, signalsP, worksP, laneC, roadL, workC, zoneC, partC, signalC]
set_option maxHeartbeats 4000000 in
theorem R_Map6a (n : Int) (h7 : (n % 16777216).tmod 7 = 6) (h28 : ((n % 16777216).tdiv 28).tmod 2 = 1) (hw : ((n % 16777216).tdiv 1736).tmod 3 ≠ 1) :
    R L Cs f_kerbstonekit_Map [W n] [] = some (.w (.a (mapC (mapP 6 (limF (((n % 16777216).tdiv 7).tmod 4).toNat) (((n % 16777216).tdiv 28).tmod 2) (((n % 16777216).tdiv 28).tmod 31) (((n % 16777216).tdiv 56).tmod 31) (((n % 16777216).tdiv 56).tmod 17) (((n % 16777216).tdiv 28).tmod 5) (((n % 16777216).tdiv 1736).tmod 3) (((n % 16777216).tdiv 5208).tmod 40) (((n % 16777216).tdiv 208320).tmod 3)))), []) := by
  have hM := R_Mod n
  have hN : 0 ≤ n % 16777216 ∧ n % 16777216 < 16777216 := by omega
  generalize n % 16777216 = N at *
  have w7 : IntKind.i64.wrap (N.tdiv 7) = N.tdiv 7 := tdiv_wrap hN (by decide)
  have w28 : IntKind.i64.wrap (N.tdiv 28) = N.tdiv 28 := tdiv_wrap hN (by decide)
  have w56 : IntKind.i64.wrap (N.tdiv 56) = N.tdiv 56 := tdiv_wrap hN (by decide)
  have w1736 : IntKind.i64.wrap (N.tdiv 1736) = N.tdiv 1736 := tdiv_wrap hN (by decide)
  have w5208 : IntKind.i64.wrap (N.tdiv 5208) = N.tdiv 5208 := tdiv_wrap hN (by decide)
  have w208320 : IntKind.i64.wrap (N.tdiv 208320) = N.tdiv 208320 := tdiv_wrap hN (by decide)
  have hj := tmod_lt N 7 4 hN (by decide) (by decide)
  obtain ⟨j, hje⟩ := Int.eq_ofNat_of_zero_le hj.1
  have hj4 : j < 4 := by omega
  have hlg := lim_get j hj4
  have hj4' : (j : Int) < 4 := by omega
  have r2 := tmod_lt N 28 2 hN (by decide) (by decide)
  have v5 := tmod_lt N 28 5 hN (by decide) (by decide)
  have b40 := tmod_lt N 5208 40 hN (by decide) (by decide)
  have t3 := tmod_lt N 208320 3 hN (by decide) (by decide)
  have wb : IntKind.i64.wrap ((N.tdiv 5208).tmod 40 + 20) = (N.tdiv 5208).tmod 40 + 20 := i64_id _ (by omega) (by omega)
  have wt : IntKind.i64.wrap ((N.tdiv 208320).tmod 3 * 200) = (N.tdiv 208320).tmod 3 * 200 := i64_id _ (by omega) (by omega)
  have hwb : (((N.tdiv 1736).tmod 3) == 1) = false := by simp [hw]
  have q0 := R_road 1 (limF j) [1, 2] 0 0 20000 0 20000
  have q1 := R_road 1 1500 [] 20000 0 50000 0 30000
  have q2 := R_road 1 1000 [] 20000 0 44000 10000 26000
  have q3 := R_road 2 700 [] 36000 (-12000) 36000 18000 30000
  simp only [rowsI_cons, rowsI_nil, laneC, roadL, List.map_cons, List.map_nil] at q0 q1 q2 q3
  simp at q0 q1 q2 q3
  have s1 := R_signal ((N.tdiv 56).tmod 31) 1 3
  have s2 := R_signal ((N.tdiv 56).tmod 17) 2 3
  simp only [signalC] at s1 s2
  rw [R_fn F_kerbstonekit_Map rfl]
  simp (config := { maxSteps := 1000000 }) [c_kerbstonekit_Map, hM, h7, hje, hlg, lim_get2, hj4, hj4', w7, w28, w56, w1736, w5208, w208320, h28, wb, wt, hwb, hw, q0, q1, q2, q3, s1, s2, newAt, markOne, memBelow, noIds, mapC, mapP, lanesP, zonesP, signalsP, worksP, laneC, roadL, workC, zoneC, partC, signalC]
set_option maxHeartbeats 4000000 in
theorem R_Map6bw (n : Int) (h7 : (n % 16777216).tmod 7 = 6) (h28 : ((n % 16777216).tdiv 28).tmod 2 = 0) (hw : ((n % 16777216).tdiv 1736).tmod 3 = 1) :
    R L Cs f_kerbstonekit_Map [W n] [] = some (.w (.a (mapC (mapP 6 (limF (((n % 16777216).tdiv 7).tmod 4).toNat) (((n % 16777216).tdiv 28).tmod 2) (((n % 16777216).tdiv 28).tmod 31) (((n % 16777216).tdiv 56).tmod 31) (((n % 16777216).tdiv 56).tmod 17) (((n % 16777216).tdiv 28).tmod 5) (((n % 16777216).tdiv 1736).tmod 3) (((n % 16777216).tdiv 5208).tmod 40) (((n % 16777216).tdiv 208320).tmod 3)))), []) := by
  have hM := R_Mod n
  have hN : 0 ≤ n % 16777216 ∧ n % 16777216 < 16777216 := by omega
  generalize n % 16777216 = N at *
  have w7 : IntKind.i64.wrap (N.tdiv 7) = N.tdiv 7 := tdiv_wrap hN (by decide)
  have w28 : IntKind.i64.wrap (N.tdiv 28) = N.tdiv 28 := tdiv_wrap hN (by decide)
  have w56 : IntKind.i64.wrap (N.tdiv 56) = N.tdiv 56 := tdiv_wrap hN (by decide)
  have w1736 : IntKind.i64.wrap (N.tdiv 1736) = N.tdiv 1736 := tdiv_wrap hN (by decide)
  have w5208 : IntKind.i64.wrap (N.tdiv 5208) = N.tdiv 5208 := tdiv_wrap hN (by decide)
  have w208320 : IntKind.i64.wrap (N.tdiv 208320) = N.tdiv 208320 := tdiv_wrap hN (by decide)
  have hj := tmod_lt N 7 4 hN (by decide) (by decide)
  obtain ⟨j, hje⟩ := Int.eq_ofNat_of_zero_le hj.1
  have hj4 : j < 4 := by omega
  have hlg := lim_get j hj4
  have hj4' : (j : Int) < 4 := by omega
  have r2 := tmod_lt N 28 2 hN (by decide) (by decide)
  have v5 := tmod_lt N 28 5 hN (by decide) (by decide)
  have b40 := tmod_lt N 5208 40 hN (by decide) (by decide)
  have t3 := tmod_lt N 208320 3 hN (by decide) (by decide)
  have wb : IntKind.i64.wrap ((N.tdiv 5208).tmod 40 + 20) = (N.tdiv 5208).tmod 40 + 20 := i64_id _ (by omega) (by omega)
  have wt : IntKind.i64.wrap ((N.tdiv 208320).tmod 3 * 200) = (N.tdiv 208320).tmod 3 * 200 := i64_id _ (by omega) (by omega)
  have hwb : (((N.tdiv 1736).tmod 3) == 1) = true := by simp [hw]
  have q0 := R_road 1 (limF j) [1, 2] 0 0 20000 0 20000
  have q1 := R_road 1 1500 [] 20000 0 50000 0 30000
  have q2 := R_road 1 1000 [] 20000 0 44000 10000 26000
  have q3 := R_road 2 700 [] 36000 (-12000) 36000 18000 30000
  simp only [rowsI_cons, rowsI_nil, laneC, roadL, List.map_cons, List.map_nil] at q0 q1 q2 q3
  simp at q0 q1 q2 q3
  rw [R_fn F_kerbstonekit_Map rfl]
  simp (config := { maxSteps := 1000000 }) [c_kerbstonekit_Map, hM, h7, hje, hlg, lim_get2, hj4, hj4', w7, w28, w56, w1736, w5208, w208320, h28, wb, wt, hwb, hw, q0, q1, q2, q3, newAt, markOne, memBelow, noIds, mapC, mapP, lanesP, zonesP, signalsP, worksP, laneC, roadL, workC, zoneC, partC, signalC]
set_option maxHeartbeats 4000000 in
theorem R_Map6b (n : Int) (h7 : (n % 16777216).tmod 7 = 6) (h28 : ((n % 16777216).tdiv 28).tmod 2 = 0) (hw : ((n % 16777216).tdiv 1736).tmod 3 ≠ 1) :
    R L Cs f_kerbstonekit_Map [W n] [] = some (.w (.a (mapC (mapP 6 (limF (((n % 16777216).tdiv 7).tmod 4).toNat) (((n % 16777216).tdiv 28).tmod 2) (((n % 16777216).tdiv 28).tmod 31) (((n % 16777216).tdiv 56).tmod 31) (((n % 16777216).tdiv 56).tmod 17) (((n % 16777216).tdiv 28).tmod 5) (((n % 16777216).tdiv 1736).tmod 3) (((n % 16777216).tdiv 5208).tmod 40) (((n % 16777216).tdiv 208320).tmod 3)))), []) := by
  have hM := R_Mod n
  have hN : 0 ≤ n % 16777216 ∧ n % 16777216 < 16777216 := by omega
  generalize n % 16777216 = N at *
  have w7 : IntKind.i64.wrap (N.tdiv 7) = N.tdiv 7 := tdiv_wrap hN (by decide)
  have w28 : IntKind.i64.wrap (N.tdiv 28) = N.tdiv 28 := tdiv_wrap hN (by decide)
  have w56 : IntKind.i64.wrap (N.tdiv 56) = N.tdiv 56 := tdiv_wrap hN (by decide)
  have w1736 : IntKind.i64.wrap (N.tdiv 1736) = N.tdiv 1736 := tdiv_wrap hN (by decide)
  have w5208 : IntKind.i64.wrap (N.tdiv 5208) = N.tdiv 5208 := tdiv_wrap hN (by decide)
  have w208320 : IntKind.i64.wrap (N.tdiv 208320) = N.tdiv 208320 := tdiv_wrap hN (by decide)
  have hj := tmod_lt N 7 4 hN (by decide) (by decide)
  obtain ⟨j, hje⟩ := Int.eq_ofNat_of_zero_le hj.1
  have hj4 : j < 4 := by omega
  have hlg := lim_get j hj4
  have hj4' : (j : Int) < 4 := by omega
  have r2 := tmod_lt N 28 2 hN (by decide) (by decide)
  have v5 := tmod_lt N 28 5 hN (by decide) (by decide)
  have b40 := tmod_lt N 5208 40 hN (by decide) (by decide)
  have t3 := tmod_lt N 208320 3 hN (by decide) (by decide)
  have wb : IntKind.i64.wrap ((N.tdiv 5208).tmod 40 + 20) = (N.tdiv 5208).tmod 40 + 20 := i64_id _ (by omega) (by omega)
  have wt : IntKind.i64.wrap ((N.tdiv 208320).tmod 3 * 200) = (N.tdiv 208320).tmod 3 * 200 := i64_id _ (by omega) (by omega)
  have hwb : (((N.tdiv 1736).tmod 3) == 1) = false := by simp [hw]
  have q0 := R_road 1 (limF j) [1, 2] 0 0 20000 0 20000
  have q1 := R_road 1 1500 [] 20000 0 50000 0 30000
  have q2 := R_road 1 1000 [] 20000 0 44000 10000 26000
  have q3 := R_road 2 700 [] 36000 (-12000) 36000 18000 30000
  simp only [rowsI_cons, rowsI_nil, laneC, roadL, List.map_cons, List.map_nil] at q0 q1 q2 q3
  simp at q0 q1 q2 q3
  rw [R_fn F_kerbstonekit_Map rfl]
  simp (config := { maxSteps := 1000000 }) [c_kerbstonekit_Map, hM, h7, hje, hlg, lim_get2, hj4, hj4', w7, w28, w56, w1736, w5208, w208320, h28, wb, wt, hwb, hw, q0, q1, q2, q3, newAt, markOne, memBelow, noIds, mapC, mapP, lanesP, zonesP, signalsP, worksP, laneC, roadL, workC, zoneC, partC, signalC]
end Go.TrRun
set_option maxRecDepth 10000
namespace Go.TrRun
open Go Go.Eng
theorem R_within_roads (n lo hi : Int) : R L Cs f_roads_within [W n, W lo, W hi] [] = some (.w (Bo (decide (lo ≤ n) && decide (n ≤ hi))), []) := by
  rw [R_fn F_roads_within rfl]
  by_cases h : lo ≤ n
  · simp [c_roads_within, h]
  · simp [c_roads_within, h]
theorem R_within_ref03 (n lo hi : Int) : R L Cs f_kerbstoneref03_within [W n, W lo, W hi] [] = some (.w (Bo (decide (lo ≤ n) && decide (n ≤ hi))), []) := by
  rw [R_fn F_kerbstoneref03_within rfl]
  by_cases h : lo ≤ n
  · simp [c_kerbstoneref03_within, h]
  · simp [c_kerbstoneref03_within, h]
structure Sized (m : GMap) : Prop where
  v1 : 0 ≤ m.version
  v2 : m.version ≤ 1099511627776
  l1 : 0 < m.lanes.length
  l2 : m.lanes.length ≤ 12
  z : m.zones.length ≤ 12
  s : m.signals.length ≤ 4
  w : m.works.length ≤ 8
theorem R_numbers {m : GMap} (h : Sized m) : R L Cs f_roads_check_numbers [.a (mapC m)] [] = some (.w (W 0), []) := by
  have hW := R_within_roads m.version 0 1099511627776
  have a1 := h.v1
  have a2 := h.v2
  have l0 : ((m.lanes.length : Int) == 0) = false := by have := h.l1; exact beq_false_of_ne (by omega)
  have l1 : ¬ (12 : Int) < (m.lanes.length : Int) := by have := h.l2; omega
  have l2 : ¬ (12 : Int) < (m.zones.length : Int) := by have := h.z; omega
  have l3 : ¬ (4 : Int) < (m.signals.length : Int) := by have := h.s; omega
  have l4 : ¬ (8 : Int) < (m.works.length : Int) := by have := h.w; omega
  have l5 : ¬ 12 < m.lanes.length := by have := h.l2; omega
  have l6 : ¬ 12 < m.zones.length := by have := h.z; omega
  have l7 : ¬ 4 < m.signals.length := by have := h.s; omega
  have l8 : ¬ 8 < m.works.length := by have := h.w; omega
  have l9 : ¬ m.lanes = [] := by have := h.l1; intro e; rw [e] at this; simp at this
  rw [R_fn F_roads_check_numbers rfl]
  simp [c_roads_check_numbers, mapC, hW, a1, a2, l0, l1, l2, l3, l4, l5, l6, l7, l8, l9]
theorem R_Check_of {m : GMap} (h1 : R L Cs f_roads_check_numbers [.a (mapC m)] [] = some (.w (W 0), [])) (h2 : R L Cs f_roads_check_lanes [.a (mapC m)] [] = some (.w (W 0), []))
    (h3 : R L Cs f_roads_check_joints [.a (mapC m)] [] = some (.w (W 0), [])) (h4 : R L Cs f_roads_check_signals [.a (mapC m)] [] = some (.w (W 0), []))
    (h5 : R L Cs f_roads_check_zones [.a (mapC m)] [] = some (.w (W 0), [])) (h6 : R L Cs f_roads_check_works [.a (mapC m)] [] = some (.w (W 0), [])) : R L Cs f_roads_Check [.a (mapC m)] [] = some (.w (W 0), []) := by
  simp only [mapC] at h1 h2 h3 h4 h5 h6
  have e1 : IntKind.i64.wrap 1 = 1 := rfl
  have e2 : IntKind.i64.wrap 2 = 2 := rfl
  have e3 : IntKind.i64.wrap 3 = 3 := rfl
  have e4 : IntKind.i64.wrap 4 = 4 := rfl
  have e5 : IntKind.i64.wrap 5 = 5 := rfl
  have e6 : IntKind.i64.wrap 6 = 6 := rfl
  have hl : Y L Cs c_roads_Check_l1 (some [7, 6, 1, 8]) 2 [(7, .w (W 6)), (6, .w (.c (.slice 1 6 1 0 6 none))), (1, .w (Pt 0)), (8, .w (W 0))] [bx 5 (mapC m), some { box := true, esz := 1, rows := [[.fn f_roads_check_numbers [] []], [.fn f_roads_check_lanes [] []], [.fn f_roads_check_joints [] []], [.fn f_roads_check_signals [] []], [.fn f_roads_check_zones [] []], [.fn f_roads_check_works [] []]], gen := 6, fz := false, ver := 6 }] =
      some (.exit 0, [(9, .w (Bo false)), (1, .w (Pt 0)), (6, .w (.c (.slice 1 6 1 0 6 none))), (7, .w (W 6)), (8, .w (W 6))], [bx 5 (mapC m), some { box := true, esz := 1, rows := [[.fn f_roads_check_numbers [] []], [.fn f_roads_check_lanes [] []], [.fn f_roads_check_joints [] []], [.fn f_roads_check_signals [] []], [.fn f_roads_check_zones [] []], [.fn f_roads_check_works [] []]], gen := 6, fz := false, ver := 6 }]) := by
    rw [Y_step c_roads_Check_l1.eq_1]
    simp [mapC, h1, e1]
    rw [Y_step c_roads_Check_l1.eq_1]
    simp [h2, e2]
    rw [Y_step c_roads_Check_l1.eq_1]
    simp [h3, e3]
    rw [Y_step c_roads_Check_l1.eq_1]
    simp [h4, e4]
    rw [Y_step c_roads_Check_l1.eq_1]
    simp [h5, e5]
    rw [Y_step c_roads_Check_l1.eq_1]
    simp [h6, e6]
    rw [Y_step c_roads_Check_l1.eq_1]
    simp
  simp only [mapC] at hl
  rw [R_fn F_roads_Check rfl]
  simp [c_roads_Check, mapC, hl, newAt, noIds, mlayF, fnFlat1, okW]
theorem R_refCheck_of {m : GMap} (h : Sized m) (h2 : ∀ i : Nat, i < m.lanes.length → R L Cs f_kerbstoneref03_checkLane [.a (mapC m), W i] [] = some (.w (W 0), [])) (h3 : R L Cs f_kerbstoneref03_checkNext [.a (mapC m)] [] = some (.w (W 0), []))
    (hsp : ∀ s ∈ m.signals, ∃ o ps, s = [I o, .rslice ps]) (hzp : ∀ s ∈ m.zones, ∃ ps o, s = [.rslice ps, I o])
    (h4 : ∀ s ∈ m.signals, R L Cs f_kerbstoneref03_checkSignal [.a (mapC m), .a s] [] = some (.w (W 0), []))
    (h5 : ∀ z ∈ m.zones, R L Cs f_kerbstoneref03_checkZone [.a (mapC m), .a z] [] = some (.w (W 0), []))
    (h6 : ∀ w ∈ m.works, R L Cs f_kerbstoneref03_checkWork [.a (mapC m), .a (workC w)] [] = some (.w (W 0), [])) : R L Cs f_kerbstoneref03_Check [.a (mapC m)] [] = some (.w (W 0), []) := by
  have hW := R_within_ref03 m.version 0 1099511627776
  have a1 := h.v1
  have a2 := h.v2
  have b1 := h.l1
  have b2 := h.l2
  have b3 := h.z
  have b4 := h.s
  have b5 := h.w
  have l0 : ((m.lanes.length : Int) == 0) = false := beq_false_of_ne (by omega)
  have l1 : ¬ (12 : Int) < (m.lanes.length : Int) := by omega
  have l2 : ¬ (12 : Int) < (m.zones.length : Int) := by omega
  have l3 : ¬ (4 : Int) < (m.signals.length : Int) := by omega
  have l4 : ¬ (8 : Int) < (m.works.length : Int) := by omega
  have l9 : ¬ m.lanes = [] := by intro e; rw [e] at b1; simp at b1
  have k1 : Y L Cs c_kerbstoneref03_Check_l1 (some [1, 3]) 1 [(1, .w (Pt 0)), (3, .w (W (0 : Nat)))] [bx 5 (mapC m)] = some (.exit 0, [(43, .w (Bo false)), (1, .w (Pt 0)), (3, .w (W m.lanes.length))], [bx 5 (mapC m)]) := by
    have q := Y_any (L := L) (Cs := Cs) (b := c_kerbstoneref03_Check_l1) (live := some [1, 3]) (n0 := 1) m.lanes (fun i => [(1, .w (Pt 0)), (3, .w (W i))]) [bx 5 (mapC m)] (fun _ => false) (.ret, [], []) (.exit 0, [(43, .w (Bo false)), (1, .w (Pt 0)), (3, .w (W m.lanes.length))], [bx 5 (mapC m)]) ?_ ?_ ?_
    · simpa using q
    · intro i hi _
      have hw := wrap_succ (i := i) (by omega)
      have hc := h2 i hi
      simp only [mapC] at hc
      rw [Y_step c_kerbstoneref03_Check_l1.eq_1]
      simp [mapC, hi, hw, hc]
    · intro i hi hp; cases hp
    · rw [Y_step c_kerbstoneref03_Check_l1.eq_1]
      simp [mapC]
  have k2 : Y L Cs c_kerbstoneref03_Check_l2 (some [5, 6, 1]) 1 [(5, .w (W 0)), (6, .w (W (0 : Nat))), (1, .w (Pt 0))] [bx 5 (mapC m)] = some (.exit 2, [(62, .w (Bo false)), (5, .w (W 0)), (6, .w (W m.signals.length)), (1, .w (Pt 0))], [bx 5 (mapC m)]) := by
    have q := Y_any (L := L) (Cs := Cs) (b := c_kerbstoneref03_Check_l2) (live := some [5, 6, 1]) (n0 := 1) m.signals (fun i => [(5, .w (W 0)), (6, .w (W i)), (1, .w (Pt 0))]) [bx 5 (mapC m)] (fun _ => false) (.ret, [], []) (.exit 2, [(62, .w (Bo false)), (5, .w (W 0)), (6, .w (W m.signals.length)), (1, .w (Pt 0))], [bx 5 (mapC m)]) ?_ ?_ ?_
    · simpa using q
    · intro i hi _
      have hw := wrap_succ (i := i) (by omega)
      have hc := h4 m.signals[i] (List.getElem_mem hi)
      obtain ⟨a, b, hxy⟩ := hsp _ (List.getElem_mem hi)
      rw [hxy] at hc
      simp only [mapC] at hc
      rw [Y_step c_kerbstoneref03_Check_l2.eq_1]
      simp [mapC, hi, hw, hc, hxy]
    · intro i hi hp; cases hp
    · rw [Y_step c_kerbstoneref03_Check_l2.eq_1]
      simp [mapC]
  have k3 : Y L Cs c_kerbstoneref03_Check_l3 (some [5, 7, 1]) 1 [(5, .w (W 0)), (7, .w (W (0 : Nat))), (1, .w (Pt 0))] [bx 5 (mapC m)] = some (.exit 4, [(80, .w (Bo false)), (5, .w (W 0)), (7, .w (W m.zones.length)), (1, .w (Pt 0))], [bx 5 (mapC m)]) := by
    have q := Y_any (L := L) (Cs := Cs) (b := c_kerbstoneref03_Check_l3) (live := some [5, 7, 1]) (n0 := 1) m.zones (fun i => [(5, .w (W 0)), (7, .w (W i)), (1, .w (Pt 0))]) [bx 5 (mapC m)] (fun _ => false) (.ret, [], []) (.exit 4, [(80, .w (Bo false)), (5, .w (W 0)), (7, .w (W m.zones.length)), (1, .w (Pt 0))], [bx 5 (mapC m)]) ?_ ?_ ?_
    · simpa using q
    · intro i hi _
      have hw := wrap_succ (i := i) (by omega)
      have hc := h5 m.zones[i] (List.getElem_mem hi)
      obtain ⟨a, b, hxy⟩ := hzp _ (List.getElem_mem hi)
      rw [hxy] at hc
      simp only [mapC] at hc
      rw [Y_step c_kerbstoneref03_Check_l3.eq_1]
      simp [mapC, hi, hw, hc, hxy]
    · intro i hi hp; cases hp
    · rw [Y_step c_kerbstoneref03_Check_l3.eq_1]
      simp [mapC]
  have k4 : Y L Cs c_kerbstoneref03_Check_l4 (some [5, 8, 1]) 1 [(5, .w (W 0)), (8, .w (W (0 : Nat))), (1, .w (Pt 0))] [bx 5 (mapC m)] = some (.exit 6, [(98, .w (Bo false)), (5, .w (W 0)), (8, .w (W m.works.length)), (1, .w (Pt 0))], [bx 5 (mapC m)]) := by
    have q := Y_any (L := L) (Cs := Cs) (b := c_kerbstoneref03_Check_l4) (live := some [5, 8, 1]) (n0 := 1) m.works (fun i => [(5, .w (W 0)), (8, .w (W i)), (1, .w (Pt 0))]) [bx 5 (mapC m)] (fun _ => false) (.ret, [], []) (.exit 6, [(98, .w (Bo false)), (5, .w (W 0)), (8, .w (W m.works.length)), (1, .w (Pt 0))], [bx 5 (mapC m)]) ?_ ?_ ?_
    · simpa using q
    · intro i hi _
      have hw := wrap_succ (i := i) (by omega)
      have hc := h6 m.works[i] (List.getElem_mem hi)
      simp only [mapC, workC] at hc
      rw [Y_step c_kerbstoneref03_Check_l4.eq_1]
      simp [mapC, hi, hw, hc, workC]
    · intro i hi hp; cases hp
    · rw [Y_step c_kerbstoneref03_Check_l4.eq_1]
      simp [mapC]
  simp only [mapC, Int.natCast_zero] at k1 k2 k3 k4 h3
  rw [R_fn F_kerbstoneref03_Check rfl]
  simp [c_kerbstoneref03_Check, mapC, hW, a1, a2, l0, l1, l2, l3, l4, l9, k1, k2, k3, k4, h3]
end Go.TrRun
set_option maxRecDepth 10000
namespace Go.TrRun
open Go Go.Eng
def okI (r : Option (AV × Mem)) (n : Int) : Bool := match r with
  | some (.w (.c (.int .i64 x)), []) => x == n
  | _ => false
theorem okI_R {f : FuncId} {a : List WV} {n : Int} (h : okI (runE L Cs 400 f a []) n = true) : R L Cs f a [] = some (.w (W n), []) := by
  refine R_iff.2 ⟨400, ?_⟩
  unfold okI at h
  split at h
  · rename_i x e
    have : x = n := by simpa using h
    rw [e, this]
  · cases h
def lims : List Int := [1500, 600, 1000, 300]
def mapR (v : Int) (k : Nat) (lim : Int) (Z S Wk : List (List Cl)) : WV := .a [I v, .rslice ((lanesP k lim).map laneC), .rslice Z, .rslice S, .rslice Wk]
theorem kl0 (v : Int) (Z S Wk : List (List Cl)) : (lims.all fun lim => okI (runE L Cs 400 f_roads_check_lanes [mapR v 0 lim Z S Wk] []) 0) = true := by kernel_rfl
theorem kj0 (v lim : Int) (Z S Wk : List (List Cl)) : okI (runE L Cs 400 f_roads_check_joints [mapR v 0 lim Z S Wk] []) 0 = true := by kernel_rfl
theorem kc0 (lim : Int) : ((lanesP 0 lim).all fun l => okI (runE L Cs 400 f_curve_Length [.a [ptsC l]] []) l.len && okI (runE L Cs 400 f_kerbstoneref01_Length [.a [ptsC l]] []) l.len) = true := by kernel_rfl
theorem rl0 (v : Int) (Z S Wk : List (List Cl)) : (lims.all fun lim => (List.range (lanesP 0 lim).length).all fun i => okI (runE L Cs 400 f_kerbstoneref03_checkLane [mapR v 0 lim Z S Wk, W i] []) 0) = true := by kernel_rfl
theorem rj0 (v lim : Int) (Z S Wk : List (List Cl)) : okI (runE L Cs 400 f_kerbstoneref03_checkNext [mapR v 0 lim Z S Wk] []) 0 = true := by kernel_rfl
theorem kz0 (v lim : Int) (Wk : List (List Cl)) : ((List.range 2).all fun r => okI (runE L Cs 400 f_roads_check_zones [mapR v 0 lim (zonesP 0 r) [] Wk] []) 0 && (zonesP 0 r).all fun z => okI (runE L Cs 400 f_kerbstoneref03_checkZone [mapR v 0 lim (zonesP 0 r) [] Wk, .a z] []) 0) = true := by kernel_rfl
theorem kl1 (v : Int) (Z S Wk : List (List Cl)) : (lims.all fun lim => okI (runE L Cs 400 f_roads_check_lanes [mapR v 1 lim Z S Wk] []) 0) = true := by kernel_rfl
theorem kj1 (v lim : Int) (Z S Wk : List (List Cl)) : okI (runE L Cs 400 f_roads_check_joints [mapR v 1 lim Z S Wk] []) 0 = true := by kernel_rfl
theorem kc1 (lim : Int) : ((lanesP 1 lim).all fun l => okI (runE L Cs 400 f_curve_Length [.a [ptsC l]] []) l.len && okI (runE L Cs 400 f_kerbstoneref01_Length [.a [ptsC l]] []) l.len) = true := by kernel_rfl
theorem rl1 (v : Int) (Z S Wk : List (List Cl)) : (lims.all fun lim => (List.range (lanesP 1 lim).length).all fun i => okI (runE L Cs 400 f_kerbstoneref03_checkLane [mapR v 1 lim Z S Wk, W i] []) 0) = true := by kernel_rfl
theorem rj1 (v lim : Int) (Z S Wk : List (List Cl)) : okI (runE L Cs 400 f_kerbstoneref03_checkNext [mapR v 1 lim Z S Wk] []) 0 = true := by kernel_rfl
theorem kz1 (v lim : Int) (Wk : List (List Cl)) : ((List.range 2).all fun r => okI (runE L Cs 400 f_roads_check_zones [mapR v 1 lim (zonesP 1 r) [] Wk] []) 0 && (zonesP 1 r).all fun z => okI (runE L Cs 400 f_kerbstoneref03_checkZone [mapR v 1 lim (zonesP 1 r) [] Wk, .a z] []) 0) = true := by kernel_rfl
theorem kl2 (v : Int) (Z S Wk : List (List Cl)) : (lims.all fun lim => okI (runE L Cs 400 f_roads_check_lanes [mapR v 2 lim Z S Wk] []) 0) = true := by kernel_rfl
theorem kj2 (v lim : Int) (Z S Wk : List (List Cl)) : okI (runE L Cs 400 f_roads_check_joints [mapR v 2 lim Z S Wk] []) 0 = true := by kernel_rfl
theorem kc2 (lim : Int) : ((lanesP 2 lim).all fun l => okI (runE L Cs 400 f_curve_Length [.a [ptsC l]] []) l.len && okI (runE L Cs 400 f_kerbstoneref01_Length [.a [ptsC l]] []) l.len) = true := by kernel_rfl
theorem rl2 (v : Int) (Z S Wk : List (List Cl)) : (lims.all fun lim => (List.range (lanesP 2 lim).length).all fun i => okI (runE L Cs 400 f_kerbstoneref03_checkLane [mapR v 2 lim Z S Wk, W i] []) 0) = true := by kernel_rfl
theorem rj2 (v lim : Int) (Z S Wk : List (List Cl)) : okI (runE L Cs 400 f_kerbstoneref03_checkNext [mapR v 2 lim Z S Wk] []) 0 = true := by kernel_rfl
theorem rs2 (v lim : Int) (Z S Wk : List (List Cl)) : ((List.range 31).all fun o => okI (runE L Cs 400 f_kerbstoneref03_checkSignal [mapR v 2 lim Z S Wk, .a (signalC o 0 1)] []) 0) = true := by kernel_rfl
theorem kz2 (v lim : Int) (s : List Cl) (Wk : List (List Cl)) : ((List.range 2).all fun r => okI (runE L Cs 400 f_roads_check_zones [mapR v 2 lim (zonesP 2 r) [s] Wk] []) 0 && (zonesP 2 r).all fun z => okI (runE L Cs 400 f_kerbstoneref03_checkZone [mapR v 2 lim (zonesP 2 r) [s] Wk, .a z] []) 0) = true := by kernel_rfl
theorem kl3 (v : Int) (Z S Wk : List (List Cl)) : (lims.all fun lim => okI (runE L Cs 400 f_roads_check_lanes [mapR v 3 lim Z S Wk] []) 0) = true := by kernel_rfl
theorem kj3 (v lim : Int) (Z S Wk : List (List Cl)) : okI (runE L Cs 400 f_roads_check_joints [mapR v 3 lim Z S Wk] []) 0 = true := by kernel_rfl
theorem kc3 (lim : Int) : ((lanesP 3 lim).all fun l => okI (runE L Cs 400 f_curve_Length [.a [ptsC l]] []) l.len && okI (runE L Cs 400 f_kerbstoneref01_Length [.a [ptsC l]] []) l.len) = true := by kernel_rfl
theorem rl3 (v : Int) (Z S Wk : List (List Cl)) : (lims.all fun lim => (List.range (lanesP 3 lim).length).all fun i => okI (runE L Cs 400 f_kerbstoneref03_checkLane [mapR v 3 lim Z S Wk, W i] []) 0) = true := by kernel_rfl
theorem rj3 (v lim : Int) (Z S Wk : List (List Cl)) : okI (runE L Cs 400 f_kerbstoneref03_checkNext [mapR v 3 lim Z S Wk] []) 0 = true := by kernel_rfl
theorem kz3 (v lim : Int) (Wk : List (List Cl)) : ((List.range 2).all fun r => okI (runE L Cs 400 f_roads_check_zones [mapR v 3 lim (zonesP 3 r) [] Wk] []) 0 && (zonesP 3 r).all fun z => okI (runE L Cs 400 f_kerbstoneref03_checkZone [mapR v 3 lim (zonesP 3 r) [] Wk, .a z] []) 0) = true := by kernel_rfl
theorem kl4 (v : Int) (Z S Wk : List (List Cl)) : (lims.all fun lim => okI (runE L Cs 400 f_roads_check_lanes [mapR v 4 lim Z S Wk] []) 0) = true := by kernel_rfl
theorem kj4 (v lim : Int) (Z S Wk : List (List Cl)) : okI (runE L Cs 400 f_roads_check_joints [mapR v 4 lim Z S Wk] []) 0 = true := by kernel_rfl
theorem kc4 (lim : Int) : ((lanesP 4 lim).all fun l => okI (runE L Cs 400 f_curve_Length [.a [ptsC l]] []) l.len && okI (runE L Cs 400 f_kerbstoneref01_Length [.a [ptsC l]] []) l.len) = true := by kernel_rfl
theorem rl4 (v : Int) (Z S Wk : List (List Cl)) : (lims.all fun lim => (List.range (lanesP 4 lim).length).all fun i => okI (runE L Cs 400 f_kerbstoneref03_checkLane [mapR v 4 lim Z S Wk, W i] []) 0) = true := by kernel_rfl
theorem rj4 (v lim : Int) (Z S Wk : List (List Cl)) : okI (runE L Cs 400 f_kerbstoneref03_checkNext [mapR v 4 lim Z S Wk] []) 0 = true := by kernel_rfl
theorem kz4 (v lim : Int) (Wk : List (List Cl)) : ((List.range 2).all fun r => okI (runE L Cs 400 f_roads_check_zones [mapR v 4 lim (zonesP 4 r) [] Wk] []) 0 && (zonesP 4 r).all fun z => okI (runE L Cs 400 f_kerbstoneref03_checkZone [mapR v 4 lim (zonesP 4 r) [] Wk, .a z] []) 0) = true := by kernel_rfl
theorem kl5 (v : Int) (Z S Wk : List (List Cl)) : (lims.all fun lim => okI (runE L Cs 400 f_roads_check_lanes [mapR v 5 lim Z S Wk] []) 0) = true := by kernel_rfl
theorem kj5 (v lim : Int) (Z S Wk : List (List Cl)) : okI (runE L Cs 400 f_roads_check_joints [mapR v 5 lim Z S Wk] []) 0 = true := by kernel_rfl
theorem kc5 (lim : Int) : ((lanesP 5 lim).all fun l => okI (runE L Cs 400 f_curve_Length [.a [ptsC l]] []) l.len && okI (runE L Cs 400 f_kerbstoneref01_Length [.a [ptsC l]] []) l.len) = true := by kernel_rfl
theorem rl5 (v : Int) (Z S Wk : List (List Cl)) : (lims.all fun lim => (List.range (lanesP 5 lim).length).all fun i => okI (runE L Cs 400 f_kerbstoneref03_checkLane [mapR v 5 lim Z S Wk, W i] []) 0) = true := by kernel_rfl
theorem rj5 (v lim : Int) (Z S Wk : List (List Cl)) : okI (runE L Cs 400 f_kerbstoneref03_checkNext [mapR v 5 lim Z S Wk] []) 0 = true := by kernel_rfl
theorem kz5 (v lim : Int) (Wk : List (List Cl)) : ((List.range 2).all fun r => okI (runE L Cs 400 f_roads_check_zones [mapR v 5 lim (zonesP 5 r) [] Wk] []) 0 && (zonesP 5 r).all fun z => okI (runE L Cs 400 f_kerbstoneref03_checkZone [mapR v 5 lim (zonesP 5 r) [] Wk, .a z] []) 0) = true := by kernel_rfl
theorem kl6 (v : Int) (Z S Wk : List (List Cl)) : (lims.all fun lim => okI (runE L Cs 400 f_roads_check_lanes [mapR v 6 lim Z S Wk] []) 0) = true := by kernel_rfl
theorem kj6 (v lim : Int) (Z S Wk : List (List Cl)) : okI (runE L Cs 400 f_roads_check_joints [mapR v 6 lim Z S Wk] []) 0 = true := by kernel_rfl
theorem kc6 (lim : Int) : ((lanesP 6 lim).all fun l => okI (runE L Cs 400 f_curve_Length [.a [ptsC l]] []) l.len && okI (runE L Cs 400 f_kerbstoneref01_Length [.a [ptsC l]] []) l.len) = true := by kernel_rfl
theorem rl6 (v : Int) (Z S Wk : List (List Cl)) : (lims.all fun lim => (List.range (lanesP 6 lim).length).all fun i => okI (runE L Cs 400 f_kerbstoneref03_checkLane [mapR v 6 lim Z S Wk, W i] []) 0) = true := by kernel_rfl
theorem rj6 (v lim : Int) (Z S Wk : List (List Cl)) : okI (runE L Cs 400 f_kerbstoneref03_checkNext [mapR v 6 lim Z S Wk] []) 0 = true := by kernel_rfl
theorem rs6 (v lim : Int) (Z S Wk : List (List Cl)) : ((List.range 31).all fun o => okI (runE L Cs 400 f_kerbstoneref03_checkSignal [mapR v 6 lim Z S Wk, .a (signalC o 1 3)] []) 0 && okI (runE L Cs 400 f_kerbstoneref03_checkSignal [mapR v 6 lim Z S Wk, .a (signalC o 2 3)] []) 0) = true := by kernel_rfl
theorem kz6 (v lim : Int) (Wk : List (List Cl)) : (okI (runE L Cs 400 f_roads_check_zones [mapR v 6 lim (zonesP 6 0) [] Wk] []) 0 && (zonesP 6 0).all fun z => okI (runE L Cs 400 f_kerbstoneref03_checkZone [mapR v 6 lim (zonesP 6 0) [] Wk, .a z] []) 0) = true := by kernel_rfl
theorem kz6b (v lim : Int) (s s' : List Cl) (Wk : List (List Cl)) : (okI (runE L Cs 400 f_roads_check_zones [mapR v 6 lim (zonesP 6 1) [s, s'] Wk] []) 0 && (zonesP 6 1).all fun z => okI (runE L Cs 400 f_kerbstoneref03_checkZone [mapR v 6 lim (zonesP 6 1) [s, s'] Wk, .a z] []) 0) = true := by kernel_rfl
end Go.TrRun
set_option maxRecDepth 10000
namespace Go.TrRun
open Go Go.Eng
def phasesC (a b : Int) : List (List Cl) := [[I 12, .rslice [[I a]]], [I 5, .rslice []], [I 9, .rslice [[I b]]], [I 4, .rslice []]]
abbrev mapR5 (v : Int) (k : Nat) (lim : Int) (Z S Wk : List (List Cl)) : List Cl := [I v, .rslice ((lanesP k lim).map laneC), .rslice Z, .rslice S, .rslice Wk]
theorem cf1 : runE L Cs 400 f_slices_ContainsFunc_Phase [.c (.rslice (phasesC 0 1)), .c (.fn f_roads_check_signals_1 [] [])] [] = some (.w (Bo false), []) ∧ runE L Cs 400 f_slices_ContainsFunc_Phase [.c (.rslice (phasesC 1 3)), .c (.fn f_roads_check_signals_1 [] [])] [] = some (.w (Bo false), []) ∧ runE L Cs 400 f_slices_ContainsFunc_Phase [.c (.rslice (phasesC 2 3)), .c (.fn f_roads_check_signals_1 [] [])] [] = some (.w (Bo false), []) := ⟨by kernel_rfl, by kernel_rfl, by kernel_rfl⟩
theorem cf2a (v lim : Int) (Z S Wk : List (List Cl)) : runE L Cs 400 f_slices_ContainsFunc_Phase [.c (.rslice (phasesC 0 1)), .c (.fn f_roads_check_signals_2 [] [.ptr 0 0 0 0])] [bx 5 (mapR5 v 2 lim Z S Wk)] = some (.w (Bo false), [bx 5 (mapR5 v 2 lim Z S Wk)]) := by kernel_rfl
theorem cf2b (v lim : Int) (Z S Wk : List (List Cl)) : runE L Cs 400 f_slices_ContainsFunc_Phase [.c (.rslice (phasesC 1 3)), .c (.fn f_roads_check_signals_2 [] [.ptr 0 0 0 0])] [bx 5 (mapR5 v 6 lim Z S Wk)] = some (.w (Bo false), [bx 5 (mapR5 v 6 lim Z S Wk)]) := by kernel_rfl
theorem cf2c (v lim : Int) (Z S Wk : List (List Cl)) : runE L Cs 400 f_slices_ContainsFunc_Phase [.c (.rslice (phasesC 2 3)), .c (.fn f_roads_check_signals_2 [] [.ptr 0 0 0 0])] [bx 5 (mapR5 v 6 lim Z S Wk)] = some (.w (Bo false), [bx 5 (mapR5 v 6 lim Z S Wk)]) := by kernel_rfl
theorem R_signals {m : GMap} (hn : m.signals.length ≤ 10) (h : ∀ s ∈ m.signals, ∃ o a b, s = signalC o a b ∧ 0 ≤ o ∧ o ≤ 1099511627776 ∧
      R L Cs f_slices_ContainsFunc_Phase [.c (.rslice (phasesC a b)), .c (.fn f_roads_check_signals_1 [] [])] [] = some (.w (Bo false), []) ∧
      R L Cs f_slices_ContainsFunc_Phase [.c (.rslice (phasesC a b)), .c (.fn f_roads_check_signals_2 [] [.ptr 0 0 0 0])] [bx 5 (mapC m)] = some (.w (Bo false), [bx 5 (mapC m)])) :
    R L Cs f_roads_check_signals [.a (mapC m)] [] = some (.w (W 0), []) := by
  have q := Y_any (L := L) (Cs := Cs) (b := c_roads_check_signals_l1) (live := some [9, 8, 1, 10]) (n0 := 1) m.signals (fun i => [(9, .w (W m.signals.length)), (8, .w (.c (.rslice m.signals))), (1, .w (Pt 0)), (10, .w (W i))]) [bx 5 (mapC m)] (fun _ => false) (.ret, [], []) (.exit 0, [(11, .w (Bo false)), (1, .w (Pt 0)), (8, .w (.c (.rslice m.signals))), (9, .w (W m.signals.length)), (10, .w (W m.signals.length))], [bx 5 (mapC m)]) ?_ ?_ ?_
  · simp only [mapC, Int.natCast_zero] at q
    simp at q
    rw [R_fn F_roads_check_signals rfl]
    simp [c_roads_check_signals, mapC, q]
  · intro i hi _
    have hw := wrap_succ (i := i) (by omega)
    obtain ⟨o, a, b, hs, o1, o2, c1, c2⟩ := h _ (List.getElem_mem hi)
    have hW := R_within_roads o 0 1099511627776
    simp only [mapC, phasesC] at c1 c2
    rw [Y_step c_roads_check_signals_l1.eq_1]
    simp [mapC, hi, hw, hs, signalC, hW, o1, o2, c1, c2]
  · intro i hi hp; cases hp
  · rw [Y_step c_roads_check_signals_l1.eq_1]
    simp [mapC]
theorem R_long0 {m : GMap} {n : Nat} (hn : n < m.lanes.length) (hlen : R L Cs f_curve_Length [.a [ptsC m.lanes[n]]] [] = some (.w (W m.lanes[n].len), [])) : R L Cs f_roads_long [.a (mapC m), W n] [] = some (.w (W m.lanes[n].len), []) := by
  simp only [ptsC] at hlen
  rw [R_fn F_roads_long rfl]
  simp [c_roads_long, mapC, hn, laneC, hlen]
theorem R_works {m : GMap} (h0 : 0 < m.lanes.length) (hlen : R L Cs f_curve_Length [.a [ptsC m.lanes[0]]] [] = some (.w (W m.lanes[0].len), [])) (hk : m.lanes[0].kind = 1) (hl : 15000 ≤ m.lanes[0].len) (hl2 : m.lanes[0].len ≤ 1000000) (b t : Int) (hb : 0 ≤ b ∧ b < 40) (ht : 0 ≤ t ∧ t < 3)
    (hw : m.works = [] ∨ m.works = [⟨0, 10000, 15000, b, b + 20, t * 200⟩]) : R L Cs f_roads_check_works [.a (mapC m)] [] = some (.w (W 0), []) := by
  have q := Y_any (L := L) (Cs := Cs) (b := c_roads_check_works_l1) (live := some [12, 11, 10, 1]) (n0 := 1) m.works (fun i => [(12, .w (W i)), (11, .w (W m.works.length)), (10, .w (.c (.rslice (m.works.map workC)))), (1, .w (Pt 0))]) [bx 5 (mapC m)] (fun _ => false) (.ret, [], []) (.exit 0, [(13, .w (Bo false)), (12, .w (W m.works.length)), (11, .w (W m.works.length)), (10, .w (.c (.rslice (m.works.map workC)))), (1, .w (Pt 0))], [bx 5 (mapC m)]) ?_ ?_ ?_
  · simp only [mapC, Int.natCast_zero] at q
    simp at q
    rw [R_fn F_roads_check_works rfl]
    simp [c_roads_check_works, mapC, q]
  · intro i hi _
    have hwi : m.works[i] = ⟨0, 10000, 15000, b, b + 20, t * 200⟩ := by
      rcases hw with e | e
      · rw [e] at hi; simp at hi
      · have hi0 : i = 0 := by rw [e] at hi; simp at hi; exact hi
        subst hi0
        simp [e]
    have hwl : m.works.length ≤ 1 := by rcases hw with e | e <;> simp [e]
    have hww := wrap_succ (i := i) (by omega)
    have hB := R_Bounds (k := m.lanes[0].kind) (.inl hk)
    have hL := R_long0 h0 hlen
    have hW := R_within_roads (t * 200) 0 2000
    rw [hk] at hB
    simp only [mapC, Int.natCast_zero, topV, topA, topB] at hL hB
    generalize hln : m.lanes[0] = ln at *
    have x1 : ¬ b < 0 := by omega
    have x2 : ¬ b + 20 ≤ b := by omega
    have x3 : ¬ (1099511627776 : Int) < b + 20 := by omega
    have x4 : ¬ ln.len < 15000 := by omega
    have x5 : (0 : Int) ≤ t * 200 := by omega
    have x6 : t * 200 ≤ 2000 := by omega
    have x7 : ¬ (m.lanes.length : Int) ≤ 0 := by omega
    have x8 : ¬ m.lanes = [] := by intro e; rw [e] at h0; simp at h0
    have x9 : (0 : Int) < (m.lanes.length : Int) := by omega
    rw [Y_step c_roads_check_works_l1.eq_1]
    simp [mapC, hi, hww, hwi, workC, h0, hln, laneC, hk, hB, hL, hW, x1, x2, x3, x4, x5, x6, x7, x8, x9]
  · intro i hi hp; cases hp
  · rw [Y_step c_roads_check_works_l1.eq_1]
    simp [mapC]
theorem R_refworks {m : GMap} (h0 : 0 < m.lanes.length) (hlen : R L Cs f_kerbstoneref01_Length [.a [ptsC m.lanes[0]]] [] = some (.w (W m.lanes[0].len), [])) (hk : m.lanes[0].kind = 1) (hl : 15000 ≤ m.lanes[0].len) (b t : Int) (hb : 0 ≤ b ∧ b < 40) (ht : 0 ≤ t ∧ t < 3) :
    R L Cs f_kerbstoneref03_checkWork [.a (mapC m), .a (workC ⟨0, 10000, 15000, b, b + 20, t * 200⟩)] [] = some (.w (W 0), []) := by
  have hB := R_refBounds (k := m.lanes[0].kind) (.inl hk)
  have hW := R_within_ref03 (t * 200) 0 2000
  rw [hk] at hB
  simp only [ptsC, topV, topA, topB] at hlen hB
  generalize hln : m.lanes[0] = ln at *
  have x1 : ¬ b < 0 := by omega
  have x2 : ¬ b + 20 ≤ b := by omega
  have x3 : ¬ (1099511627776 : Int) < b + 20 := by omega
  have x4 : ¬ ln.len < 15000 := by omega
  have x5 : (0 : Int) ≤ t * 200 := by omega
  have x6 : t * 200 ≤ 2000 := by omega
  have x7 : ¬ (m.lanes.length : Int) ≤ 0 := by omega
  have x8 : ¬ m.lanes = [] := by intro e; rw [e] at h0; simp at h0
  have x9 : (0 : Int) < (m.lanes.length : Int) := by omega
  rw [R_fn F_kerbstoneref03_checkWork rfl]
  simp [c_kerbstoneref03_checkWork, mapC, workC, h0, hln, laneC, hk, hB, hlen, hW, x1, x2, x3, x4, x5, x6, x7, x8, x9]
end Go.TrRun
set_option maxRecDepth 10000
namespace Go.TrRun
open Go Go.Eng
structure Nums (lim r o1 o2 o3 v w b t : Int) : Prop where
  lim : lim ∈ lims
  r : r = 0 ∨ r = 1
  o1 : 0 ≤ o1 ∧ o1 < 31
  o2 : 0 ≤ o2 ∧ o2 < 31
  o3 : 0 ≤ o3 ∧ o3 < 17
  v : 0 ≤ v ∧ v < 5
  b : 0 ≤ b ∧ b < 40
  t : 0 ≤ t ∧ t < 3
theorem lims_le {lim : Int} (h : lim ∈ lims) : 1 ≤ lim ∧ lim ≤ 2000 := by simp [lims] at h; omega
theorem works_two (w b t : Int) : worksP w b t = [] ∨ worksP w b t = [⟨0, 10000, 15000, b, b + 20, t * 200⟩] := by
  unfold worksP; split
  · exact .inr rfl
  · exact .inl rfl
theorem good0 {lim r o1 o2 o3 v w b t : Int} (h : Nums lim r o1 o2 o3 v w b t) : Good (mapP 0 lim r o1 o2 o3 v w b t) := by
  have hlim := lims_le h.lim
  have hv := h.v
  have hsz : Sized (mapP 0 lim r o1 o2 o3 v w b t) := {
    v1 := hv.1
    v2 := by show v ≤ _; omega
    l1 := by simp [mapP, lanesP]
    l2 := by simp [mapP, lanesP]
    z := by simp [mapP, zonesP]
    s := by simp only [mapP, signalsP]; first | (split <;> simp) | simp
    w := by rcases works_two w b t with e | e <;> simp [mapP, e] }
  have hlen : ∀ l ∈ (mapP 0 lim r o1 o2 o3 v w b t).lanes, R L Cs f_curve_Length [.a [ptsC l]] [] = some (.w (W l.len), []) := fun l hl => by
    have := List.all_eq_true.1 (kc0 lim) l hl
    rw [Bool.and_eq_true] at this
    exact okI_R this.1
  have hrlen : ∀ l ∈ (mapP 0 lim r o1 o2 o3 v w b t).lanes, R L Cs f_kerbstoneref01_Length [.a [ptsC l]] [] = some (.w (W l.len), []) := fun l hl => by
    have := List.all_eq_true.1 (kc0 lim) l hl
    rw [Bool.and_eq_true] at this
    exact okI_R this.2
  have h0 : 0 < (mapP 0 lim r o1 o2 o3 v w b t).lanes.length := hsz.l1
  have hz : R L Cs f_roads_check_zones [.a (mapC (mapP 0 lim r o1 o2 o3 v w b t))] [] = some (.w (W 0), []) ∧ ∀ z ∈ (mapP 0 lim r o1 o2 o3 v w b t).zones, R L Cs f_kerbstoneref03_checkZone [.a (mapC (mapP 0 lim r o1 o2 o3 v w b t)), .a z] [] = some (.w (W 0), []) := by
    have q0 := List.all_eq_true.1 (kz0 v lim ((worksP w b t).map workC))
    rcases h.r with hr | hr
    · subst hr
      have q := q0 0 (by simp)
      rw [Bool.and_eq_true] at q
      exact ⟨okI_R q.1, fun z hz => okI_R (List.all_eq_true.1 q.2 z hz)⟩
    · subst hr
      have q := q0 1 (by simp)
      rw [Bool.and_eq_true] at q
      exact ⟨okI_R q.1, fun z hz => okI_R (List.all_eq_true.1 q.2 z hz)⟩
  have hs : R L Cs f_roads_check_signals [.a (mapC (mapP 0 lim r o1 o2 o3 v w b t))] [] = some (.w (W 0), []) := R_signals (by simp [mapP, signalsP]) (fun s hs => by simp [mapP, signalsP] at hs)
  have hrs : ∀ s ∈ (mapP 0 lim r o1 o2 o3 v w b t).signals, R L Cs f_kerbstoneref03_checkSignal [.a (mapC (mapP 0 lim r o1 o2 o3 v w b t)), .a s] [] = some (.w (W 0), []) := fun s hs => by simp [mapP, signalsP] at hs
  have hsp : ∀ s ∈ (mapP 0 lim r o1 o2 o3 v w b t).signals, ∃ o ps, s = [I o, .rslice ps] := fun s hs => by simp [mapP, signalsP] at hs
  have hzp : ∀ s ∈ (mapP 0 lim r o1 o2 o3 v w b t).zones, ∃ ps o, s = [.rslice ps, I o] := fun s hs => by
    simp [mapP, zonesP] at hs
    try (first | (rcases hs with hs | hs <;> (subst hs; exact ⟨_, _, rfl⟩)) | (subst hs; exact ⟨_, _, rfl⟩))
  exact {
    small := ⟨by simp [mapP, lanesP], by simp [mapP, lanesP, roadL], by simp [mapP, lanesP, roadL]⟩
    chk := R_Check_of (R_numbers hsz) (okI_R (List.all_eq_true.1 (kl0 v (zonesP 0 r) (signalsP 0 r o1 o2 o3) ((worksP w b t).map workC)) lim h.lim)) (okI_R (kj0 v lim (zonesP 0 r) (signalsP 0 r o1 o2 o3) ((worksP w b t).map workC))) hs hz.1
      (R_works h0 (hlen _ (List.getElem_mem h0)) rfl (by simp [mapP, lanesP, roadL]) (by simp [mapP, lanesP, roadL]) b t h.b h.t (works_two w b t))
    rchk := R_refCheck_of hsz (fun i hi => okI_R (List.all_eq_true.1 (List.all_eq_true.1 (rl0 v (zonesP 0 r) (signalsP 0 r o1 o2 o3) ((worksP w b t).map workC)) lim h.lim) i (List.mem_range.2 hi))) (okI_R (rj0 v lim (zonesP 0 r) (signalsP 0 r o1 o2 o3) ((worksP w b t).map workC))) hsp hzp hrs hz.2
      (fun x hx => by
        rcases works_two w b t with e | e
        · simp [mapP, e] at hx
        · simp [mapP, e] at hx
          subst hx
          exact R_refworks h0 (hrlen _ (List.getElem_mem h0)) rfl (by simp [mapP, lanesP, roadL]) b t h.b h.t)
    len := hlen
    rlen := hrlen
    len1 := by simp [mapP, lanesP, roadL]
    kind := by simp [mapP, lanesP, roadL]
    limit := by simp [mapP, lanesP, roadL]; try omega }
theorem good1 {lim r o1 o2 o3 v w b t : Int} (h : Nums lim r o1 o2 o3 v w b t) : Good (mapP 1 lim r o1 o2 o3 v w b t) := by
  have hlim := lims_le h.lim
  have hv := h.v
  have hsz : Sized (mapP 1 lim r o1 o2 o3 v w b t) := {
    v1 := hv.1
    v2 := by show v ≤ _; omega
    l1 := by simp [mapP, lanesP]
    l2 := by simp [mapP, lanesP]
    z := by simp [mapP, zonesP]
    s := by simp only [mapP, signalsP]; first | (split <;> simp) | simp
    w := by rcases works_two w b t with e | e <;> simp [mapP, e] }
  have hlen : ∀ l ∈ (mapP 1 lim r o1 o2 o3 v w b t).lanes, R L Cs f_curve_Length [.a [ptsC l]] [] = some (.w (W l.len), []) := fun l hl => by
    have := List.all_eq_true.1 (kc1 lim) l hl
    rw [Bool.and_eq_true] at this
    exact okI_R this.1
  have hrlen : ∀ l ∈ (mapP 1 lim r o1 o2 o3 v w b t).lanes, R L Cs f_kerbstoneref01_Length [.a [ptsC l]] [] = some (.w (W l.len), []) := fun l hl => by
    have := List.all_eq_true.1 (kc1 lim) l hl
    rw [Bool.and_eq_true] at this
    exact okI_R this.2
  have h0 : 0 < (mapP 1 lim r o1 o2 o3 v w b t).lanes.length := hsz.l1
  have hz : R L Cs f_roads_check_zones [.a (mapC (mapP 1 lim r o1 o2 o3 v w b t))] [] = some (.w (W 0), []) ∧ ∀ z ∈ (mapP 1 lim r o1 o2 o3 v w b t).zones, R L Cs f_kerbstoneref03_checkZone [.a (mapC (mapP 1 lim r o1 o2 o3 v w b t)), .a z] [] = some (.w (W 0), []) := by
    have q0 := List.all_eq_true.1 (kz1 v lim ((worksP w b t).map workC))
    rcases h.r with hr | hr
    · subst hr
      have q := q0 0 (by simp)
      rw [Bool.and_eq_true] at q
      exact ⟨okI_R q.1, fun z hz => okI_R (List.all_eq_true.1 q.2 z hz)⟩
    · subst hr
      have q := q0 1 (by simp)
      rw [Bool.and_eq_true] at q
      exact ⟨okI_R q.1, fun z hz => okI_R (List.all_eq_true.1 q.2 z hz)⟩
  have hs : R L Cs f_roads_check_signals [.a (mapC (mapP 1 lim r o1 o2 o3 v w b t))] [] = some (.w (W 0), []) := R_signals (by simp [mapP, signalsP]) (fun s hs => by simp [mapP, signalsP] at hs)
  have hrs : ∀ s ∈ (mapP 1 lim r o1 o2 o3 v w b t).signals, R L Cs f_kerbstoneref03_checkSignal [.a (mapC (mapP 1 lim r o1 o2 o3 v w b t)), .a s] [] = some (.w (W 0), []) := fun s hs => by simp [mapP, signalsP] at hs
  have hsp : ∀ s ∈ (mapP 1 lim r o1 o2 o3 v w b t).signals, ∃ o ps, s = [I o, .rslice ps] := fun s hs => by simp [mapP, signalsP] at hs
  have hzp : ∀ s ∈ (mapP 1 lim r o1 o2 o3 v w b t).zones, ∃ ps o, s = [.rslice ps, I o] := fun s hs => by
    simp [mapP, zonesP] at hs
    try (first | (rcases hs with hs | hs <;> (subst hs; exact ⟨_, _, rfl⟩)) | (subst hs; exact ⟨_, _, rfl⟩))
  exact {
    small := ⟨by simp [mapP, lanesP], by simp [mapP, lanesP, roadL], by simp [mapP, lanesP, roadL]⟩
    chk := R_Check_of (R_numbers hsz) (okI_R (List.all_eq_true.1 (kl1 v (zonesP 1 r) (signalsP 1 r o1 o2 o3) ((worksP w b t).map workC)) lim h.lim)) (okI_R (kj1 v lim (zonesP 1 r) (signalsP 1 r o1 o2 o3) ((worksP w b t).map workC))) hs hz.1
      (R_works h0 (hlen _ (List.getElem_mem h0)) rfl (by simp [mapP, lanesP, roadL]) (by simp [mapP, lanesP, roadL]) b t h.b h.t (works_two w b t))
    rchk := R_refCheck_of hsz (fun i hi => okI_R (List.all_eq_true.1 (List.all_eq_true.1 (rl1 v (zonesP 1 r) (signalsP 1 r o1 o2 o3) ((worksP w b t).map workC)) lim h.lim) i (List.mem_range.2 hi))) (okI_R (rj1 v lim (zonesP 1 r) (signalsP 1 r o1 o2 o3) ((worksP w b t).map workC))) hsp hzp hrs hz.2
      (fun x hx => by
        rcases works_two w b t with e | e
        · simp [mapP, e] at hx
        · simp [mapP, e] at hx
          subst hx
          exact R_refworks h0 (hrlen _ (List.getElem_mem h0)) rfl (by simp [mapP, lanesP, roadL]) b t h.b h.t)
    len := hlen
    rlen := hrlen
    len1 := by simp [mapP, lanesP, roadL]
    kind := by simp [mapP, lanesP, roadL]
    limit := by simp [mapP, lanesP, roadL]; try omega }
theorem good2 {lim r o1 o2 o3 v w b t : Int} (h : Nums lim r o1 o2 o3 v w b t) : Good (mapP 2 lim r o1 o2 o3 v w b t) := by
  have hlim := lims_le h.lim
  have hv := h.v
  have hsz : Sized (mapP 2 lim r o1 o2 o3 v w b t) := {
    v1 := hv.1
    v2 := by show v ≤ _; omega
    l1 := by simp [mapP, lanesP]
    l2 := by simp [mapP, lanesP]
    z := by simp [mapP, zonesP]
    s := by simp only [mapP, signalsP]; first | (split <;> simp) | simp
    w := by rcases works_two w b t with e | e <;> simp [mapP, e] }
  have hlen : ∀ l ∈ (mapP 2 lim r o1 o2 o3 v w b t).lanes, R L Cs f_curve_Length [.a [ptsC l]] [] = some (.w (W l.len), []) := fun l hl => by
    have := List.all_eq_true.1 (kc2 lim) l hl
    rw [Bool.and_eq_true] at this
    exact okI_R this.1
  have hrlen : ∀ l ∈ (mapP 2 lim r o1 o2 o3 v w b t).lanes, R L Cs f_kerbstoneref01_Length [.a [ptsC l]] [] = some (.w (W l.len), []) := fun l hl => by
    have := List.all_eq_true.1 (kc2 lim) l hl
    rw [Bool.and_eq_true] at this
    exact okI_R this.2
  have h0 : 0 < (mapP 2 lim r o1 o2 o3 v w b t).lanes.length := hsz.l1
  have hz : R L Cs f_roads_check_zones [.a (mapC (mapP 2 lim r o1 o2 o3 v w b t))] [] = some (.w (W 0), []) ∧ ∀ z ∈ (mapP 2 lim r o1 o2 o3 v w b t).zones, R L Cs f_kerbstoneref03_checkZone [.a (mapC (mapP 2 lim r o1 o2 o3 v w b t)), .a z] [] = some (.w (W 0), []) := by
    have q0 := List.all_eq_true.1 (kz2 v lim (signalC o1 0 1) ((worksP w b t).map workC))
    rcases h.r with hr | hr
    · subst hr
      have q := q0 0 (by simp)
      rw [Bool.and_eq_true] at q
      exact ⟨okI_R q.1, fun z hz => okI_R (List.all_eq_true.1 q.2 z hz)⟩
    · subst hr
      have q := q0 1 (by simp)
      rw [Bool.and_eq_true] at q
      exact ⟨okI_R q.1, fun z hz => okI_R (List.all_eq_true.1 q.2 z hz)⟩
  have hs : R L Cs f_roads_check_signals [.a (mapC (mapP 2 lim r o1 o2 o3 v w b t))] [] = some (.w (W 0), []) := R_signals (by simp [mapP, signalsP]) (fun s hs => by
    simp [mapP, signalsP] at hs
    subst hs
    exact ⟨o1, 0, 1, rfl, h.o1.1, by have := h.o1.2; omega, R_iff.2 ⟨400, cf1.1⟩, R_iff.2 ⟨400, cf2a v lim _ _ _⟩⟩)
  have hrs : ∀ s ∈ (mapP 2 lim r o1 o2 o3 v w b t).signals, R L Cs f_kerbstoneref03_checkSignal [.a (mapC (mapP 2 lim r o1 o2 o3 v w b t)), .a s] [] = some (.w (W 0), []) := fun s hs => by
    simp [mapP, signalsP] at hs
    subst hs
    obtain ⟨n, hn⟩ := Int.eq_ofNat_of_zero_le h.o1.1
    subst hn
    exact okI_R (List.all_eq_true.1 (rs2 v lim _ _ _) n (List.mem_range.2 (by have := h.o1.2; omega)))
  have hsp : ∀ s ∈ (mapP 2 lim r o1 o2 o3 v w b t).signals, ∃ o ps, s = [I o, .rslice ps] := fun s hs => by
    simp [mapP, signalsP] at hs
    subst hs
    exact ⟨_, _, rfl⟩
  have hzp : ∀ s ∈ (mapP 2 lim r o1 o2 o3 v w b t).zones, ∃ ps o, s = [.rslice ps, I o] := fun s hs => by
    simp [mapP, zonesP] at hs
    try (first | (rcases hs with hs | hs <;> (subst hs; exact ⟨_, _, rfl⟩)) | (subst hs; exact ⟨_, _, rfl⟩))
  exact {
    small := ⟨by simp [mapP, lanesP], by simp [mapP, lanesP, roadL], by simp [mapP, lanesP, roadL]⟩
    chk := R_Check_of (R_numbers hsz) (okI_R (List.all_eq_true.1 (kl2 v (zonesP 2 r) (signalsP 2 r o1 o2 o3) ((worksP w b t).map workC)) lim h.lim)) (okI_R (kj2 v lim (zonesP 2 r) (signalsP 2 r o1 o2 o3) ((worksP w b t).map workC))) hs hz.1
      (R_works h0 (hlen _ (List.getElem_mem h0)) rfl (by simp [mapP, lanesP, roadL]) (by simp [mapP, lanesP, roadL]) b t h.b h.t (works_two w b t))
    rchk := R_refCheck_of hsz (fun i hi => okI_R (List.all_eq_true.1 (List.all_eq_true.1 (rl2 v (zonesP 2 r) (signalsP 2 r o1 o2 o3) ((worksP w b t).map workC)) lim h.lim) i (List.mem_range.2 hi))) (okI_R (rj2 v lim (zonesP 2 r) (signalsP 2 r o1 o2 o3) ((worksP w b t).map workC))) hsp hzp hrs hz.2
      (fun x hx => by
        rcases works_two w b t with e | e
        · simp [mapP, e] at hx
        · simp [mapP, e] at hx
          subst hx
          exact R_refworks h0 (hrlen _ (List.getElem_mem h0)) rfl (by simp [mapP, lanesP, roadL]) b t h.b h.t)
    len := hlen
    rlen := hrlen
    len1 := by simp [mapP, lanesP, roadL]
    kind := by simp [mapP, lanesP, roadL]
    limit := by simp [mapP, lanesP, roadL]; try omega }
theorem good3 {lim r o1 o2 o3 v w b t : Int} (h : Nums lim r o1 o2 o3 v w b t) : Good (mapP 3 lim r o1 o2 o3 v w b t) := by
  have hlim := lims_le h.lim
  have hv := h.v
  have hsz : Sized (mapP 3 lim r o1 o2 o3 v w b t) := {
    v1 := hv.1
    v2 := by show v ≤ _; omega
    l1 := by simp [mapP, lanesP]
    l2 := by simp [mapP, lanesP]
    z := by simp [mapP, zonesP]
    s := by simp only [mapP, signalsP]; first | (split <;> simp) | simp
    w := by rcases works_two w b t with e | e <;> simp [mapP, e] }
  have hlen : ∀ l ∈ (mapP 3 lim r o1 o2 o3 v w b t).lanes, R L Cs f_curve_Length [.a [ptsC l]] [] = some (.w (W l.len), []) := fun l hl => by
    have := List.all_eq_true.1 (kc3 lim) l hl
    rw [Bool.and_eq_true] at this
    exact okI_R this.1
  have hrlen : ∀ l ∈ (mapP 3 lim r o1 o2 o3 v w b t).lanes, R L Cs f_kerbstoneref01_Length [.a [ptsC l]] [] = some (.w (W l.len), []) := fun l hl => by
    have := List.all_eq_true.1 (kc3 lim) l hl
    rw [Bool.and_eq_true] at this
    exact okI_R this.2
  have h0 : 0 < (mapP 3 lim r o1 o2 o3 v w b t).lanes.length := hsz.l1
  have hz : R L Cs f_roads_check_zones [.a (mapC (mapP 3 lim r o1 o2 o3 v w b t))] [] = some (.w (W 0), []) ∧ ∀ z ∈ (mapP 3 lim r o1 o2 o3 v w b t).zones, R L Cs f_kerbstoneref03_checkZone [.a (mapC (mapP 3 lim r o1 o2 o3 v w b t)), .a z] [] = some (.w (W 0), []) := by
    have q0 := List.all_eq_true.1 (kz3 v lim ((worksP w b t).map workC))
    rcases h.r with hr | hr
    · subst hr
      have q := q0 0 (by simp)
      rw [Bool.and_eq_true] at q
      exact ⟨okI_R q.1, fun z hz => okI_R (List.all_eq_true.1 q.2 z hz)⟩
    · subst hr
      have q := q0 1 (by simp)
      rw [Bool.and_eq_true] at q
      exact ⟨okI_R q.1, fun z hz => okI_R (List.all_eq_true.1 q.2 z hz)⟩
  have hs : R L Cs f_roads_check_signals [.a (mapC (mapP 3 lim r o1 o2 o3 v w b t))] [] = some (.w (W 0), []) := R_signals (by simp [mapP, signalsP]) (fun s hs => by simp [mapP, signalsP] at hs)
  have hrs : ∀ s ∈ (mapP 3 lim r o1 o2 o3 v w b t).signals, R L Cs f_kerbstoneref03_checkSignal [.a (mapC (mapP 3 lim r o1 o2 o3 v w b t)), .a s] [] = some (.w (W 0), []) := fun s hs => by simp [mapP, signalsP] at hs
  have hsp : ∀ s ∈ (mapP 3 lim r o1 o2 o3 v w b t).signals, ∃ o ps, s = [I o, .rslice ps] := fun s hs => by simp [mapP, signalsP] at hs
  have hzp : ∀ s ∈ (mapP 3 lim r o1 o2 o3 v w b t).zones, ∃ ps o, s = [.rslice ps, I o] := fun s hs => by
    simp [mapP, zonesP] at hs
    try (first | (rcases hs with hs | hs <;> (subst hs; exact ⟨_, _, rfl⟩)) | (subst hs; exact ⟨_, _, rfl⟩))
  exact {
    small := ⟨by simp [mapP, lanesP], by simp [mapP, lanesP, roadL], by simp [mapP, lanesP, roadL]⟩
    chk := R_Check_of (R_numbers hsz) (okI_R (List.all_eq_true.1 (kl3 v (zonesP 3 r) (signalsP 3 r o1 o2 o3) ((worksP w b t).map workC)) lim h.lim)) (okI_R (kj3 v lim (zonesP 3 r) (signalsP 3 r o1 o2 o3) ((worksP w b t).map workC))) hs hz.1
      (R_works h0 (hlen _ (List.getElem_mem h0)) rfl (by simp [mapP, lanesP, roadL]) (by simp [mapP, lanesP, roadL]) b t h.b h.t (works_two w b t))
    rchk := R_refCheck_of hsz (fun i hi => okI_R (List.all_eq_true.1 (List.all_eq_true.1 (rl3 v (zonesP 3 r) (signalsP 3 r o1 o2 o3) ((worksP w b t).map workC)) lim h.lim) i (List.mem_range.2 hi))) (okI_R (rj3 v lim (zonesP 3 r) (signalsP 3 r o1 o2 o3) ((worksP w b t).map workC))) hsp hzp hrs hz.2
      (fun x hx => by
        rcases works_two w b t with e | e
        · simp [mapP, e] at hx
        · simp [mapP, e] at hx
          subst hx
          exact R_refworks h0 (hrlen _ (List.getElem_mem h0)) rfl (by simp [mapP, lanesP, roadL]) b t h.b h.t)
    len := hlen
    rlen := hrlen
    len1 := by simp [mapP, lanesP, roadL]
    kind := by simp [mapP, lanesP, roadL]
    limit := by simp [mapP, lanesP, roadL]; try omega }
theorem good4 {lim r o1 o2 o3 v w b t : Int} (h : Nums lim r o1 o2 o3 v w b t) : Good (mapP 4 lim r o1 o2 o3 v w b t) := by
  have hlim := lims_le h.lim
  have hv := h.v
  have hsz : Sized (mapP 4 lim r o1 o2 o3 v w b t) := {
    v1 := hv.1
    v2 := by show v ≤ _; omega
    l1 := by simp [mapP, lanesP]
    l2 := by simp [mapP, lanesP]
    z := by simp [mapP, zonesP]
    s := by simp only [mapP, signalsP]; first | (split <;> simp) | simp
    w := by rcases works_two w b t with e | e <;> simp [mapP, e] }
  have hlen : ∀ l ∈ (mapP 4 lim r o1 o2 o3 v w b t).lanes, R L Cs f_curve_Length [.a [ptsC l]] [] = some (.w (W l.len), []) := fun l hl => by
    have := List.all_eq_true.1 (kc4 lim) l hl
    rw [Bool.and_eq_true] at this
    exact okI_R this.1
  have hrlen : ∀ l ∈ (mapP 4 lim r o1 o2 o3 v w b t).lanes, R L Cs f_kerbstoneref01_Length [.a [ptsC l]] [] = some (.w (W l.len), []) := fun l hl => by
    have := List.all_eq_true.1 (kc4 lim) l hl
    rw [Bool.and_eq_true] at this
    exact okI_R this.2
  have h0 : 0 < (mapP 4 lim r o1 o2 o3 v w b t).lanes.length := hsz.l1
  have hz : R L Cs f_roads_check_zones [.a (mapC (mapP 4 lim r o1 o2 o3 v w b t))] [] = some (.w (W 0), []) ∧ ∀ z ∈ (mapP 4 lim r o1 o2 o3 v w b t).zones, R L Cs f_kerbstoneref03_checkZone [.a (mapC (mapP 4 lim r o1 o2 o3 v w b t)), .a z] [] = some (.w (W 0), []) := by
    have q0 := List.all_eq_true.1 (kz4 v lim ((worksP w b t).map workC))
    rcases h.r with hr | hr
    · subst hr
      have q := q0 0 (by simp)
      rw [Bool.and_eq_true] at q
      exact ⟨okI_R q.1, fun z hz => okI_R (List.all_eq_true.1 q.2 z hz)⟩
    · subst hr
      have q := q0 1 (by simp)
      rw [Bool.and_eq_true] at q
      exact ⟨okI_R q.1, fun z hz => okI_R (List.all_eq_true.1 q.2 z hz)⟩
  have hs : R L Cs f_roads_check_signals [.a (mapC (mapP 4 lim r o1 o2 o3 v w b t))] [] = some (.w (W 0), []) := R_signals (by simp [mapP, signalsP]) (fun s hs => by simp [mapP, signalsP] at hs)
  have hrs : ∀ s ∈ (mapP 4 lim r o1 o2 o3 v w b t).signals, R L Cs f_kerbstoneref03_checkSignal [.a (mapC (mapP 4 lim r o1 o2 o3 v w b t)), .a s] [] = some (.w (W 0), []) := fun s hs => by simp [mapP, signalsP] at hs
  have hsp : ∀ s ∈ (mapP 4 lim r o1 o2 o3 v w b t).signals, ∃ o ps, s = [I o, .rslice ps] := fun s hs => by simp [mapP, signalsP] at hs
  have hzp : ∀ s ∈ (mapP 4 lim r o1 o2 o3 v w b t).zones, ∃ ps o, s = [.rslice ps, I o] := fun s hs => by
    simp [mapP, zonesP] at hs
    try (first | (rcases hs with hs | hs <;> (subst hs; exact ⟨_, _, rfl⟩)) | (subst hs; exact ⟨_, _, rfl⟩))
  exact {
    small := ⟨by simp [mapP, lanesP], by simp [mapP, lanesP, roadL], by simp [mapP, lanesP, roadL]⟩
    chk := R_Check_of (R_numbers hsz) (okI_R (List.all_eq_true.1 (kl4 v (zonesP 4 r) (signalsP 4 r o1 o2 o3) ((worksP w b t).map workC)) lim h.lim)) (okI_R (kj4 v lim (zonesP 4 r) (signalsP 4 r o1 o2 o3) ((worksP w b t).map workC))) hs hz.1
      (R_works h0 (hlen _ (List.getElem_mem h0)) rfl (by simp [mapP, lanesP, roadL]) (by simp [mapP, lanesP, roadL]) b t h.b h.t (works_two w b t))
    rchk := R_refCheck_of hsz (fun i hi => okI_R (List.all_eq_true.1 (List.all_eq_true.1 (rl4 v (zonesP 4 r) (signalsP 4 r o1 o2 o3) ((worksP w b t).map workC)) lim h.lim) i (List.mem_range.2 hi))) (okI_R (rj4 v lim (zonesP 4 r) (signalsP 4 r o1 o2 o3) ((worksP w b t).map workC))) hsp hzp hrs hz.2
      (fun x hx => by
        rcases works_two w b t with e | e
        · simp [mapP, e] at hx
        · simp [mapP, e] at hx
          subst hx
          exact R_refworks h0 (hrlen _ (List.getElem_mem h0)) rfl (by simp [mapP, lanesP, roadL]) b t h.b h.t)
    len := hlen
    rlen := hrlen
    len1 := by simp [mapP, lanesP, roadL]
    kind := by simp [mapP, lanesP, roadL]
    limit := by simp [mapP, lanesP, roadL]; try omega }
theorem good5 {lim r o1 o2 o3 v w b t : Int} (h : Nums lim r o1 o2 o3 v w b t) : Good (mapP 5 lim r o1 o2 o3 v w b t) := by
  have hlim := lims_le h.lim
  have hv := h.v
  have hsz : Sized (mapP 5 lim r o1 o2 o3 v w b t) := {
    v1 := hv.1
    v2 := by show v ≤ _; omega
    l1 := by simp [mapP, lanesP]
    l2 := by simp [mapP, lanesP]
    z := by simp [mapP, zonesP]
    s := by simp only [mapP, signalsP]; first | (split <;> simp) | simp
    w := by rcases works_two w b t with e | e <;> simp [mapP, e] }
  have hlen : ∀ l ∈ (mapP 5 lim r o1 o2 o3 v w b t).lanes, R L Cs f_curve_Length [.a [ptsC l]] [] = some (.w (W l.len), []) := fun l hl => by
    have := List.all_eq_true.1 (kc5 lim) l hl
    rw [Bool.and_eq_true] at this
    exact okI_R this.1
  have hrlen : ∀ l ∈ (mapP 5 lim r o1 o2 o3 v w b t).lanes, R L Cs f_kerbstoneref01_Length [.a [ptsC l]] [] = some (.w (W l.len), []) := fun l hl => by
    have := List.all_eq_true.1 (kc5 lim) l hl
    rw [Bool.and_eq_true] at this
    exact okI_R this.2
  have h0 : 0 < (mapP 5 lim r o1 o2 o3 v w b t).lanes.length := hsz.l1
  have hz : R L Cs f_roads_check_zones [.a (mapC (mapP 5 lim r o1 o2 o3 v w b t))] [] = some (.w (W 0), []) ∧ ∀ z ∈ (mapP 5 lim r o1 o2 o3 v w b t).zones, R L Cs f_kerbstoneref03_checkZone [.a (mapC (mapP 5 lim r o1 o2 o3 v w b t)), .a z] [] = some (.w (W 0), []) := by
    have q0 := List.all_eq_true.1 (kz5 v lim ((worksP w b t).map workC))
    rcases h.r with hr | hr
    · subst hr
      have q := q0 0 (by simp)
      rw [Bool.and_eq_true] at q
      exact ⟨okI_R q.1, fun z hz => okI_R (List.all_eq_true.1 q.2 z hz)⟩
    · subst hr
      have q := q0 1 (by simp)
      rw [Bool.and_eq_true] at q
      exact ⟨okI_R q.1, fun z hz => okI_R (List.all_eq_true.1 q.2 z hz)⟩
  have hs : R L Cs f_roads_check_signals [.a (mapC (mapP 5 lim r o1 o2 o3 v w b t))] [] = some (.w (W 0), []) := R_signals (by simp [mapP, signalsP]) (fun s hs => by simp [mapP, signalsP] at hs)
  have hrs : ∀ s ∈ (mapP 5 lim r o1 o2 o3 v w b t).signals, R L Cs f_kerbstoneref03_checkSignal [.a (mapC (mapP 5 lim r o1 o2 o3 v w b t)), .a s] [] = some (.w (W 0), []) := fun s hs => by simp [mapP, signalsP] at hs
  have hsp : ∀ s ∈ (mapP 5 lim r o1 o2 o3 v w b t).signals, ∃ o ps, s = [I o, .rslice ps] := fun s hs => by simp [mapP, signalsP] at hs
  have hzp : ∀ s ∈ (mapP 5 lim r o1 o2 o3 v w b t).zones, ∃ ps o, s = [.rslice ps, I o] := fun s hs => by
    simp [mapP, zonesP] at hs
    try (first | (rcases hs with hs | hs <;> (subst hs; exact ⟨_, _, rfl⟩)) | (subst hs; exact ⟨_, _, rfl⟩))
  exact {
    small := ⟨by simp [mapP, lanesP], by simp [mapP, lanesP, roadL], by simp [mapP, lanesP, roadL]⟩
    chk := R_Check_of (R_numbers hsz) (okI_R (List.all_eq_true.1 (kl5 v (zonesP 5 r) (signalsP 5 r o1 o2 o3) ((worksP w b t).map workC)) lim h.lim)) (okI_R (kj5 v lim (zonesP 5 r) (signalsP 5 r o1 o2 o3) ((worksP w b t).map workC))) hs hz.1
      (R_works h0 (hlen _ (List.getElem_mem h0)) rfl (by simp [mapP, lanesP, roadL]) (by simp [mapP, lanesP, roadL]) b t h.b h.t (works_two w b t))
    rchk := R_refCheck_of hsz (fun i hi => okI_R (List.all_eq_true.1 (List.all_eq_true.1 (rl5 v (zonesP 5 r) (signalsP 5 r o1 o2 o3) ((worksP w b t).map workC)) lim h.lim) i (List.mem_range.2 hi))) (okI_R (rj5 v lim (zonesP 5 r) (signalsP 5 r o1 o2 o3) ((worksP w b t).map workC))) hsp hzp hrs hz.2
      (fun x hx => by
        rcases works_two w b t with e | e
        · simp [mapP, e] at hx
        · simp [mapP, e] at hx
          subst hx
          exact R_refworks h0 (hrlen _ (List.getElem_mem h0)) rfl (by simp [mapP, lanesP, roadL]) b t h.b h.t)
    len := hlen
    rlen := hrlen
    len1 := by simp [mapP, lanesP, roadL]
    kind := by simp [mapP, lanesP, roadL]
    limit := by simp [mapP, lanesP, roadL]; try omega }
theorem good6 {lim r o1 o2 o3 v w b t : Int} (h : Nums lim r o1 o2 o3 v w b t) : Good (mapP 6 lim r o1 o2 o3 v w b t) := by
  have hlim := lims_le h.lim
  have hv := h.v
  have hsz : Sized (mapP 6 lim r o1 o2 o3 v w b t) := {
    v1 := hv.1
    v2 := by show v ≤ _; omega
    l1 := by simp [mapP, lanesP]
    l2 := by simp [mapP, lanesP]
    z := by simp [mapP, zonesP]
    s := by simp only [mapP, signalsP]; first | (split <;> simp) | simp
    w := by rcases works_two w b t with e | e <;> simp [mapP, e] }
  have hlen : ∀ l ∈ (mapP 6 lim r o1 o2 o3 v w b t).lanes, R L Cs f_curve_Length [.a [ptsC l]] [] = some (.w (W l.len), []) := fun l hl => by
    have := List.all_eq_true.1 (kc6 lim) l hl
    rw [Bool.and_eq_true] at this
    exact okI_R this.1
  have hrlen : ∀ l ∈ (mapP 6 lim r o1 o2 o3 v w b t).lanes, R L Cs f_kerbstoneref01_Length [.a [ptsC l]] [] = some (.w (W l.len), []) := fun l hl => by
    have := List.all_eq_true.1 (kc6 lim) l hl
    rw [Bool.and_eq_true] at this
    exact okI_R this.2
  have h0 : 0 < (mapP 6 lim r o1 o2 o3 v w b t).lanes.length := hsz.l1
  have hz : R L Cs f_roads_check_zones [.a (mapC (mapP 6 lim r o1 o2 o3 v w b t))] [] = some (.w (W 0), []) ∧ ∀ z ∈ (mapP 6 lim r o1 o2 o3 v w b t).zones, R L Cs f_kerbstoneref03_checkZone [.a (mapC (mapP 6 lim r o1 o2 o3 v w b t)), .a z] [] = some (.w (W 0), []) := by
    rcases h.r with hr | hr
    · subst hr
      have q := kz6 v lim ((worksP w b t).map workC)
      rw [Bool.and_eq_true] at q
      exact ⟨okI_R q.1, fun z hz => okI_R (List.all_eq_true.1 q.2 z hz)⟩
    · subst hr
      have q := kz6b v lim (signalC o2 1 3) (signalC o3 2 3) ((worksP w b t).map workC)
      rw [Bool.and_eq_true] at q
      exact ⟨okI_R q.1, fun z hz => okI_R (List.all_eq_true.1 q.2 z hz)⟩
  have hs : R L Cs f_roads_check_signals [.a (mapC (mapP 6 lim r o1 o2 o3 v w b t))] [] = some (.w (W 0), []) := R_signals (by have := hsz.s; omega) (fun s hs => by
    rcases h.r with hr | hr
    · subst hr; simp [mapP, signalsP] at hs
    · subst hr
      simp [mapP, signalsP] at hs
      rcases hs with hs | hs
      · subst hs
        exact ⟨o2, 1, 3, rfl, h.o2.1, by have := h.o2.2; omega, R_iff.2 ⟨400, cf1.2.1⟩, R_iff.2 ⟨400, cf2b v lim _ _ _⟩⟩
      · subst hs
        exact ⟨o3, 2, 3, rfl, h.o3.1, by have := h.o3.2; omega, R_iff.2 ⟨400, cf1.2.2⟩, R_iff.2 ⟨400, cf2c v lim _ _ _⟩⟩)
  have hrs : ∀ s ∈ (mapP 6 lim r o1 o2 o3 v w b t).signals, R L Cs f_kerbstoneref03_checkSignal [.a (mapC (mapP 6 lim r o1 o2 o3 v w b t)), .a s] [] = some (.w (W 0), []) := fun s hs => by
    rcases h.r with hr | hr
    · subst hr; simp [mapP, signalsP] at hs
    · subst hr
      simp [mapP, signalsP] at hs
      rcases hs with hs | hs
      · subst hs
        obtain ⟨n, hn⟩ := Int.eq_ofNat_of_zero_le h.o2.1
        subst hn
        have q := List.all_eq_true.1 (rs6 v lim (zonesP 6 1) (signalsP 6 1 o1 n o3) ((worksP w b t).map workC)) n (List.mem_range.2 (by have := h.o2.2; omega))
        rw [Bool.and_eq_true] at q
        exact okI_R q.1
      · subst hs
        obtain ⟨n, hn⟩ := Int.eq_ofNat_of_zero_le h.o3.1
        subst hn
        have q := List.all_eq_true.1 (rs6 v lim (zonesP 6 1) (signalsP 6 1 o1 o2 n) ((worksP w b t).map workC)) n (List.mem_range.2 (by have := h.o3.2; omega))
        rw [Bool.and_eq_true] at q
        exact okI_R q.2
  have hsp : ∀ s ∈ (mapP 6 lim r o1 o2 o3 v w b t).signals, ∃ o ps, s = [I o, .rslice ps] := fun s hs => by
    rcases h.r with hr | hr
    · subst hr; simp [mapP, signalsP] at hs
    · subst hr
      simp [mapP, signalsP] at hs
      rcases hs with hs | hs
      · subst hs; exact ⟨_, _, rfl⟩
      · subst hs; exact ⟨_, _, rfl⟩
  have hzp : ∀ s ∈ (mapP 6 lim r o1 o2 o3 v w b t).zones, ∃ ps o, s = [.rslice ps, I o] := fun s hs => by
    simp [mapP, zonesP] at hs
    try (first | (rcases hs with hs | hs <;> (subst hs; exact ⟨_, _, rfl⟩)) | (subst hs; exact ⟨_, _, rfl⟩))
  exact {
    small := ⟨by simp [mapP, lanesP], by simp [mapP, lanesP, roadL], by simp [mapP, lanesP, roadL]⟩
    chk := R_Check_of (R_numbers hsz) (okI_R (List.all_eq_true.1 (kl6 v (zonesP 6 r) (signalsP 6 r o1 o2 o3) ((worksP w b t).map workC)) lim h.lim)) (okI_R (kj6 v lim (zonesP 6 r) (signalsP 6 r o1 o2 o3) ((worksP w b t).map workC))) hs hz.1
      (R_works h0 (hlen _ (List.getElem_mem h0)) rfl (by simp [mapP, lanesP, roadL]) (by simp [mapP, lanesP, roadL]) b t h.b h.t (works_two w b t))
    rchk := R_refCheck_of hsz (fun i hi => okI_R (List.all_eq_true.1 (List.all_eq_true.1 (rl6 v (zonesP 6 r) (signalsP 6 r o1 o2 o3) ((worksP w b t).map workC)) lim h.lim) i (List.mem_range.2 hi))) (okI_R (rj6 v lim (zonesP 6 r) (signalsP 6 r o1 o2 o3) ((worksP w b t).map workC))) hsp hzp hrs hz.2
      (fun x hx => by
        rcases works_two w b t with e | e
        · simp [mapP, e] at hx
        · simp [mapP, e] at hx
          subst hx
          exact R_refworks h0 (hrlen _ (List.getElem_mem h0)) rfl (by simp [mapP, lanesP, roadL]) b t h.b h.t)
    len := hlen
    rlen := hrlen
    len1 := by simp [mapP, lanesP, roadL]
    kind := by simp [mapP, lanesP, roadL]
    limit := by simp [mapP, lanesP, roadL]; try omega }
end Go.TrRun
set_option maxRecDepth 10000
namespace Go.TrRun
open Go Go.Eng
theorem limF_mem (j : Nat) : limF j ∈ lims := by
  unfold limF lims
  split <;> simp
theorem nums_of (n : Int) : Nums (limF (((n % 16777216).tdiv 7).tmod 4).toNat) (((n % 16777216).tdiv 28).tmod 2) (((n % 16777216).tdiv 28).tmod 31) (((n % 16777216).tdiv 56).tmod 31) (((n % 16777216).tdiv 56).tmod 17) (((n % 16777216).tdiv 28).tmod 5) (((n % 16777216).tdiv 1736).tmod 3) (((n % 16777216).tdiv 5208).tmod 40) (((n % 16777216).tdiv 208320).tmod 3) := by
  have hN : 0 ≤ n % 16777216 ∧ n % 16777216 < 16777216 := by omega
  have hr := tmod_lt _ 28 2 hN (by decide) (by decide)
  exact ⟨limF_mem _, by omega, tmod_lt _ 28 31 hN (by decide) (by decide), tmod_lt _ 56 31 hN (by decide) (by decide), tmod_lt _ 56 17 hN (by decide) (by decide), tmod_lt _ 28 5 hN (by decide) (by decide), tmod_lt _ 5208 40 hN (by decide) (by decide), tmod_lt _ 208320 3 hN (by decide) (by decide)⟩
end Go.TrRun
namespace Go.TrRun
open Go Go.Eng
abbrev i64S : Sh := .int .i64
def In64 (n : Int) : Prop := -9223372036854775808 ≤ n ∧ n ≤ 9223372036854775807
structure RB (b : Blob) : Prop where
  lane : In64 b.lane
  lo : In64 b.lo
  hi : In64 b.hi
  vlo : In64 b.vlo
  vhi : In64 b.vhi
  hold : In64 b.hold
theorem RB.ok {b : Blob} (h : RB b) : OKB b := ⟨h.lo.1, h.lo.2, h.hi.1, h.hi.2⟩
end Go.TrRun
set_option maxRecDepth 10000
namespace Go.TrRun
open Go Go.Eng
theorem wrap_small {q : Nat} (h : q < 2000000) : IntKind.i64.wrap (q : Int) = (q : Int) := i64_id _ (by omega) (by omega)
end Go.TrRun
set_option maxRecDepth 10000
namespace Go.TrRun
open Go Go.Eng
def Ord (a b : Blob) : Prop := a.lane < b.lane ∨ a.lane = b.lane ∧ a.lo ≤ b.lo
theorem Ord.trans {a b c : Blob} (h : Ord a b) (g : Ord b c) : Ord a c := by unfold Ord at *; omega
theorem not_lt {x s : Blob} (h : ltB x s = false) : Ord s x := by
  unfold ltB at h; unfold Ord; simp at h; omega
end Go.TrRun
set_option maxRecDepth 10000
namespace Go.TrRun
open Go Go.Eng
structure Spn where
  lane : Int
  lo : Int
  hi : Int
def spnC (s : Spn) : List Cl := [I s.lane, I s.lo, I s.hi]
def rowsS (l : List Spn) : List (List Cl) := l.map spnC
@[simp] theorem spnC_len (s : Spn) : (spnC s).length = 3 := rfl
@[simp] theorem rowsS_len (l : List Spn) : (rowsS l).length = l.length := by simp [rowsS]
@[simp] theorem rowsS_append (l m : List Spn) : rowsS (l ++ m) = rowsS l ++ rowsS m := by simp [rowsS]
@[simp] theorem rowsS_nil : rowsS [] = [] := rfl
@[simp] theorem rowsS_cons (x : Spn) (l : List Spn) : rowsS (x :: l) = spnC x :: rowsS l := rfl
@[simp] theorem rowsS_take (l : List Spn) : (rowsS l).take l.length = rowsS l := List.take_of_length_le (by simp)
@[simp] theorem rowsS_getElem {l : List Spn} {i : Nat} (h : i < (rowsS l).length) : (rowsS l)[i] = spnC (l[i]'(by simpa using h)) := by simp [rowsS]
def onF (m : GMap) (s : Spn) : Bool := decide (0 ≤ s.lane) && decide (s.lane < m.lanes.length) && decide (0 ≤ s.lo) && decide (s.lo ≤ s.hi) && decide (s.hi ≤ lenF m s.lane)
theorem R_on {m : GMap} (h : Good m) (s : Spn) : R L Cs f_track_on [.a (mapC m), .a (spnC s)] [] = some (.w (Bo (onF m s)), []) := by
  obtain ⟨ln, lo, hi⟩ := s
  rw [R_fn F_track_on rfl]
  simp only [onF, spnC]
  by_cases c1 : 0 ≤ ln
  · by_cases c2 : ln < m.lanes.length
    · obtain ⟨j, rfl⟩ := Int.eq_ofNat_of_zero_le c1
      have hj : j < m.lanes.length := by omega
      have hL := R_Length h hj
      have e : lenF m j = m.lanes[j].len := by simp [lenF, hj]
      simp only [mapC] at hL
      rw [e]
      by_cases c3 : 0 ≤ lo
      · by_cases c4 : lo ≤ hi
        · simp [c_track_on, mapC, hj, c3, c4, hL, newAt]
        · simp [c_track_on, mapC, hj, c3, c4, newAt]
      · simp [c_track_on, mapC, hj, c3, newAt]
    · simp [c_track_on, mapC, c1, c2, newAt]
  · simp [c_track_on, mapC, c1, newAt]
def blobOf (s : Spn) : Blob := ⟨s.lane, s.lo, s.hi, 0, 0, 0⟩
def spnOf (b : Blob) : Spn := ⟨b.lane, b.lo, b.hi⟩
set_option maxHeartbeats 1000000 in
theorem whole_loop1 {m : GMap} (h : Good m) (l : List Spn) (hl : l.length ≤ 1000) : ∀ (r : List Spn) (i : Nat) (out : List Blob), l.drop i = r → i ≤ l.length → out.length ≤ i →
    Y L Cs c_track_whole_l1 (some [5, 13, 12, 11, 2]) 3 [(5, .w (.c (sl 2 6 (rowsB out)))), (13, .w (W i)), (12, .w (W l.length)), (11, .w (.c (.rslice (rowsS l)))), (2, .w (Pt 0))] [bx 5 (mapC m), gb 3, some (own 6 (rowsB out))] =
      some (.exit 0, [(14, .w (Bo false)), (5, .w (.c (sl 2 6 (rowsB (out ++ (r.filter (onF m)).map blobOf))))), (13, .w (W l.length)), (12, .w (W l.length)), (11, .w (.c (.rslice (rowsS l)))), (2, .w (Pt 0))], [bx 5 (mapC m), gb 3, some (own 6 (rowsB (out ++ (r.filter (onF m)).map blobOf)))]) := by
  intro r
  induction r with
  | nil =>
    intro i out hd hi ho
    obtain rfl := drop_nil hd hi
    rw [Y_step c_track_whole_l1.eq_1]
    simp
  | cons s r ih =>
    intro i out hd hi ho
    obtain ⟨hil, hs, hd'⟩ := drop_cons hd
    have hw := wrap_succ (i := i) (by omega)
    have hon := R_on h s
    have hroom : (out.length + 1) * 48 ≤ 140737488355328 := by omega
    by_cases c : onF m s = true
    · rw [List.filter_cons_of_pos c, List.map_cons, show out ++ blobOf s :: (r.filter (onF m)).map blobOf = (out ++ [blobOf s]) ++ (r.filter (onF m)).map blobOf by simp, ← ih (i + 1) (out ++ [blobOf s]) hd' hil (by simp; omega), Y_step c_track_whole_l1.eq_1]
      clear ih
      rw [c] at hon
      simp only [mapC, spnC] at hon
      simp [hil, hs, hw, spnC, blobC, blobOf, mapC, hon, hroom, newAt, memBelow]
    · rw [List.filter_cons_of_neg c, ← ih (i + 1) out hd' hil (by omega), Y_step c_track_whole_l1.eq_1]
      clear ih
      have c' : onF m s = false := by simpa using c
      rw [c'] at hon
      simp only [mapC, spnC] at hon
      simp [hil, hs, hw, spnC, mapC, hon, newAt, memBelow]
abbrev fzB (bs : List Blob) : Option Blk := some { box := false, esz := 6, rows := rowsB bs, gen := bs.length, fz := true, ver := bs.length + 1 }
set_option maxHeartbeats 1000000 in
theorem whole_loop2 {m : GMap} (bs : List Blob) (l : List Blob) (hl : l.length ≤ 1000) : ∀ (r : List Blob) (i : Nat) (out : List Spn), l.drop i = r → i ≤ l.length → out.length = i →
    Y L Cs c_track_whole_l2 (some [8, 34, 33, 32]) 4 [(8, .w (.c (sl 3 3 (rowsS out)))), (34, .w (W i)), (33, .w (W l.length)), (32, .w (.c (.rslice (rowsB l))))] [bx 5 (mapC m), gb 3, fzB bs, some (own 3 (rowsS out))] =
      some (.exit 2, [(35, .w (Bo false)), (8, .w (.c (sl 3 3 (rowsS (out ++ r.map spnOf))))), (34, .w (W l.length)), (33, .w (W l.length)), (32, .w (.c (.rslice (rowsB l))))], [bx 5 (mapC m), gb 3, fzB bs, some (own 3 (rowsS (out ++ r.map spnOf)))]) := by
  intro r
  induction r with
  | nil =>
    intro i out hd hi ho
    obtain rfl := drop_nil hd hi
    rw [Y_step c_track_whole_l2.eq_1]
    simp
  | cons b r ih =>
    intro i out hd hi ho
    subst ho
    obtain ⟨hil, hb, hd'⟩ := drop_cons hd
    have hw := wrap_succ (i := out.length) (by omega)
    have hroom : (out.length + 1) * 24 ≤ 140737488355328 := by omega
    rw [List.map_cons, show out ++ spnOf b :: r.map spnOf = (out ++ [spnOf b]) ++ r.map spnOf by simp, ← ih (out.length + 1) (out ++ [spnOf b]) hd' hil (by simp), Y_step c_track_whole_l2.eq_1]
    clear ih
    simp [hil, hb, hw, spnC, blobC, spnOf, mapC, hroom, newAt, memBelow]
def wholeF (m : GMap) (l : List Spn) : List Spn := (refJoinF ((l.filter (onF m)).map blobOf)).map spnOf
theorem onF_ok {m : GMap} (h : Good m) {s : Spn} (hs : onF m s = true) : OKB (blobOf s) := by
  unfold onF at hs
  simp at hs
  have := lenF_le h (x := s.lane) (by omega)
  exact ⟨by simp [blobOf]; omega, by simp [blobOf]; omega, by simp [blobOf]; omega, by simp [blobOf]; omega⟩
set_option maxHeartbeats 1000000 in
theorem R_whole {m : GMap} (h : Good m) (l : List Spn) (hl : l.length ≤ 19) : R L Cs f_track_whole [.a (mapC m), .c (.rslice (rowsS l))] [] = some (.w (.c (.rslice (rowsS (wholeF m l)))), []) := by
  have h1 := whole_loop1 h l (by omega) l 0 [] rfl (Nat.zero_le _) (Nat.zero_le _)
  have hfl : (l.filter (onF m)).length ≤ l.length := List.length_filter_le _ _
  have h2 := R_trackJoin ((l.filter (onF m)).map blobOf) (by simp; omega) (by
    intro x hx
    obtain ⟨s, hs, rfl⟩ := List.mem_map.1 hx
    exact onF_ok h (List.mem_filter.1 hs).2)
  have hjl := refJoinF_len ((l.filter (onF m)).map blobOf)
  rw [List.length_map] at hjl
  have h3 := whole_loop2 (m := m) ((l.filter (onF m)).map blobOf) (refJoinF ((l.filter (onF m)).map blobOf)) (by omega) _ 0 [] rfl (Nat.zero_le _) rfl
  have htk : List.take (l.filter (onF m)).length ((l.filter (onF m)).map blobOf) = (l.filter (onF m)).map blobOf := List.take_of_length_le (by simp)
  unfold wholeF
  generalize refJoinF ((l.filter (onF m)).map blobOf) = q at *
  have hbl : ((l.filter (onF m)).map blobOf).length = (l.filter (onF m)).length := List.length_map _
  generalize (l.filter (onF m)).map blobOf = bs at *
  generalize (l.filter (onF m)).length = n at *
  subst hbl
  simp only [mapC, Int.natCast_zero, List.nil_append, rowsB_nil, rowsS_nil, sl, own, List.length_nil, rowsB_len, rowsS_len, List.length_map, List.drop_zero, fzB] at h1 h2 h3 ⊢
  rw [R_fn F_track_whole rfl]
  have htk2 : List.take q.length (rowsS (q.map spnOf)) = rowsS (q.map spnOf) := List.take_of_length_le (by simp)
  simp [c_track_whole, h1, h2, h3, newAt, markOne, htk2]
end Go.TrRun
set_option maxRecDepth 10000
namespace Go.TrRun
open Go Go.Eng
theorem R_endsS (b : Spn) (i v : Nat) (M : Mem) (h : M[i]? = some (bxv v 3 (spnC b))) : R L Cs f_motion_ends_Span [Pt i] M = some (.t [W b.lane, .c (.ptr i 0 0 1), .c (.ptr i 0 0 2)], M) := by
  rw [R_fn F_motion_ends_Span rfl]
  simp only [spnC] at h
  simp [c_motion_ends_Span, h, spnC, p1F]
def cutS1 (x fr to : Int) (b : Spn) : List Spn :=
  if b.lane ≠ x ∨ fr > to ∨ fr > b.hi ∨ to < b.lo then [b] else
  (if b.lo < fr then [{ b with hi := fr - 1 }] else []) ++ (if to < b.hi then [{ b with lo := to + 1 }] else [])
def cutS (x fr to : Int) : List Spn → List Spn
  | [] => []
  | b :: r => cutS1 x fr to b ++ cutS x fr to r
theorem cutS1_len (x fr to : Int) (b : Spn) : (cutS1 x fr to b).length ≤ 2 := by
  unfold cutS1
  split
  · simp
  · split <;> split <;> simp
theorem cutS_len (x fr to : Int) : ∀ (r : List Spn), (cutS x fr to r).length ≤ 2 * r.length
  | [] => by simp [cutS]
  | b :: r => by
    have := cutS1_len x fr to b
    have := cutS_len x fr to r
    simp only [cutS, List.length_append, List.length_cons]; omega
set_option maxHeartbeats 2000000 in
theorem cutS_loop (x fr to : Int) (hfr : Mid fr) (hto : Mid to) (l : List Spn) (hl : l.length ≤ 100000) : ∀ (r : List Spn) (i : Nat) (out : List Spn), l.drop i = r → i ≤ l.length → out.length ≤ 2 * i →
    Y L Cs c_motion_Cut_Span_l1 (some [5, 21, 20, 19, 3]) 3 [(5, .w (.c (sl 2 3 (rowsS out)))), (21, .w (W i)), (20, .w (W l.length)), (19, .w (.c (.rslice (rowsS l)))), (3, .w (Pt 0))] [bx 3 [I x, I fr, I to], gb 3, some (own 3 (rowsS out))] =
      some (.exit 0, [(22, .w (Bo false)), (5, .w (.c (sl 2 3 (rowsS (out ++ cutS x fr to r))))), (21, .w (W l.length)), (20, .w (W l.length)), (19, .w (.c (.rslice (rowsS l)))), (3, .w (Pt 0))], [bx 3 [I x, I fr, I to], gb 3, some (own 3 (rowsS (out ++ cutS x fr to r)))]) := by
  intro r
  induction r with
  | nil =>
    intro i out hd hi ho
    obtain rfl := drop_nil hd hi
    rw [Y_step c_motion_Cut_Span_l1.eq_1]
    simp [cutS]
  | cons b r ih =>
    intro i out hd hi ho
    obtain ⟨hil, hb, hd'⟩ := drop_cons hd
    have hw := wrap_succ (i := i) (by omega)
    have hcl : (out ++ cutS1 x fr to b).length ≤ 2 * (i + 1) := by
      have := cutS1_len x fr to b
      rw [List.length_append]; omega
    obtain ⟨f1, f2⟩ := hfr
    obtain ⟨t1, t2⟩ := hto
    have hw1 : IntKind.i64.wrap (fr - 1) = fr - 1 := i64_id _ (by omega) (by omega)
    have hw2 : IntKind.i64.wrap (to + 1) = to + 1 := i64_id _ (by omega) (by omega)
    have hroom : (out.length + 1) * 24 ≤ 140737488355328 := by omega
    have hroom2 : (out.length + 2) * 24 ≤ 140737488355328 := by clear hcl hd hb hd' ih; omega
    have he := R_endsS b 0 1 [bxv 1 3 (spnC b)] rfl
    have e1 : out ++ cutS x fr to (b :: r) = (out ++ cutS1 x fr to b) ++ cutS x fr to r := by simp [cutS]
    rw [e1, ← ih (i + 1) (out ++ cutS1 x fr to b) hd' hil hcl, Y_step c_motion_Cut_Span_l1.eq_1]
    clear ih e1 hcl
    clear f1 f2 t1 t2
    obtain ⟨bl, lo, hi'⟩ := b
    simp only [spnC, cutS1] at *
    by_cases c1 : bl = x
    · subst c1
      by_cases c2 : to < fr
      · simp [hil, hb, spnC, hw, hroom, newAt, memBelow, he, c2]
      · by_cases c3 : hi' < fr
        · simp [hil, hb, spnC, hw, hroom, newAt, memBelow, he, c2, c3]
        · by_cases c4 : to < lo
          · simp [hil, hb, spnC, hw, hroom, newAt, memBelow, he, c2, c3, c4]
          · by_cases c5 : lo < fr
            · by_cases c6 : to < hi'
              · have htk : ∀ y : List Cl, List.take (out.length + 1) (rowsS out ++ [y]) = rowsS out ++ [y] := fun y => List.take_of_length_le (by simp)
                simp [hil, hb, spnC, hw, hw1, hw2, hroom, hroom2, newAt, memBelow, he, c2, c3, c4, c5, c6, htk]
              · simp [hil, hb, spnC, hw, hw1, hw2, hroom, newAt, memBelow, he, c2, c3, c4, c5, c6]
            · by_cases c6 : to < hi'
              · simp [hil, hb, spnC, hw, hw1, hw2, hroom, newAt, memBelow, he, c2, c3, c4, c5, c6]
              · simp [hil, hb, spnC, hw, hw1, hw2, hroom, newAt, memBelow, he, c2, c3, c4, c5, c6]
    · have b1 : (bl == x) = false := by simp [c1]
      have b2 : (bl != x) = true := by simp [c1]
      simp [hil, hb, spnC, hw, hroom, newAt, memBelow, he, c1, b1, b2]
theorem R_CutS (x fr to : Int) (hfr : Mid fr) (hto : Mid to) (l : List Spn) (hl : l.length ≤ 100000) : R L Cs f_motion_Cut_Span [.c (.rslice (rowsS l)), .a [I x, I fr, I to]] [] = some (.w (.c (.rslice (rowsS (cutS x fr to l)))), []) := by
  have hc := cutS_loop x fr to hfr hto l hl l 0 [] rfl (Nat.zero_le _) (Nat.zero_le _)
  simp only [Int.natCast_zero, List.nil_append, rowsS_nil, sl, own, List.length_nil, rowsS_len] at hc
  rw [R_fn F_motion_Cut_Span rfl]
  simp [c_motion_Cut_Span, hc, newAt]
theorem on_mid {m : GMap} (h : Good m) {s : Spn} (c : onF m s = true) : Mid s.lo ∧ Mid s.hi := by
  unfold onF at c
  simp at c
  have := lenF_le h (x := s.lane) (by omega)
  exact ⟨⟨by omega, by omega⟩, ⟨by omega, by omega⟩⟩
structure Fnd where
  lane : Int
  lo : Int
  hi : Int
  v1 : Int
  v2 : Int
def fndC (s : Fnd) : List Cl := [I s.lane, I s.lo, I s.hi, I s.v1, I s.v2]
def rowsF (l : List Fnd) : List (List Cl) := l.map fndC
def Fnd.s (f : Fnd) : Spn := ⟨f.lane, f.lo, f.hi⟩
@[simp] theorem fndC_len (s : Fnd) : (fndC s).length = 5 := rfl
@[simp] theorem rowsF_len (l : List Fnd) : (rowsF l).length = l.length := by simp [rowsF]
@[simp] theorem rowsF_append (l m : List Fnd) : rowsF (l ++ m) = rowsF l ++ rowsF m := by simp [rowsF]
@[simp] theorem rowsF_nil : rowsF [] = [] := rfl
@[simp] theorem rowsF_cons (x : Fnd) (l : List Fnd) : rowsF (x :: l) = fndC x :: rowsF l := rfl
@[simp] theorem rowsF_getElem {l : List Fnd} {i : Nat} (h : i < (rowsF l).length) : (rowsF l)[i] = fndC (l[i]'(by simpa using h)) := by simp [rowsF]
@[simp] theorem rowsF_take (l : List Fnd) : (rowsF l).take l.length = rowsF l := List.take_of_length_le (by simp)
def freeL (m : GMap) : List Fnd → List Spn → List Spn
  | [], l => l
  | f :: r, l => freeL m r (if onF m f.s = true then cutS f.lane f.lo f.hi l else l)
set_option maxHeartbeats 1000000 in
theorem free_loop {m : GMap} (h : Good m) (fs : List Fnd) (hl : fs.length ≤ 8) : ∀ (r : List Fnd) (i : Nat) (out : List Spn), fs.drop i = r → i ≤ fs.length → out.length * 2 ^ r.length ≤ 100000 →
    Y L Cs c_track_Free_l1 (some [7, 19, 18, 17, 3]) 2 [(7, .w (.c (.rslice (rowsS out)))), (19, .w (W i)), (18, .w (W fs.length)), (17, .w (.c (.rslice (rowsF fs)))), (3, .w (Pt 0))] [bx 5 (mapC m), gb 3] =
      some (.exit 0, [(20, .w (Bo false)), (7, .w (.c (.rslice (rowsS (freeL m r out))))), (19, .w (W fs.length)), (18, .w (W fs.length)), (17, .w (.c (.rslice (rowsF fs)))), (3, .w (Pt 0))], [bx 5 (mapC m), gb 3]) := by
  intro r
  induction r with
  | nil =>
    intro i out hd hi hb
    obtain rfl := drop_nil hd hi
    rw [Y_step c_track_Free_l1.eq_1]
    simp [freeL]
  | cons f r ih =>
    intro i out hd hi hb
    obtain ⟨hil, hf, hd'⟩ := drop_cons hd
    have hw := wrap_succ (i := i) (by omega)
    have hon := R_on h f.s
    have hb1 : out.length ≤ 100000 := Nat.le_trans (Nat.le_mul_of_pos_right _ (Nat.two_pow_pos _)) hb
    have hcl := cutS_len f.lane f.lo f.hi out
    have hb2 : (if onF m f.s = true then cutS f.lane f.lo f.hi out else out).length * 2 ^ r.length ≤ 100000 := by
      simp only [List.length_cons, Nat.pow_succ] at hb
      have e : out.length * (2 ^ r.length * 2) = 2 * out.length * 2 ^ r.length := by rw [Nat.mul_comm 2 out.length, Nat.mul_assoc, Nat.mul_comm 2]
      rw [e] at hb
      split
      · exact Nat.le_trans (Nat.mul_le_mul_right _ hcl) hb
      · exact Nat.le_trans (Nat.mul_le_mul_right _ (by omega)) hb
    rw [freeL, ← ih (i + 1) _ hd' hil hb2, Y_step c_track_Free_l1.eq_1]
    clear ih hb hb2 hcl
    obtain ⟨ln, lo, hi', v1, v2⟩ := f
    by_cases c : onF m (Fnd.s ⟨ln, lo, hi', v1, v2⟩) = true
    · have hk := onF_ok h c
      have hcut := R_CutS ln lo hi' (on_mid h c).1 (on_mid h c).2 out hb1
      rw [if_pos c]
      rw [c] at hon
      simp only [mapC, spnC, Fnd.s] at hon
      simp [hil, hf, hw, fndC, mapC, hon, hcut, newAt, memBelow]
    · have c' : onF m (Fnd.s ⟨ln, lo, hi', v1, v2⟩) = false := by simpa using c
      rw [if_neg c]
      rw [c'] at hon
      simp only [mapC, spnC, Fnd.s] at hon
      simp [hil, hf, hw, fndC, mapC, hon, newAt, memBelow]
def freeF (m : GMap) (l : List Spn) (fs : List Fnd) : List Spn := freeL m fs (wholeF m l)
theorem wholeF_len (m : GMap) (l : List Spn) : (wholeF m l).length ≤ l.length := by
  unfold wholeF
  have := refJoinF_len ((l.filter (onF m)).map blobOf)
  have h2 : (l.filter (onF m)).length ≤ l.length := List.length_filter_le _ _
  rw [List.length_map] at this ⊢
  omega
theorem R_Free {m : GMap} (h : Good m) (l : List Spn) (hl : l.length ≤ 19) (fs : List Fnd) (hfs : fs.length ≤ 8) : R L Cs f_track_Free [.a (mapC m), .c (.rslice (rowsS l)), .c (.rslice (rowsF fs))] [] = some (.w (.c (.rslice (rowsS (freeF m l fs)))), []) := by
  have h1 := R_whole h l hl
  have hw := wholeF_len m l
  have h2 := free_loop h fs hfs fs 0 (wholeF m l) rfl (Nat.zero_le _) (Nat.le_trans (Nat.mul_le_mul (Nat.le_trans hw hl) (Nat.pow_le_pow_right (by decide) hfs)) (by decide))
  have hck := h.chk
  unfold freeF
  simp only [mapC, Int.natCast_zero] at h1 h2 hck ⊢
  rw [R_fn F_track_Free rfl]
  simp [c_track_Free, h1, h2, hck, newAt]
end Go.TrRun
set_option maxRecDepth 10000
namespace Go.TrRun
open Go Go.Eng
structure Pnt where
  x : Int
  y : Int
  v : Int
def pntC (p : Pnt) : List Cl := [I p.x, I p.y, I p.v]
def rowsP (l : List Pnt) : List (List Cl) := l.map pntC
@[simp] theorem pntC_len (s : Pnt) : (pntC s).length = 3 := rfl
@[simp] theorem rowsP_len (l : List Pnt) : (rowsP l).length = l.length := by simp [rowsP]
@[simp] theorem rowsP_append (l m : List Pnt) : rowsP (l ++ m) = rowsP l ++ rowsP m := by simp [rowsP]
@[simp] theorem rowsP_nil : rowsP [] = [] := rfl
@[simp] theorem rowsP_cons (x : Pnt) (l : List Pnt) : rowsP (x :: l) = pntC x :: rowsP l := rfl
@[simp] theorem rowsP_getElem {l : List Pnt} {i : Nat} (h : i < (rowsP l).length) : (rowsP l)[i] = pntC (l[i]'(by simpa using h)) := by simp [rowsP]
@[simp] theorem rowsP_take (l : List Pnt) : (rowsP l).take l.length = rowsP l := List.take_of_length_le (by simp)
def cntZ (p : Pnt) : Bool := decide (-5 ≤ p.v) && decide (p.v ≤ 2005)
set_option maxHeartbeats 1000000 in
theorem counted_loop (l : List Pnt) (hl : l.length ≤ 1000) : ∀ (r : List Pnt) (i : Nat) (out : List Pnt), l.drop i = r → i ≤ l.length → out.length ≤ i →
    Y L Cs c_track_counted_l1 (some [3, 12, 11, 10]) 2 [(3, .w (.c (sl 1 3 (rowsP out)))), (12, .w (W i)), (11, .w (W l.length)), (10, .w (.c (.rslice (rowsP l))))] [gb 3, some (own 3 (rowsP out))] =
      some (.exit 0, [(13, .w (Bo false)), (3, .w (.c (sl 1 3 (rowsP (out ++ r.filter cntZ))))), (12, .w (W l.length)), (11, .w (W l.length)), (10, .w (.c (.rslice (rowsP l))))], [gb 3, some (own 3 (rowsP (out ++ r.filter cntZ)))]) := by
  intro r
  induction r with
  | nil =>
    intro i out hd hi ho
    obtain rfl := drop_nil hd hi
    rw [Y_step c_track_counted_l1.eq_1]
    simp
  | cons p r ih =>
    intro i out hd hi ho
    obtain ⟨hil, hs, hd'⟩ := drop_cons hd
    have hw := wrap_succ (i := i) (by omega)
    have hon := R_within_track p.v (-5) 2005
    have hroom : (out.length + 1) * 24 ≤ 140737488355328 := by omega
    by_cases c : cntZ p = true
    · rw [List.filter_cons_of_pos c, show out ++ p :: r.filter cntZ = (out ++ [p]) ++ r.filter cntZ by simp, ← ih (i + 1) (out ++ [p]) hd' hil (by simp; omega), Y_step c_track_counted_l1.eq_1]
      clear ih
      unfold cntZ at c
      rw [c] at hon
      simp [hil, hs, hw, pntC, hon, hroom, newAt, memBelow]
    · rw [List.filter_cons_of_neg c, ← ih (i + 1) out hd' hil (by omega), Y_step c_track_counted_l1.eq_1]
      clear ih
      have c' : cntZ p = false := by simpa using c
      unfold cntZ at c'
      rw [c'] at hon
      simp [hil, hs, hw, pntC, hon, newAt, memBelow]
theorem R_counted (l : List Pnt) (hl : l.length ≤ 1000) : R L Cs f_track_counted [.c (.rslice (rowsP l))] [] = some (.w (.c (.rslice (rowsP (l.filter cntZ)))), []) := by
  have h := counted_loop l hl l 0 [] rfl (Nat.zero_le _) (Nat.zero_le _)
  have hmin : min (l.length : Int) 1000 = l.length := by omega
  have hrow : (∀ x ∈ rowsP l, x.length = 3) = True := by simp [rowsP]
  have htk : List.take (l.filter cntZ).length (rowsP (l.filter cntZ)) = rowsP (l.filter cntZ) := rowsP_take _
  simp only [Int.natCast_zero, List.nil_append, rowsP_nil, sl, own, List.length_nil, rowsP_len] at h
  rw [R_fn F_track_counted rfl]
  simp [c_track_counted, newAt, foldMM, hmin, hrow, h, markOne, htk]
set_option maxHeartbeats 1000000 in
theorem rcounted_loop (l : List Pnt) (hl : l.length ≤ 1000) : ∀ (r : List Pnt) (i : Nat) (out : List Pnt), l.drop i = r → i ≤ l.length → out.length ≤ i →
    Y L Cs c_kerbstoneref05_counted_l1 (some [3, 4, 0]) 2 [(3, .w (.c (sl 1 3 (rowsP out)))), (4, .w (W i)), (0, .w (.c (.rslice (rowsP l))))] [gb 3, some (own 3 (rowsP out))] =
      some (.exit 0, [(12, .w (Bo false)), (3, .w (.c (sl 1 3 (rowsP (out ++ r.filter cntZ))))), (4, .w (W l.length)), (0, .w (.c (.rslice (rowsP l))))], [gb 3, some (own 3 (rowsP (out ++ r.filter cntZ)))]) := by
  intro r
  induction r with
  | nil =>
    intro i out hd hi ho
    obtain rfl := drop_nil hd hi
    rw [Y_step c_kerbstoneref05_counted_l1.eq_1]
    simp
  | cons p r ih =>
    intro i out hd hi ho
    obtain ⟨hil, hs, hd'⟩ := drop_cons hd
    have hw := wrap_succ (i := i) (by omega)
    have hroom : (out.length + 1) * 24 ≤ 140737488355328 := by omega
    have hi2 : (i : Int) < 1000 := by omega
    have hi3 : i < 1000 := by omega
    by_cases c : cntZ p = true
    · rw [List.filter_cons_of_pos c, show out ++ p :: r.filter cntZ = (out ++ [p]) ++ r.filter cntZ by simp, ← ih (i + 1) (out ++ [p]) hd' hil (by simp; omega), Y_step c_kerbstoneref05_counted_l1.eq_1]
      clear ih
      simp only [cntZ, Bool.and_eq_true, decide_eq_true_eq] at c
      simp [hil, hs, hw, pntC, c.1, c.2, hroom, newAt, memBelow, hi2, hi3]
    · rw [List.filter_cons_of_neg c, ← ih (i + 1) out hd' hil (by omega), Y_step c_kerbstoneref05_counted_l1.eq_1]
      clear ih
      simp only [cntZ, Bool.and_eq_true, decide_eq_true_eq] at c
      by_cases c1 : -5 ≤ p.v
      · have c2 : ¬ p.v ≤ 2005 := fun h => c ⟨c1, h⟩
        simp [hil, hs, hw, pntC, c1, c2, newAt, memBelow, hi2, hi3]
      · simp [hil, hs, hw, pntC, c1, newAt, memBelow, hi2, hi3]
theorem R_rcounted (l : List Pnt) (hl : l.length ≤ 1000) : R L Cs f_kerbstoneref05_counted [.c (.rslice (rowsP l))] [] = some (.w (.c (.rslice (rowsP (l.filter cntZ)))), []) := by
  have h := rcounted_loop l hl l 0 [] rfl (Nat.zero_le _) (Nat.zero_le _)
  have htk : List.take (l.filter cntZ).length (rowsP (l.filter cntZ)) = rowsP (l.filter cntZ) := rowsP_take _
  simp only [Int.natCast_zero, List.nil_append, rowsP_nil, sl, own, List.length_nil, rowsP_len] at h
  rw [R_fn F_kerbstoneref05_counted rfl]
  simp [c_kerbstoneref05_counted, newAt, h, markOne, htk]
def footF (lane len : Int) (p : Pnt) (f : Int) : Fnd := ⟨lane, max 0 (f - 100), min (f + 100) len, max 0 (p.v - 5), p.v + 5⟩
structure Lanes1 (m : GMap) : Prop where
  one : ∀ l ∈ m.lanes, ∃ x0 y0 x1 y1, l.pts = [(x0, y0), (x1, y1)] ∧ Pc x0 y0 x1 y1 l.len
def nearL (l : Lane) (p : Pnt) : List Int := match l.pts with
  | [(x0, y0), (x1, y1)] => nearF x0 y0 x1 y1 l.len p.x p.y
  | _ => []
def feetF (lane : Int) (l : Lane) (p : Pnt) : List Fnd := (nearL l p).map (footF lane l.len p)
theorem nearL_bd {m : GMap} (h1 : Lanes1 m) {l : Lane} (hl : l ∈ m.lanes) (p : Pnt) : (nearL l p).length ≤ 1 ∧ ∀ f ∈ nearL l p, 0 ≤ f ∧ f ≤ l.len := by
  obtain ⟨x0, y0, x1, y1, e, hp⟩ := h1.one l hl
  have := hp.l
  have hv := fun q => valZ_bd (q := q) (len := l.len) (by omega)
  unfold nearL
  rw [e]
  simp only [nearF]
  split
  · split
    · simp
    · simp
      exact ⟨(hv _).1, (hv _).2⟩
  · simp
theorem R_NearL {m : GMap} (h1 : Lanes1 m) {l : Lane} (hl : l ∈ m.lanes) (p : Pnt) : R L Cs f_curve_Near [.a [ptsC l], .a [I p.x, I p.y], W 100] [] = some (.w (.c (.rslice (rowsI (nearL l p)))), []) ∧ R L Cs f_kerbstoneref01_Near [.a [ptsC l], .a [I p.x, I p.y], W 100] [] = some (.w (.c (.rslice (rowsI (nearL l p)))), []) := by
  obtain ⟨x0, y0, x1, y1, e, hp⟩ := h1.one l hl
  have h1 := R_Near hp p.x p.y
  have h2 := R_rNear hp p.x p.y
  unfold nearL ptsC
  rw [e]
  exact ⟨h1, h2⟩
set_option maxHeartbeats 2000000 in
theorem feet_loop {m : GMap} (h : Good m) {n : Nat} (hn : n < m.lanes.length) (p : Pnt) (hp : cntZ p = true) (fs : List Int) (hfs : ∀ f ∈ fs, 0 ≤ f ∧ f ≤ m.lanes[n].len) (hl : fs.length ≤ 1000) : ∀ (r : List Int) (i : Nat) (out : List Fnd), fs.drop i = r → i ≤ fs.length → out.length ≤ i →
    Y L Cs c_track_feet_l1 (some [7, 23, 22, 21, 1, 5, 3]) 4 [(7, .w (.c (sl 3 5 (rowsF out)))), (23, .w (W i)), (22, .w (W fs.length)), (21, .w (.c (.rslice (rowsI fs)))), (1, .w (W n)), (5, .w (Pt 1)), (3, .w (Pt 0))] [bx 5 (mapC m), bx 3 (pntC p), gb 5, some (own 5 (rowsF out))] =
      some (.exit 0, [(24, .w (Bo false)), (7, .w (.c (sl 3 5 (rowsF (out ++ r.map (footF n m.lanes[n].len p)))))), (23, .w (W fs.length)), (22, .w (W fs.length)), (21, .w (.c (.rslice (rowsI fs)))), (1, .w (W n)), (5, .w (Pt 1)), (3, .w (Pt 0))], [bx 5 (mapC m), bx 3 (pntC p), gb 5, some (own 5 (rowsF (out ++ r.map (footF n m.lanes[n].len p))))]) := by
  intro r
  induction r with
  | nil =>
    intro i out hd hi ho
    obtain rfl := drop_nil hd hi
    rw [Y_step c_track_feet_l1.eq_1]
    simp
  | cons f r ih =>
    intro i out hd hi ho
    obtain ⟨hil, hs, hd'⟩ := drop_cons hd
    have hw := wrap_succ (i := i) (by omega)
    have hL := R_Length h hn
    have hf := hfs f (by rw [← hs]; exact List.getElem_mem hil)
    have hle := h.len1 _ (List.getElem_mem hn)
    have hroom : (out.length + 1) * 40 ≤ 140737488355328 := by omega
    simp only [cntZ, Bool.and_eq_true, decide_eq_true_eq] at hp
    have e1 : IntKind.i64.wrap (f - 100) = f - 100 := wr (by omega) (by omega)
    have e2 : IntKind.i64.wrap (f + 100) = f + 100 := wr (by omega) (by omega)
    have e3 : IntKind.i64.wrap (p.v - 5) = p.v - 5 := wr (by omega) (by omega)
    have e4 : IntKind.i64.wrap (p.v + 5) = p.v + 5 := wr (by omega) (by omega)
    rw [List.map_cons, show out ++ footF n m.lanes[n].len p f :: r.map (footF n m.lanes[n].len p) = (out ++ [footF n m.lanes[n].len p f]) ++ r.map (footF n m.lanes[n].len p) by simp, ← ih (i + 1) (out ++ [footF n m.lanes[n].len p f]) hd' hil (by simp; omega), Y_step c_track_feet_l1.eq_1]
    clear ih
    generalize hlane : m.lanes[n].len = ln at *
    simp only [mapC] at hL
    simp [hil, hs, hw, mapC, pntC, fndC, footF, hL, hroom, newAt, memBelow, e1, e2, e3, e4, foldMM]
theorem R_feet {m : GMap} (h : Good m) (h1 : Lanes1 m) {n : Nat} (hn : n < m.lanes.length) (p : Pnt) (hp : cntZ p = true) : R L Cs f_track_feet [.a (mapC m), W n, .a (pntC p)] [] = some (.w (.c (.rslice (rowsF (feetF n m.lanes[n] p)))), []) := by
  have hb := nearL_bd h1 (List.getElem_mem hn) p
  have hN := (R_NearL h1 (List.getElem_mem hn) p).1
  have hl := feet_loop h hn p hp (nearL m.lanes[n] p) hb.2 (by omega) _ 0 [] rfl (Nat.zero_le _) (Nat.zero_le _)
  have htk : List.take (feetF n m.lanes[n] p).length (rowsF (feetF n m.lanes[n] p)) = rowsF (feetF n m.lanes[n] p) := rowsF_take _
  have hfl : (feetF n m.lanes[n] p).length = (nearL m.lanes[n] p).length := by simp [feetF]
  simp only [List.nil_append] at hl
  change Y _ _ _ _ _ _ _ = some (_, [_, (7, .w (.c (sl 3 5 (rowsF (feetF n m.lanes[n] p))))), _, _, _, _, _, _], [_, _, _, some (own 5 (rowsF (feetF n m.lanes[n] p)))]) at hl
  generalize feetF n m.lanes[n] p = ft at *
  generalize nearL m.lanes[n] p = nl at *
  simp only [Int.natCast_zero, rowsF_nil, sl, own, List.length_nil, rowsF_len, mapC, pntC] at hl
  simp only [ptsC] at hN
  rw [R_fn F_track_feet rfl]
  simp [c_track_feet, mapC, pntC, hn, laneC, hN, hl, newAt, markOne, htk]
set_option maxHeartbeats 2000000 in
theorem rfeet_loop {m : GMap} (h : Good m) {n : Nat} (hn : n < m.lanes.length) (p : Pnt) (hp : cntZ p = true) (fs : List Int) (hfs : ∀ f ∈ fs, 0 ≤ f ∧ f ≤ m.lanes[n].len) (hl : fs.length ≤ 1000) : ∀ (r : List Int) (i : Nat) (out : List Fnd), fs.drop i = r → i ≤ fs.length → out.length ≤ i →
    Y L Cs c_kerbstoneref05_feet_l1 (some [7, 10, 1, 8, 9, 5]) 4 [(7, .w (.c (sl 3 5 (rowsF out)))), (10, .w (W i)), (1, .w (W n)), (8, .w (W m.lanes[n].len)), (9, .w (.c (.rslice (rowsI fs)))), (5, .w (Pt 1))] [bx 5 (mapC m), bx 3 (pntC p), gb 5, some (own 5 (rowsF out))] =
      some (.exit 0, [(29, .w (Bo false)), (7, .w (.c (sl 3 5 (rowsF (out ++ r.map (footF n m.lanes[n].len p)))))), (10, .w (W fs.length)), (1, .w (W n)), (8, .w (W m.lanes[n].len)), (9, .w (.c (.rslice (rowsI fs)))), (5, .w (Pt 1))], [bx 5 (mapC m), bx 3 (pntC p), gb 5, some (own 5 (rowsF (out ++ r.map (footF n m.lanes[n].len p))))]) := by
  intro r
  induction r with
  | nil =>
    intro i out hd hi ho
    obtain rfl := drop_nil hd hi
    rw [Y_step c_kerbstoneref05_feet_l1.eq_1]
    simp
  | cons f r ih =>
    intro i out hd hi ho
    obtain ⟨hil, hs, hd'⟩ := drop_cons hd
    have hw := wrap_succ (i := i) (by omega)
    have hf := hfs f (by rw [← hs]; exact List.getElem_mem hil)
    have hle := h.len1 _ (List.getElem_mem hn)
    have hroom : (out.length + 1) * 40 ≤ 140737488355328 := by omega
    simp only [cntZ, Bool.and_eq_true, decide_eq_true_eq] at hp
    have e1 : IntKind.i64.wrap (f - 100) = f - 100 := wr (by omega) (by omega)
    have e2 : IntKind.i64.wrap (f + 100) = f + 100 := wr (by omega) (by omega)
    have e3 : IntKind.i64.wrap (p.v - 5) = p.v - 5 := wr (by omega) (by omega)
    have e4 : IntKind.i64.wrap (p.v + 5) = p.v + 5 := wr (by omega) (by omega)
    have e5 : min m.lanes[n].len (f + 100) = min (f + 100) m.lanes[n].len := by omega
    rw [List.map_cons, show out ++ footF n m.lanes[n].len p f :: r.map (footF n m.lanes[n].len p) = (out ++ [footF n m.lanes[n].len p f]) ++ r.map (footF n m.lanes[n].len p) by simp, ← ih (i + 1) (out ++ [footF n m.lanes[n].len p f]) hd' hil (by simp; omega), Y_step c_kerbstoneref05_feet_l1.eq_1]
    clear ih
    generalize hlane : m.lanes[n].len = ln at *
    simp [hil, hs, hw, mapC, pntC, fndC, footF, hroom, newAt, memBelow, e1, e2, e3, e4, e5, foldMM]
theorem R_rfeet {m : GMap} (h : Good m) (h1 : Lanes1 m) {n : Nat} (hn : n < m.lanes.length) (p : Pnt) (hp : cntZ p = true) : R L Cs f_kerbstoneref05_feet [.a (mapC m), W n, .a (pntC p)] [] = some (.w (.c (.rslice (rowsF (feetF n m.lanes[n] p)))), []) := by
  have hb := nearL_bd h1 (List.getElem_mem hn) p
  have hN := (R_NearL h1 (List.getElem_mem hn) p).2
  have hLo := R_Long h hn
  have hl := rfeet_loop h hn p hp (nearL m.lanes[n] p) hb.2 (by omega) _ 0 [] rfl (Nat.zero_le _) (Nat.zero_le _)
  have htk : List.take (feetF n m.lanes[n] p).length (rowsF (feetF n m.lanes[n] p)) = rowsF (feetF n m.lanes[n] p) := rowsF_take _
  have hfl : (feetF n m.lanes[n] p).length = (nearL m.lanes[n] p).length := by simp [feetF]
  simp only [List.nil_append] at hl
  change Y _ _ _ _ _ _ _ = some (_, [_, (7, .w (.c (sl 3 5 (rowsF (feetF n m.lanes[n] p))))), _, _, _, _, _], [_, _, _, some (own 5 (rowsF (feetF n m.lanes[n] p)))]) at hl
  generalize feetF n m.lanes[n] p = ft at *
  generalize nearL m.lanes[n] p = nl at *
  simp only [Int.natCast_zero, rowsF_nil, sl, own, List.length_nil, rowsF_len, mapC, pntC] at hl
  simp only [ptsC] at hN
  simp only [mapC] at hLo
  rw [R_fn F_kerbstoneref05_feet rfl]
  simp [c_kerbstoneref05_feet, mapC, pntC, hn, laneC, hN, hl, hLo, newAt, markOne, htk]
end Go.TrRun
set_option maxRecDepth 10000
namespace Go.TrRun
open Go Go.Eng
abbrev oB (v : Nat) (o : List Fnd) : Option Blk := some { box := false, esz := 5, rows := rowsF o, gen := o.length, fz := false, ver := v }
abbrev oS (id : Nat) (o : List Fnd) : Cl := .slice id o.length 5 0 o.length none
def allF (n : Nat) (l : Lane) (ps : List Pnt) : List Fnd := ps.flatMap (feetF n l)
theorem feetF_len {m : GMap} (h1 : Lanes1 m) {n : Nat} (hn : n < m.lanes.length) (p : Pnt) : (feetF n m.lanes[n] p).length ≤ 1 := by
  have := (nearL_bd h1 (List.getElem_mem hn) p).1
  simpa [feetF] using this
set_option maxHeartbeats 2000000 in
theorem found_loop1 {m : GMap} (h : Good m) (h1 : Lanes1 m) {n : Nat} (hn : n < m.lanes.length) (v nl : Nat) (o : List Fnd) (pts cs : List Pnt) (hcs : ∀ p ∈ cs, cntZ p = true) (hl : cs.length ≤ 1000) : ∀ (r : List Pnt) (i : Nat) (l : List Fnd), cs.drop i = r → i ≤ cs.length → l.length ≤ i →
    Y L Cs c_track_Found_l1 (some [7, 27, 26, 5, 21, 20, 1, 25, 2, 6]) 4 [(7, .w (.c (sl 3 5 (rowsF l)))), (27, .w (W i)), (26, .w (W cs.length)), (5, .w (.c (oS 2 o))), (21, .w (W n)), (20, .w (W nl)), (1, .w (.c (.rslice (rowsP pts)))), (25, .w (.c (.rslice (rowsP cs)))), (2, .w (Pt 0)), (6, .w (W n))] [bx 5 (mapC m), gb 5, oB v o, some (own 5 (rowsF l))] =
      some (.exit 2, [(28, .w (Bo false)), (7, .w (.c (sl 3 5 (rowsF (l ++ allF n m.lanes[n] r))))), (27, .w (W cs.length)), (26, .w (W cs.length)), (5, .w (.c (oS 2 o))), (21, .w (W n)), (20, .w (W nl)), (1, .w (.c (.rslice (rowsP pts)))), (25, .w (.c (.rslice (rowsP cs)))), (2, .w (Pt 0)), (6, .w (W n))], [bx 5 (mapC m), gb 5, oB v o, some (own 5 (rowsF (l ++ allF n m.lanes[n] r)))]) := by
  intro r
  induction r with
  | nil =>
    intro i l hd hi ho
    obtain rfl := drop_nil hd hi
    rw [Y_step c_track_Found_l1.eq_1]
    simp [allF]
  | cons p r ih =>
    intro i l hd hi ho
    obtain ⟨hil, hs, hd'⟩ := drop_cons hd
    have hw := wrap_succ (i := i) (by omega)
    have hp := hcs p (by rw [← hs]; exact List.getElem_mem hil)
    have hF := R_feet h h1 hn p hp
    have hfl := feetF_len h1 hn p
    have hroom : (l.length + 1) * 40 ≤ 140737488355328 := by omega
    have hroom0 : l.length * 40 ≤ 140737488355328 := by omega
    rw [show l ++ allF n m.lanes[n] (p :: r) = (l ++ feetF n m.lanes[n] p) ++ allF n m.lanes[n] r by simp [allF], ← ih (i + 1) (l ++ feetF n m.lanes[n] p) hd' hil (by simp; omega), Y_step c_track_Found_l1.eq_1]
    clear ih
    generalize feetF n m.lanes[n] p = ft at *
    simp only [mapC, pntC] at hF
    match ft, hfl with
    | [], _ => simp [hil, hs, hw, mapC, pntC, hF, hroom0, newAt, memBelow]
    | [f], _ => simp [hil, hs, hw, mapC, pntC, fndC, hF, hroom, newAt, memBelow]
def merge1 (y x : Fnd) : Fnd := ⟨y.lane, y.lo, max y.hi x.hi, min y.v1 x.v1, max y.v2 x.v2⟩
def grp (g : List Fnd) (x : Fnd) : List Fnd := match g.getLast? with
  | none => [x]
  | some y => if x.lo - y.hi ≤ 500 then g.dropLast ++ [merge1 y x] else g ++ [x]
structure InB (f : Fnd) : Prop where
  a : 0 ≤ f.lo ∧ f.lo ≤ 10000000
  b : 0 ≤ f.hi ∧ f.hi ≤ 10000000
theorem grp_len (g : List Fnd) (x : Fnd) : (grp g x).length ≤ g.length + 1 := by
  unfold grp
  split
  · simp
  · split
    · simp <;> omega
    · simp
theorem grp_InB {g : List Fnd} {x : Fnd} (hg : ∀ y ∈ g, InB y) (hx : InB x) : ∀ y ∈ grp g x, InB y := by
  intro z hz
  unfold grp at hz
  split at hz
  · simp at hz; subst hz; exact hx
  · rename_i y hy
    split at hz
    · simp only [List.mem_append, List.mem_singleton] at hz
      rcases hz with hz | rfl
      · exact hg z (List.dropLast_subset _ hz)
      · have := hg y (List.mem_of_getLast? hy)
        exact ⟨this.a, by have h1 := this.b; have h2 := hx.b; simp only [merge1]; omega⟩
    · simp only [List.mem_append, List.mem_singleton] at hz
      rcases hz with hz | rfl
      · exact hg z hz
      · exact hx
abbrev lB (v : Nat) (s : List Fnd) : Option Blk := oB v s
set_option maxHeartbeats 4000000 in
theorem found_loop2 {m : GMap} (n nl w : Nat) (fo : List Fnd) (hfo : fo.length ≤ 100000) (pts : List Pnt) (s : List Fnd) (hsB : ∀ x ∈ s, InB x) (hl : s.length ≤ 1000) : ∀ (r : List Fnd) (i v : Nat) (g : List Fnd), s.drop i = r → i ≤ s.length → g.length ≤ i → (∀ y ∈ g, InB y) →
    ∃ v', Y L Cs c_track_Found_l2 (some [44, 43, 2, 1, 20, 21, 42, 10, 5]) 4 [(44, .w (W i)), (43, .w (W s.length)), (2, .w (Pt 0)), (1, .w (.c (.rslice (rowsP pts)))), (20, .w (W nl)), (21, .w (W n)), (42, .w (.c (oS 3 s))), (10, .w (W fo.length)), (5, .w (.c (oS 2 (fo ++ g))))] [bx 5 (mapC m), gb 5, oB v (fo ++ g), lB w s] =
      some (.exit 4, [(45, .w (Bo false)), (44, .w (W s.length)), (43, .w (W s.length)), (2, .w (Pt 0)), (1, .w (.c (.rslice (rowsP pts)))), (20, .w (W nl)), (21, .w (W n)), (42, .w (.c (oS 3 s))), (10, .w (W fo.length)), (5, .w (.c (oS 2 (fo ++ r.foldl grp g))))], [bx 5 (mapC m), gb 5, oB v' (fo ++ r.foldl grp g), lB w s]) := by
  intro r
  induction r with
  | nil =>
    intro i v g hd hi ho hg
    obtain rfl := drop_nil hd hi
    refine ⟨v, ?_⟩
    rw [Y_step c_track_Found_l2.eq_1]
    simp
  | cons x r ih =>
    intro i v g hd hi ho hg
    obtain ⟨hil, hs, hd'⟩ := drop_cons hd
    have hw := wrap_succ (i := i) (by omega)
    have hx := hsB x (by rw [← hs]; exact List.getElem_mem hil)
    have hgl := grp_len g x
    have hgB := grp_InB hg hx
    rcases List.eq_nil_or_concat g with rfl | ⟨g', y, rfl⟩
    · obtain ⟨v', ih⟩ := ih (i + 1) (v + 1) [x] hd' hil (by simp) (by simpa using hx)
      refine ⟨v', ?_⟩
      rw [List.foldl_cons, show grp [] x = [x] from rfl, ← ih, Y_step c_track_Found_l2.eq_1]
      clear ih
      have hroom : (fo.length + 1) * 40 ≤ 140737488355328 := by omega
      have e1 : IntKind.i64.wrap ((fo.length : Int) - 1) = (fo.length : Int) - 1 := wr (by omega) (by omega)
      have e2 : ¬ ((fo.length : Int) ≤ (fo.length : Int) - 1) := by omega
      simp [hil, hs, hw, fndC, hroom, newAt, memBelow, e1, e2, mapC, oB, oS, lB]
    · simp only [List.concat_eq_append] at ho hg hgl hgB ⊢
      have hy := hg y (by simp)
      obtain ⟨hya, hyb⟩ := hy.b
      obtain ⟨hxa, hxb⟩ := hx.a
      have e3 : IntKind.i64.wrap (x.lo - y.hi) = x.lo - y.hi := wr (by omega) (by omega)
      have hA : ∀ z : Fnd, rowsF (fo ++ (g' ++ [z])) = rowsF (fo ++ g') ++ [fndC z] := fun z => by simp
      have hlen : ∀ z : Fnd, (fo ++ (g' ++ [z])).length = (fo ++ g').length + 1 := fun z => by simp; omega
      have hAl : (rowsF (fo ++ g')).length = (fo ++ g').length := rowsF_len _
      have hK1 : fo.length ≤ (fo ++ g').length := by simp
      have hKb : (fo ++ g').length ≤ 200000 := by simp at ho ⊢; omega
      by_cases c : x.lo - y.hi ≤ 500
      · have eg : grp (g' ++ [y]) x = g' ++ [merge1 y x] := by simp [grp, c]
        rw [List.foldl_cons, eg]
        obtain ⟨v', ih⟩ := ih (i + 1) (v + 3) (g' ++ [merge1 y x]) hd' hil (by simp at ho ⊢; omega) (by rw [← eg]; exact hgB)
        refine ⟨v', ?_⟩
        simp only [oB, oS, lB, hA, hlen] at ih ⊢
        rw [← ih, Y_step c_track_Found_l2.eq_1]
        clear ih hgB hgl eg hA hlen
        generalize rowsF (fo ++ g') = A at *
        generalize (fo ++ g').length = K at *
        have hget : ∀ a : List Cl, (A ++ [a])[K]? = some a := fun a => by rw [← hAl]; simp
        have hset : ∀ a b : List Cl, (A ++ [a]).set K b = A ++ [b] := fun a b => by rw [← hAl]; simp
        have e1 : IntKind.i64.wrap (((K + 1 : Nat) : Int) - 1) = (K : Int) := by rw [wr (by omega) (by omega)]; omega
        have e1' : IntKind.i64.wrap ((K : Int) + 1 - 1) = (K : Int) := by rw [wr (by omega) (by omega)]; omega
        have e1'' : IntKind.i64.wrap (K : Int) = (K : Int) := wr (by omega) (by omega)
        have e2 : (fo.length : Int) ≤ (K : Int) := by omega
        have hk1 : (K : Int) < (K : Int) + 1 := by omega
        simp [hil, hs, hw, fndC, newAt, memBelow, e1, e1', e1'', e2, e3, mapC, hget, hset, c, hk1, hK1, foldMM, merge1, oB, oS, lB]
      · have eg : grp (g' ++ [y]) x = g' ++ [y] ++ [x] := by simp [grp, c]
        rw [List.foldl_cons, eg]
        obtain ⟨v', ih⟩ := ih (i + 1) (v + 1) (g' ++ [y] ++ [x]) hd' hil (by simp at ho ⊢; omega) (by rw [← eg]; exact hgB)
        refine ⟨v', ?_⟩
        have hA2 : rowsF (fo ++ (g' ++ [y] ++ [x])) = rowsF (fo ++ g') ++ [fndC y] ++ [fndC x] := by simp
        have hlen2 : (fo ++ (g' ++ [y] ++ [x])).length = (fo ++ g').length + 2 := by simp; omega
        simp only [oB, oS, lB, hA, hA2, hlen, hlen2] at ih ⊢
        rw [← ih, Y_step c_track_Found_l2.eq_1]
        clear ih hgB hgl eg hA2 hlen2 hA hlen
        generalize rowsF (fo ++ g') = A at *
        generalize (fo ++ g').length = K at *
        have hget : ∀ a : List Cl, (A ++ [a])[K]? = some a := fun a => by rw [← hAl]; simp
        have e1 : IntKind.i64.wrap (((K + 1 : Nat) : Int) - 1) = (K : Int) := by rw [wr (by omega) (by omega)]; omega
        have e1' : IntKind.i64.wrap ((K : Int) + 1 - 1) = (K : Int) := by rw [wr (by omega) (by omega)]; omega
        have e1'' : IntKind.i64.wrap (K : Int) = (K : Int) := wr (by omega) (by omega)
        have e2 : (fo.length : Int) ≤ (K : Int) := by omega
        have hk1 : (K : Int) < (K : Int) + 1 := by omega
        have hroom : (K + 1 + 1) * 40 ≤ 140737488355328 := by omega
        have hKA : K ≤ A.length := by omega
        have htk : ∀ a : List Cl, (A ++ [a]).take (K + 1) = A ++ [a] := fun a => List.take_of_length_le (by simp; omega)
        simp [hil, hs, hw, fndC, newAt, memBelow, e1, e1', e1'', e2, e3, mapC, hget, c, hk1, hK1, hroom, hKA, htk, foldMM, oB, oS, lB]
end Go.TrRun
set_option maxRecDepth 10000
namespace Go.TrRun
open Go Go.Eng
theorem sZ_swo (key : Nat) : Go.Sort.SWO (ltZ key) where
  irrefl x := by simp [ltZ]
  trans x y z h1 h2 := by simp [ltZ] at *; omega
  ntrans x y z h1 h2 := by simp [ltZ] at *; omega
theorem sZ_spec (key : Nat) (l : List (List Int)) : Go.Sort.PermIn 0 l.length l.toArray (Go.Sort.pdq (ltZ key) l.toArray 0 l.length (bitL l.length) true true) ∧ Go.Sort.SortedIn (ltZ key) 0 l.length (Go.Sort.pdq (ltZ key) l.toArray 0 l.length (bitL l.length) true true) :=
  Go.Sort.pdq_sorts (ltZ key) (sZ_swo key) l.toArray 0 l.length _ true true (Nat.zero_le _) (by simp) (Or.inl rfl)
theorem sortZ_perm (key : Nat) (l : List (List Int)) : (sortZ key l).Perm l := by
  obtain ⟨⟨h1, h2, h3⟩, _⟩ := sZ_spec key l
  unfold sortZ
  generalize Go.Sort.pdq (ltZ key) l.toArray 0 l.length (bitL l.length) true true = d at *
  have e1 : d.size = l.length := by simpa using h1
  have e2 : d.extract 0 l.length = d := by rw [← e1]; simp
  have e3 : l.toArray.extract 0 l.length = l.toArray := by simp
  rw [e2, e3] at h3
  simpa using h3
theorem sortZ_sorted (key : Nat) (l : List (List Int)) : (sortZ key l).Pairwise fun x y => x.getD key 0 ≤ y.getD key 0 := by
  obtain ⟨⟨h1, h2, h3⟩, h4⟩ := sZ_spec key l
  unfold sortZ
  generalize Go.Sort.pdq (ltZ key) l.toArray 0 l.length (bitL l.length) true true = d at *
  have e1 : d.size = l.length := by simpa using h1
  rw [List.pairwise_iff_getElem]
  intro i j hi hj hij
  have hj' : j < d.size := by simpa using hj
  have hi' : i < d.size := by simpa using hi
  have := h4 i j (Nat.zero_le _) hij (by omega)
  rw [getElem!_pos d i hi', getElem!_pos d j hj'] at this
  simp [ltZ] at this
  simpa using this
def Fnd.ints (f : Fnd) : List Int := [f.lane, f.lo, f.hi, f.v1, f.v2]
def ofInts (l : List Int) : Fnd := ⟨l.getD 0 0, l.getD 1 0, l.getD 2 0, l.getD 3 0, l.getD 4 0⟩
def srtF (l : List Fnd) : List Fnd := (sortZ 1 (l.map Fnd.ints)).map ofInts
theorem srtF_perm (l : List Fnd) : (srtF l).Perm l := by
  have := (sortZ_perm 1 (l.map Fnd.ints)).map ofInts
  simpa [srtF, List.map_map, Function.comp_def, Fnd.ints, ofInts] using this
theorem srtF_sorted (l : List Fnd) : (srtF l).Pairwise fun x y => x.lo ≤ y.lo := by
  unfold srtF
  rw [List.pairwise_map]
  exact sortZ_sorted 1 _
theorem srtF_len (l : List Fnd) : (srtF l).length = l.length := (srtF_perm l).length_eq
theorem zz_rows (l : List Fnd) : zzOf (rowsF l) = some (l.map Fnd.ints) := by
  induction l with
  | nil => rfl
  | cons f l ih => simp [zzOf, zRow, fndC, ih, Fnd.ints]
theorem encC_fnd (z : List Int) : encC 5 z = fndC (ofInts z) := by simp [encC, fndC, ofInts, List.range, List.range.loop]
theorem rows_srt (l : List Fnd) : (sortZ 1 (l.map Fnd.ints)).map (encC 5) = rowsF (srtF l) := by
  simp [srtF, rowsF, List.map_map, Function.comp_def, encC_fnd]
theorem Cs_sortF : List.lookup f_slices_SortFunc_Found Cs = some (0, 64 * f_track_Found_1 + 41, false) := by kernel_rfl
theorem L_sortF : L.lookup f_slices_SortFunc_Found = none := by kernel_rfl
theorem R_SortF_nil (w : Nat) : R L Cs f_slices_SortFunc_Found [.c (oS 0 []), .c (.fn f_track_Found_1 [] [])] [oB w []] = some (.t [], [oB w []]) := by
  rw [R_oracle L_sortF]
  unfold clones
  rw [Cs_sortF]
  have e1 : (64 * f_track_Found_1 + 41) / 64 = f_track_Found_1 := by decide
  simp [e1, sortFX]
theorem R_SortF (l : List Fnd) (hl : l.length ≤ 100000) (h0 : l ≠ []) (w : Nat) : R L Cs f_slices_SortFunc_Found [.c (oS 0 l), .c (.fn f_track_Found_1 [] [])] [oB w l] = some (.t [], [oB (w + 1) (srtF l)]) := by
  rw [R_oracle L_sortF]
  unfold clones
  rw [Cs_sortF]
  have e1 : (64 * f_track_Found_1 + 41) / 64 = f_track_Found_1 := by decide
  have e2 : (64 * f_track_Found_1 + 41) / 8 % 8 = 5 := by decide
  have e3 : (64 * f_track_Found_1 + 41) % 8 = 1 := by decide
  have h1 : l.length ≠ 0 := by simpa using h0
  have h2 : l.length < 4611686018427387904 := by omega
  have hz := zz_rows l
  have hr := rows_srt l
  have hd : List.drop l.length (rowsF l) = [] := List.drop_of_length_le (by simp)
  simp [e1, e2, e3, sortFX, h0, h1, h2, hz, hr, hd, srtF_len]
end Go.TrRun
set_option maxRecDepth 10000
namespace Go.TrRun
open Go Go.Eng
theorem allF_InB {m : GMap} (h : Good m) (h1 : Lanes1 m) {n : Nat} (hn : n < m.lanes.length) (cs : List Pnt) : ∀ x ∈ allF n m.lanes[n] cs, InB x ∧ x.lane = n ∧ x.lo ≤ x.hi := by
  intro x hx
  have hle := h.len1 _ (List.getElem_mem hn)
  simp only [allF, List.mem_flatMap, feetF, List.mem_map] at hx
  obtain ⟨p, hp, f, hf, rfl⟩ := hx
  have hb := (nearL_bd h1 (List.getElem_mem hn) p).2 f hf
  refine ⟨⟨?_, ?_⟩, rfl, ?_⟩ <;> simp only [footF] <;> omega
theorem allF_len {m : GMap} (h1 : Lanes1 m) {n : Nat} (hn : n < m.lanes.length) (cs : List Pnt) : (allF n m.lanes[n] cs).length ≤ cs.length := by
  induction cs with
  | nil => simp [allF]
  | cons p cs ih =>
    have := feetF_len h1 hn p
    simp only [allF, List.flatMap_cons, List.length_append, List.length_cons] at *
    omega
def laneF (n : Nat) (l : Lane) (cs : List Pnt) : List Fnd := (srtF (allF n l cs)).foldl grp []
def foundL (cs : List Pnt) : Nat → List Lane → List Fnd
  | _, [] => []
  | n, l :: ls => laneF n l cs ++ foundL cs (n + 1) ls
theorem foldl_grp_len (s : List Fnd) : ∀ g, (s.foldl grp g).length ≤ g.length + s.length := by
  induction s with
  | nil => intro g; simp
  | cons x s ih =>
    intro g
    have := ih (grp g x)
    have := grp_len g x
    simp only [List.foldl_cons, List.length_cons]
    omega
theorem laneF_len {m : GMap} (h1 : Lanes1 m) {n : Nat} (hn : n < m.lanes.length) (cs : List Pnt) : (laneF n m.lanes[n] cs).length ≤ cs.length := by
  have h2 := foldl_grp_len (srtF (allF n m.lanes[n] cs)) []
  have h3 := srtF_len (allF n m.lanes[n] cs)
  have h4 := allF_len h1 hn cs
  unfold laneF
  simp at h2
  omega
set_option maxHeartbeats 4000000 in
theorem found_loop3 {m : GMap} (h : Good m) (h1 : Lanes1 m) (pts : List Pnt) (hp : pts.length ≤ 1000) (hm : m.lanes.length ≤ 90) : ∀ (r : List Lane) (i v : Nat) (o : List Fnd), m.lanes.drop i = r → i ≤ m.lanes.length → o.length ≤ i * 1000 →
    ∃ v', Y L Cs c_track_Found_l3 (some [5, 21, 20, 1, 2]) 3 [(5, .w (.c (oS 2 o))), (21, .w (W i)), (20, .w (W m.lanes.length)), (1, .w (.c (.rslice (rowsP pts)))), (2, .w (Pt 0))] [bx 5 (mapC m), gb 5, oB v o] =
      some (.exit 0, [(22, .w (Bo false)), (5, .w (.c (oS 2 (o ++ foundL (pts.filter cntZ) i r)))), (21, .w (W m.lanes.length)), (20, .w (W m.lanes.length)), (1, .w (.c (.rslice (rowsP pts)))), (2, .w (Pt 0))], [bx 5 (mapC m), gb 5, oB v' (o ++ foundL (pts.filter cntZ) i r)]) := by
  intro r
  induction r with
  | nil =>
    intro i v o hd hi ho
    obtain rfl := drop_nil hd hi
    refine ⟨v, ?_⟩
    rw [Y_step c_track_Found_l3.eq_1]
    simp [foundL]
  | cons ln r ih =>
    intro i v o hd hi ho
    obtain ⟨hil, hs, hd'⟩ := drop_cons hd
    have hw := wrap_succ (i := i) (by omega)
    have hcnt := R_counted pts hp
    have hfl : (pts.filter cntZ).length ≤ pts.length := List.length_filter_le _ _
    have hcs : ∀ p ∈ pts.filter cntZ, cntZ p = true := fun p hp => (List.mem_filter.1 hp).2
    generalize pts.filter cntZ = cs at *
    have hl1 := found_loop1 h h1 hil v m.lanes.length o pts cs hcs (by omega) cs 0 [] rfl (Nat.zero_le _) (Nat.zero_le _)
    have hlen := allF_len h1 hil cs
    have hInB := allF_InB h h1 hil cs
    have hll := laneF_len h1 hil cs
    rw [hs] at hl1 hlen hInB hll
    obtain ⟨v2, hl2⟩ := found_loop2 (m := m) i m.lanes.length ((allF i ln cs).length + 1) o (by omega) pts (srtF (allF i ln cs)) (fun x hx => (hInB x ((srtF_perm _).mem_iff.1 hx)).1) (by rw [srtF_len]; omega) (srtF (allF i ln cs)) 0 v [] rfl (Nat.zero_le _) (Nat.zero_le _) (by simp)
    change Y _ _ _ _ _ _ _ = some (_, [_, _, _, _, _, _, _, _, _, (5, .w (.c (oS 2 (o ++ laneF i ln cs))))], [_, _, oB v2 (o ++ laneF i ln cs), _]) at hl2
    have hsl := srtF_len (allF i ln cs)
    by_cases h0 : allF i ln cs = []
    · have e : laneF i ln cs = [] := by
        have : srtF ([] : List Fnd) = [] := List.eq_nil_of_length_eq_zero (srtF_len [])
        simp [laneF, h0, this]
      obtain ⟨v', ih⟩ := ih (i + 1) v o hd' hil (by omega)
      refine ⟨v', ?_⟩
      have hS := R_SortF_nil 0
      rw [foundL, e, List.nil_append, ← ih, Y_step c_track_Found_l3.eq_1]
      clear ih hl2 hInB hll
      obtain ⟨v3, hl2⟩ := found_loop2 (m := m) i m.lanes.length 0 o (by omega) pts [] (by simp) (by simp) [] 0 v [] rfl (Nat.zero_le _) (Nat.zero_le _) (by simp)
      have hv3 : v3 = v := by
        rw [Y_step c_track_Found_l2.eq_1] at hl2
        simp [oB, oS, lB, mapC] at hl2
        exact hl2.symm
      subst hv3
      rw [h0] at hl1
      simp only [oB, oS, lB, sl, own, mapC, List.length_nil, Int.natCast_zero, rowsF_nil, List.append_nil, List.nil_append, rowsF_len, List.foldl_nil] at hl1 hl2 hcnt hS ⊢
      simp [hil, hw, hcnt, hl1, hS, hl2, newAt, memBelow, mapC, oB, oS, lB]
    · obtain ⟨v', ih⟩ := ih (i + 1) v2 (o ++ laneF i ln cs) hd' hil (by simp; omega)
      refine ⟨v', ?_⟩
      have hS := R_SortF (allF i ln cs) (by omega) h0 (allF i ln cs).length
      have hn0 : (allF i ln cs).length ≠ 0 := by simpa using h0
      rw [foundL, ← List.append_assoc, ← ih, Y_step c_track_Found_l3.eq_1]
      clear ih hInB
      generalize laneF i ln cs = lf at *
      generalize srtF (allF i ln cs) = sf at *
      simp only [List.nil_append] at hl1
      generalize allF i ln cs = af at *
      simp only [oB, oS, lB, sl, own, mapC, List.length_nil, Int.natCast_zero, rowsF_nil, List.append_nil, rowsF_len, hsl] at hl1 hl2 hcnt hS ⊢
      simp [hil, hw, hcnt, hl1, hS, hl2, newAt, memBelow, mapC, oB, oS, lB, hsl]
theorem foundL_len {m : GMap} (h1 : Lanes1 m) (cs : List Pnt) : ∀ (r : List Lane) (i : Nat), m.lanes.drop i = r → (foundL cs i r).length ≤ r.length * cs.length := by
  intro r
  induction r with
  | nil => intro i _; simp [foundL]
  | cons ln r ih =>
    intro i hd
    obtain ⟨hil, hs, hd'⟩ := drop_cons hd
    have h2 := ih (i + 1) hd'
    have h3 := laneF_len h1 hil cs
    rw [hs] at h3
    simp only [foundL, List.length_append, List.length_cons, Nat.succ_mul]
    omega
def foundF (m : GMap) (pts : List Pnt) : List Fnd := foundL (pts.filter cntZ) 0 m.lanes
theorem R_Found {m : GMap} (h : Good m) (h1 : Lanes1 m) (pts : List Pnt) (hp : pts.length ≤ 1000) (hm : m.lanes.length ≤ 90) : R L Cs f_track_Found [.a (mapC m), .c (.rslice (rowsP pts))] [] = some (.w (.c (.rslice (rowsF (foundF m pts)))), []) := by
  obtain ⟨v', hl⟩ := found_loop3 h h1 pts hp hm m.lanes 0 0 [] rfl (Nat.zero_le _) (Nat.zero_le _)
  have hck := h.chk
  have htk : List.take (foundF m pts).length (rowsF (foundF m pts)) = rowsF (foundF m pts) := rowsF_take _
  change Y _ _ _ _ _ _ _ = some (_, [_, (5, .w (.c (oS 2 (foundF m pts)))), _, _, _, _], [_, _, oB v' (foundF m pts)]) at hl
  generalize foundF m pts = ff at *
  simp only [oB, oS, mapC, List.length_nil, Int.natCast_zero, rowsF_nil] at hl hck
  rw [R_fn F_track_Found rfl]
  simp [c_track_Found, mapC, hck, hl, newAt, markOne, htk]
end Go.TrRun
set_option maxRecDepth 10000
namespace Go.TrRun
open Go Go.Eng
def atF (f : Fnd) (s : List Fnd) : Nat → Nat
  | 0 => 0
  | k + 1 => if f.lo < ((s[k]?).map Fnd.lo).getD 0 then atF f s k else k + 1
theorem atF_le (f : Fnd) (s : List Fnd) : ∀ k, atF f s k ≤ k
  | 0 => Nat.le_refl _
  | k + 1 => by
    have := atF_le f s k
    unfold atF
    split <;> omega
def insF (f : Fnd) (s : List Fnd) : List Fnd := s.take (atF f s s.length) ++ f :: s.drop (atF f s s.length)
theorem insF_len (f : Fnd) (s : List Fnd) : (insF f s).length = s.length + 1 := by
  have := atF_le f s s.length
  simp [insF]; omega
abbrev base (m : GMap) (v : Nat) (o : List Fnd) (J : Mem) : Mem := bx 5 (mapC m) :: gb 5 :: oB v o :: gb 5 :: J
set_option maxHeartbeats 2000000 in
theorem rfound_at {m : GMap} (n i v : Nat) (o : List Fnd) (cs : List Pnt) (f : Fnd) (s : List Fnd) (hl : s.length ≤ 100000) (J : Mem) (q : Nat) (hJ : J[q]? = some (oB s.length s)) : ∀ k : Nat, k ≤ s.length →
    Y L Cs c_kerbstoneref05_Found_l1 (some [13, 11, 10, 7, 5, 8, 6, 2, 12, 9]) (J.length + 4) [(13, .w (W k)), (11, .w (.c (.rslice [fndC f]))), (10, .w (W i)), (7, .w (Bo true)), (5, .w (.c (oS 2 o))), (8, .w (W n)), (6, .w (.c (.rslice (rowsP cs)))), (2, .w (Pt 0)), (12, .w (W 0)), (9, .w (.c (oS (q + 4) s)))] (base m v o J) =
      some (.exit 6, [(68, .w (Bo false)), (13, .w (W (atF f s k))), (11, .w (.c (.rslice [fndC f]))), (10, .w (W i)), (7, .w (Bo true)), (5, .w (.c (oS 2 o))), (8, .w (W n)), (6, .w (.c (.rslice (rowsP cs)))), (2, .w (Pt 0)), (12, .w (W 0)), (9, .w (.c (oS (q + 4) s)))], base m v o J) := by
  intro k
  induction k with
  | zero =>
    intro _
    rw [Y_step c_kerbstoneref05_Found_l1.eq_1]
    simp [atF]
  | succ k ih =>
    intro hk
    have hk' : k < s.length := by omega
    have e1 : IntKind.i64.wrap ((k : Int) + 1 - 1) = k := by rw [wr (by omega) (by omega)]; omega
    have e2 : IntKind.i64.wrap (k : Int) = k := wr (by omega) (by omega)
    have e3 : (0 : Int) < (k : Int) + 1 := by omega
    have hsk : s[k]? = some s[k] := List.getElem?_eq_getElem hk'
    have hat : atF f s (k + 1) = if f.lo < (s[k]).lo then atF f s k else k + 1 := by simp [atF, hsk]
    rw [hat]
    by_cases c : f.lo < (s[k]).lo
    · rw [if_pos c, ← ih (by omega), Y_step c_kerbstoneref05_Found_l1.eq_1]
      clear ih
      simp [hk', e1, e2, e3, fndC, c, newAt, memBelow, mapC, oB, oS, base, hJ]
    · rw [if_neg c, Y_step c_kerbstoneref05_Found_l1.eq_1]
      clear ih
      simp [hk', e1, e2, e3, fndC, c, newAt, memBelow, mapC, oB, oS, base, hJ]
theorem rfound_at0 {m : GMap} (n i v : Nat) (o : List Fnd) (cs : List Pnt) (f : Fnd) :
    Y L Cs c_kerbstoneref05_Found_l1 (some [13, 11, 10, 7, 5, 8, 6, 2, 12, 9]) 4 [(13, .w (W 0)), (11, .w (.c (.rslice [fndC f]))), (10, .w (W i)), (7, .w (Bo true)), (5, .w (.c (oS 2 o))), (8, .w (W n)), (6, .w (.c (.rslice (rowsP cs)))), (2, .w (Pt 0)), (12, .w (W 0)), (9, .w (.c (oS 3 [])))] (base m v o []) =
      some (.exit 6, [(68, .w (Bo false)), (13, .w (W 0)), (11, .w (.c (.rslice [fndC f]))), (10, .w (W i)), (7, .w (Bo true)), (5, .w (.c (oS 2 o))), (8, .w (W n)), (6, .w (.c (.rslice (rowsP cs)))), (2, .w (Pt 0)), (12, .w (W 0)), (9, .w (.c (oS 3 [])))], base m v o []) := by
  rw [Y_step c_kerbstoneref05_Found_l1.eq_1]
  simp
theorem rfound_none (n i : Nat) (o : List Fnd) (cs : List Pnt) (n0 : Nat) (c9 : Cl) (M : Mem) :
    Y L Cs c_kerbstoneref05_Found_l2 (some [2, 6, 8, 5, 7, 10, 11, 12, 9]) n0 [(2, .w (Pt 0)), (6, .w (.c (.rslice (rowsP cs)))), (8, .w (W n)), (5, .w (.c (oS 2 o))), (7, .w (Bo true)), (10, .w (W i)), (11, .w (.c (.rslice []))), (12, .w (W 0)), (9, .w (.c c9))] M =
      some (.exit 4, [(48, .w (Bo false)), (11, .w (.c (.rslice []))), (10, .w (W i)), (7, .w (Bo true)), (5, .w (.c (oS 2 o))), (8, .w (W n)), (6, .w (.c (.rslice (rowsP cs)))), (2, .w (Pt 0)), (12, .w (W 0)), (9, .w (.c c9))], M) := by
  rw [Y_step c_kerbstoneref05_Found_l2.eq_1]
  simp
theorem rfound_end (n i : Nat) (o : List Fnd) (cs : List Pnt) (f : Fnd) (n0 : Nat) (c9 : Cl) (M : Mem) :
    Y L Cs c_kerbstoneref05_Found_l2 (some [2, 6, 8, 5, 7, 10, 11, 12, 9]) n0 [(2, .w (Pt 0)), (6, .w (.c (.rslice (rowsP cs)))), (8, .w (W n)), (5, .w (.c (oS 2 o))), (7, .w (Bo true)), (10, .w (W i)), (11, .w (.c (.rslice [fndC f]))), (12, .w (W 1)), (9, .w (.c c9))] M =
      some (.exit 4, [(48, .w (Bo false)), (11, .w (.c (.rslice [fndC f]))), (10, .w (W i)), (7, .w (Bo true)), (5, .w (.c (oS 2 o))), (8, .w (W n)), (6, .w (.c (.rslice (rowsP cs)))), (2, .w (Pt 0)), (12, .w (W 1)), (9, .w (.c c9))], M) := by
  rw [Y_step c_kerbstoneref05_Found_l2.eq_1]
  simp
set_option maxHeartbeats 2000000 in
theorem rfound_first {m : GMap} (n i v : Nat) (o : List Fnd) (cs : List Pnt) (f : Fnd) :
    Y L Cs c_kerbstoneref05_Found_l2 (some [2, 6, 8, 5, 7, 10, 11, 12, 9]) 4 [(2, .w (Pt 0)), (6, .w (.c (.rslice (rowsP cs)))), (8, .w (W n)), (5, .w (.c (oS 2 o))), (7, .w (Bo true)), (10, .w (W i)), (11, .w (.c (.rslice [fndC f]))), (12, .w (W 0)), (9, .w (.c (oS 3 [])))] (base m v o []) =
      some (.exit 4, [(48, .w (Bo false)), (11, .w (.c (.rslice [fndC f]))), (10, .w (W i)), (7, .w (Bo true)), (5, .w (.c (oS 2 o))), (8, .w (W n)), (6, .w (.c (.rslice (rowsP cs)))), (2, .w (Pt 0)), (12, .w (W 1)), (9, .w (.c (oS 4 [f])))], base m v o [oB 1 [f], oB 1 [f]]) := by
  have h1 := rfound_at0 (m := m) n i v o cs f
  have e1 : IntKind.i64.wrap 1 = 1 := rfl
  have h2 := rfound_end n i o cs f 4 (oS 4 [f]) (base m v o [oB 1 [f], oB 1 [f]])
  rw [Y_step c_kerbstoneref05_Found_l2.eq_1]
  simp only [oB, oS, mapC, fndC, List.length_nil, List.length_cons, rowsF_nil, rowsF_cons, base] at h1 h2 ⊢
  simp [newAt, memBelow, h1, e1, h2]
set_option maxHeartbeats 4000000 in
theorem rfound_more {m : GMap} (n i v : Nat) (o : List Fnd) (cs : List Pnt) (f : Fnd) (s : List Fnd) (h0 : s ≠ []) (hl : s.length ≤ 100000) (J : Mem) (q : Nat) (hJ : J[q]? = some (oB s.length s)) :
    Y L Cs c_kerbstoneref05_Found_l2 (some [2, 6, 8, 5, 7, 10, 11, 12, 9]) (J.length + 4) [(2, .w (Pt 0)), (6, .w (.c (.rslice (rowsP cs)))), (8, .w (W n)), (5, .w (.c (oS 2 o))), (7, .w (Bo true)), (10, .w (W i)), (11, .w (.c (.rslice [fndC f]))), (12, .w (W 0)), (9, .w (.c (oS (q + 4) s)))] (base m v o J) =
      some (.exit 4, [(48, .w (Bo false)), (11, .w (.c (.rslice [fndC f]))), (10, .w (W i)), (7, .w (Bo true)), (5, .w (.c (oS 2 o))), (8, .w (W n)), (6, .w (.c (.rslice (rowsP cs)))), (2, .w (Pt 0)), (12, .w (W 1)), (9, .w (.c (oS (J.length + 4) (insF f s))))], base m v o (J ++ [oB (insF f s).length (insF f s), oB 1 [f]])) := by
  have h1 := rfound_at (m := m) n i v o cs f s hl J q hJ s.length (Nat.le_refl _)
  have e1 : IntKind.i64.wrap 1 = 1 := rfl
  have h2 := rfound_end n i o cs f (J.length + 4) (oS (J.length + 4) (insF f s)) (base m v o (J ++ [oB (insF f s).length (insF f s), oB 1 [f]]))
  have hle := atF_le f s s.length
  have hlen := insF_len f s
  have hrows : rowsF (insF f s) = (rowsF s).take (atF f s s.length) ++ fndC f :: (rowsF s).drop (atF f s s.length) := by
    simp [insF, rowsF]
  have hq : q < J.length := (List.getElem?_eq_some_iff.1 hJ).1
  rw [Y_step c_kerbstoneref05_Found_l2.eq_1]
  simp only [hlen] at h2 ⊢
  generalize atF f s s.length = a at *
  have g1 : ∀ T : Mem, (J ++ T)[q]? = some (oB s.length s) := fun T => by rw [List.getElem?_append_left hq]; exact hJ
  have g2 : ∀ (x : Option Blk) (T : Mem), (J ++ x :: T)[J.length]? = some x := fun x T => by simp
  have g3 : ∀ (x y : Option Blk) (T : Mem), (J ++ x :: y :: T)[J.length + 1]? = some y := fun x y T => by rw [List.getElem?_append_right (by omega)]; simp
  have g4 : ∀ (x y : Option Blk) (T : Mem), (J ++ x :: T).set J.length y = J ++ y :: T := fun x y T => by simp
  have g5 : ∀ (x y z : Option Blk) (T : Mem), (J ++ x :: y :: T).set (J.length + 1) z = J ++ x :: z :: T := fun x y z T => by rw [List.set_append, if_neg (by omega)]; simp
  simp only [oB, oS, hlen, hrows, mapC, fndC, base, rowsF_cons, rowsF_nil, List.length_cons, List.length_nil] at h1 h2 g1 hJ ⊢
  have r1 : (a : Int) ≤ s.length := by omega
  have r2 : a * 40 ≤ 140737488355328 := by omega
  have r3 : (a + 1) * 40 ≤ 140737488355328 := by omega
  have r4 : (s.length + 1) * 40 ≤ 140737488355328 := by omega
  have t1 : a ≠ 0 → s.length ≠ 0 := by omega
  have t2 : List.take s.length (rowsF s) = rowsF s := rowsF_take s
  have t3 : List.drop s.length (rowsF s) = [] := List.drop_of_length_le (by simp)
  have t4 : ∀ T : List (List Cl), List.take a (List.take a (rowsF s) ++ T) = List.take a (rowsF s) := fun T => by rw [List.take_append, List.take_take]; simp; omega
  have r5 : (1 + s.length) * 40 ≤ 140737488355328 := by omega
  have r6 : 1 + s.length = s.length + 1 := Nat.add_comm _ _
  have hr0 : (rowsF s = []) = False := by simp [rowsF, h0]
  have hs0 : s.length ≠ 0 := by simpa using h0
  clear hlen hrows
  rcases Nat.eq_zero_or_pos a with ha | ha
  · subst ha
    simp [newAt, memBelow, h1, e1, h2, r1, r2, r3, r4, r5, hJ, g1, g2, g3, g4, g5, h0, hs0, hr0, r6]
    simpa [r6] using h2
  · have ha0 : a ≠ 0 := by omega
    rcases Nat.eq_or_lt_of_le hle with hb | hb
    · subst hb
      simp [newAt, memBelow, h1, e1, h2, hle, r1, r2, r3, r4, r5, hJ, g1, g2, g3, g4, g5, ha0, h0, hs0, hr0, t1, t2, t3, t4]
      simpa [t2, t3] using h2
    · have hb0 : s.length - a ≠ 0 := by omega
      have r7 : a + 1 + (s.length - a) = s.length + 1 := by omega
      have r8 : ¬ s.length ≤ a := by omega
      simp [newAt, memBelow, h1, e1, h2, hle, r1, r2, r3, r4, r5, hJ, g1, g2, g3, g4, g5, ha0, hb0, h0, hs0, hr0, r7, r8, t1, t2, t3, t4]
      have t5 : ∀ x : List Cl, List.take (a + 1) (List.take a (List.take a (rowsF s)) ++ [x]) = List.take a (rowsF s) ++ [x] := fun x => by rw [List.take_take, Nat.min_self]; exact List.take_of_length_le (by simp; omega)
      have t6 : List.take (s.length - a) (List.drop a (rowsF s)) = List.drop a (rowsF s) := List.take_of_length_le (by simp)
      simpa [t5, t6] using h2
end Go.TrRun
set_option maxRecDepth 10000
namespace Go.TrRun
open Go Go.Eng
def plainB : Option Blk → Bool
  | some b => !b.box
  | none => true
theorem memBelow_plain (n : Nat) : ∀ {J : Mem}, (∀ x ∈ J, plainB x = true) → memBelow n J = true := by
  intro J h
  unfold memBelow
  rw [List.all_eq_true]
  intro x hx
  have := h x hx
  cases x with
  | none => rfl
  | some b => simp [plainB] at this; simp [this]
inductive Stt : List Fnd → Mem → Cl → Prop
  | none : Stt [] [] (oS 3 [])
  | some (s : List Fnd) (J : Mem) (q : Nat) (h0 : s ≠ []) (hJ : J[q]? = some (oB s.length s)) (hp : ∀ x ∈ J, plainB x = true) : Stt s J (oS (q + 4) s)
def insAll (s xs : List Fnd) : List Fnd := xs.foldl (fun s x => insF x s) s
theorem insF_ne (f : Fnd) (s : List Fnd) : insF f s ≠ [] := by simp [insF]
set_option maxHeartbeats 4000000 in
theorem rfound_loop3 {m : GMap} (h : Good m) (h1 : Lanes1 m) {n : Nat} (hn : n < m.lanes.length) (v : Nat) (o : List Fnd) (cs : List Pnt) (hcs : ∀ p ∈ cs, cntZ p = true) (hl : cs.length ≤ 1000) : ∀ (r : List Pnt) (i : Nat) (s : List Fnd) (J : Mem) (c9 : Cl), cs.drop i = r → i ≤ cs.length → s.length ≤ i → Stt s J c9 →
    ∃ J' c9', Stt (insAll s (allF n m.lanes[n] r)) J' c9' ∧ Y L Cs c_kerbstoneref05_Found_l3 (some [7, 5, 8, 6, 2, 10, 9]) 4 [(7, .w (Bo true)), (5, .w (.c (oS 2 o))), (8, .w (W n)), (6, .w (.c (.rslice (rowsP cs)))), (2, .w (Pt 0)), (10, .w (W i)), (9, .w (.c c9))] (base m v o J) =
      some (.exit 2, [(35, .w (Bo false)), (2, .w (Pt 0)), (6, .w (.c (.rslice (rowsP cs)))), (8, .w (W n)), (5, .w (.c (oS 2 o))), (7, .w (Bo true)), (10, .w (W cs.length)), (9, .w (.c c9'))], base m v o J') := by
  intro r
  induction r with
  | nil =>
    intro i s J c9 hd hi ho hst
    obtain rfl := drop_nil hd hi
    refine ⟨J, c9, by simpa [insAll, allF] using hst, ?_⟩
    rw [Y_step c_kerbstoneref05_Found_l3.eq_1]
    simp
  | cons p r ih =>
    intro i s J c9 hd hi ho hst
    obtain ⟨hil, hs, hd'⟩ := drop_cons hd
    have hw := wrap_succ (i := i) (by omega)
    have hp := hcs p (by rw [← hs]; exact List.getElem_mem hil)
    have hF := R_rfeet h h1 hn p hp
    have hfl := feetF_len h1 hn p
    have e : allF n m.lanes[n] (p :: r) = feetF n m.lanes[n] p ++ allF n m.lanes[n] r := by simp [allF]
    rw [e]
    generalize feetF n m.lanes[n] p = ft at *
    match ft, hfl with
    | [], _ =>
      obtain ⟨J', c9', g1, g2⟩ := ih (i + 1) s J c9 hd' hil (by omega) hst
      refine ⟨J', c9', by simpa using g1, ?_⟩
      rw [← g2, Y_step c_kerbstoneref05_Found_l3.eq_1]
      clear ih g2 g1
      have h2 := rfound_none n i o cs (J.length + 4) c9 (base m v o J)
      simp only [mapC, pntC, base, rowsF_nil] at hF h2 ⊢
      cases hst with
      | none =>
        simp only [oS, List.length_nil] at h2
        simp [hil, hs, hw, pntC, hF, newAt, h2, oS]
      | some _ _ q h0 hJ hpl =>
        simp only [oS] at h2
        have hJ0 : J ≠ [] := by rintro rfl; simp at hJ
        simp [hil, hs, hw, pntC, hF, newAt, h2, oS, hJ0]
    | [f], _ =>
      cases hst with
      | none =>
        obtain ⟨J', c9', g1, g2⟩ := ih (i + 1) [f] [oB 1 [f], oB 1 [f]] (oS 4 [f]) hd' hil (by simp) (Stt.some [f] [oB 1 [f], oB 1 [f]] 0 (by simp) rfl (by simp [plainB]))
        have e2 : insAll [] ([f] ++ allF n m.lanes[n] r) = insAll [f] (allF n m.lanes[n] r) := by simp [insAll, insF, atF]
        rw [e2]
        refine ⟨J', c9', g1, ?_⟩
        rw [← g2, Y_step c_kerbstoneref05_Found_l3.eq_1]
        clear ih g2 g1 e2
        have h2 := rfound_first (m := m) n i v o cs f
        simp only [mapC, pntC, base, rowsF_nil, rowsF_cons, oB, oS, List.length_nil, List.length_cons] at hF h2 ⊢
        simp [hil, hs, hw, pntC, hF, newAt, h2]
      | some _ _ q h0 hJ hpl =>
        obtain ⟨J', c9', g1, g2⟩ := ih (i + 1) (insF f s) (J ++ [oB (insF f s).length (insF f s), oB 1 [f]]) (oS (J.length + 4) (insF f s)) hd' hil (by rw [insF_len]; omega) (Stt.some _ _ J.length (insF_ne f s) (by simp) (by
          intro x hx
          simp only [List.mem_append, List.mem_cons, List.not_mem_nil, or_false] at hx
          rcases hx with hx | rfl | rfl
          · exact hpl x hx
          · rfl
          · rfl))
        have e2 : insAll s ([f] ++ allF n m.lanes[n] r) = insAll (insF f s) (allF n m.lanes[n] r) := by simp [insAll]
        rw [e2]
        refine ⟨J', c9', g1, ?_⟩
        rw [← g2, Y_step c_kerbstoneref05_Found_l3.eq_1]
        clear ih g2 g1 e2
        have h2 := rfound_more (m := m) n i v o cs f s h0 (by omega) J q hJ
        have hJ0 : J ≠ [] := by rintro rfl; simp at hJ
        generalize insF f s = s' at *
        simp only [mapC, pntC, base, rowsF_nil, rowsF_cons, oB, oS, List.length_nil, List.length_cons] at hF h2 ⊢
        simp [hil, hs, hw, pntC, hF, newAt, h2, hJ0]
end Go.TrRun
