/- Lists of integers: what Index and Contains answer. -/
import Derived.Test.YtfedgghdmiomkaaGreatTrRunA
set_option linter.unusedVariables false
set_option linter.unusedSimpArgs false
set_option linter.unusedSectionVars false
/- Lists of integers: what Index and Contains answer. -/
set_option linter.unusedVariables false
set_option linter.unusedSimpArgs false
set_option maxRecDepth 10000
namespace Go.TrRun
open Go Go.Eng

theorem indexI_loop (l : List Int) (x : Int) (hl : l.length ≤ 100000) : ∀ (r : List Int) (i : Nat), l.drop i = r → i ≤ l.length →
    (x ∉ r → ∃ E', Y L Cs c_slices_Index_int_l1 (some [7, 1, 0, 8]) 0 [(7, .w (W l.length)), (1, .w (W x)), (0, .w (.c (.rslice (rowsI l)))), (8, .w (W i))] [] = some (.exit 0, E', [])) ∧
    (x ∈ r → ∃ k : Nat, Y L Cs c_slices_Index_int_l1 (some [7, 1, 0, 8]) 0 [(7, .w (W l.length)), (1, .w (W x)), (0, .w (.c (.rslice (rowsI l)))), (8, .w (W i))] [] = some (.ret, [(4, .w (W k))], []) ∧ l[k]? = some x ∧ ∀ m, i ≤ m → m < k → l[m]? ≠ some x) := by
  intro r
  induction r with
  | nil =>
    intro i hd hi
    obtain rfl := drop_nil hd hi
    refine ⟨fun _ => ⟨_, Y_done (r := (.exit 0, [(9, .w (Bo false)), (0, .w (.c (.rslice (rowsI l)))), (1, .w (W x)), (7, .w (W l.length)), (8, .w (W l.length))], [])) ?_ (by simp)⟩, fun h => by simp at h⟩
    simp [c_slices_Index_int_l1]
  | cons y r ih =>
    intro i hd hi
    obtain ⟨hil, hy, hd'⟩ := drop_cons hd
    obtain ⟨ih1, ih2⟩ := ih (i + 1) hd' hil
    have hw := wrap_succ (i := i) (by omega)
    by_cases hxy : x = y
    · refine ⟨fun h => by simp [hxy] at h, fun _ => ⟨i, Y_done ?_ (by simp), ?_, ?_⟩⟩
      · have hb : (x == y) = true := by simp [hxy]
        simp [c_slices_Index_int_l1, hil, hy, hb]
      · rw [List.getElem?_eq_getElem hil, hy, hxy]
      · intro m h1 h2; omega
    · have hb : (x == y) = false := by simp [hxy]
      have hstep : Y L Cs c_slices_Index_int_l1 (some [7, 1, 0, 8]) 0 [(7, .w (W l.length)), (1, .w (W x)), (0, .w (.c (.rslice (rowsI l)))), (8, .w (W i))] [] = Y L Cs c_slices_Index_int_l1 (some [7, 1, 0, 8]) 0 [(7, .w (W l.length)), (1, .w (W x)), (0, .w (.c (.rslice (rowsI l)))), (8, .w (W (i + 1 : Nat)))] [] := by
        rw [Y_eq]
        simp [c_slices_Index_int_l1, hil, hy, hb, hw]
      rw [hstep]
      refine ⟨fun h => ih1 (fun h' => h (List.mem_cons_of_mem _ h')), fun h => ?_⟩
      have h : x ∈ r := by rcases List.mem_cons.1 h with h | h; exact absurd h hxy; exact h
      obtain ⟨k, h1, h2, h3⟩ := ih2 h
      refine ⟨k, h1, h2, fun m h4 h5 => ?_⟩
      rcases Nat.eq_or_lt_of_le h4 with rfl | h6
      · rw [List.getElem?_eq_getElem hil, hy]
        intro h; exact hxy (Option.some.inj h).symm
      · exact h3 m h6 h5
theorem R_Contains (l : List Int) (x : Int) (hl : l.length ≤ 100000) : R L Cs f_slices_Contains_int [.c (.rslice (rowsI l)), W x] [] = some (.w (Bo (decide (x ∈ l))), []) := by
  obtain ⟨h1, h2⟩ := indexI_loop l x hl l 0 rfl (Nat.zero_le _)
  simp only [Int.natCast_zero] at h1 h2
  have key : ∃ k : Int, R L Cs f_slices_Index_int [.c (.rslice (rowsI l)), W x] [] = some (.w (W k), []) ∧ (decide (0 ≤ k) = decide (x ∈ l)) := by
    by_cases h : x ∈ l
    · obtain ⟨k, hk, _, _⟩ := h2 h
      refine ⟨k, ?_, by simp [h]⟩
      rw [R_fn F_slices_Index_int rfl]
      simp [c_slices_Index_int, hk]
    · obtain ⟨E', hE⟩ := h1 h
      refine ⟨-1, ?_, by simp [h]⟩
      rw [R_fn F_slices_Index_int rfl]
      simp [c_slices_Index_int, hE]
  obtain ⟨k, hk, hd⟩ := key
  rw [R_fn F_slices_Contains_int rfl]
  simp [c_slices_Contains_int, hk, hd]
end Go.TrRun

/- Maps as plain data; the lanes before a lane. -/
set_option linter.unusedVariables false
set_option linter.unusedSimpArgs false
set_option maxRecDepth 10000
namespace Go.TrRun
open Go Go.Eng

structure Lane where
  kind : Int
  pts : List (Int × Int)
  half : Int
  limit : Int
  next : List Int
  len : Int
structure Work where
  lane : Int
  lo : Int
  hi : Int
  begins : Int
  ends : Int
  limit : Int
structure GMap where
  version : Int
  lanes : List Lane
  zones : List (List Cl)
  signals : List (List Cl)
  works : List Work
def laneC (l : Lane) : List Cl := [I l.kind, .rslice (l.pts.map fun p => [I p.1, I p.2]), I l.half, I l.limit, .rslice (rowsI l.next)]
def workC (w : Work) : List Cl := [I w.lane, I w.lo, I w.hi, I w.begins, I w.ends, I w.limit]
def mapC (m : GMap) : List Cl := [I m.version, .rslice (m.lanes.map laneC), .rslice m.zones, .rslice m.signals, .rslice (m.works.map workC)]
def befF (x : Int) : Nat → List Lane → List Int
  | _, [] => []
  | k, l :: ls => if x ∈ l.next then (k : Int) :: befF x (k + 1) ls else befF x (k + 1) ls

theorem before_loop (m : GMap) (x : Int) (hn : m.lanes.length ≤ 100) (hx : ∀ l ∈ m.lanes, l.next.length ≤ 1000) : ∀ (r : List Lane) (i : Nat) (out : List Int), m.lanes.drop i = r → i ≤ m.lanes.length → out.length ≤ i →
    Y L Cs c_roads_before_l1 (some [5, 11, 10, 9, 1]) 3 [(5, .w (.c (sl 2 1 (rowsI out)))), (11, .w (W i)), (10, .w (W m.lanes.length)), (9, .w (.c (.rslice (m.lanes.map laneC)))), (1, .w (W x))] [some { box := true, esz := 5, rows := [mapC m], gen := 0, fz := false, ver := 0 }, some { box := false, esz := 1, rows := [], gen := 0, fz := false, ver := 0 }, some (own 1 (rowsI out))] =
      some (.exit 0, [(12, .w (Bo false)), (5, .w (.c (sl 2 1 (rowsI (out ++ befF x i r))))), (11, .w (W m.lanes.length)), (10, .w (W m.lanes.length)), (9, .w (.c (.rslice (m.lanes.map laneC)))), (1, .w (W x))], [some { box := true, esz := 5, rows := [mapC m], gen := 0, fz := false, ver := 0 }, some { box := false, esz := 1, rows := [], gen := 0, fz := false, ver := 0 }, some (own 1 (rowsI (out ++ befF x i r)))]) := by
  intro r
  induction r with
  | nil =>
    intro i out hd hi ho
    obtain rfl := drop_nil hd hi
    refine Y_done ?_ (by simp)
    simp [c_roads_before_l1, befF]
  | cons l r ih =>
    intro i out hd hi ho
    obtain ⟨hil, hl, hd'⟩ := drop_cons hd
    have hw := wrap_succ (i := i) (by omega)
    have hc := R_Contains l.next x (by have := hx l (by rw [← hl]; exact List.getElem_mem hil); omega)
    have hroom : (out.length + 1) * 8 ≤ 140737488355328 := by omega
    by_cases hb : x ∈ l.next
    · have hnext := ih (i + 1) (out ++ [(i : Int)]) hd' hil (by simp; omega)
      rw [befF, if_pos hb, show out ++ (i : Int) :: befF x (i + 1) r = (out ++ [(i : Int)]) ++ befF x (i + 1) r by simp, ← hnext, Y_eq]
      simp [hb] at hc
      simp [c_roads_before_l1, hil, hl, laneC, mapC, hc, hw, hroom]
    · have hnext := ih (i + 1) out hd' hil (by omega)
      rw [befF, if_neg hb, ← hnext, Y_eq]
      simp [hb] at hc
      simp [c_roads_before_l1, hil, hl, laneC, mapC, hc, hw]
end Go.TrRun

/- The lanes before a lane. -/
set_option linter.unusedVariables false
set_option linter.unusedSimpArgs false
set_option maxRecDepth 10000
namespace Go.TrRun
open Go Go.Eng

theorem R_before (m : GMap) (x : Int) (hn : m.lanes.length ≤ 100) (hx : ∀ l ∈ m.lanes, l.next.length ≤ 1000) : R L Cs f_roads_before [.a (mapC m), W x] [] = some (.w (.c (.rslice (rowsI (befF x 0 m.lanes)))), []) := by
  have h := before_loop m x hn hx m.lanes 0 [] rfl (Nat.zero_le _) (Nat.zero_le _)
  simp only [Int.natCast_zero, List.nil_append, mapC, rowsI_nil, sl, own, List.length_nil, rowsI_len] at h
  rw [R_fn F_roads_before rfl]
  simp [c_roads_before, mapC, h]

theorem has_loop (l : List Int) (x : Int) (hl : l.length ≤ 100000) : ∀ (r : List Int) (i : Nat), l.drop i = r → i ≤ l.length →
    (x ∉ r → Y L Cs c_kerbstoneref03_has_l1 (some [0, 1, 5]) 0 [(0, .w (.c (.rslice (rowsI l)))), (1, .w (W x)), (5, .w (W i))] [] = some (.exit 0, [(9, .w (Bo false)), (1, .w (W x)), (0, .w (.c (.rslice (rowsI l)))), (5, .w (W l.length))], [])) ∧
    (x ∈ r → Y L Cs c_kerbstoneref03_has_l1 (some [0, 1, 5]) 0 [(0, .w (.c (.rslice (rowsI l)))), (1, .w (W x)), (5, .w (W i))] [] = some (.ret, [(4, .w (Bo true))], [])) := by
  intro r
  induction r with
  | nil =>
    intro i hd hi
    obtain rfl := drop_nil hd hi
    refine ⟨fun _ => Y_done ?_ (by simp), fun h => by simp at h⟩
    simp [c_kerbstoneref03_has_l1]
  | cons y r ih =>
    intro i hd hi
    obtain ⟨hil, hy, hd'⟩ := drop_cons hd
    obtain ⟨ih1, ih2⟩ := ih (i + 1) hd' hil
    have hw := wrap_succ (i := i) (by omega)
    by_cases hxy : y = x
    · refine ⟨fun h => by simp [hxy] at h, fun _ => Y_done ?_ (by simp)⟩
      have hb : (y == x) = true := by simp [hxy]
      simp [c_kerbstoneref03_has_l1, hil, hy, hb]
    · have hb : (y == x) = false := by simp [hxy]
      have hstep : Y L Cs c_kerbstoneref03_has_l1 (some [0, 1, 5]) 0 [(0, .w (.c (.rslice (rowsI l)))), (1, .w (W x)), (5, .w (W i))] [] = Y L Cs c_kerbstoneref03_has_l1 (some [0, 1, 5]) 0 [(0, .w (.c (.rslice (rowsI l)))), (1, .w (W x)), (5, .w (W (i + 1 : Nat)))] [] := by
        rw [Y_eq]
        simp [c_kerbstoneref03_has_l1, hil, hy, hb, hw]
      rw [hstep]
      refine ⟨fun h => ih1 (fun h' => h (List.mem_cons_of_mem _ h')), fun h => ih2 ?_⟩
      rcases List.mem_cons.1 h with h | h
      · exact absurd h.symm hxy
      · exact h
theorem R_has (l : List Int) (x : Int) (hl : l.length ≤ 100000) : R L Cs f_kerbstoneref03_has [.c (.rslice (rowsI l)), W x] [] = some (.w (Bo (decide (x ∈ l))), []) := by
  obtain ⟨h1, h2⟩ := has_loop l x hl l 0 rfl (Nat.zero_le _)
  simp only [Int.natCast_zero] at h1 h2
  rw [R_fn F_kerbstoneref03_has rfl]
  by_cases h : x ∈ l
  · simp [c_kerbstoneref03_has, h2 h, h]
  · simp [c_kerbstoneref03_has, h1 h, h]
theorem refbefore_loop (m : GMap) (x : Int) (hn : m.lanes.length ≤ 100) (hx : ∀ l ∈ m.lanes, l.next.length ≤ 1000) : ∀ (r : List Lane) (i : Nat) (out : List Int), m.lanes.drop i = r → i ≤ m.lanes.length → out.length ≤ i →
    Y L Cs c_kerbstoneref03_before_l1 (some [5, 6, 2, 1]) 3 [(5, .w (.c (sl 2 1 (rowsI out)))), (6, .w (W i)), (2, .w (Pt 0)), (1, .w (W x))] [some { box := true, esz := 5, rows := [mapC m], gen := 0, fz := false, ver := 0 }, some { box := false, esz := 1, rows := [], gen := 0, fz := false, ver := 0 }, some (own 1 (rowsI out))] =
      some (.exit 0, [(11, .w (Bo false)), (5, .w (.c (sl 2 1 (rowsI (out ++ befF x i r))))), (6, .w (W m.lanes.length)), (2, .w (Pt 0)), (1, .w (W x))], [some { box := true, esz := 5, rows := [mapC m], gen := 0, fz := false, ver := 0 }, some { box := false, esz := 1, rows := [], gen := 0, fz := false, ver := 0 }, some (own 1 (rowsI (out ++ befF x i r)))]) := by
  intro r
  induction r with
  | nil =>
    intro i out hd hi ho
    obtain rfl := drop_nil hd hi
    refine Y_done ?_ (by simp)
    simp [c_kerbstoneref03_before_l1, befF, mapC]
  | cons l r ih =>
    intro i out hd hi ho
    obtain ⟨hil, hl, hd'⟩ := drop_cons hd
    have hw := wrap_succ (i := i) (by omega)
    have hc := R_has l.next x (by have := hx l (by rw [← hl]; exact List.getElem_mem hil); omega)
    have hroom : (out.length + 1) * 8 ≤ 140737488355328 := by omega
    by_cases hb : x ∈ l.next
    · have hnext := ih (i + 1) (out ++ [(i : Int)]) hd' hil (by simp; omega)
      rw [befF, if_pos hb, show out ++ (i : Int) :: befF x (i + 1) r = (out ++ [(i : Int)]) ++ befF x (i + 1) r by simp, ← hnext, Y_eq]
      simp [hb] at hc
      simp [c_kerbstoneref03_before_l1, hil, hl, laneC, mapC, hc, hw, hroom]
    · have hnext := ih (i + 1) out hd' hil (by omega)
      rw [befF, if_neg hb, ← hnext, Y_eq]
      simp [hb] at hc
      simp [c_kerbstoneref03_before_l1, hil, hl, laneC, mapC, hc, hw]
theorem R_refbefore (m : GMap) (x : Int) (hn : m.lanes.length ≤ 100) (hx : ∀ l ∈ m.lanes, l.next.length ≤ 1000) : R L Cs f_kerbstoneref03_before [.a (mapC m), W x] [] = some (.w (.c (.rslice (rowsI (befF x 0 m.lanes)))), []) := by
  have h := refbefore_loop m x hn hx m.lanes 0 [] rfl (Nat.zero_le _) (Nat.zero_le _)
  simp only [Int.natCast_zero, List.nil_append, mapC, rowsI_nil, sl, own, List.length_nil, rowsI_len] at h
  rw [R_fn F_kerbstoneref03_before rfl]
  simp [c_kerbstoneref03_before, mapC, h]
end Go.TrRun

/- Routes on a map. -/
set_option linter.unusedVariables false
set_option linter.unusedSimpArgs false
set_option maxRecDepth 10000
namespace Go.TrRun
open Go Go.Eng

/-- Whether a route goes on from a lane. -/
def goF (m : GMap) : Int → List Int → Bool
  | _, [] => true
  | a, x :: xs => decide (x ∈ ((m.lanes[a.toNat]?).map Lane.next).getD []) && goF m x xs
structure Small (m : GMap) : Prop where
  lanes : m.lanes.length ≤ 14
  next : ∀ l ∈ m.lanes, l.next.length ≤ 10
  valid : ∀ l ∈ m.lanes, ∀ x ∈ l.next, 0 ≤ x ∧ x < m.lanes.length

theorem route_loop (m : GMap) (h : Small m) (l : List Int) (hl : l.length ≤ 1000) : ∀ (r : List Int) (i : Nat) (a : Int), l.drop i = r → i ≤ l.length → 0 ≤ a → a < m.lanes.length →
    (goF m a r = true → ∃ b, Y L Cs c_roads_CheckRoute_l1 (some [6, 51, 50, 2, 52]) 1 [(6, .w (W a)), (51, .w (W l.length)), (50, .w (.c (.rslice (rowsI l)))), (2, .w (Pt 0)), (52, .w (W i))] [some { box := true, esz := 5, rows := [mapC m], gen := 0, fz := false, ver := 0 }] = some (.exit 0, [(53, .w (Bo false)), (6, .w (W b)), (2, .w (Pt 0)), (50, .w (.c (.rslice (rowsI l)))), (51, .w (W l.length)), (52, .w (W l.length))], [some { box := true, esz := 5, rows := [mapC m], gen := 0, fz := false, ver := 0 }])) ∧
    (goF m a r = false → Y L Cs c_roads_CheckRoute_l1 (some [6, 51, 50, 2, 52]) 1 [(6, .w (W a)), (51, .w (W l.length)), (50, .w (.c (.rslice (rowsI l)))), (2, .w (Pt 0)), (52, .w (W i))] [some { box := true, esz := 5, rows := [mapC m], gen := 0, fz := false, ver := 0 }] = some (.ret, [(4, .w (W 13))], [some { box := true, esz := 5, rows := [mapC m], gen := 0, fz := false, ver := 0 }])) := by
  intro r
  induction r with
  | nil =>
    intro i a hd hi h1 h2
    obtain rfl := drop_nil hd hi
    refine ⟨fun _ => ⟨a, Y_done ?_ (by simp)⟩, fun h => by simp [goF] at h⟩
    simp [c_roads_CheckRoute_l1]
  | cons x r ih =>
    intro i a hd hi h1 h2
    obtain ⟨hil, hx, hd'⟩ := drop_cons hd
    have hw := wrap_succ (i := i) (by omega)
    have hal : a.toNat < m.lanes.length := by omega
    have hget : ((m.lanes[a.toNat]?).map Lane.next).getD [] = (m.lanes[a.toNat]).next := by rw [List.getElem?_eq_getElem hal]; rfl
    have hmem : m.lanes[a.toNat] ∈ m.lanes := List.getElem_mem hal
    have hc := R_Contains (m.lanes[a.toNat]).next x (by have := h.next _ hmem; omega)
    by_cases hb : x ∈ (m.lanes[a.toNat]).next
    · obtain ⟨v1, v2⟩ := h.valid _ hmem x hb
      obtain ⟨ih1, ih2⟩ := ih (i + 1) x hd' hil v1 v2
      have hstep : Y L Cs c_roads_CheckRoute_l1 (some [6, 51, 50, 2, 52]) 1 [(6, .w (W a)), (51, .w (W l.length)), (50, .w (.c (.rslice (rowsI l)))), (2, .w (Pt 0)), (52, .w (W i))] [some { box := true, esz := 5, rows := [mapC m], gen := 0, fz := false, ver := 0 }] = Y L Cs c_roads_CheckRoute_l1 (some [6, 51, 50, 2, 52]) 1 [(6, .w (W x)), (51, .w (W l.length)), (50, .w (.c (.rslice (rowsI l)))), (2, .w (Pt 0)), (52, .w (W (i + 1 : Nat)))] [some { box := true, esz := 5, rows := [mapC m], gen := 0, fz := false, ver := 0 }] := by
        rw [Y_eq]
        simp [hb] at hc
        simp [c_roads_CheckRoute_l1, hil, hx, mapC, laneC, hc, hw, h1, h2, hal]
      rw [hstep]
      simp only [goF, hget, hb, decide_true, Bool.true_and]
      exact ⟨ih1, ih2⟩
    · refine ⟨fun hg => by simp [goF, hget, hb] at hg, fun _ => Y_done ?_ (by simp)⟩
      simp [hb] at hc
      simp [c_roads_CheckRoute_l1, hil, hx, mapC, laneC, hc, hw, h1, h2, hal]
end Go.TrRun

/- What CheckRoute answers on a valid map. -/
set_option linter.unusedVariables false
set_option linter.unusedSimpArgs false
set_option maxRecDepth 10000
namespace Go.TrRun
open Go Go.Eng

def routeF (m : GMap) : List Int → Int
  | [] => 13
  | x :: t => if 8 < t.length + 1 then 13 else if x < 0 then 13 else if (m.lanes.length : Int) ≤ x then 13 else if befF x 0 m.lanes ≠ [] then 13 else if goF m x t then 0 else 13
theorem R_CheckRoute (m : GMap) (h : Small m) (hck : R L Cs f_roads_Check [.a (mapC m)] [] = some (.w (W 0), [])) (l : List Int) (hl : l.length ≤ 1000) : R L Cs f_roads_CheckRoute [.a (mapC m), .c (.rslice (rowsI l))] [] = some (.w (W (routeF m l)), []) := by
  have hloop := route_loop m h
  simp only [mapC] at hck hloop
  rw [R_fn F_roads_CheckRoute rfl]
  cases l with
  | nil => simp [c_roads_CheckRoute, mapC, hck, routeF]
  | cons x t =>
  have hne : ((t.length : Int) + 1 == 0) = false := by simp; omega
  have hbef := R_before m x (by have := h.lanes; omega) (fun l hl => by have := h.next l hl; omega)
  simp only [mapC] at hbef
  simp only [routeF]
  by_cases h8 : 8 < t.length + 1
  · have h8' : (8 : Int) < (t.length : Int) + 1 := by omega
    simp [c_roads_CheckRoute, mapC, hck, hne, h8, h8']
  have h8' : ¬ (8 : Int) < (t.length : Int) + 1 := by omega
  rw [if_neg h8]
  by_cases h0 : x < 0
  · simp [c_roads_CheckRoute, mapC, hck, hne, h8', h0]
  by_cases hn : (m.lanes.length : Int) ≤ x
  · simp [c_roads_CheckRoute, mapC, hck, hne, h8', h0, hn]
  by_cases hb : befF x 0 m.lanes = []
  · rw [hb] at hbef
    simp only [rowsI_nil] at hbef
    obtain ⟨l1, l2⟩ := hloop t (by simp at hl; omega) t 0 x rfl (Nat.zero_le _) (by omega) (by omega)
    simp only [Int.natCast_zero] at l1 l2
    have q1 : (1 : Int) ≤ (t.length : Int) + 1 := by omega
    have q2 : (0 : Int) ≤ (t.length : Int) + 1 := by omega
    have q3 : 1 + t.length ≤ t.length + 1 := by omega
    cases hg : goF m x t with
    | true =>
      obtain ⟨b, l1⟩ := l1 hg
      simp [c_roads_CheckRoute, mapC, hck, hne, h8', h0, hn, hb, hbef, l1, q1, q2, q3]
    | false =>
      have l2 := l2 hg
      simp [c_roads_CheckRoute, mapC, hck, hne, h8', h0, hn, hb, hbef, l2, q1, q2, q3]
  · have hpos : 0 < (befF x 0 m.lanes).length := List.length_pos_iff.2 hb
    have hpos' : (0 : Int) < ((befF x 0 m.lanes).length : Int) := by omega
    simp [c_roads_CheckRoute, mapC, hck, hne, h8', h0, hn, hb, hbef, hpos, hpos']
end Go.TrRun

/- What the reference's CheckRoute answers on a valid map. -/
set_option linter.unusedVariables false
set_option linter.unusedSimpArgs false
set_option maxRecDepth 10000
namespace Go.TrRun
open Go Go.Eng

theorem refroute_loop (m : GMap) (h : Small m) (l : List Int) (hl : l.length ≤ 1000) : ∀ (r : List Int) (i : Nat) (a : Int), l.drop i = a :: r → 0 ≤ a → a < m.lanes.length →
    (goF m a r = true → Y L Cs c_kerbstoneref03_CheckRoute_l1 (some [2, 1, 6]) 1 [(2, .w (Pt 0)), (1, .w (.c (.rslice (rowsI l)))), (6, .w (W (i + 1 : Nat)))] [some { box := true, esz := 5, rows := [mapC m], gen := 0, fz := false, ver := 0 }] = some (.exit 0, [(47, .w (Bo false)), (1, .w (.c (.rslice (rowsI l)))), (2, .w (Pt 0)), (6, .w (W l.length))], [some { box := true, esz := 5, rows := [mapC m], gen := 0, fz := false, ver := 0 }])) ∧
    (goF m a r = false → Y L Cs c_kerbstoneref03_CheckRoute_l1 (some [2, 1, 6]) 1 [(2, .w (Pt 0)), (1, .w (.c (.rslice (rowsI l)))), (6, .w (W (i + 1 : Nat)))] [some { box := true, esz := 5, rows := [mapC m], gen := 0, fz := false, ver := 0 }] = some (.ret, [(4, .w (W 13))], [some { box := true, esz := 5, rows := [mapC m], gen := 0, fz := false, ver := 0 }])) := by
  intro r
  induction r with
  | nil =>
    intro i a hd h1 h2
    obtain ⟨hil, hx, hd'⟩ := drop_cons hd
    have hlen := drop_nil hd' hil
    rw [hlen]
    refine ⟨fun _ => Y_done ?_ (by simp), fun h => by simp [goF] at h⟩
    simp [c_kerbstoneref03_CheckRoute_l1]
  | cons x r ih =>
    intro i a hd h1 h2
    obtain ⟨hil, ha, hd'⟩ := drop_cons hd
    obtain ⟨hil2, hx, _⟩ := drop_cons hd'
    have hal : a.toNat < m.lanes.length := by omega
    have hget : ((m.lanes[a.toNat]?).map Lane.next).getD [] = (m.lanes[a.toNat]).next := by rw [List.getElem?_eq_getElem hal]; rfl
    have hmem : m.lanes[a.toNat] ∈ m.lanes := List.getElem_mem hal
    have hc := R_has (m.lanes[a.toNat]).next x (by have := h.next _ hmem; omega)
    have hlt : ((i : Int) + 1 < l.length) := by omega
    have hwi2 : IntKind.i64.wrap (i : Int) = (i : Int) := i64_id _ (by omega) (by omega)
    have h0 : (0 : Int) ≤ (i : Int) + 1 := by omega
    have ht : ((i : Int) + 1).toNat = i + 1 := by omega
    have hw2 : IntKind.i64.wrap ((i : Int) + 1 + 1) = (i : Int) + 1 + 1 := i64_id _ (by omega) (by omega)
    by_cases hb : x ∈ (m.lanes[a.toNat]).next
    · obtain ⟨v1, v2⟩ := h.valid _ hmem x hb
      obtain ⟨ih1, ih2⟩ := ih (i + 1) x hd' v1 v2
      have hstep : Y L Cs c_kerbstoneref03_CheckRoute_l1 (some [2, 1, 6]) 1 [(2, .w (Pt 0)), (1, .w (.c (.rslice (rowsI l)))), (6, .w (W (i + 1 : Nat)))] [some { box := true, esz := 5, rows := [mapC m], gen := 0, fz := false, ver := 0 }] = Y L Cs c_kerbstoneref03_CheckRoute_l1 (some [2, 1, 6]) 1 [(2, .w (Pt 0)), (1, .w (.c (.rslice (rowsI l)))), (6, .w (W (i + 1 + 1 : Nat)))] [some { box := true, esz := 5, rows := [mapC m], gen := 0, fz := false, ver := 0 }] := by
        rw [Y_eq]
        simp [hb] at hc
        simp [c_kerbstoneref03_CheckRoute_l1, hil, hil2, ha, hx, mapC, laneC, hc, hwi2, hw2, hlt, h0, ht, h1, h2, hal]
      rw [hstep]
      simp only [goF, hget, hb, decide_true, Bool.true_and]
      exact ⟨ih1, ih2⟩
    · refine ⟨fun hg => by simp [goF, hget, hb] at hg, fun _ => Y_done ?_ (by simp)⟩
      simp [hb] at hc
      simp [c_kerbstoneref03_CheckRoute_l1, hil, hil2, ha, hx, mapC, laneC, hc, hwi2, hw2, hlt, h0, ht, h1, h2, hal]

theorem R_refCheckRoute (m : GMap) (h : Small m) (hck : R L Cs f_kerbstoneref03_Check [.a (mapC m)] [] = some (.w (W 0), [])) (l : List Int) (hl : l.length ≤ 1000) : R L Cs f_kerbstoneref03_CheckRoute [.a (mapC m), .c (.rslice (rowsI l))] [] = some (.w (W (routeF m l)), []) := by
  have hloop := refroute_loop m h
  simp only [mapC] at hck hloop
  rw [R_fn F_kerbstoneref03_CheckRoute rfl]
  cases l with
  | nil => simp [c_kerbstoneref03_CheckRoute, mapC, hck, routeF]
  | cons x t =>
  have hne : ((t.length : Int) + 1 == 0) = false := by simp; omega
  have hbef := R_refbefore m x (by have := h.lanes; omega) (fun l hl => by have := h.next l hl; omega)
  simp only [mapC] at hbef
  simp only [routeF]
  by_cases h8 : 8 < t.length + 1
  · have h8' : (8 : Int) < (t.length : Int) + 1 := by omega
    simp [c_kerbstoneref03_CheckRoute, mapC, hck, hne, h8, h8']
  have h8' : ¬ (8 : Int) < (t.length : Int) + 1 := by omega
  rw [if_neg h8]
  by_cases h0 : x < 0
  · simp [c_kerbstoneref03_CheckRoute, mapC, hck, hne, h8', h0]
  by_cases hn : (m.lanes.length : Int) ≤ x
  · simp [c_kerbstoneref03_CheckRoute, mapC, hck, hne, h8', h0, hn]
  by_cases hb : befF x 0 m.lanes = []
  · rw [hb] at hbef
    simp only [rowsI_nil] at hbef
    obtain ⟨l1, l2⟩ := hloop (x :: t) hl t 0 x rfl (by omega) (by omega)
    simp at l1 l2
    have q1 : (1 : Int) ≤ (t.length : Int) + 1 := by omega
    have q2 : (0 : Int) ≤ (t.length : Int) + 1 := by omega
    have q3 : 1 + t.length ≤ t.length + 1 := by omega
    cases hg : goF m x t with
    | true =>
      have l1 := l1 hg
      simp [c_kerbstoneref03_CheckRoute, mapC, hck, hne, h8', h0, hn, hb, hbef, l1, q1, q2, q3]
    | false =>
      have l2 := l2 hg
      simp [c_kerbstoneref03_CheckRoute, mapC, hck, hne, h8', h0, hn, hb, hbef, l2, q1, q2, q3]
  · have hpos : 0 < (befF x 0 m.lanes).length := List.length_pos_iff.2 hb
    have hpos' : (0 : Int) < ((befF x 0 m.lanes).length : Int) := by omega
    simp [c_kerbstoneref03_CheckRoute, mapC, hck, hne, h8', h0, hn, hb, hbef, hpos, hpos']
end Go.TrRun

/- Maps that are valid: lengths and bounds of lanes. -/
set_option linter.unusedVariables false
set_option linter.unusedSimpArgs false
set_option maxRecDepth 10000
namespace Go.TrRun
open Go Go.Eng

def ptsC (l : Lane) : Cl := .rslice (l.pts.map fun p => [I p.1, I p.2])
structure Good (m : GMap) : Prop where
  small : Small m
  chk : R L Cs f_roads_Check [.a (mapC m)] [] = some (.w (W 0), [])
  rchk : R L Cs f_kerbstoneref03_Check [.a (mapC m)] [] = some (.w (W 0), [])
  len : ∀ l ∈ m.lanes, R L Cs f_curve_Length [.a [ptsC l]] [] = some (.w (W l.len), [])
  rlen : ∀ l ∈ m.lanes, R L Cs f_kerbstoneref01_Length [.a [ptsC l]] [] = some (.w (W l.len), [])
  len1 : ∀ l ∈ m.lanes, 1000 ≤ l.len ∧ l.len ≤ 1000000
  kind : ∀ l ∈ m.lanes, l.kind = 1 ∨ l.kind = 2 ∨ l.kind = 3
  limit : ∀ l ∈ m.lanes, 1 ≤ l.limit ∧ l.limit ≤ 2000
def lenF (m : GMap) (i : Int) : Int := if 0 ≤ i then ((m.lanes[i.toNat]?).map Lane.len).getD 0 else 0
theorem R_long {m : GMap} (h : Good m) {i : Nat} (hi : i < m.lanes.length) : R L Cs f_roads_long [.a (mapC m), W i] [] = some (.w (W m.lanes[i].len), []) := by
  have hc := h.len _ (List.getElem_mem hi)
  simp only [ptsC] at hc
  rw [R_fn F_roads_long rfl]
  simp [c_roads_long, mapC, hi, laneC, hc]
theorem R_rlength {m : GMap} (h : Good m) {i : Nat} (hi : i < m.lanes.length) : R L Cs f_kerbstoneref03_length [.a (mapC m), W i] [] = some (.w (W m.lanes[i].len), []) := by
  have hc := h.rlen _ (List.getElem_mem hi)
  simp only [ptsC] at hc
  rw [R_fn F_kerbstoneref03_length rfl]
  simp [c_kerbstoneref03_length, mapC, hi, laneC, hc]
theorem R_Length {m : GMap} (h : Good m) {i : Nat} (hi : i < m.lanes.length) : R L Cs f_roads_Length [.a (mapC m), W i] [] = some (.w (W m.lanes[i].len), []) := by
  have hl := R_long h hi
  have hk := h.chk
  simp only [mapC] at hl hk
  have his : R L Cs f_roads_is [.a (mapC m), W i] [] = some (.w (Bo true), []) := by
    rw [R_fn F_roads_is rfl]
    simp [c_roads_is, mapC, hi, hk]
  simp only [mapC] at his
  rw [R_fn F_roads_Length rfl]
  simp [c_roads_Length, mapC, his, hl]
theorem R_refLength {m : GMap} (h : Good m) {i : Nat} (hi : i < m.lanes.length) : R L Cs f_kerbstoneref03_Length [.a (mapC m), W i] [] = some (.w (W m.lanes[i].len), []) := by
  have hl := R_rlength h hi
  have hk := h.rchk
  simp only [mapC] at hl hk
  have his : R L Cs f_kerbstoneref03_lane [.a (mapC m), W i] [] = some (.w (Bo true), []) := by
    rw [R_fn F_kerbstoneref03_lane rfl]
    simp [c_kerbstoneref03_lane, mapC, hi, hk]
  simp only [mapC] at his
  rw [R_fn F_kerbstoneref03_Length rfl]
  simp [c_kerbstoneref03_Length, mapC, his, hl]
def topV (k : Int) : Int := if k = 1 then 2000 else if k = 2 then 1000 else 300
def topA (k : Int) : Int := if k = 1 then 30 else if k = 2 then 20 else 100
def topB (k : Int) : Int := if k = 1 then 90 else if k = 2 then 60 else 300
theorem Bounds_run : runE L Cs 400 f_roads_Bounds [W 1] [] = some (.t [W 2000, W 30, W 90], []) ∧ runE L Cs 400 f_roads_Bounds [W 2] [] = some (.t [W 1000, W 20, W 60], []) ∧ runE L Cs 400 f_roads_Bounds [W 3] [] = some (.t [W 300, W 100, W 300], []) := ⟨by kernel_rfl, by kernel_rfl, by kernel_rfl⟩
theorem refBounds_run : runE L Cs 400 f_kerbstoneref03_Bounds [W 1] [] = some (.t [W 2000, W 30, W 90], []) ∧ runE L Cs 400 f_kerbstoneref03_Bounds [W 2] [] = some (.t [W 1000, W 20, W 60], []) ∧ runE L Cs 400 f_kerbstoneref03_Bounds [W 3] [] = some (.t [W 300, W 100, W 300], []) := ⟨by kernel_rfl, by kernel_rfl, by kernel_rfl⟩
theorem R_Bounds {k : Int} (h : k = 1 ∨ k = 2 ∨ k = 3) : R L Cs f_roads_Bounds [W k] [] = some (.t [W (topV k), W (topA k), W (topB k)], []) := by
  rcases h with rfl | rfl | rfl
  · exact R_iff.2 ⟨400, Bounds_run.1⟩
  · exact R_iff.2 ⟨400, Bounds_run.2.1⟩
  · exact R_iff.2 ⟨400, Bounds_run.2.2⟩
theorem R_refBounds {k : Int} (h : k = 1 ∨ k = 2 ∨ k = 3) : R L Cs f_kerbstoneref03_Bounds [W k] [] = some (.t [W (topV k), W (topA k), W (topB k)], []) := by
  rcases h with rfl | rfl | rfl
  · exact R_iff.2 ⟨400, refBounds_run.1⟩
  · exact R_iff.2 ⟨400, refBounds_run.2.1⟩
  · exact R_iff.2 ⟨400, refBounds_run.2.2⟩
end Go.TrRun

/- What is known of nothing. -/
set_option linter.unusedVariables false
set_option linter.unusedSimpArgs false
set_option maxRecDepth 10000
namespace Go.TrRun
open Go Go.Eng

theorem leave_all {M : Mem} {r r' : AV} (h : frzA M r = some r') (hb : r'.below 0 = true) : leave true 0 r M = some (r', []) := by
  unfold leave
  simp only [if_true, h]
  unfold finish
  split
  · rename_i h0
    have : markAll M r.sls = [] := List.length_eq_zero_iff.1 h0
    rw [this]
  · rw [if_pos (by rw [hb]; simp [memBelow])]; rfl
theorem frzC_int (M : Mem) (k : IntKind) (n : Int) : frzC M (.int k n) = some (.int k n) := rfl
theorem leave_know {M : Mem} {t : Int} {S x : Cl} {e : Ego} (h : frzC M S = some x) (hx : Eng.below 0 x = true) : leave true 0 (.w (.a [I t, S, I e.slo, I e.shi, I e.vlo, I e.vhi])) M = some (.w (.a [I t, x, I e.slo, I e.shi, I e.vlo, I e.vhi]), []) :=
  leave_all (by simp only [frzA, frzW, frzs, h, frzC_int]; rfl) (by show List.all [I t, x, I e.slo, I e.shi, I e.vlo, I e.vhi] (Eng.below 0) = true; simp only [List.all_cons, List.all_nil, hx]; rfl)
def allB (i : Nat) (l : Lane) : Blob := ⟨i, 0, l.len, 0, topV l.kind, 0⟩
def allFrom : Nat → List Lane → List Blob
  | _, [] => []
  | i, l :: r => allB i l :: allFrom (i + 1) r
abbrev egoR (e : Ego) : List Cl := [I e.slo, I e.shi, I e.vlo, I e.vhi]
abbrev knowR (t : Int) (S : Cl) (e : Ego) : List Cl := [I t, S, I e.slo, I e.shi, I e.vlo, I e.vhi]
abbrev zeroK : List Cl := [I 0, .nilslice, I 0, I 0, I 0, I 0]
set_option maxHeartbeats 1000000 in
theorem all_loop {m : GMap} (h : Good m) (t : Int) (e : Ego) (j : Nat) : ∀ (r : List Lane) (i : Nat) (out : List Blob) (v : Nat) (G : Mem), m.lanes.drop i = r → i ≤ m.lanes.length → out.length = i → G[j]? = some (some (own 6 (rowsB out))) → 
    ∃ v' G', G'[j]? = some (some (own 6 (rowsB (out ++ allFrom i r)))) ∧ Y L Cs c_track_All_l1 (some [23, 22, 6, 21, 3, 7]) 4 [(23, .w (W i)), (22, .w (W m.lanes.length)), (6, .w (Pt 2)), (21, .w (.c (.rslice (m.lanes.map laneC)))), (3, .w (Pt 0)), (7, .w (Pt 3))] (bx 5 (mapC m) :: bx 4 (egoR e) :: bx 6 zeroK :: bxv v 6 (knowR t (.slice (j + 4) out.length 6 0 out.length none) e) :: G) =
      some (.exit 0, [(24, .w (Bo false)), (23, .w (W m.lanes.length)), (22, .w (W m.lanes.length)), (6, .w (Pt 2)), (21, .w (.c (.rslice (m.lanes.map laneC)))), (3, .w (Pt 0)), (7, .w (Pt 3))], (bx 5 (mapC m) :: bx 4 (egoR e) :: bx 6 zeroK :: bxv v' 6 (knowR t (.slice (j + 4) (out ++ allFrom i r).length 6 0 (out ++ allFrom i r).length none) e) :: G')) := by
  intro r
  induction r with
  | nil =>
    intro i out v G hd hi ho hG
    obtain rfl := drop_nil hd hi
    refine ⟨v, G, by simpa [allFrom] using hG, ?_⟩
    rw [Y_step c_track_All_l1.eq_1]
    simp [allFrom]
  | cons l r ih =>
    intro i out v G hd hi ho hG
    subst ho
    obtain ⟨hil, hl, hd'⟩ := drop_cons hd
    have hmem : l ∈ m.lanes := by rw [← hl]; exact List.getElem_mem _
    have hw := wrap_succ (i := out.length) (by have := h.small.lanes; omega)
    have hjG : j < G.length := (List.getElem?_eq_some_iff.1 hG).1
    have hg : ∀ N : Mem, (G ++ N)[j]? = some (some (own 6 (rowsB out))) := fun N => by rw [List.getElem?_append_left hjG, hG]
    have hset : ∀ (N : Mem) (x : Option Blk), (G ++ N).set j x = G.set j x ++ N := fun N x => List.set_append_left _ _ hjG
    have hb := R_Bounds (h.kind l hmem)
    have hL := R_Length h hil
    rw [hl] at hL
    have hroom : (out.length + 1) * 48 ≤ 140737488355328 := by have := h.small.lanes; omega
    obtain ⟨v', G', h1, h2⟩ := ih (out.length + 1) (out ++ [allB out.length l]) (v + 1) (G.set j (some (own 6 (rowsB (out ++ [allB out.length l])))) ++ [bxv 1 5 (laneC l), some (own 6 [blobC (allB out.length l)])]) hd' hil (by simp) (by rw [List.getElem?_append_left (by simpa using hjG), List.getElem?_set_self hjG])
    have e1 : out ++ allFrom out.length (l :: r) = (out ++ [allB out.length l]) ++ allFrom (out.length + 1) r := by simp [allFrom]
    refine ⟨v', G', by rw [e1]; exact h1, ?_⟩
    rw [e1, ← h2, Y_step c_track_All_l1.eq_1]
    simp only [own, rowsB_len, mapC] at hg hL
    have hdr : ∀ (E : Env) (x y z : Option Blk) (w g len : Nat) (N : Mem), drop0 4 E (x :: y :: z :: bxv w 6 (knowR t (.slice (j + 4) g 6 0 len none) e) :: N) = (x :: y :: z :: bxv w 6 (knowR t (.slice (j + 4) g 6 0 len none) e) :: N) := by
      intro E x y z w g len N
      unfold drop0
      split
      · rfl
      · rw [if_neg]
        simp [memBelow, Blk.below, Eng.below, top1]
    simp only [bxv, knowR] at hdr
    simp [hil, hl, laneC, hb, hL, mapC, hw, hg, hset, hroom, newAt, hdr, allB, blobC, -drop0]

theorem R_All {m : GMap} (h : Good m) (t : Int) (e : Ego) : R L Cs f_track_All [.a (mapC m), W t, .a (egoR e)] [] = some (.w (.a (knowC ⟨t, allFrom 0 m.lanes, e⟩)), []) := by
  have hk := h.chk
  rw [R_fn F_track_All rfl]
  have hmain : ∃ M' S v, Y L Cs c_track_All_l1 (some [23, 22, 6, 21, 3, 7]) 4 [(23, .w (W 0)), (22, .w (W m.lanes.length)), (6, .w (Pt 2)), (21, .w (.c (.rslice (m.lanes.map laneC)))), (3, .w (Pt 0)), (7, .w (Pt 3))] [bx 5 (mapC m), bx 4 (egoR e), bx 6 zeroK, bxv 1 6 (knowR t .nilslice e)] =
      some (.exit 0, [(24, .w (Bo false)), (23, .w (W m.lanes.length)), (22, .w (W m.lanes.length)), (6, .w (Pt 2)), (21, .w (.c (.rslice (m.lanes.map laneC)))), (3, .w (Pt 0)), (7, .w (Pt 3))], bx 5 (mapC m) :: bx 4 (egoR e) :: bx 6 zeroK :: bxv v 6 (knowR t S e) :: M') ∧
      frzC (bx 5 (mapC m) :: bx 4 (egoR e) :: bx 6 zeroK :: bxv v 6 (knowR t S e) :: M') S = some (.rslice (rowsB (allFrom 0 m.lanes))) ∧ frzC (bx 5 (mapC m) :: bx 4 (egoR e) :: bxv 1 6 (knowR t S e) :: bxv v 6 (knowR t S e) :: M') S = some (.rslice (rowsB (allFrom 0 m.lanes))) := by
    by_cases hne : m.lanes = []
    · rw [hne]
      refine ⟨[], .nilslice, 1, ?_, by simp [frzC, allFrom], by simp [frzC, allFrom]⟩
      rw [Y_step c_track_All_l1.eq_1]
      simp
    · obtain ⟨l, r, hl⟩ := List.exists_cons_of_ne_nil hne
      have hlen : 0 < m.lanes.length := by rw [hl]; simp
      have h0 : m.lanes[0] = l := by simp [hl]
      have hmem : l ∈ m.lanes := by rw [hl]; simp
      have hb := R_Bounds (h.kind l hmem)
      have hL := R_Length h hlen
      rw [h0] at hL
      obtain ⟨v', G', h1, h2⟩ := all_loop h t e 2 r 1 [allB 0 l] 2 [bxv 1 5 (laneC l), some (own 6 [blobC (allB 0 l)]), some (own 6 [blobC (allB 0 l)])] (by rw [hl]; rfl) (by omega) rfl rfl
      have hall : allFrom 0 m.lanes = [allB 0 l] ++ allFrom 1 r := by rw [hl]; rfl
      refine ⟨G', .slice 6 ([allB 0 l] ++ allFrom 1 r).length 6 0 ([allB 0 l] ++ allFrom 1 r).length none, v', ?_, ?_, ?_⟩
      · simp only [Int.natCast_one, Int.natCast_zero, List.length_cons, List.length_nil, own, mapC] at hL h2 ⊢
        rw [← h2, Y_step c_track_All_l1.eq_1]
        have hw : IntKind.i64.wrap 1 = 1 := rfl
        have hr : (0 : Int) < (m.lanes.length : Int) := by omega
        simp [hlen, h0, laneC, hb, hL, hw, newAt, allB, blobC, hr]
      · rw [hall]; simp [frzC, look, h1]
      · rw [hall]; simp [frzC, look, h1]
  obtain ⟨M', S, v, h1, h2, h3⟩ := hmain
  simp only [mapC] at hk h1 h2
  simp [c_track_All, mapC, hk, h1, -leave]
  exact leave_know h3 rfl
end Go.TrRun

/- What is known of nothing: the reference. -/
set_option linter.unusedVariables false
set_option linter.unusedSimpArgs false
set_option maxRecDepth 10000
namespace Go.TrRun
open Go Go.Eng

end Go.TrRun

/- Which knowledge is valid. -/
set_option linter.unusedVariables false
set_option linter.unusedSimpArgs false
set_option maxRecDepth 10000
namespace Go.TrRun
open Go Go.Eng

def kindF (m : GMap) (i : Int) : Int := ((m.lanes[i.toNat]?).map Lane.kind).getD 0
abbrev lastB : Blob := ⟨-1, 0, 0, 0, 0, 0⟩
def out2 (m : GMap) (b : Blob) : Prop := b.lo < 0 ∨ b.hi < b.lo ∨ lenF m b.lane < b.hi ∨ b.vlo < 0 ∨ b.vhi < b.vlo ∨ topV (kindF m b.lane) < b.vhi ∨ b.hold < 0 ∨ lenF m b.lane < b.hold
instance (m : GMap) (b : Blob) : Decidable (out2 m b) := by unfold out2; infer_instance
def ordB (p b : Blob) : Prop := b.lane < p.lane ∨ (b.lane = p.lane ∧ b.lo ≤ p.hi + 1)
instance (p b : Blob) : Decidable (ordB p b) := by unfold ordB; infer_instance
def chkB (m : GMap) (p b : Blob) : Int := if b.lane < 0 ∨ (m.lanes.length : Int) ≤ b.lane then 7 else if out2 m b then 2 else if ordB p b then 11 else 0
def chkL (m : GMap) : Blob → List Blob → Int
  | _, [] => 0
  | p, b :: r => if chkB m p b ≠ 0 then chkB m p b else chkL m b r
theorem R_within_track (n lo hi : Int) : R L Cs f_track_within [W n, W lo, W hi] [] = some (.w (Bo (decide (lo ≤ n) && decide (n ≤ hi))), []) := by
  rw [R_fn F_track_within rfl]
  by_cases h : lo ≤ n
  · simp [c_track_within, h]
  · simp [c_track_within, h]

section
variable {m : GMap} (h : Good m) (k : Know)
abbrev ckM (m : GMap) (k : Know) (v : Nat) (p : Blob) : Mem := [bx 5 (mapC m), bx 6 (knowC k), bxv 1 4 (egoR k.ego), bxv v 6 (blobC p)]
abbrev ckE (k : Know) (i : Nat) : Env := [(62, .w (W k.blobs.length)), (61, .w (.c (.rslice (rowsB k.blobs)))), (7, .w (Pt 3)), (2, .w (Pt 0)), (63, .w (W i))]
set_option maxHeartbeats 4000000 in
include h in
theorem check_step (hk : k.blobs.length ≤ 1000) (i : Nat) (hi : i < k.blobs.length) (p : Blob) (v : Nat) (hp : -1 ≤ p.lane ∧ 0 ≤ p.hi ∧ p.hi ≤ 1000000) : 
    (chkB m p k.blobs[i] = 0 → Y L Cs c_track_Check_l1 (some [62, 61, 7, 2, 63]) 4 (ckE k i) (ckM m k v p) = Y L Cs c_track_Check_l1 (some [62, 61, 7, 2, 63]) 4 (ckE k (i + 1)) (ckM m k (v + 1) k.blobs[i])) ∧
    (chkB m p k.blobs[i] ≠ 0 → Y L Cs c_track_Check_l1 (some [62, 61, 7, 2, 63]) 4 (ckE k i) (ckM m k v p) = some (.ret, [(4, .w (W (chkB m p k.blobs[i])))], ckM m k v p ++ [bxv 1 6 (blobC k.blobs[i])])) := by
  have hw := wrap_succ (i := i) (by omega)
  generalize hb : k.blobs[i] = b
  obtain ⟨bl, lo, hi', vlo, vhi, hold⟩ := b
  have hpw : IntKind.i64.wrap (p.hi + 1) = p.hi + 1 := i64_id _ (by omega) (by omega)
  by_cases c1 : bl < 0
  · have e : chkB m p ⟨bl, lo, hi', vlo, vhi, hold⟩ = 7 := by simp [chkB, c1]
    rw [e]
    refine ⟨fun h => (by cases h), fun _ => ?_⟩
    rw [Y_step c_track_Check_l1.eq_1]
    simp [hi, hb, blobC, c1]
  by_cases c2 : (m.lanes.length : Int) ≤ bl
  · have e : chkB m p ⟨bl, lo, hi', vlo, vhi, hold⟩ = 7 := by simp [chkB, c2]
    rw [e]
    refine ⟨fun h => (by cases h), fun _ => ?_⟩
    rw [Y_step c_track_Check_l1.eq_1]
    simp [hi, hb, blobC, c1, c2, mapC]
  obtain ⟨n, rfl⟩ := Int.eq_ofNat_of_zero_le (show 0 ≤ bl by omega)
  have hn : n < m.lanes.length := by omega
  have hL := R_Length h hn
  have hB := R_Bounds (h.kind _ (List.getElem_mem hn))
  have eL : lenF m (n : Int) = m.lanes[n].len := by simp [lenF, hn]
  have eK : kindF m (n : Int) = m.lanes[n].kind := by simp [kindF, hn]
  have hl1 := h.len1 _ (List.getElem_mem hn)
  have hW := R_within_track hold 0 m.lanes[n].len
  generalize hlane : m.lanes[n] = ln at *
  simp only [mapC] at hL
  have c1' : ¬ ((n : Int) < 0) := by omega
  have fin2 : out2 m ⟨(n : Int), lo, hi', vlo, vhi, hold⟩ → chkB m p ⟨(n : Int), lo, hi', vlo, vhi, hold⟩ = 2 := fun ho => by
    unfold chkB
    rw [if_neg (by simp; omega), if_pos ho]
  by_cases d1 : lo < 0
  · have e := fin2 (by simp only [out2, eL, eK]; omega)
    rw [e]
    refine ⟨fun h => (by cases h), fun _ => ?_⟩
    rw [Y_step c_track_Check_l1.eq_1]
    simp [hi, hb, blobC, c1', c2, hn, hlane, mapC, laneC, knowC, hL, hB, hW, d1]
  by_cases d2 : hi' < lo
  · have e := fin2 (by simp only [out2, eL, eK]; omega)
    rw [e]
    refine ⟨fun h => (by cases h), fun _ => ?_⟩
    rw [Y_step c_track_Check_l1.eq_1]
    simp [hi, hb, blobC, c1', c2, hn, hlane, mapC, laneC, knowC, hL, hB, hW, d1, d2]
  by_cases d3 : ln.len < hi'
  · have e := fin2 (by simp only [out2, eL, eK]; omega)
    rw [e]
    refine ⟨fun h => (by cases h), fun _ => ?_⟩
    rw [Y_step c_track_Check_l1.eq_1]
    simp [hi, hb, blobC, c1', c2, hn, hlane, mapC, laneC, knowC, hL, hB, hW, d1, d2, d3]
  by_cases d4 : vlo < 0
  · have e := fin2 (by simp only [out2, eL, eK]; omega)
    rw [e]
    refine ⟨fun h => (by cases h), fun _ => ?_⟩
    rw [Y_step c_track_Check_l1.eq_1]
    simp [hi, hb, blobC, c1', c2, hn, hlane, mapC, laneC, knowC, hL, hB, hW, d1, d2, d3, d4]
  by_cases d5 : vhi < vlo
  · have e := fin2 (by simp only [out2, eL, eK]; omega)
    rw [e]
    refine ⟨fun h => (by cases h), fun _ => ?_⟩
    rw [Y_step c_track_Check_l1.eq_1]
    simp [hi, hb, blobC, c1', c2, hn, hlane, mapC, laneC, knowC, hL, hB, hW, d1, d2, d3, d4, d5]
  by_cases d6 : topV ln.kind < vhi
  · have e := fin2 (by simp only [out2, eL, eK]; omega)
    rw [e]
    refine ⟨fun h => (by cases h), fun _ => ?_⟩
    rw [Y_step c_track_Check_l1.eq_1]
    simp [hi, hb, blobC, c1', c2, hn, hlane, mapC, laneC, knowC, hL, hB, hW, d1, d2, d3, d4, d5, d6]
  by_cases d7 : hold < 0
  · have e := fin2 (by simp only [out2, eL, eK]; omega)
    rw [e]
    refine ⟨fun h => (by cases h), fun _ => ?_⟩
    rw [Y_step c_track_Check_l1.eq_1]
    simp [hi, hb, blobC, c1', c2, hn, hlane, mapC, laneC, knowC, hL, hB, hW, d1, d2, d3, d4, d5, d6, d7]
  by_cases d8 : ln.len < hold
  · have e := fin2 (by simp only [out2, eL, eK]; omega)
    rw [e]
    refine ⟨fun h => (by cases h), fun _ => ?_⟩
    rw [Y_step c_track_Check_l1.eq_1]
    simp [hi, hb, blobC, c1', c2, hn, hlane, mapC, laneC, knowC, hL, hB, hW, d1, d2, d3, d4, d5, d6, d7, d8]
  have e0 : ¬ out2 m ⟨(n : Int), lo, hi', vlo, vhi, hold⟩ := by simp only [out2, eL, eK]; omega
  have g1 : (0 : Int) ≤ hold := by omega
  have g2 : hold ≤ ln.len := by omega
  by_cases o1 : (n : Int) < p.lane
  · have e : chkB m p ⟨(n : Int), lo, hi', vlo, vhi, hold⟩ = 11 := by
      unfold chkB
      rw [if_neg (by simp; omega), if_neg e0, if_pos (by unfold ordB; simp; omega)]
    rw [e]
    refine ⟨fun h => (by cases h), fun _ => ?_⟩
    rw [Y_step c_track_Check_l1.eq_1]
    simp [hi, hb, blobC, c1', c2, hn, hlane, mapC, laneC, knowC, hL, hB, hW, d1, d2, d3, d4, d5, d6, d7, d8, g1, g2, o1]
  by_cases o2 : (n : Int) = p.lane
  · have o2' : p.lane = (n : Int) := o2.symm
    by_cases o3 : lo ≤ p.hi + 1
    · have e : chkB m p ⟨(n : Int), lo, hi', vlo, vhi, hold⟩ = 11 := by
        unfold chkB
        rw [if_neg (by simp; omega), if_neg e0, if_pos (by unfold ordB; simp; omega)]
      rw [e]
      refine ⟨fun h => (by cases h), fun _ => ?_⟩
      rw [Y_step c_track_Check_l1.eq_1]
      simp [hi, hb, blobC, c1', c2, hn, hlane, mapC, laneC, knowC, hL, hB, hW, d1, d2, d3, d4, d5, d6, d7, d8, g1, g2, o2', o3, hpw]
    · have e : chkB m p ⟨(n : Int), lo, hi', vlo, vhi, hold⟩ = 0 := by
        unfold chkB
        rw [if_neg (by simp; omega), if_neg e0, if_neg (by unfold ordB; simp; omega)]
      rw [e]
      refine ⟨fun _ => ?_, fun h => (absurd rfl h)⟩
      rw [Y_step c_track_Check_l1.eq_1]
      simp [hi, hb, blobC, c1', c2, hn, hlane, mapC, laneC, knowC, hL, hB, hW, d1, d2, d3, d4, d5, d6, d7, d8, g1, g2, o2', o3, hpw, hw, ckE, ckM]
  · have e : chkB m p ⟨(n : Int), lo, hi', vlo, vhi, hold⟩ = 0 := by
      unfold chkB
      rw [if_neg (by simp; omega), if_neg e0, if_neg (by unfold ordB; simp; omega)]
    rw [e]
    have b2 : ((n : Int) == p.lane) = false := by simp [o2]
    refine ⟨fun _ => ?_, fun h => (absurd rfl h)⟩
    rw [Y_step c_track_Check_l1.eq_1]
    simp [hi, hb, blobC, c1', c2, hn, hlane, mapC, laneC, knowC, hL, hB, hW, d1, d2, d3, d4, d5, d6, d7, d8, g1, g2, o1, o2, b2, hw, ckE, ckM]
end
end Go.TrRun

/- Which knowledge is valid: the program's Check. -/
set_option linter.unusedVariables false
set_option linter.unusedSimpArgs false
set_option maxRecDepth 10000
namespace Go.TrRun
open Go Go.Eng

abbrev maxT : Int := 1099511627776
def outK (k : Know) : Prop := k.tick < 0 ∨ maxT < k.tick ∨ k.ego.slo < 0 ∨ k.ego.shi < k.ego.slo ∨ maxT < k.ego.shi ∨ k.ego.vlo < 0 ∨ k.ego.vhi < k.ego.vlo ∨ 2000 < k.ego.vhi
instance (k : Know) : Decidable (outK k) := by unfold outK; infer_instance
def chkK (m : GMap) (k : Know) : Int := if outK k then 2 else chkL m lastB k.blobs
theorem chkB_ok {m : GMap} (h : Good m) {p b : Blob} (hc : chkB m p b = 0) : 0 ≤ b.lane ∧ b.lane < m.lanes.length ∧ 0 ≤ b.lo ∧ b.lo ≤ b.hi ∧ b.hi ≤ lenF m b.lane ∧ 0 ≤ b.vlo ∧ b.vlo ≤ b.vhi ∧ b.vhi ≤ topV (kindF m b.lane) ∧ 0 ≤ b.hold ∧ b.hold ≤ lenF m b.lane ∧ lenF m b.lane ≤ 1000000 ∧ ¬ ordB p b := by
  unfold chkB at hc
  split at hc
  · cases hc
  rename_i h1
  split at hc
  · cases hc
  rename_i h2
  split at hc
  · cases hc
  rename_i h3
  unfold out2 at h2
  obtain ⟨n, hn⟩ := Int.eq_ofNat_of_zero_le (show 0 ≤ b.lane by omega)
  have hl : n < m.lanes.length := by omega
  have hl1 := h.len1 _ (List.getElem_mem hl)
  have e : lenF m b.lane = m.lanes[n].len := by rw [hn]; simp [lenF, hl]
  refine ⟨by omega, by omega, by omega, by omega, by omega, by omega, by omega, by omega, by omega, by omega, by omega, h3⟩

theorem check_loop {m : GMap} (h : Good m) (k : Know) (hk : k.blobs.length ≤ 1000) : ∀ (r : List Blob) (i : Nat) (p : Blob) (v : Nat), k.blobs.drop i = r → i ≤ k.blobs.length → (-1 ≤ p.lane ∧ 0 ≤ p.hi ∧ p.hi ≤ 1000000) →
    ∃ M' E', Y L Cs c_track_Check_l1 (some [62, 61, 7, 2, 63]) 4 (ckE k i) (ckM m k v p) = some (if chkL m p r = 0 then (.exit 0, E', M') else (.ret, [(4, .w (W (chkL m p r)))], M')) := by
  intro r
  induction r with
  | nil =>
    intro i p v hd hi hp
    obtain rfl := drop_nil hd hi
    refine ⟨ckM m k v p, [(64, .w (Bo false)), (2, .w (Pt 0)), (7, .w (Pt 3)), (61, .w (.c (.rslice (rowsB k.blobs)))), (62, .w (W k.blobs.length)), (63, .w (W k.blobs.length))], ?_⟩
    rw [Y_step c_track_Check_l1.eq_1]
    simp [chkL]
  | cons b r ih =>
    intro i p v hd hi hp
    obtain ⟨hil, hb, hd'⟩ := drop_cons hd
    obtain ⟨s1, s2⟩ := check_step h k hk i hil p v hp
    rw [hb] at s1 s2
    by_cases hc : chkB m p b = 0
    · have ho := chkB_ok h hc
      obtain ⟨M', E', h4⟩ := ih (i + 1) b (v + 1) hd' hil (by omega)
      refine ⟨M', E', ?_⟩
      rw [s1 hc, h4]
      simp [chkL, hc]
    · refine ⟨ckM m k v p ++ [bxv 1 6 (blobC b)], [], ?_⟩
      rw [s2 hc]
      simp [chkL, hc]
theorem R_trackCheck {m : GMap} (h : Good m) (k : Know) (hk : k.blobs.length ≤ 1000) : R L Cs f_track_Check [.a (mapC m), .a (knowC k)] [] = some (.w (W (chkK m k)), []) := by
  have hck := h.chk
  obtain ⟨M', E', hl⟩ := check_loop h k hk k.blobs 0 lastB 1 rfl (Nat.zero_le _) (by decide)
  have hW := R_within_track k.tick 0 maxT
  simp only [ckE, ckM, mapC, knowC, blobC, Int.natCast_zero, bx, bxv, egoR] at hl hck
  rw [R_fn F_track_Check rfl]
  by_cases d1 : k.tick < 0
  · have e : chkK m k = 2 := by rw [chkK, if_pos (by unfold outK; omega)]
    have d1' : ¬ (0 : Int) ≤ k.tick := by omega
    simp [c_track_Check, mapC, knowC, hck, hW, e, d1, d1']
  by_cases d2 : maxT < k.tick
  · have e : chkK m k = 2 := by rw [chkK, if_pos (by unfold outK; omega)]
    have d2' : ¬ k.tick ≤ maxT := by omega
    simp [c_track_Check, mapC, knowC, hck, hW, e, d1, d2, d2']
  have g1 : (0 : Int) ≤ k.tick := by omega
  have g2 : k.tick ≤ maxT := by omega
  by_cases d3 : k.ego.slo < 0
  · have e : chkK m k = 2 := by rw [chkK, if_pos (by unfold outK; omega)]
    simp [c_track_Check, mapC, knowC, hck, hW, e, d1, d2, g1, g2, d3]
  by_cases d4 : k.ego.shi < k.ego.slo
  · have e : chkK m k = 2 := by rw [chkK, if_pos (by unfold outK; omega)]
    simp [c_track_Check, mapC, knowC, hck, hW, e, d1, d2, g1, g2, d3, d4]
  by_cases d5 : maxT < k.ego.shi
  · have e : chkK m k = 2 := by rw [chkK, if_pos (by unfold outK; omega)]
    simp [c_track_Check, mapC, knowC, hck, hW, e, d1, d2, g1, g2, d3, d4, d5]
  by_cases d6 : k.ego.vlo < 0
  · have e : chkK m k = 2 := by rw [chkK, if_pos (by unfold outK; omega)]
    simp [c_track_Check, mapC, knowC, hck, hW, e, d1, d2, g1, g2, d3, d4, d5, d6]
  by_cases d7 : k.ego.vhi < k.ego.vlo
  · have e : chkK m k = 2 := by rw [chkK, if_pos (by unfold outK; omega)]
    simp [c_track_Check, mapC, knowC, hck, hW, e, d1, d2, g1, g2, d3, d4, d5, d6, d7]
  by_cases d8 : 2000 < k.ego.vhi
  · have e : chkK m k = 2 := by rw [chkK, if_pos (by unfold outK; omega)]
    simp [c_track_Check, mapC, knowC, hck, hW, e, d1, d2, g1, g2, d3, d4, d5, d6, d7, d8]
  have e : chkK m k = chkL m lastB k.blobs := by rw [chkK, if_neg (by unfold outK; omega)]
  rw [e]
  by_cases hz : chkL m lastB k.blobs = 0
  · rw [if_pos hz] at hl
    rw [hz]
    simp [c_track_Check, mapC, knowC, hck, hW, hl, d1, d2, g1, g2, d3, d4, d5, d6, d7, d8, -leave]
    exact leave_all rfl rfl
  · rw [if_neg hz] at hl
    simp [c_track_Check, mapC, knowC, hck, hW, hl, d1, d2, g1, g2, d3, d4, d5, d6, d7, d8, -leave]
    exact leave_all rfl rfl
end Go.TrRun

/- Which knowledge is valid: the reference's Check. -/
set_option linter.unusedVariables false
set_option linter.unusedSimpArgs false
set_option maxRecDepth 10000
namespace Go.TrRun
open Go Go.Eng

def prevB (l : List Blob) : Nat → Blob
  | 0 => lastB
  | i + 1 => l.getD i zeroB
theorem prevB_succ (l : List Blob) (i : Nat) (hi : i < l.length) : prevB l (i + 1) = l[i] := by simp [prevB, hi]
end Go.TrRun

/- The maps that are made of numbers: lanes, signals. -/
set_option linter.unusedVariables false
set_option linter.unusedSimpArgs false
set_option maxRecDepth 10000
namespace Go.TrRun
open Go Go.Eng

def roadL (kind lim : Int) (next : List Int) (a b c d len : Int) : Lane := { kind := kind, pts := [(a, b), (c, d)], half := if kind = 3 then 500 else 1500, limit := lim, next := next, len := len }
def signalC (o a b : Int) : List Cl := [I o, .rslice [[I 12, .rslice [[I a]]], [I 5, .rslice []], [I 9, .rslice [[I b]]], [I 4, .rslice []]]]
theorem R_road (kind lim : Int) (next : List Int) (a b c d len : Int) : R L Cs f_kerbstonekit_road [W kind, W lim, .c (.rslice (rowsI next)), .c (.rslice (rowsI [a, b, c, d]))] [] = some (.w (.a (laneC (roadL kind lim next a b c d len))), []) := by
  rw [R_fn F_kerbstonekit_road rfl]
  have hw1 : IntKind.i64.wrap 1 = 1 := rfl
  have hw2 : IntKind.i64.wrap 2 = 2 := rfl
  have hw3 : IntKind.i64.wrap 3 = 3 := rfl
  have hw4 : IntKind.i64.wrap 4 = 4 := rfl
  have hw5 : IntKind.i64.wrap 5 = 5 := rfl
  have hy : ∃ M' S v, Y L Cs c_kerbstonekit_road_l1 (some [10, 8, 0, 3, 9]) 2 [(10, .w (W 0)), (8, .w (Pt 0)), (0, .w (W kind)), (3, .w (.c (.rslice (rowsI [a, b, c, d])))), (9, .w (Pt 1))] [bx 5 [I 0, .nilslice, I 0, I 0, .nilslice], bxv 1 5 [I kind, .nilslice, I 1500, I lim, .rslice (rowsI next)]] =
      some (.exit 0, [(19, .w (Bo false)), (10, .w (W 4)), (8, .w (Pt 0)), (0, .w (W kind)), (3, .w (.c (.rslice (rowsI [a, b, c, d])))), (9, .w (Pt 1))], bx 5 [I 0, .nilslice, I 0, I 0, .nilslice] :: bxv v 5 [I kind, S, I 1500, I lim, .rslice (rowsI next)] :: M') ∧
      (∀ x y : Option Blk, frzC (x :: y :: M') S = some (.rslice [[I a, I b], [I c, I d]])) := by
    refine ⟨[some (own 2 [[I a, I b]]), some (own 2 [[I a, I b], [I c, I d]]), some (own 2 [[I c, I d]])], .slice 3 2 2 0 2 none, 3, ?_, ?_⟩
    · rw [Y_step c_kerbstonekit_road_l1.eq_1]
      simp [hw1, hw2, hw3, hw4, hw5, newAt, memBelow]
      rw [Y_step c_kerbstonekit_road_l1.eq_1]
      simp [hw1, hw2, hw3, hw4, hw5, newAt, memBelow]
      rw [Y_step c_kerbstonekit_road_l1.eq_1]
      simp [hw1, hw2, hw3, hw4, hw5, newAt, memBelow]
    · intro x y; simp [frzC, look]
  obtain ⟨M', S, v, h1, h2⟩ := hy
  simp only [rowsI_cons, rowsI_nil] at h1
  have hf : ∀ (M : Mem) (x y : Option Blk) (k2 h2 l2 : Int), M = x :: y :: M' → frzA M (.w (.a [I k2, S, I h2, I l2, .rslice (rowsI next)])) = some (.w (.a [I k2, .rslice [[I a, I b], [I c, I d]], I h2, I l2, .rslice (rowsI next)])) := by
    intro M x y k2 h2' l2 hM
    subst hM
    simp only [frzA, frzW, frzs, h2 x y]
    rfl
  by_cases hk : kind = 3
  · subst hk
    simp [c_kerbstonekit_road, h1, -leave]
    exact leave_all (hf _ _ _ _ _ _ rfl) rfl
  · have hb : (kind == 3) = false := by simp [hk]
    simp [c_kerbstonekit_road, h1, hk, hb, -leave]
    have e : laneC (roadL kind lim next a b c d len) = [I kind, .rslice [[I a, I b], [I c, I d]], I 1500, I lim, .rslice (rowsI next)] := by simp [laneC, roadL, hk]
    rw [e]
    exact leave_all (hf _ _ _ _ _ _ rfl) rfl
theorem R_signal (o a b : Int) : R L Cs f_kerbstonekit_signal [W o, W a, W b] [] = some (.w (.a (signalC o a b)), []) := by
  rw [R_fn F_kerbstonekit_signal rfl]
  simp [c_kerbstonekit_signal, signalC, newAt, markOne]
theorem R_Mod (n : Int) : R L Cs f_kerbstonekit_Mod [W n, W 16777216] [] = some (.w (W (n % 16777216)), []) := by
  rw [R_fn F_kerbstonekit_Mod rfl]
  have h1 : 0 ≤ n → n.tmod 16777216 = n % 16777216 := Int.tmod_eq_emod_of_nonneg
  have h2 : n < 0 → n.tmod 16777216 = -((-n) % 16777216) := fun hn => by
    have e1 : (-n).tmod 16777216 = (-n) % 16777216 := Int.tmod_eq_emod_of_nonneg (by omega)
    have e2 := Int.neg_tmod (-n) 16777216
    rw [Int.neg_neg, e1] at e2
    exact e2
  by_cases h : n.tmod 16777216 < 0
  · have e : IntKind.i64.wrap (n.tmod 16777216 + 16777216) = n % 16777216 := by
      rw [i64_id _ (by omega) (by omega)]; omega
    simp [c_kerbstonekit_Mod, h, e]
  · have e : n.tmod 16777216 = n % 16777216 := by omega
    have h3 : ¬ n % 16777216 < 0 := by omega
    simp [c_kerbstonekit_Mod, h3, e]
theorem tdiv_wrap {N d : Int} (hN : 0 ≤ N ∧ N < 16777216) (hd : 0 < d) : IntKind.i64.wrap (N.tdiv d) = N.tdiv d := by
  rw [Int.tdiv_eq_ediv_of_nonneg hN.1]
  have h1 : 0 ≤ N / d := Int.ediv_nonneg hN.1 (by omega)
  have h2 : N / d ≤ N := Int.ediv_le_self _ hN.1
  exact i64_id _ (by omega) (by omega)
theorem tmod_lt (N d e : Int) (hN : 0 ≤ N ∧ N < 16777216) (hd : 0 < d) (he : 0 < e) : 0 ≤ (N.tdiv d).tmod e ∧ (N.tdiv d).tmod e < e := by
  rw [Int.tdiv_eq_ediv_of_nonneg hN.1]
  have h1 : 0 ≤ N / d := Int.ediv_nonneg hN.1 (by omega)
  rw [Int.tmod_eq_emod_of_nonneg h1]
  exact ⟨Int.emod_nonneg _ (by omega), Int.emod_lt_of_pos _ he⟩
end Go.TrRun

/- The maps that are made of numbers. -/
set_option linter.unusedVariables false
set_option linter.unusedSimpArgs false
set_option maxRecDepth 10000
namespace Go.TrRun
open Go Go.Eng

def partC (l a b r : Int) : List Cl := [I l, I a, I b, I r]
def zoneC (ps : List (List Cl)) (s : Int) : List Cl := [.rslice ps, I s]
def lanesP (k : Nat) (lim : Int) : List Lane := match k with
  | 0 => [roadL 1 lim [] 0 0 60000 0 60000]
  | 1 | 2 => [roadL 1 lim [] 0 0 50000 0 50000, roadL 1 1500 [] 30000 (-20000) 30000 20000 40000]
  | 3 => [roadL 1 lim [1, 2] 0 0 30000 0 30000, roadL 1 1500 [] 30000 0 60000 0 30000, roadL 1 800 [] 30000 0 54000 10000 26000]
  | 4 => [roadL 1 lim [2] 0 0 30000 0 30000, roadL 1 1500 [2] 6000 (-10000) 30000 0 26000, roadL 1 1500 [] 30000 0 60000 0 30000]
  | 5 => [roadL 1 lim [1] 0 0 20000 0 20000, roadL 1 lim [] 20000 0 50000 0 30000, roadL 3 200 [] 35000 (-8000) 35000 8000 16000]
  | _ => [roadL 1 lim [1, 2] 0 0 20000 0 20000, roadL 1 1500 [] 20000 0 50000 0 30000, roadL 1 1000 [] 20000 0 44000 10000 26000, roadL 2 700 [] 36000 (-12000) 36000 18000 30000]
def zonesP (k : Nat) (r : Int) : List (List Cl) := match k with
  | 0 => []
  | 1 => [zoneC [partC 0 28000 32000 r, partC 1 18000 22000 (2 - 2 * r)] 0]
  | 2 => [zoneC [partC 0 28000 32000 r, partC 1 18000 22000 (2 - 2 * r)] 1]
  | 3 => []
  | 4 => [zoneC [partC 0 25000 30000 1, partC 1 20000 26000 0, partC 2 0 5000 0] 0]
  | 5 => [zoneC [partC 1 14000 16000 0, partC 2 6000 10000 3] 0]
  | _ => [zoneC [partC 1 14000 18000 1, partC 3 10000 14000 0] (if r = 1 then 1 else 0), zoneC [partC 2 14000 21000 1, partC 3 14500 23000 0] (if r = 1 then 2 else 0)]
def signalsP (k : Nat) (r o1 o2 o3 : Int) : List (List Cl) := match k with
  | 2 => [signalC o1 0 1]
  | 6 => if r = 1 then [signalC o2 1 3, signalC o3 2 3] else []
  | _ => []
def worksP (w b t : Int) : List Work := if w = 1 then [⟨0, 10000, 15000, b, b + 20, t * 200⟩] else []
def mapP (k : Nat) (lim r o1 o2 o3 v w b t : Int) : GMap := { version := v, lanes := lanesP k lim, zones := zonesP k r, signals := signalsP k r o1 o2 o3, works := worksP w b t }
def limF (j : Nat) : Int := match j with | 0 => 1500 | 1 => 600 | 2 => 1000 | _ => 300
theorem lim_get (j : Nat) (hj : j < 4) : ([[I 1500], [I 600], [I 1000], [I 300]] : List (List Cl))[j]? = some [I (limF j)] := by
  match j, hj with
  | 0, _ => rfl
  | 1, _ => rfl
  | 2, _ => rfl
  | 3, _ => rfl
theorem lim_get2 (j : Nat) (h : j < ([[I 1500], [I 600], [I 1000], [I 300]] : List (List Cl)).length) : ([[I 1500], [I 600], [I 1000], [I 300]] : List (List Cl))[j] = [I (limF j)] := by
  match j, h with
  | 0, _ => rfl
  | 1, _ => rfl
  | 2, _ => rfl
  | 3, _ => rfl

set_option maxHeartbeats 4000000 in
theorem R_Map0w (n : Int) (h7 : (n % 16777216).tmod 7 = 0)  (hw : ((n % 16777216).tdiv 1736).tmod 3 = 1) :
    R L Cs f_kerbstonekit_Map [W n] [] = some (.w (.a (mapC (mapP 0 (limF (((n % 16777216).tdiv 7).tmod 4).toNat) (((n % 16777216).tdiv 28).tmod 2) (((n % 16777216).tdiv 28).tmod 31) (((n % 16777216).tdiv 56).tmod 31) (((n % 16777216).tdiv 56).tmod 17) (((n % 16777216).tdiv 28).tmod 5) (((n % 16777216).tdiv 1736).tmod 3) (((n % 16777216).tdiv 5208).tmod 40) (((n % 16777216).tdiv 208320).tmod 3)))), []) := by
  have hM := R_Mod n
  have hN : 0 ≤ n % 16777216 ∧ n % 16777216 < 16777216 := by omega
  generalize n % 16777216 = N at *
  have w7 : IntKind.i64.wrap (N.tdiv 7) = N.tdiv 7 := tdiv_wrap hN (by decide)
  have w28 : IntKind.i64.wrap (N.tdiv 28) = N.tdiv 28 := tdiv_wrap hN (by decide)
  have w56 : IntKind.i64.wrap (N.tdiv 56) = N.tdiv 56 := tdiv_wrap hN (by decide)
  have w1736 : IntKind.i64.wrap (N.tdiv 1736) = N.tdiv 1736 := tdiv_wrap hN (by decide)
  have w5208 : IntKind.i64.wrap (N.tdiv 5208) = N.tdiv 5208 := tdiv_wrap hN (by decide)
  have w208320 : IntKind.i64.wrap (N.tdiv 208320) = N.tdiv 208320 := tdiv_wrap hN (by decide)
  have hj := tmod_lt N 7 4 hN (by decide) (by decide)
  obtain ⟨j, hje⟩ := Int.eq_ofNat_of_zero_le hj.1
  have hj4 : j < 4 := by omega
  have hlg := lim_get j hj4
  have hj4' : (j : Int) < 4 := by omega
  have r2 := tmod_lt N 28 2 hN (by decide) (by decide)
  have v5 := tmod_lt N 28 5 hN (by decide) (by decide)
  have b40 := tmod_lt N 5208 40 hN (by decide) (by decide)
  have t3 := tmod_lt N 208320 3 hN (by decide) (by decide)
  have wr1 : IntKind.i64.wrap (2 * (N.tdiv 28).tmod 2) = 2 * (N.tdiv 28).tmod 2 := i64_id _ (by omega) (by omega)
  have wr2 : IntKind.i64.wrap (2 - 2 * (N.tdiv 28).tmod 2) = 2 - 2 * (N.tdiv 28).tmod 2 := i64_id _ (by omega) (by omega)
  have wb : IntKind.i64.wrap ((N.tdiv 5208).tmod 40 + 20) = (N.tdiv 5208).tmod 40 + 20 := i64_id _ (by omega) (by omega)
  have wt : IntKind.i64.wrap ((N.tdiv 208320).tmod 3 * 200) = (N.tdiv 208320).tmod 3 * 200 := i64_id _ (by omega) (by omega)
  have hwb : (((N.tdiv 1736).tmod 3) == 1) = true := by simp [hw]
  have q0 := R_road 1 (limF j) [] 0 0 60000 0 60000
  simp only [rowsI_cons, rowsI_nil, laneC, roadL, List.map_cons, List.map_nil] at q0
  simp at q0
  rw [R_fn F_kerbstonekit_Map rfl]
  simp (config := { maxSteps := 1000000 }) [c_kerbstonekit_Map, hM, h7, hje, hlg, lim_get2, hj4, hj4', w7, w28, w56, w1736, w5208, w208320, wr1, wr2, wb, wt, hwb, hw, q0, newAt, markOne, memBelow, noIds, mapC, mapP, lanesP, zonesP, signalsP, worksP, laneC, roadL, workC, zoneC, partC, signalC]

set_option maxHeartbeats 4000000 in
theorem R_Map0 (n : Int) (h7 : (n % 16777216).tmod 7 = 0)  (hw : ((n % 16777216).tdiv 1736).tmod 3 ≠ 1) :
    R L Cs f_kerbstonekit_Map [W n] [] = some (.w (.a (mapC (mapP 0 (limF (((n % 16777216).tdiv 7).tmod 4).toNat) (((n % 16777216).tdiv 28).tmod 2) (((n % 16777216).tdiv 28).tmod 31) (((n % 16777216).tdiv 56).tmod 31) (((n % 16777216).tdiv 56).tmod 17) (((n % 16777216).tdiv 28).tmod 5) (((n % 16777216).tdiv 1736).tmod 3) (((n % 16777216).tdiv 5208).tmod 40) (((n % 16777216).tdiv 208320).tmod 3)))), []) := by
  have hM := R_Mod n
  have hN : 0 ≤ n % 16777216 ∧ n % 16777216 < 16777216 := by omega
  generalize n % 16777216 = N at *
  have w7 : IntKind.i64.wrap (N.tdiv 7) = N.tdiv 7 := tdiv_wrap hN (by decide)
  have w28 : IntKind.i64.wrap (N.tdiv 28) = N.tdiv 28 := tdiv_wrap hN (by decide)
  have w56 : IntKind.i64.wrap (N.tdiv 56) = N.tdiv 56 := tdiv_wrap hN (by decide)
  have w1736 : IntKind.i64.wrap (N.tdiv 1736) = N.tdiv 1736 := tdiv_wrap hN (by decide)
  have w5208 : IntKind.i64.wrap (N.tdiv 5208) = N.tdiv 5208 := tdiv_wrap hN (by decide)
  have w208320 : IntKind.i64.wrap (N.tdiv 208320) = N.tdiv 208320 := tdiv_wrap hN (by decide)
  have hj := tmod_lt N 7 4 hN (by decide) (by decide)
  obtain ⟨j, hje⟩ := Int.eq_ofNat_of_zero_le hj.1
  have hj4 : j < 4 := by omega
  have hlg := lim_get j hj4
  have hj4' : (j : Int) < 4 := by omega
  have r2 := tmod_lt N 28 2 hN (by decide) (by decide)
  have v5 := tmod_lt N 28 5 hN (by decide) (by decide)
  have b40 := tmod_lt N 5208 40 hN (by decide) (by decide)
  have t3 := tmod_lt N 208320 3 hN (by decide) (by decide)
  have wr1 : IntKind.i64.wrap (2 * (N.tdiv 28).tmod 2) = 2 * (N.tdiv 28).tmod 2 := i64_id _ (by omega) (by omega)
  have wr2 : IntKind.i64.wrap (2 - 2 * (N.tdiv 28).tmod 2) = 2 - 2 * (N.tdiv 28).tmod 2 := i64_id _ (by omega) (by omega)
  have wb : IntKind.i64.wrap ((N.tdiv 5208).tmod 40 + 20) = (N.tdiv 5208).tmod 40 + 20 := i64_id _ (by omega) (by omega)
  have wt : IntKind.i64.wrap ((N.tdiv 208320).tmod 3 * 200) = (N.tdiv 208320).tmod 3 * 200 := i64_id _ (by omega) (by omega)
  have hwb : (((N.tdiv 1736).tmod 3) == 1) = false := by simp [hw]
  have q0 := R_road 1 (limF j) [] 0 0 60000 0 60000
  simp only [rowsI_cons, rowsI_nil, laneC, roadL, List.map_cons, List.map_nil] at q0
  simp at q0
  rw [R_fn F_kerbstonekit_Map rfl]
  simp (config := { maxSteps := 1000000 }) [c_kerbstonekit_Map, hM, h7, hje, hlg, lim_get2, hj4, hj4', w7, w28, w56, w1736, w5208, w208320, wr1, wr2, wb, wt, hwb, hw, q0, newAt, markOne, memBelow, noIds, mapC, mapP, lanesP, zonesP, signalsP, worksP, laneC, roadL, workC, zoneC, partC, signalC]

set_option maxHeartbeats 4000000 in
theorem R_Map1w (n : Int) (h7 : (n % 16777216).tmod 7 = 1)  (hw : ((n % 16777216).tdiv 1736).tmod 3 = 1) :
    R L Cs f_kerbstonekit_Map [W n] [] = some (.w (.a (mapC (mapP 1 (limF (((n % 16777216).tdiv 7).tmod 4).toNat) (((n % 16777216).tdiv 28).tmod 2) (((n % 16777216).tdiv 28).tmod 31) (((n % 16777216).tdiv 56).tmod 31) (((n % 16777216).tdiv 56).tmod 17) (((n % 16777216).tdiv 28).tmod 5) (((n % 16777216).tdiv 1736).tmod 3) (((n % 16777216).tdiv 5208).tmod 40) (((n % 16777216).tdiv 208320).tmod 3)))), []) := by
  have hM := R_Mod n
  have hN : 0 ≤ n % 16777216 ∧ n % 16777216 < 16777216 := by omega
  generalize n % 16777216 = N at *
  have w7 : IntKind.i64.wrap (N.tdiv 7) = N.tdiv 7 := tdiv_wrap hN (by decide)
  have w28 : IntKind.i64.wrap (N.tdiv 28) = N.tdiv 28 := tdiv_wrap hN (by decide)
  have w56 : IntKind.i64.wrap (N.tdiv 56) = N.tdiv 56 := tdiv_wrap hN (by decide)
  have w1736 : IntKind.i64.wrap (N.tdiv 1736) = N.tdiv 1736 := tdiv_wrap hN (by decide)
  have w5208 : IntKind.i64.wrap (N.tdiv 5208) = N.tdiv 5208 := tdiv_wrap hN (by decide)
  have w208320 : IntKind.i64.wrap (N.tdiv 208320) = N.tdiv 208320 := tdiv_wrap hN (by decide)
  have hj := tmod_lt N 7 4 hN (by decide) (by decide)
  obtain ⟨j, hje⟩ := Int.eq_ofNat_of_zero_le hj.1
  have hj4 : j < 4 := by omega
  have hlg := lim_get j hj4
  have hj4' : (j : Int) < 4 := by omega
  have r2 := tmod_lt N 28 2 hN (by decide) (by decide)
  have v5 := tmod_lt N 28 5 hN (by decide) (by decide)
  have b40 := tmod_lt N 5208 40 hN (by decide) (by decide)
  have t3 := tmod_lt N 208320 3 hN (by decide) (by decide)
  have wr1 : IntKind.i64.wrap (2 * (N.tdiv 28).tmod 2) = 2 * (N.tdiv 28).tmod 2 := i64_id _ (by omega) (by omega)
  have wr2 : IntKind.i64.wrap (2 - 2 * (N.tdiv 28).tmod 2) = 2 - 2 * (N.tdiv 28).tmod 2 := i64_id _ (by omega) (by omega)
  have wb : IntKind.i64.wrap ((N.tdiv 5208).tmod 40 + 20) = (N.tdiv 5208).tmod 40 + 20 := i64_id _ (by omega) (by omega)
  have wt : IntKind.i64.wrap ((N.tdiv 208320).tmod 3 * 200) = (N.tdiv 208320).tmod 3 * 200 := i64_id _ (by omega) (by omega)
  have hwb : (((N.tdiv 1736).tmod 3) == 1) = true := by simp [hw]
  have q0 := R_road 1 (limF j) [] 0 0 50000 0 50000
  have q1 := R_road 1 1500 [] 30000 (-20000) 30000 20000 40000
  simp only [rowsI_cons, rowsI_nil, laneC, roadL, List.map_cons, List.map_nil] at q0 q1
  simp at q0 q1
  rw [R_fn F_kerbstonekit_Map rfl]
  simp (config := { maxSteps := 1000000 }) [c_kerbstonekit_Map, hM, h7, hje, hlg, lim_get2, hj4, hj4', w7, w28, w56, w1736, w5208, w208320, wr1, wr2, wb, wt, hwb, hw, q0, q1, newAt, markOne, memBelow, noIds, mapC, mapP, lanesP, zonesP, signalsP, worksP, laneC, roadL, workC, zoneC, partC, signalC]

set_option maxHeartbeats 4000000 in
theorem R_Map1 (n : Int) (h7 : (n % 16777216).tmod 7 = 1)  (hw : ((n % 16777216).tdiv 1736).tmod 3 ≠ 1) :
    R L Cs f_kerbstonekit_Map [W n] [] = some (.w (.a (mapC (mapP 1 (limF (((n % 16777216).tdiv 7).tmod 4).toNat) (((n % 16777216).tdiv 28).tmod 2) (((n % 16777216).tdiv 28).tmod 31) (((n % 16777216).tdiv 56).tmod 31) (((n % 16777216).tdiv 56).tmod 17) (((n % 16777216).tdiv 28).tmod 5) (((n % 16777216).tdiv 1736).tmod 3) (((n % 16777216).tdiv 5208).tmod 40) (((n % 16777216).tdiv 208320).tmod 3)))), []) := by
  have hM := R_Mod n
  have hN : 0 ≤ n % 16777216 ∧ n % 16777216 < 16777216 := by omega
  generalize n % 16777216 = N at *
  have w7 : IntKind.i64.wrap (N.tdiv 7) = N.tdiv 7 := tdiv_wrap hN (by decide)
  have w28 : IntKind.i64.wrap (N.tdiv 28) = N.tdiv 28 := tdiv_wrap hN (by decide)
  have w56 : IntKind.i64.wrap (N.tdiv 56) = N.tdiv 56 := tdiv_wrap hN (by decide)
  have w1736 : IntKind.i64.wrap (N.tdiv 1736) = N.tdiv 1736 := tdiv_wrap hN (by decide)
  have w5208 : IntKind.i64.wrap (N.tdiv 5208) = N.tdiv 5208 := tdiv_wrap hN (by decide)
  have w208320 : IntKind.i64.wrap (N.tdiv 208320) = N.tdiv 208320 := tdiv_wrap hN (by decide)
  have hj := tmod_lt N 7 4 hN (by decide) (by decide)
  obtain ⟨j, hje⟩ := Int.eq_ofNat_of_zero_le hj.1
  have hj4 : j < 4 := by omega
  have hlg := lim_get j hj4
  have hj4' : (j : Int) < 4 := by omega
  have r2 := tmod_lt N 28 2 hN (by decide) (by decide)
  have v5 := tmod_lt N 28 5 hN (by decide) (by decide)
  have b40 := tmod_lt N 5208 40 hN (by decide) (by decide)
  have t3 := tmod_lt N 208320 3 hN (by decide) (by decide)
  have wr1 : IntKind.i64.wrap (2 * (N.tdiv 28).tmod 2) = 2 * (N.tdiv 28).tmod 2 := i64_id _ (by omega) (by omega)
  have wr2 : IntKind.i64.wrap (2 - 2 * (N.tdiv 28).tmod 2) = 2 - 2 * (N.tdiv 28).tmod 2 := i64_id _ (by omega) (by omega)
  have wb : IntKind.i64.wrap ((N.tdiv 5208).tmod 40 + 20) = (N.tdiv 5208).tmod 40 + 20 := i64_id _ (by omega) (by omega)
  have wt : IntKind.i64.wrap ((N.tdiv 208320).tmod 3 * 200) = (N.tdiv 208320).tmod 3 * 200 := i64_id _ (by omega) (by omega)
  have hwb : (((N.tdiv 1736).tmod 3) == 1) = false := by simp [hw]
  have q0 := R_road 1 (limF j) [] 0 0 50000 0 50000
  have q1 := R_road 1 1500 [] 30000 (-20000) 30000 20000 40000
  simp only [rowsI_cons, rowsI_nil, laneC, roadL, List.map_cons, List.map_nil] at q0 q1
  simp at q0 q1
  rw [R_fn F_kerbstonekit_Map rfl]
  simp (config := { maxSteps := 1000000 }) [c_kerbstonekit_Map, hM, h7, hje, hlg, lim_get2, hj4, hj4', w7, w28, w56, w1736, w5208, w208320, wr1, wr2, wb, wt, hwb, hw, q0, q1, newAt, markOne, memBelow, noIds, mapC, mapP, lanesP, zonesP, signalsP, worksP, laneC, roadL, workC, zoneC, partC, signalC]

set_option maxHeartbeats 4000000 in
theorem R_Map2w (n : Int) (h7 : (n % 16777216).tmod 7 = 2)  (hw : ((n % 16777216).tdiv 1736).tmod 3 = 1) :
    R L Cs f_kerbstonekit_Map [W n] [] = some (.w (.a (mapC (mapP 2 (limF (((n % 16777216).tdiv 7).tmod 4).toNat) (((n % 16777216).tdiv 28).tmod 2) (((n % 16777216).tdiv 28).tmod 31) (((n % 16777216).tdiv 56).tmod 31) (((n % 16777216).tdiv 56).tmod 17) (((n % 16777216).tdiv 28).tmod 5) (((n % 16777216).tdiv 1736).tmod 3) (((n % 16777216).tdiv 5208).tmod 40) (((n % 16777216).tdiv 208320).tmod 3)))), []) := by
  have hM := R_Mod n
  have hN : 0 ≤ n % 16777216 ∧ n % 16777216 < 16777216 := by omega
  generalize n % 16777216 = N at *
  have w7 : IntKind.i64.wrap (N.tdiv 7) = N.tdiv 7 := tdiv_wrap hN (by decide)
  have w28 : IntKind.i64.wrap (N.tdiv 28) = N.tdiv 28 := tdiv_wrap hN (by decide)
  have w56 : IntKind.i64.wrap (N.tdiv 56) = N.tdiv 56 := tdiv_wrap hN (by decide)
  have w1736 : IntKind.i64.wrap (N.tdiv 1736) = N.tdiv 1736 := tdiv_wrap hN (by decide)
  have w5208 : IntKind.i64.wrap (N.tdiv 5208) = N.tdiv 5208 := tdiv_wrap hN (by decide)
  have w208320 : IntKind.i64.wrap (N.tdiv 208320) = N.tdiv 208320 := tdiv_wrap hN (by decide)
  have hj := tmod_lt N 7 4 hN (by decide) (by decide)
  obtain ⟨j, hje⟩ := Int.eq_ofNat_of_zero_le hj.1
  have hj4 : j < 4 := by omega
  have hlg := lim_get j hj4
  have hj4' : (j : Int) < 4 := by omega
  have r2 := tmod_lt N 28 2 hN (by decide) (by decide)
  have v5 := tmod_lt N 28 5 hN (by decide) (by decide)
  have b40 := tmod_lt N 5208 40 hN (by decide) (by decide)
  have t3 := tmod_lt N 208320 3 hN (by decide) (by decide)
  have wr1 : IntKind.i64.wrap (2 * (N.tdiv 28).tmod 2) = 2 * (N.tdiv 28).tmod 2 := i64_id _ (by omega) (by omega)
  have wr2 : IntKind.i64.wrap (2 - 2 * (N.tdiv 28).tmod 2) = 2 - 2 * (N.tdiv 28).tmod 2 := i64_id _ (by omega) (by omega)
  have wb : IntKind.i64.wrap ((N.tdiv 5208).tmod 40 + 20) = (N.tdiv 5208).tmod 40 + 20 := i64_id _ (by omega) (by omega)
  have wt : IntKind.i64.wrap ((N.tdiv 208320).tmod 3 * 200) = (N.tdiv 208320).tmod 3 * 200 := i64_id _ (by omega) (by omega)
  have hwb : (((N.tdiv 1736).tmod 3) == 1) = true := by simp [hw]
  have q0 := R_road 1 (limF j) [] 0 0 50000 0 50000
  have q1 := R_road 1 1500 [] 30000 (-20000) 30000 20000 40000
  simp only [rowsI_cons, rowsI_nil, laneC, roadL, List.map_cons, List.map_nil] at q0 q1
  simp at q0 q1
  have s1 := R_signal ((N.tdiv 28).tmod 31) 0 1
  simp only [signalC] at s1
  rw [R_fn F_kerbstonekit_Map rfl]
  simp (config := { maxSteps := 1000000 }) [c_kerbstonekit_Map, hM, h7, hje, hlg, lim_get2, hj4, hj4', w7, w28, w56, w1736, w5208, w208320, wr1, wr2, wb, wt, hwb, hw, q0, q1, s1, newAt, markOne, memBelow, noIds, mapC, mapP, lanesP, zonesP, signalsP, worksP, laneC, roadL, workC, zoneC, partC, signalC]

set_option maxHeartbeats 4000000 in
theorem R_Map2 (n : Int) (h7 : (n % 16777216).tmod 7 = 2)  (hw : ((n % 16777216).tdiv 1736).tmod 3 ≠ 1) :
    R L Cs f_kerbstonekit_Map [W n] [] = some (.w (.a (mapC (mapP 2 (limF (((n % 16777216).tdiv 7).tmod 4).toNat) (((n % 16777216).tdiv 28).tmod 2) (((n % 16777216).tdiv 28).tmod 31) (((n % 16777216).tdiv 56).tmod 31) (((n % 16777216).tdiv 56).tmod 17) (((n % 16777216).tdiv 28).tmod 5) (((n % 16777216).tdiv 1736).tmod 3) (((n % 16777216).tdiv 5208).tmod 40) (((n % 16777216).tdiv 208320).tmod 3)))), []) := by
  have hM := R_Mod n
  have hN : 0 ≤ n % 16777216 ∧ n % 16777216 < 16777216 := by omega
  generalize n % 16777216 = N at *
  have w7 : IntKind.i64.wrap (N.tdiv 7) = N.tdiv 7 := tdiv_wrap hN (by decide)
  have w28 : IntKind.i64.wrap (N.tdiv 28) = N.tdiv 28 := tdiv_wrap hN (by decide)
  have w56 : IntKind.i64.wrap (N.tdiv 56) = N.tdiv 56 := tdiv_wrap hN (by decide)
  have w1736 : IntKind.i64.wrap (N.tdiv 1736) = N.tdiv 1736 := tdiv_wrap hN (by decide)
  have w5208 : IntKind.i64.wrap (N.tdiv 5208) = N.tdiv 5208 := tdiv_wrap hN (by decide)
  have w208320 : IntKind.i64.wrap (N.tdiv 208320) = N.tdiv 208320 := tdiv_wrap hN (by decide)
  have hj := tmod_lt N 7 4 hN (by decide) (by decide)
  obtain ⟨j, hje⟩ := Int.eq_ofNat_of_zero_le hj.1
  have hj4 : j < 4 := by omega
  have hlg := lim_get j hj4
  have hj4' : (j : Int) < 4 := by omega
  have r2 := tmod_lt N 28 2 hN (by decide) (by decide)
  have v5 := tmod_lt N 28 5 hN (by decide) (by decide)
  have b40 := tmod_lt N 5208 40 hN (by decide) (by decide)
  have t3 := tmod_lt N 208320 3 hN (by decide) (by decide)
  have wr1 : IntKind.i64.wrap (2 * (N.tdiv 28).tmod 2) = 2 * (N.tdiv 28).tmod 2 := i64_id _ (by omega) (by omega)
  have wr2 : IntKind.i64.wrap (2 - 2 * (N.tdiv 28).tmod 2) = 2 - 2 * (N.tdiv 28).tmod 2 := i64_id _ (by omega) (by omega)
  have wb : IntKind.i64.wrap ((N.tdiv 5208).tmod 40 + 20) = (N.tdiv 5208).tmod 40 + 20 := i64_id _ (by omega) (by omega)
  have wt : IntKind.i64.wrap ((N.tdiv 208320).tmod 3 * 200) = (N.tdiv 208320).tmod 3 * 200 := i64_id _ (by omega) (by omega)
  have hwb : (((N.tdiv 1736).tmod 3) == 1) = false := by simp [hw]
  have q0 := R_road 1 (limF j) [] 0 0 50000 0 50000
  have q1 := R_road 1 1500 [] 30000 (-20000) 30000 20000 40000
  simp only [rowsI_cons, rowsI_nil, laneC, roadL, List.map_cons, List.map_nil] at q0 q1
  simp at q0 q1
  have s1 := R_signal ((N.tdiv 28).tmod 31) 0 1
  simp only [signalC] at s1
  rw [R_fn F_kerbstonekit_Map rfl]
  simp (config := { maxSteps := 1000000 }) [c_kerbstonekit_Map, hM, h7, hje, hlg, lim_get2, hj4, hj4', w7, w28, w56, w1736, w5208, w208320, wr1, wr2, wb, wt, hwb, hw, q0, q1, s1, newAt, markOne, memBelow, noIds, mapC, mapP, lanesP, zonesP, signalsP, worksP, laneC, roadL, workC, zoneC, partC, signalC]

set_option maxHeartbeats 4000000 in
theorem R_Map3w (n : Int) (h7 : (n % 16777216).tmod 7 = 3)  (hw : ((n % 16777216).tdiv 1736).tmod 3 = 1) :
    R L Cs f_kerbstonekit_Map [W n] [] = some (.w (.a (mapC (mapP 3 (limF (((n % 16777216).tdiv 7).tmod 4).toNat) (((n % 16777216).tdiv 28).tmod 2) (((n % 16777216).tdiv 28).tmod 31) (((n % 16777216).tdiv 56).tmod 31) (((n % 16777216).tdiv 56).tmod 17) (((n % 16777216).tdiv 28).tmod 5) (((n % 16777216).tdiv 1736).tmod 3) (((n % 16777216).tdiv 5208).tmod 40) (((n % 16777216).tdiv 208320).tmod 3)))), []) := by
  have hM := R_Mod n
  have hN : 0 ≤ n % 16777216 ∧ n % 16777216 < 16777216 := by omega
  generalize n % 16777216 = N at *
  have w7 : IntKind.i64.wrap (N.tdiv 7) = N.tdiv 7 := tdiv_wrap hN (by decide)
  have w28 : IntKind.i64.wrap (N.tdiv 28) = N.tdiv 28 := tdiv_wrap hN (by decide)
  have w56 : IntKind.i64.wrap (N.tdiv 56) = N.tdiv 56 := tdiv_wrap hN (by decide)
  have w1736 : IntKind.i64.wrap (N.tdiv 1736) = N.tdiv 1736 := tdiv_wrap hN (by decide)
  have w5208 : IntKind.i64.wrap (N.tdiv 5208) = N.tdiv 5208 := tdiv_wrap hN (by decide)
  have w208320 : IntKind.i64.wrap (N.tdiv 208320) = N.tdiv 208320 := tdiv_wrap hN (by decide)
  have hj := tmod_lt N 7 4 hN (by decide) (by decide)
  obtain ⟨j, hje⟩ := Int.eq_ofNat_of_zero_le hj.1
  have hj4 : j < 4 := by omega
  have hlg := lim_get j hj4
  have hj4' : (j : Int) < 4 := by omega
  have r2 := tmod_lt N 28 2 hN (by decide) (by decide)
  have v5 := tmod_lt N 28 5 hN (by decide) (by decide)
  have b40 := tmod_lt N 5208 40 hN (by decide) (by decide)
  have t3 := tmod_lt N 208320 3 hN (by decide) (by decide)
  have wr1 : IntKind.i64.wrap (2 * (N.tdiv 28).tmod 2) = 2 * (N.tdiv 28).tmod 2 := i64_id _ (by omega) (by omega)
  have wr2 : IntKind.i64.wrap (2 - 2 * (N.tdiv 28).tmod 2) = 2 - 2 * (N.tdiv 28).tmod 2 := i64_id _ (by omega) (by omega)
  have wb : IntKind.i64.wrap ((N.tdiv 5208).tmod 40 + 20) = (N.tdiv 5208).tmod 40 + 20 := i64_id _ (by omega) (by omega)
  have wt : IntKind.i64.wrap ((N.tdiv 208320).tmod 3 * 200) = (N.tdiv 208320).tmod 3 * 200 := i64_id _ (by omega) (by omega)
  have hwb : (((N.tdiv 1736).tmod 3) == 1) = true := by simp [hw]
  have q0 := R_road 1 (limF j) [1, 2] 0 0 30000 0 30000
  have q1 := R_road 1 1500 [] 30000 0 60000 0 30000
  have q2 := R_road 1 800 [] 30000 0 54000 10000 26000
  simp only [rowsI_cons, rowsI_nil, laneC, roadL, List.map_cons, List.map_nil] at q0 q1 q2
  simp at q0 q1 q2
  rw [R_fn F_kerbstonekit_Map rfl]
  simp (config := { maxSteps := 1000000 }) [c_kerbstonekit_Map, hM, h7, hje, hlg, lim_get2, hj4, hj4', w7, w28, w56, w1736, w5208, w208320, wr1, wr2, wb, wt, hwb, hw, q0, q1, q2, newAt, markOne, memBelow, noIds, mapC, mapP, lanesP, zonesP, signalsP, worksP, laneC, roadL, workC, zoneC, partC, signalC]

set_option maxHeartbeats 4000000 in
theorem R_Map3 (n : Int) (h7 : (n % 16777216).tmod 7 = 3)  (hw : ((n % 16777216).tdiv 1736).tmod 3 ≠ 1) :
    R L Cs f_kerbstonekit_Map [W n] [] = some (.w (.a (mapC (mapP 3 (limF (((n % 16777216).tdiv 7).tmod 4).toNat) (((n % 16777216).tdiv 28).tmod 2) (((n % 16777216).tdiv 28).tmod 31) (((n % 16777216).tdiv 56).tmod 31) (((n % 16777216).tdiv 56).tmod 17) (((n % 16777216).tdiv 28).tmod 5) (((n % 16777216).tdiv 1736).tmod 3) (((n % 16777216).tdiv 5208).tmod 40) (((n % 16777216).tdiv 208320).tmod 3)))), []) := by
  have hM := R_Mod n
  have hN : 0 ≤ n % 16777216 ∧ n % 16777216 < 16777216 := by omega
  generalize n % 16777216 = N at *
  have w7 : IntKind.i64.wrap (N.tdiv 7) = N.tdiv 7 := tdiv_wrap hN (by decide)
  have w28 : IntKind.i64.wrap (N.tdiv 28) = N.tdiv 28 := tdiv_wrap hN (by decide)
  have w56 : IntKind.i64.wrap (N.tdiv 56) = N.tdiv 56 := tdiv_wrap hN (by decide)
  have w1736 : IntKind.i64.wrap (N.tdiv 1736) = N.tdiv 1736 := tdiv_wrap hN (by decide)
  have w5208 : IntKind.i64.wrap (N.tdiv 5208) = N.tdiv 5208 := tdiv_wrap hN (by decide)
  have w208320 : IntKind.i64.wrap (N.tdiv 208320) = N.tdiv 208320 := tdiv_wrap hN (by decide)
  have hj := tmod_lt N 7 4 hN (by decide) (by decide)
  obtain ⟨j, hje⟩ := Int.eq_ofNat_of_zero_le hj.1
  have hj4 : j < 4 := by omega
  have hlg := lim_get j hj4
  have hj4' : (j : Int) < 4 := by omega
  have r2 := tmod_lt N 28 2 hN (by decide) (by decide)
  have v5 := tmod_lt N 28 5 hN (by decide) (by decide)
  have b40 := tmod_lt N 5208 40 hN (by decide) (by decide)
  have t3 := tmod_lt N 208320 3 hN (by decide) (by decide)
  have wr1 : IntKind.i64.wrap (2 * (N.tdiv 28).tmod 2) = 2 * (N.tdiv 28).tmod 2 := i64_id _ (by omega) (by omega)
  have wr2 : IntKind.i64.wrap (2 - 2 * (N.tdiv 28).tmod 2) = 2 - 2 * (N.tdiv 28).tmod 2 := i64_id _ (by omega) (by omega)
  have wb : IntKind.i64.wrap ((N.tdiv 5208).tmod 40 + 20) = (N.tdiv 5208).tmod 40 + 20 := i64_id _ (by omega) (by omega)
  have wt : IntKind.i64.wrap ((N.tdiv 208320).tmod 3 * 200) = (N.tdiv 208320).tmod 3 * 200 := i64_id _ (by omega) (by omega)
  have hwb : (((N.tdiv 1736).tmod 3) == 1) = false := by simp [hw]
  have q0 := R_road 1 (limF j) [1, 2] 0 0 30000 0 30000
  have q1 := R_road 1 1500 [] 30000 0 60000 0 30000
  have q2 := R_road 1 800 [] 30000 0 54000 10000 26000
  simp only [rowsI_cons, rowsI_nil, laneC, roadL, List.map_cons, List.map_nil] at q0 q1 q2
  simp at q0 q1 q2
  rw [R_fn F_kerbstonekit_Map rfl]
  simp (config := { maxSteps := 1000000 }) [c_kerbstonekit_Map, hM, h7, hje, hlg, lim_get2, hj4, hj4', w7, w28, w56, w1736, w5208, w208320, wr1, wr2, wb, wt, hwb, hw, q0, q1, q2, newAt, markOne, memBelow, noIds, mapC, mapP, lanesP, zonesP, signalsP, worksP, laneC, roadL, workC, zoneC, partC, signalC]

set_option maxHeartbeats 4000000 in
theorem R_Map4w (n : Int) (h7 : (n % 16777216).tmod 7 = 4)  (hw : ((n % 16777216).tdiv 1736).tmod 3 = 1) :
    R L Cs f_kerbstonekit_Map [W n] [] = some (.w (.a (mapC (mapP 4 (limF (((n % 16777216).tdiv 7).tmod 4).toNat) (((n % 16777216).tdiv 28).tmod 2) (((n % 16777216).tdiv 28).tmod 31) (((n % 16777216).tdiv 56).tmod 31) (((n % 16777216).tdiv 56).tmod 17) (((n % 16777216).tdiv 28).tmod 5) (((n % 16777216).tdiv 1736).tmod 3) (((n % 16777216).tdiv 5208).tmod 40) (((n % 16777216).tdiv 208320).tmod 3)))), []) := by
  have hM := R_Mod n
  have hN : 0 ≤ n % 16777216 ∧ n % 16777216 < 16777216 := by omega
  generalize n % 16777216 = N at *
  have w7 : IntKind.i64.wrap (N.tdiv 7) = N.tdiv 7 := tdiv_wrap hN (by decide)
  have w28 : IntKind.i64.wrap (N.tdiv 28) = N.tdiv 28 := tdiv_wrap hN (by decide)
  have w56 : IntKind.i64.wrap (N.tdiv 56) = N.tdiv 56 := tdiv_wrap hN (by decide)
  have w1736 : IntKind.i64.wrap (N.tdiv 1736) = N.tdiv 1736 := tdiv_wrap hN (by decide)
  have w5208 : IntKind.i64.wrap (N.tdiv 5208) = N.tdiv 5208 := tdiv_wrap hN (by decide)
  have w208320 : IntKind.i64.wrap (N.tdiv 208320) = N.tdiv 208320 := tdiv_wrap hN (by decide)
  have hj := tmod_lt N 7 4 hN (by decide) (by decide)
  obtain ⟨j, hje⟩ := Int.eq_ofNat_of_zero_le hj.1
  have hj4 : j < 4 := by omega
  have hlg := lim_get j hj4
  have hj4' : (j : Int) < 4 := by omega
  have r2 := tmod_lt N 28 2 hN (by decide) (by decide)
  have v5 := tmod_lt N 28 5 hN (by decide) (by decide)
  have b40 := tmod_lt N 5208 40 hN (by decide) (by decide)
  have t3 := tmod_lt N 208320 3 hN (by decide) (by decide)
  have wr1 : IntKind.i64.wrap (2 * (N.tdiv 28).tmod 2) = 2 * (N.tdiv 28).tmod 2 := i64_id _ (by omega) (by omega)
  have wr2 : IntKind.i64.wrap (2 - 2 * (N.tdiv 28).tmod 2) = 2 - 2 * (N.tdiv 28).tmod 2 := i64_id _ (by omega) (by omega)
  have wb : IntKind.i64.wrap ((N.tdiv 5208).tmod 40 + 20) = (N.tdiv 5208).tmod 40 + 20 := i64_id _ (by omega) (by omega)
  have wt : IntKind.i64.wrap ((N.tdiv 208320).tmod 3 * 200) = (N.tdiv 208320).tmod 3 * 200 := i64_id _ (by omega) (by omega)
  have hwb : (((N.tdiv 1736).tmod 3) == 1) = true := by simp [hw]
  have q0 := R_road 1 (limF j) [2] 0 0 30000 0 30000
  have q1 := R_road 1 1500 [2] 6000 (-10000) 30000 0 26000
  have q2 := R_road 1 1500 [] 30000 0 60000 0 30000
  simp only [rowsI_cons, rowsI_nil, laneC, roadL, List.map_cons, List.map_nil] at q0 q1 q2
  simp at q0 q1 q2
  rw [R_fn F_kerbstonekit_Map rfl]
  simp (config := { maxSteps := 1000000 }) [c_kerbstonekit_Map, hM, h7, hje, hlg, lim_get2, hj4, hj4', w7, w28, w56, w1736, w5208, w208320, wr1, wr2, wb, wt, hwb, hw, q0, q1, q2, newAt, markOne, memBelow, noIds, mapC, mapP, lanesP, zonesP, signalsP, worksP, laneC, roadL, workC, zoneC, partC, signalC]

set_option maxHeartbeats 4000000 in
theorem R_Map4 (n : Int) (h7 : (n % 16777216).tmod 7 = 4)  (hw : ((n % 16777216).tdiv 1736).tmod 3 ≠ 1) :
    R L Cs f_kerbstonekit_Map [W n] [] = some (.w (.a (mapC (mapP 4 (limF (((n % 16777216).tdiv 7).tmod 4).toNat) (((n % 16777216).tdiv 28).tmod 2) (((n % 16777216).tdiv 28).tmod 31) (((n % 16777216).tdiv 56).tmod 31) (((n % 16777216).tdiv 56).tmod 17) (((n % 16777216).tdiv 28).tmod 5) (((n % 16777216).tdiv 1736).tmod 3) (((n % 16777216).tdiv 5208).tmod 40) (((n % 16777216).tdiv 208320).tmod 3)))), []) := by
  have hM := R_Mod n
  have hN : 0 ≤ n % 16777216 ∧ n % 16777216 < 16777216 := by omega
  generalize n % 16777216 = N at *
  have w7 : IntKind.i64.wrap (N.tdiv 7) = N.tdiv 7 := tdiv_wrap hN (by decide)
  have w28 : IntKind.i64.wrap (N.tdiv 28) = N.tdiv 28 := tdiv_wrap hN (by decide)
  have w56 : IntKind.i64.wrap (N.tdiv 56) = N.tdiv 56 := tdiv_wrap hN (by decide)
  have w1736 : IntKind.i64.wrap (N.tdiv 1736) = N.tdiv 1736 := tdiv_wrap hN (by decide)
  have w5208 : IntKind.i64.wrap (N.tdiv 5208) = N.tdiv 5208 := tdiv_wrap hN (by decide)
  have w208320 : IntKind.i64.wrap (N.tdiv 208320) = N.tdiv 208320 := tdiv_wrap hN (by decide)
  have hj := tmod_lt N 7 4 hN (by decide) (by decide)
  obtain ⟨j, hje⟩ := Int.eq_ofNat_of_zero_le hj.1
  have hj4 : j < 4 := by omega
  have hlg := lim_get j hj4
  have hj4' : (j : Int) < 4 := by omega
  have r2 := tmod_lt N 28 2 hN (by decide) (by decide)
  have v5 := tmod_lt N 28 5 hN (by decide) (by decide)
  have b40 := tmod_lt N 5208 40 hN (by decide) (by decide)
  have t3 := tmod_lt N 208320 3 hN (by decide) (by decide)
  have wr1 : IntKind.i64.wrap (2 * (N.tdiv 28).tmod 2) = 2 * (N.tdiv 28).tmod 2 := i64_id _ (by omega) (by omega)
  have wr2 : IntKind.i64.wrap (2 - 2 * (N.tdiv 28).tmod 2) = 2 - 2 * (N.tdiv 28).tmod 2 := i64_id _ (by omega) (by omega)
  have wb : IntKind.i64.wrap ((N.tdiv 5208).tmod 40 + 20) = (N.tdiv 5208).tmod 40 + 20 := i64_id _ (by omega) (by omega)
  have wt : IntKind.i64.wrap ((N.tdiv 208320).tmod 3 * 200) = (N.tdiv 208320).tmod 3 * 200 := i64_id _ (by omega) (by omega)
  have hwb : (((N.tdiv 1736).tmod 3) == 1) = false := by simp [hw]
  have q0 := R_road 1 (limF j) [2] 0 0 30000 0 30000
  have q1 := R_road 1 1500 [2] 6000 (-10000) 30000 0 26000
  have q2 := R_road 1 1500 [] 30000 0 60000 0 30000
  simp only [rowsI_cons, rowsI_nil, laneC, roadL, List.map_cons, List.map_nil] at q0 q1 q2
  simp at q0 q1 q2
  rw [R_fn F_kerbstonekit_Map rfl]
  simp (config := { maxSteps := 1000000 }) [c_kerbstonekit_Map, hM, h7, hje, hlg, lim_get2, hj4, hj4', w7, w28, w56, w1736, w5208, w208320, wr1, wr2, wb, wt, hwb, hw, q0, q1, q2, newAt, markOne, memBelow, noIds, mapC, mapP, lanesP, zonesP, signalsP, worksP, laneC, roadL, workC, zoneC, partC, signalC]

set_option maxHeartbeats 4000000 in
theorem R_Map5w (n : Int) (h7 : (n % 16777216).tmod 7 = 5)  (hw : ((n % 16777216).tdiv 1736).tmod 3 = 1) :
    R L Cs f_kerbstonekit_Map [W n] [] = some (.w (.a (mapC (mapP 5 (limF (((n % 16777216).tdiv 7).tmod 4).toNat) (((n % 16777216).tdiv 28).tmod 2) (((n % 16777216).tdiv 28).tmod 31) (((n % 16777216).tdiv 56).tmod 31) (((n % 16777216).tdiv 56).tmod 17) (((n % 16777216).tdiv 28).tmod 5) (((n % 16777216).tdiv 1736).tmod 3) (((n % 16777216).tdiv 5208).tmod 40) (((n % 16777216).tdiv 208320).tmod 3)))), []) := by
  have hM := R_Mod n
  have hN : 0 ≤ n % 16777216 ∧ n % 16777216 < 16777216 := by omega
  generalize n % 16777216 = N at *
  have w7 : IntKind.i64.wrap (N.tdiv 7) = N.tdiv 7 := tdiv_wrap hN (by decide)
  have w28 : IntKind.i64.wrap (N.tdiv 28) = N.tdiv 28 := tdiv_wrap hN (by decide)
  have w56 : IntKind.i64.wrap (N.tdiv 56) = N.tdiv 56 := tdiv_wrap hN (by decide)
  have w1736 : IntKind.i64.wrap (N.tdiv 1736) = N.tdiv 1736 := tdiv_wrap hN (by decide)
  have w5208 : IntKind.i64.wrap (N.tdiv 5208) = N.tdiv 5208 := tdiv_wrap hN (by decide)
  have w208320 : IntKind.i64.wrap (N.tdiv 208320) = N.tdiv 208320 := tdiv_wrap hN (by decide)
  have hj := tmod_lt N 7 4 hN (by decide) (by decide)
  obtain ⟨j, hje⟩ := Int.eq_ofNat_of_zero_le hj.1
  have hj4 : j < 4 := by omega
  have hlg := lim_get j hj4
  have hj4' : (j : Int) < 4 := by omega
  have r2 := tmod_lt N 28 2 hN (by decide) (by decide)
  have v5 := tmod_lt N 28 5 hN (by decide) (by decide)
  have b40 := tmod_lt N 5208 40 hN (by decide) (by decide)
  have t3 := tmod_lt N 208320 3 hN (by decide) (by decide)
  have wr1 : IntKind.i64.wrap (2 * (N.tdiv 28).tmod 2) = 2 * (N.tdiv 28).tmod 2 := i64_id _ (by omega) (by omega)
  have wr2 : IntKind.i64.wrap (2 - 2 * (N.tdiv 28).tmod 2) = 2 - 2 * (N.tdiv 28).tmod 2 := i64_id _ (by omega) (by omega)
  have wb : IntKind.i64.wrap ((N.tdiv 5208).tmod 40 + 20) = (N.tdiv 5208).tmod 40 + 20 := i64_id _ (by omega) (by omega)
  have wt : IntKind.i64.wrap ((N.tdiv 208320).tmod 3 * 200) = (N.tdiv 208320).tmod 3 * 200 := i64_id _ (by omega) (by omega)
  have hwb : (((N.tdiv 1736).tmod 3) == 1) = true := by simp [hw]
  have q0 := R_road 1 (limF j) [1] 0 0 20000 0 20000
  have q1 := R_road 1 (limF j) [] 20000 0 50000 0 30000
  have q2 := R_road 3 200 [] 35000 (-8000) 35000 8000 16000
  simp only [rowsI_cons, rowsI_nil, laneC, roadL, List.map_cons, List.map_nil] at q0 q1 q2
  simp at q0 q1 q2
  rw [R_fn F_kerbstonekit_Map rfl]
  simp (config := { maxSteps := 1000000 }) [c_kerbstonekit_Map, hM, h7, hje, hlg, lim_get2, hj4, hj4', w7, w28, w56, w1736, w5208, w208320, wr1, wr2, wb, wt, hwb, hw, q0, q1, q2, newAt, markOne, memBelow, noIds, mapC, mapP, lanesP, zonesP, signalsP, worksP, laneC, roadL, workC, zoneC, partC, signalC]

set_option maxHeartbeats 4000000 in
theorem R_Map5 (n : Int) (h7 : (n % 16777216).tmod 7 = 5)  (hw : ((n % 16777216).tdiv 1736).tmod 3 ≠ 1) :
    R L Cs f_kerbstonekit_Map [W n] [] = some (.w (.a (mapC (mapP 5 (limF (((n % 16777216).tdiv 7).tmod 4).toNat) (((n % 16777216).tdiv 28).tmod 2) (((n % 16777216).tdiv 28).tmod 31) (((n % 16777216).tdiv 56).tmod 31) (((n % 16777216).tdiv 56).tmod 17) (((n % 16777216).tdiv 28).tmod 5) (((n % 16777216).tdiv 1736).tmod 3) (((n % 16777216).tdiv 5208).tmod 40) (((n % 16777216).tdiv 208320).tmod 3)))), []) := by
  have hM := R_Mod n
  have hN : 0 ≤ n % 16777216 ∧ n % 16777216 < 16777216 := by omega
  generalize n % 16777216 = N at *
  have w7 : IntKind.i64.wrap (N.tdiv 7) = N.tdiv 7 := tdiv_wrap hN (by decide)
  have w28 : IntKind.i64.wrap (N.tdiv 28) = N.tdiv 28 := tdiv_wrap hN (by decide)
  have w56 : IntKind.i64.wrap (N.tdiv 56) = N.tdiv 56 := tdiv_wrap hN (by decide)
  have w1736 : IntKind.i64.wrap (N.tdiv 1736) = N.tdiv 1736 := tdiv_wrap hN (by decide)
  have w5208 : IntKind.i64.wrap (N.tdiv 5208) = N.tdiv 5208 := tdiv_wrap hN (by decide)
  have w208320 : IntKind.i64.wrap (N.tdiv 208320) = N.tdiv 208320 := tdiv_wrap hN (by decide)
  have hj := tmod_lt N 7 4 hN (by decide) (by decide)
  obtain ⟨j, hje⟩ := Int.eq_ofNat_of_zero_le hj.1
  have hj4 : j < 4 := by omega
  have hlg := lim_get j hj4
  have hj4' : (j : Int) < 4 := by omega
  have r2 := tmod_lt N 28 2 hN (by decide) (by decide)
  have v5 := tmod_lt N 28 5 hN (by decide) (by decide)
  have b40 := tmod_lt N 5208 40 hN (by decide) (by decide)
  have t3 := tmod_lt N 208320 3 hN (by decide) (by decide)
  have wr1 : IntKind.i64.wrap (2 * (N.tdiv 28).tmod 2) = 2 * (N.tdiv 28).tmod 2 := i64_id _ (by omega) (by omega)
  have wr2 : IntKind.i64.wrap (2 - 2 * (N.tdiv 28).tmod 2) = 2 - 2 * (N.tdiv 28).tmod 2 := i64_id _ (by omega) (by omega)
  have wb : IntKind.i64.wrap ((N.tdiv 5208).tmod 40 + 20) = (N.tdiv 5208).tmod 40 + 20 := i64_id _ (by omega) (by omega)
  have wt : IntKind.i64.wrap ((N.tdiv 208320).tmod 3 * 200) = (N.tdiv 208320).tmod 3 * 200 := i64_id _ (by omega) (by omega)
  have hwb : (((N.tdiv 1736).tmod 3) == 1) = false := by simp [hw]
  have q0 := R_road 1 (limF j) [1] 0 0 20000 0 20000
  have q1 := R_road 1 (limF j) [] 20000 0 50000 0 30000
  have q2 := R_road 3 200 [] 35000 (-8000) 35000 8000 16000
  simp only [rowsI_cons, rowsI_nil, laneC, roadL, List.map_cons, List.map_nil] at q0 q1 q2
  simp at q0 q1 q2
  rw [R_fn F_kerbstonekit_Map rfl]
  simp (config := { maxSteps := 1000000 }) [c_kerbstonekit_Map, hM, h7, hje, hlg, lim_get2, hj4, hj4', w7, w28, w56, w1736, w5208, w208320, wr1, wr2, wb, wt, hwb, hw, q0, q1, q2, newAt, markOne, memBelow, noIds, mapC, mapP, lanesP, zonesP, signalsP, worksP, laneC, roadL, workC, zoneC, partC, signalC]

set_option maxHeartbeats 4000000 in
theorem R_Map6aw (n : Int) (h7 : (n % 16777216).tmod 7 = 6) (h28 : ((n % 16777216).tdiv 28).tmod 2 = 1) (hw : ((n % 16777216).tdiv 1736).tmod 3 = 1) :
    R L Cs f_kerbstonekit_Map [W n] [] = some (.w (.a (mapC (mapP 6 (limF (((n % 16777216).tdiv 7).tmod 4).toNat) (((n % 16777216).tdiv 28).tmod 2) (((n % 16777216).tdiv 28).tmod 31) (((n % 16777216).tdiv 56).tmod 31) (((n % 16777216).tdiv 56).tmod 17) (((n % 16777216).tdiv 28).tmod 5) (((n % 16777216).tdiv 1736).tmod 3) (((n % 16777216).tdiv 5208).tmod 40) (((n % 16777216).tdiv 208320).tmod 3)))), []) := by
  have hM := R_Mod n
  have hN : 0 ≤ n % 16777216 ∧ n % 16777216 < 16777216 := by omega
  generalize n % 16777216 = N at *
  have w7 : IntKind.i64.wrap (N.tdiv 7) = N.tdiv 7 := tdiv_wrap hN (by decide)
  have w28 : IntKind.i64.wrap (N.tdiv 28) = N.tdiv 28 := tdiv_wrap hN (by decide)
  have w56 : IntKind.i64.wrap (N.tdiv 56) = N.tdiv 56 := tdiv_wrap hN (by decide)
  have w1736 : IntKind.i64.wrap (N.tdiv 1736) = N.tdiv 1736 := tdiv_wrap hN (by decide)
  have w5208 : IntKind.i64.wrap (N.tdiv 5208) = N.tdiv 5208 := tdiv_wrap hN (by decide)
  have w208320 : IntKind.i64.wrap (N.tdiv 208320) = N.tdiv 208320 := tdiv_wrap hN (by decide)
  have hj := tmod_lt N 7 4 hN (by decide) (by decide)
  obtain ⟨j, hje⟩ := Int.eq_ofNat_of_zero_le hj.1
  have hj4 : j < 4 := by omega
  have hlg := lim_get j hj4
  have hj4' : (j : Int) < 4 := by omega
  have r2 := tmod_lt N 28 2 hN (by decide) (by decide)
  have v5 := tmod_lt N 28 5 hN (by decide) (by decide)
  have b40 := tmod_lt N 5208 40 hN (by decide) (by decide)
  have t3 := tmod_lt N 208320 3 hN (by decide) (by decide)
  have wb : IntKind.i64.wrap ((N.tdiv 5208).tmod 40 + 20) = (N.tdiv 5208).tmod 40 + 20 := i64_id _ (by omega) (by omega)
  have wt : IntKind.i64.wrap ((N.tdiv 208320).tmod 3 * 200) = (N.tdiv 208320).tmod 3 * 200 := i64_id _ (by omega) (by omega)
  have hwb : (((N.tdiv 1736).tmod 3) == 1) = true := by simp [hw]
  have q0 := R_road 1 (limF j) [1, 2] 0 0 20000 0 20000
  have q1 := R_road 1 1500 [] 20000 0 50000 0 30000
  have q2 := R_road 1 1000 [] 20000 0 44000 10000 26000
  have q3 := R_road 2 700 [] 36000 (-12000) 36000 18000 30000
  simp only [rowsI_cons, rowsI_nil, laneC, roadL, List.map_cons, List.map_nil] at q0 q1 q2 q3
  simp at q0 q1 q2 q3
  have s1 := R_signal ((N.tdiv 56).tmod 31) 1 3
  have s2 := R_signal ((N.tdiv 56).tmod 17) 2 3
  simp only [signalC] at s1 s2
  rw [R_fn F_kerbstonekit_Map rfl]
  simp (config := { maxSteps := 1000000 }) [c_kerbstonekit_Map, hM, h7, hje, hlg, lim_get2, hj4, hj4', w7, w28, w56, w1736, w5208, w208320, h28, wb, wt, hwb, hw, q0, q1, q2, q3, s1, s2, newAt, markOne, memBelow, noIds, mapC, mapP, lanesP, zonesP, signalsP, worksP, laneC, roadL, workC, zoneC, partC, signalC]

set_option maxHeartbeats 4000000 in
theorem R_Map6a (n : Int) (h7 : (n % 16777216).tmod 7 = 6) (h28 : ((n % 16777216).tdiv 28).tmod 2 = 1) (hw : ((n % 16777216).tdiv 1736).tmod 3 ≠ 1) :
    R L Cs f_kerbstonekit_Map [W n] [] = some (.w (.a (mapC (mapP 6 (limF (((n % 16777216).tdiv 7).tmod 4).toNat) (((n % 16777216).tdiv 28).tmod 2) (((n % 16777216).tdiv 28).tmod 31) (((n % 16777216).tdiv 56).tmod 31) (((n % 16777216).tdiv 56).tmod 17) (((n % 16777216).tdiv 28).tmod 5) (((n % 16777216).tdiv 1736).tmod 3) (((n % 16777216).tdiv 5208).tmod 40) (((n % 16777216).tdiv 208320).tmod 3)))), []) := by
  have hM := R_Mod n
  have hN : 0 ≤ n % 16777216 ∧ n % 16777216 < 16777216 := by omega
  generalize n % 16777216 = N at *
  have w7 : IntKind.i64.wrap (N.tdiv 7) = N.tdiv 7 := tdiv_wrap hN (by decide)
  have w28 : IntKind.i64.wrap (N.tdiv 28) = N.tdiv 28 := tdiv_wrap hN (by decide)
  have w56 : IntKind.i64.wrap (N.tdiv 56) = N.tdiv 56 := tdiv_wrap hN (by decide)
  have w1736 : IntKind.i64.wrap (N.tdiv 1736) = N.tdiv 1736 := tdiv_wrap hN (by decide)
  have w5208 : IntKind.i64.wrap (N.tdiv 5208) = N.tdiv 5208 := tdiv_wrap hN (by decide)
  have w208320 : IntKind.i64.wrap (N.tdiv 208320) = N.tdiv 208320 := tdiv_wrap hN (by decide)
  have hj := tmod_lt N 7 4 hN (by decide) (by decide)
  obtain ⟨j, hje⟩ := Int.eq_ofNat_of_zero_le hj.1
  have hj4 : j < 4 := by omega
  have hlg := lim_get j hj4
  have hj4' : (j : Int) < 4 := by omega
  have r2 := tmod_lt N 28 2 hN (by decide) (by decide)
  have v5 := tmod_lt N 28 5 hN (by decide) (by decide)
  have b40 := tmod_lt N 5208 40 hN (by decide) (by decide)
  have t3 := tmod_lt N 208320 3 hN (by decide) (by decide)
  have wb : IntKind.i64.wrap ((N.tdiv 5208).tmod 40 + 20) = (N.tdiv 5208).tmod 40 + 20 := i64_id _ (by omega) (by omega)
  have wt : IntKind.i64.wrap ((N.tdiv 208320).tmod 3 * 200) = (N.tdiv 208320).tmod 3 * 200 := i64_id _ (by omega) (by omega)
  have hwb : (((N.tdiv 1736).tmod 3) == 1) = false := by simp [hw]
  have q0 := R_road 1 (limF j) [1, 2] 0 0 20000 0 20000
  have q1 := R_road 1 1500 [] 20000 0 50000 0 30000
  have q2 := R_road 1 1000 [] 20000 0 44000 10000 26000
  have q3 := R_road 2 700 [] 36000 (-12000) 36000 18000 30000
  simp only [rowsI_cons, rowsI_nil, laneC, roadL, List.map_cons, List.map_nil] at q0 q1 q2 q3
  simp at q0 q1 q2 q3
  have s1 := R_signal ((N.tdiv 56).tmod 31) 1 3
  have s2 := R_signal ((N.tdiv 56).tmod 17) 2 3
  simp only [signalC] at s1 s2
  rw [R_fn F_kerbstonekit_Map rfl]
  simp (config := { maxSteps := 1000000 }) [c_kerbstonekit_Map, hM, h7, hje, hlg, lim_get2, hj4, hj4', w7, w28, w56, w1736, w5208, w208320, h28, wb, wt, hwb, hw, q0, q1, q2, q3, s1, s2, newAt, markOne, memBelow, noIds, mapC, mapP, lanesP, zonesP, signalsP, worksP, laneC, roadL, workC, zoneC, partC, signalC]

set_option maxHeartbeats 4000000 in
theorem R_Map6bw (n : Int) (h7 : (n % 16777216).tmod 7 = 6) (h28 : ((n % 16777216).tdiv 28).tmod 2 = 0) (hw : ((n % 16777216).tdiv 1736).tmod 3 = 1) :
    R L Cs f_kerbstonekit_Map [W n] [] = some (.w (.a (mapC (mapP 6 (limF (((n % 16777216).tdiv 7).tmod 4).toNat) (((n % 16777216).tdiv 28).tmod 2) (((n % 16777216).tdiv 28).tmod 31) (((n % 16777216).tdiv 56).tmod 31) (((n % 16777216).tdiv 56).tmod 17) (((n % 16777216).tdiv 28).tmod 5) (((n % 16777216).tdiv 1736).tmod 3) (((n % 16777216).tdiv 5208).tmod 40) (((n % 16777216).tdiv 208320).tmod 3)))), []) := by
  have hM := R_Mod n
  have hN : 0 ≤ n % 16777216 ∧ n % 16777216 < 16777216 := by omega
  generalize n % 16777216 = N at *
  have w7 : IntKind.i64.wrap (N.tdiv 7) = N.tdiv 7 := tdiv_wrap hN (by decide)
  have w28 : IntKind.i64.wrap (N.tdiv 28) = N.tdiv 28 := tdiv_wrap hN (by decide)
  have w56 : IntKind.i64.wrap (N.tdiv 56) = N.tdiv 56 := tdiv_wrap hN (by decide)
  have w1736 : IntKind.i64.wrap (N.tdiv 1736) = N.tdiv 1736 := tdiv_wrap hN (by decide)
  have w5208 : IntKind.i64.wrap (N.tdiv 5208) = N.tdiv 5208 := tdiv_wrap hN (by decide)
  have w208320 : IntKind.i64.wrap (N.tdiv 208320) = N.tdiv 208320 := tdiv_wrap hN (by decide)
  have hj := tmod_lt N 7 4 hN (by decide) (by decide)
  obtain ⟨j, hje⟩ := Int.eq_ofNat_of_zero_le hj.1
  have hj4 : j < 4 := by omega
  have hlg := lim_get j hj4
  have hj4' : (j : Int) < 4 := by omega
  have r2 := tmod_lt N 28 2 hN (by decide) (by decide)
  have v5 := tmod_lt N 28 5 hN (by decide) (by decide)
  have b40 := tmod_lt N 5208 40 hN (by decide) (by decide)
  have t3 := tmod_lt N 208320 3 hN (by decide) (by decide)
  have wb : IntKind.i64.wrap ((N.tdiv 5208).tmod 40 + 20) = (N.tdiv 5208).tmod 40 + 20 := i64_id _ (by omega) (by omega)
  have wt : IntKind.i64.wrap ((N.tdiv 208320).tmod 3 * 200) = (N.tdiv 208320).tmod 3 * 200 := i64_id _ (by omega) (by omega)
  have hwb : (((N.tdiv 1736).tmod 3) == 1) = true := by simp [hw]
  have q0 := R_road 1 (limF j) [1, 2] 0 0 20000 0 20000
  have q1 := R_road 1 1500 [] 20000 0 50000 0 30000
  have q2 := R_road 1 1000 [] 20000 0 44000 10000 26000
  have q3 := R_road 2 700 [] 36000 (-12000) 36000 18000 30000
  simp only [rowsI_cons, rowsI_nil, laneC, roadL, List.map_cons, List.map_nil] at q0 q1 q2 q3
  simp at q0 q1 q2 q3
  rw [R_fn F_kerbstonekit_Map rfl]
  simp (config := { maxSteps := 1000000 }) [c_kerbstonekit_Map, hM, h7, hje, hlg, lim_get2, hj4, hj4', w7, w28, w56, w1736, w5208, w208320, h28, wb, wt, hwb, hw, q0, q1, q2, q3, newAt, markOne, memBelow, noIds, mapC, mapP, lanesP, zonesP, signalsP, worksP, laneC, roadL, workC, zoneC, partC, signalC]

set_option maxHeartbeats 4000000 in
theorem R_Map6b (n : Int) (h7 : (n % 16777216).tmod 7 = 6) (h28 : ((n % 16777216).tdiv 28).tmod 2 = 0) (hw : ((n % 16777216).tdiv 1736).tmod 3 ≠ 1) :
    R L Cs f_kerbstonekit_Map [W n] [] = some (.w (.a (mapC (mapP 6 (limF (((n % 16777216).tdiv 7).tmod 4).toNat) (((n % 16777216).tdiv 28).tmod 2) (((n % 16777216).tdiv 28).tmod 31) (((n % 16777216).tdiv 56).tmod 31) (((n % 16777216).tdiv 56).tmod 17) (((n % 16777216).tdiv 28).tmod 5) (((n % 16777216).tdiv 1736).tmod 3) (((n % 16777216).tdiv 5208).tmod 40) (((n % 16777216).tdiv 208320).tmod 3)))), []) := by
  have hM := R_Mod n
  have hN : 0 ≤ n % 16777216 ∧ n % 16777216 < 16777216 := by omega
  generalize n % 16777216 = N at *
  have w7 : IntKind.i64.wrap (N.tdiv 7) = N.tdiv 7 := tdiv_wrap hN (by decide)
  have w28 : IntKind.i64.wrap (N.tdiv 28) = N.tdiv 28 := tdiv_wrap hN (by decide)
  have w56 : IntKind.i64.wrap (N.tdiv 56) = N.tdiv 56 := tdiv_wrap hN (by decide)
  have w1736 : IntKind.i64.wrap (N.tdiv 1736) = N.tdiv 1736 := tdiv_wrap hN (by decide)
  have w5208 : IntKind.i64.wrap (N.tdiv 5208) = N.tdiv 5208 := tdiv_wrap hN (by decide)
  have w208320 : IntKind.i64.wrap (N.tdiv 208320) = N.tdiv 208320 := tdiv_wrap hN (by decide)
  have hj := tmod_lt N 7 4 hN (by decide) (by decide)
  obtain ⟨j, hje⟩ := Int.eq_ofNat_of_zero_le hj.1
  have hj4 : j < 4 := by omega
  have hlg := lim_get j hj4
  have hj4' : (j : Int) < 4 := by omega
  have r2 := tmod_lt N 28 2 hN (by decide) (by decide)
  have v5 := tmod_lt N 28 5 hN (by decide) (by decide)
  have b40 := tmod_lt N 5208 40 hN (by decide) (by decide)
  have t3 := tmod_lt N 208320 3 hN (by decide) (by decide)
  have wb : IntKind.i64.wrap ((N.tdiv 5208).tmod 40 + 20) = (N.tdiv 5208).tmod 40 + 20 := i64_id _ (by omega) (by omega)
  have wt : IntKind.i64.wrap ((N.tdiv 208320).tmod 3 * 200) = (N.tdiv 208320).tmod 3 * 200 := i64_id _ (by omega) (by omega)
  have hwb : (((N.tdiv 1736).tmod 3) == 1) = false := by simp [hw]
  have q0 := R_road 1 (limF j) [1, 2] 0 0 20000 0 20000
  have q1 := R_road 1 1500 [] 20000 0 50000 0 30000
  have q2 := R_road 1 1000 [] 20000 0 44000 10000 26000
  have q3 := R_road 2 700 [] 36000 (-12000) 36000 18000 30000
  simp only [rowsI_cons, rowsI_nil, laneC, roadL, List.map_cons, List.map_nil] at q0 q1 q2 q3
  simp at q0 q1 q2 q3
  rw [R_fn F_kerbstonekit_Map rfl]
  simp (config := { maxSteps := 1000000 }) [c_kerbstonekit_Map, hM, h7, hje, hlg, lim_get2, hj4, hj4', w7, w28, w56, w1736, w5208, w208320, h28, wb, wt, hwb, hw, q0, q1, q2, q3, newAt, markOne, memBelow, noIds, mapC, mapP, lanesP, zonesP, signalsP, worksP, laneC, roadL, workC, zoneC, partC, signalC]
end Go.TrRun

/- Check of a map, part by part. -/
set_option linter.unusedVariables false
set_option linter.unusedSimpArgs false
set_option maxRecDepth 10000
namespace Go.TrRun
open Go Go.Eng

theorem R_within_roads (n lo hi : Int) : R L Cs f_roads_within [W n, W lo, W hi] [] = some (.w (Bo (decide (lo ≤ n) && decide (n ≤ hi))), []) := by
  rw [R_fn F_roads_within rfl]
  by_cases h : lo ≤ n
  · simp [c_roads_within, h]
  · simp [c_roads_within, h]
theorem R_within_ref03 (n lo hi : Int) : R L Cs f_kerbstoneref03_within [W n, W lo, W hi] [] = some (.w (Bo (decide (lo ≤ n) && decide (n ≤ hi))), []) := by
  rw [R_fn F_kerbstoneref03_within rfl]
  by_cases h : lo ≤ n
  · simp [c_kerbstoneref03_within, h]
  · simp [c_kerbstoneref03_within, h]
structure Sized (m : GMap) : Prop where
  v1 : 0 ≤ m.version
  v2 : m.version ≤ 1099511627776
  l1 : 0 < m.lanes.length
  l2 : m.lanes.length ≤ 12
  z : m.zones.length ≤ 12
  s : m.signals.length ≤ 4
  w : m.works.length ≤ 8
theorem R_numbers {m : GMap} (h : Sized m) : R L Cs f_roads_check_numbers [.a (mapC m)] [] = some (.w (W 0), []) := by
  have hW := R_within_roads m.version 0 1099511627776
  have a1 := h.v1
  have a2 := h.v2
  have l0 : ((m.lanes.length : Int) == 0) = false := by have := h.l1; exact beq_false_of_ne (by omega)
  have l1 : ¬ (12 : Int) < (m.lanes.length : Int) := by have := h.l2; omega
  have l2 : ¬ (12 : Int) < (m.zones.length : Int) := by have := h.z; omega
  have l3 : ¬ (4 : Int) < (m.signals.length : Int) := by have := h.s; omega
  have l4 : ¬ (8 : Int) < (m.works.length : Int) := by have := h.w; omega
  have l5 : ¬ 12 < m.lanes.length := by have := h.l2; omega
  have l6 : ¬ 12 < m.zones.length := by have := h.z; omega
  have l7 : ¬ 4 < m.signals.length := by have := h.s; omega
  have l8 : ¬ 8 < m.works.length := by have := h.w; omega
  have l9 : ¬ m.lanes = [] := by have := h.l1; intro e; rw [e] at this; simp at this
  rw [R_fn F_roads_check_numbers rfl]
  simp [c_roads_check_numbers, mapC, hW, a1, a2, l0, l1, l2, l3, l4, l5, l6, l7, l8, l9]
theorem R_Check_of {m : GMap} (h1 : R L Cs f_roads_check_numbers [.a (mapC m)] [] = some (.w (W 0), [])) (h2 : R L Cs f_roads_check_lanes [.a (mapC m)] [] = some (.w (W 0), []))
    (h3 : R L Cs f_roads_check_joints [.a (mapC m)] [] = some (.w (W 0), [])) (h4 : R L Cs f_roads_check_signals [.a (mapC m)] [] = some (.w (W 0), []))
    (h5 : R L Cs f_roads_check_zones [.a (mapC m)] [] = some (.w (W 0), [])) (h6 : R L Cs f_roads_check_works [.a (mapC m)] [] = some (.w (W 0), [])) : R L Cs f_roads_Check [.a (mapC m)] [] = some (.w (W 0), []) := by
  simp only [mapC] at h1 h2 h3 h4 h5 h6
  have e1 : IntKind.i64.wrap 1 = 1 := rfl
  have e2 : IntKind.i64.wrap 2 = 2 := rfl
  have e3 : IntKind.i64.wrap 3 = 3 := rfl
  have e4 : IntKind.i64.wrap 4 = 4 := rfl
  have e5 : IntKind.i64.wrap 5 = 5 := rfl
  have e6 : IntKind.i64.wrap 6 = 6 := rfl
  have hl : Y L Cs c_roads_Check_l1 (some [7, 6, 1, 8]) 2 [(7, .w (W 6)), (6, .w (.c (.slice 1 6 1 0 6 none))), (1, .w (Pt 0)), (8, .w (W 0))] [bx 5 (mapC m), some { box := false, esz := 1, rows := [[.fn f_roads_check_numbers [] []], [.fn f_roads_check_lanes [] []], [.fn f_roads_check_joints [] []], [.fn f_roads_check_signals [] []], [.fn f_roads_check_zones [] []], [.fn f_roads_check_works [] []]], gen := 6, fz := false, ver := 6 }] =
      some (.exit 0, [(9, .w (Bo false)), (1, .w (Pt 0)), (6, .w (.c (.slice 1 6 1 0 6 none))), (7, .w (W 6)), (8, .w (W 6))], [bx 5 (mapC m), some { box := false, esz := 1, rows := [[.fn f_roads_check_numbers [] []], [.fn f_roads_check_lanes [] []], [.fn f_roads_check_joints [] []], [.fn f_roads_check_signals [] []], [.fn f_roads_check_zones [] []], [.fn f_roads_check_works [] []]], gen := 6, fz := false, ver := 6 }]) := by
    rw [Y_step c_roads_Check_l1.eq_1]
    simp [mapC, h1, e1]
    rw [Y_step c_roads_Check_l1.eq_1]
    simp [h2, e2]
    rw [Y_step c_roads_Check_l1.eq_1]
    simp [h3, e3]
    rw [Y_step c_roads_Check_l1.eq_1]
    simp [h4, e4]
    rw [Y_step c_roads_Check_l1.eq_1]
    simp [h5, e5]
    rw [Y_step c_roads_Check_l1.eq_1]
    simp [h6, e6]
    rw [Y_step c_roads_Check_l1.eq_1]
    simp
  simp only [mapC] at hl
  rw [R_fn F_roads_Check rfl]
  simp [c_roads_Check, mapC, hl, newAt, noIds]
theorem R_refCheck_of {m : GMap} (h : Sized m) (h2 : ∀ i : Nat, i < m.lanes.length → R L Cs f_kerbstoneref03_checkLane [.a (mapC m), W i] [] = some (.w (W 0), [])) (h3 : R L Cs f_kerbstoneref03_checkNext [.a (mapC m)] [] = some (.w (W 0), []))
    (hsp : ∀ s ∈ m.signals, ∃ o ps, s = [I o, .rslice ps]) (hzp : ∀ s ∈ m.zones, ∃ ps o, s = [.rslice ps, I o])
    (h4 : ∀ s ∈ m.signals, R L Cs f_kerbstoneref03_checkSignal [.a (mapC m), .a s] [] = some (.w (W 0), []))
    (h5 : ∀ z ∈ m.zones, R L Cs f_kerbstoneref03_checkZone [.a (mapC m), .a z] [] = some (.w (W 0), []))
    (h6 : ∀ w ∈ m.works, R L Cs f_kerbstoneref03_checkWork [.a (mapC m), .a (workC w)] [] = some (.w (W 0), [])) : R L Cs f_kerbstoneref03_Check [.a (mapC m)] [] = some (.w (W 0), []) := by
  have hW := R_within_ref03 m.version 0 1099511627776
  have a1 := h.v1
  have a2 := h.v2
  have b1 := h.l1
  have b2 := h.l2
  have b3 := h.z
  have b4 := h.s
  have b5 := h.w
  have l0 : ((m.lanes.length : Int) == 0) = false := beq_false_of_ne (by omega)
  have l1 : ¬ (12 : Int) < (m.lanes.length : Int) := by omega
  have l2 : ¬ (12 : Int) < (m.zones.length : Int) := by omega
  have l3 : ¬ (4 : Int) < (m.signals.length : Int) := by omega
  have l4 : ¬ (8 : Int) < (m.works.length : Int) := by omega
  have l9 : ¬ m.lanes = [] := by intro e; rw [e] at b1; simp at b1
  have k1 : Y L Cs c_kerbstoneref03_Check_l1 (some [1, 3]) 1 [(1, .w (Pt 0)), (3, .w (W (0 : Nat)))] [bx 5 (mapC m)] = some (.exit 0, [(43, .w (Bo false)), (1, .w (Pt 0)), (3, .w (W m.lanes.length))], [bx 5 (mapC m)]) := by
    have q := Y_any (L := L) (Cs := Cs) (b := c_kerbstoneref03_Check_l1) (live := some [1, 3]) (n0 := 1) m.lanes (fun i => [(1, .w (Pt 0)), (3, .w (W i))]) [bx 5 (mapC m)] (fun _ => false) (.ret, [], []) (.exit 0, [(43, .w (Bo false)), (1, .w (Pt 0)), (3, .w (W m.lanes.length))], [bx 5 (mapC m)]) ?_ ?_ ?_
    · simpa using q
    · intro i hi _
      have hw := wrap_succ (i := i) (by omega)
      have hc := h2 i hi
      simp only [mapC] at hc
      rw [Y_step c_kerbstoneref03_Check_l1.eq_1]
      simp [mapC, hi, hw, hc]
    · intro i hi hp; cases hp
    · rw [Y_step c_kerbstoneref03_Check_l1.eq_1]
      simp [mapC]
  have k2 : Y L Cs c_kerbstoneref03_Check_l2 (some [5, 6, 1]) 1 [(5, .w (W 0)), (6, .w (W (0 : Nat))), (1, .w (Pt 0))] [bx 5 (mapC m)] = some (.exit 2, [(62, .w (Bo false)), (5, .w (W 0)), (6, .w (W m.signals.length)), (1, .w (Pt 0))], [bx 5 (mapC m)]) := by
    have q := Y_any (L := L) (Cs := Cs) (b := c_kerbstoneref03_Check_l2) (live := some [5, 6, 1]) (n0 := 1) m.signals (fun i => [(5, .w (W 0)), (6, .w (W i)), (1, .w (Pt 0))]) [bx 5 (mapC m)] (fun _ => false) (.ret, [], []) (.exit 2, [(62, .w (Bo false)), (5, .w (W 0)), (6, .w (W m.signals.length)), (1, .w (Pt 0))], [bx 5 (mapC m)]) ?_ ?_ ?_
    · simpa using q
    · intro i hi _
      have hw := wrap_succ (i := i) (by omega)
      have hc := h4 m.signals[i] (List.getElem_mem hi)
      obtain ⟨a, b, hxy⟩ := hsp _ (List.getElem_mem hi)
      rw [hxy] at hc
      simp only [mapC] at hc
      rw [Y_step c_kerbstoneref03_Check_l2.eq_1]
      simp [mapC, hi, hw, hc, hxy]
    · intro i hi hp; cases hp
    · rw [Y_step c_kerbstoneref03_Check_l2.eq_1]
      simp [mapC]
  have k3 : Y L Cs c_kerbstoneref03_Check_l3 (some [5, 7, 1]) 1 [(5, .w (W 0)), (7, .w (W (0 : Nat))), (1, .w (Pt 0))] [bx 5 (mapC m)] = some (.exit 4, [(80, .w (Bo false)), (5, .w (W 0)), (7, .w (W m.zones.length)), (1, .w (Pt 0))], [bx 5 (mapC m)]) := by
    have q := Y_any (L := L) (Cs := Cs) (b := c_kerbstoneref03_Check_l3) (live := some [5, 7, 1]) (n0 := 1) m.zones (fun i => [(5, .w (W 0)), (7, .w (W i)), (1, .w (Pt 0))]) [bx 5 (mapC m)] (fun _ => false) (.ret, [], []) (.exit 4, [(80, .w (Bo false)), (5, .w (W 0)), (7, .w (W m.zones.length)), (1, .w (Pt 0))], [bx 5 (mapC m)]) ?_ ?_ ?_
    · simpa using q
    · intro i hi _
      have hw := wrap_succ (i := i) (by omega)
      have hc := h5 m.zones[i] (List.getElem_mem hi)
      obtain ⟨a, b, hxy⟩ := hzp _ (List.getElem_mem hi)
      rw [hxy] at hc
      simp only [mapC] at hc
      rw [Y_step c_kerbstoneref03_Check_l3.eq_1]
      simp [mapC, hi, hw, hc, hxy]
    · intro i hi hp; cases hp
    · rw [Y_step c_kerbstoneref03_Check_l3.eq_1]
      simp [mapC]
  have k4 : Y L Cs c_kerbstoneref03_Check_l4 (some [5, 8, 1]) 1 [(5, .w (W 0)), (8, .w (W (0 : Nat))), (1, .w (Pt 0))] [bx 5 (mapC m)] = some (.exit 6, [(98, .w (Bo false)), (5, .w (W 0)), (8, .w (W m.works.length)), (1, .w (Pt 0))], [bx 5 (mapC m)]) := by
    have q := Y_any (L := L) (Cs := Cs) (b := c_kerbstoneref03_Check_l4) (live := some [5, 8, 1]) (n0 := 1) m.works (fun i => [(5, .w (W 0)), (8, .w (W i)), (1, .w (Pt 0))]) [bx 5 (mapC m)] (fun _ => false) (.ret, [], []) (.exit 6, [(98, .w (Bo false)), (5, .w (W 0)), (8, .w (W m.works.length)), (1, .w (Pt 0))], [bx 5 (mapC m)]) ?_ ?_ ?_
    · simpa using q
    · intro i hi _
      have hw := wrap_succ (i := i) (by omega)
      have hc := h6 m.works[i] (List.getElem_mem hi)
      simp only [mapC, workC] at hc
      rw [Y_step c_kerbstoneref03_Check_l4.eq_1]
      simp [mapC, hi, hw, hc, workC]
    · intro i hi hp; cases hp
    · rw [Y_step c_kerbstoneref03_Check_l4.eq_1]
      simp [mapC]
  simp only [mapC, Int.natCast_zero] at k1 k2 k3 k4 h3
  rw [R_fn F_kerbstoneref03_Check rfl]
  simp [c_kerbstoneref03_Check, mapC, hW, a1, a2, l0, l1, l2, l3, l4, l9, k1, k2, k3, k4, h3]
end Go.TrRun

/- The maps that are made of numbers are valid: signals and works. -/
set_option linter.unusedVariables false
set_option linter.unusedSimpArgs false
set_option maxRecDepth 10000
namespace Go.TrRun
open Go Go.Eng

def phasesC (a b : Int) : List (List Cl) := [[I 12, .rslice [[I a]]], [I 5, .rslice []], [I 9, .rslice [[I b]]], [I 4, .rslice []]]
abbrev mapR5 (v : Int) (k : Nat) (lim : Int) (Z S Wk : List (List Cl)) : List Cl := [I v, .rslice ((lanesP k lim).map laneC), .rslice Z, .rslice S, .rslice Wk]
theorem cf1 : runE L Cs 400 f_slices_ContainsFunc_Phase [.c (.rslice (phasesC 0 1)), .c (.fn f_roads_check_signals_1 [] [])] [] = some (.w (Bo false), []) ∧ runE L Cs 400 f_slices_ContainsFunc_Phase [.c (.rslice (phasesC 1 3)), .c (.fn f_roads_check_signals_1 [] [])] [] = some (.w (Bo false), []) ∧ runE L Cs 400 f_slices_ContainsFunc_Phase [.c (.rslice (phasesC 2 3)), .c (.fn f_roads_check_signals_1 [] [])] [] = some (.w (Bo false), []) := ⟨by kernel_rfl, by kernel_rfl, by kernel_rfl⟩
theorem cf2a (v lim : Int) (Z S Wk : List (List Cl)) : runE L Cs 400 f_slices_ContainsFunc_Phase [.c (.rslice (phasesC 0 1)), .c (.fn f_roads_check_signals_2 [] [.ptr 0 0 0 0])] [bx 5 (mapR5 v 2 lim Z S Wk)] = some (.w (Bo false), [bx 5 (mapR5 v 2 lim Z S Wk)]) := by kernel_rfl
theorem cf2b (v lim : Int) (Z S Wk : List (List Cl)) : runE L Cs 400 f_slices_ContainsFunc_Phase [.c (.rslice (phasesC 1 3)), .c (.fn f_roads_check_signals_2 [] [.ptr 0 0 0 0])] [bx 5 (mapR5 v 6 lim Z S Wk)] = some (.w (Bo false), [bx 5 (mapR5 v 6 lim Z S Wk)]) := by kernel_rfl
theorem cf2c (v lim : Int) (Z S Wk : List (List Cl)) : runE L Cs 400 f_slices_ContainsFunc_Phase [.c (.rslice (phasesC 2 3)), .c (.fn f_roads_check_signals_2 [] [.ptr 0 0 0 0])] [bx 5 (mapR5 v 6 lim Z S Wk)] = some (.w (Bo false), [bx 5 (mapR5 v 6 lim Z S Wk)]) := by kernel_rfl

theorem R_signals {m : GMap} (hn : m.signals.length ≤ 10) (h : ∀ s ∈ m.signals, ∃ o a b, s = signalC o a b ∧ 0 ≤ o ∧ o ≤ 1099511627776 ∧
      R L Cs f_slices_ContainsFunc_Phase [.c (.rslice (phasesC a b)), .c (.fn f_roads_check_signals_1 [] [])] [] = some (.w (Bo false), []) ∧
      R L Cs f_slices_ContainsFunc_Phase [.c (.rslice (phasesC a b)), .c (.fn f_roads_check_signals_2 [] [.ptr 0 0 0 0])] [bx 5 (mapC m)] = some (.w (Bo false), [bx 5 (mapC m)])) :
    R L Cs f_roads_check_signals [.a (mapC m)] [] = some (.w (W 0), []) := by
  have q := Y_any (L := L) (Cs := Cs) (b := c_roads_check_signals_l1) (live := some [9, 8, 1, 10]) (n0 := 1) m.signals (fun i => [(9, .w (W m.signals.length)), (8, .w (.c (.rslice m.signals))), (1, .w (Pt 0)), (10, .w (W i))]) [bx 5 (mapC m)] (fun _ => false) (.ret, [], []) (.exit 0, [(11, .w (Bo false)), (1, .w (Pt 0)), (8, .w (.c (.rslice m.signals))), (9, .w (W m.signals.length)), (10, .w (W m.signals.length))], [bx 5 (mapC m)]) ?_ ?_ ?_
  · simp only [mapC, Int.natCast_zero] at q
    simp at q
    rw [R_fn F_roads_check_signals rfl]
    simp [c_roads_check_signals, mapC, q]
  · intro i hi _
    have hw := wrap_succ (i := i) (by omega)
    obtain ⟨o, a, b, hs, o1, o2, c1, c2⟩ := h _ (List.getElem_mem hi)
    have hW := R_within_roads o 0 1099511627776
    simp only [mapC, phasesC] at c1 c2
    rw [Y_step c_roads_check_signals_l1.eq_1]
    simp [mapC, hi, hw, hs, signalC, hW, o1, o2, c1, c2]
  · intro i hi hp; cases hp
  · rw [Y_step c_roads_check_signals_l1.eq_1]
    simp [mapC]
theorem R_long0 {m : GMap} {n : Nat} (hn : n < m.lanes.length) (hlen : R L Cs f_curve_Length [.a [ptsC m.lanes[n]]] [] = some (.w (W m.lanes[n].len), [])) : R L Cs f_roads_long [.a (mapC m), W n] [] = some (.w (W m.lanes[n].len), []) := by
  simp only [ptsC] at hlen
  rw [R_fn F_roads_long rfl]
  simp [c_roads_long, mapC, hn, laneC, hlen]
theorem R_works {m : GMap} (h0 : 0 < m.lanes.length) (hlen : R L Cs f_curve_Length [.a [ptsC m.lanes[0]]] [] = some (.w (W m.lanes[0].len), [])) (hk : m.lanes[0].kind = 1) (hl : 15000 ≤ m.lanes[0].len) (hl2 : m.lanes[0].len ≤ 1000000) (b t : Int) (hb : 0 ≤ b ∧ b < 40) (ht : 0 ≤ t ∧ t < 3)
    (hw : m.works = [] ∨ m.works = [⟨0, 10000, 15000, b, b + 20, t * 200⟩]) : R L Cs f_roads_check_works [.a (mapC m)] [] = some (.w (W 0), []) := by
  have q := Y_any (L := L) (Cs := Cs) (b := c_roads_check_works_l1) (live := some [12, 11, 10, 1]) (n0 := 1) m.works (fun i => [(12, .w (W i)), (11, .w (W m.works.length)), (10, .w (.c (.rslice (m.works.map workC)))), (1, .w (Pt 0))]) [bx 5 (mapC m)] (fun _ => false) (.ret, [], []) (.exit 0, [(13, .w (Bo false)), (12, .w (W m.works.length)), (11, .w (W m.works.length)), (10, .w (.c (.rslice (m.works.map workC)))), (1, .w (Pt 0))], [bx 5 (mapC m)]) ?_ ?_ ?_
  · simp only [mapC, Int.natCast_zero] at q
    simp at q
    rw [R_fn F_roads_check_works rfl]
    simp [c_roads_check_works, mapC, q]
  · intro i hi _
    have hwi : m.works[i] = ⟨0, 10000, 15000, b, b + 20, t * 200⟩ := by
      rcases hw with e | e
      · rw [e] at hi; simp at hi
      · have hi0 : i = 0 := by rw [e] at hi; simp at hi; exact hi
        subst hi0
        simp [e]
    have hwl : m.works.length ≤ 1 := by rcases hw with e | e <;> simp [e]
    have hww := wrap_succ (i := i) (by omega)
    have hB := R_Bounds (k := m.lanes[0].kind) (.inl hk)
    have hL := R_long0 h0 hlen
    have hW := R_within_roads (t * 200) 0 2000
    rw [hk] at hB
    simp only [mapC, Int.natCast_zero, topV, topA, topB] at hL hB
    generalize hln : m.lanes[0] = ln at *
    have x1 : ¬ b < 0 := by omega
    have x2 : ¬ b + 20 ≤ b := by omega
    have x3 : ¬ (1099511627776 : Int) < b + 20 := by omega
    have x4 : ¬ ln.len < 15000 := by omega
    have x5 : (0 : Int) ≤ t * 200 := by omega
    have x6 : t * 200 ≤ 2000 := by omega
    have x7 : ¬ (m.lanes.length : Int) ≤ 0 := by omega
    have x8 : ¬ m.lanes = [] := by intro e; rw [e] at h0; simp at h0
    have x9 : (0 : Int) < (m.lanes.length : Int) := by omega
    rw [Y_step c_roads_check_works_l1.eq_1]
    simp [mapC, hi, hww, hwi, workC, h0, hln, laneC, hk, hB, hL, hW, x1, x2, x3, x4, x5, x6, x7, x8, x9]
  · intro i hi hp; cases hp
  · rw [Y_step c_roads_check_works_l1.eq_1]
    simp [mapC]
theorem R_rlength0 {m : GMap} {n : Nat} (hn : n < m.lanes.length) (hlen : R L Cs f_kerbstoneref01_Length [.a [ptsC m.lanes[n]]] [] = some (.w (W m.lanes[n].len), [])) : R L Cs f_kerbstoneref01_Length [.a [.rslice (m.lanes[n].pts.map fun p => [I p.1, I p.2])]] [] = some (.w (W m.lanes[n].len), []) := hlen
theorem R_refworks {m : GMap} (h0 : 0 < m.lanes.length) (hlen : R L Cs f_kerbstoneref01_Length [.a [ptsC m.lanes[0]]] [] = some (.w (W m.lanes[0].len), [])) (hk : m.lanes[0].kind = 1) (hl : 15000 ≤ m.lanes[0].len) (b t : Int) (hb : 0 ≤ b ∧ b < 40) (ht : 0 ≤ t ∧ t < 3) :
    R L Cs f_kerbstoneref03_checkWork [.a (mapC m), .a (workC ⟨0, 10000, 15000, b, b + 20, t * 200⟩)] [] = some (.w (W 0), []) := by
  have hB := R_refBounds (k := m.lanes[0].kind) (.inl hk)
  have hW := R_within_ref03 (t * 200) 0 2000
  rw [hk] at hB
  simp only [ptsC, topV, topA, topB] at hlen hB
  generalize hln : m.lanes[0] = ln at *
  have x1 : ¬ b < 0 := by omega
  have x2 : ¬ b + 20 ≤ b := by omega
  have x3 : ¬ (1099511627776 : Int) < b + 20 := by omega
  have x4 : ¬ ln.len < 15000 := by omega
  have x5 : (0 : Int) ≤ t * 200 := by omega
  have x6 : t * 200 ≤ 2000 := by omega
  have x7 : ¬ (m.lanes.length : Int) ≤ 0 := by omega
  have x8 : ¬ m.lanes = [] := by intro e; rw [e] at h0; simp at h0
  have x9 : (0 : Int) < (m.lanes.length : Int) := by omega
  rw [R_fn F_kerbstoneref03_checkWork rfl]
  simp [c_kerbstoneref03_checkWork, mapC, workC, h0, hln, laneC, hk, hB, hlen, hW, x1, x2, x3, x4, x5, x6, x7, x8, x9]
end Go.TrRun

