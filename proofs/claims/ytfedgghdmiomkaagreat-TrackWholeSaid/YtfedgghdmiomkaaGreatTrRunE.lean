/- Where the lanes of a route begin. -/
import Derived.Test.YtfedgghdmiomkaaGreatTrRunB
import Derived.Test.YtfedgghdmiomkaaGreatTrRunD
import Derived.Test.YtfedgghdmiomkaaGreatTrRunA
set_option linter.unusedVariables false
set_option linter.unusedSimpArgs false
set_option linter.unusedSectionVars false
/- Where the lanes of a route begin. -/
set_option linter.unusedVariables false
set_option linter.unusedSimpArgs false
set_option maxRecDepth 10000
namespace Go.TrRun
open Go Go.Eng

/-- A route's numbers are those of lanes. -/
def OnMap (m : GMap) (r : List Int) : Prop := ∀ x ∈ r, 0 ≤ x ∧ x < m.lanes.length
def startsF (m : GMap) : Int → List Int → List Int
  | _, [] => []
  | a, x :: r => a :: startsF m (a + lenF m x) r
def endF (m : GMap) : Int → List Int → Int
  | a, [] => a
  | a, x :: r => endF m (a + lenF m x) r
theorem lenF_le {m : GMap} (h : Good m) {x : Int} (hx : 0 ≤ x ∧ x < m.lanes.length) : 1000 ≤ lenF m x ∧ lenF m x ≤ 1000000 := by
  obtain ⟨n, rfl⟩ := Int.eq_ofNat_of_zero_le hx.1
  have hn : n < m.lanes.length := by omega
  have := h.len1 _ (List.getElem_mem hn)
  simpa [lenF, hn] using this
theorem R_longF {m : GMap} (h : Good m) {x : Int} (hx : 0 ≤ x ∧ x < m.lanes.length) : R L Cs f_roads_long [.a (mapC m), W x] [] = some (.w (W (lenF m x)), []) := by
  obtain ⟨n, rfl⟩ := Int.eq_ofNat_of_zero_le hx.1
  have hn : n < m.lanes.length := by omega
  have e : lenF m n = m.lanes[n].len := by simp [lenF, hn]
  rw [e]; exact R_long h hn
theorem R_rlengthF {m : GMap} (h : Good m) {x : Int} (hx : 0 ≤ x ∧ x < m.lanes.length) : R L Cs f_kerbstoneref03_length [.a (mapC m), W x] [] = some (.w (W (lenF m x)), []) := by
  obtain ⟨n, rfl⟩ := Int.eq_ofNat_of_zero_le hx.1
  have hn : n < m.lanes.length := by omega
  have e : lenF m n = m.lanes[n].len := by simp [lenF, hn]
  rw [e]; exact R_rlength h hn

abbrev zeroW : List Cl := [I 0, .nilslice, .nilslice, .nilslice, .nilslice, .nilslice, .nilslice, I 0]
abbrev wayR (m : GMap) (l : List Int) (S : Cl) (n : Int) : List Cl := [I m.version, .rslice (m.lanes.map laneC), .rslice m.zones, .rslice m.signals, .rslice (m.works.map workC), .rslice (rowsI l), S, I n]
set_option maxHeartbeats 1000000 in
theorem follow_loop {m : GMap} (h : Good m) (l : List Int) (hl : l.length ≤ 1000) (hon : OnMap m l) (j : Nat) : ∀ (r : List Int) (i : Nat) (out : List Int) (v : Nat) (a : Int) (G : Mem), l.drop i = r → i ≤ l.length → out.length = i → 0 ≤ a → a ≤ i * 1000000 → G[j]? = some (some (own 1 (rowsI out))) → 
    ∃ v' G', G'[j]? = some (some (own 1 (rowsI (out ++ startsF m a r)))) ∧ Y L Cs c_roads_follow_l1 (some [18, 17, 4, 16, 2, 5]) 3 [(18, .w (W i)), (17, .w (W l.length)), (4, .w (Pt 1)), (16, .w (.c (.rslice (rowsI l)))), (2, .w (Pt 0)), (5, .w (Pt 2))] (bx 5 (mapC m) :: bx 8 zeroW :: bxv v 8 (wayR m l (.slice (j + 3) out.length 1 0 out.length none) a) :: G) =
      some (.exit 0, [(19, .w (Bo false)), (18, .w (W l.length)), (17, .w (W l.length)), (4, .w (Pt 1)), (16, .w (.c (.rslice (rowsI l)))), (2, .w (Pt 0)), (5, .w (Pt 2))], bx 5 (mapC m) :: bx 8 zeroW :: bxv v' 8 (wayR m l (.slice (j + 3) (out ++ startsF m a r).length 1 0 (out ++ startsF m a r).length none) (endF m a r)) :: G') := by
  intro r
  induction r with
  | nil =>
    intro i out v a G hd hi ho ha1 ha2 hG
    obtain rfl := drop_nil hd hi
    refine ⟨v, G, by simpa [startsF] using hG, ?_⟩
    rw [Y_step c_roads_follow_l1.eq_1]
    simp [startsF, endF]
  | cons x r ih =>
    intro i out v a G hd hi ho ha1 ha2 hG
    subst ho
    obtain ⟨hil, hx, hd'⟩ := drop_cons hd
    have hxm := hon x (by rw [← hx]; exact List.getElem_mem _)
    have hw := wrap_succ (i := out.length) (by omega)
    have hjG : j < G.length := (List.getElem?_eq_some_iff.1 hG).1
    have hg : ∀ N : Mem, (G ++ N)[j]? = some (some (own 1 (rowsI out))) := fun N => by rw [List.getElem?_append_left hjG, hG]
    have hset : ∀ (N : Mem) (x : Option Blk), (G ++ N).set j x = G.set j x ++ N := fun N x => List.set_append_left _ _ hjG
    have hL := R_longF h hxm
    have hle := lenF_le h hxm
    have hroom : (out.length + 1) * 8 ≤ 140737488355328 := by omega
    have hwa : IntKind.i64.wrap (a + lenF m x) = a + lenF m x := i64_id _ (by omega) (by omega)
    obtain ⟨v', G', h1, h2⟩ := ih (out.length + 1) (out ++ [a]) (v + 1 + 1) (a + lenF m x) (G.set j (some (own 1 (rowsI (out ++ [a])))) ++ [some (own 1 [[I a]])]) hd' hil (by simp) (by omega) (by omega) (by rw [List.getElem?_append_left (by simpa using hjG), List.getElem?_set_self hjG])
    have e1 : out ++ startsF m a (x :: r) = (out ++ [a]) ++ startsF m (a + lenF m x) r := by simp [startsF]
    refine ⟨v', G', by rw [e1]; exact h1, ?_⟩
    rw [e1, endF, ← h2, Y_step c_roads_follow_l1.eq_1]
    simp only [own, rowsI_len, mapC] at hg hL
    have hdr : ∀ (E : Env) (p q : Option Blk) (w g len : Nat) (a : Int) (N : Mem), drop0 3 E (p :: q :: bxv w 8 (wayR m l (.slice (j + 3) g 1 0 len none) a) :: N) = (p :: q :: bxv w 8 (wayR m l (.slice (j + 3) g 1 0 len none) a) :: N) := by
      intro E p q w g len a N
      unfold drop0
      split
      · rfl
      · rw [if_neg]
        simp [memBelow, Blk.below, Eng.below, top1]
    simp only [bxv, wayR] at hdr
    simp [hil, hx, hL, mapC, hw, hg, hset, hroom, hwa, newAt, hdr, -drop0]
    try omega
theorem startsF_len (m : GMap) : ∀ (r : List Int) (a : Int), (startsF m a r).length = r.length
  | [], _ => rfl
  | x :: r, a => by simp [startsF, startsF_len m r]
end Go.TrRun

/- Where the lanes of a route begin, and how long it is. -/
set_option linter.unusedVariables false
set_option linter.unusedSimpArgs false
set_option maxRecDepth 10000
namespace Go.TrRun
open Go Go.Eng

theorem frzC_rs (M : Mem) (r : List (List Cl)) : frzC M (.rslice r) = some (.rslice r) := rfl
theorem leave_way {M : Mem} {m : GMap} {l : List Int} {S x : Cl} {n : Int} (h : frzC M S = some x) (hx : Eng.below 0 x = true) : leave true 0 (.w (.a (wayR m l S n))) M = some (.w (.a (wayR m l x n)), []) :=
  leave_all (by simp only [frzA, frzW, frzs, h, frzC_int, frzC_rs]; rfl) (by show List.all (wayR m l x n) (Eng.below 0) = true; simp only [wayR, List.all_cons, List.all_nil, hx]; rfl)
theorem routeF_on {m : GMap} (h : Good m) {l : List Int} (hr : routeF m l = 0) : OnMap m l ∧ l ≠ [] ∧ l.length ≤ 8 := by
  cases l with
  | nil => simp [routeF] at hr
  | cons x t =>
    simp only [routeF] at hr
    split at hr
    · cases hr
    split at hr
    · cases hr
    split at hr
    · cases hr
    split at hr
    · cases hr
    split at hr
    · rename_i h1 h2 h3 h4 h5
      refine ⟨?_, by simp, by simp; omega⟩
      have key : ∀ (t : List Int) (a : Int), 0 ≤ a → a < m.lanes.length → goF m a t = true → OnMap m t := by
        intro t
        induction t with
        | nil => intro a _ _ _ y hy; cases hy
        | cons y t ih =>
          intro a ha1 ha2 hg
          simp only [goF, Bool.and_eq_true, decide_eq_true_eq] at hg
          have hal : a.toNat < m.lanes.length := by omega
          have hget : ((m.lanes[a.toNat]?).map Lane.next).getD [] = (m.lanes[a.toNat]).next := by rw [List.getElem?_eq_getElem hal]; rfl
          rw [hget] at hg
          have hv := h.small.valid _ (List.getElem_mem hal) y hg.1
          intro z hz
          rcases List.mem_cons.1 hz with rfl | hz
          · exact hv
          · exact ih y hv.1 hv.2 hg.2 z hz
      intro z hz
      rcases List.mem_cons.1 hz with rfl | hz
      · exact ⟨by omega, by omega⟩
      · exact key t x (by omega) (by omega) h5 z hz
    · cases hr
theorem R_follow {m : GMap} (h : Good m) {l : List Int} (hr : routeF m l = 0) : R L Cs f_roads_follow [.a (mapC m), .c (.rslice (rowsI l))] [] = some (.w (.a (wayR m l (.rslice (rowsI (startsF m 0 l))) (endF m 0 l))), []) := by
  obtain ⟨hon, hne, hlen⟩ := routeF_on h hr
  have hck := R_CheckRoute m h.small h.chk l (by omega)
  rw [hr] at hck
  obtain ⟨x, r, hl⟩ := List.exists_cons_of_ne_nil hne
  have hmain : ∃ M' S v, Y L Cs c_roads_follow_l1 (some [18, 17, 4, 16, 2, 5]) 3 [(18, .w (W 0)), (17, .w (W l.length)), (4, .w (Pt 1)), (16, .w (.c (.rslice (rowsI l)))), (2, .w (Pt 0)), (5, .w (Pt 2))] [bx 5 (mapC m), bx 8 zeroW, bxv 1 8 (wayR m l .nilslice 0)] =
      some (.exit 0, [(19, .w (Bo false)), (18, .w (W l.length)), (17, .w (W l.length)), (4, .w (Pt 1)), (16, .w (.c (.rslice (rowsI l)))), (2, .w (Pt 0)), (5, .w (Pt 2))], bx 5 (mapC m) :: bx 8 zeroW :: bxv v 8 (wayR m l S (endF m 0 l)) :: M') ∧
      frzC (bx 5 (mapC m) :: bxv 1 8 (wayR m l S (endF m 0 l)) :: bxv v 8 (wayR m l S (endF m 0 l)) :: M') S = some (.rslice (rowsI (startsF m 0 l))) := by
    have hll : 0 < l.length := by rw [hl]; simp
    have h0 : l[0] = x := by simp [hl]
    have hxm := hon x (by rw [hl]; simp)
    have hL := R_longF h hxm
    have hle := lenF_le h hxm
    have hwa : IntKind.i64.wrap (lenF m x) = lenF m x := i64_id _ (by omega) (by omega)
    obtain ⟨v', G', h1, h2⟩ := follow_loop h l (by omega) hon 1 r 1 [0] 3 (lenF m x) [some (own 1 [[I 0]]), some (own 1 (rowsI [0]))] (by rw [hl]; rfl) (by omega) rfl (by omega) (by omega) rfl
    have hall : startsF m 0 l = [0] ++ startsF m (lenF m x) r := by rw [hl]; simp [startsF]
    have hend : endF m 0 l = endF m (lenF m x) r := by rw [hl]; simp [endF]
    refine ⟨G', .slice 4 ([0] ++ startsF m (lenF m x) r).length 1 0 ([0] ++ startsF m (lenF m x) r).length none, v', ?_, ?_⟩
    · rw [hend]
      simp only [Int.natCast_one, Int.natCast_zero, List.length_cons, List.length_nil, own, mapC, wayR] at hL h2 ⊢
      rw [← h2, Y_step c_roads_follow_l1.eq_1]
      have hw : IntKind.i64.wrap 1 = 1 := rfl
      have hr : (0 : Int) < (l.length : Int) := by omega
      simp [hll, h0, hL, hw, hwa, newAt, hr]
    · rw [hall]; simp [frzC, look, h1]
  obtain ⟨M', S, v, h1, h2⟩ := hmain
  simp only [mapC, wayR] at hck h1 h2
  rw [R_fn F_roads_follow rfl]
  simp [c_roads_follow, mapC, hck, h1, -leave]
  exact leave_way h2 rfl
end Go.TrRun

/- Where the lanes of a route begin: the reference. -/
set_option linter.unusedVariables false
set_option linter.unusedSimpArgs false
set_option maxRecDepth 10000
namespace Go.TrRun
open Go Go.Eng

theorem R_Starts {m : GMap} (h : Good m) {l : List Int} (hr : routeF m l = 0) : R L Cs f_roads_Starts [.a (mapC m), .c (.rslice (rowsI l))] [] = some (.w (.c (.rslice (rowsI (startsF m 0 l)))), []) := by
  have hf := R_follow h hr
  simp only [mapC, wayR] at hf
  rw [R_fn F_roads_Starts rfl]
  simp [c_roads_Starts, mapC, hf]
theorem R_RouteLength {m : GMap} (h : Good m) {l : List Int} (hr : routeF m l = 0) : R L Cs f_roads_RouteLength [.a (mapC m), .c (.rslice (rowsI l))] [] = some (.w (W (endF m 0 l)), []) := by
  have hf := R_follow h hr
  simp only [mapC, wayR] at hf
  rw [R_fn F_roads_RouteLength rfl]
  simp [c_roads_RouteLength, mapC, hf]
theorem begins_loop {m : GMap} (h : Good m) (l : List Int) (hl : l.length ≤ 1000) (hon : OnMap m l) : ∀ (r : List Int) (i : Nat) (out : List Int) (a : Int), l.drop i = r → i ≤ l.length → out.length = i → 0 ≤ a → a ≤ i * 1000000 →
    Y L Cs c_kerbstoneref03_Begins_l1 (some [6, 7, 8, 1, 2]) 3 [(6, .w (.c (sl 2 1 (rowsI out)))), (7, .w (W a)), (8, .w (W i)), (1, .w (.c (.rslice (rowsI l)))), (2, .w (Pt 0))] [bx 5 (mapC m), gb 1, some (own 1 (rowsI out))] =
      some (.exit 0, [(12, .w (Bo false)), (6, .w (.c (sl 2 1 (rowsI (out ++ startsF m a r))))), (7, .w (W (endF m a r))), (8, .w (W l.length)), (1, .w (.c (.rslice (rowsI l)))), (2, .w (Pt 0))], [bx 5 (mapC m), gb 1, some (own 1 (rowsI (out ++ startsF m a r)))]) := by
  intro r
  induction r with
  | nil =>
    intro i out a hd hi ho ha1 ha2
    obtain rfl := drop_nil hd hi
    rw [Y_step c_kerbstoneref03_Begins_l1.eq_1]
    simp [startsF, endF]
  | cons x r ih =>
    intro i out a hd hi ho ha1 ha2
    subst ho
    obtain ⟨hil, hx, hd'⟩ := drop_cons hd
    have hxm := hon x (by rw [← hx]; exact List.getElem_mem _)
    have hw := wrap_succ (i := out.length) (by omega)
    have hL := R_rlengthF h hxm
    have hle := lenF_le h hxm
    have hroom : (out.length + 1) * 8 ≤ 140737488355328 := by omega
    have hwa : IntKind.i64.wrap (a + lenF m x) = a + lenF m x := i64_id _ (by omega) (by omega)
    have e1 : out ++ startsF m a (x :: r) = (out ++ [a]) ++ startsF m (a + lenF m x) r := by simp [startsF]
    rw [e1, endF, ← ih (out.length + 1) (out ++ [a]) (a + lenF m x) hd' hil (by simp) (by omega) (by omega), Y_step c_kerbstoneref03_Begins_l1.eq_1]
    simp only [mapC] at hL
    simp [hil, hx, hL, mapC, hw, hroom, hwa, newAt, memBelow]
theorem R_Begins {m : GMap} (h : Good m) {l : List Int} (hl : l.length ≤ 1000) (hon : OnMap m l) : R L Cs f_kerbstoneref03_Begins [.a (mapC m), .c (.rslice (rowsI l))] [] = some (.t [.c (.rslice (rowsI (startsF m 0 l))), W (endF m 0 l)], []) := by
  have hb := begins_loop h l hl hon l 0 [] 0 rfl (Nat.zero_le _) rfl (by omega) (by omega)
  simp only [mapC, Int.natCast_zero, List.nil_append, rowsI_nil, sl, own, List.length_nil, rowsI_len] at hb
  rw [R_fn F_kerbstoneref03_Begins rfl]
  simp [c_kerbstoneref03_Begins, mapC, hb, newAt]
theorem R_refRouteLength {m : GMap} (h : Good m) {l : List Int} (hr : routeF m l = 0) : R L Cs f_kerbstoneref03_RouteLength [.a (mapC m), .c (.rslice (rowsI l))] [] = some (.w (W (endF m 0 l)), []) := by
  obtain ⟨hon, hne, hlen⟩ := routeF_on h hr
  have hb := R_Begins h (by omega) hon
  have hck := R_refCheckRoute m h.small h.rchk l (by omega)
  rw [hr] at hck
  simp only [mapC] at hb hck
  rw [R_fn F_kerbstoneref03_RouteLength rfl]
  simp [c_kerbstoneref03_RouteLength, mapC, hb, hck]
end Go.TrRun

/- The course of a route. -/
set_option linter.unusedVariables false
set_option linter.unusedSimpArgs false
set_option maxRecDepth 10000
namespace Go.TrRun
open Go Go.Eng

def srcF (m : GMap) : Nat → List Lane → List Int
  | _, [] => []
  | i, _ :: r => if befF i 0 m.lanes = [] then (i : Int) :: srcF m (i + 1) r else srcF m (i + 1) r
theorem srcF_on (m : GMap) : ∀ (r : List Lane) (i : Nat), i + r.length ≤ m.lanes.length → OnMap m (srcF m i r)
  | [], _, _ => by intro x hx; cases hx
  | l :: r, i, h => by
    intro x hx
    simp at h
    unfold srcF at hx
    split at hx
    · rcases List.mem_cons.1 hx with rfl | hx
      · omega
      · exact srcF_on m r (i + 1) (by omega) x hx
    · exact srcF_on m r (i + 1) (by omega) x hx
theorem srcF_len (m : GMap) : ∀ (r : List Lane) (i : Nat), (srcF m i r).length ≤ r.length
  | [], _ => by simp [srcF]
  | l :: r, i => by
    have := srcF_len m r (i + 1)
    unfold srcF; split <;> simp <;> omega
theorem sources_loop {m : GMap} (h : Good m) : ∀ (r : List Lane) (i : Nat) (out : List Int), m.lanes.drop i = r → i ≤ m.lanes.length → out.length ≤ i →
    Y L Cs c_roads_Sources_l1 (some [3, 11, 10, 1]) 3 [(3, .w (.c (sl 2 1 (rowsI out)))), (11, .w (W i)), (10, .w (W m.lanes.length)), (1, .w (Pt 0))] [bx 5 (mapC m), gb 1, some (own 1 (rowsI out))] =
      some (.exit 0, [(12, .w (Bo false)), (3, .w (.c (sl 2 1 (rowsI (out ++ srcF m i r))))), (11, .w (W m.lanes.length)), (10, .w (W m.lanes.length)), (1, .w (Pt 0))], [bx 5 (mapC m), gb 1, some (own 1 (rowsI (out ++ srcF m i r)))]) := by
  intro r
  induction r with
  | nil =>
    intro i out hd hi ho
    obtain rfl := drop_nil hd hi
    rw [Y_step c_roads_Sources_l1.eq_1]
    simp [srcF]
  | cons l r ih =>
    intro i out hd hi ho
    obtain ⟨hil, hl, hd'⟩ := drop_cons hd
    have hn := h.small.lanes
    have hw := wrap_succ (i := i) (by omega)
    have hb := R_before m i (by omega) (fun l hl => by have := h.small.next l hl; omega)
    simp only [mapC] at hb
    have hroom : (out.length + 1) * 8 ≤ 140737488355328 := by omega
    rw [srcF]
    by_cases he : befF i 0 m.lanes = []
    · rw [if_pos he, show out ++ (i : Int) :: srcF m (i + 1) r = (out ++ [(i : Int)]) ++ srcF m (i + 1) r by simp, ← ih (i + 1) (out ++ [(i : Int)]) hd' hil (by simp; omega), Y_step c_roads_Sources_l1.eq_1]
      rw [he] at hb
      simp at hb
      simp [hil, mapC, hb, hw, hroom, newAt, memBelow]
    · rw [if_neg he, ← ih (i + 1) out hd' hil (by omega), Y_step c_roads_Sources_l1.eq_1]
      have hz : (((befF i 0 m.lanes).length : Int) == 0) = false := by
        have : 0 < (befF i 0 m.lanes).length := List.length_pos_iff.2 he
        exact beq_false_of_ne (by omega)
      simp [hil, mapC, hb, hw, he, hz, newAt, memBelow]
theorem R_Sources {m : GMap} (h : Good m) : R L Cs f_roads_Sources [.a (mapC m)] [] = some (.w (.c (.rslice (rowsI (srcF m 0 m.lanes)))), []) := by
  have hl := sources_loop h m.lanes 0 [] rfl (Nat.zero_le _) (Nat.zero_le _)
  have hck := h.chk
  simp only [mapC, Int.natCast_zero, List.nil_append, rowsI_nil, sl, own, List.length_nil, rowsI_len] at hl hck
  rw [R_fn F_roads_Sources rfl]
  simp [c_roads_Sources, mapC, hl, hck, newAt]

def rowsT (l : List Bool) : List (List Cl) := l.map fun b => [.bool b]
@[simp] theorem rowsT_len (l : List Bool) : (rowsT l).length = l.length := by simp [rowsT]
theorem rowsT_set (l : List Bool) (i : Nat) (b : Bool) : (rowsT l).set i [.bool b] = rowsT (l.set i b) := by simp [rowsT, List.map_set]
@[simp] theorem rowsT_getElem {l : List Bool} {i : Nat} (h : i < (rowsT l).length) : (rowsT l)[i] = [.bool (l[i]'(by simpa using h))] := by simp [rowsT]
@[simp] theorem rowsT_take (l : List Bool) : (rowsT l).take l.length = rowsT l := List.take_of_length_le (by simp)
theorem rowsT_rep (n : Nat) : List.replicate n [Cl.bool false] = rowsT (List.replicate n false) := by simp [rowsT]
def srcB (l : List Bool) (s : List Int) : List Bool := s.foldl (fun l x => l.set x.toNat true) l
theorem srcB_len : ∀ (s : List Int) (l : List Bool), (srcB l s).length = l.length
  | [], l => rfl
  | x :: s, l => by show (srcB (l.set x.toNat true) s).length = _; rw [srcB_len s]; simp
abbrev courseR (m : GMap) (l : List Int) (n : Int) (S T : Cl) : List Cl := [I m.version, .rslice (m.lanes.map laneC), .rslice m.zones, .rslice m.signals, .rslice (m.works.map workC), .rslice (rowsI l), .rslice (rowsI (startsF m 0 l)), I (endF m 0 l), I n, S, T]
def courseC (m : GMap) (l : List Int) (n : Int) : List Cl := courseR m l n (.rslice (rowsI (m.lanes.map Lane.len))) (.rslice (rowsT (srcB (List.replicate m.lanes.length false) (srcF m 0 m.lanes))))
abbrev zeroCo : List Cl := [I 0, .nilslice, .nilslice, .nilslice, .nilslice, .nilslice, .nilslice, I 0, I 0, .nilslice, .nilslice]
abbrev srcBlk (v : Nat) (l : List Bool) : Option Blk := some { box := false, esz := 1, rows := rowsT l, gen := l.length, fz := false, ver := v }
set_option maxHeartbeats 1000000 in
theorem along_loop1 {m : GMap} (h : Good m) (l : List Int) (nn : Int) (q : Option Blk) (j : Nat) : ∀ (r : List Lane) (i : Nat) (out : List Int) (v : Nat) (G : Mem), m.lanes.drop i = r → i ≤ m.lanes.length → out.length = i → G[j]? = some (some (own 1 (rowsI out))) → 
    ∃ v' G', G'[j]? = some (some (own 1 (rowsI (out ++ r.map Lane.len)))) ∧ Y L Cs c_motion_Along_l1 (some [28, 27, 6, 3, 7]) 4 [(28, .w (W i)), (27, .w (W m.lanes.length)), (6, .w (Pt 1)), (3, .w (Pt 0)), (7, .w (Pt 3))] (bx 5 (mapC m) :: bx 11 zeroCo :: q :: bxv v 11 (courseR m l nn (.slice (j + 4) out.length 1 0 out.length none) (.slice 2 m.lanes.length 1 0 m.lanes.length none)) :: G) =
      some (.exit 0, [(29, .w (Bo false)), (28, .w (W m.lanes.length)), (27, .w (W m.lanes.length)), (6, .w (Pt 1)), (3, .w (Pt 0)), (7, .w (Pt 3))], bx 5 (mapC m) :: bx 11 zeroCo :: q :: bxv v' 11 (courseR m l nn (.slice (j + 4) (out ++ r.map Lane.len).length 1 0 (out ++ r.map Lane.len).length none) (.slice 2 m.lanes.length 1 0 m.lanes.length none)) :: G') := by
  intro r
  induction r with
  | nil =>
    intro i out v G hd hi ho hG
    obtain rfl := drop_nil hd hi
    refine ⟨v, G, by simpa using hG, ?_⟩
    rw [Y_step c_motion_Along_l1.eq_1]
    simp
  | cons x r ih =>
    intro i out v G hd hi ho hG
    subst ho
    obtain ⟨hil, hx, hd'⟩ := drop_cons hd
    have hn := h.small.lanes
    have hw := wrap_succ (i := out.length) (by omega)
    have hjG : j < G.length := (List.getElem?_eq_some_iff.1 hG).1
    have hg : ∀ N : Mem, (G ++ N)[j]? = some (some (own 1 (rowsI out))) := fun N => by rw [List.getElem?_append_left hjG, hG]
    have hset : ∀ (N : Mem) (x : Option Blk), (G ++ N).set j x = G.set j x ++ N := fun N x => List.set_append_left _ _ hjG
    have hL := R_Length h hil
    rw [hx] at hL
    have hroom : (out.length + 1) * 8 ≤ 140737488355328 := by omega
    obtain ⟨v', G', h1, h2⟩ := ih (out.length + 1) (out ++ [x.len]) (v + 1) (G.set j (some (own 1 (rowsI (out ++ [x.len])))) ++ [some (own 1 [[I x.len]])]) hd' hil (by simp) (by rw [List.getElem?_append_left (by simpa using hjG), List.getElem?_set_self hjG])
    have e1 : out ++ (x :: r).map Lane.len = (out ++ [x.len]) ++ r.map Lane.len := by simp
    refine ⟨v', G', by rw [e1]; exact h1, ?_⟩
    rw [e1, ← h2, Y_step c_motion_Along_l1.eq_1]
    simp only [own, rowsI_len, mapC] at hg hL
    have hdr : ∀ (E : Env) (p q s : Option Blk) (w g len : Nat) (N : Mem), drop0 4 E (p :: q :: s :: bxv w 11 (courseR m l nn (.slice (j + 4) g 1 0 len none) (.slice 2 m.lanes.length 1 0 m.lanes.length none)) :: N) = (p :: q :: s :: bxv w 11 (courseR m l nn (.slice (j + 4) g 1 0 len none) (.slice 2 m.lanes.length 1 0 m.lanes.length none)) :: N) := by
      intro E p q s w g len N
      unfold drop0
      split
      · rfl
      · rw [if_neg]
        simp [memBelow, Blk.below, Eng.below, top1]
    simp only [bxv, courseR] at hdr
    simp [hil, hL, mapC, hw, hg, hset, hroom, newAt, hdr, -drop0]
end Go.TrRun

/- The course of a route, whole. -/
set_option linter.unusedVariables false
set_option linter.unusedSimpArgs false
set_option maxRecDepth 10000
namespace Go.TrRun
open Go Go.Eng

theorem along_loop2 {m : GMap} (l : List Int) (nn : Int) (n0 : Nat) (a b : Option Blk) (S : Cl) (w : Nat) (G : Mem) (hn0 : n0 = G.length + 4) (s : List Int) (hs : s.length ≤ 1000) (hon : OnMap m s) : ∀ (r : List Int) (i : Nat) (src : List Bool) (v : Nat), s.drop i = r → i ≤ s.length → src.length = m.lanes.length → 
    ∃ v', v ≤ v' ∧ Y L Cs c_motion_Along_l2 (some [43, 42, 6, 41, 7]) n0 [(43, .w (W i)), (42, .w (W s.length)), (6, .w (Pt 1)), (41, .w (.c (.rslice (rowsI s)))), (7, .w (Pt 3))] (a :: b :: srcBlk v src :: bxv w 11 (courseR m l nn S (.slice 2 m.lanes.length 1 0 m.lanes.length none)) :: G) =
      some (.exit 2, [(44, .w (Bo false)), (43, .w (W s.length)), (42, .w (W s.length)), (6, .w (Pt 1)), (41, .w (.c (.rslice (rowsI s)))), (7, .w (Pt 3))], a :: b :: srcBlk v' (srcB src r) :: bxv w 11 (courseR m l nn S (.slice 2 m.lanes.length 1 0 m.lanes.length none)) :: G) := by
  intro r
  induction r with
  | nil =>
    intro i src v hd hi hl
    obtain rfl := drop_nil hd hi
    refine ⟨v, Nat.le_refl _, ?_⟩
    rw [Y_step c_motion_Along_l2.eq_1]
    simp [srcB]
  | cons x r ih =>
    intro i src v hd hi hl
    obtain ⟨hil, hx, hd'⟩ := drop_cons hd
    have hxm := hon x (by rw [← hx]; exact List.getElem_mem _)
    have hw := wrap_succ (i := i) (by omega)
    obtain ⟨n, rfl⟩ := Int.eq_ofNat_of_zero_le hxm.1
    have hn : n < m.lanes.length := by omega
    have hn2 : n < src.length := by omega
    obtain ⟨v', h1, h2⟩ := ih (i + 1) (src.set n true) (v + 1) hd' hil (by simp [hl])
    refine ⟨v', by omega, ?_⟩
    have e : srcB src (((n : Nat) : Int) :: r) = srcB (src.set n true) r := rfl
    rw [e, ← h2, Y_step c_motion_Along_l2.eq_1]
    have hdl : ∀ (E : Env) (p q s t : Option Blk), drop0 n0 E (p :: q :: s :: t :: G) = p :: q :: s :: t :: G := by
      intro E p q s t
      unfold drop0
      rw [if_pos (by simp [hn0])]
    have hs' := rowsT_set src n true
    simp [hil, hx, hw, hn, hn2, hl, hdl, hs', srcBlk, -drop0]
theorem frzC_slice {M : Mem} {id g es len : Nat} {rows : List (List Cl)} {v : Nat} (h : M[id]? = some (some { box := false, esz := es, rows := rows, gen := g, fz := false, ver := v })) (hl : rows.length = len) : frzC M (.slice id g es 0 len none) = some (.rslice rows) := by
  subst hl
  simp [frzC, look, h]
theorem R_Along {m : GMap} (h : Good m) {l : List Int} (hr : routeF m l = 0) (nn : Int) : R L Cs f_motion_Along [.a (mapC m), .c (.rslice (rowsI l)), W nn] [] = some (.w (.a (courseC m l nn)), []) := by
  have hS := R_Starts h hr
  have hT := R_RouteLength h hr
  have hO := R_Sources h
  have hn := h.small.lanes
  have hsl := srcF_len m m.lanes 0
  have hson := srcF_on m m.lanes 0 (by omega)
  have hne : m.lanes ≠ [] := by
    intro e
    have := (routeF_on h hr).1
    cases l with
    | nil => exact (routeF_on h hr).2.1 rfl
    | cons x t => have := this x (by simp); rw [e] at this; simp at this; omega
  obtain ⟨x, r, hl⟩ := List.exists_cons_of_ne_nil hne
  have hlen1 : ([x.len] ++ r.map Lane.len).length = m.lanes.length := by rw [hl]; simp
  have hmap : [x.len] ++ r.map Lane.len = m.lanes.map Lane.len := by rw [hl]; simp
  obtain ⟨v1, G, hG, h1⟩ := along_loop1 h l nn (srcBlk m.lanes.length (List.replicate m.lanes.length false)) 1 r 1 [x.len] 2 [some (own 1 [[I x.len]]), some (own 1 (rowsI [x.len]))] (by rw [hl]; rfl) (by rw [hl]; simp) rfl rfl
  rw [hlen1] at h1
  have hfirst : Y L Cs c_motion_Along_l1 (some [28, 27, 6, 3, 7]) 4 [(28, .w (W 0)), (27, .w (W m.lanes.length)), (6, .w (Pt 1)), (3, .w (Pt 0)), (7, .w (Pt 3))] [bx 5 (mapC m), bx 11 zeroCo, srcBlk m.lanes.length (List.replicate m.lanes.length false), bxv 1 11 (courseR m l nn .nilslice (.slice 2 m.lanes.length 1 0 m.lanes.length none))] =
      some (.exit 0, [(29, .w (Bo false)), (28, .w (W m.lanes.length)), (27, .w (W m.lanes.length)), (6, .w (Pt 1)), (3, .w (Pt 0)), (7, .w (Pt 3))], bx 5 (mapC m) :: bx 11 zeroCo :: srcBlk m.lanes.length (List.replicate m.lanes.length false) :: bxv v1 11 (courseR m l nn (.slice (1 + 4) m.lanes.length 1 0 m.lanes.length none) (.slice 2 m.lanes.length 1 0 m.lanes.length none)) :: G) := by
    have hll : 0 < m.lanes.length := by rw [hl]; simp
    have h0 : m.lanes[0] = x := by simp [hl]
    have hL := R_Length h hll
    rw [h0] at hL
    simp only [Int.natCast_one, Int.natCast_zero, List.length_cons, List.length_nil, own, mapC] at hL h1 ⊢
    rw [← h1, Y_step c_motion_Along_l1.eq_1]
    have hw : IntKind.i64.wrap 1 = 1 := rfl
    have hr' : (0 : Int) < (m.lanes.length : Int) := by omega
    simp [hll, hL, hw, newAt, hr']
  obtain ⟨v2, hv2, h2⟩ := along_loop2 l nn (G.length + 4) (bx 5 (mapC m)) (bx 11 zeroCo) (.slice (1 + 4) m.lanes.length 1 0 m.lanes.length none) v1 G rfl (srcF m 0 m.lanes) (by omega) hson (srcF m 0 m.lanes) 0 (List.replicate m.lanes.length false) m.lanes.length rfl (Nat.zero_le _) (by simp)
  have hfz : ∀ (a b c d : Option Blk), frzA (a :: b :: c :: d :: G) (.w (.a (courseR m l nn (.slice (1 + 4) m.lanes.length 1 0 m.lanes.length none) (.slice 2 m.lanes.length 1 0 m.lanes.length none)))) = (match frzC (a :: b :: c :: d :: G) (.slice 2 m.lanes.length 1 0 m.lanes.length none) with | some T => some (.w (.a (courseR m l nn (.rslice (rowsI (m.lanes.map Lane.len))) T))) | none => none) := by
    intro a b c d
    have e1 : frzC (a :: b :: c :: d :: G) (.slice (1 + 4) m.lanes.length 1 0 m.lanes.length none) = some (.rslice (rowsI (m.lanes.map Lane.len))) := by
      refine frzC_slice (v := m.lanes.length) ?_ (by simp)
      show G[1]? = _
      rw [hG, hmap]
      simp
    simp only [frzA, frzW, frzs, e1, frzC_int, frzC_rs]
    cases frzC (a :: b :: c :: d :: G) (.slice 2 m.lanes.length 1 0 m.lanes.length none) <;> rfl
  have hrep : List.replicate m.lanes.length [Cl.bool false] = rowsT (List.replicate m.lanes.length false) := rowsT_rep _
  simp only [mapC, courseR, Int.natCast_zero, srcBlk, List.length_replicate] at hS hT hO hfirst h2 hfz
  have hroom : m.lanes.length ≤ 140737488355328 := by omega
  rw [R_fn F_motion_Along rfl]
  have hd0 : ∀ (E : Env) (p q s t : Option Blk), drop0 (G.length + 4) E (p :: q :: s :: t :: G) = p :: q :: s :: t :: G := by
    intro E p q s t
    unfold drop0
    rw [if_pos (by simp)]
  have hd4 : ∀ (E : Env) (p q s t : Option Blk), drop0 4 E [p, q, s, t] = [p, q, s, t] := by
    intro E p q s t
    simp [drop0]
  simp [c_motion_Along, mapC, hS, hT, hO, hfirst, h2, hrep, newAt, hroom, hd0, hd4, -leave, -drop0]
  have hbl : (srcB (List.replicate m.lanes.length false) (srcF m 0 m.lanes)).length = m.lanes.length := by rw [srcB_len]; simp
  refine leave_all ?_ (r' := .w (.a (courseC m l nn))) rfl
  refine (hfz _ _ _ _).trans ?_
  rw [hbl]
  have e2 : ∀ (a b d : Option Blk), frzC (a :: b :: some { box := false, esz := 1, rows := rowsT (srcB (List.replicate m.lanes.length false) (srcF m 0 m.lanes)), gen := m.lanes.length, fz := false, ver := v2 } :: d :: G) (.slice 2 m.lanes.length 1 0 m.lanes.length none) = some (.rslice (rowsT (srcB (List.replicate m.lanes.length false) (srcF m 0 m.lanes)))) := fun a b d => frzC_slice (v := v2) rfl (by simp [hbl])
  rw [e2]
  rfl
end Go.TrRun

/- The least limit of a part of a route: the program. -/
set_option linter.unusedVariables false
set_option linter.unusedSimpArgs false
set_option maxRecDepth 10000
namespace Go.TrRun
open Go Go.Eng

def hitW (x lo hi tick : Int) (w : Work) : Bool := decide (w.lane = x) && decide (w.lo ≤ hi) && decide (lo ≤ w.hi) && decide (w.begins ≤ tick) && decide (tick < w.ends)
def limW (x lo hi tick : Int) (n : Int) (w : Work) : Int := if hitW x lo hi tick w = true then min n w.limit else n
def limitOf (m : GMap) (x : Int) : Int := ((m.lanes[x.toNat]?).map Lane.limit).getD 0
def lowStep (m : GMap) (fr to tick a out x : Int) : Int :=
  if max 0 (fr - a) > min (to - a) (lenF m x) then out else
  if out < 0 ∨ m.works.foldl (limW x (max 0 (fr - a)) (min (to - a) (lenF m x)) tick) (limitOf m x) < out then m.works.foldl (limW x (max 0 (fr - a)) (min (to - a) (lenF m x)) tick) (limitOf m x) else out
def lowF (m : GMap) (fr to tick : Int) : Int → Int → List Int → Int
  | _, out, [] => out
  | a, out, x :: r => lowF m fr to tick (a + lenF m x) (lowStep m fr to tick a out x) r
end Go.TrRun

/- The least limit of a part of a route: the program, lane by lane. -/
set_option linter.unusedVariables false
set_option linter.unusedSimpArgs false
set_option maxRecDepth 10000
namespace Go.TrRun
open Go Go.Eng

end Go.TrRun

/- The least limit of a part of a route: both sides' functions. -/
set_option linter.unusedVariables false
set_option linter.unusedSimpArgs false
set_option maxRecDepth 10000
namespace Go.TrRun
open Go Go.Eng

theorem endF_le {m : GMap} (h : Good m) : ∀ (r : List Int) (a : Int), OnMap m r → 0 ≤ a → 0 ≤ endF m a r ∧ endF m a r ≤ a + r.length * 1000000
  | [], a, _, ha => by simp [endF]; exact ha
  | x :: r, a, hon, ha => by
    have hle := lenF_le h (hon x (by simp))
    have := endF_le h r (a + lenF m x) (fun y hy => hon y (by simp [hy])) (by omega)
    simp only [endF, List.length_cons]
    omega
def leastF (m : GMap) (l : List Int) (fr to tick : Int) : Int :=
  if routeF m l ≠ 0 ∨ fr < 0 ∨ fr > to ∨ to > endF m 0 l then 0 else max (lowF m fr to tick 0 (-1) l) 0
end Go.TrRun

/- The least limit of a part of a route: the reference. -/
set_option linter.unusedVariables false
set_option linter.unusedSimpArgs false
set_option maxRecDepth 10000
namespace Go.TrRun
open Go Go.Eng

end Go.TrRun

/- The map of a number has few works. -/
set_option linter.unusedVariables false
set_option linter.unusedSimpArgs false
set_option maxRecDepth 10000
namespace Go.TrRun
open Go Go.Eng

theorem works_len (k : Nat) (lim r o1 o2 o3 v w b t : Int) : (mapP k lim r o1 o2 o3 v w b t).works.length ≤ 1000 := by
  simp only [mapP, worksP]
  split <;> simp
theorem Map_good2 (n : Int) : ∃ m, Good m ∧ m.works.length ≤ 1000 ∧ R L Cs f_kerbstonekit_Map [W n] [] = some (.w (.a (mapC m)), []) := by
  have hN : 0 ≤ n % 16777216 ∧ n % 16777216 < 16777216 := by omega
  have h7 : 0 ≤ (n % 16777216).tmod 7 ∧ (n % 16777216).tmod 7 < 7 := by
    rw [Int.tmod_eq_emod_of_nonneg hN.1]; omega
  have hr := tmod_lt _ 28 2 hN (by decide) (by decide)
  have nu := nums_of n
  by_cases hw : ((n % 16777216).tdiv 1736).tmod 3 = 1
  · have hk : (n % 16777216).tmod 7 = 0 ∨ (n % 16777216).tmod 7 = 1 ∨ (n % 16777216).tmod 7 = 2 ∨ (n % 16777216).tmod 7 = 3 ∨ (n % 16777216).tmod 7 = 4 ∨ (n % 16777216).tmod 7 = 5 ∨ (n % 16777216).tmod 7 = 6 := by omega
    rcases hk with h | h | h | h | h | h | h
    · exact ⟨_, good0 nu, works_len _ _ _ _ _ _ _ _ _ _, R_Map0w n h hw⟩
    · exact ⟨_, good1 nu, works_len _ _ _ _ _ _ _ _ _ _, R_Map1w n h hw⟩
    · exact ⟨_, good2 nu, works_len _ _ _ _ _ _ _ _ _ _, R_Map2w n h hw⟩
    · exact ⟨_, good3 nu, works_len _ _ _ _ _ _ _ _ _ _, R_Map3w n h hw⟩
    · exact ⟨_, good4 nu, works_len _ _ _ _ _ _ _ _ _ _, R_Map4w n h hw⟩
    · exact ⟨_, good5 nu, works_len _ _ _ _ _ _ _ _ _ _, R_Map5w n h hw⟩
    · by_cases h28 : ((n % 16777216).tdiv 28).tmod 2 = 1
      · exact ⟨_, good6 nu, works_len _ _ _ _ _ _ _ _ _ _, R_Map6aw n h h28 hw⟩
      · exact ⟨_, good6 nu, works_len _ _ _ _ _ _ _ _ _ _, R_Map6bw n h (by omega) hw⟩
  · have hk : (n % 16777216).tmod 7 = 0 ∨ (n % 16777216).tmod 7 = 1 ∨ (n % 16777216).tmod 7 = 2 ∨ (n % 16777216).tmod 7 = 3 ∨ (n % 16777216).tmod 7 = 4 ∨ (n % 16777216).tmod 7 = 5 ∨ (n % 16777216).tmod 7 = 6 := by omega
    rcases hk with h | h | h | h | h | h | h
    · exact ⟨_, good0 nu, works_len _ _ _ _ _ _ _ _ _ _, R_Map0 n h hw⟩
    · exact ⟨_, good1 nu, works_len _ _ _ _ _ _ _ _ _ _, R_Map1 n h hw⟩
    · exact ⟨_, good2 nu, works_len _ _ _ _ _ _ _ _ _ _, R_Map2 n h hw⟩
    · exact ⟨_, good3 nu, works_len _ _ _ _ _ _ _ _ _ _, R_Map3 n h hw⟩
    · exact ⟨_, good4 nu, works_len _ _ _ _ _ _ _ _ _ _, R_Map4 n h hw⟩
    · exact ⟨_, good5 nu, works_len _ _ _ _ _ _ _ _ _ _, R_Map5 n h hw⟩
    · by_cases h28 : ((n % 16777216).tdiv 28).tmod 2 = 1
      · exact ⟨_, good6 nu, works_len _ _ _ _ _ _ _ _ _ _, R_Map6a n h h28 hw⟩
      · exact ⟨_, good6 nu, works_len _ _ _ _ _ _ _ _ _ _, R_Map6b n h (by omega) hw⟩
end Go.TrRun

/- PlanLeasts answers true. -/
set_option linter.unusedVariables false
set_option linter.unusedSimpArgs false
set_option maxRecDepth 10000
namespace Go.TrRun
open Go Go.Eng

theorem ints_of : ∀ {rows : List (List Cl)}, (∀ r ∈ rows, HasSh i64S r) → ∃ l, rows = rowsI l ∧ ∀ x ∈ l, In64 x
  | [], _ => ⟨[], rfl, by simp⟩
  | r :: rows, h => by
    have h1 := h r (List.mem_cons_self ..)
    simp only [HasSh] at h1
    obtain ⟨a, rfl, q⟩ := h1
    obtain ⟨l, rfl, hl⟩ := ints_of fun x hx => h x (List.mem_cons_of_mem _ hx)
    refine ⟨a :: l, rfl, fun x hx => ?_⟩
    rcases List.mem_cons.1 hx with rfl | hx
    · exact q
    · exact hl x hx
end Go.TrRun

