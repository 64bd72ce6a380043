/- Cutting a span from blobs. -/
import Derived.Test.YtfedgghdmiomkaaGreatTrRunB
import Derived.Test.YtfedgghdmiomkaaGreatTrRunE
import Derived.Test.YtfedgghdmiomkaaGreatTrRunD
set_option linter.unusedVariables false
set_option linter.unusedSimpArgs false
set_option linter.unusedSectionVars false
/- Cutting a span from blobs. -/
set_option linter.unusedVariables false
set_option linter.unusedSimpArgs false
set_option maxRecDepth 10000
namespace Go.TrRun
open Go Go.Eng

theorem R_ends (b : Blob) (i v : Nat) (M : Mem) (h : M[i]? = some (bxv v 6 (blobC b))) : R L Cs f_motion_ends_Blob [Pt i] M = some (.t [W b.lane, .c (.ptr i 0 0 1), .c (.ptr i 0 0 2)], M) := by
  rw [R_fn F_motion_ends_Blob rfl]
  simp only [blobC] at h
  simp [c_motion_ends_Blob, h, blobC, p1F]
def cutB (x fr to : Int) (b : Blob) : List Blob :=
  if b.lane ≠ x ∨ fr > to ∨ fr > b.hi ∨ to < b.lo then [b] else
  (if b.lo < fr then [{ b with hi := fr - 1 }] else []) ++ (if to < b.hi then [{ b with lo := to + 1 }] else [])
def cutL (x fr to : Int) : List Blob → List Blob
  | [] => []
  | b :: r => cutB x fr to b ++ cutL x fr to r
theorem cutB_len (x fr to : Int) (b : Blob) : (cutB x fr to b).length ≤ 2 := by
  unfold cutB
  split
  · simp
  · split <;> split <;> simp
theorem cutL_len (x fr to : Int) : ∀ (r : List Blob), (cutL x fr to r).length ≤ 2 * r.length
  | [] => by simp [cutL]
  | b :: r => by
    have := cutB_len x fr to b
    have := cutL_len x fr to r
    simp only [cutL, List.length_append, List.length_cons]; omega
def Mid (n : Int) : Prop := -4000000000000000000 ≤ n ∧ n ≤ 4000000000000000000
set_option maxHeartbeats 2000000 in
theorem cut_loop (x fr to : Int) (hfr : Mid fr) (hto : Mid to) (l : List Blob) (hl : l.length ≤ 100000) : ∀ (r : List Blob) (i : Nat) (out : List Blob), l.drop i = r → i ≤ l.length → out.length ≤ 2 * i →
    Y L Cs c_motion_Cut_Blob_l1 (some [5, 21, 20, 19, 3]) 3 [(5, .w (.c (sl 2 6 (rowsB out)))), (21, .w (W i)), (20, .w (W l.length)), (19, .w (.c (.rslice (rowsB l)))), (3, .w (Pt 0))] [bx 3 [I x, I fr, I to], gb 6, some (own 6 (rowsB out))] =
      some (.exit 0, [(22, .w (Bo false)), (5, .w (.c (sl 2 6 (rowsB (out ++ cutL x fr to r))))), (21, .w (W l.length)), (20, .w (W l.length)), (19, .w (.c (.rslice (rowsB l)))), (3, .w (Pt 0))], [bx 3 [I x, I fr, I to], gb 6, some (own 6 (rowsB (out ++ cutL x fr to r)))]) := by
  intro r
  induction r with
  | nil =>
    intro i out hd hi ho
    obtain rfl := drop_nil hd hi
    rw [Y_step c_motion_Cut_Blob_l1.eq_1]
    simp [cutL]
  | cons b r ih =>
    intro i out hd hi ho
    obtain ⟨hil, hb, hd'⟩ := drop_cons hd
    have hw := wrap_succ (i := i) (by omega)
    have hcl : (out ++ cutB x fr to b).length ≤ 2 * (i + 1) := by
      have := cutB_len x fr to b
      rw [List.length_append]; omega
    obtain ⟨f1, f2⟩ := hfr
    obtain ⟨t1, t2⟩ := hto
    have hw1 : IntKind.i64.wrap (fr - 1) = fr - 1 := i64_id _ (by omega) (by omega)
    have hw2 : IntKind.i64.wrap (to + 1) = to + 1 := i64_id _ (by omega) (by omega)
    have hroom : (out.length + 1) * 48 ≤ 140737488355328 := by omega
    have hroom2 : (out.length + 2) * 48 ≤ 140737488355328 := by clear hcl hd hb hd' ih; omega
    have he := R_ends b 0 1 [bxv 1 6 (blobC b)] rfl
    have e1 : out ++ cutL x fr to (b :: r) = (out ++ cutB x fr to b) ++ cutL x fr to r := by simp [cutL]
    rw [e1, ← ih (i + 1) (out ++ cutB x fr to b) hd' hil hcl, Y_step c_motion_Cut_Blob_l1.eq_1]
    clear ih e1 hcl
    clear f1 f2 t1 t2
    obtain ⟨bl, lo, hi', vlo, vhi, hold⟩ := b
    simp only [blobC, cutB] at *
    by_cases c1 : bl = x
    · subst c1
      by_cases c2 : to < fr
      · simp [hil, hb, blobC, hw, hroom, newAt, memBelow, he, c2]
      · by_cases c3 : hi' < fr
        · simp [hil, hb, blobC, hw, hroom, newAt, memBelow, he, c2, c3]
        · by_cases c4 : to < lo
          · simp [hil, hb, blobC, hw, hroom, newAt, memBelow, he, c2, c3, c4]
          · by_cases c5 : lo < fr
            · by_cases c6 : to < hi'
              · have htk : ∀ y : List Cl, List.take (out.length + 1) (rowsB out ++ [y]) = rowsB out ++ [y] := fun y => List.take_of_length_le (by simp)
                simp [hil, hb, blobC, hw, hw1, hw2, hroom, hroom2, newAt, memBelow, he, c2, c3, c4, c5, c6, htk]
              · simp [hil, hb, blobC, hw, hw1, hw2, hroom, newAt, memBelow, he, c2, c3, c4, c5, c6]
            · by_cases c6 : to < hi'
              · simp [hil, hb, blobC, hw, hw1, hw2, hroom, newAt, memBelow, he, c2, c3, c4, c5, c6]
              · simp [hil, hb, blobC, hw, hw1, hw2, hroom, newAt, memBelow, he, c2, c3, c4, c5, c6]
    · have b1 : (bl == x) = false := by simp [c1]
      have b2 : (bl != x) = true := by simp [c1]
      simp [hil, hb, blobC, hw, hroom, newAt, memBelow, he, c1, b1, b2]
theorem R_Cut (x fr to : Int) (hfr : Mid fr) (hto : Mid to) (l : List Blob) (hl : l.length ≤ 100000) : R L Cs f_motion_Cut_Blob [.c (.rslice (rowsB l)), .a [I x, I fr, I to]] [] = some (.w (.c (.rslice (rowsB (cutL x fr to l)))), []) := by
  have hc := cut_loop x fr to hfr hto l hl l 0 [] rfl (Nat.zero_le _) (Nat.zero_le _)
  simp only [Int.natCast_zero, List.nil_append, rowsB_nil, sl, own, List.length_nil, rowsB_len] at hc
  rw [R_fn F_motion_Cut_Blob rfl]
  simp [c_motion_Cut_Blob, hc, newAt]
end Go.TrRun

/- Cutting a span from blobs: the reference. -/
set_option linter.unusedVariables false
set_option linter.unusedSimpArgs false
set_option maxRecDepth 10000
namespace Go.TrRun
open Go Go.Eng

end Go.TrRun

/- The gap of the vehicle: both sides. -/
set_option linter.unusedVariables false
set_option linter.unusedSimpArgs false
set_option maxRecDepth 10000
namespace Go.TrRun
open Go Go.Eng

def ownL (m : GMap) (e : Ego) (len : Int) : Int → List Int → List Blob → List Blob
  | _, [], l => l
  | a, x :: r, l => ownL m e len (a + lenF m x) r (cutL x (e.shi - len - a) (e.slo - a) l)
theorem R_gap (m : GMap) (l : List Int) (len : Int) (e : Ego) (he : -1000000000000000 ≤ e.slo ∧ e.slo ≤ 1000000000000000 ∧ -1000000000000000 ≤ e.shi ∧ e.shi ≤ 1000000000000000) (hn : 0 ≤ len ∧ len ≤ 20000) : R L Cs f_motion_Course_gap [.a (courseC m l len), .a (egoR e)] [] = some (.w (Bo (decide (e.shi - len ≤ e.slo))), []) := by
  have hw1 : IntKind.i64.wrap (e.shi - len) = e.shi - len := i64_id _ (by omega) (by omega)
  rw [R_fn F_motion_Course_gap rfl]
  simp [c_motion_Course_gap, courseC, hw1]
set_option maxHeartbeats 2000000 in
theorem own_loop {m : GMap} (h : Good m) (l : List Int) (hl : l.length ≤ 8) (hon : OnMap m l) (len : Int) (e : Ego) (he : -1000000000000000 ≤ e.slo ∧ e.slo ≤ 1000000000000000 ∧ -1000000000000000 ≤ e.shi ∧ e.shi ≤ 1000000000000000) (hn : 0 ≤ len ∧ len ≤ 20000) : ∀ (r : List Int) (i : Nat) (bs : List Blob) (a : Int), l.drop i = r → i ≤ l.length → (startsF m 0 l).drop i = startsF m a r → 0 ≤ a → a ≤ i * 1000000 → bs.length * 2 ^ r.length ≤ 100000 →
    Y L Cs c_motion_Course_Own_l1 (some [1, 17, 16, 15, 5, 3]) 3 [(1, .w (.c (.rslice (rowsB bs)))), (17, .w (W i)), (16, .w (W l.length)), (15, .w (.c (.rslice (rowsI l)))), (5, .w (Pt 1)), (3, .w (Pt 0))] [bx 11 (courseC m l len), bx 4 (egoR e), gb 6] =
      some (.exit 0, [(18, .w (Bo false)), (1, .w (.c (.rslice (rowsB (ownL m e len a r bs))))), (17, .w (W l.length)), (16, .w (W l.length)), (15, .w (.c (.rslice (rowsI l)))), (5, .w (Pt 1)), (3, .w (Pt 0))], [bx 11 (courseC m l len), bx 4 (egoR e), gb 6]) := by
  intro r
  induction r with
  | nil =>
    intro i bs a hd hi hs ha1 ha2 hb
    obtain rfl := drop_nil hd hi
    simp only [courseC, courseR]
    rw [Y_step c_motion_Course_Own_l1.eq_1]
    simp [ownL]
  | cons x r ih =>
    intro i bs a hd hi hs ha1 ha2 hb
    obtain ⟨hil, hx, hd'⟩ := drop_cons hd
    have hxm := hon x (by rw [← hx]; exact List.getElem_mem _)
    have hle := lenF_le h hxm
    have hw := wrap_succ (i := i) (by omega)
    rw [startsF] at hs
    obtain ⟨hsl, hsx, hs'⟩ := drop_cons hs
    have hw0 : IntKind.i64.wrap (e.shi - len) = e.shi - len := i64_id _ (by omega) (by omega)
    have hw1 : IntKind.i64.wrap (e.shi - len - a) = e.shi - len - a := i64_id _ (by omega) (by omega)
    have hw2 : IntKind.i64.wrap (e.slo - a) = e.slo - a := i64_id _ (by omega) (by omega)
    have hcl := cutL_len x (e.shi - len - a) (e.slo - a) bs
    have hb2 : (cutL x (e.shi - len - a) (e.slo - a) bs).length * 2 ^ r.length ≤ 100000 := by
      refine Nat.le_trans (Nat.mul_le_mul_right _ hcl) ?_
      simp only [List.length_cons, Nat.pow_succ] at hb
      rw [Nat.mul_comm 2, Nat.mul_assoc, Nat.mul_comm 2]; exact hb
    have hb1 : bs.length ≤ 100000 := Nat.le_trans (Nat.le_mul_of_pos_right _ (Nat.two_pow_pos _)) hb
    have hcut := R_Cut x (e.shi - len - a) (e.slo - a) ⟨by omega, by omega⟩ ⟨by omega, by omega⟩ bs hb1
    simp only [ownL]
    rw [← ih (i + 1) (cutL x (e.shi - len - a) (e.slo - a) bs) (a + lenF m x) hd' hil hs' (by omega) (by omega) hb2]
    clear ih hb hb2 hcl
    simp only [courseC, courseR]
    rw [Y_step c_motion_Course_Own_l1.eq_1]
    simp [hil, hx, hsl, hsx, hw, hw0, hw1, hw2, hcut]
set_option maxHeartbeats 2000000 in
theorem R_CourseOwn {m : GMap} (h : Good m) (l : List Int) (hl : l.length ≤ 8) (hon : OnMap m l) (len : Int) (e : Ego) (he : -1000000000000000 ≤ e.slo ∧ e.slo ≤ 1000000000000000 ∧ -1000000000000000 ≤ e.shi ∧ e.shi ≤ 1000000000000000) (hn : 0 ≤ len ∧ len ≤ 20000) (bs : List Blob) (hb : bs.length ≤ 20) :
    R L Cs f_motion_Course_Own [.a (courseC m l len), .c (.rslice (rowsB bs)), .a (egoR e)] [] = some (.w (.c (.rslice (rowsB (if e.shi - len ≤ e.slo then ownL m e len 0 l bs else bs)))), []) := by
  have hg := R_gap m l len e he hn
  have hbb : bs.length * 2 ^ l.length ≤ 100000 := Nat.le_trans (Nat.mul_le_mul hb (Nat.pow_le_pow_right (by decide) hl)) (by decide)
  have ho := own_loop h l hl hon len e he hn l 0 bs 0 rfl (Nat.zero_le _) rfl (by omega) (by omega) hbb
  simp only [courseC, courseR, Int.natCast_zero, egoR] at ho hg ⊢
  rw [R_fn F_motion_Course_Own rfl]
  by_cases c : e.shi - len ≤ e.slo
  · simp [c_motion_Course_Own, hg, ho, c, newAt]
  · simp [c_motion_Course_Own, hg, c, newAt]
end Go.TrRun

/- The gap of the vehicle: the reference, and Own of both sides. -/
set_option linter.unusedVariables false
set_option linter.unusedSimpArgs false
set_option maxRecDepth 10000
namespace Go.TrRun
open Go Go.Eng

def ownF (m : GMap) (l : List Int) (len : Int) (k : Know) : Know :=
  if chkK m k = 0 ∧ routeF m l = 0 ∧ 300 ≤ len ∧ len ≤ 20000 then { k with blobs := if k.ego.shi - len ≤ k.ego.slo then ownL m k.ego len 0 l k.blobs else k.blobs } else k
theorem ownL_len (m : GMap) (e : Ego) (len : Int) : ∀ (r : List Int) (a : Int) (bs : List Blob), (ownL m e len a r bs).length ≤ bs.length * 2 ^ r.length
  | [], _, bs => by simp [ownL]
  | x :: r, a, bs => by
    have h1 := ownL_len m e len r (a + lenF m x) (cutL x (e.shi - len - a) (e.slo - a) bs)
    have h2 := Nat.mul_le_mul_right (2 ^ r.length) (cutL_len x (e.shi - len - a) (e.slo - a) bs)
    simp only [ownL, List.length_cons, Nat.pow_succ]
    refine Nat.le_trans h1 (Nat.le_trans h2 ?_)
    rw [Nat.mul_comm 2 bs.length, Nat.mul_assoc, Nat.mul_comm 2]
    exact Nat.le_refl _
theorem ownF_len {m : GMap} (h : Good m) (l : List Int) (len : Int) (k : Know) (hk : k.blobs.length ≤ 12) : (ownF m l len k).blobs.length ≤ 100000 := by
  unfold ownF
  split
  · rename_i hc
    obtain ⟨_, _, hl8⟩ := routeF_on h hc.2.1
    dsimp only
    split
    · refine Nat.le_trans (ownL_len m k.ego len l 0 k.blobs) ?_
      exact Nat.le_trans (Nat.mul_le_mul hk (Nat.pow_le_pow_right (by decide) hl8)) (by decide)
    · omega
  · omega
theorem chkK_ego {m : GMap} {k : Know} (h : chkK m k = 0) : -1000000000000000 ≤ k.ego.slo ∧ k.ego.slo ≤ 1000000000000000 ∧ -1000000000000000 ≤ k.ego.shi ∧ k.ego.shi ≤ 1000000000000000 := by
  unfold chkK at h
  split at h
  · cases h
  · rename_i ho
    unfold outK maxT at ho
    omega
theorem R_able (n : Int) : R L Cs f_track_able [W n] [] = some (.w (Bo (decide (300 ≤ n) && decide (n ≤ 20000))), []) := by
  have hw := R_within_track n 300 20000
  rw [R_fn F_track_able rfl]
  simp [c_track_able, hw]
set_option maxHeartbeats 2000000 in
theorem R_trackOwn {m : GMap} (h : Good m) (l : List Int) (hl : l.length ≤ 1000) (len : Int) (k : Know) (hk : k.blobs.length ≤ 12) :
    R L Cs f_track_Own [.a (mapC m), .c (.rslice (rowsI l)), W len, .a (knowC k)] [] = some (.w (.a (knowC (ownF m l len k))), []) := by
  have h1 := R_Copy k (by omega)
  have h2 := R_trackCheck h k (by omega)
  have h3 := R_CheckRoute m h.small h.chk l hl
  have h4 := R_able len
  unfold ownF
  rw [R_fn F_track_Own rfl]
  by_cases c1 : chkK m k = 0
  · by_cases c2 : routeF m l = 0
    · by_cases c3 : 300 ≤ len
      · by_cases c4 : len ≤ 20000
        · obtain ⟨hon, hne, hlen⟩ := routeF_on h c2
          have h5 := R_Along h c2 len
          have h6 := R_CourseOwn h l hlen hon len k.ego (chkK_ego c1) ⟨by omega, c4⟩ k.blobs (by omega)
          simp only [mapC, knowC, egoR, courseC, courseR, c1, c2] at h1 h2 h3 h5 h6 ⊢
          simp [c_track_Own, h1, h2, h3, h4, h5, h6, c3, c4, egoR]
        · simp only [mapC, knowC, c1, c2] at h1 h2 h3 ⊢
          simp [c_track_Own, h1, h2, h3, h4, c3, c4]
      · simp only [mapC, knowC, c1, c2] at h1 h2 h3 ⊢
        simp [c_track_Own, h1, h2, h3, h4, c3]
    · have b2 : (routeF m l == 0) = false := by simp [c2]
      simp only [mapC, knowC, c1] at h1 h2 h3 ⊢
      simp [c_track_Own, h1, h2, h3, c2, b2]
  · have b1 : (chkK m k == 0) = false := by simp [c1]
    simp only [mapC, knowC] at h1 h2 ⊢
    simp [c_track_Own, h1, h2, c1, b1]
end Go.TrRun

