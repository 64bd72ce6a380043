/- What the laws' kit makes of numbers: remainders, blobs. -/
import Derived.Test.YtfedgghdmiomkaaGreatTrRunF
set_option linter.unusedVariables false
set_option linter.unusedSimpArgs false
set_option linter.unusedSectionVars false
/- What the laws' kit makes of numbers: remainders, blobs. -/
set_option linter.unusedVariables false
set_option linter.unusedSimpArgs false
set_option maxRecDepth 10000
namespace Go.TrRun
open Go Go.Eng

theorem emod_of_tmod (n k : Int) (hk : 0 < k) : n % k = if n.tmod k < 0 then n.tmod k + k else n.tmod k := by
  have h1 := Int.emod_nonneg n (show k ≠ 0 by omega)
  have h2 := Int.emod_lt_of_pos n hk
  have h := @Int.tmod_eq_emod n k
  have h3 : (k.natAbs : Int) = k := by omega
  split at h
  · simp at h; rw [h]; split <;> omega
  · rw [h3] at h; rw [h]; split <;> omega
theorem R_ModG (n k : Int) (hk : 0 < k) (hk2 : k ≤ 4000000000000000000) : R L Cs f_kerbstonekit_Mod [W n, W k] [] = some (.w (W (n % k)), []) := by
  rw [R_fn F_kerbstonekit_Mod rfl]
  have he := emod_of_tmod n k hk
  have hb := Int.emod_lt_of_pos n hk
  have hb0 := Int.emod_nonneg n (show k ≠ 0 by omega)
  have hz : (k == 0) = false := beq_false_of_ne (by omega)
  have hz' : k ≠ 0 := by omega
  by_cases h : n.tmod k < 0
  · rw [if_pos h] at he
    have e : IntKind.i64.wrap (n.tmod k + k) = n % k := by rw [← he]; exact i64_id _ (by omega) (by omega)
    simp [c_kerbstonekit_Mod, h, e, hz, hz']
  · rw [if_neg h] at he
    rw [he] at *
    simp [c_kerbstonekit_Mod, h, hz, hz']
theorem R_Mod64 (n k : Int) (hk : 0 < k) (hk2 : k ≤ 4000000000000000000) : R L Cs f_kerbstonekit_Mod64 [W n, W k] [] = some (.w (W (n % k)), []) := by
  rw [R_fn F_kerbstonekit_Mod64 rfl]
  have he := emod_of_tmod n k hk
  have hb := Int.emod_lt_of_pos n hk
  have hb0 := Int.emod_nonneg n (show k ≠ 0 by omega)
  have hz : (k == 0) = false := beq_false_of_ne (by omega)
  have hz' : k ≠ 0 := by omega
  by_cases h : n.tmod k < 0
  · rw [if_pos h] at he
    have e : IntKind.i64.wrap (n.tmod k + k) = n % k := by rw [← he]; exact i64_id _ (by omega) (by omega)
    simp [c_kerbstonekit_Mod64, h, e, hz, hz']
  · rw [if_neg h] at he
    rw [he] at *
    simp [c_kerbstonekit_Mod64, h, hz, hz']
structure Bit where
  lane : Int
  lo : Int
  span : Int
  v : Int
  more : Int
  hold : Int
def bitC (b : Bit) : List Cl := [I b.lane, I b.lo, I b.span, I b.v, I b.more, I b.hold]
def bitB (m : GMap) (x : Bit) : Blob :=
  let ln := x.lane % m.lanes.length
  let n := lenF m ln
  let v := topV (kindF m ln)
  let lo := x.lo % (n + 1)
  let hi := lo + x.span % (n - lo + 1)
  let vlo := x.v % (v + 1)
  ⟨ln, lo, hi, vlo, vlo + x.more % (v - vlo + 1), if x.hold % 4 = 0 then hi + (x.hold.tdiv 4) % (n - hi + 1) else 0⟩
/-- What a made blob is. -/
structure Fits (m : GMap) (b : Blob) : Prop where
  lane : 0 ≤ b.lane ∧ b.lane < m.lanes.length
  lo : 0 ≤ b.lo
  le : b.lo ≤ b.hi
  hi : b.hi ≤ lenF m b.lane
  vlo : 0 ≤ b.vlo
  vle : b.vlo ≤ b.vhi
  vhi : b.vhi ≤ topV (kindF m b.lane)
  hold : b.hold = 0 ∨ b.hi ≤ b.hold ∧ b.hold ≤ lenF m b.lane
theorem topV_le (k : Int) : 0 ≤ topV k ∧ topV k ≤ 10000 := by
  unfold topV; split <;> (try split) <;> omega
theorem mod_rng (a b : Int) (h : 0 < b) : 0 ≤ a % b ∧ a % b < b := ⟨Int.emod_nonneg _ (by omega), Int.emod_lt_of_pos _ h⟩
theorem bitB_fits {m : GMap} (h : Good m) (hne : 0 < m.lanes.length) (x : Bit) : Fits m (bitB m x) := by
  have h1 := mod_rng x.lane m.lanes.length (by omega)
  have h2 := lenF_le h h1
  have h3 := topV_le (kindF m (x.lane % m.lanes.length))
  simp only [bitB]
  generalize hln : x.lane % m.lanes.length = ln at *
  generalize hn : lenF m ln = n at *
  generalize hv : topV (kindF m ln) = v at *
  have h4 := mod_rng x.lo (n + 1) (by omega)
  generalize hlo : x.lo % (n + 1) = lo at *
  have h5 := mod_rng x.span (n - lo + 1) (by omega)
  generalize hsp : x.span % (n - lo + 1) = sp at *
  have h6 := mod_rng x.v (v + 1) (by omega)
  generalize hvl : x.v % (v + 1) = vlo at *
  have h7 := mod_rng x.more (v - vlo + 1) (by omega)
  have h8 := mod_rng (x.hold.tdiv 4) (n - (lo + sp) + 1) (by omega)
  refine ⟨h1, h4.1, ?_, ?_, h6.1, ?_, ?_, ?_⟩ <;> dsimp only
  · omega
  · omega
  · omega
  · omega
  · split
    · right; omega
    · left; rfl
end Go.TrRun

/- What the laws' kit makes of numbers: a blob. -/
set_option linter.unusedVariables false
set_option linter.unusedSimpArgs false
set_option maxRecDepth 10000
namespace Go.TrRun
open Go Go.Eng

theorem tdiv4 {n : Int} (h : In64 n) : IntKind.i64.wrap (n.tdiv 4) = n.tdiv 4 := by
  obtain ⟨h1, h2⟩ := h
  have e := @Int.tdiv_eq_ediv n 4
  have : -4000000000000000000 ≤ n.tdiv 4 ∧ n.tdiv 4 ≤ 4000000000000000000 := by
    rw [e]
    split
    · omega
    · have : Int.sign 4 = 1 := rfl
      omega
  exact i64_id _ (by omega) (by omega)
theorem R_rLengthF {m : GMap} (h : Good m) {x : Int} (hx : 0 ≤ x ∧ x < m.lanes.length) : R L Cs f_kerbstoneref03_Length [.a (mapC m), W x] [] = some (.w (W (lenF m x)), []) := by
  obtain ⟨n, rfl⟩ := Int.eq_ofNat_of_zero_le hx.1
  have hn : n < m.lanes.length := by omega
  have e : lenF m n = m.lanes[n].len := by simp [lenF, hn]
  rw [e]; exact R_refLength h hn
set_option maxHeartbeats 2000000 in
theorem R_kitBlob {m : GMap} (h : Good m) (hne : 0 < m.lanes.length) (x : Bit) (hx : In64 x.hold) : R L Cs f_kerbstonekit_Blob [.a (mapC m), .a (bitC x)] [] = some (.w (.a (blobC (bitB m x))), []) := by
  have hsm := h.small.lanes
  have g1 := R_ModG x.lane m.lanes.length (by omega) (by omega)
  have h1 := mod_rng x.lane m.lanes.length (by omega)
  have h2 := lenF_le h h1
  have g2 := R_rLengthF h h1
  simp only [bitB, blobC]
  generalize x.lane % (m.lanes.length : Int) = ln at *
  obtain ⟨j, rfl⟩ := Int.eq_ofNat_of_zero_le h1.1
  have hj : j < m.lanes.length := by omega
  have eK : kindF m (j : Int) = m.lanes[j].kind := by simp [kindF, hj]
  have g3 := R_refBounds (h.kind _ (List.getElem_mem hj))
  have h3 := topV_le m.lanes[j].kind
  rw [eK]
  generalize lenF m (j : Int) = n at *
  generalize hv : topV m.lanes[j].kind = v at *
  have w1 : IntKind.i64.wrap (n + 1) = n + 1 := i64_id _ (by omega) (by omega)
  have g4 := R_Mod64 x.lo (n + 1) (by omega) (by omega)
  have h4 := mod_rng x.lo (n + 1) (by omega)
  generalize x.lo % (n + 1) = lo at *
  have w2 : IntKind.i64.wrap (n - lo) = n - lo := i64_id _ (by omega) (by omega)
  have w3 : IntKind.i64.wrap (n - lo + 1) = n - lo + 1 := i64_id _ (by omega) (by omega)
  have g5 := R_Mod64 x.span (n - lo + 1) (by omega) (by omega)
  have h5 := mod_rng x.span (n - lo + 1) (by omega)
  generalize x.span % (n - lo + 1) = sp at *
  have w4 : IntKind.i64.wrap (lo + sp) = lo + sp := i64_id _ (by omega) (by omega)
  have w5 : IntKind.i64.wrap (v + 1) = v + 1 := i64_id _ (by omega) (by omega)
  have g6 := R_Mod64 x.v (v + 1) (by omega) (by omega)
  have h6 := mod_rng x.v (v + 1) (by omega)
  generalize x.v % (v + 1) = vlo at *
  have w6 : IntKind.i64.wrap (v - vlo) = v - vlo := i64_id _ (by omega) (by omega)
  have w7 : IntKind.i64.wrap (v - vlo + 1) = v - vlo + 1 := i64_id _ (by omega) (by omega)
  have g7 := R_Mod64 x.more (v - vlo + 1) (by omega) (by omega)
  have h7 := mod_rng x.more (v - vlo + 1) (by omega)
  generalize x.more % (v - vlo + 1) = mo at *
  have w8 : IntKind.i64.wrap (vlo + mo) = vlo + mo := i64_id _ (by omega) (by omega)
  have g8 := R_Mod64 x.hold 4 (by omega) (by omega)
  have w9 : IntKind.i64.wrap (n - (lo + sp)) = n - (lo + sp) := i64_id _ (by omega) (by omega)
  have w10 : IntKind.i64.wrap (n - (lo + sp) + 1) = n - (lo + sp) + 1 := i64_id _ (by omega) (by omega)
  have wq := tdiv4 hx
  have g9 := R_Mod64 (x.hold.tdiv 4) (n - (lo + sp) + 1) (by omega) (by omega)
  have h9 := mod_rng (x.hold.tdiv 4) (n - (lo + sp) + 1) (by omega)
  generalize x.hold.tdiv 4 % (n - (lo + sp) + 1) = ho at *
  have w11 : IntKind.i64.wrap (lo + sp + ho) = lo + sp + ho := i64_id _ (by omega) (by omega)
  simp only [mapC] at g2
  rw [R_fn F_kerbstonekit_Blob rfl]
  by_cases c : x.hold % 4 = 0
  · simp [c_kerbstonekit_Blob, bitC, mapC, laneC, g1, g2, g3, g4, g5, g6, g7, g8, g9, w1, w2, w3, w4, w5, w6, w7, w8, w9, w10, w11, wq, hj, hv, c, newAt]
  · have cb : (x.hold % 4 == 0) = false := by simp [c]
    simp [c_kerbstonekit_Blob, bitC, mapC, laneC, g1, g2, g3, g4, g5, g6, g7, g8, w1, w2, w3, w4, w5, w6, w7, w8, hj, hv, c, cb, newAt]
end Go.TrRun

/- What the laws' kit makes of numbers: a route. -/
set_option linter.unusedVariables false
set_option linter.unusedSimpArgs false
set_option maxRecDepth 10000
namespace Go.TrRun
open Go Go.Eng

theorem origins_loop {m : GMap} (h : Good m) : ∀ (r : List Lane) (i : Nat) (out : List Int), m.lanes.drop i = r → i ≤ m.lanes.length → out.length ≤ i →
    Y L Cs c_kerbstoneref03_Origins_l1 (some [3, 4, 1]) 3 [(3, .w (.c (sl 2 1 (rowsI out)))), (4, .w (W i)), (1, .w (Pt 0))] [bx 5 (mapC m), gb 1, some (own 1 (rowsI out))] =
      some (.exit 0, [(9, .w (Bo false)), (3, .w (.c (sl 2 1 (rowsI (out ++ srcF m i r))))), (4, .w (W m.lanes.length)), (1, .w (Pt 0))], [bx 5 (mapC m), gb 1, some (own 1 (rowsI (out ++ srcF m i r)))]) := by
  intro r
  induction r with
  | nil =>
    intro i out hd hi ho
    obtain rfl := drop_nil hd hi
    rw [Y_step c_kerbstoneref03_Origins_l1.eq_1]
    simp [srcF, mapC]
  | cons l r ih =>
    intro i out hd hi ho
    obtain ⟨hil, hl, hd'⟩ := drop_cons hd
    have hn := h.small.lanes
    have hw := wrap_succ (i := i) (by omega)
    have hb := R_refbefore m i (by omega) (fun l hl => by have := h.small.next l hl; omega)
    simp only [mapC] at hb
    have hroom : (out.length + 1) * 8 ≤ 140737488355328 := by omega
    rw [srcF]
    by_cases he : befF i 0 m.lanes = []
    · rw [if_pos he, show out ++ (i : Int) :: srcF m (i + 1) r = (out ++ [(i : Int)]) ++ srcF m (i + 1) r by simp, ← ih (i + 1) (out ++ [(i : Int)]) hd' hil (by simp; omega), Y_step c_kerbstoneref03_Origins_l1.eq_1]
      rw [he] at hb
      simp at hb
      simp [hil, mapC, hb, hw, hroom, newAt, memBelow]
    · rw [if_neg he, ← ih (i + 1) out hd' hil (by omega), Y_step c_kerbstoneref03_Origins_l1.eq_1]
      have hz : (((befF i 0 m.lanes).length : Int) == 0) = false := by
        have : 0 < (befF i 0 m.lanes).length := List.length_pos_iff.2 he
        exact beq_false_of_ne (by omega)
      simp [hil, mapC, hb, hw, he, hz, newAt, memBelow]
theorem R_Origins {m : GMap} (h : Good m) : R L Cs f_kerbstoneref03_Origins [.a (mapC m)] [] = some (.w (.c (.rslice (rowsI (srcF m 0 m.lanes)))), []) := by
  have hl := origins_loop h m.lanes 0 [] rfl (Nat.zero_le _) (Nat.zero_le _)
  simp only [mapC, Int.natCast_zero, List.nil_append, rowsI_nil, sl, own, List.length_nil, rowsI_len] at hl
  rw [R_fn F_kerbstoneref03_Origins rfl]
  simp [c_kerbstoneref03_Origins, mapC, hl, newAt]
theorem wrap_small {q : Nat} (h : q < 2000000) : IntKind.i64.wrap (q : Int) = (q : Int) := i64_id _ (by omega) (by omega)
def nextF (m : GMap) (a : Int) : List Int := ((m.lanes[a.toNat]?).map Lane.next).getD []
def goR (m : GMap) : Nat → Int → Nat → List Int
  | 0, _, _ => []
  | f + 1, a, n => if (nextF m a).length = 0 then [] else (nextF m a).getD (n % (nextF m a).length) 0 :: goR m f ((nextF m a).getD (n % (nextF m a).length) 0) (n / (nextF m a).length)
theorem goR_len (m : GMap) : ∀ (f : Nat) (a : Int) (n : Nat), (goR m f a n).length ≤ f
  | 0, _, _ => by simp [goR]
  | f + 1, a, n => by
    unfold goR; split
    · simp
    · have := goR_len m f ((nextF m a).getD (n % (nextF m a).length) 0) (n / (nextF m a).length)
      rw [List.length_cons]; omega
set_option maxHeartbeats 1000000 in
theorem kroute_loop {m : GMap} (h : Good m) : ∀ (f : Nat) (a : Int) (n : Nat) (out : List Int), out.length + f = 8 → 0 ≤ a → a < m.lanes.length → n < 2000000 →
    ∃ b t, Y L Cs c_kerbstonekit_Route_l1 (some [6, 1, 7, 2]) 3 [(6, .w (W a)), (1, .w (W n)), (7, .w (.c (sl 2 1 (rowsI out)))), (2, .w (Pt 0))] [bx 5 (mapC m), gb 1, some (own 1 (rowsI out))] =
      some (.exit 0, [(41, .w (Bo false)), (6, .w (W b)), (1, .w (W t)), (7, .w (.c (sl 2 1 (rowsI (out ++ goR m f a n))))), (2, .w (Pt 0))], [bx 5 (mapC m), gb 1, some (own 1 (rowsI (out ++ goR m f a n)))]) := by
  intro f
  induction f with
  | zero =>
    intro a n out hf ha1 ha2 hn
    obtain ⟨j, rfl⟩ := Int.eq_ofNat_of_zero_le ha1
    have hj : j < m.lanes.length := by omega
    refine ⟨(j : Int), (n : Int), ?_⟩
    rw [Y_step c_kerbstonekit_Route_l1.eq_1]
    have h8 : ¬ ((out.length : Int) < 8) := by omega
    by_cases c : 0 < m.lanes[j].next.length
    · simp [goR, mapC, laneC, hj, c, h8]
    · simp [goR, mapC, laneC, hj, c]
  | succ f ih =>
    intro a n out hf ha1 ha2 hn
    obtain ⟨j, rfl⟩ := Int.eq_ofNat_of_zero_le ha1
    have hj : j < m.lanes.length := by omega
    have h8 : (out.length : Int) < 8 := by omega
    have en : nextF m (j : Int) = m.lanes[j].next := by simp [nextF, hj]
    by_cases c : 0 < m.lanes[j].next.length
    · have hk := h.small.next _ (List.getElem_mem hj)
      have hm : n % m.lanes[j].next.length < m.lanes[j].next.length := Nat.mod_lt _ c
      have hq : n / m.lanes[j].next.length ≤ n := Nat.div_le_self _ _
      have hval := h.small.valid _ (List.getElem_mem hj) _ (List.getElem_mem hm)
      rw [goR, en, if_neg (by omega)]
      have eg : m.lanes[j].next.getD (n % m.lanes[j].next.length) 0 = m.lanes[j].next[n % m.lanes[j].next.length] := by simp [List.getD_eq_getElem?_getD, hm]
      rw [eg]
      obtain ⟨b, t, hy⟩ := ih (m.lanes[j].next[n % m.lanes[j].next.length]) (n / m.lanes[j].next.length) (out ++ [m.lanes[j].next[n % m.lanes[j].next.length]]) (by simp; omega) hval.1 hval.2 (by omega)
      refine ⟨b, t, ?_⟩
      rw [show out ++ (m.lanes[j].next[n % m.lanes[j].next.length] :: goR m f m.lanes[j].next[n % m.lanes[j].next.length] (n / m.lanes[j].next.length)) = (out ++ [m.lanes[j].next[n % m.lanes[j].next.length]]) ++ goR m f m.lanes[j].next[n % m.lanes[j].next.length] (n / m.lanes[j].next.length) by simp, ← hy, Y_step c_kerbstonekit_Route_l1.eq_1]
      clear ih hy
      have e1 : (n : Int).tmod (m.lanes[j].next.length : Int) = ((n % m.lanes[j].next.length : Nat) : Int) := by
        rw [Int.tmod_eq_emod_of_nonneg (by omega)]; rfl
      have e2 : (n : Int).tdiv (m.lanes[j].next.length : Int) = ((n / m.lanes[j].next.length : Nat) : Int) := by
        rw [Int.tdiv_eq_ediv_of_nonneg (by omega)]; rfl
      have e3 : IntKind.i64.wrap ((n / m.lanes[j].next.length : Nat) : Int) = ((n / m.lanes[j].next.length : Nat) : Int) := wrap_small (by omega)
      have hz : ((m.lanes[j].next.length : Int) == 0) = false := beq_false_of_ne (by omega)
      have hz' : (m.lanes[j].next.length : Int) ≠ 0 := by omega
      have hz'' : m.lanes[j].next ≠ [] := List.length_pos_iff.1 c
      have hroom : (out.length + 1) * 8 ≤ 140737488355328 := by omega
      generalize hq2 : n / m.lanes[j].next.length = q at *
      generalize hm2 : n % m.lanes[j].next.length = p at *
      generalize hln : m.lanes[j] = ln at *
      simp [mapC, laneC, hj, hln, c, h8, e1, e2, e3, hz, hz', hz'', hm, hroom, newAt, memBelow]
    · refine ⟨(j : Int), (n : Int), ?_⟩
      rw [goR, en, if_pos (by omega), Y_step c_kerbstonekit_Route_l1.eq_1]
      simp [mapC, laneC, hj, c]
end Go.TrRun

/- What the laws' kit makes of numbers: routes on roads, places. -/
set_option linter.unusedVariables false
set_option linter.unusedSimpArgs false
set_option maxRecDepth 10000
namespace Go.TrRun
open Go Go.Eng

def routeK (m : GMap) (n : Int) : List Int :=
  if srcF m 0 m.lanes = [] then [] else
  (srcF m 0 m.lanes).getD ((n % 1048576).toNat % (srcF m 0 m.lanes).length) 0 :: goR m 7 ((srcF m 0 m.lanes).getD ((n % 1048576).toNat % (srcF m 0 m.lanes).length) 0) ((n % 1048576).toNat / (srcF m 0 m.lanes).length)
theorem routeK_len (m : GMap) (n : Int) : (routeK m n).length ≤ 8 := by
  unfold routeK
  split
  · simp
  · rw [List.length_cons]; have := goR_len m 7 ((srcF m 0 m.lanes).getD ((n % 1048576).toNat % (srcF m 0 m.lanes).length) 0) ((n % 1048576).toNat / (srcF m 0 m.lanes).length); omega
theorem goR_on {m : GMap} (h : Good m) : ∀ (f : Nat) (a : Int) (n : Nat), 0 ≤ a ∧ a < m.lanes.length → OnMap m (goR m f a n)
  | 0, _, _, _ => by intro x hx; cases hx
  | f + 1, a, n, ha => by
    obtain ⟨j, rfl⟩ := Int.eq_ofNat_of_zero_le ha.1
    have hj : j < m.lanes.length := by omega
    have en : nextF m (j : Int) = m.lanes[j].next := by simp [nextF, hj]
    unfold goR
    rw [en]
    split
    · intro x hx; cases hx
    · rename_i c
      have hm : n % m.lanes[j].next.length < m.lanes[j].next.length := Nat.mod_lt _ (by omega)
      have eg : m.lanes[j].next.getD (n % m.lanes[j].next.length) 0 = m.lanes[j].next[n % m.lanes[j].next.length] := by simp [List.getD_eq_getElem?_getD, hm]
      have hval := h.small.valid _ (List.getElem_mem hj) _ (List.getElem_mem hm)
      rw [eg]
      intro x hx
      rcases List.mem_cons.1 hx with rfl | hx
      · exact hval
      · exact goR_on h f _ _ hval x hx
theorem src_at {m : GMap} (hne : srcF m 0 m.lanes ≠ []) (N : Nat) : 0 ≤ (srcF m 0 m.lanes).getD (N % (srcF m 0 m.lanes).length) 0 ∧ (srcF m 0 m.lanes).getD (N % (srcF m 0 m.lanes).length) 0 < m.lanes.length := by
  have h0 : 0 < (srcF m 0 m.lanes).length := List.length_pos_iff.2 hne
  have hm : N % (srcF m 0 m.lanes).length < (srcF m 0 m.lanes).length := Nat.mod_lt _ h0
  have eg : (srcF m 0 m.lanes).getD (N % (srcF m 0 m.lanes).length) 0 = (srcF m 0 m.lanes)[N % (srcF m 0 m.lanes).length] := by simp [List.getD_eq_getElem?_getD, hm]
  rw [eg]
  exact srcF_on m m.lanes 0 (by omega) _ (List.getElem_mem hm)
theorem routeK_on {m : GMap} (h : Good m) (n : Int) : OnMap m (routeK m n) := by
  unfold routeK
  split
  · intro x hx; cases hx
  · rename_i hne
    have hs := src_at hne (n % 1048576).toNat
    intro x hx
    rcases List.mem_cons.1 hx with rfl | hx
    · exact hs
    · exact goR_on h _ _ _ hs x hx
set_option maxHeartbeats 1000000 in
theorem R_Route {m : GMap} (h : Good m) (n : Int) : R L Cs f_kerbstonekit_Route [.a (mapC m), W n] [] = some (.w (.c (.rslice (rowsI (routeK m n)))), []) := by
  have ho := R_Origins h
  have hm := R_ModG n 1048576 (by omega) (by omega)
  have hr := mod_rng n 1048576 (by omega)
  have hlen := srcF_len m m.lanes 0
  have hsm := h.small.lanes
  unfold routeK
  rw [R_fn F_kerbstonekit_Route rfl]
  by_cases c : srcF m 0 m.lanes = []
  · rw [c] at ho
    simp only [mapC, rowsI_nil] at ho ⊢
    simp [c_kerbstonekit_Route, ho, c, newAt]
  · have hs := src_at c (n % 1048576).toNat
    rw [if_neg c]
    generalize n % 1048576 = N at *
    obtain ⟨N, rfl⟩ := Int.eq_ofNat_of_zero_le hr.1
    generalize srcF m 0 m.lanes = l at *
    have h0 : 0 < l.length := List.length_pos_iff.2 c
    have hml : N % l.length < l.length := Nat.mod_lt _ h0
    have hq : N / l.length ≤ N := Nat.div_le_self _ _
    simp only [Int.toNat_natCast] at *
    have eg : l.getD (N % l.length) 0 = l[N % l.length] := by simp [List.getD_eq_getElem?_getD, hml]
    rw [eg] at hs ⊢
    obtain ⟨b, t, hy⟩ := kroute_loop h 7 l[N % l.length] (N / l.length) [l[N % l.length]] rfl hs.1 hs.2 (by omega)
    have e1 : (N : Int).tmod (l.length : Int) = ((N % l.length : Nat) : Int) := by
      rw [Int.tmod_eq_emod_of_nonneg (by omega)]; rfl
    have e2 : (N : Int).tdiv (l.length : Int) = ((N / l.length : Nat) : Int) := by
      rw [Int.tdiv_eq_ediv_of_nonneg (by omega)]; rfl
    have e3 : IntKind.i64.wrap ((N / l.length : Nat) : Int) = ((N / l.length : Nat) : Int) := wrap_small (by omega)
    have hz : ((l.length : Int) == 0) = false := beq_false_of_ne (by omega)
    have hz' : (l.length : Int) ≠ 0 := by omega
    generalize hq2 : N / l.length = q at *
    generalize hm2 : N % l.length = p at *
    simp only [mapC, sl, own, rowsI_cons, rowsI_nil, rowsI_len, List.length_cons, List.length_nil] at ho hy ⊢
    simp [c_kerbstonekit_Route, ho, hm, c, hz, hz', e1, e2, e3, hml, hy, newAt]
theorem R_rRouteLen {m : GMap} (h : Good m) (l : List Int) (hl : l.length ≤ 1000) : R L Cs f_kerbstoneref03_RouteLength [.a (mapC m), .c (.rslice (rowsI l))] [] = some (.w (W (if routeF m l = 0 then endF m 0 l else 0)), []) := by
  by_cases c : routeF m l = 0
  · rw [if_pos c]; exact R_refRouteLength h c
  · have hck := R_refCheckRoute m h.small h.rchk l hl
    rw [if_neg c]
    simp only [mapC] at hck
    have c0' : (routeF m l == 0) = false := by simp [c]
    rw [R_fn F_kerbstoneref03_RouteLength rfl]
    simp [c_kerbstoneref03_RouteLength, mapC, hck, c, c0']
def placeF (len s v spread : Int) : Ego := ⟨max 0 (s % (len + 1) - (spread % 2000) / 2), min len (s % (len + 1) + spread % 2000 - (spread % 2000) / 2), max 0 (v % 2001 - (spread % 2000) / 40), min 2000 (v % 2001 + (spread % 2000) / 50)⟩
theorem R_Place (len s v spread : Int) (h1 : 0 ≤ len) (h2 : len ≤ 100000000) : R L Cs f_kerbstonekit_Place [W len, W s, W v, W spread] [] = some (.w (.a (egoR (placeF len s v spread))), []) := by
  have g1 := R_Mod64 s (len + 1) (by omega) (by omega)
  have g2 := R_Mod64 v 2001 (by omega) (by omega)
  have g3 := R_Mod64 spread 2000 (by omega) (by omega)
  have r1 := mod_rng s (len + 1) (by omega)
  have r2 := mod_rng v 2001 (by omega)
  have r3 := mod_rng spread 2000 (by omega)
  have w0 : IntKind.i64.wrap (len + 1) = len + 1 := i64_id _ (by omega) (by omega)
  unfold placeF
  generalize s % (len + 1) = s at *
  generalize v % 2001 = v at *
  generalize spread % 2000 = p at *
  have d1 : p.tdiv 2 = p / 2 := Int.tdiv_eq_ediv_of_nonneg r3.1
  have d2 : p.tdiv 40 = p / 40 := Int.tdiv_eq_ediv_of_nonneg r3.1
  have d3 : p.tdiv 50 = p / 50 := Int.tdiv_eq_ediv_of_nonneg r3.1
  have q1 : IntKind.i64.wrap (p / 2) = p / 2 := i64_id _ (by omega) (by omega)
  have q2 : IntKind.i64.wrap (p / 40) = p / 40 := i64_id _ (by omega) (by omega)
  have q3 : IntKind.i64.wrap (p / 50) = p / 50 := i64_id _ (by omega) (by omega)
  have w1 : IntKind.i64.wrap (s - p / 2) = s - p / 2 := i64_id _ (by omega) (by omega)
  have w2 : IntKind.i64.wrap (s + p) = s + p := i64_id _ (by omega) (by omega)
  have w3 : IntKind.i64.wrap (s + p - p / 2) = s + p - p / 2 := i64_id _ (by omega) (by omega)
  have w4 : IntKind.i64.wrap (v - p / 40) = v - p / 40 := i64_id _ (by omega) (by omega)
  have w5 : IntKind.i64.wrap (v + p / 50) = v + p / 50 := i64_id _ (by omega) (by omega)
  rw [R_fn F_kerbstonekit_Place rfl]
  simp [c_kerbstonekit_Place, g1, g2, g3, w0, w1, w2, w3, w4, w5, d1, d2, d3, q1, q2, q3, newAt]
end Go.TrRun

/- What the laws' kit makes of numbers: routes on roads, knowledge. -/
set_option linter.unusedVariables false
set_option linter.unusedSimpArgs false
set_option maxRecDepth 10000
namespace Go.TrRun
open Go Go.Eng

set_option maxHeartbeats 1000000 in
theorem road_loop {m : GMap} (h : Good m) (n : Int) : ∀ (f i : Nat), i + f = 4 →
    (Y L Cs c_kerbstonekit_RoadRoute_l1 (some [1, 2, 5]) 2 [(1, .w (W n)), (2, .w (Pt 0)), (5, .w (W i))] [bx 5 (mapC m), gb 1] =
      some (.exit 0, [(8, .w (Bo false)), (2, .w (Pt 0)), (1, .w (W n)), (5, .w (W 4))], [bx 5 (mapC m), gb 1])) ∨
    (∃ k, Y L Cs c_kerbstonekit_RoadRoute_l1 (some [1, 2, 5]) 2 [(1, .w (W n)), (2, .w (Pt 0)), (5, .w (W i))] [bx 5 (mapC m), gb 1] =
      some (.ret, [(4, .w (.c (.rslice (rowsI (routeK m k)))))], [bx 5 (mapC m), gb 1])) := by
  intro f
  induction f with
  | zero =>
    intro i hi
    obtain rfl : i = 4 := by omega
    left
    rw [Y_step c_kerbstonekit_RoadRoute_l1.eq_1]
    simp
  | succ f ih =>
    intro i hi
    have hi4 : (i : Int) < 4 := by omega
    have hw := wrap_succ (i := i) (by omega)
    have hm := R_ModG n 1048576 (by omega) (by omega)
    have hr := mod_rng n 1048576 (by omega)
    have hw2 : IntKind.i64.wrap (n % 1048576 + i) = n % 1048576 + i := i64_id _ (by omega) (by omega)
    have hR := R_Route h (n % 1048576 + i)
    have hon := routeK_on h (n % 1048576 + i)
    rw [Y_step c_kerbstonekit_RoadRoute_l1.eq_1]
    have ih' := ih (i + 1) (by omega)
    have hk : ∀ q, q = routeK m (n % 1048576 + i) → ∃ k, q = routeK m k := fun q hq => ⟨_, hq⟩
    generalize hq : routeK m (n % 1048576 + i) = q at *
    cases q with
    | nil =>
      rcases ih' with ih' | ⟨k, ih'⟩
      · left
        rw [← ih']
        simp only [mapC, rowsI_nil] at hR ⊢
        simp [hi4, hw, hm, hw2, hR]
      · right
        refine ⟨k, ?_⟩
        rw [← ih']
        simp only [mapC, rowsI_nil] at hR ⊢
        simp [hi4, hw, hm, hw2, hR]
    | cons x r =>
      have hx := hon x (by simp)
      obtain ⟨j, rfl⟩ := Int.eq_ofNat_of_zero_le hx.1
      have hj : j < m.lanes.length := by omega
      by_cases c : m.lanes[j].kind = 1
      · right
        refine ⟨n % 1048576 + i, ?_⟩
        rw [hq]
        simp only [mapC, rowsI_cons] at hR ⊢
        simp [hi4, hw, hm, hw2, hR, hj, laneC, c]
      · have cb : (m.lanes[j].kind == 1) = false := by simp [c]
        rcases ih' with ih' | ⟨k, ih'⟩
        · left
          rw [← ih']
          simp only [mapC, rowsI_cons] at hR ⊢
          simp [hi4, hw, hm, hw2, hR, hj, laneC, c, cb]
        · right
          refine ⟨k, ?_⟩
          rw [← ih']
          simp only [mapC, rowsI_cons] at hR ⊢
          simp [hi4, hw, hm, hw2, hR, hj, laneC, c, cb]
theorem R_RoadRoute {m : GMap} (h : Good m) (n : Int) : ∃ k, R L Cs f_kerbstonekit_RoadRoute [.a (mapC m), W n] [] = some (.w (.c (.rslice (rowsI (routeK m k)))), []) := by
  rw [R_fn F_kerbstonekit_RoadRoute rfl]
  rcases road_loop h n 4 0 rfl with hl | ⟨k, hl⟩
  · refine ⟨0, ?_⟩
    have hR := R_Route h 0
    simp only [mapC, Int.natCast_zero] at hl hR ⊢
    simp [c_kerbstonekit_RoadRoute, hl, hR]
  · refine ⟨k, ?_⟩
    simp only [mapC, Int.natCast_zero] at hl ⊢
    simp [c_kerbstonekit_RoadRoute, hl]
def rowsBit (l : List Bit) : List (List Cl) := l.map bitC
@[simp] theorem rowsBit_len (l : List Bit) : (rowsBit l).length = l.length := by simp [rowsBit]
@[simp] theorem rowsBit_getElem {l : List Bit} {i : Nat} (h : i < (rowsBit l).length) : (rowsBit l)[i] = bitC (l[i]'(by simpa using h)) := by simp [rowsBit]
@[simp] theorem bitC_len (b : Bit) : (bitC b).length = 6 := rfl
set_option maxHeartbeats 1000000 in
theorem known_loop {m : GMap} (h : Good m) (hne : 0 < m.lanes.length) (l : List Bit) (hl : l.length ≤ 100) (hh : ∀ x ∈ l, In64 x.hold) (spread v s tick : Int) (q : List (List Cl)) : ∀ (r : List Bit) (i : Nat) (out : List Blob), l.drop i = r → i ≤ l.length → out.length = i →
    Y L Cs c_kerbstonekit_Known_l1 (some [15, 16, 14, 6, 5, 4, 1, 3, 2, 7]) 3 [(15, .w (.c (sl 2 6 (rowsB out)))), (16, .w (W i)), (14, .w (Pt 1)), (6, .w (W spread)), (5, .w (W v)), (4, .w (W s)), (1, .w (.c (.rslice q))), (3, .w (W tick)), (2, .w (.c (.rslice (rowsBit l)))), (7, .w (Pt 0))] [bx 5 (mapC m), bx 6 zeroK, some (own 6 (rowsB out))] =
      some (.exit 0, [(20, .w (Bo false)), (15, .w (.c (sl 2 6 (rowsB (out ++ r.map (bitB m)))))), (16, .w (W l.length)), (14, .w (Pt 1)), (6, .w (W spread)), (5, .w (W v)), (4, .w (W s)), (1, .w (.c (.rslice q))), (3, .w (W tick)), (2, .w (.c (.rslice (rowsBit l)))), (7, .w (Pt 0))], [bx 5 (mapC m), bx 6 zeroK, some (own 6 (rowsB (out ++ r.map (bitB m))))]) := by
  intro r
  induction r with
  | nil =>
    intro i out hd hi ho
    obtain rfl := drop_nil hd hi
    rw [Y_step c_kerbstonekit_Known_l1.eq_1]
    simp
  | cons x r ih =>
    intro i out hd hi ho
    subst ho
    obtain ⟨hil, hx, hd'⟩ := drop_cons hd
    have hw := wrap_succ (i := out.length) (by omega)
    have hb := R_kitBlob h hne x (hh x (by rw [← hx]; exact List.getElem_mem _))
    have hroom : (out.length + 1) * 48 ≤ 140737488355328 := by omega
    rw [List.map_cons, show out ++ bitB m x :: r.map (bitB m) = (out ++ [bitB m x]) ++ r.map (bitB m) by simp, ← ih (out.length + 1) (out ++ [bitB m x]) hd' hil (by simp), Y_step c_kerbstonekit_Known_l1.eq_1]
    clear ih
    generalize bitB m x = b at *
    simp only [mapC, bitC, blobC] at hb
    simp [hil, hx, bitC, blobC, mapC, hb, hw, hroom, newAt, memBelow]
def knownF (m : GMap) (q : List Int) (l : List Bit) (tick s v spread : Int) : Know :=
  ⟨tick % 1000, refJoinF (l.map (bitB m)), placeF (if routeF m q = 0 then endF m 0 q else 0) s v spread⟩
set_option maxHeartbeats 1000000 in
theorem R_Known {m : GMap} (h : Good m) (hne : 0 < m.lanes.length) (q : List Int) (hq : q.length ≤ 8) (l : List Bit) (hl : l.length ≤ 100) (hh : ∀ x ∈ l, In64 x.hold) (tick s v spread : Int) :
    R L Cs f_kerbstonekit_Known [.a (mapC m), .c (.rslice (rowsI q)), .c (.rslice (rowsBit l)), W tick, W s, W v, W spread] [] = some (.w (.a (knowC (knownF m q l tick s v spread))), []) := by
  have h1 := known_loop h hne l hl hh spread v s tick (rowsI q) l 0 [] rfl (Nat.zero_le _) rfl
  have h2 := R_Mod64 tick 1000 (by omega) (by omega)
  have hfit : ∀ x ∈ l.map (bitB m), OKB x := by
    intro x hx
    obtain ⟨y, _, rfl⟩ := List.mem_map.1 hx
    have f := bitB_fits h hne y
    have g := lenF_le h f.lane
    have := f.lo; have := f.le; have := f.hi
    exact ⟨by omega, by omega, by omega, by omega⟩
  have h3 := R_refJoin (l.map (bitB m)) (by simp; omega) hfit
  have h4 := R_rRouteLen h q (by omega)
  have hL : 0 ≤ (if routeF m q = 0 then endF m 0 q else 0) ∧ (if routeF m q = 0 then endF m 0 q else 0) ≤ 100000000 := by
    split
    · rename_i c
      obtain ⟨hon, _, _⟩ := routeF_on h c
      have := endF_le h q 0 hon (by omega)
      omega
    · omega
  have h5 := R_Place (if routeF m q = 0 then endF m 0 q else 0) s v spread hL.1 hL.2
  have htk : List.take l.length (l.map (bitB m)) = l.map (bitB m) := List.take_of_length_le (by simp)
  unfold knownF
  generalize (if routeF m q = 0 then endF m 0 q else 0) = n at *
  generalize placeF n s v spread = e at *
  simp only [mapC, Int.natCast_zero, List.nil_append, rowsB_nil, sl, own, List.length_nil, rowsB_len, knowC, egoR, List.length_map] at h1 h3 h4 h5 ⊢
  rw [R_fn F_kerbstonekit_Known rfl]
  simp [c_kerbstonekit_Known, h1, h2, h3, h4, h5, newAt, htk, markOne]
end Go.TrRun

/- What is inside of what: the reference. -/
set_option linter.unusedVariables false
set_option linter.unusedSimpArgs false
set_option maxRecDepth 10000
namespace Go.TrRun
open Go Go.Eng

def inB (p q : Blob) : Bool := decide (p.lane = q.lane) && decide (q.lo ≤ p.lo) && decide (p.hi ≤ q.hi) && decide (q.vlo ≤ p.vlo) && decide (p.vhi ≤ q.vhi) && (decide (q.hold = 0) || decide (p.hold ≠ 0) && decide (p.hold ≤ q.hold))
theorem foldl_or {α : Type} (f : α → Bool) : ∀ (l : List α) (s : Bool), l.foldl (fun s q => s || f q) s = (s || l.any f)
  | [], s => by simp
  | x :: l, s => by rw [List.foldl_cons, foldl_or f l]; simp [Bool.or_assoc]
set_option maxHeartbeats 4000000 in
theorem inside_loop1 (a b : Know) (hb : b.blobs.length ≤ 100000) (p : Blob) (i : Int) :
    Y L Cs c_kerbstoneref05_Inside_l1 (some [9, 10, 7, 2, 3, 8]) 5 [(9, .w (Bo false)), (10, .w (W (0 : Nat))), (7, .w (W i)), (2, .w (Pt 0)), (3, .w (Pt 1)), (8, .w (Pt 4))] [bx 6 (knowC a), bx 6 (knowC b), bxv 1 4 (egoR a.ego), bxv 1 4 (egoR b.ego), bxv 1 6 (blobC p)] =
      some (.exit 2, [(65, .w (Bo false)), (9, .w (Bo (b.blobs.any (inB p)))), (10, .w (W b.blobs.length)), (7, .w (W i)), (2, .w (Pt 0)), (3, .w (Pt 1)), (8, .w (Pt 4))], [bx 6 (knowC a), bx 6 (knowC b), bxv 1 4 (egoR a.ego), bxv 1 4 (egoR b.ego), bxv 1 6 (blobC p)]) := by
  have q := Y_foldI (L := L) (Cs := Cs) (b := c_kerbstoneref05_Inside_l1) (live := some [9, 10, 7, 2, 3, 8]) (n0 := 5) b.blobs
    (fun k s => [(9, .w (Bo s)), (10, .w (W k)), (7, .w (W i)), (2, .w (Pt 0)), (3, .w (Pt 1)), (8, .w (Pt 4))]) (fun _ _ => [bx 6 (knowC a), bx 6 (knowC b), bxv 1 4 (egoR a.ego), bxv 1 4 (egoR b.ego), bxv 1 6 (blobC p)]) (fun _ _ => True) (fun _ s q => s || inB p q)
    (fun s => (.exit 2, [(65, .w (Bo false)), (9, .w (Bo s)), (10, .w (W b.blobs.length)), (7, .w (W i)), (2, .w (Pt 0)), (3, .w (Pt 1)), (8, .w (Pt 4))], [bx 6 (knowC a), bx 6 (knowC b), bxv 1 4 (egoR a.ego), bxv 1 4 (egoR b.ego), bxv 1 6 (blobC p)])) ?_ ?_ (s0 := false) trivial
  · rw [foldI_const, foldl_or, Bool.false_or] at q
    exact q
  · intro k hk s _
    refine ⟨trivial, ?_⟩
    have hww := wrap_succ (i := k) (by omega)
    simp only [knowC, egoR, blobC]
    rw [Y_step c_kerbstoneref05_Inside_l1.eq_1]
    generalize hwk : b.blobs[k] = w
    obtain ⟨wl, wlo, whi, wv, wV, wh⟩ := w
    obtain ⟨pl, plo, phi, pv, pV, ph⟩ := p
    cases s with
    | true => simp [hk, hwk, hww, blobC, newAt]
    | false =>
      simp only [inB]
      by_cases c1 : pl = wl
      · subst c1
        by_cases c2 : wlo ≤ plo
        · by_cases c3 : phi ≤ whi
          · by_cases c4 : wv ≤ pv
            · by_cases c5 : pV ≤ wV
              · by_cases c6 : wh = 0
                · simp [hk, hwk, hww, blobC, newAt, c2, c3, c4, c5, c6]
                · have b6 : (wh == 0) = false := by simp [c6]
                  by_cases c7 : ph = 0
                  · simp [hk, hwk, hww, blobC, newAt, c2, c3, c4, c5, c6, b6, c7]
                  · have b7 : (ph == 0) = false := by simp [c7]
                    have b7' : (ph != 0) = true := by simp [c7]
                    by_cases c8 : ph ≤ wh
                    · simp [hk, hwk, hww, blobC, newAt, c2, c3, c4, c5, c6, b6, c7, b7, b7', c8]
                    · simp [hk, hwk, hww, blobC, newAt, c2, c3, c4, c5, c6, b6, c7, b7, b7', c8]
              · simp [hk, hwk, hww, blobC, newAt, c2, c3, c4, c5]
            · simp [hk, hwk, hww, blobC, newAt, c2, c3, c4]
          · simp [hk, hwk, hww, blobC, newAt, c2, c3]
        · simp [hk, hwk, hww, blobC, newAt, c2]
      · have b1 : (pl == wl) = false := by simp [c1]
        simp [hk, hwk, hww, blobC, newAt, c1, b1]
  · intro s _
    simp only [knowC, egoR, blobC]
    rw [Y_step c_kerbstoneref05_Inside_l1.eq_1]
    simp
set_option maxHeartbeats 1000000 in
theorem inside_loop2 (a b : Know) (ha : a.blobs.length ≤ 100000) (hb : b.blobs.length ≤ 100000) : ∀ (r : List Blob) (i : Nat), a.blobs.drop i = r → i ≤ a.blobs.length →
    ∃ M', Y L Cs c_kerbstoneref05_Inside_l2 (some [7, 2, 3]) 4 [(7, .w (W i)), (2, .w (Pt 0)), (3, .w (Pt 1))] [bx 6 (knowC a), bx 6 (knowC b), bxv 1 4 (egoR a.ego), bxv 1 4 (egoR b.ego)] =
      if r.all (fun p => b.blobs.any (inB p)) then some (.exit 0, [(53, .w (Bo false)), (7, .w (W a.blobs.length)), (2, .w (Pt 0)), (3, .w (Pt 1))], [bx 6 (knowC a), bx 6 (knowC b), bxv 1 4 (egoR a.ego), bxv 1 4 (egoR b.ego)])
      else some (.ret, [(4, .w (Bo false))], M') := by
  intro r
  induction r with
  | nil =>
    intro i hd hi
    obtain rfl := drop_nil hd hi
    refine ⟨[], ?_⟩
    simp only [knowC, egoR]
    rw [Y_step c_kerbstoneref05_Inside_l2.eq_1]
    simp
  | cons p r ih =>
    intro i hd hi
    obtain ⟨hil, hp, hd'⟩ := drop_cons hd
    have hw := wrap_succ (i := i) (by omega)
    have h1 := inside_loop1 a b hb p i
    obtain ⟨M', ih'⟩ := ih (i + 1) hd' hil
    rw [List.all_cons]
    generalize b.blobs.any (inB p) = s at *
    generalize r.all (fun p => b.blobs.any (inB p)) = t at *
    simp only [knowC, egoR, blobC, Int.natCast_zero] at h1 ih' ⊢
    cases s with
    | true =>
      refine ⟨M', ?_⟩
      rw [Bool.true_and, ← ih', Y_step c_kerbstoneref05_Inside_l2.eq_1]
      simp [hil, hp, hw, blobC, newAt, h1]
    | false =>
      refine ⟨[bx 6 (knowC a), bx 6 (knowC b), bxv 1 4 (egoR a.ego), bxv 1 4 (egoR b.ego), bxv 1 6 (blobC p)], ?_⟩
      rw [Y_step c_kerbstoneref05_Inside_l2.eq_1]
      simp [hil, hp, hw, blobC, knowC, newAt, h1]
def outE (x y : Ego) : Bool := decide (x.slo < y.slo) || decide (y.shi < x.shi) || decide (x.vlo < y.vlo) || decide (y.vhi < x.vhi)
def insideK (a b : Know) : Bool := decide (a.tick = b.tick) && !outE a.ego b.ego && a.blobs.all (fun p => b.blobs.any (inB p))
set_option maxHeartbeats 1000000 in
theorem R_refInside (a b : Know) (ha : a.blobs.length ≤ 100000) (hb : b.blobs.length ≤ 100000) : R L Cs f_kerbstoneref05_Inside [.a (knowC a), .a (knowC b)] [] = some (.w (Bo (insideK a b)), []) := by
  obtain ⟨M', h2⟩ := inside_loop2 a b ha hb a.blobs 0 rfl (Nat.zero_le _)
  rw [R_fn F_kerbstoneref05_Inside rfl]
  simp only [insideK, outE]
  generalize a.blobs.all (fun p => b.blobs.any (inB p)) = t at *
  simp only [knowC, egoR, Int.natCast_zero] at h2 ⊢
  by_cases c1 : a.tick = b.tick
  · rw [c1] at h2 ⊢
    by_cases c2 : a.ego.slo < b.ego.slo
    · simp [c_kerbstoneref05_Inside, newAt, c2]
    · by_cases c3 : b.ego.shi < a.ego.shi
      · simp [c_kerbstoneref05_Inside, newAt, c2, c3]
      · by_cases c4 : a.ego.vlo < b.ego.vlo
        · simp [c_kerbstoneref05_Inside, newAt, c2, c3, c4]
        · by_cases c5 : b.ego.vhi < a.ego.vhi
          · simp [c_kerbstoneref05_Inside, newAt, c2, c3, c4, c5]
          · cases t with
            | true => simp [c_kerbstoneref05_Inside, newAt, c2, c3, c4, c5, h2]
            | false => simp [c_kerbstoneref05_Inside, newAt, c2, c3, c4, c5, h2]
  · have b1 : (a.tick == b.tick) = false := by simp [c1]
    have b2 : (a.tick != b.tick) = true := by simp [c1]
    simp [c_kerbstoneref05_Inside, newAt, c1, b1, b2]
end Go.TrRun

/- What joined blobs are: apart, and the same places. -/
set_option linter.unusedVariables false
set_option linter.unusedSimpArgs false
set_option maxRecDepth 10000
namespace Go.TrRun
open Go Go.Eng

def hasB (ln x : Int) (b : Blob) : Bool := decide (b.lane = ln) && decide (b.lo ≤ x) && decide (x ≤ b.hi)
def Ord (a b : Blob) : Prop := a.lane < b.lane ∨ a.lane = b.lane ∧ a.lo ≤ b.lo
def Apart (a b : Blob) : Prop := a.lane < b.lane ∨ a.lane = b.lane ∧ a.hi + 1 < b.lo
theorem Ord.trans {a b c : Blob} (h : Ord a b) (g : Ord b c) : Ord a c := by unfold Ord at *; omega
theorem not_lt {x s : Blob} (h : ltB x s = false) : Ord s x := by
  unfold ltB at h; unfold Ord; simp at h; omega
theorem lt_ord {x s : Blob} (h : ltB x s = true) : Ord x s := by
  unfold ltB at h; unfold Ord; simp at h; omega
theorem insAt_spec (x : Blob) (s : List Blob) : ∀ a, a ≤ s.length → (∀ j, insAt x s a ≤ j → j < a → ltB x (s.getD j zeroB) = true) ∧ (insAt x s a = 0 ∨ ltB x (s.getD (insAt x s a - 1) zeroB) = false)
  | 0, _ => ⟨fun j h1 h2 => absurd h2 (Nat.not_lt_zero _), .inl rfl⟩
  | a + 1, h => by
    have ih := insAt_spec x s a (by omega)
    unfold insAt
    split
    · rename_i hc
      refine ⟨fun j h1 h2 => ?_, ih.2⟩
      by_cases e : j = a
      · subst e; exact hc
      · exact ih.1 j h1 (by omega)
    · rename_i hc
      refine ⟨fun j h1 h2 => by omega, .inr ?_⟩
      simpa using hc
theorem insB_ord {s : List Blob} {x : Blob} (hs : s.Pairwise Ord) : (insB s x).Pairwise Ord := by
  have hk := insAt_le x s s.length
  obtain ⟨h1, h2⟩ := insAt_spec x s s.length (Nat.le_refl _)
  unfold insB
  generalize insAt x s s.length = k at *
  rw [List.pairwise_append, List.pairwise_cons]
  have hsp : (s.take k ++ s.drop k).Pairwise Ord := by rw [List.take_append_drop]; exact hs
  rw [List.pairwise_append] at hsp
  have hafter : ∀ b ∈ s.drop k, Ord x b := by
    intro b hb
    obtain ⟨j, hj, rfl⟩ := List.mem_iff_getElem.1 hb
    rw [List.length_drop] at hj
    have := h1 (k + j) (by omega) (by omega)
    rw [List.getElem_drop]
    rw [List.getD_eq_getElem?_getD, List.getElem?_eq_getElem (by omega)] at this
    exact lt_ord this
  have hbefore : ∀ a ∈ s.take k, Ord a x := by
    intro a ha
    rcases h2 with h2 | h2
    · subst h2; simp at ha
    · have hk0 : 0 < k := by
        rcases Nat.eq_zero_or_pos k with e | e
        · subst e; simp at ha
        · exact e
      have hlast : k - 1 < s.length := by omega
      rw [List.getD_eq_getElem?_getD, List.getElem?_eq_getElem hlast] at h2
      have hl := not_lt h2
      obtain ⟨j, hj, rfl⟩ := List.mem_iff_getElem.1 ha
      rw [List.length_take] at hj
      rw [List.getElem_take]
      by_cases e : j = k - 1
      · subst e; exact hl
      · exact (List.pairwise_iff_getElem.1 hs j (k - 1) (by omega) (by omega) (by omega)).trans hl
  refine ⟨hsp.1, ⟨hafter, hsp.2.1⟩, ?_⟩
  intro a ha b hb
  rcases List.mem_cons.1 hb with rfl | hb
  · exact hbefore a ha
  · exact (hbefore a ha).trans (hafter b hb)
theorem sort_sorted : ∀ (l s : List Blob), s.Pairwise Ord → (l.foldl sortStep s).Pairwise Ord
  | [], s, h => h
  | x :: l, s, h => by
    rw [List.foldl_cons]
    refine sort_sorted l _ ?_
    unfold sortStep
    split
    · exact h
    · exact insB_ord h
theorem sort_any (ln y : Int) : ∀ (l s : List Blob), (∀ b ∈ l, b.lo ≤ b.hi) → (l.foldl sortStep s).any (hasB ln y) = (l.any (hasB ln y) || s.any (hasB ln y))
  | [], s, _ => by simp
  | x :: l, s, h => by
    rw [List.foldl_cons, sort_any ln y l _ fun b hb => h b (List.mem_cons_of_mem _ hb)]
    have hx := h x List.mem_cons_self
    have e : (sortStep s x).any (hasB ln y) = (hasB ln y x || s.any (hasB ln y)) := by
      unfold sortStep
      rw [if_neg (by unfold bad; simp; omega)]
      unfold insB
      rw [List.any_append, List.any_cons]
      have := List.take_append_drop (insAt x s s.length) s
      generalize insAt x s s.length = k at *
      have e2 : s.any (hasB ln y) = ((s.take k).any (hasB ln y) || (s.drop k).any (hasB ln y)) := by
        rw [← List.any_append, this]
      rw [e2]
      cases (s.take k).any (hasB ln y) <;> cases hasB ln y x <;> simp
    rw [e, List.any_cons]
    cases l.any (hasB ln y) <;> cases hasB ln y x <;> simp
theorem glueStep_nil (b : Blob) : glueStep [] b = [b] := by simp [glueStep]
theorem glueStep_snoc (o : List Blob) (a b : Blob) : glueStep (o ++ [a]) b = if far a b = false then o ++ [glue a b] else o ++ [a] ++ [b] := by
  unfold glueStep
  have e : (o ++ [a]).getD ((o ++ [a]).length - 1) zeroB = a := by simp [List.getD_eq_getElem?_getD]
  rw [e]
  by_cases c : far a b = false
  · rw [if_pos ⟨by simp, c⟩, if_pos c]
    simp
  · rw [if_neg (fun h => c h.2), if_neg c]
/-- The blobs so far are apart, and lie before the rest. -/
structure Sep (out rest : List Blob) : Prop where
  apart : out.Pairwise Apart
  ne : ∀ a ∈ out, a.lo ≤ a.hi
  bef : ∀ a ∈ out, ∀ b ∈ rest, Ord a b
theorem glue_step (ln y : Int) {out rest : List Blob} {b : Blob} (h : Sep out (b :: rest)) (hs : (b :: rest).Pairwise Ord) (hb : b.lo ≤ b.hi) : Sep (glueStep out b) rest ∧ (glueStep out b).any (hasB ln y) = (out.any (hasB ln y) || hasB ln y b) := by
  rw [List.pairwise_cons] at hs
  rcases List.eq_nil_or_concat out with rfl | ⟨o, a, rfl⟩
  · rw [glueStep_nil]
    exact ⟨⟨by simp, by simpa using hb, by simpa using hs.1⟩, by simp⟩
  · rw [List.concat_eq_append] at *
    rw [glueStep_snoc]
    obtain ⟨h1, h2, h3⟩ := h
    rw [List.pairwise_append] at h1
    have ha := h2 a (by simp)
    have hab := h3 a (by simp) b List.mem_cons_self
    have hoa : ∀ c ∈ o, Apart c a := fun c hc => h1.2.2 c hc a (by simp)
    split
    · rename_i c
      have hc : a.lane = b.lane ∧ b.lo ≤ a.hi + 1 := by
        unfold far at c; simp at c
        refine ⟨c.1, ?_⟩
        have := c.2
        by_cases q : a.hi < b.lo
        · have := this q; omega
        · omega
      refine ⟨⟨?_, ?_, ?_⟩, ?_⟩
      · rw [List.pairwise_append]
        refine ⟨h1.1, by simp, ?_⟩
        intro c hc2 d hd
        simp at hd; subst hd
        have := hoa c hc2
        unfold Apart glue at *; dsimp only; omega
      · intro d hd
        rcases List.mem_append.1 hd with hd | hd
        · exact h2 d (by simp [hd])
        · simp at hd; subst hd; unfold glue; dsimp only; omega
      · intro d hd e he
        rcases List.mem_append.1 hd with hd | hd
        · exact h3 d (by simp [hd]) e (List.mem_cons_of_mem _ he)
        · simp at hd; subst hd
          have := h3 a (by simp) e (List.mem_cons_of_mem _ he)
          unfold Ord glue at *; dsimp only; omega
      · rw [List.any_append, List.any_append, List.any_cons, List.any_nil, List.any_cons, List.any_nil, Bool.or_false, Bool.or_false, Bool.or_assoc]
        congr 1
        unfold hasB glue Ord at *
        dsimp only
        rw [Bool.eq_iff_iff]
        simp
        omega
    · rename_i c
      have hc : a.lane ≠ b.lane ∨ a.hi + 1 < b.lo := by
        unfold far at c; simp at c
        by_cases q : a.lane = b.lane
        · have := c q; right; omega
        · exact .inl q
      have habp : Apart a b := by unfold Apart Ord at *; omega
      refine ⟨⟨?_, ?_, ?_⟩, ?_⟩
      · rw [List.pairwise_append]
        refine ⟨List.pairwise_append.2 h1, by simp, ?_⟩
        intro d hd e he
        simp at he; subst he
        rcases List.mem_append.1 hd with hd | hd
        · have := hoa d hd
          unfold Apart Ord at *; omega
        · simp at hd; subst hd; exact habp
      · intro d hd
        rcases List.mem_append.1 hd with hd | hd
        · exact h2 d hd
        · simp at hd; subst hd; exact hb
      · intro d hd e he
        rcases List.mem_append.1 hd with hd | hd
        · exact h3 d hd e (List.mem_cons_of_mem _ he)
        · simp at hd; subst hd; exact hs.1 e he
      · simp [List.any_append, Bool.or_assoc]
theorem glue_all (ln y : Int) : ∀ (rest out : List Blob), Sep out rest → rest.Pairwise Ord → (∀ b ∈ rest, b.lo ≤ b.hi) → Sep (rest.foldl glueStep out) [] ∧ (rest.foldl glueStep out).any (hasB ln y) = (out.any (hasB ln y) || rest.any (hasB ln y))
  | [], out, h, _, _ => ⟨h, by simp⟩
  | b :: rest, out, h, hs, hb => by
    obtain ⟨g1, g2⟩ := glue_step ln y h hs (hb b List.mem_cons_self)
    obtain ⟨k1, k2⟩ := glue_all ln y rest (glueStep out b) g1 (List.pairwise_cons.1 hs).2 fun c hc => hb c (List.mem_cons_of_mem _ hc)
    rw [List.foldl_cons]
    exact ⟨k1, by rw [k2, g2, List.any_cons, Bool.or_assoc]⟩
theorem join_sep (l : List Blob) (h : ∀ b ∈ l, b.lo ≤ b.hi) (ln y : Int) : (refJoinF l).Pairwise Apart ∧ (∀ a ∈ refJoinF l, a.lo ≤ a.hi) ∧ (refJoinF l).any (hasB ln y) = l.any (hasB ln y) := by
  have hm := sort_mem l []
  have hs := sort_sorted l [] List.Pairwise.nil
  have ha := sort_any ln y l [] h
  obtain ⟨g1, g2⟩ := glue_all ln y (l.foldl sortStep []) [] ⟨.nil, by simp, by simp⟩ hs fun b hb => h b ((hm b hb).resolve_right (by simp))
  refine ⟨g1.apart, g1.ne, ?_⟩
  unfold refJoinF
  rw [g2, ha]; simp
end Go.TrRun

/- What is free: the program. -/
set_option linter.unusedVariables false
set_option linter.unusedSimpArgs false
set_option maxRecDepth 10000
namespace Go.TrRun
open Go Go.Eng

structure Spn where
  lane : Int
  lo : Int
  hi : Int
def spnC (s : Spn) : List Cl := [I s.lane, I s.lo, I s.hi]
def rowsS (l : List Spn) : List (List Cl) := l.map spnC
@[simp] theorem spnC_len (s : Spn) : (spnC s).length = 3 := rfl
@[simp] theorem rowsS_len (l : List Spn) : (rowsS l).length = l.length := by simp [rowsS]
@[simp] theorem rowsS_append (l m : List Spn) : rowsS (l ++ m) = rowsS l ++ rowsS m := by simp [rowsS]
@[simp] theorem rowsS_nil : rowsS [] = [] := rfl
@[simp] theorem rowsS_cons (x : Spn) (l : List Spn) : rowsS (x :: l) = spnC x :: rowsS l := rfl
@[simp] theorem rowsS_take (l : List Spn) : (rowsS l).take l.length = rowsS l := List.take_of_length_le (by simp)
@[simp] theorem rowsS_getElem {l : List Spn} {i : Nat} (h : i < (rowsS l).length) : (rowsS l)[i] = spnC (l[i]'(by simpa using h)) := by simp [rowsS]
def onF (m : GMap) (s : Spn) : Bool := decide (0 ≤ s.lane) && decide (s.lane < m.lanes.length) && decide (0 ≤ s.lo) && decide (s.lo ≤ s.hi) && decide (s.hi ≤ lenF m s.lane)
theorem R_on {m : GMap} (h : Good m) (s : Spn) : R L Cs f_track_on [.a (mapC m), .a (spnC s)] [] = some (.w (Bo (onF m s)), []) := by
  obtain ⟨ln, lo, hi⟩ := s
  rw [R_fn F_track_on rfl]
  simp only [onF, spnC]
  by_cases c1 : 0 ≤ ln
  · by_cases c2 : ln < m.lanes.length
    · obtain ⟨j, rfl⟩ := Int.eq_ofNat_of_zero_le c1
      have hj : j < m.lanes.length := by omega
      have hL := R_Length h hj
      have e : lenF m j = m.lanes[j].len := by simp [lenF, hj]
      simp only [mapC] at hL
      rw [e]
      by_cases c3 : 0 ≤ lo
      · by_cases c4 : lo ≤ hi
        · simp [c_track_on, mapC, hj, c3, c4, hL, newAt]
        · simp [c_track_on, mapC, hj, c3, c4, newAt]
      · simp [c_track_on, mapC, hj, c3, newAt]
    · simp [c_track_on, mapC, c1, c2, newAt]
  · simp [c_track_on, mapC, c1, newAt]
def blobOf (s : Spn) : Blob := ⟨s.lane, s.lo, s.hi, 0, 0, 0⟩
def spnOf (b : Blob) : Spn := ⟨b.lane, b.lo, b.hi⟩
set_option maxHeartbeats 1000000 in
theorem whole_loop1 {m : GMap} (h : Good m) (l : List Spn) (hl : l.length ≤ 1000) : ∀ (r : List Spn) (i : Nat) (out : List Blob), l.drop i = r → i ≤ l.length → out.length ≤ i →
    Y L Cs c_track_whole_l1 (some [5, 13, 12, 11, 2]) 3 [(5, .w (.c (sl 2 6 (rowsB out)))), (13, .w (W i)), (12, .w (W l.length)), (11, .w (.c (.rslice (rowsS l)))), (2, .w (Pt 0))] [bx 5 (mapC m), gb 3, some (own 6 (rowsB out))] =
      some (.exit 0, [(14, .w (Bo false)), (5, .w (.c (sl 2 6 (rowsB (out ++ (r.filter (onF m)).map blobOf))))), (13, .w (W l.length)), (12, .w (W l.length)), (11, .w (.c (.rslice (rowsS l)))), (2, .w (Pt 0))], [bx 5 (mapC m), gb 3, some (own 6 (rowsB (out ++ (r.filter (onF m)).map blobOf)))]) := by
  intro r
  induction r with
  | nil =>
    intro i out hd hi ho
    obtain rfl := drop_nil hd hi
    rw [Y_step c_track_whole_l1.eq_1]
    simp
  | cons s r ih =>
    intro i out hd hi ho
    obtain ⟨hil, hs, hd'⟩ := drop_cons hd
    have hw := wrap_succ (i := i) (by omega)
    have hon := R_on h s
    have hroom : (out.length + 1) * 48 ≤ 140737488355328 := by omega
    by_cases c : onF m s = true
    · rw [List.filter_cons_of_pos c, List.map_cons, show out ++ blobOf s :: (r.filter (onF m)).map blobOf = (out ++ [blobOf s]) ++ (r.filter (onF m)).map blobOf by simp, ← ih (i + 1) (out ++ [blobOf s]) hd' hil (by simp; omega), Y_step c_track_whole_l1.eq_1]
      clear ih
      rw [c] at hon
      simp only [mapC, spnC] at hon
      simp [hil, hs, hw, spnC, blobC, blobOf, mapC, hon, hroom, newAt, memBelow]
    · rw [List.filter_cons_of_neg c, ← ih (i + 1) out hd' hil (by omega), Y_step c_track_whole_l1.eq_1]
      clear ih
      have c' : onF m s = false := by simpa using c
      rw [c'] at hon
      simp only [mapC, spnC] at hon
      simp [hil, hs, hw, spnC, mapC, hon, newAt, memBelow]
abbrev fzB (bs : List Blob) : Option Blk := some { box := false, esz := 6, rows := rowsB bs, gen := bs.length, fz := true, ver := bs.length + 1 }
set_option maxHeartbeats 1000000 in
theorem whole_loop2 {m : GMap} (bs : List Blob) (l : List Blob) (hl : l.length ≤ 1000) : ∀ (r : List Blob) (i : Nat) (out : List Spn), l.drop i = r → i ≤ l.length → out.length = i →
    Y L Cs c_track_whole_l2 (some [8, 34, 33, 32]) 4 [(8, .w (.c (sl 3 3 (rowsS out)))), (34, .w (W i)), (33, .w (W l.length)), (32, .w (.c (.rslice (rowsB l))))] [bx 5 (mapC m), gb 3, fzB bs, some (own 3 (rowsS out))] =
      some (.exit 2, [(35, .w (Bo false)), (8, .w (.c (sl 3 3 (rowsS (out ++ r.map spnOf))))), (34, .w (W l.length)), (33, .w (W l.length)), (32, .w (.c (.rslice (rowsB l))))], [bx 5 (mapC m), gb 3, fzB bs, some (own 3 (rowsS (out ++ r.map spnOf)))]) := by
  intro r
  induction r with
  | nil =>
    intro i out hd hi ho
    obtain rfl := drop_nil hd hi
    rw [Y_step c_track_whole_l2.eq_1]
    simp
  | cons b r ih =>
    intro i out hd hi ho
    subst ho
    obtain ⟨hil, hb, hd'⟩ := drop_cons hd
    have hw := wrap_succ (i := out.length) (by omega)
    have hroom : (out.length + 1) * 24 ≤ 140737488355328 := by omega
    rw [List.map_cons, show out ++ spnOf b :: r.map spnOf = (out ++ [spnOf b]) ++ r.map spnOf by simp, ← ih (out.length + 1) (out ++ [spnOf b]) hd' hil (by simp), Y_step c_track_whole_l2.eq_1]
    clear ih
    simp [hil, hb, hw, spnC, blobC, spnOf, mapC, hroom, newAt, memBelow]
def wholeF (m : GMap) (l : List Spn) : List Spn := (refJoinF ((l.filter (onF m)).map blobOf)).map spnOf
theorem onF_ok {m : GMap} (h : Good m) {s : Spn} (hs : onF m s = true) : OKB (blobOf s) := by
  unfold onF at hs
  simp at hs
  have := lenF_le h (x := s.lane) (by omega)
  exact ⟨by simp [blobOf]; omega, by simp [blobOf]; omega, by simp [blobOf]; omega, by simp [blobOf]; omega⟩
set_option maxHeartbeats 1000000 in
theorem R_whole {m : GMap} (h : Good m) (l : List Spn) (hl : l.length ≤ 19) : R L Cs f_track_whole [.a (mapC m), .c (.rslice (rowsS l))] [] = some (.w (.c (.rslice (rowsS (wholeF m l)))), []) := by
  have h1 := whole_loop1 h l (by omega) l 0 [] rfl (Nat.zero_le _) (Nat.zero_le _)
  have hfl : (l.filter (onF m)).length ≤ l.length := List.length_filter_le _ _
  have h2 := R_trackJoin ((l.filter (onF m)).map blobOf) (by simp; omega) (by
    intro x hx
    obtain ⟨s, hs, rfl⟩ := List.mem_map.1 hx
    exact onF_ok h (List.mem_filter.1 hs).2)
  have hjl := refJoinF_len ((l.filter (onF m)).map blobOf)
  rw [List.length_map] at hjl
  have h3 := whole_loop2 (m := m) ((l.filter (onF m)).map blobOf) (refJoinF ((l.filter (onF m)).map blobOf)) (by omega) _ 0 [] rfl (Nat.zero_le _) rfl
  have htk : List.take (l.filter (onF m)).length ((l.filter (onF m)).map blobOf) = (l.filter (onF m)).map blobOf := List.take_of_length_le (by simp)
  unfold wholeF
  generalize refJoinF ((l.filter (onF m)).map blobOf) = q at *
  have hbl : ((l.filter (onF m)).map blobOf).length = (l.filter (onF m)).length := List.length_map _
  generalize (l.filter (onF m)).map blobOf = bs at *
  generalize (l.filter (onF m)).length = n at *
  subst hbl
  simp only [mapC, Int.natCast_zero, List.nil_append, rowsB_nil, rowsS_nil, sl, own, List.length_nil, rowsB_len, rowsS_len, List.length_map, List.drop_zero, fzB] at h1 h2 h3 ⊢
  rw [R_fn F_track_whole rfl]
  have htk2 : List.take q.length (rowsS (q.map spnOf)) = rowsS (q.map spnOf) := List.take_of_length_le (by simp)
  simp [c_track_whole, h1, h2, h3, newAt, markOne, htk2]
end Go.TrRun

/- What is free: cutting a span from spans. -/
set_option linter.unusedVariables false
set_option linter.unusedSimpArgs false
set_option maxRecDepth 10000
namespace Go.TrRun
open Go Go.Eng

theorem R_endsS (b : Spn) (i v : Nat) (M : Mem) (h : M[i]? = some (bxv v 3 (spnC b))) : R L Cs f_motion_ends_Span [Pt i] M = some (.t [W b.lane, .c (.ptr i 0 0 1), .c (.ptr i 0 0 2)], M) := by
  rw [R_fn F_motion_ends_Span rfl]
  simp only [spnC] at h
  simp [c_motion_ends_Span, h, spnC, p1F]
def cutS1 (x fr to : Int) (b : Spn) : List Spn :=
  if b.lane ≠ x ∨ fr > to ∨ fr > b.hi ∨ to < b.lo then [b] else
  (if b.lo < fr then [{ b with hi := fr - 1 }] else []) ++ (if to < b.hi then [{ b with lo := to + 1 }] else [])
def cutS (x fr to : Int) : List Spn → List Spn
  | [] => []
  | b :: r => cutS1 x fr to b ++ cutS x fr to r
theorem cutS1_len (x fr to : Int) (b : Spn) : (cutS1 x fr to b).length ≤ 2 := by
  unfold cutS1
  split
  · simp
  · split <;> split <;> simp
theorem cutS_len (x fr to : Int) : ∀ (r : List Spn), (cutS x fr to r).length ≤ 2 * r.length
  | [] => by simp [cutS]
  | b :: r => by
    have := cutS1_len x fr to b
    have := cutS_len x fr to r
    simp only [cutS, List.length_append, List.length_cons]; omega
set_option maxHeartbeats 2000000 in
theorem cutS_loop (x fr to : Int) (hfr : Mid fr) (hto : Mid to) (l : List Spn) (hl : l.length ≤ 100000) : ∀ (r : List Spn) (i : Nat) (out : List Spn), l.drop i = r → i ≤ l.length → out.length ≤ 2 * i →
    Y L Cs c_motion_Cut_Span_l1 (some [5, 21, 20, 19, 3]) 3 [(5, .w (.c (sl 2 3 (rowsS out)))), (21, .w (W i)), (20, .w (W l.length)), (19, .w (.c (.rslice (rowsS l)))), (3, .w (Pt 0))] [bx 3 [I x, I fr, I to], gb 3, some (own 3 (rowsS out))] =
      some (.exit 0, [(22, .w (Bo false)), (5, .w (.c (sl 2 3 (rowsS (out ++ cutS x fr to r))))), (21, .w (W l.length)), (20, .w (W l.length)), (19, .w (.c (.rslice (rowsS l)))), (3, .w (Pt 0))], [bx 3 [I x, I fr, I to], gb 3, some (own 3 (rowsS (out ++ cutS x fr to r)))]) := by
  intro r
  induction r with
  | nil =>
    intro i out hd hi ho
    obtain rfl := drop_nil hd hi
    rw [Y_step c_motion_Cut_Span_l1.eq_1]
    simp [cutS]
  | cons b r ih =>
    intro i out hd hi ho
    obtain ⟨hil, hb, hd'⟩ := drop_cons hd
    have hw := wrap_succ (i := i) (by omega)
    have hcl : (out ++ cutS1 x fr to b).length ≤ 2 * (i + 1) := by
      have := cutS1_len x fr to b
      rw [List.length_append]; omega
    obtain ⟨f1, f2⟩ := hfr
    obtain ⟨t1, t2⟩ := hto
    have hw1 : IntKind.i64.wrap (fr - 1) = fr - 1 := i64_id _ (by omega) (by omega)
    have hw2 : IntKind.i64.wrap (to + 1) = to + 1 := i64_id _ (by omega) (by omega)
    have hroom : (out.length + 1) * 24 ≤ 140737488355328 := by omega
    have hroom2 : (out.length + 2) * 24 ≤ 140737488355328 := by clear hcl hd hb hd' ih; omega
    have he := R_endsS b 0 1 [bxv 1 3 (spnC b)] rfl
    have e1 : out ++ cutS x fr to (b :: r) = (out ++ cutS1 x fr to b) ++ cutS x fr to r := by simp [cutS]
    rw [e1, ← ih (i + 1) (out ++ cutS1 x fr to b) hd' hil hcl, Y_step c_motion_Cut_Span_l1.eq_1]
    clear ih e1 hcl
    clear f1 f2 t1 t2
    obtain ⟨bl, lo, hi'⟩ := b
    simp only [spnC, cutS1] at *
    by_cases c1 : bl = x
    · subst c1
      by_cases c2 : to < fr
      · simp [hil, hb, spnC, hw, hroom, newAt, memBelow, he, c2]
      · by_cases c3 : hi' < fr
        · simp [hil, hb, spnC, hw, hroom, newAt, memBelow, he, c2, c3]
        · by_cases c4 : to < lo
          · simp [hil, hb, spnC, hw, hroom, newAt, memBelow, he, c2, c3, c4]
          · by_cases c5 : lo < fr
            · by_cases c6 : to < hi'
              · have htk : ∀ y : List Cl, List.take (out.length + 1) (rowsS out ++ [y]) = rowsS out ++ [y] := fun y => List.take_of_length_le (by simp)
                simp [hil, hb, spnC, hw, hw1, hw2, hroom, hroom2, newAt, memBelow, he, c2, c3, c4, c5, c6, htk]
              · simp [hil, hb, spnC, hw, hw1, hw2, hroom, newAt, memBelow, he, c2, c3, c4, c5, c6]
            · by_cases c6 : to < hi'
              · simp [hil, hb, spnC, hw, hw1, hw2, hroom, newAt, memBelow, he, c2, c3, c4, c5, c6]
              · simp [hil, hb, spnC, hw, hw1, hw2, hroom, newAt, memBelow, he, c2, c3, c4, c5, c6]
    · have b1 : (bl == x) = false := by simp [c1]
      have b2 : (bl != x) = true := by simp [c1]
      simp [hil, hb, spnC, hw, hroom, newAt, memBelow, he, c1, b1, b2]
theorem R_CutS (x fr to : Int) (hfr : Mid fr) (hto : Mid to) (l : List Spn) (hl : l.length ≤ 100000) : R L Cs f_motion_Cut_Span [.c (.rslice (rowsS l)), .a [I x, I fr, I to]] [] = some (.w (.c (.rslice (rowsS (cutS x fr to l)))), []) := by
  have hc := cutS_loop x fr to hfr hto l hl l 0 [] rfl (Nat.zero_le _) (Nat.zero_le _)
  simp only [Int.natCast_zero, List.nil_append, rowsS_nil, sl, own, List.length_nil, rowsS_len] at hc
  rw [R_fn F_motion_Cut_Span rfl]
  simp [c_motion_Cut_Span, hc, newAt]
theorem on_mid {m : GMap} (h : Good m) {s : Spn} (c : onF m s = true) : Mid s.lo ∧ Mid s.hi := by
  unfold onF at c
  simp at c
  have := lenF_le h (x := s.lane) (by omega)
  exact ⟨⟨by omega, by omega⟩, ⟨by omega, by omega⟩⟩
structure Fnd where
  lane : Int
  lo : Int
  hi : Int
  v1 : Int
  v2 : Int
def fndC (s : Fnd) : List Cl := [I s.lane, I s.lo, I s.hi, I s.v1, I s.v2]
def rowsF (l : List Fnd) : List (List Cl) := l.map fndC
def Fnd.s (f : Fnd) : Spn := ⟨f.lane, f.lo, f.hi⟩
@[simp] theorem fndC_len (s : Fnd) : (fndC s).length = 5 := rfl
@[simp] theorem rowsF_len (l : List Fnd) : (rowsF l).length = l.length := by simp [rowsF]
@[simp] theorem rowsF_append (l m : List Fnd) : rowsF (l ++ m) = rowsF l ++ rowsF m := by simp [rowsF]
@[simp] theorem rowsF_nil : rowsF [] = [] := rfl
@[simp] theorem rowsF_cons (x : Fnd) (l : List Fnd) : rowsF (x :: l) = fndC x :: rowsF l := rfl
@[simp] theorem rowsF_getElem {l : List Fnd} {i : Nat} (h : i < (rowsF l).length) : (rowsF l)[i] = fndC (l[i]'(by simpa using h)) := by simp [rowsF]
@[simp] theorem rowsF_take (l : List Fnd) : (rowsF l).take l.length = rowsF l := List.take_of_length_le (by simp)
def freeL (m : GMap) : List Fnd → List Spn → List Spn
  | [], l => l
  | f :: r, l => freeL m r (if onF m f.s = true then cutS f.lane f.lo f.hi l else l)
set_option maxHeartbeats 1000000 in
theorem free_loop {m : GMap} (h : Good m) (fs : List Fnd) (hl : fs.length ≤ 8) : ∀ (r : List Fnd) (i : Nat) (out : List Spn), fs.drop i = r → i ≤ fs.length → out.length * 2 ^ r.length ≤ 100000 →
    Y L Cs c_track_Free_l1 (some [7, 19, 18, 17, 3]) 2 [(7, .w (.c (.rslice (rowsS out)))), (19, .w (W i)), (18, .w (W fs.length)), (17, .w (.c (.rslice (rowsF fs)))), (3, .w (Pt 0))] [bx 5 (mapC m), gb 3] =
      some (.exit 0, [(20, .w (Bo false)), (7, .w (.c (.rslice (rowsS (freeL m r out))))), (19, .w (W fs.length)), (18, .w (W fs.length)), (17, .w (.c (.rslice (rowsF fs)))), (3, .w (Pt 0))], [bx 5 (mapC m), gb 3]) := by
  intro r
  induction r with
  | nil =>
    intro i out hd hi hb
    obtain rfl := drop_nil hd hi
    rw [Y_step c_track_Free_l1.eq_1]
    simp [freeL]
  | cons f r ih =>
    intro i out hd hi hb
    obtain ⟨hil, hf, hd'⟩ := drop_cons hd
    have hw := wrap_succ (i := i) (by omega)
    have hon := R_on h f.s
    have hb1 : out.length ≤ 100000 := Nat.le_trans (Nat.le_mul_of_pos_right _ (Nat.two_pow_pos _)) hb
    have hcl := cutS_len f.lane f.lo f.hi out
    have hb2 : (if onF m f.s = true then cutS f.lane f.lo f.hi out else out).length * 2 ^ r.length ≤ 100000 := by
      simp only [List.length_cons, Nat.pow_succ] at hb
      have e : out.length * (2 ^ r.length * 2) = 2 * out.length * 2 ^ r.length := by rw [Nat.mul_comm 2 out.length, Nat.mul_assoc, Nat.mul_comm 2]
      rw [e] at hb
      split
      · exact Nat.le_trans (Nat.mul_le_mul_right _ hcl) hb
      · exact Nat.le_trans (Nat.mul_le_mul_right _ (by omega)) hb
    rw [freeL, ← ih (i + 1) _ hd' hil hb2, Y_step c_track_Free_l1.eq_1]
    clear ih hb hb2 hcl
    obtain ⟨ln, lo, hi', v1, v2⟩ := f
    by_cases c : onF m (Fnd.s ⟨ln, lo, hi', v1, v2⟩) = true
    · have hk := onF_ok h c
      have hcut := R_CutS ln lo hi' (on_mid h c).1 (on_mid h c).2 out hb1
      rw [if_pos c]
      rw [c] at hon
      simp only [mapC, spnC, Fnd.s] at hon
      simp [hil, hf, hw, fndC, mapC, hon, hcut, newAt, memBelow]
    · have c' : onF m (Fnd.s ⟨ln, lo, hi', v1, v2⟩) = false := by simpa using c
      rw [if_neg c]
      rw [c'] at hon
      simp only [mapC, spnC, Fnd.s] at hon
      simp [hil, hf, hw, fndC, mapC, hon, newAt, memBelow]
def freeF (m : GMap) (l : List Spn) (fs : List Fnd) : List Spn := freeL m fs (wholeF m l)
theorem wholeF_len (m : GMap) (l : List Spn) : (wholeF m l).length ≤ l.length := by
  unfold wholeF
  have := refJoinF_len ((l.filter (onF m)).map blobOf)
  have h2 : (l.filter (onF m)).length ≤ l.length := List.length_filter_le _ _
  rw [List.length_map] at this ⊢
  omega
theorem R_Free {m : GMap} (h : Good m) (l : List Spn) (hl : l.length ≤ 19) (fs : List Fnd) (hfs : fs.length ≤ 8) : R L Cs f_track_Free [.a (mapC m), .c (.rslice (rowsS l)), .c (.rslice (rowsF fs))] [] = some (.w (.c (.rslice (rowsS (freeF m l fs)))), []) := by
  have h1 := R_whole h l hl
  have hw := wholeF_len m l
  have h2 := free_loop h fs hfs fs 0 (wholeF m l) rfl (Nat.zero_le _) (Nat.le_trans (Nat.mul_le_mul (Nat.le_trans hw hl) (Nat.pow_le_pow_right (by decide) hfs)) (by decide))
  have hck := h.chk
  unfold freeF
  simp only [mapC, Int.natCast_zero] at h1 h2 hck ⊢
  rw [R_fn F_track_Free rfl]
  simp [c_track_Free, h1, h2, hck, newAt]
end Go.TrRun

/- The map of a number has lanes. -/
set_option linter.unusedVariables false
set_option linter.unusedSimpArgs false
set_option maxRecDepth 10000
namespace Go.TrRun
open Go Go.Eng

theorem all_fits {m : GMap} {b : Blob} (h : Good m) (hl : 0 ≤ b.lane ∧ b.lane < m.lanes.length) (h1 : 0 ≤ b.lo) (h2 : b.hi ≤ lenF m b.lane) (h3 : 0 ≤ b.vlo) (h4 : b.vhi ≤ topV (kindF m b.lane)) : (allFrom 0 m.lanes).any (inB b) = true := by
  obtain ⟨ln, lo, hi, vlo, vhi, hold⟩ := b
  simp only at *
  obtain ⟨j, rfl⟩ := Int.eq_ofNat_of_zero_le hl.1
  have hj : j < m.lanes.length := by omega
  have e1 : lenF m j = m.lanes[j].len := by simp [lenF, hj]
  have e2 : kindF m j = m.lanes[j].kind := by simp [kindF, hj]
  rw [e1] at h2
  rw [e2] at h4
  have hmem : ∀ (r : List Lane) (i k : Nat) (hk : k < r.length), allB (i + k) r[k] ∈ allFrom i r := by
    intro r
    induction r with
    | nil => intro i k hk; simp at hk
    | cons l r ih =>
      intro i k hk
      cases k with
      | zero => simp [allFrom]
      | succ k =>
        have := ih (i + 1) k (by simpa using hk)
        simp only [allFrom, List.getElem_cons_succ]
        refine List.mem_cons_of_mem _ ?_
        rw [show i + (k + 1) = i + 1 + k by omega]
        exact this
  rw [List.any_eq_true]
  refine ⟨allB j m.lanes[j], by have := hmem m.lanes 0 j hj; simpa using this, ?_⟩
  simp [inB, allB, h1, h2, h3, h4]
structure InL (m : GMap) (b : Blob) : Prop where
  lane : 0 ≤ b.lane ∧ b.lane < m.lanes.length
  lo : 0 ≤ b.lo
  hi : b.hi ≤ lenF m b.lane
  vlo : 0 ≤ b.vlo
  vhi : b.vhi ≤ topV (kindF m b.lane)
theorem Fits.inL {m : GMap} {b : Blob} (h : Fits m b) : InL m b := ⟨h.lane, h.lo, h.hi, h.vlo, h.vhi⟩
theorem glueStep_inL {m : GMap} {out : List Blob} {b : Blob} (h : ∀ x ∈ out, InL m x) (hb : InL m b) : ∀ x ∈ glueStep out b, InL m x := by
  rcases List.eq_nil_or_concat out with rfl | ⟨o, a, rfl⟩
  · rw [glueStep_nil]; simpa using hb
  · rw [List.concat_eq_append] at *
    rw [glueStep_snoc]
    have ha := h a (by simp)
    split
    · rename_i c
      intro x hx
      rcases List.mem_append.1 hx with hx | hx
      · exact h x (by simp [hx])
      · simp at hx; subst hx
        have hc : a.lane = b.lane := by unfold far at c; simp at c; exact c.1
        have q1 := ha.hi; have q2 := hb.hi; have q3 := ha.vlo; have q4 := hb.vlo; have q5 := ha.vhi; have q6 := hb.vhi
        rw [hc] at q1 q5
        exact ⟨hb.lane, ha.lo, by simp only [glue]; omega, by simp only [glue]; omega, by simp only [glue]; omega⟩
    · intro x hx
      rcases List.mem_append.1 hx with hx | hx
      · exact h x hx
      · simp at hx; subst hx; exact hb
theorem glue_inL {m : GMap} : ∀ (r out : List Blob), (∀ x ∈ out, InL m x) → (∀ x ∈ r, InL m x) → ∀ x ∈ r.foldl glueStep out, InL m x
  | [], out, h, _ => h
  | b :: r, out, h, hr => by
    rw [List.foldl_cons]
    exact glue_inL r _ (glueStep_inL h (hr b List.mem_cons_self)) fun x hx => hr x (List.mem_cons_of_mem _ hx)
theorem join_inL {m : GMap} {l : List Blob} (h : ∀ x ∈ l, InL m x) : ∀ x ∈ refJoinF l, InL m x := by
  unfold refJoinF
  exact glue_inL _ [] (by simp) fun x hx => h x ((sort_mem l [] x hx).resolve_right (by simp))
theorem known_inside {m : GMap} (h : Good m) (hne : 0 < m.lanes.length) (q : List Int) (l : List Bit) (tick s v spread : Int) :
    insideK (knownF m q l tick s v spread) ⟨(knownF m q l tick s v spread).tick, allFrom 0 m.lanes, (knownF m q l tick s v spread).ego⟩ = true := by
  have hj := join_inL (m := m) (l := l.map (bitB m)) (by
    intro x hx
    obtain ⟨y, _, rfl⟩ := List.mem_map.1 hx
    exact (bitB_fits h hne y).inL)
  simp only [insideK, knownF, outE, Bool.and_eq_true, decide_true, List.all_eq_true]
  refine ⟨⟨trivial, by simp⟩, fun x hx => ?_⟩
  have hi := hj x hx
  exact all_fits h hi.lane hi.lo hi.hi hi.vlo hi.vhi
/-- The places of a list of spans: how many of them hold a place. -/
def hasS (ln x : Int) (s : Spn) : Bool := decide (s.lane = ln) && decide (s.lo ≤ x) && decide (x ≤ s.hi)
def ApartS (a b : Spn) : Prop := a.lane < b.lane ∨ a.lane = b.lane ∧ a.hi < b.lo
theorem cut1_cnt (x fr to ln y : Int) (b : Spn) (h : fr ≤ to) : (cutS1 x fr to b).countP (hasS ln y) = if (ln = x ∧ fr ≤ y ∧ y ≤ to) then 0 else (if hasS ln y b = true then 1 else 0) := by
  obtain ⟨bl, lo, hi⟩ := b
  unfold cutS1 hasS
  by_cases c : bl ≠ x ∨ fr > to ∨ fr > hi ∨ to < lo
  · rw [if_pos c, List.countP_singleton]
    by_cases d : ln = x ∧ fr ≤ y ∧ y ≤ to
    · rw [if_pos d, if_neg (by simp; omega)]
    · rw [if_neg d]
  · rw [if_neg c, List.countP_append]
    have e : ∀ (p : Prop) [Decidable p] (s : Spn), List.countP (hasS ln y) (if p then [s] else []) = if p ∧ s.lane = ln ∧ s.lo ≤ y ∧ y ≤ s.hi then 1 else 0 := by
      intro p _ s
      by_cases hp : p
      · simp [hp, hasS, List.countP_singleton, and_assoc]
      · simp [hp]
    have e2 : (decide (bl = ln) && decide (lo ≤ y) && decide (y ≤ hi)) = true ↔ bl = ln ∧ lo ≤ y ∧ y ≤ hi := by simp [and_assoc]
    show List.countP (hasS ln y) _ + List.countP (hasS ln y) _ = _
    rw [e, e]
    simp only [e2]
    split <;> split <;> split <;> (try split) <;> omega
theorem cut_cnt (x fr to ln y : Int) (h : fr ≤ to) : ∀ (l : List Spn), (cutS x fr to l).countP (hasS ln y) = if (ln = x ∧ fr ≤ y ∧ y ≤ to) then 0 else l.countP (hasS ln y)
  | [] => by simp [cutS]
  | b :: r => by
    rw [cutS, List.countP_append, cut1_cnt x fr to ln y b h, cut_cnt x fr to ln y h r, List.countP_cons]
    by_cases d : ln = x ∧ fr ≤ y ∧ y ≤ to
    · simp [d]
    · rw [if_neg d, if_neg d, if_neg d, Nat.add_comm]
theorem free_cnt {m : GMap} (ln y : Int) : ∀ (fs : List Fnd) (l : List Spn), (∀ f ∈ fs, onF m f.s = true) → (freeL m fs l).countP (hasS ln y) = if fs.any (fun f => hasS ln y f.s) then 0 else l.countP (hasS ln y)
  | [], l, _ => by simp [freeL]
  | f :: fs, l, h => by
    have hf := h f List.mem_cons_self
    have hle : f.lo ≤ f.hi := by unfold onF Fnd.s at hf; simp at hf; omega
    rw [freeL, if_pos hf, free_cnt ln y fs _ fun g hg => h g (List.mem_cons_of_mem _ hg), cut_cnt _ _ _ _ _ hle, List.any_cons]
    have e : (hasS ln y f.s = true) ↔ (ln = f.lane ∧ f.lo ≤ y ∧ y ≤ f.hi) := by
      unfold hasS Fnd.s; rw [Bool.and_eq_true, Bool.and_eq_true, decide_eq_true_eq, decide_eq_true_eq, decide_eq_true_eq]; dsimp only; omega
    by_cases d : ln = f.lane ∧ f.lo ≤ y ∧ y ≤ f.hi
    · rw [if_pos d, e.2 d]; simp
    · rw [if_neg d]
      have : hasS ln y f.s = false := by simpa using fun q => d (e.1 q)
      rw [this]; simp
theorem apart_cnt (ln y : Int) : ∀ (l : List Blob), l.Pairwise Apart → (l.map spnOf).countP (hasS ln y) = if l.any (hasB ln y) then 1 else 0
  | [], _ => by simp
  | b :: l, h => by
    rw [List.pairwise_cons] at h
    rw [List.map_cons, List.countP_cons, apart_cnt ln y l h.2, List.any_cons]
    have e : hasS ln y (spnOf b) = hasB ln y b := rfl
    rw [e]
    by_cases c : hasB ln y b = true
    · have hl : l.any (hasB ln y) = false := by
        rw [List.any_eq_false]
        intro d hd
        have := h.1 d hd
        unfold Apart at this
        unfold hasB at *
        simp at *
        omega
      rw [hl, c]; simp
    · have c' : hasB ln y b = false := by simpa using c
      rw [c']; simp
/-- A place that is seen and not found is free once; any other is not free. -/
theorem free_law {m : GMap} (ln y : Int) (l : List Spn) (fs : List Fnd) (hl : ∀ s ∈ l, onF m s = true) (hf : ∀ f ∈ fs, onF m f.s = true) :
    (freeF m l fs).countP (hasS ln y) = if l.any (hasS ln y) = true ∧ fs.any (fun f => hasS ln y f.s) = false then 1 else 0 := by
  unfold freeF
  rw [free_cnt ln y fs _ hf]
  unfold wholeF
  rw [List.filter_eq_self.2 hl]
  have hj := join_sep (l.map blobOf) (by
    intro b hb
    obtain ⟨s, hs, rfl⟩ := List.mem_map.1 hb
    have := hl s hs
    unfold onF at this; simp at this; simp [blobOf]; omega) ln y
  rw [apart_cnt ln y _ hj.1, hj.2.2]
  have e : (l.map blobOf).any (hasB ln y) = l.any (hasS ln y) := by
    rw [List.any_map]; rfl
  rw [e]
  cases l.any (hasS ln y) <;> cases fs.any (fun f => hasS ln y f.s) <;> simp
end Go.TrRun

/- TrackWhole: its loops. -/
set_option linter.unusedVariables false
set_option linter.unusedSimpArgs false
set_option maxRecDepth 10000
namespace Go.TrRun
open Go Go.Eng
def bitS (m : GMap) (x : Bit) : Spn := spnOf (bitB m x)
def bitF (m : GMap) (x : Bit) : Fnd := ⟨(bitB m x).lane, (bitB m x).lo, (bitB m x).hi, 0, 0⟩
set_option maxHeartbeats 1000000 in
theorem wh_loop1 {m : GMap} (h : Good m) (hne : 0 < m.lanes.length) (l fl : List Bit) (hl : l.length ≤ 100) (hh : ∀ x ∈ l, In64 x.hold) (o : Int) (a0 a1 a2 : Int) (K : Know) : ∀ (r : List Bit) (i : Nat) (out : List Spn), l.drop i = r → i ≤ l.length → out.length = i →
    Y L Cs c_kerbstonelaw05_TrackWhole_l1 (some [18, 20, 5, 6, 19, 4, 15]) 5 [(18, .w (.c (sl 3 3 (rowsS out)))), (20, .w (W i)), (5, .w (.c (.rslice (rowsBit fl)))), (6, .w (W o)), (19, .w (.c (.slice 4 0 5 0 0 none))), (4, .w (.c (.rslice (rowsBit l)))), (15, .w (Pt 1))] [bx 3 [I a0, I a1, I a2], bxv 1 5 (mapC m), bxv 1 6 (knowC K), some (own 3 (rowsS out)), gb 5] =
      some (.exit 0, [(76, .w (Bo false)), (18, .w (.c (sl 3 3 (rowsS (out ++ r.map (bitS m)))))), (20, .w (W l.length)), (5, .w (.c (.rslice (rowsBit fl)))), (6, .w (W o)), (19, .w (.c (.slice 4 0 5 0 0 none))), (4, .w (.c (.rslice (rowsBit l)))), (15, .w (Pt 1))], [bx 3 [I a0, I a1, I a2], bxv 1 5 (mapC m), bxv 1 6 (knowC K), some (own 3 (rowsS (out ++ r.map (bitS m)))), gb 5]) := by
  intro r
  induction r with
  | nil =>
    intro i out hd hi ho
    obtain rfl := drop_nil hd hi
    simp only [knowC, mapC]
    rw [Y_step c_kerbstonelaw05_TrackWhole_l1.eq_1]
    simp
  | cons x r ih =>
    intro i out hd hi ho
    subst ho
    obtain ⟨hil, hx, hd'⟩ := drop_cons hd
    have hw := wrap_succ (i := out.length) (by omega)
    have hb := R_kitBlob h hne x (hh x (by rw [← hx]; exact List.getElem_mem _))
    have hroom : (out.length + 1) * 24 ≤ 140737488355328 := by omega
    rw [List.map_cons, show out ++ bitS m x :: r.map (bitS m) = (out ++ [bitS m x]) ++ r.map (bitS m) by simp, ← ih (out.length + 1) (out ++ [bitS m x]) hd' hil (by simp), Y_step c_kerbstonelaw05_TrackWhole_l1.eq_1]
    clear ih
    simp only [bitS, spnOf]
    generalize bitB m x = b at *
    simp only [mapC, bitC, blobC] at hb
    simp only [knowC]
    simp [hil, hx, bitC, blobC, spnC, mapC, hb, hw, hroom, newAt, memBelow]
set_option maxHeartbeats 1000000 in
theorem wh_loop2 {m : GMap} (h : Good m) (hne : 0 < m.lanes.length) (l : List Bit) (hl : l.length ≤ 100) (hh : ∀ x ∈ l, In64 x.hold) (o : Int) (a0 a1 a2 : Int) (K : Know) (S : List Spn) (hS : S.length ≤ 100) : ∀ (r : List Bit) (i : Nat) (out : List Fnd), l.drop i = r → i ≤ l.length → out.length = i →
    Y L Cs c_kerbstonelaw05_TrackWhole_l2 (some [19, 22, 18, 6, 5, 15]) 5 [(19, .w (.c (sl 4 5 (rowsF out)))), (22, .w (W i)), (18, .w (.c (sl 3 3 (rowsS S)))), (6, .w (W o)), (5, .w (.c (.rslice (rowsBit l)))), (15, .w (Pt 1))] [bx 3 [I a0, I a1, I a2], bxv 1 5 (mapC m), bxv 1 6 (knowC K), some (own 3 (rowsS S)), some (own 5 (rowsF out))] =
      some (.exit 2, [(98, .w (Bo false)), (19, .w (.c (sl 4 5 (rowsF (out ++ r.map (bitF m)))))), (22, .w (W l.length)), (18, .w (.c (sl 3 3 (rowsS S)))), (6, .w (W o)), (5, .w (.c (.rslice (rowsBit l)))), (15, .w (Pt 1))], [bx 3 [I a0, I a1, I a2], bxv 1 5 (mapC m), bxv 1 6 (knowC K), some (own 3 (rowsS S)), some (own 5 (rowsF (out ++ r.map (bitF m))))]) := by
  intro r
  induction r with
  | nil =>
    intro i out hd hi ho
    obtain rfl := drop_nil hd hi
    simp only [knowC, mapC]
    rw [Y_step c_kerbstonelaw05_TrackWhole_l2.eq_1]
    simp
  | cons x r ih =>
    intro i out hd hi ho
    subst ho
    obtain ⟨hil, hx, hd'⟩ := drop_cons hd
    have hw := wrap_succ (i := out.length) (by omega)
    have hb := R_kitBlob h hne x (hh x (by rw [← hx]; exact List.getElem_mem _))
    have hroom : (out.length + 1) * 40 ≤ 140737488355328 := by omega
    rw [List.map_cons, show out ++ bitF m x :: r.map (bitF m) = (out ++ [bitF m x]) ++ r.map (bitF m) by simp, ← ih (out.length + 1) (out ++ [bitF m x]) hd' hil (by simp), Y_step c_kerbstonelaw05_TrackWhole_l2.eq_1]
    clear ih
    simp only [bitF]
    generalize bitB m x = b at *
    simp only [mapC, bitC, blobC] at hb
    simp only [knowC]
    simp [hil, hx, bitC, blobC, fndC, mapC, hb, hw, hroom, newAt, memBelow]
end Go.TrRun

/- TrackWhole: the loops that look at a place. -/
set_option linter.unusedVariables false
set_option linter.unusedSimpArgs false
set_option maxRecDepth 10000
namespace Go.TrRun
open Go Go.Eng

abbrev fzS (l : List Spn) : Option Blk := some { box := false, esz := 3, rows := rowsS l, gen := l.length, fz := true, ver := l.length + 1 }
abbrev fzF (l : List Fnd) : Option Blk := some { box := false, esz := 5, rows := rowsF l, gen := l.length, fz := true, ver := l.length + 1 }
abbrev memW (m : GMap) (a0 a1 a2 : Int) (K : Know) (S : List Spn) (F : List Fnd) : Mem := [bx 3 [I a0, I a1, I a2], bxv 1 5 (mapC m), bxv 1 6 (knowC K), fzS S, fzF F]
set_option maxHeartbeats 2000000 in
theorem wh_loop3 (m : GMap) (a0 a1 a2 : Int) (K : Know) (S : List Spn) (hS : S.length ≤ 100) (F : List Fnd) (o x ln : Int) (fr : List (List Cl)) :
    Y L Cs c_kerbstonelaw05_TrackWhole_l3 (some [27, 30, 19, 29, 6, 15, 24, 28, 25, 26, 18]) 5 [(27, .w (Bo false)), (30, .w (W (0 : Nat))), (19, .w (.c (sl 4 5 (rowsF F)))), (29, .w (W 0)), (6, .w (W o)), (15, .w (Pt 1)), (24, .w (.c (.rslice fr))), (28, .w (Bo false)), (25, .w (W ln)), (26, .w (W x)), (18, .w (.c (sl 3 3 (rowsS S))))] (memW m a0 a1 a2 K S F) =
      some (.exit 6, [(137, .w (Bo false)), (27, .w (Bo (S.any (hasS ln x)))), (30, .w (W S.length)), (19, .w (.c (sl 4 5 (rowsF F)))), (29, .w (W 0)), (6, .w (W o)), (15, .w (Pt 1)), (24, .w (.c (.rslice fr))), (28, .w (Bo false)), (25, .w (W ln)), (26, .w (W x)), (18, .w (.c (sl 3 3 (rowsS S))))], memW m a0 a1 a2 K S F) := by
  have q := Y_foldI (L := L) (Cs := Cs) (b := c_kerbstonelaw05_TrackWhole_l3) (live := some [27, 30, 19, 29, 6, 15, 24, 28, 25, 26, 18]) (n0 := 5) S
    (fun k s => [(27, .w (Bo s)), (30, .w (W k)), (19, .w (.c (sl 4 5 (rowsF F)))), (29, .w (W 0)), (6, .w (W o)), (15, .w (Pt 1)), (24, .w (.c (.rslice fr))), (28, .w (Bo false)), (25, .w (W ln)), (26, .w (W x)), (18, .w (.c (sl 3 3 (rowsS S))))]) (fun _ _ => memW m a0 a1 a2 K S F) (fun _ _ => True) (fun _ s q => s || hasS ln x q)
    (fun s => (.exit 6, [(137, .w (Bo false)), (27, .w (Bo s)), (30, .w (W S.length)), (19, .w (.c (sl 4 5 (rowsF F)))), (29, .w (W 0)), (6, .w (W o)), (15, .w (Pt 1)), (24, .w (.c (.rslice fr))), (28, .w (Bo false)), (25, .w (W ln)), (26, .w (W x)), (18, .w (.c (sl 3 3 (rowsS S))))], memW m a0 a1 a2 K S F)) ?_ ?_ (s0 := false) trivial
  · rw [foldI_const, foldl_or, Bool.false_or] at q
    exact q
  · intro k hk s _
    refine ⟨trivial, ?_⟩
    have hww := wrap_succ (i := k) (by omega)
    simp only [memW, knowC, mapC]
    rw [Y_step c_kerbstonelaw05_TrackWhole_l3.eq_1]
    generalize hwk : S[k] = w
    obtain ⟨wl, wlo, whi⟩ := w
    cases s with
    | true => simp [hk, hwk, hww, spnC]
    | false =>
      simp only [hasS]
      by_cases c1 : wl = ln
      · subst c1
        by_cases c2 : wlo ≤ x
        · by_cases c3 : x ≤ whi
          · simp [hk, hwk, hww, spnC, c2, c3]
          · simp [hk, hwk, hww, spnC, c2, c3]
        · simp [hk, hwk, hww, spnC, c2]
      · have b1 : (wl == ln) = false := by simp [c1]
        simp [hk, hwk, hww, spnC, c1, b1]
  · intro s _
    simp only [memW, knowC, mapC]
    rw [Y_step c_kerbstonelaw05_TrackWhole_l3.eq_1]
    simp
set_option maxHeartbeats 2000000 in
theorem wh_loop4 (m : GMap) (a0 a1 a2 : Int) (K : Know) (S : List Spn) (F : List Fnd) (hF : F.length ≤ 100) (o x ln : Int) (fr : List (List Cl)) (i27 : Bool) :
    Y L Cs c_kerbstonelaw05_TrackWhole_l4 (some [28, 31, 24, 27, 18, 15, 6, 29, 25, 26, 19]) 5 [(28, .w (Bo false)), (31, .w (W (0 : Nat))), (24, .w (.c (.rslice fr))), (27, .w (Bo i27)), (18, .w (.c (sl 3 3 (rowsS S)))), (15, .w (Pt 1)), (6, .w (W o)), (29, .w (W 0)), (25, .w (W ln)), (26, .w (W x)), (19, .w (.c (sl 4 5 (rowsF F))))] (memW m a0 a1 a2 K S F) =
      some (.exit 8, [(171, .w (Bo false)), (28, .w (Bo (F.any fun f => hasS ln x f.s))), (31, .w (W F.length)), (24, .w (.c (.rslice fr))), (27, .w (Bo i27)), (18, .w (.c (sl 3 3 (rowsS S)))), (15, .w (Pt 1)), (6, .w (W o)), (29, .w (W 0)), (25, .w (W ln)), (26, .w (W x)), (19, .w (.c (sl 4 5 (rowsF F))))], memW m a0 a1 a2 K S F) := by
  have q := Y_foldI (L := L) (Cs := Cs) (b := c_kerbstonelaw05_TrackWhole_l4) (live := some [28, 31, 24, 27, 18, 15, 6, 29, 25, 26, 19]) (n0 := 5) F
    (fun k s => [(28, .w (Bo s)), (31, .w (W k)), (24, .w (.c (.rslice fr))), (27, .w (Bo i27)), (18, .w (.c (sl 3 3 (rowsS S)))), (15, .w (Pt 1)), (6, .w (W o)), (29, .w (W 0)), (25, .w (W ln)), (26, .w (W x)), (19, .w (.c (sl 4 5 (rowsF F))))]) (fun _ _ => memW m a0 a1 a2 K S F) (fun _ _ => True) (fun _ s (q : Fnd) => s || hasS ln x q.s)
    (fun s => (.exit 8, [(171, .w (Bo false)), (28, .w (Bo s)), (31, .w (W F.length)), (24, .w (.c (.rslice fr))), (27, .w (Bo i27)), (18, .w (.c (sl 3 3 (rowsS S)))), (15, .w (Pt 1)), (6, .w (W o)), (29, .w (W 0)), (25, .w (W ln)), (26, .w (W x)), (19, .w (.c (sl 4 5 (rowsF F))))], memW m a0 a1 a2 K S F)) ?_ ?_ (s0 := false) trivial
  · rw [foldI_const, foldl_or (fun q : Fnd => hasS ln x q.s), Bool.false_or] at q
    exact q
  · intro k hk s _
    refine ⟨trivial, ?_⟩
    have hww := wrap_succ (i := k) (by omega)
    simp only [memW, knowC, mapC]
    rw [Y_step c_kerbstonelaw05_TrackWhole_l4.eq_1]
    generalize hwk : F[k] = w
    obtain ⟨wl, wlo, whi, w1, w2⟩ := w
    cases s with
    | true => simp [hk, hwk, hww, fndC]
    | false =>
      simp only [hasS, Fnd.s]
      by_cases c1 : wl = ln
      · subst c1
        by_cases c2 : wlo ≤ x
        · by_cases c3 : x ≤ whi
          · simp [hk, hwk, hww, fndC, c2, c3]
          · simp [hk, hwk, hww, fndC, c2, c3]
        · simp [hk, hwk, hww, fndC, c2]
      · have b1 : (wl == ln) = false := by simp [c1]
        simp [hk, hwk, hww, fndC, c1, b1]
  · intro s _
    simp only [memW, knowC, mapC]
    rw [Y_step c_kerbstonelaw05_TrackWhole_l4.eq_1]
    simp
theorem foldl_cnt {α : Type} (f : α → Bool) : ∀ (l : List α) (s : Int), l.foldl (fun s q => if f q = true then s + 1 else s) s = s + l.countP f
  | [], s => by simp
  | x :: l, s => by
    rw [List.foldl_cons, foldl_cnt f l, List.countP_cons]
    split <;> simp <;> omega
set_option maxHeartbeats 2000000 in
theorem wh_loop5 (m : GMap) (a0 a1 a2 : Int) (K : Know) (S : List Spn) (F : List Fnd) (o x ln : Int) (fr : List Spn) (hf : fr.length ≤ 100000) (i27 i28 : Bool) :
    Y L Cs c_kerbstonelaw05_TrackWhole_l5 (some [29, 32, 19, 6, 15, 18, 28, 27, 25, 26, 24]) 5 [(29, .w (W 0)), (32, .w (W (0 : Nat))), (19, .w (.c (sl 4 5 (rowsF F)))), (6, .w (W o)), (15, .w (Pt 1)), (18, .w (.c (sl 3 3 (rowsS S)))), (28, .w (Bo i28)), (27, .w (Bo i27)), (25, .w (W ln)), (26, .w (W x)), (24, .w (.c (.rslice (rowsS fr))))] (memW m a0 a1 a2 K S F) =
      some (.exit 10, [(205, .w (Bo false)), (29, .w (W (fr.countP (hasS ln x)))), (32, .w (W fr.length)), (19, .w (.c (sl 4 5 (rowsF F)))), (6, .w (W o)), (15, .w (Pt 1)), (18, .w (.c (sl 3 3 (rowsS S)))), (28, .w (Bo i28)), (27, .w (Bo i27)), (25, .w (W ln)), (26, .w (W x)), (24, .w (.c (.rslice (rowsS fr))))], memW m a0 a1 a2 K S F) := by
  have q := Y_foldI (L := L) (Cs := Cs) (b := c_kerbstonelaw05_TrackWhole_l5) (live := some [29, 32, 19, 6, 15, 18, 28, 27, 25, 26, 24]) (n0 := 5) fr
    (fun k s => [(29, .w (W s)), (32, .w (W k)), (19, .w (.c (sl 4 5 (rowsF F)))), (6, .w (W o)), (15, .w (Pt 1)), (18, .w (.c (sl 3 3 (rowsS S)))), (28, .w (Bo i28)), (27, .w (Bo i27)), (25, .w (W ln)), (26, .w (W x)), (24, .w (.c (.rslice (rowsS fr))))]) (fun _ _ => memW m a0 a1 a2 K S F) (fun k s => 0 ≤ s ∧ s ≤ k) (fun _ (s : Int) q => if hasS ln x q = true then s + 1 else s)
    (fun s => (.exit 10, [(205, .w (Bo false)), (29, .w (W s)), (32, .w (W fr.length)), (19, .w (.c (sl 4 5 (rowsF F)))), (6, .w (W o)), (15, .w (Pt 1)), (18, .w (.c (sl 3 3 (rowsS S)))), (28, .w (Bo i28)), (27, .w (Bo i27)), (25, .w (W ln)), (26, .w (W x)), (24, .w (.c (.rslice (rowsS fr))))], memW m a0 a1 a2 K S F)) ?_ ?_ (s0 := 0) ⟨by omega, by omega⟩
  · rw [foldI_const, foldl_cnt, Int.zero_add] at q
    exact q
  · intro k hk s hs
    have hs0 := hs.1
    have hs1 := hs.2
    refine ⟨by split <;> exact ⟨by omega, by omega⟩, ?_⟩
    have hww := wrap_succ (i := k) (by omega)
    have hw2 : IntKind.i64.wrap (s + 1) = s + 1 := i64_id _ (by omega) (by omega)
    simp only [memW, knowC, mapC]
    rw [Y_step c_kerbstonelaw05_TrackWhole_l5.eq_1]
    generalize hwk : fr[k] = w
    obtain ⟨wl, wlo, whi⟩ := w
    simp only [hasS]
    by_cases c1 : wl = ln
    · subst c1
      by_cases c2 : wlo ≤ x
      · by_cases c3 : x ≤ whi
        · simp [hk, hwk, hww, hw2, spnC, c2, c3]
        · simp [hk, hwk, hww, spnC, c2, c3]
      · simp [hk, hwk, hww, spnC, c2]
    · have b1 : (wl == ln) = false := by simp [c1]
      simp [hk, hwk, hww, spnC, c1, b1]
  · intro s _
    simp only [memW, knowC, mapC]
    rw [Y_step c_kerbstonelaw05_TrackWhole_l5.eq_1]
    simp
end Go.TrRun

/- TrackWhole answers true. -/
set_option linter.unusedVariables false
set_option linter.unusedSimpArgs false
set_option maxRecDepth 10000
namespace Go.TrRun
open Go Go.Eng

set_option maxHeartbeats 2000000 in
theorem wh_loop6 {m : GMap} (h : Good m) (a0 a1 a2 : Int) (K : Know) (S : List Spn) (hS : S.length ≤ 19) (F : List Fnd) (hF : F.length ≤ 8) (o : Int) (h1 : ∀ s ∈ S, onF m s = true) (h2 : ∀ f ∈ F, onF m f.s = true) (hfr : (freeF m S F).length ≤ 100000) : ∀ (r : List Lane) (i : Nat), m.lanes.drop i = r → i ≤ m.lanes.length →
    Y L Cs c_kerbstonelaw05_TrackWhole_l6 (some [19, 6, 15, 24, 25, 18]) 5 [(19, .w (.c (sl 4 5 (rowsF F)))), (6, .w (W o)), (15, .w (Pt 1)), (24, .w (.c (.rslice (rowsS (freeF m S F))))), (25, .w (W i)), (18, .w (.c (sl 3 3 (rowsS S))))] (memW m a0 a1 a2 K S F) =
      some (.exit 4, [(125, .w (Bo false)), (19, .w (.c (sl 4 5 (rowsF F)))), (6, .w (W o)), (15, .w (Pt 1)), (24, .w (.c (.rslice (rowsS (freeF m S F))))), (25, .w (W m.lanes.length)), (18, .w (.c (sl 3 3 (rowsS S))))], memW m a0 a1 a2 K S F) := by
  intro r
  induction r with
  | nil =>
    intro i hd hi
    obtain rfl := drop_nil hd hi
    simp only [memW, knowC, mapC]
    rw [Y_step c_kerbstonelaw05_TrackWhole_l6.eq_1]
    simp
  | cons l r ih =>
    intro i hd hi
    obtain ⟨hil, hl, hd'⟩ := drop_cons hd
    have hsm := h.small.lanes
    have hw := wrap_succ (i := i) (by omega)
    have hx : (0 : Int) ≤ (i : Int) ∧ (i : Int) < m.lanes.length := by omega
    have hle := lenF_le h hx
    have hL := R_rLengthF h hx
    have hm := R_Mod64 o (lenF m i + 1) (by omega) (by omega)
    have hwl : IntKind.i64.wrap (lenF m i + 1) = lenF m i + 1 := i64_id _ (by omega) (by omega)
    generalize lenF m i = n at *
    generalize hxo : o % (n + 1) = x at *
    have g3 := wh_loop3 m a0 a1 a2 K S (by omega) F o x i (rowsS (freeF m S F))
    have g4 := wh_loop4 m a0 a1 a2 K S F (by omega) o x i (rowsS (freeF m S F)) (S.any (hasS i x))
    have g5 := wh_loop5 m a0 a1 a2 K S F o x i (freeF m S F) hfr (S.any (hasS i x)) (F.any fun f => hasS i x f.s)
    have law := free_law (m := m) i x S F h1 h2
    rw [law] at g5
    rw [← ih (i + 1) hd' hil]
    clear ih law h1 h2
    generalize S.any (hasS i x) = bi at *
    generalize (F.any fun f => hasS i x f.s) = ba at *
    simp only [memW, knowC, mapC, Int.natCast_zero] at hL g3 g4 g5 ⊢
    rw [Y_step c_kerbstonelaw05_TrackWhole_l6.eq_1]
    cases bi <;> cases ba <;> simp at g3 g4 g5 <;> simp [hil, hw, hL, hm, hwl, g3, g4, g5]
theorem bitS_on {m : GMap} (h : Good m) (hne : 0 < m.lanes.length) (x : Bit) : onF m (bitS m x) = true := by
  have f := bitB_fits h hne x
  unfold onF bitS spnOf
  simp [f.lane.1, f.lane.2, f.lo, f.le, f.hi]
theorem freeL_len (m : GMap) : ∀ (fs : List Fnd) (l : List Spn), (freeL m fs l).length ≤ l.length * 2 ^ fs.length
  | [], l => by simp [freeL]
  | f :: r, l => by
    have h1 := freeL_len m r (if onF m f.s = true then cutS f.lane f.lo f.hi l else l)
    rw [freeL]
    refine Nat.le_trans h1 ?_
    have e : l.length * 2 ^ (f :: r).length = 2 * l.length * 2 ^ r.length := by
      rw [List.length_cons, Nat.pow_succ, Nat.mul_comm 2 l.length, Nat.mul_assoc, Nat.mul_comm 2]
    rw [e]
    refine Nat.mul_le_mul_right _ ?_
    split
    · exact cutS_len _ _ _ _
    · omega
set_option maxHeartbeats 2000000 in
theorem R_whole_law {m : GMap} (hm : Good m) (hp : 0 < m.lanes.length) (n rt o a0 a1 a2 : Int) (l s f : List Bit) (c1 : l.length ≤ 8) (c2 : s.length ≤ 6) (c3 : f.length ≤ 6) (hl : ∀ x ∈ l, In64 x.hold) (hs : ∀ x ∈ s, In64 x.hold) (hf : ∀ x ∈ f, In64 x.hold) (hM : R L Cs f_kerbstonekit_Map [W n] [] = some (.w (.a (mapC m)), [])) : R L Cs f_kerbstonelaw05_TrackWhole [W n, W rt, .c (.rslice (rowsBit l)), .a [I a0, I a1, I a2], .c (.rslice (rowsBit s)), .c (.rslice (rowsBit f)), W o] [] = some (.w (Bo true), []) := by
  obtain ⟨k, hR⟩ := R_RoadRoute hm rt
  have hK := R_Known hm hp (routeK m k) (routeK_len m k) l (by omega) hl a0 a1 a2 a0
  have hin := known_inside hm hp (routeK m k) l a0 a1 a2 a0
  have hKl : (knownF m (routeK m k) l a0 a1 a2 a0).blobs.length ≤ 100000 := by
    have := refJoinF_len (l.map (bitB m))
    rw [List.length_map] at this
    exact Nat.le_trans this (by omega)
  generalize knownF m (routeK m k) l a0 a1 a2 a0 = K at *
  have hA := R_All hm K.tick K.ego
  have hI := R_refInside K ⟨K.tick, allFrom 0 m.lanes, K.ego⟩ hKl (by show (allFrom 0 m.lanes).length ≤ _; rw [allFrom_len]; have := hm.small.lanes; omega)
  rw [hin] at hI
  have d1 : ¬ ((8 : Int) < l.length) := by omega
  have d2 : ¬ ((6 : Int) < s.length) := by omega
  have d3 : ¬ ((6 : Int) < f.length) := by omega
  have d1' : ¬ (8 < l.length) := by omega
  have d2' : ¬ (6 < s.length) := by omega
  have d3' : ¬ (6 < f.length) := by omega
  rw [R_fn F_kerbstonelaw05_TrackWhole rfl]
  have ha := R_awake
  have g1 := wh_loop1 hm hp s f (by omega) hs o a0 a1 a2 K s 0 [] rfl (Nat.zero_le _) rfl
  have g2 := wh_loop2 hm hp f (by omega) hf o a0 a1 a2 K (s.map (bitS m)) (by simp; omega) f 0 [] rfl (Nat.zero_le _) rfl
  have eS : (s.map (bitS m)).length = s.length := List.length_map _
  have eF : (f.map (bitF m)).length = f.length := List.length_map _
  have onS : ∀ y ∈ s.map (bitS m), onF m y = true := by
    intro y hy
    obtain ⟨z, _, rfl⟩ := List.mem_map.1 hy
    exact bitS_on hm hp z
  have onFd : ∀ y ∈ f.map (bitF m), onF m y.s = true := by
    intro y hy
    obtain ⟨z, _, rfl⟩ := List.mem_map.1 hy
    exact bitS_on hm hp z
  simp only [List.nil_append] at g1 g2
  generalize s.map (bitS m) = S at *
  generalize f.map (bitF m) = F at *
  have hFr := R_Free hm S (by omega) F (by omega)
  have hfl : (freeF m S F).length ≤ 100000 := by
    have q1 := freeL_len m F (wholeF m S)
    have q2 := wholeF_len m S
    exact Nat.le_trans q1 (Nat.le_trans (Nat.mul_le_mul (Nat.le_trans q2 (show S.length ≤ 6 by omega)) (Nat.pow_le_pow_right (by decide) (show F.length ≤ 6 by omega))) (by decide))
  have g6 := wh_loop6 hm a0 a1 a2 K S (by omega) F (by omega) o onS onFd hfl m.lanes 0 rfl (Nat.zero_le _)
  have tk1 : List.take s.length (rowsS S) = rowsS S := List.take_of_length_le (by simp; omega)
  have tk2 : List.take f.length (rowsF F) = rowsF F := List.take_of_length_le (by simp; omega)
  have le1 : s.length ≤ S.length := by omega
  have le2 : f.length ≤ F.length := by omega
  simp only [sl, own, memW, fzS, fzF, rowsS_len, rowsF_len, eS, eF, mapC, knowC, egoR, rowsS_nil, rowsF_nil, List.length_nil, Int.natCast_zero] at hM hR hK hA hI hFr g1 g2 g6
  simp [c_kerbstonelaw05_TrackWhole, hM, hR, hK, hA, hI, d1, d2, d3, d1', d2', d3', newAt, mapC, g1, g2, hFr, g6, ha, markOne, tk1, tk2, le1, le2]
end Go.TrRun

/- TrackWhole: the statement's own law. -/
set_option linter.unusedVariables false
set_option linter.unusedSimpArgs false
set_option maxRecDepth 10000
namespace Go.TrRun
open Go Go.Eng

theorem Map_good3 (n : Int) : ∃ m, Good m ∧ m.works.length ≤ 1000 ∧ 0 < m.lanes.length ∧ R L Cs f_kerbstonekit_Map [W n] [] = some (.w (.a (mapC m)), []) := by
  have hN : 0 ≤ n % 16777216 ∧ n % 16777216 < 16777216 := by omega
  have h7 : 0 ≤ (n % 16777216).tmod 7 ∧ (n % 16777216).tmod 7 < 7 := by
    rw [Int.tmod_eq_emod_of_nonneg hN.1]; omega
  have hr := tmod_lt _ 28 2 hN (by decide) (by decide)
  have nu := nums_of n
  by_cases hw : ((n % 16777216).tdiv 1736).tmod 3 = 1
  · have hk : (n % 16777216).tmod 7 = 0 ∨ (n % 16777216).tmod 7 = 1 ∨ (n % 16777216).tmod 7 = 2 ∨ (n % 16777216).tmod 7 = 3 ∨ (n % 16777216).tmod 7 = 4 ∨ (n % 16777216).tmod 7 = 5 ∨ (n % 16777216).tmod 7 = 6 := by omega
    rcases hk with h | h | h | h | h | h | h
    · exact ⟨_, good0 nu, works_len _ _ _ _ _ _ _ _ _ _, by simp [mapP, lanesP], R_Map0w n h hw⟩
    · exact ⟨_, good1 nu, works_len _ _ _ _ _ _ _ _ _ _, by simp [mapP, lanesP], R_Map1w n h hw⟩
    · exact ⟨_, good2 nu, works_len _ _ _ _ _ _ _ _ _ _, by simp [mapP, lanesP], R_Map2w n h hw⟩
    · exact ⟨_, good3 nu, works_len _ _ _ _ _ _ _ _ _ _, by simp [mapP, lanesP], R_Map3w n h hw⟩
    · exact ⟨_, good4 nu, works_len _ _ _ _ _ _ _ _ _ _, by simp [mapP, lanesP], R_Map4w n h hw⟩
    · exact ⟨_, good5 nu, works_len _ _ _ _ _ _ _ _ _ _, by simp [mapP, lanesP], R_Map5w n h hw⟩
    · by_cases h28 : ((n % 16777216).tdiv 28).tmod 2 = 1
      · exact ⟨_, good6 nu, works_len _ _ _ _ _ _ _ _ _ _, by simp [mapP, lanesP], R_Map6aw n h h28 hw⟩
      · exact ⟨_, good6 nu, works_len _ _ _ _ _ _ _ _ _ _, by simp [mapP, lanesP], R_Map6bw n h (by omega) hw⟩
  · have hk : (n % 16777216).tmod 7 = 0 ∨ (n % 16777216).tmod 7 = 1 ∨ (n % 16777216).tmod 7 = 2 ∨ (n % 16777216).tmod 7 = 3 ∨ (n % 16777216).tmod 7 = 4 ∨ (n % 16777216).tmod 7 = 5 ∨ (n % 16777216).tmod 7 = 6 := by omega
    rcases hk with h | h | h | h | h | h | h
    · exact ⟨_, good0 nu, works_len _ _ _ _ _ _ _ _ _ _, by simp [mapP, lanesP], R_Map0 n h hw⟩
    · exact ⟨_, good1 nu, works_len _ _ _ _ _ _ _ _ _ _, by simp [mapP, lanesP], R_Map1 n h hw⟩
    · exact ⟨_, good2 nu, works_len _ _ _ _ _ _ _ _ _ _, by simp [mapP, lanesP], R_Map2 n h hw⟩
    · exact ⟨_, good3 nu, works_len _ _ _ _ _ _ _ _ _ _, by simp [mapP, lanesP], R_Map3 n h hw⟩
    · exact ⟨_, good4 nu, works_len _ _ _ _ _ _ _ _ _ _, by simp [mapP, lanesP], R_Map4 n h hw⟩
    · exact ⟨_, good5 nu, works_len _ _ _ _ _ _ _ _ _ _, by simp [mapP, lanesP], R_Map5 n h hw⟩
    · by_cases h28 : ((n % 16777216).tdiv 28).tmod 2 = 1
      · exact ⟨_, good6 nu, works_len _ _ _ _ _ _ _ _ _ _, by simp [mapP, lanesP], R_Map6a n h h28 hw⟩
      · exact ⟨_, good6 nu, works_len _ _ _ _ _ _ _ _ _ _, by simp [mapP, lanesP], R_Map6b n h (by omega) hw⟩
theorem R_TrackWhole (n rt o a0 a1 a2 : Int) (l s f : List Bit) (hl : ∀ x ∈ l, In64 x.hold) (hs : ∀ x ∈ s, In64 x.hold) (hf : ∀ x ∈ f, In64 x.hold) : R L Cs f_kerbstonelaw05_TrackWhole [W n, W rt, .c (.rslice (rowsBit l)), .a [I a0, I a1, I a2], .c (.rslice (rowsBit s)), .c (.rslice (rowsBit f)), W o] [] = some (.w (Bo true), []) := by
  obtain ⟨m, hm, _, hp, hM⟩ := Map_good3 n
  have ha := R_awake
  by_cases c1 : (8 : Int) < l.length
  · have c1' : 8 < l.length := by omega
    rw [R_fn F_kerbstonelaw05_TrackWhole rfl]
    simp [c_kerbstonelaw05_TrackWhole, c1, c1', ha]
  by_cases c2 : (6 : Int) < s.length
  · have c1' : ¬ 8 < l.length := by omega
    have c2' : 6 < s.length := by omega
    rw [R_fn F_kerbstonelaw05_TrackWhole rfl]
    simp [c_kerbstonelaw05_TrackWhole, c1, c1', c2, c2', ha]
  by_cases c3 : (6 : Int) < f.length
  · have c1' : ¬ 8 < l.length := by omega
    have c2' : ¬ 6 < s.length := by omega
    have c3' : 6 < f.length := by omega
    rw [R_fn F_kerbstonelaw05_TrackWhole rfl]
    simp [c_kerbstonelaw05_TrackWhole, c1, c1', c2, c2', c3, c3', ha]
  exact R_whole_law hm hp n rt o a0 a1 a2 l s f (by omega) (by omega) (by omega) hl hs hf hM
abbrev bitSh : Sh := .st [i64S, i64S, i64S, i64S, i64S, i64S]
theorem bits_of : ∀ {rows : List (List Cl)}, (∀ r ∈ rows, HasSh bitSh r) → ∃ l, rows = rowsBit l ∧ ∀ b ∈ l, In64 b.hold
  | [], _ => ⟨[], rfl, by simp⟩
  | r :: rows, h => by
    have h1 := h r (List.mem_cons_self ..)
    simp only [HasSh, HasShs] at h1
    obtain ⟨_, _, rfl, ⟨a1, rfl, q1⟩, _, _, rfl, ⟨a2, rfl, q2⟩, _, _, rfl, ⟨a3, rfl, q3⟩, _, _, rfl, ⟨a4, rfl, q4⟩, _, _, rfl, ⟨a5, rfl, q5⟩, _, _, rfl, ⟨a6, rfl, q6⟩, rfl⟩ := h1
    obtain ⟨l, rfl, hl⟩ := bits_of fun x hx => h x (List.mem_cons_of_mem _ hx)
    refine ⟨⟨a1, a2, a3, a4, a5, a6⟩ :: l, rfl, fun x hx => ?_⟩
    rcases List.mem_cons.1 hx with rfl | hx
    · exact q6
    · exact hl x hx
theorem runs_whole : ∀ xs, HasArgs [i64S, i64S, .slice bitSh, .st [i64S, i64S, i64S], .slice bitSh, .slice bitSh, i64S] xs → ∃ M', R L Cs f_kerbstonelaw05_TrackWhole xs [] = some (.w (.c (.bool true)), M') := by
  intro xs h
  simp only [HasArgs] at h
  obtain ⟨c1, _, rfl, h1, c2, _, rfl, h2, c3, _, rfl, h3, c4, _, rfl, h4, c5, _, rfl, h5, c6, _, rfl, h6, c7, _, rfl, h7, rfl⟩ := h
  simp only [HasSh, HasShs] at h1 h2 h3 h4 h5 h6 h7
  obtain ⟨n, rfl, _⟩ := h1
  obtain ⟨rt, rfl, _⟩ := h2
  obtain ⟨rows, rfl, _, hrows⟩ := h3
  obtain ⟨l, rfl, hl⟩ := bits_of (rows := rows) (fun r hr => by simp only [HasSh, HasShs]; exact hrows r hr)
  obtain ⟨_, _, rfl, ⟨a0, rfl, _⟩, _, _, rfl, ⟨a1, rfl, _⟩, _, _, rfl, ⟨a2, rfl, _⟩, rfl⟩ := h4
  obtain ⟨rows, rfl, _, hrows⟩ := h5
  obtain ⟨s, rfl, hs⟩ := bits_of (rows := rows) (fun r hr => by simp only [HasSh, HasShs]; exact hrows r hr)
  obtain ⟨rows, rfl, _, hrows⟩ := h6
  obtain ⟨f, rfl, hf⟩ := bits_of (rows := rows) (fun r hr => by simp only [HasSh, HasShs]; exact hrows r hr)
  obtain ⟨o, rfl, _⟩ := h7
  exact ⟨[], R_TrackWhole n rt o a0 a1 a2 l s f hl hs hf⟩
end Go.TrRun

