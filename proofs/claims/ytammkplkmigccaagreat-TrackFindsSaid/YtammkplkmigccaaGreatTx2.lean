/- This text proves what functions of this seat's program answer, run by the evaluator; no condition. -/
import Derived.Test.YtammkplkmigccaaGreatTx1
set_option linter.unusedVariables false
set_option linter.unusedSimpArgs false
set_option linter.unusedSectionVars false
set_option maxRecDepth 10000
namespace Go.TrRun
open Go Go.Eng
theorem grp_lane {n : Int} {g : List Fnd} {x : Fnd} (hg : ∀ y ∈ g, y.lane = n) (hx : x.lane = n) : ∀ y ∈ grp g x, y.lane = n := by
  intro z hz
  unfold grp at hz
  split at hz
  · simp at hz; subst hz; exact hx
  · rename_i y hy
    split at hz
    · simp only [List.mem_append, List.mem_singleton] at hz
      rcases hz with hz | rfl
      · exact hg z (List.dropLast_subset _ hz)
      · exact hg y (List.mem_of_getLast? hy)
    · simp only [List.mem_append, List.mem_singleton] at hz
      rcases hz with hz | rfl
      · exact hg z hz
      · exact hx
structure Jn (m : GMap) (s : List Fnd) (J : Mem) (q : Nat) : Prop where
  hJ : J[q]? = some (some { box := false, esz := 5, rows := rowsF s, gen := s.length, fz := false, ver := s.length })
  hq : q + 1 ≤ J.length
  hmb : ∀ (R : List (List Cl)) (G V : Nat), memBelow (J.length + 4) (bx 5 [I m.version, .rslice (m.lanes.map laneC), .rslice m.zones, .rslice m.signals, .rslice (m.works.map workC)] :: gb 5 :: some { box := false, esz := 5, rows := R, gen := G, fz := false, ver := V } :: gb 5 :: J) = true
  g1 : ∀ T : Mem, (J ++ T)[q]? = some (some { box := false, esz := 5, rows := rowsF s, gen := s.length, fz := false, ver := s.length })
  g2 : ∀ (x : Option Blk) (T : Mem), (J ++ x :: T)[J.length]? = some x
  g4 : ∀ (x y : Option Blk) (T : Mem), (J ++ x :: T).set J.length y = J ++ y :: T
  g6 : ∀ T : Mem, List.take J.length (J ++ T) = J
  n1 : ¬ (J.length + 1 ≤ J.length)
theorem Jn.mk' {m : GMap} {s : List Fnd} {J : Mem} {q : Nat} (hJ : J[q]? = some (oB s.length s)) (hpl : ∀ x ∈ J, plainB x = true) : Jn m s J q := by
  have hq : q < J.length := (List.getElem?_eq_some_iff.1 hJ).1
  refine ⟨hJ, hq, ?_, fun T => by rw [List.getElem?_append_left hq]; exact hJ, fun x T => by simp, fun x y T => by simp, fun T => List.take_left, by omega⟩
  intro R G V
  have := memBelow_plain (J.length + 4) hpl
  unfold memBelow at this ⊢
  simp only [List.all_cons, this]
  simp
abbrev l4env (n i : Nat) (o : List Fnd) (cs : List Pnt) (s : List Fnd) (q : Nat) : Env := [(5, .w (.c (oS 2 o))), (14, .w (W i)), (2, .w (Pt 0)), (6, .w (.c (.rslice (rowsP cs)))), (7, .w (Bo true)), (8, .w (W n)), (9, .w (.c (oS (q + 4) s)))]
noncomputable abbrev l4Y (m : GMap) (n i v : Nat) (o : List Fnd) (cs : List Pnt) (s : List Fnd) (J : Mem) (q : Nat) := Y L Cs c_kerbstoneref05_Found_l4 (some [5, 14, 2, 6, 7, 8, 9]) (J.length + 4) (l4env n i o cs s q) (base m v o J)
set_option maxHeartbeats 4000000 in
theorem rstep_nil {m : GMap} (n i v : Nat) (cs : List Pnt) (s : List Fnd) (J : Mem) (q : Nat) (hj : Jn m s J q) (hl : s.length ≤ 1000) (hil : i < s.length) (x : Fnd) (hs : s[i] = x) :
    l4Y m n i v [] cs s J q = l4Y m n (i + 1) (v + 1) [x] cs s J q := by
  obtain ⟨hJ, hq, hmb, g1, g2, g4, g6, n1⟩ := hj
  have hw := wrap_succ (i := i) (by omega)
  have e1 : IntKind.i64.wrap (-1) = -1 := rfl
  simp only [l4Y, l4env, oB, oS, base, mapC, rowsF_nil, List.length_nil]
  rw [Y_step c_kerbstoneref05_Found_l4.eq_1]
  simp [-memBelow, hil, hs, hw, fndC, hJ, g1, g2, g4, g6, hmb, hq, n1, e1, newAt]
set_option maxHeartbeats 4000000 in
theorem rstep_app {m : GMap} (n i v : Nat) (w : List Fnd) (hwl : w.length ≤ 200000) (y x : Fnd) (hy : InB y) (hx : InB x) (cs : List Pnt) (s : List Fnd) (J : Mem) (q : Nat) (hj : Jn m s J q) (hl : s.length ≤ 1000) (hil : i < s.length) (hs : s[i] = x) (hc : y.lane ≠ n ∨ 500 < x.lo - y.hi) :
    l4Y m n i v (w ++ [y]) cs s J q = l4Y m n (i + 1) (v + 1) (w ++ [y] ++ [x]) cs s J q := by
  obtain ⟨hJ, hq, hmb, g1, g2, g4, g6, n1⟩ := hj
  have hw := wrap_succ (i := i) (by omega)
  obtain ⟨hya, hyb⟩ := hy.b
  obtain ⟨hxa, hxb⟩ := hx.a
  have e3 : IntKind.i64.wrap (x.lo - y.hi) = x.lo - y.hi := wr (by omega) (by omega)
  have hA : rowsF (w ++ [y]) = rowsF w ++ [fndC y] := by simp
  have hA2 : rowsF (w ++ [y] ++ [x]) = rowsF w ++ [fndC y] ++ [fndC x] := by simp
  have hlen : (w ++ [y]).length = w.length + 1 := by simp
  have hlen2 : (w ++ [y] ++ [x]).length = w.length + 2 := by simp
  have hAl : (rowsF w).length = w.length := rowsF_len _
  simp only [l4Y, l4env, oB, oS, base, mapC, hA, hA2, hlen, hlen2]
  rw [Y_step c_kerbstoneref05_Found_l4.eq_1]
  generalize rowsF w = A at *
  generalize w.length = K at *
  have hget : ∀ a : List Cl, (A ++ [a])[K]? = some a := fun a => by rw [← hAl]; simp
  have e1 : IntKind.i64.wrap (K : Int) = (K : Int) := wr (by omega) (by omega)
  have e2 : ¬ ((K : Int) < 0) := by omega
  have hk1 : (K : Int) < (K : Int) + 1 := by omega
  have hroom : (K + 1 + 1) * 40 ≤ 140737488355328 := by omega
  have hKA : K ≤ A.length := by omega
  have htk : ∀ a : List Cl, (A ++ [a]).take (K + 1) = A ++ [a] := fun a => List.take_of_length_le (by simp; omega)
  by_cases c : y.lane = n
  · have c2 : 500 < x.lo - y.hi := by
      rcases hc with hc | hc
      · exact absurd c hc
      · exact hc
    have c3 : (y.lane != (n : Int)) = false := by simpa using c
    simp [-memBelow, hil, hs, hw, fndC, hJ, g1, g2, g4, g6, hmb, hq, n1, e1, e2, e3, hget, hk1, hroom, hKA, htk, c, c2, newAt]
  · have c3 : (y.lane != (n : Int)) = true := by simpa using c
    simp [-memBelow, hil, hs, hw, fndC, hJ, g1, g2, g4, g6, hmb, hq, n1, e1, e2, e3, hget, hk1, hroom, hKA, htk, c3, newAt]
set_option maxHeartbeats 4000000 in
theorem rstep_rep {m : GMap} (n i v : Nat) (w : List Fnd) (hwl : w.length ≤ 200000) (y x : Fnd) (hy : InB y) (hx : InB x) (cs : List Pnt) (s : List Fnd) (J : Mem) (q : Nat) (hj : Jn m s J q) (hl : s.length ≤ 1000) (hil : i < s.length) (hs : s[i] = x) (c : y.lane = n) (c2 : ¬ 500 < x.lo - y.hi) :
    l4Y m n i v (w ++ [y]) cs s J q = l4Y m n (i + 1) (v + 1) (w ++ [merge1 y x]) cs s J q := by
  obtain ⟨hJ, hq, hmb, g1, g2, g4, g6, n1⟩ := hj
  have hw := wrap_succ (i := i) (by omega)
  obtain ⟨hya, hyb⟩ := hy.b
  obtain ⟨hxa, hxb⟩ := hx.a
  have e3 : IntKind.i64.wrap (x.lo - y.hi) = x.lo - y.hi := wr (by omega) (by omega)
  have hA : ∀ z : Fnd, rowsF (w ++ [z]) = rowsF w ++ [fndC z] := fun z => by simp
  have hlen : ∀ z : Fnd, (w ++ [z]).length = w.length + 1 := fun z => by simp
  have hAl : (rowsF w).length = w.length := rowsF_len _
  simp only [l4Y, l4env, oB, oS, base, mapC, hA, hlen]
  rw [Y_step c_kerbstoneref05_Found_l4.eq_1]
  generalize rowsF w = A at *
  generalize w.length = K at *
  have hget : ∀ a : List Cl, (A ++ [a])[K]? = some a := fun a => by rw [← hAl]; simp
  have hset : ∀ a b : List Cl, (A ++ [a]).set K b = A ++ [b] := fun a b => by rw [← hAl]; simp
  have e1 : IntKind.i64.wrap (K : Int) = (K : Int) := wr (by omega) (by omega)
  have e2 : ¬ ((K : Int) < 0) := by omega
  have hk1 : (K : Int) < (K : Int) + 1 := by omega
  have c3 : (y.lane != (n : Int)) = false := by simpa using c
  simp [-memBelow, hil, hs, hw, fndC, hJ, g1, g2, g4, g6, hmb, hq, n1, e1, e2, e3, hget, hset, hk1, c, c2, newAt, foldMM, merge1]
theorem rfound_loop4 {m : GMap} (n : Nat) (fo : List Fnd) (hfo : fo.length ≤ 100000) (hfl : ∀ y ∈ fo, InB y ∧ y.lane ≠ n) (cs : List Pnt) (s : List Fnd) (hsB : ∀ x ∈ s, InB x ∧ x.lane = n) (hl : s.length ≤ 1000) (J : Mem) (q : Nat) (hj : Jn m s J q) : ∀ (r : List Fnd) (i v : Nat) (g : List Fnd), s.drop i = r → i ≤ s.length → g.length ≤ i → (∀ y ∈ g, InB y) → (∀ y ∈ g, y.lane = n) →
    ∃ v', l4Y m n i v (fo ++ g) cs s J q = some (.exit 8, (89, .w (Bo false)) :: l4env n s.length (fo ++ r.foldl grp g) cs s q, base m v' (fo ++ r.foldl grp g) J) := by
  intro r
  induction r with
  | nil =>
    intro i v g hd hi ho hg hgl
    obtain rfl := drop_nil hd hi
    refine ⟨v, ?_⟩
    have hJ := hj.hJ
    simp only [l4Y, l4env]
    rw [Y_step c_kerbstoneref05_Found_l4.eq_1]
    simp [oB, oS, base, hJ]
  | cons x r ih =>
    intro i v g hd hi ho hg hgl
    obtain ⟨hil, hs, hd'⟩ := drop_cons hd
    obtain ⟨hx, hxl⟩ := hsB x (by rw [← hs]; exact List.getElem_mem hil)
    have hglen := grp_len g x
    have hgB := grp_InB hg hx
    have hgL := grp_lane hgl hxl
    obtain ⟨v', ih⟩ := ih (i + 1) (v + 1) (grp g x) hd' hil (by omega) hgB hgL
    refine ⟨v', ?_⟩
    rw [List.foldl_cons, ← ih]
    rcases List.eq_nil_or_concat g with rfl | ⟨g', y, rfl⟩
    · rw [show grp [] x = [x] from rfl, List.append_nil]
      rcases List.eq_nil_or_concat fo with rfl | ⟨fo', y, rfl⟩
      · exact rstep_nil n i v cs s J q hj hl hil x hs
      · simp only [List.concat_eq_append] at *
        exact rstep_app n i v fo' (by simp at hfo; omega) y x (hfl y (by simp)).1 hx cs s J q hj hl hil hs (.inl (hfl y (by simp)).2)
    · simp only [List.concat_eq_append] at *
      have hy := hg y (by simp)
      have hyl := hgl y (by simp)
      by_cases c : x.lo - y.hi ≤ 500
      · have eg : grp (g' ++ [y]) x = g' ++ [merge1 y x] := by simp [grp, c]
        rw [eg, ← List.append_assoc, ← List.append_assoc]
        exact rstep_rep n i v (fo ++ g') (by simp at ho ⊢; omega) y x hy hx cs s J q hj hl hil hs hyl (by omega)
      · have eg : grp (g' ++ [y]) x = g' ++ [y] ++ [x] := by simp [grp, c]
        rw [eg, ← List.append_assoc, ← List.append_assoc, ← List.append_assoc]
        exact rstep_app n i v (fo ++ g') (by simp at ho ⊢; omega) y x hy hx cs s J q hj hl hil hs (.inr (by omega))
end Go.TrRun
set_option maxRecDepth 10000
namespace Go.TrRun
open Go Go.Eng
structure InL (n : Int) (f : Fnd) : Prop where
  lane : f.lane = n
  le : f.lo ≤ f.hi
theorem grp_comm {n : Int} {x y : Fnd} (hx : InL n x) (hy : InL n y) (e : x.lo = y.lo) (g : List Fnd) : grp (grp g x) y = grp (grp g y) x := by
  obtain ⟨hx1, hx2⟩ := hx
  obtain ⟨hy1, hy2⟩ := hy
  rcases List.eq_nil_or_concat g with rfl | ⟨g', z, rfl⟩
  · have c1 : y.lo - x.hi ≤ 500 := by omega
    have c2 : x.lo - y.hi ≤ 500 := by omega
    have c3 : y.lo - y.hi ≤ 500 := by omega
    simp [grp, c1, c2, c3, merge1, hx1, hy1, e]
    omega
  · simp only [List.concat_eq_append]
    by_cases c : x.lo - z.hi ≤ 500
    · have c' : y.lo - z.hi ≤ 500 := by omega
      have c1 : y.lo - max z.hi x.hi ≤ 500 := by omega
      have c2 : x.lo - max z.hi y.hi ≤ 500 := by omega
      simp [grp, c, c', merge1, c1, c2]
      omega
    · have c' : ¬ y.lo - z.hi ≤ 500 := by omega
      have c1 : y.lo - x.hi ≤ 500 := by omega
      have c2 : x.lo - y.hi ≤ 500 := by omega
      have e1 : ∀ w : Fnd, (g' ++ z :: [w]).dropLast = g' ++ [z] := fun w => by
        rw [show g' ++ z :: [w] = (g' ++ [z]) ++ [w] by simp, List.dropLast_concat]
      have c3 : y.lo - y.hi ≤ 500 := by omega
      have c4 : ¬ y.lo - z.hi ≤ 500 := by omega
      simp [grp, c, c', c3, c4, merge1, c1, c2, hx1, hy1, e, e1]
      omega
theorem fold_move {n : Int} {x : Fnd} (hx : InL n x) : ∀ (u : List Fnd) (g : List Fnd), (∀ y ∈ u, InL n y ∧ y.lo = x.lo) → u.foldl grp (grp g x) = grp (u.foldl grp g) x
  | [], g, h => rfl
  | y :: u, g, h => by
    obtain ⟨h1, h2⟩ := h y (List.mem_cons_self ..)
    simp only [List.foldl_cons]
    rw [← grp_comm h1 hx h2, ← fold_move hx u (grp g y) fun z hz => h z (List.mem_cons_of_mem _ hz)]
theorem fold_sorted {n : Int} : ∀ (s t : List Fnd) (g : List Fnd), s.Perm t → s.Pairwise (fun x y => x.lo ≤ y.lo) → t.Pairwise (fun x y => x.lo ≤ y.lo) → (∀ x ∈ s, InL n x) → s.foldl grp g = t.foldl grp g
  | [], t, g, hp, _, _, _ => by rw [hp.nil_eq]
  | x :: s, t, g, hp, hs, ht, hn => by
    have hx : x ∈ t := hp.mem_iff.1 (List.mem_cons_self ..)
    obtain ⟨u, v, rfl⟩ := List.append_of_mem hx
    have hp' : s.Perm (u ++ v) := (List.perm_cons x).1 (hp.trans List.perm_middle)
    have ht' : (u ++ v).Pairwise (fun x y => x.lo ≤ y.lo) := ht.sublist (List.Sublist.append_left (List.sublist_cons_self ..) u)
    obtain ⟨hs1, hs2⟩ := List.pairwise_cons.1 hs
    have ih := fold_sorted s (u ++ v) (grp g x) hp' hs2 ht' fun y hy => hn y (List.mem_cons_of_mem _ hy)
    have hu : ∀ y ∈ u, InL n y ∧ y.lo = x.lo := by
      intro y hy
      have h1 : y.lo ≤ x.lo := (List.pairwise_append.1 ht).2.2 y hy x (List.mem_cons_self ..)
      have h2 : y ∈ s := hp'.mem_iff.2 (List.mem_append_left _ hy)
      have h3 := hs1 y h2
      exact ⟨hn y (List.mem_cons_of_mem _ h2), by omega⟩
    simp only [List.foldl_cons, List.foldl_append] at ih ⊢
    rw [ih, fold_move (hn x (List.mem_cons_self ..)) u g hu]
theorem insF_perm (f : Fnd) (s : List Fnd) : (insF f s).Perm (f :: s) := by
  unfold insF
  refine List.perm_middle.trans ?_
  rw [List.take_append_drop]
theorem atF_up (f : Fnd) (s : List Fnd) : ∀ k, k ≤ s.length → (∀ (j : Nat) (h : j < s.length), atF f s k ≤ j → j < k → f.lo < s[j].lo) ∧ (∀ (a : Nat) (h : a < s.length), atF f s k = a + 1 → s[a].lo ≤ f.lo)
  | 0, _ => ⟨fun j h h1 h2 => by omega, fun a h e => by simp [atF] at e⟩
  | k + 1, hk => by
    have hk' : k < s.length := by omega
    have hat : atF f s (k + 1) = if f.lo < (s[k]).lo then atF f s k else k + 1 := by simp [atF, List.getElem?_eq_getElem hk']
    obtain ⟨i1, i2⟩ := atF_up f s k (by omega)
    rw [hat]
    by_cases c : f.lo < (s[k]).lo
    · rw [if_pos c]
      refine ⟨fun j h h1 h2 => ?_, i2⟩
      rcases Nat.lt_or_ge j k with hj | hj
      · exact i1 j h h1 hj
      · obtain rfl : j = k := by omega
        exact c
    · rw [if_neg c]
      refine ⟨fun j h h1 h2 => by omega, fun a h e => ?_⟩
      obtain rfl : a = k := by omega
      omega
theorem insF_sorted (f : Fnd) (s : List Fnd) (hs : s.Pairwise fun x y => x.lo ≤ y.lo) : (insF f s).Pairwise fun x y => x.lo ≤ y.lo := by
  obtain ⟨h1, h2⟩ := atF_up f s s.length (Nat.le_refl _)
  have hle := atF_le f s s.length
  unfold insF
  generalize atF f s s.length = a at *
  have hg := List.pairwise_iff_getElem.1 hs
  have hlow : ∀ x ∈ s.take a, x.lo ≤ f.lo := by
    intro x hx
    obtain ⟨j, hj, rfl⟩ := List.mem_iff_getElem.1 hx
    have hj' : j < a ∧ j < s.length := by simp at hj; omega
    rw [List.getElem_take]
    obtain ⟨b, rfl⟩ : ∃ b, a = b + 1 := ⟨a - 1, by omega⟩
    have hb := h2 b (by omega) rfl
    rcases Nat.lt_or_ge j b with h | h
    · have := hg j b hj'.2 (by omega) h
      omega
    · obtain rfl : j = b := by omega
      exact hb
  have hup : ∀ x ∈ s.drop a, f.lo ≤ x.lo := by
    intro x hx
    obtain ⟨j, hj, rfl⟩ := List.mem_iff_getElem.1 hx
    rw [List.getElem_drop]
    have hj' : j < s.length - a := by simpa using hj
    have := h1 (a + j) (by omega) (by omega) (by omega)
    omega
  rw [List.pairwise_append, List.pairwise_cons]
  refine ⟨hs.sublist (List.take_sublist ..), ⟨hup, hs.sublist (List.drop_sublist ..)⟩, ?_⟩
  intro x hx y hy
  rcases List.mem_cons.1 hy with rfl | hy
  · exact hlow x hx
  · have := hlow x hx
    have := hup y hy
    omega
theorem insAll_spec : ∀ (xs s : List Fnd), s.Pairwise (fun x y => x.lo ≤ y.lo) → (insAll s xs).Perm (s ++ xs) ∧ (insAll s xs).Pairwise fun x y => x.lo ≤ y.lo
  | [], s, h => by simpa [insAll] using h
  | x :: xs, s, h => by
    obtain ⟨h1, h2⟩ := insAll_spec xs (insF x s) (insF_sorted x s h)
    refine ⟨?_, h2⟩
    have h1 : (insAll s (x :: xs)).Perm (insF x s ++ xs) := h1
    refine h1.trans (((insF_perm x s).append_right xs).trans ?_)
    exact List.perm_middle.symm
def rlaneF (n : Nat) (l : Lane) (cs : List Pnt) : List Fnd := (insAll [] (allF n l cs)).foldl grp []
theorem rlane_eq {m : GMap} (h : Good m) (h1 : Lanes1 m) {n : Nat} (hn : n < m.lanes.length) (cs : List Pnt) : laneF n m.lanes[n] cs = rlaneF n m.lanes[n] cs := by
  have hI := allF_InB h h1 hn cs
  obtain ⟨p1, p2⟩ := insAll_spec (allF n m.lanes[n] cs) [] List.Pairwise.nil
  rw [List.nil_append] at p1
  have q1 := srtF_perm (allF n m.lanes[n] cs)
  refine fold_sorted (n := (n : Int)) _ _ [] (q1.trans p1.symm) (srtF_sorted _) p2 fun x hx => ?_
  obtain ⟨_, h2, h3⟩ := hI x (q1.mem_iff.1 hx)
  exact ⟨h2, h3⟩
end Go.TrRun
set_option maxRecDepth 10000
namespace Go.TrRun
open Go Go.Eng
theorem rfound_l4nil {m : GMap} (n v : Nat) (o : List Fnd) (cs : List Pnt) :
    Y L Cs c_kerbstoneref05_Found_l4 (some [5, 14, 2, 6, 7, 8, 9]) 4 [(5, .w (.c (oS 2 o))), (14, .w (W 0)), (2, .w (Pt 0)), (6, .w (.c (.rslice (rowsP cs)))), (7, .w (Bo true)), (8, .w (W n)), (9, .w (.c (oS 3 [])))] (base m v o []) =
      some (.exit 8, [(89, .w (Bo false)), (5, .w (.c (oS 2 o))), (14, .w (W 0)), (2, .w (Pt 0)), (6, .w (.c (.rslice (rowsP cs)))), (7, .w (Bo true)), (8, .w (W n)), (9, .w (.c (oS 3 [])))], base m v o []) := by
  rw [Y_step c_kerbstoneref05_Found_l4.eq_1]
  simp
theorem foldl_InB : ∀ (s g : List Fnd), (∀ x ∈ s, InB x) → (∀ y ∈ g, InB y) → ∀ y ∈ s.foldl grp g, InB y
  | [], g, _, h => h
  | x :: s, g, hs, h => foldl_InB s (grp g x) (fun y hy => hs y (List.mem_cons_of_mem _ hy)) (grp_InB h (hs x (List.mem_cons_self ..)))
theorem foldl_lane {n : Int} : ∀ (s g : List Fnd), (∀ x ∈ s, x.lane = n) → (∀ y ∈ g, y.lane = n) → ∀ y ∈ s.foldl grp g, y.lane = n
  | [], g, _, h => h
  | x :: s, g, hs, h => foldl_lane s (grp g x) (fun y hy => hs y (List.mem_cons_of_mem _ hy)) (grp_lane h (hs x (List.mem_cons_self ..)))
set_option maxHeartbeats 8000000 in
theorem rfound_loop5 {m : GMap} (h : Good m) (h1 : Lanes1 m) (cs : List Pnt) (hcs : ∀ p ∈ cs, cntZ p = true) (hp : cs.length ≤ 1000) (hm : m.lanes.length ≤ 90) : ∀ (r : List Lane) (i v : Nat) (o : List Fnd), m.lanes.drop i = r → i ≤ m.lanes.length → o.length ≤ i * 1000 → (∀ y ∈ o, InB y ∧ y.lane < i) →
    ∃ v', Y L Cs c_kerbstoneref05_Found_l5 (some [7, 5, 8, 6, 2]) 3 [(7, .w (Bo true)), (5, .w (.c (oS 2 o))), (8, .w (W i)), (6, .w (.c (.rslice (rowsP cs)))), (2, .w (Pt 0))] [bx 5 (mapC m), gb 5, oB v o] =
      some (.exit 0, [(29, .w (Bo false)), (7, .w (Bo true)), (5, .w (.c (oS 2 (o ++ foundL cs i r)))), (8, .w (W m.lanes.length)), (6, .w (.c (.rslice (rowsP cs)))), (2, .w (Pt 0))], [bx 5 (mapC m), gb 5, oB v' (o ++ foundL cs i r)]) := by
  intro r
  induction r with
  | nil =>
    intro i v o hd hi ho hol
    obtain rfl := drop_nil hd hi
    refine ⟨v, ?_⟩
    rw [Y_step c_kerbstoneref05_Found_l5.eq_1]
    simp [foundL, mapC]
  | cons ln r ih =>
    intro i v o hd hi ho hol
    obtain ⟨hil, hs, hd'⟩ := drop_cons hd
    have hw := wrap_succ (i := i) (by omega)
    have hInB := allF_InB h h1 hil cs
    have hall := allF_len h1 hil cs
    have hll := laneF_len h1 hil cs
    have heq := rlane_eq h h1 hil cs
    obtain ⟨J, c9, hst, hl3⟩ := rfound_loop3 h h1 hil v o cs hcs hp cs 0 [] [] (oS 3 []) rfl (Nat.zero_le _) (Nat.zero_le _) Stt.none
    rw [hs] at hInB hall hll heq hst
    obtain ⟨p1, p2⟩ := insAll_spec (allF i ln cs) [] List.Pairwise.nil
    rw [List.nil_append] at p1
    have hsl : (insAll [] (allF i ln cs)).length ≤ 1000 := by rw [p1.length_eq]; omega
    have hsB : ∀ x ∈ insAll [] (allF i ln cs), InB x ∧ x.lane = i := fun x hx => by
      obtain ⟨a, b, _⟩ := hInB x (p1.mem_iff.1 hx)
      exact ⟨a, b⟩
    have hlaneB : ∀ y ∈ laneF i ln cs, InB y ∧ y.lane < ((i + 1 : Nat) : Int) := by
      rw [heq]
      intro y hy
      have a := foldl_InB _ [] (fun x hx => (hsB x hx).1) (by simp) y hy
      have b := foldl_lane _ [] (fun x hx => (hsB x hx).2) (by simp) y hy
      exact ⟨a, by omega⟩
    have hob : o.length ≤ 100000 := by omega
    rw [foundL, ← List.append_assoc, heq]
    rw [heq] at hll hlaneB
    unfold rlaneF at hll hlaneB ⊢
    generalize insAll [] (allF i ln cs) = s at *
    clear hInB hall heq p1 p2
    have hnext : ∀ y ∈ o ++ s.foldl grp [], InB y ∧ y.lane < ((i + 1 : Nat) : Int) := by
      intro y hy
      rcases List.mem_append.1 hy with hy | hy
      · have := hol y hy
        exact ⟨this.1, by omega⟩
      · exact hlaneB y hy
    cases hst with
    | none =>
      obtain ⟨v', ih⟩ := ih (i + 1) v (o ++ [].foldl grp []) hd' hil (by simp; omega) hnext
      refine ⟨v', ?_⟩
      rw [← ih, Y_step c_kerbstoneref05_Found_l5.eq_1]
      clear ih hnext hlaneB hol
      have hl4 := rfound_l4nil (m := m) i v o cs
      simp only [base, oB, oS, mapC, List.length_nil, Int.natCast_zero] at hl3 hl4 ⊢
      simp [hil, hw, hl3, hl4, newAt]
    | some _ _ q h0 hJ hpl =>
      have hj : Jn m s J q := Jn.mk' hJ hpl
      obtain ⟨v4, hl4⟩ := rfound_loop4 (m := m) i o hob (fun y hy => ⟨(hol y hy).1, by have := (hol y hy).2; omega⟩) cs s hsB hsl J q hj s 0 v [] rfl (Nat.zero_le _) (Nat.zero_le _) (by simp) (by simp)
      obtain ⟨v', ih⟩ := ih (i + 1) v4 (o ++ s.foldl grp []) hd' hil (by rw [List.length_append]; omega) hnext
      refine ⟨v', ?_⟩
      rw [← ih, Y_step c_kerbstoneref05_Found_l5.eq_1]
      clear ih hnext hlaneB hol
      generalize s.foldl grp [] = g at *
      simp only [l4Y, l4env, base, oB, oS, mapC, List.length_nil, List.append_nil, Int.natCast_zero] at hl3 hl4 ⊢
      simp [hil, hw, hl3, hl4, newAt]
theorem R_rFound {m : GMap} (h : Good m) (h1 : Lanes1 m) (pts : List Pnt) (hp : pts.length ≤ 1000) (hm : m.lanes.length ≤ 90) : R L Cs f_kerbstoneref05_Found [.a (mapC m), .c (.rslice (rowsP pts))] [] = some (.w (.c (.rslice (rowsF (foundF m pts)))), []) := by
  have hfl : (pts.filter cntZ).length ≤ pts.length := List.length_filter_le _ _
  have hcs : ∀ p ∈ pts.filter cntZ, cntZ p = true := fun p hp => (List.mem_filter.1 hp).2
  obtain ⟨v', hl⟩ := rfound_loop5 h h1 (pts.filter cntZ) hcs (by omega) hm m.lanes 0 0 [] rfl (Nat.zero_le _) (Nat.zero_le _) (by simp)
  have hck := h.rchk
  have hcnt := R_rcounted pts hp
  have htk : List.take (foundF m pts).length (rowsF (foundF m pts)) = rowsF (foundF m pts) := rowsF_take _
  change Y _ _ _ _ _ _ _ = some (_, [_, _, (5, .w (.c (oS 2 (foundF m pts)))), _, _, _], [_, _, oB v' (foundF m pts)]) at hl
  generalize foundF m pts = ff at *
  simp only [oB, oS, mapC, List.length_nil, Int.natCast_zero, rowsF_nil] at hl hck
  rw [R_fn F_kerbstoneref05_Found rfl]
  simp [c_kerbstoneref05_Found, mapC, hck, hcnt, hl, newAt, markOne, htk]
end Go.TrRun
set_option maxRecDepth 10000
namespace Go.TrRun
open Go Go.Eng
theorem R_valid {m : GMap} (h : Good m) (s : Spn) : R L Cs f_kerbstoneref05_valid [.a (mapC m), .a (spnC s)] [] = some (.w (Bo (onF m s)), []) := by
  obtain ⟨ln, lo, hi⟩ := s
  rw [R_fn F_kerbstoneref05_valid rfl]
  simp only [onF, spnC]
  by_cases c1 : 0 ≤ ln
  · by_cases c2 : ln < m.lanes.length
    · obtain ⟨j, rfl⟩ := Int.eq_ofNat_of_zero_le c1
      have hj : j < m.lanes.length := by omega
      have hL := R_Long h hj
      have e : lenF m j = m.lanes[j].len := by simp [lenF, hj]
      simp only [mapC] at hL
      rw [e]
      by_cases c3 : 0 ≤ lo
      · by_cases c4 : lo ≤ hi
        · simp [c_kerbstoneref05_valid, mapC, hj, c3, c4, hL, newAt]
        · simp [c_kerbstoneref05_valid, mapC, hj, c3, c4, newAt]
      · simp [c_kerbstoneref05_valid, mapC, hj, c3, newAt]
    · simp [c_kerbstoneref05_valid, mapC, c1, c2, newAt]
  · simp [c_kerbstoneref05_valid, mapC, c1, newAt]
set_option maxHeartbeats 1000000 in
theorem rwhole_loop1 {m : GMap} (h : Good m) (l : List Spn) (hl : l.length ≤ 1000) : ∀ (r : List Spn) (i : Nat) (out : List Blob), l.drop i = r → i ≤ l.length → out.length ≤ i →
    Y L Cs c_kerbstoneref05_whole_l1 (some [5, 6, 2, 1]) 3 [(5, .w (.c (sl 2 6 (rowsB out)))), (6, .w (W i)), (2, .w (Pt 0)), (1, .w (.c (.rslice (rowsS l))))] [bx 5 (mapC m), gb 3, some (own 6 (rowsB out))] =
      some (.exit 0, [(12, .w (Bo false)), (5, .w (.c (sl 2 6 (rowsB (out ++ (r.filter (onF m)).map blobOf))))), (6, .w (W l.length)), (2, .w (Pt 0)), (1, .w (.c (.rslice (rowsS l))))], [bx 5 (mapC m), gb 3, some (own 6 (rowsB (out ++ (r.filter (onF m)).map blobOf)))]) := by
  intro r
  induction r with
  | nil =>
    intro i out hd hi ho
    obtain rfl := drop_nil hd hi
    rw [Y_step c_kerbstoneref05_whole_l1.eq_1]
    simp
  | cons s r ih =>
    intro i out hd hi ho
    obtain ⟨hil, hs, hd'⟩ := drop_cons hd
    have hw := wrap_succ (i := i) (by omega)
    have hon := R_valid h s
    have hroom : (out.length + 1) * 48 ≤ 140737488355328 := by omega
    by_cases c : onF m s = true
    · rw [List.filter_cons_of_pos c, List.map_cons, show out ++ blobOf s :: (r.filter (onF m)).map blobOf = (out ++ [blobOf s]) ++ (r.filter (onF m)).map blobOf by simp, ← ih (i + 1) (out ++ [blobOf s]) hd' hil (by simp; omega), Y_step c_kerbstoneref05_whole_l1.eq_1]
      clear ih
      rw [c] at hon
      simp only [mapC, spnC] at hon
      simp [hil, hs, hw, spnC, blobC, blobOf, mapC, hon, hroom, newAt, memBelow]
    · rw [List.filter_cons_of_neg c, ← ih (i + 1) out hd' hil (by omega), Y_step c_kerbstoneref05_whole_l1.eq_1]
      clear ih
      have c' : onF m s = false := by simpa using c
      rw [c'] at hon
      simp only [mapC, spnC] at hon
      simp [hil, hs, hw, spnC, mapC, hon, newAt, memBelow]
set_option maxHeartbeats 1000000 in
theorem rwhole_loop2 {m : GMap} (bs : List Blob) (l : List Blob) (hl : l.length ≤ 1000) : ∀ (r : List Blob) (i : Nat) (out : List Spn), l.drop i = r → i ≤ l.length → out.length = i →
    Y L Cs c_kerbstoneref05_whole_l2 (some [7, 8, 5]) 4 [(7, .w (.c (sl 3 3 (rowsS out)))), (8, .w (W i)), (5, .w (.c (.rslice (rowsB l))))] [bx 5 (mapC m), gb 3, fzB bs, some (own 3 (rowsS out))] =
      some (.exit 2, [(45, .w (Bo false)), (7, .w (.c (sl 3 3 (rowsS (out ++ r.map spnOf))))), (8, .w (W l.length)), (5, .w (.c (.rslice (rowsB l))))], [bx 5 (mapC m), gb 3, fzB bs, some (own 3 (rowsS (out ++ r.map spnOf)))]) := by
  intro r
  induction r with
  | nil =>
    intro i out hd hi ho
    obtain rfl := drop_nil hd hi
    rw [Y_step c_kerbstoneref05_whole_l2.eq_1]
    simp
  | cons b r ih =>
    intro i out hd hi ho
    subst ho
    obtain ⟨hil, hb, hd'⟩ := drop_cons hd
    have hw := wrap_succ (i := out.length) (by omega)
    have hroom : (out.length + 1) * 24 ≤ 140737488355328 := by omega
    rw [List.map_cons, show out ++ spnOf b :: r.map spnOf = (out ++ [spnOf b]) ++ r.map spnOf by simp, ← ih (out.length + 1) (out ++ [spnOf b]) hd' hil (by simp), Y_step c_kerbstoneref05_whole_l2.eq_1]
    clear ih
    simp [hil, hb, hw, spnC, blobC, spnOf, mapC, hroom, newAt, memBelow]
set_option maxHeartbeats 1000000 in
theorem R_rwhole {m : GMap} (h : Good m) (l : List Spn) (hl : l.length ≤ 19) : R L Cs f_kerbstoneref05_whole [.a (mapC m), .c (.rslice (rowsS l))] [] = some (.w (.c (.rslice (rowsS (wholeF m l)))), []) := by
  have h1 := rwhole_loop1 h l (by omega) l 0 [] rfl (Nat.zero_le _) (Nat.zero_le _)
  have hfl : (l.filter (onF m)).length ≤ l.length := List.length_filter_le _ _
  have h2 := R_refJoin ((l.filter (onF m)).map blobOf) (by simp; omega) (by
    intro x hx
    obtain ⟨s, hs, rfl⟩ := List.mem_map.1 hx
    exact onF_ok h (List.mem_filter.1 hs).2)
  have hjl := refJoinF_len ((l.filter (onF m)).map blobOf)
  rw [List.length_map] at hjl
  have h3 := rwhole_loop2 (m := m) ((l.filter (onF m)).map blobOf) (refJoinF ((l.filter (onF m)).map blobOf)) (by omega) _ 0 [] rfl (Nat.zero_le _) rfl
  have htk : List.take (l.filter (onF m)).length ((l.filter (onF m)).map blobOf) = (l.filter (onF m)).map blobOf := List.take_of_length_le (by simp)
  unfold wholeF
  generalize refJoinF ((l.filter (onF m)).map blobOf) = q at *
  have hbl : ((l.filter (onF m)).map blobOf).length = (l.filter (onF m)).length := List.length_map _
  generalize (l.filter (onF m)).map blobOf = bs at *
  generalize (l.filter (onF m)).length = n at *
  subst hbl
  simp only [mapC, Int.natCast_zero, List.nil_append, rowsB_nil, rowsS_nil, sl, own, List.length_nil, rowsB_len, rowsS_len, List.length_map, List.drop_zero, fzB] at h1 h2 h3 ⊢
  rw [R_fn F_kerbstoneref05_whole rfl]
  have htk2 : List.take q.length (rowsS (q.map spnOf)) = rowsS (q.map spnOf) := List.take_of_length_le (by simp)
  simp [c_kerbstoneref05_whole, h1, h2, h3, newAt, markOne, htk2]
set_option maxHeartbeats 1000000 in
theorem rfree_loop1 {m : GMap} (fs : List Fnd) (l : List Spn) (hl : l.length ≤ 1000) : ∀ (r : List Spn) (i : Nat) (out : List Blob), l.drop i = r → i ≤ l.length → out.length = i →
    Y L Cs c_kerbstoneref05_Free_l1 (some [7, 9, 3, 2, 8]) 3 [(7, .w (.c (sl 2 6 (rowsB out)))), (9, .w (W i)), (3, .w (Pt 0)), (2, .w (.c (.rslice (rowsF fs)))), (8, .w (.c (.rslice (rowsS l))))] [bx 5 (mapC m), gb 3, some (own 6 (rowsB out))] =
      some (.exit 0, [(23, .w (Bo false)), (7, .w (.c (sl 2 6 (rowsB (out ++ r.map blobOf))))), (9, .w (W l.length)), (3, .w (Pt 0)), (2, .w (.c (.rslice (rowsF fs)))), (8, .w (.c (.rslice (rowsS l))))], [bx 5 (mapC m), gb 3, some (own 6 (rowsB (out ++ r.map blobOf)))]) := by
  intro r
  induction r with
  | nil =>
    intro i out hd hi ho
    obtain rfl := drop_nil hd hi
    rw [Y_step c_kerbstoneref05_Free_l1.eq_1]
    simp
  | cons b r ih =>
    intro i out hd hi ho
    subst ho
    obtain ⟨hil, hb, hd'⟩ := drop_cons hd
    have hw := wrap_succ (i := out.length) (by omega)
    have hroom : (out.length + 1) * 48 ≤ 140737488355328 := by omega
    rw [List.map_cons, show out ++ blobOf b :: r.map blobOf = (out ++ [blobOf b]) ++ r.map blobOf by simp, ← ih (out.length + 1) (out ++ [blobOf b]) hd' hil (by simp), Y_step c_kerbstoneref05_Free_l1.eq_1]
    clear ih
    simp [hil, hb, hw, spnC, blobC, blobOf, mapC, hroom, newAt, memBelow]
def freeB (m : GMap) : List Fnd → List Blob → List Blob
  | [], l => l
  | f :: r, l => freeB m r (if onF m f.s = true then cutL f.lane f.lo f.hi l else l)
inductive Stc : List Blob → Cl → Option Blk → Prop
  | own (bs : List Blob) : Stc bs (sl 2 6 (rowsB bs)) (some (own 6 (rowsB bs)))
  | frz (bs b0 : List Blob) : Stc bs (.rslice (rowsB bs)) (fzB b0)
set_option maxHeartbeats 4000000 in
theorem rfree_loop2 {m : GMap} (h : Good m) (fs : List Fnd) (hl : fs.length ≤ 8) : ∀ (r : List Fnd) (i : Nat) (bs : List Blob) (c7 : Cl) (b2 : Option Blk), fs.drop i = r → i ≤ fs.length → bs.length * 2 ^ r.length ≤ 100000 → Stc bs c7 b2 →
    ∃ c7' b2', Stc (freeB m r bs) c7' b2' ∧ Y L Cs c_kerbstoneref05_Free_l2 (some [7, 10, 2, 3]) 3 [(7, .w (.c c7)), (10, .w (W i)), (2, .w (.c (.rslice (rowsF fs)))), (3, .w (Pt 0))] [bx 5 (mapC m), gb 3, b2] =
      some (.exit 2, [(48, .w (Bo false)), (7, .w (.c c7')), (10, .w (W fs.length)), (2, .w (.c (.rslice (rowsF fs)))), (3, .w (Pt 0))], [bx 5 (mapC m), gb 3, b2']) := by
  intro r
  induction r with
  | nil =>
    intro i bs c7 b2 hd hi hb hst
    obtain rfl := drop_nil hd hi
    refine ⟨c7, b2, hst, ?_⟩
    rw [Y_step c_kerbstoneref05_Free_l2.eq_1]
    simp
  | cons f r ih =>
    intro i bs c7 b2 hd hi hb hst
    obtain ⟨hil, hf, hd'⟩ := drop_cons hd
    have hw := wrap_succ (i := i) (by omega)
    have hon := R_valid h f.s
    have hb1 : bs.length ≤ 100000 := Nat.le_trans (Nat.le_mul_of_pos_right _ (Nat.two_pow_pos _)) hb
    have hcl := cutL_len f.lane f.lo f.hi bs
    have hb2 : (if onF m f.s = true then cutL f.lane f.lo f.hi bs else bs).length * 2 ^ r.length ≤ 100000 := by
      simp only [List.length_cons, Nat.pow_succ] at hb
      have e : bs.length * (2 ^ r.length * 2) = 2 * bs.length * 2 ^ r.length := by rw [Nat.mul_comm 2 bs.length, Nat.mul_assoc, Nat.mul_comm 2]
      rw [e] at hb
      split
      · exact Nat.le_trans (Nat.mul_le_mul_right _ hcl) hb
      · exact Nat.le_trans (Nat.mul_le_mul_right _ (by omega)) hb
    obtain ⟨ln, lo, hi', v1, v2⟩ := f
    by_cases c : onF m (Fnd.s ⟨ln, lo, hi', v1, v2⟩) = true
    · have hcut := R_rcut ln lo hi' (on_mid h c).1 (on_mid h c).2 bs hb1
      rw [if_pos c] at hb2
      rw [c] at hon
      simp only [freeB, if_pos c]
      cases hst with
      | own =>
        obtain ⟨c7', b2', g1, g2⟩ := ih (i + 1) _ (.rslice (rowsB (cutL ln lo hi' bs))) (fzB bs) hd' hil hb2 (Stc.frz _ bs)
        refine ⟨c7', b2', g1, ?_⟩
        rw [← g2, Y_step c_kerbstoneref05_Free_l2.eq_1]
        clear ih g1 g2 hb hb2 hcl
        simp only [mapC, spnC, Fnd.s] at hon
        simp [hil, hf, hw, fndC, mapC, hon, hcut, newAt, memBelow, markOne]
      | frz b0 =>
        obtain ⟨c7', b2', g1, g2⟩ := ih (i + 1) _ (.rslice (rowsB (cutL ln lo hi' bs))) (fzB b0) hd' hil hb2 (Stc.frz _ b0)
        refine ⟨c7', b2', g1, ?_⟩
        rw [← g2, Y_step c_kerbstoneref05_Free_l2.eq_1]
        clear ih g1 g2 hb hb2 hcl
        simp only [mapC, spnC, Fnd.s] at hon
        simp [hil, hf, hw, fndC, mapC, hon, hcut, newAt, memBelow]
    · have c' : onF m (Fnd.s ⟨ln, lo, hi', v1, v2⟩) = false := by simpa using c
      rw [if_neg c] at hb2
      rw [c'] at hon
      simp only [freeB, if_neg c]
      obtain ⟨c7', b2', g1, g2⟩ := ih (i + 1) bs c7 b2 hd' hil hb2 hst
      refine ⟨c7', b2', g1, ?_⟩
      rw [← g2, Y_step c_kerbstoneref05_Free_l2.eq_1]
      clear ih g1 g2 hb hb2 hcl
      simp only [mapC, spnC, Fnd.s] at hon
      cases hst with
      | own => simp [hil, hf, hw, fndC, mapC, hon, newAt, memBelow]
      | frz b0 => simp [hil, hf, hw, fndC, mapC, hon, newAt, memBelow]
set_option maxHeartbeats 2000000 in
theorem rfree_loop3 {m : GMap} (l : List Blob) (hl : l.length ≤ 200000) (c7 : Cl) (b2 : Option Blk) (hst : Stc l c7 b2) : ∀ (r : List Blob) (i : Nat) (out : List Spn), l.drop i = r → i ≤ l.length → out.length = i →
    Y L Cs c_kerbstoneref05_Free_l3 (some [12, 13, 7]) 4 [(12, .w (.c (sl 3 3 (rowsS out)))), (13, .w (W i)), (7, .w (.c c7))] [bx 5 (mapC m), gb 3, b2, some (own 3 (rowsS out))] =
      some (.exit 4, [(76, .w (Bo false)), (12, .w (.c (sl 3 3 (rowsS (out ++ r.map spnOf))))), (13, .w (W l.length)), (7, .w (.c c7))], [bx 5 (mapC m), gb 3, b2, some (own 3 (rowsS (out ++ r.map spnOf)))]) := by
  intro r
  induction r with
  | nil =>
    intro i out hd hi ho
    obtain rfl := drop_nil hd hi
    rw [Y_step c_kerbstoneref05_Free_l3.eq_1]
    cases hst <;> simp
  | cons b r ih =>
    intro i out hd hi ho
    subst ho
    obtain ⟨hil, hb, hd'⟩ := drop_cons hd
    have hw := wrap_succ (i := out.length) (by omega)
    have hroom : (out.length + 1) * 24 ≤ 140737488355328 := by omega
    rw [List.map_cons, show out ++ spnOf b :: r.map spnOf = (out ++ [spnOf b]) ++ r.map spnOf by simp, ← ih (out.length + 1) (out ++ [spnOf b]) hd' hil (by simp), Y_step c_kerbstoneref05_Free_l3.eq_1]
    clear ih
    cases hst with
    | own => simp [hil, hb, hw, spnC, blobC, spnOf, mapC, hroom, newAt, memBelow]
    | frz b0 => simp [hil, hb, hw, spnC, blobC, spnOf, mapC, hroom, newAt, memBelow]
theorem cut_spn (x fr to : Int) : ∀ l : List Blob, (cutL x fr to l).map spnOf = cutS x fr to (l.map spnOf)
  | [] => rfl
  | b :: l => by
    simp only [cutL, cutS, List.map_append, List.map_cons, cut_spn x fr to l]
    congr 1
    unfold cutB cutS1
    by_cases c : b.lane ≠ x ∨ fr > to ∨ fr > b.hi ∨ to < b.lo
    · have c' : (spnOf b).lane ≠ x ∨ fr > to ∨ fr > (spnOf b).hi ∨ to < (spnOf b).lo := c
      rw [if_pos c, if_pos c']
      rfl
    · have c' : ¬((spnOf b).lane ≠ x ∨ fr > to ∨ fr > (spnOf b).hi ∨ to < (spnOf b).lo) := c
      rw [if_neg c, if_neg c']
      by_cases c1 : b.lo < fr <;> by_cases c2 : to < b.hi <;> simp [c1, c2, spnOf]
theorem free_spn (m : GMap) : ∀ (fs : List Fnd) (l : List Blob), (freeB m fs l).map spnOf = freeL m fs (l.map spnOf)
  | [], l => rfl
  | f :: fs, l => by
    simp only [freeB, freeL]
    rw [free_spn m fs]
    split
    · rw [cut_spn]
    · rfl
theorem freeB_len (m : GMap) : ∀ (fs : List Fnd) (l : List Blob), (freeB m fs l).length ≤ l.length * 2 ^ fs.length
  | [], l => by simp [freeB]
  | f :: fs, l => by
    simp only [freeB, List.length_cons, Nat.pow_succ]
    refine Nat.le_trans (freeB_len m fs _) ?_
    have := cutL_len f.lane f.lo f.hi l
    rw [← Nat.mul_assoc, Nat.mul_right_comm]
    refine Nat.mul_le_mul_right _ ?_
    split <;> omega
theorem R_rFree {m : GMap} (h : Good m) (l : List Spn) (hl : l.length ≤ 19) (fs : List Fnd) (hfs : fs.length ≤ 8) : R L Cs f_kerbstoneref05_Free [.a (mapC m), .c (.rslice (rowsS l)), .c (.rslice (rowsF fs))] [] = some (.w (.c (.rslice (rowsS (freeF m l fs)))), []) := by
  have h1 := R_rwhole h l hl
  have hw := wholeF_len m l
  have h2 := rfree_loop1 (m := m) fs (wholeF m l) (by omega) _ 0 [] rfl (Nat.zero_le _) rfl
  have hbl : ((wholeF m l).map blobOf).length ≤ 19 := by simp; omega
  obtain ⟨c7, b2, hst, h3⟩ := rfree_loop2 h fs hfs fs 0 ((wholeF m l).map blobOf) _ _ rfl (Nat.zero_le _) (Nat.le_trans (Nat.mul_le_mul hbl (Nat.pow_le_pow_right (by decide) hfs)) (by decide)) (Stc.own _)
  have hfl := freeB_len m fs ((wholeF m l).map blobOf)
  have hfl2 : (freeB m fs ((wholeF m l).map blobOf)).length ≤ 200000 := Nat.le_trans hfl (Nat.le_trans (Nat.mul_le_mul hbl (Nat.pow_le_pow_right (by decide) hfs)) (by decide))
  have h4 := rfree_loop3 (m := m) _ hfl2 c7 b2 hst _ 0 [] rfl (Nat.zero_le _) rfl
  have hck := h.rchk
  have he : (freeB m fs ((wholeF m l).map blobOf)).map spnOf = freeF m l fs := by
    rw [free_spn]
    unfold freeF
    congr 1
    rw [List.map_map]
    have : spnOf ∘ blobOf = id := by funext s; rfl
    rw [this, List.map_id]
  simp only [List.nil_append, List.drop_zero] at h2 h4
  rw [he] at h4
  have hlen := congrArg List.length he
  rw [List.length_map] at hlen
  rw [hlen] at h4
  have htk : List.take (freeF m l fs).length (rowsS (freeF m l fs)) = rowsS (freeF m l fs) := rowsS_take _
  clear he hfl hfl2 hbl hst hlen
  generalize freeF m l fs = ff at *
  generalize hws : wholeF m l = ws at *
  generalize hbs : ws.map blobOf = bs at *
  simp only [mapC, Int.natCast_zero, rowsB_nil, rowsS_nil, sl, own, List.length_nil, rowsB_len, rowsS_len] at h1 h2 h3 h4 hck ⊢
  rw [R_fn F_kerbstoneref05_Free rfl]
  simp [c_kerbstoneref05_Free, h1, h2, h3, h4, hck, newAt, markOne, htk]
end Go.TrRun
set_option maxRecDepth 10000
namespace Go.TrRun
open Go Go.Eng
theorem pc0 : Pc 0 0 60000 0 60000 := ⟨by decide, by decide, R_iff.2 ⟨400, by kernel_rfl⟩, R_iff.2 ⟨400, by kernel_rfl⟩, R_iff.2 ⟨400, by kernel_rfl⟩, R_iff.2 ⟨400, by kernel_rfl⟩⟩
theorem pc1 : Pc 0 0 50000 0 50000 := ⟨by decide, by decide, R_iff.2 ⟨400, by kernel_rfl⟩, R_iff.2 ⟨400, by kernel_rfl⟩, R_iff.2 ⟨400, by kernel_rfl⟩, R_iff.2 ⟨400, by kernel_rfl⟩⟩
theorem pc2 : Pc 30000 (-20000) 30000 20000 40000 := ⟨by decide, by decide, R_iff.2 ⟨400, by kernel_rfl⟩, R_iff.2 ⟨400, by kernel_rfl⟩, R_iff.2 ⟨400, by kernel_rfl⟩, R_iff.2 ⟨400, by kernel_rfl⟩⟩
theorem pc3 : Pc 0 0 30000 0 30000 := ⟨by decide, by decide, R_iff.2 ⟨400, by kernel_rfl⟩, R_iff.2 ⟨400, by kernel_rfl⟩, R_iff.2 ⟨400, by kernel_rfl⟩, R_iff.2 ⟨400, by kernel_rfl⟩⟩
theorem pc4 : Pc 30000 0 60000 0 30000 := ⟨by decide, by decide, R_iff.2 ⟨400, by kernel_rfl⟩, R_iff.2 ⟨400, by kernel_rfl⟩, R_iff.2 ⟨400, by kernel_rfl⟩, R_iff.2 ⟨400, by kernel_rfl⟩⟩
theorem pc5 : Pc 30000 0 54000 10000 26000 := ⟨by decide, by decide, R_iff.2 ⟨400, by kernel_rfl⟩, R_iff.2 ⟨400, by kernel_rfl⟩, R_iff.2 ⟨400, by kernel_rfl⟩, R_iff.2 ⟨400, by kernel_rfl⟩⟩
theorem pc6 : Pc 6000 (-10000) 30000 0 26000 := ⟨by decide, by decide, R_iff.2 ⟨400, by kernel_rfl⟩, R_iff.2 ⟨400, by kernel_rfl⟩, R_iff.2 ⟨400, by kernel_rfl⟩, R_iff.2 ⟨400, by kernel_rfl⟩⟩
theorem pc7 : Pc 0 0 20000 0 20000 := ⟨by decide, by decide, R_iff.2 ⟨400, by kernel_rfl⟩, R_iff.2 ⟨400, by kernel_rfl⟩, R_iff.2 ⟨400, by kernel_rfl⟩, R_iff.2 ⟨400, by kernel_rfl⟩⟩
theorem pc8 : Pc 20000 0 50000 0 30000 := ⟨by decide, by decide, R_iff.2 ⟨400, by kernel_rfl⟩, R_iff.2 ⟨400, by kernel_rfl⟩, R_iff.2 ⟨400, by kernel_rfl⟩, R_iff.2 ⟨400, by kernel_rfl⟩⟩
theorem pc9 : Pc 35000 (-8000) 35000 8000 16000 := ⟨by decide, by decide, R_iff.2 ⟨400, by kernel_rfl⟩, R_iff.2 ⟨400, by kernel_rfl⟩, R_iff.2 ⟨400, by kernel_rfl⟩, R_iff.2 ⟨400, by kernel_rfl⟩⟩
theorem pc10 : Pc 20000 0 44000 10000 26000 := ⟨by decide, by decide, R_iff.2 ⟨400, by kernel_rfl⟩, R_iff.2 ⟨400, by kernel_rfl⟩, R_iff.2 ⟨400, by kernel_rfl⟩, R_iff.2 ⟨400, by kernel_rfl⟩⟩
theorem pc11 : Pc 36000 (-12000) 36000 18000 30000 := ⟨by decide, by decide, R_iff.2 ⟨400, by kernel_rfl⟩, R_iff.2 ⟨400, by kernel_rfl⟩, R_iff.2 ⟨400, by kernel_rfl⟩, R_iff.2 ⟨400, by kernel_rfl⟩⟩
structure Lanes2 (m : GMap) : Prop where
  one : ∀ l ∈ m.lanes, ∃ x0 y0 x1 y1, l.pts = [(x0, y0), (x1, y1)] ∧ Pc x0 y0 x1 y1 l.len
  few : m.lanes.length ≤ 4 ∧ 0 < m.lanes.length
theorem lanes2_0 (lim r o1 o2 o3 v w b t : Int) : Lanes2 (mapP 0 lim r o1 o2 o3 v w b t) := by
  refine ⟨fun l hl => ?_, by constructor <;> simp [mapP, lanesP]⟩
  simp only [mapP, lanesP, List.mem_cons, List.not_mem_nil, or_false] at hl
  subst hl
  · exact ⟨_, _, _, _, rfl, pc0⟩
theorem lanes2_1 (lim r o1 o2 o3 v w b t : Int) : Lanes2 (mapP 1 lim r o1 o2 o3 v w b t) := by
  refine ⟨fun l hl => ?_, by constructor <;> simp [mapP, lanesP]⟩
  simp only [mapP, lanesP, List.mem_cons, List.not_mem_nil, or_false] at hl
  rcases hl with rfl | rfl
  · exact ⟨_, _, _, _, rfl, pc1⟩
  · exact ⟨_, _, _, _, rfl, pc2⟩
theorem lanes2_2 (lim r o1 o2 o3 v w b t : Int) : Lanes2 (mapP 2 lim r o1 o2 o3 v w b t) := by
  refine ⟨fun l hl => ?_, by constructor <;> simp [mapP, lanesP]⟩
  simp only [mapP, lanesP, List.mem_cons, List.not_mem_nil, or_false] at hl
  rcases hl with rfl | rfl
  · exact ⟨_, _, _, _, rfl, pc1⟩
  · exact ⟨_, _, _, _, rfl, pc2⟩
theorem lanes2_3 (lim r o1 o2 o3 v w b t : Int) : Lanes2 (mapP 3 lim r o1 o2 o3 v w b t) := by
  refine ⟨fun l hl => ?_, by constructor <;> simp [mapP, lanesP]⟩
  simp only [mapP, lanesP, List.mem_cons, List.not_mem_nil, or_false] at hl
  rcases hl with rfl | rfl | rfl
  · exact ⟨_, _, _, _, rfl, pc3⟩
  · exact ⟨_, _, _, _, rfl, pc4⟩
  · exact ⟨_, _, _, _, rfl, pc5⟩
theorem lanes2_4 (lim r o1 o2 o3 v w b t : Int) : Lanes2 (mapP 4 lim r o1 o2 o3 v w b t) := by
  refine ⟨fun l hl => ?_, by constructor <;> simp [mapP, lanesP]⟩
  simp only [mapP, lanesP, List.mem_cons, List.not_mem_nil, or_false] at hl
  rcases hl with rfl | rfl | rfl
  · exact ⟨_, _, _, _, rfl, pc3⟩
  · exact ⟨_, _, _, _, rfl, pc6⟩
  · exact ⟨_, _, _, _, rfl, pc4⟩
theorem lanes2_5 (lim r o1 o2 o3 v w b t : Int) : Lanes2 (mapP 5 lim r o1 o2 o3 v w b t) := by
  refine ⟨fun l hl => ?_, by constructor <;> simp [mapP, lanesP]⟩
  simp only [mapP, lanesP, List.mem_cons, List.not_mem_nil, or_false] at hl
  rcases hl with rfl | rfl | rfl
  · exact ⟨_, _, _, _, rfl, pc7⟩
  · exact ⟨_, _, _, _, rfl, pc8⟩
  · exact ⟨_, _, _, _, rfl, pc9⟩
theorem lanes2_6 (lim r o1 o2 o3 v w b t : Int) : Lanes2 (mapP 6 lim r o1 o2 o3 v w b t) := by
  refine ⟨fun l hl => ?_, by constructor <;> simp [mapP, lanesP]⟩
  simp only [mapP, lanesP, List.mem_cons, List.not_mem_nil, or_false] at hl
  rcases hl with rfl | rfl | rfl | rfl
  · exact ⟨_, _, _, _, rfl, pc7⟩
  · exact ⟨_, _, _, _, rfl, pc8⟩
  · exact ⟨_, _, _, _, rfl, pc10⟩
  · exact ⟨_, _, _, _, rfl, pc11⟩
theorem Map_one (n : Int) : ∃ m, Good m ∧ Lanes2 m ∧ R L Cs f_kerbstonekit_Map [W n] [] = some (.w (.a (mapC m)), []) := by
  have hN : 0 ≤ n % 16777216 ∧ n % 16777216 < 16777216 := by omega
  have h7 : 0 ≤ (n % 16777216).tmod 7 ∧ (n % 16777216).tmod 7 < 7 := by
    rw [Int.tmod_eq_emod_of_nonneg hN.1]; omega
  have hr := tmod_lt _ 28 2 hN (by decide) (by decide)
  have nu := nums_of n
  by_cases hw : ((n % 16777216).tdiv 1736).tmod 3 = 1
  · have hk : (n % 16777216).tmod 7 = 0 ∨ (n % 16777216).tmod 7 = 1 ∨ (n % 16777216).tmod 7 = 2 ∨ (n % 16777216).tmod 7 = 3 ∨ (n % 16777216).tmod 7 = 4 ∨ (n % 16777216).tmod 7 = 5 ∨ (n % 16777216).tmod 7 = 6 := by omega
    rcases hk with h | h | h | h | h | h | h
    · exact ⟨_, good0 nu, lanes2_0 _ _ _ _ _ _ _ _ _, R_Map0w n h hw⟩
    · exact ⟨_, good1 nu, lanes2_1 _ _ _ _ _ _ _ _ _, R_Map1w n h hw⟩
    · exact ⟨_, good2 nu, lanes2_2 _ _ _ _ _ _ _ _ _, R_Map2w n h hw⟩
    · exact ⟨_, good3 nu, lanes2_3 _ _ _ _ _ _ _ _ _, R_Map3w n h hw⟩
    · exact ⟨_, good4 nu, lanes2_4 _ _ _ _ _ _ _ _ _, R_Map4w n h hw⟩
    · exact ⟨_, good5 nu, lanes2_5 _ _ _ _ _ _ _ _ _, R_Map5w n h hw⟩
    · by_cases h28 : ((n % 16777216).tdiv 28).tmod 2 = 1
      · exact ⟨_, good6 nu, lanes2_6 _ _ _ _ _ _ _ _ _, R_Map6aw n h h28 hw⟩
      · exact ⟨_, good6 nu, lanes2_6 _ _ _ _ _ _ _ _ _, R_Map6bw n h (by omega) hw⟩
  · have hk : (n % 16777216).tmod 7 = 0 ∨ (n % 16777216).tmod 7 = 1 ∨ (n % 16777216).tmod 7 = 2 ∨ (n % 16777216).tmod 7 = 3 ∨ (n % 16777216).tmod 7 = 4 ∨ (n % 16777216).tmod 7 = 5 ∨ (n % 16777216).tmod 7 = 6 := by omega
    rcases hk with h | h | h | h | h | h | h
    · exact ⟨_, good0 nu, lanes2_0 _ _ _ _ _ _ _ _ _, R_Map0 n h hw⟩
    · exact ⟨_, good1 nu, lanes2_1 _ _ _ _ _ _ _ _ _, R_Map1 n h hw⟩
    · exact ⟨_, good2 nu, lanes2_2 _ _ _ _ _ _ _ _ _, R_Map2 n h hw⟩
    · exact ⟨_, good3 nu, lanes2_3 _ _ _ _ _ _ _ _ _, R_Map3 n h hw⟩
    · exact ⟨_, good4 nu, lanes2_4 _ _ _ _ _ _ _ _ _, R_Map4 n h hw⟩
    · exact ⟨_, good5 nu, lanes2_5 _ _ _ _ _ _ _ _ _, R_Map5 n h hw⟩
    · by_cases h28 : ((n % 16777216).tdiv 28).tmod 2 = 1
      · exact ⟨_, good6 nu, lanes2_6 _ _ _ _ _ _ _ _ _, R_Map6a n h h28 hw⟩
      · exact ⟨_, good6 nu, lanes2_6 _ _ _ _ _ _ _ _ _, R_Map6b n h (by omega) hw⟩
end Go.TrRun
set_option maxRecDepth 10000
namespace Go.TrRun
open Go Go.Eng
theorem samefound_loop (l : List Fnd) (hl : l.length ≤ 100000) : Y L Cs c_kerbstonekit_SameFound_l1 (some [0, 1, 5]) 0 [(0, .w (.c (.rslice (rowsF l)))), (1, .w (.c (.rslice (rowsF l)))), (5, .w (W (0 : Nat)))] [] =
    some (.exit 0, [(15, .w (Bo false)), (1, .w (.c (.rslice (rowsF l)))), (0, .w (.c (.rslice (rowsF l)))), (5, .w (W l.length))], []) := by
  have h := Y_any (L := L) (Cs := Cs) (b := c_kerbstonekit_SameFound_l1) (live := some [0, 1, 5]) (n0 := 0) l (fun i => [(0, .w (.c (.rslice (rowsF l)))), (1, .w (.c (.rslice (rowsF l)))), (5, .w (W i))]) [] (fun _ => false) (.ret, [], []) (.exit 0, [(15, .w (Bo false)), (1, .w (.c (.rslice (rowsF l)))), (0, .w (.c (.rslice (rowsF l)))), (5, .w (W l.length))], []) ?_ ?_ ?_
  · simpa using h
  · intro i h _
    have hw := wrap_succ (i := i) (by omega)
    rw [Y_step c_kerbstonekit_SameFound_l1.eq_1]
    simp [h, hw, fndC]
  · intro i h hp; cases hp
  · rw [Y_step c_kerbstonekit_SameFound_l1.eq_1]
    simp
theorem R_SameFound_self (l : List Fnd) (hl : l.length ≤ 100000) : R L Cs f_kerbstonekit_SameFound [.c (.rslice (rowsF l)), .c (.rslice (rowsF l))] [] = some (.w (Bo true), []) := by
  have h := samefound_loop l hl
  simp only [Int.natCast_zero] at h
  rw [R_fn F_kerbstonekit_SameFound rfl]
  simp [c_kerbstonekit_SameFound, h]
theorem samespans_loop (l : List Spn) (hl : l.length ≤ 100000) : Y L Cs c_kerbstonekit_SameSpans_l1 (some [0, 1, 5]) 0 [(0, .w (.c (.rslice (rowsS l)))), (1, .w (.c (.rslice (rowsS l)))), (5, .w (W (0 : Nat)))] [] =
    some (.exit 0, [(15, .w (Bo false)), (1, .w (.c (.rslice (rowsS l)))), (0, .w (.c (.rslice (rowsS l)))), (5, .w (W l.length))], []) := by
  have h := Y_any (L := L) (Cs := Cs) (b := c_kerbstonekit_SameSpans_l1) (live := some [0, 1, 5]) (n0 := 0) l (fun i => [(0, .w (.c (.rslice (rowsS l)))), (1, .w (.c (.rslice (rowsS l)))), (5, .w (W i))]) [] (fun _ => false) (.ret, [], []) (.exit 0, [(15, .w (Bo false)), (1, .w (.c (.rslice (rowsS l)))), (0, .w (.c (.rslice (rowsS l)))), (5, .w (W l.length))], []) ?_ ?_ ?_
  · simpa using h
  · intro i h _
    have hw := wrap_succ (i := i) (by omega)
    rw [Y_step c_kerbstonekit_SameSpans_l1.eq_1]
    simp [h, hw, spnC]
  · intro i h hp; cases hp
  · rw [Y_step c_kerbstonekit_SameSpans_l1.eq_1]
    simp
theorem R_SameSpans_self (l : List Spn) (hl : l.length ≤ 100000) : R L Cs f_kerbstonekit_SameSpans [.c (.rslice (rowsS l)), .c (.rslice (rowsS l))] [] = some (.w (Bo true), []) := by
  have h := samespans_loop l hl
  simp only [Int.natCast_zero] at h
  rw [R_fn F_kerbstonekit_SameSpans rfl]
  simp [c_kerbstonekit_SameSpans, h]
theorem freeL_le (m : GMap) : ∀ (fs : List Fnd) (l : List Spn), (freeL m fs l).length ≤ l.length * 2 ^ fs.length
  | [], l => by simp [freeL]
  | f :: r, l => by
    have h1 := freeL_le m r (if onF m f.s = true then cutS f.lane f.lo f.hi l else l)
    rw [freeL]
    refine Nat.le_trans h1 ?_
    have e : l.length * 2 ^ (f :: r).length = 2 * l.length * 2 ^ r.length := by
      rw [List.length_cons, Nat.pow_succ, Nat.mul_comm 2 l.length, Nat.mul_assoc, Nat.mul_comm 2]
    rw [e]
    refine Nat.mul_le_mul_right _ ?_
    split
    · exact cutS_len _ _ _ _
    · omega
set_option maxHeartbeats 2000000 in
theorem R_finds {m : GMap} (hm : Good m) (h2 : Lanes2 m) (n : Int) (ps : List Pnt) (s : List Spn) (f : List Fnd) (c1 : ps.length ≤ 20) (c2 : s.length ≤ 8) (c3 : f.length ≤ 8) (hM : R L Cs f_kerbstonekit_Map [W n] [] = some (.w (.a (mapC m)), [])) :
    R L Cs f_kerbstonelaw05_TrackFinds [W n, .c (.rslice (rowsP ps)), .c (.rslice (rowsS s)), .c (.rslice (rowsF f))] [] = some (.w (Bo true), []) := by
  have h1 : Lanes1 m := ⟨h2.one⟩
  have hfew := h2.few
  have hF := R_Found hm h1 ps (by omega) (by omega)
  have hG := R_rFound hm h1 ps (by omega) (by omega)
  have hA := R_Free hm s (by omega) f c3
  have hB := R_rFree hm s (by omega) f c3
  have hfl : (foundF m ps).length ≤ 100000 := by
    have q1 := foundL_len h1 (ps.filter cntZ) m.lanes 0 rfl
    have q2 : (ps.filter cntZ).length ≤ ps.length := List.length_filter_le _ _
    exact Nat.le_trans q1 (Nat.le_trans (Nat.mul_le_mul (show m.lanes.length ≤ 4 by omega) (show (ps.filter cntZ).length ≤ 20 by omega)) (by decide))
  have hsl : (freeF m s f).length ≤ 100000 := by
    have q1 := freeL_le m f (wholeF m s)
    have q2 := wholeF_len m s
    exact Nat.le_trans q1 (Nat.le_trans (Nat.mul_le_mul (Nat.le_trans q2 c2) (Nat.pow_le_pow_right (by decide) c3)) (by decide))
  have hSF := R_SameFound_self (foundF m ps) hfl
  have hSS := R_SameSpans_self (freeF m s f) hsl
  have ha := R_awake
  have d1 : ¬ (20 : Int) < ps.length := by omega
  have d2 : ¬ (8 : Int) < s.length := by omega
  have d3 : ¬ (8 : Int) < f.length := by omega
  have d1' : ¬ 20 < ps.length := by omega
  have d2' : ¬ 8 < s.length := by omega
  have d3' : ¬ 8 < f.length := by omega
  rw [R_fn F_kerbstonelaw05_TrackFinds rfl]
  simp only [mapC] at hM hF hG hA hB
  simp [c_kerbstonelaw05_TrackFinds, hM, hF, hG, hA, hB, hSF, hSS, ha, d1, d2, d3, d1', d2', d3', newAt, mapC]
theorem R_TrackFinds (n : Int) (ps : List Pnt) (s : List Spn) (f : List Fnd) : R L Cs f_kerbstonelaw05_TrackFinds [W n, .c (.rslice (rowsP ps)), .c (.rslice (rowsS s)), .c (.rslice (rowsF f))] [] = some (.w (Bo true), []) := by
  have ha := R_awake
  by_cases c1 : ps.length ≤ 20
  · by_cases c2 : s.length ≤ 8
    · by_cases c3 : f.length ≤ 8
      · obtain ⟨m, hm, h2, hM⟩ := Map_one n
        exact R_finds hm h2 n ps s f c1 c2 c3 hM
      · rw [R_fn F_kerbstonelaw05_TrackFinds rfl]
        have d1 : ¬ (20 : Int) < ps.length := by omega
        have d2 : ¬ (8 : Int) < s.length := by omega
        have d3 : (8 : Int) < f.length := by omega
        have d1' : ¬ 20 < ps.length := by omega
        have d2' : ¬ 8 < s.length := by omega
        have d3' : 8 < f.length := by omega
        simp [c_kerbstonelaw05_TrackFinds, ha, d1, d2, d3, d1', d2', d3']
    · rw [R_fn F_kerbstonelaw05_TrackFinds rfl]
      have d1 : ¬ (20 : Int) < ps.length := by omega
      have d2 : (8 : Int) < s.length := by omega
      have d1' : ¬ 20 < ps.length := by omega
      have d2' : 8 < s.length := by omega
      simp [c_kerbstonelaw05_TrackFinds, ha, d1, d2, d1', d2']
  · rw [R_fn F_kerbstonelaw05_TrackFinds rfl]
    have d1 : (20 : Int) < ps.length := by omega
    have d1' : 20 < ps.length := by omega
    simp [c_kerbstonelaw05_TrackFinds, ha, d1, d1']
end Go.TrRun
set_option maxRecDepth 10000
namespace Go.TrRun
open Go Go.Eng
abbrev pntSh : Sh := .st [i64S, i64S, i64S]
abbrev fndSh : Sh := .st [i64S, i64S, i64S, i64S, i64S]
theorem pnts_of : ∀ {rows : List (List Cl)}, (∀ r ∈ rows, HasSh pntSh r) → ∃ l, rows = rowsP l
  | [], _ => ⟨[], rfl⟩
  | r :: rows, h => by
    have h1 := h r (List.mem_cons_self ..)
    simp only [HasSh, HasShs] at h1
    obtain ⟨_, _, rfl, ⟨a1, rfl, q1⟩, _, _, rfl, ⟨a2, rfl, q2⟩, _, _, rfl, ⟨a3, rfl, q3⟩, rfl⟩ := h1
    obtain ⟨l, rfl⟩ := pnts_of fun x hx => h x (List.mem_cons_of_mem _ hx)
    exact ⟨⟨a1, a2, a3⟩ :: l, rfl⟩
theorem spns_of : ∀ {rows : List (List Cl)}, (∀ r ∈ rows, HasSh pntSh r) → ∃ l, rows = rowsS l
  | [], _ => ⟨[], rfl⟩
  | r :: rows, h => by
    have h1 := h r (List.mem_cons_self ..)
    simp only [HasSh, HasShs] at h1
    obtain ⟨_, _, rfl, ⟨a1, rfl, q1⟩, _, _, rfl, ⟨a2, rfl, q2⟩, _, _, rfl, ⟨a3, rfl, q3⟩, rfl⟩ := h1
    obtain ⟨l, rfl⟩ := spns_of fun x hx => h x (List.mem_cons_of_mem _ hx)
    exact ⟨⟨a1, a2, a3⟩ :: l, rfl⟩
theorem fnds_of : ∀ {rows : List (List Cl)}, (∀ r ∈ rows, HasSh fndSh r) → ∃ l, rows = rowsF l
  | [], _ => ⟨[], rfl⟩
  | r :: rows, h => by
    have h1 := h r (List.mem_cons_self ..)
    simp only [HasSh, HasShs] at h1
    obtain ⟨_, _, rfl, ⟨a1, rfl, q1⟩, _, _, rfl, ⟨a2, rfl, q2⟩, _, _, rfl, ⟨a3, rfl, q3⟩, _, _, rfl, ⟨a4, rfl, q4⟩, _, _, rfl, ⟨a5, rfl, q5⟩, rfl⟩ := h1
    obtain ⟨l, rfl⟩ := fnds_of fun x hx => h x (List.mem_cons_of_mem _ hx)
    exact ⟨⟨a1, a2, a3, a4, a5⟩ :: l, rfl⟩
theorem runs_finds : ∀ xs, HasArgs [i64S, .slice pntSh, .slice pntSh, .slice fndSh] xs → ∃ M', R L Cs f_kerbstonelaw05_TrackFinds xs [] = some (.w (.c (.bool true)), M') := by
  intro xs h
  simp only [HasArgs] at h
  obtain ⟨c1, _, rfl, h1, c2, _, rfl, h2, c3, _, rfl, h3, c4, _, rfl, h4, rfl⟩ := h
  simp only [HasSh, HasShs] at h1 h2 h3 h4
  obtain ⟨n, rfl, _⟩ := h1
  obtain ⟨rows, rfl, _, hrows⟩ := h2
  obtain ⟨ps, rfl⟩ := pnts_of (rows := rows) (fun r hr => by simp only [HasSh, HasShs]; exact hrows r hr)
  obtain ⟨rows, rfl, _, hrows⟩ := h3
  obtain ⟨s, rfl⟩ := spns_of (rows := rows) (fun r hr => by simp only [HasSh, HasShs]; exact hrows r hr)
  obtain ⟨rows, rfl, _, hrows⟩ := h4
  obtain ⟨f, rfl⟩ := fnds_of (rows := rows) (fun r hr => by simp only [HasSh, HasShs]; exact hrows r hr)
  exact ⟨[], R_TrackFinds n ps s f⟩
end Go.TrRun
