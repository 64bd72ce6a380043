/- The law PlanValid returns true. -/
import Derived.Test.YtlcjcbdfabbddaaPlanRun
set_option linter.unusedVariables false
set_option linter.unusedSimpArgs false
set_option linter.unusedSectionVars false
/- The law PlanValid returns true. -/
set_option linter.unusedVariables false
set_option linter.unusedSimpArgs false
set_option maxRecDepth 10000
namespace Go.PlanRun
open Go Go.Eng Go.PlanLaw

abbrev carB1 (c : Car) : Blk := { box := true, esz := 5, rows := [carC c], gen := 0, fz := false, ver := 1 }
abbrev makeB (l a b r : Int) : Blk := { box := true, esz := 4, rows := [[I l, I a, I b, I r]], gen := 0, fz := false, ver := 0 }
theorem valid_loop1 {c : Car} (hc : c.ok) (m1 m2 m3 m4 : Int) (qs : List Int) (hq : qs.length ≤ 5) (last v up hold : Int) : ∀ (r : List Int) (i : Nat) (a : Int) (qd : List Int), qs.drop i = r → i ≤ qs.length → qd.length = i →
    Y L Cs c_kerbstonelaw07_PlanValid_l1 (some [15, 14, 16, 2, 5, 4, 3, 1, 13]) 3 [(15, .w (W a)), (14, .w (.c (sl 2 1 (rowsI qd)))), (16, .w (W i)), (2, .w (W last)), (5, .w (W hold)), (4, .w (W up)), (3, .w (W v)), (1, .w (.c (.rslice (rowsI qs)))), (13, .w (Pt 1))] [some (makeB m1 m2 m3 m4), some (carB1 c), some (own 1 (rowsI qd))] =
      some (.exit 0, [(34, .w (Bo false)), (15, .w (W (lastA a (rampQ c a r)))), (14, .w (.c (sl 2 1 (rowsI (qd ++ rampQ c a r))))), (16, .w (W qs.length)), (2, .w (W last)), (5, .w (W hold)), (4, .w (W up)), (3, .w (W v)), (1, .w (.c (.rslice (rowsI qs)))), (13, .w (Pt 1))], [some (makeB m1 m2 m3 m4), some (carB1 c), some (own 1 (rowsI (qd ++ rampQ c a r)))]) := by
  intro r
  induction r with
  | nil =>
    intro i a qd hd hi hl
    obtain rfl := drop_nil hd hi
    refine Y_done ?_ (by simp)
    simp [c_kerbstonelaw07_PlanValid_l1, rampQ, lastA]
  | cons x r ih =>
    intro i a qd hd hi hl
    obtain ⟨hil, hx, hd'⟩ := drop_cons hd
    have hnext := ih (i + 1) (rampF c a x) (qd ++ [rampF c a x]) hd' hil (by simp [hl])
    have hw := wrap_succ (i := i) (by omega)
    have hr := R_refRamp hc a x
    have hroom : (qd.length + 1) * 8 ≤ 140737488355328 := by omega
    simp only [carC] at hr
    simp only [rampQ, lastA]
    rw [show qd ++ rampF c a x :: rampQ c (rampF c a x) r = (qd ++ [rampF c a x]) ++ rampQ c (rampF c a x) r by simp]
    rw [← hnext, Y_eq]
    simp [c_kerbstonelaw07_PlanValid_l1, hil, hx, hr, hw, carB1, carC, hroom]

@[simp] theorem rowsI_ones (t : List Int) : (∀ x, x ∈ rowsI t → x.length = 1) ↔ True := by simp [rowsI]
abbrev blkQ (q : List Int) : Blk := { box := false, esz := 1, rows := rowsI q, gen := q.length, fz := true, ver := q.length + 1 }
theorem valid_loop2 {c : Car} (hc : c.ok) (A D : Blk) (q : List Int) (hq : q.length ≤ 5) (last : Int) (hlast : -1000 ≤ last ∧ last ≤ 1000) (ps : List (List Int)) (hn : ps.length ≤ 100)
    (hps : ∀ P ∈ ps, checkF c P = 0 ∧ P.length ≤ 200 ∧ P.take q.length = q ∧ q.length ≤ P.length ∧ ∃ x t, P = x :: t ∧ -c.rate ≤ x - last ∧ x - last ≤ c.rate ∧ -1000 ≤ x ∧ x ≤ 1000) : ∀ (r : List (List Int)) (i : Nat), ps.drop i = r → i ≤ ps.length →
    Y L Cs c_kerbstonelaw07_PlanValid_l2 (some [18, 14, 13, 2, 17]) 5 [(18, .w (W i)), (14, .w (.c (sl 2 1 (rowsI q)))), (13, .w (Pt 1)), (2, .w (W last)), (17, .w (.c (sl 4 1 (rowsP ps))))] [some A, some (carB1 c), some (blkQ q), some D, some (own 1 (rowsP ps))] =
      some (.exit 2, [(68, .w (Bo false)), (18, .w (W ps.length)), (14, .w (.c (sl 2 1 (rowsI q)))), (13, .w (Pt 1)), (2, .w (W last)), (17, .w (.c (sl 4 1 (rowsP ps))))], [some A, some (carB1 c), some (blkQ q), some D, some (own 1 (rowsP ps))]) := by
  intro r
  have hcc := hc
  obtain ⟨q1, q2, q3, q4, q5, q6, q7, q8, q9, q10⟩ := hcc
  induction r with
  | nil =>
    intro i hd hi
    have hi' : i = ps.length := by
      have := congrArg List.length hd
      simp at this
      omega
    subst hi'
    refine Y_done ?_ (by simp)
    simp [c_kerbstonelaw07_PlanValid_l2]
  | cons P r ih =>
    intro i hd hi
    have hil : i < ps.length := by
      have := congrArg List.length hd
      simp at this
      omega
    rw [List.drop_eq_getElem_cons hil] at hd
    obtain ⟨hP, hd'⟩ := List.cons.inj hd
    obtain ⟨p1, p2, p3, p4, x, t, rfl, p5, p6, p7, p8⟩ := hps P (by rw [← hP]; exact List.getElem_mem hil)
    have hw := wrap_succ (i := i) (by omega)
    have hck := R_Check hc (x :: t) (by omega)
    rw [p1] at hck
    have hsm := R_SameLongs q (by omega)
    have hws : IntKind.i64.wrap (x - last) = x - last := i64_id _ (by omega) (by omega)
    have hwn : IntKind.i64.wrap (-(x - last)) = -(x - last) := i64_id _ (by omega) (by omega)
    have hle1 : ¬ (t.length : Int) + 1 < q.length := by simp at p4; omega
    have hle2 : (q.length : Int) ≤ (t.length : Int) + 1 := by simp at p4; omega
    have htk : ([I x] :: rowsI t).take q.length = rowsI q := by
      have := congrArg rowsI p3
      rw [← this]
      simp [rowsI, List.map_take]
    have hle3 : q.length ≤ t.length + 1 := by simpa using p4
    have hc1 : ¬ c.rate < x - last := by omega
    have hc2 : ¬ c.rate < -(x - last) := by omega
    simp only [carC, rowsI_cons] at hck
    rw [← ih (i + 1) hd' hil, Y_eq]
    simp [c_kerbstonelaw07_PlanValid_l2, hil, hP, hck, hsm, hw, hws, hwn, hle1, hle2, hle3, htk, hc1, hc2, carB1, blkQ, carC, markOne]

theorem chain_first {c : Car} {a : Int} {P : List Int} (h : chain c a P) (h0 : 0 < P.length) : ∃ x t, P = x :: t ∧ -c.rate ≤ x - a ∧ x - a ≤ c.rate ∧ -c.brake ≤ x ∧ x ≤ c.accel := by
  cases P with
  | nil => simp at h0
  | cons x t => exact ⟨x, t, rfl, h.2.1.1, h.2.1.2, h.1.1, h.1.2⟩
set_option maxHeartbeats 4000000 in
theorem R_PlanValid (l a b r : Int) (qs : List Int) (last v up hold : Int) : R L Cs f_kerbstonelaw07_PlanValid [.a [I l, I a, I b, I r], .c (.rslice (rowsI qs)), W last, W v, W up, W hold] [] = some (.w (Bo true), []) := by
  have hmade := R_made l a b r
  have hok := madeF_ok l a b r
  have haw := R_awake
  generalize madeF l a b r = c at *
  by_cases hlen : 5 < qs.length
  · have hlen' : (5 : Int) < qs.length := by omega
    simp only [carC] at hmade
    rw [R_fn F_kerbstonelaw07_PlanValid rfl]
    simp [c_kerbstonelaw07_PlanValid, hmade, haw, hlen']
  have hq : qs.length ≤ 5 := by omega
  have hlen' : ¬ (5 : Int) < qs.length := by omega
  have hr := R_refRamp hok last last
  have hin := rampF_in hok last last
  generalize rampF c last last = a0 at *
  have hl1 := valid_loop1 hok l a b r qs hq a0 v up hold qs 0 a0 [] rfl (Nat.zero_le _) rfl
  have hch := rampQ_chain (c := c) (a := a0) (l := qs) hok hin
  have hql := rampQ_len (c := c) (a := a0) (l := qs)
  simp only [List.nil_append] at hl1
  generalize rampQ c a0 qs = q at *
  have hq5 : q.length ≤ 5 := by omega
  have hcand := R_Candidates hok q hq5 a0 v
  have hprof := R_Profile hok q hq5 a0 v up hold
  have hv : 0 ≤ max 0 (min v 2000) ∧ max 0 (min v 2000) ≤ 2000 := by omega
  have hnu : (max 0 (min up 20)).toNat ≤ 20 := by omega
  have hnh : (max 0 (min hold 20)).toNat ≤ 20 := by omega
  generalize max 0 (min v 2000) = v' at *
  generalize (max 0 (min up 20)).toNat = nu at *
  generalize (max 0 (min hold 20)).toNat = nh at *
  have hgood : ∀ (u h : Nat), u ≤ 20 → h ≤ 20 → checkF c (profL c q a0 v' u h) = 0 ∧ (profL c q a0 v' u h).length ≤ 200 ∧ (profL c q a0 v' u h).take q.length = q ∧ q.length ≤ (profL c q a0 v' u h).length ∧ ∃ x t, profL c q a0 v' u h = x :: t ∧ -c.rate ≤ x - a0 ∧ x - a0 ≤ c.rate ∧ -1000 ≤ x ∧ x ≤ 1000 := by
    intro u h hu hh
    obtain ⟨g1, g2, g3, g4, g5, g6⟩ := profL_ok (v := v') (up := u) (hold := h) hok hin hch hq5 hv hu hh
    obtain ⟨x, t, f1, f2, f3, f4, f5⟩ := chain_first g1 g2
    obtain ⟨h1, h2, h3, h4, h5, h6, h7, h8, h9, h10⟩ := hok
    exact ⟨checkF_ok ⟨h1, h2, h3, h4, h5, h6, h7, h8, h9, h10⟩ g1 g2 g3 g4, g3, g5, g6, x, t, f1, f2, f3, by omega, by omega⟩
  have hps : ∀ P ∈ candL c q a0 v' ++ [profL c q a0 v' nu nh], checkF c P = 0 ∧ P.length ≤ 200 ∧ P.take q.length = q ∧ q.length ≤ P.length ∧ ∃ x t, P = x :: t ∧ -c.rate ≤ x - a0 ∧ x - a0 ≤ c.rate ∧ -1000 ≤ x ∧ x ≤ 1000 := by
    intro P hP
    simp only [candL, List.cons_append, List.nil_append, List.mem_cons, List.not_mem_nil, or_false] at hP
    rcases hP with rfl | rfl | rfl | rfl | rfl | rfl | rfl | rfl | rfl
    · exact hgood 6 4 (by omega) (by omega)
    · exact hgood 6 0 (by omega) (by omega)
    · exact hgood 3 4 (by omega) (by omega)
    · exact hgood 3 0 (by omega) (by omega)
    · exact hgood 1 4 (by omega) (by omega)
    · exact hgood 1 0 (by omega) (by omega)
    · exact hgood 0 4 (by omega) (by omega)
    · exact hgood 0 0 (by omega) (by omega)
    · exact hgood nu nh hnu hnh
  have hb : -1000 ≤ a0 ∧ a0 ≤ 1000 := by
    obtain ⟨h1, h2, h3, h4, h5, h6, h7, h8, h9, h10⟩ := hok
    omega
  have hl2 := valid_loop2 hok (makeB l a b r) { box := false, esz := 1, rows := [[.rslice (rowsI (profL c q a0 v' nu nh))]], gen := 1, fz := false, ver := 1 } q hq5 a0 hb (candL c q a0 v' ++ [profL c q a0 v' nu nh]) (by simp [candL]) hps (candL c q a0 v' ++ [profL c q a0 v' nu nh]) 0 rfl (Nat.zero_le _)
  have h8 : (candL c q a0 v').length = 8 := rfl
  clear hps hgood
  generalize candL c q a0 v' = ps at *
  generalize profL c q a0 v' nu nh = P at *
  have htake : (ps.map fun p => ([.rslice (rowsI p)] : List Cl)).take 8 = ps.map fun p => [.rslice (rowsI p)] := List.take_of_length_le (by simp [h8])
  simp [carC, makeB, carB1, blkQ, rowsP, h8] at hmade hr hl1 hl2 hcand hprof
  rw [R_fn F_kerbstonelaw07_PlanValid rfl]
  simp [c_kerbstonelaw07_PlanValid, hmade, haw, hlen', hr, hl1, hcand, hprof, hl2, h8, htake, markOne]

end Go.PlanRun

