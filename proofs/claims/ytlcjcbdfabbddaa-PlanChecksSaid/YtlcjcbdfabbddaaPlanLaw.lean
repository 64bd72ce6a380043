/- Plain laws of cars, ramps, stops and profiles: no program in sight. -/
set_option linter.unusedVariables false
set_option linter.unusedSimpArgs false
set_option linter.unusedSectionVars false
set_option linter.unusedVariables false
/- Plain laws of cars, ramps, stops and profiles: no program in sight. -/
namespace Go.PlanLaw

structure Car where
  len : Int
  accel : Int
  brake : Int
  rate : Int
  delay : Int

def Car.ok (c : Car) : Prop := 300 ≤ c.len ∧ c.len ≤ 20000 ∧ 1 ≤ c.accel ∧ c.accel ≤ 30 ∧ 20 ≤ c.brake ∧ c.brake ≤ 90 ∧ 5 ≤ c.rate ∧ c.rate ≤ 120 ∧ 0 ≤ c.delay ∧ c.delay ≤ 5
instance (c : Car) : Decidable c.ok := by unfold Car.ok; infer_instance

def clipF (c : Car) (x : Int) : Int := max (-c.brake) (min x c.accel)
def rampF (c : Car) (last w : Int) : Int := max (clipF c last - c.rate) (min (clipF c w) (clipF c last + c.rate))
def doV (v x : Int) : Int := min (max (v + max (-2000) (min x 2000)) 0) 2000

theorem doV_in (v x : Int) : 0 ≤ doV v x ∧ doV v x ≤ 2000 := by unfold doV; omega
theorem clipF_in {c : Car} (h : c.ok) (x : Int) : -c.brake ≤ clipF c x ∧ clipF c x ≤ c.accel := by
  obtain ⟨h1, h2, h3, h4, h5, h6, h7, h8, h9, h10⟩ := h
  unfold clipF; omega
theorem rampF_in {c : Car} (h : c.ok) (x w : Int) : -c.brake ≤ rampF c x w ∧ rampF c x w ≤ c.accel := by
  have h1 := clipF_in h x
  have h2 := clipF_in h w
  obtain ⟨h1, h2, h3, h4, h5, h6, h7, h8, h9, h10⟩ := h
  unfold rampF; omega
theorem clipF_id {c : Car} (h : c.ok) {x : Int} (h1 : -c.brake ≤ x) (h2 : x ≤ c.accel) : clipF c x = x := by unfold clipF; omega
theorem rampF_near {c : Car} (h : c.ok) {x : Int} (h1 : -c.brake ≤ x) (h2 : x ≤ c.accel) (w : Int) : -c.rate ≤ rampF c x w - x ∧ rampF c x w - x ≤ c.rate := by
  have h3 := clipF_in h w
  have h4 := clipF_id h h1 h2
  obtain ⟨h1, h2, h3, h4, h5, h6, h7, h8, h9, h10⟩ := h
  unfold rampF
  omega

/-! ### Stops -/
def stopL (c : Car) : Nat → Bool → Int → Int → Option (List Int)
  | 0, _, _, _ => none
  | m + 1, f, last, v => if f = true ∨ 0 < v ∨ 0 < last then (stopL c m false (rampF c last (-c.brake)) (doV v (rampF c last (-c.brake)))).map (rampF c last (-c.brake) :: ·) else some []
theorem stopL_step (c : Car) (m : Nat) (f : Bool) (last v : Int) : stopL c (m + 1) f last v = if (f = true ∨ 0 < v ∨ 0 < last) then (stopL c m false (rampF c last (-c.brake)) (doV v (rampF c last (-c.brake)))).map (rampF c last (-c.brake) :: ·) else some [] := rfl
theorem doV_eq (v x : Int) (hv : 0 ≤ v ∧ v ≤ 2000) (hx : -100 ≤ x ∧ x ≤ 100) : doV v x = max 0 (min 2000 (v + x)) := by unfold doV; omega
theorem rampF_stop {c : Car} (h : c.ok) (last : Int) : rampF c last (-c.brake) = max (clipF c last - c.rate) (-c.brake) := by
  obtain ⟨h1, h2, h3, h4, h5, h6, h7, h8, h9, h10⟩ := h
  unfold rampF clipF; omega
theorem ramp_low {c : Car} {last : Int} (h : c.ok) (h1 : -c.brake ≤ last) (h2 : last ≤ c.accel) : rampF c last (-c.brake) = max (last - c.rate) (-c.brake) := by
  rw [rampF_stop h last, clipF_id h h1 h2]
theorem ends2 {c : Car} (h : c.ok) : ∀ (m : Nat) (last v : Int), -c.brake ≤ last → last ≤ -20 → 0 ≤ v → v ≤ 2000 → v ≤ 20 * m → ∃ l, stopL c (m + 1) false last v = some l ∧ l.length ≤ m
  | 0, last, v, h1, h2, h3, h4, h5 => ⟨[], by
      rw [stopL_step, if_neg (by simp; omega)], by simp⟩
  | m + 1, last, v, h1, h2, h3, h4, h5 => by
    have hcar := h
    obtain ⟨q1, q2, q3, q4, q5, q6, q7, q8, q9, q10⟩ := hcar
    rw [stopL_step]
    split
    · have hr := ramp_low h h1 (by omega : last ≤ c.accel)
      have hd := doV_eq v (rampF c last (-c.brake)) ⟨h3, h4⟩ (by omega)
      obtain ⟨l, hl, hn⟩ := ends2 h m (rampF c last (-c.brake)) (doV v (rampF c last (-c.brake))) (by omega) (by omega) (by omega) (by omega) (by omega)
      exact ⟨_ :: l, by rw [hl]; rfl, by simp; omega⟩
    · exact ⟨[], rfl, by simp⟩
theorem ends1 {c : Car} (h : c.ok) : ∀ (t : Nat) (last v : Int), -c.brake ≤ last → last ≤ c.accel → last ≤ 5 * t - 20 → 0 ≤ v → v ≤ 2000 → ∃ l, stopL c (101 + t) false last v = some l ∧ l.length ≤ 100 + t
  | 0, last, v, h1, h2, h3, h4, h5 => ends2 h 100 last v h1 (by omega) h4 h5 (by omega)
  | t + 1, last, v, h1, h2, h3, h4, h5 => by
    have hcar := h
    obtain ⟨q1, q2, q3, q4, q5, q6, q7, q8, q9, q10⟩ := hcar
    rw [show 101 + (t + 1) = (101 + t) + 1 by omega, stopL_step]
    split
    · have hr := ramp_low h h1 h2
      have hd := doV_in v (rampF c last (-c.brake))
      obtain ⟨l, hl, hn⟩ := ends1 h t (rampF c last (-c.brake)) (doV v (rampF c last (-c.brake))) (by omega) (by omega) (by omega) hd.1 hd.2
      exact ⟨_ :: l, by rw [hl]; rfl, by simp; omega⟩
    · exact ⟨[], rfl, by simp⟩
theorem ends {c : Car} (h : c.ok) (last v : Int) (h4 : 0 ≤ v) (h5 : v ≤ 2000) : ∃ l, stopL c 111 true last v = some l ∧ 0 < l.length ∧ l.length ≤ 110 := by
  have hcar := h
  obtain ⟨q1, q2, q3, q4, q5, q6, q7, q8, q9, q10⟩ := hcar
  have hr := rampF_stop h last
  have hcl := clipF_in h last
  have hd := doV_in v (rampF c last (-c.brake))
  obtain ⟨l, hl, hn⟩ := ends1 h 9 (rampF c last (-c.brake)) (doV v (rampF c last (-c.brake))) (by omega) (by omega) (by omega) hd.1 hd.2
  refine ⟨_ :: l, by rw [show 111 = (101 + 9) + 1 from rfl, stopL_step, if_pos (.inl rfl), hl]; rfl, by simp, by simp; omega⟩

/-- The acts of a stop. -/
def stops (c : Car) (last v : Int) : List Int := (stopL c 111 true last v).getD []
theorem stops_eq {c : Car} (h : c.ok) (last v : Int) (h4 : 0 ≤ v) (h5 : v ≤ 2000) : stopL c 111 true last v = some (stops c last v) ∧ 0 < (stops c last v).length ∧ (stops c last v).length ≤ 110 := by
  obtain ⟨l, h1, h2, h3⟩ := ends h last v h4 h5
  simp only [stops, h1, Option.getD_some]
  exact ⟨trivial, h2, h3⟩

/-! ### What a plan must be -/
/-- Each act is one that the car can do, and is near the one before it. -/
def chain (c : Car) : Int → List Int → Prop
  | _, [] => True
  | a, x :: xs => (-c.brake ≤ x ∧ x ≤ c.accel) ∧ (-c.rate ≤ x - a ∧ x - a ≤ c.rate) ∧ chain c x xs
def lastA : Int → List Int → Int
  | a, [] => a
  | _, x :: xs => lastA x xs
theorem lastA_append (a : Int) (l m : List Int) : lastA a (l ++ m) = lastA (lastA a l) m := by
  induction l generalizing a with
  | nil => rfl
  | cons x l ih => exact ih x
theorem chain_append {c : Car} : ∀ {a : Int} {l m : List Int}, chain c a l → chain c (lastA a l) m → chain c a (l ++ m)
  | _, [], _, _, h => h
  | _, _ :: _, _, ⟨h1, h2, h3⟩, h => ⟨h1, h2, chain_append h3 h⟩
theorem chain_in {c : Car} : ∀ {a : Int} {l : List Int}, chain c a l → ∀ x ∈ l, -c.brake ≤ x ∧ x ≤ c.accel
  | _, [], _, x, hx => by cases hx
  | _, y :: l, ⟨h1, _, h3⟩, x, hx => by
    rcases List.mem_cons.1 hx with rfl | hx
    · exact h1
    · exact chain_in h3 x hx
theorem chain_last {c : Car} : ∀ {a : Int} {l : List Int}, (-c.brake ≤ a ∧ a ≤ c.accel) → chain c a l → -c.brake ≤ lastA a l ∧ lastA a l ≤ c.accel
  | _, [], h, _ => h
  | _, _ :: _, _, ⟨h1, _, h3⟩ => have q := chain_last h1 h3; q
theorem stopL_chain {c : Car} (h : c.ok) : ∀ {m : Nat} {f : Bool} {last v : Int} {l : List Int}, -c.brake ≤ last → last ≤ c.accel → stopL c m f last v = some l → chain c last l
  | 0, f, last, v, l, _, _, hl => by simp [stopL] at hl
  | m + 1, f, last, v, l, h1, h2, hl => by
    rw [stopL_step] at hl
    split at hl
    · simp only [Option.map_eq_some_iff] at hl
      obtain ⟨l', h', rfl⟩ := hl
      have hi := rampF_in h last (-c.brake)
      exact ⟨hi, rampF_near h h1 h2 _, stopL_chain h hi.1 hi.2 h'⟩
    · cases hl; trivial
theorem lastA_cons (a b : Int) {l : List Int} (h : l ≠ []) : lastA a l = lastA b l := by
  cases l with
  | nil => exact absurd rfl h
  | cons x l => rfl
def endV : Int → List Int → Int
  | v, [] => v
  | v, x :: xs => endV (doV v x) xs
def midOK : Int → List Int → Bool
  | _, [] => true
  | v, x :: xs => (xs.isEmpty || !(decide (doV v x = 0) && decide (x ≤ 0))) && midOK (doV v x) xs
def wayF : Int → Int → List Int → Int
  | _, sum, [] => sum
  | v, sum, x :: xs => wayF (doV v x) (sum + doV v x) xs
theorem stopL_end {c : Car} : ∀ {m : Nat} {f : Bool} {last v : Int} {l : List Int}, 0 ≤ v → stopL c m f last v = some l → endV v l = 0 ∧ lastA last l ≤ 0
  | 0, f, last, v, l, _, hl => by simp [stopL] at hl
  | m + 1, f, last, v, l, hv, hl => by
    rw [stopL_step] at hl
    split at hl
    · simp only [Option.map_eq_some_iff] at hl
      obtain ⟨l', h', rfl⟩ := hl
      have q := stopL_end (doV_in v (rampF c last (-c.brake))).1 h'
      exact q
    · rename_i hc
      cases hl
      simp only [not_or] at hc
      exact ⟨by simp only [endV]; omega, by simp only [lastA]; omega⟩
theorem stopL_mid {c : Car} : ∀ {m : Nat} {f : Bool} {last v : Int} {l : List Int}, stopL c m f last v = some l → midOK v l = true
  | 0, f, last, v, l, hl => by simp [stopL] at hl
  | m + 1, f, last, v, l, hl => by
    rw [stopL_step] at hl
    split at hl
    · simp only [Option.map_eq_some_iff] at hl
      obtain ⟨l', h', rfl⟩ := hl
      simp only [midOK, stopL_mid h', Bool.and_true]
      cases l' with
      | nil => rfl
      | cons y ys =>
        cases m with
        | zero => simp [stopL] at h'
        | succ m =>
          rw [stopL_step] at h'
          split at h'
          · rename_i hc
            have : ¬ (doV v (rampF c last (-c.brake)) = 0 ∧ rampF c last (-c.brake) ≤ 0) := by
              rcases hc with h | h | h
              · cases h
              · omega
              · omega
            simp only [List.isEmpty_cons, Bool.false_or, Bool.not_eq_true', Bool.and_eq_false_iff, decide_eq_false_iff_not]
            by_cases h0 : doV v (rampF c last (-c.brake)) = 0
            · exact .inr (fun h => this ⟨h0, h⟩)
            · exact .inl h0
          · cases h'
    · cases hl; rfl
theorem doV_mono {v v' x : Int} (h : v ≤ v') : doV v x ≤ doV v' x := by unfold doV; omega
theorem stopL_mono {c : Car} : ∀ {m : Nat} {f : Bool} {last v v' : Int} {l' : List Int}, v ≤ v' → stopL c m f last v' = some l' → ∃ l, stopL c m f last v = some l ∧ l.length ≤ l'.length
  | 0, f, last, v, v', l', _, hl => by simp [stopL] at hl
  | m + 1, f, last, v, v', l', hv, hl => by
    rw [stopL_step] at hl ⊢
    split at hl
    · simp only [Option.map_eq_some_iff] at hl
      obtain ⟨l2, h2, rfl⟩ := hl
      split
      · obtain ⟨l, h, hn⟩ := stopL_mono (doV_mono hv) h2
        exact ⟨_ :: l, by rw [h]; rfl, by simp; omega⟩
      · exact ⟨[], rfl, by simp⟩
    · rename_i hc
      cases hl
      rw [if_neg (fun h => hc (h.imp id (Or.imp (fun h => by omega) id)))]
      exact ⟨[], rfl, by simp⟩

theorem clipF_clipF {c : Car} (h : c.ok) (x : Int) : clipF c (clipF c x) = clipF c x := by
  have := clipF_in h x
  exact clipF_id h this.1 this.2
theorem rampF_clip {c : Car} (h : c.ok) (x w : Int) : rampF c (clipF c x) w = rampF c x w := by unfold rampF; rw [clipF_clipF h]
theorem stopL_clip {c : Car} (h : c.ok) : ∀ (m : Nat) (last v : Int), stopL c m true (clipF c last) v = stopL c m true last v
  | 0, _, _ => rfl
  | m + 1, last, v => by rw [stopL_step, stopL_step, rampF_clip h]; simp
/-- The acts of a stop, whatever came before. -/
theorem stops_chain {c : Car} (h : c.ok) (last v : Int) (h4 : 0 ≤ v) (h5 : v ≤ 2000) : chain c (clipF c last) (stops c last v) := by
  have h1 := (stops_eq h last v h4 h5).1
  rw [← stopL_clip h] at h1
  have h2 := clipF_in h last
  exact stopL_chain h h2.1 h2.2 h1

/-! ### Profiles -/
/-- A driver: the last act, the speed, the acts. -/
structure Drv where
  last : Int
  v : Int
  l : List Int
def Drv.doit (s : Drv) (a : Int) : Drv := ⟨a, doV s.v a, s.l ++ [a]⟩
def Drv.ramps (c : Car) (w : Int) : Nat → Drv → Drv
  | 0, s => s
  | n + 1, s => Drv.ramps c w n (s.doit (rampF c s.last w))
def Drv.queue : List Int → Drv → Drv
  | [], s => s
  | x :: xs, s => Drv.queue xs (s.doit x)
/-- The acts of a profile. -/
def profL (c : Car) (q : List Int) (last v : Int) (up hold : Nat) : List Int :=
  let s := (((Drv.mk last v []).queue (q.take 5)) |>.ramps c c.accel up) |>.ramps c 0 hold
  s.l ++ stops c s.last s.v

/-- The driver has come from a with the acts of a list. -/
def Drv.from (c : Car) (a : Int) (s : Drv) : Prop := chain c a s.l ∧ s.last = lastA a s.l ∧ 0 ≤ s.v ∧ s.v ≤ 2000
theorem Drv.from.doit {c : Car} {a : Int} {s : Drv} (h : s.from c a) {x : Int} (hx : -c.brake ≤ x ∧ x ≤ c.accel) (hn : -c.rate ≤ x - s.last ∧ x - s.last ≤ c.rate) : (s.doit x).from c a := by
  refine ⟨chain_append h.1 ⟨hx, ?_, trivial⟩, ?_, doV_in ..⟩
  · rw [← h.2.1]; exact hn
  · simp only [Drv.doit, lastA_append]; rfl
theorem Drv.from.ramps {c : Car} (hc : c.ok) {a w : Int} (ha : -c.brake ≤ a ∧ a ≤ c.accel) : ∀ {n : Nat} {s : Drv}, s.from c a → (Drv.ramps c w n s).from c a
  | 0, s, h => h
  | n + 1, s, h => by
    have hl := chain_last ha h.1
    rw [← h.2.1] at hl
    have q := Drv.from.ramps (w := w) (n := n) hc ha (h.doit (rampF_in hc s.last w) (rampF_near hc hl.1 hl.2 w))
    exact q
theorem Drv.from.queue {c : Car} {a : Int} : ∀ {q : List Int} {s : Drv}, s.from c a → chain c s.last q → (Drv.queue q s).from c a
  | [], s, h, _ => h
  | x :: q, s, h, ⟨h1, h2, h3⟩ => have r := Drv.from.queue (h.doit h1 h2) h3; r
theorem Drv.ramps_len {c : Car} {w : Int} : ∀ {n : Nat} {s : Drv}, (Drv.ramps c w n s).l.length = s.l.length + n
  | 0, s => rfl
  | n + 1, s => by rw [Drv.ramps, Drv.ramps_len]; simp [Drv.doit]; omega
theorem Drv.queue_len : ∀ {q : List Int} {s : Drv}, (Drv.queue q s).l.length = s.l.length + q.length
  | [], s => rfl
  | x :: q, s => by rw [Drv.queue, Drv.queue_len]; simp [Drv.doit]; omega
theorem Drv.queue_l : ∀ {q : List Int} {s : Drv}, (Drv.queue q s).l = s.l ++ q
  | [], s => by simp [Drv.queue]
  | x :: q, s => by rw [Drv.queue, Drv.queue_l]; simp [Drv.doit]
theorem Drv.ramps_l {c : Car} {w : Int} : ∀ {n : Nat} {s : Drv}, ∃ m, (Drv.ramps c w n s).l = s.l ++ m
  | 0, s => ⟨[], by simp [Drv.ramps]⟩
  | n + 1, s => by
    obtain ⟨m, hm⟩ := Drv.ramps_l (c := c) (w := w) (n := n) (s := s.doit (rampF c s.last w))
    exact ⟨rampF c s.last w :: m, by rw [Drv.ramps, hm]; simp [Drv.doit]⟩

/-- A profile of a queue that is a chain: valid, and it begins with the queue. -/
theorem profL_ok {c : Car} (hc : c.ok) {q : List Int} {last v : Int} {up hold : Nat} (ha : -c.brake ≤ last ∧ last ≤ c.accel) (hq : chain c last q) (hn : q.length ≤ 5) (hv : 0 ≤ v ∧ v ≤ 2000) (hu : up ≤ 20) (hh : hold ≤ 20) :
    chain c last (profL c q last v up hold) ∧ 0 < (profL c q last v up hold).length ∧ (profL c q last v up hold).length ≤ 200 ∧ lastA last (profL c q last v up hold) ≤ 0 ∧ (profL c q last v up hold).take q.length = q ∧ q.length ≤ (profL c q last v up hold).length := by
  have h0 : (Drv.mk last v []).from c last := ⟨trivial, rfl, hv⟩
  have ht : q.take 5 = q := List.take_of_length_le hn
  simp only [profL, ht]
  have h1 := Drv.from.queue h0 hq
  have h2 := Drv.from.ramps (w := c.accel) (n := up) hc ha h1
  have h3 := Drv.from.ramps (w := 0) (n := hold) hc ha h2
  have hl1 : (Drv.queue q (Drv.mk last v [])).l.length = q.length := by rw [Drv.queue_len]; simp
  have hl2 := Drv.ramps_len (c := c) (w := c.accel) (n := up) (s := Drv.queue q (Drv.mk last v []))
  have hl3 := Drv.ramps_len (c := c) (w := 0) (n := hold) (s := Drv.ramps c c.accel up (Drv.queue q (Drv.mk last v [])))
  obtain ⟨m2, e2⟩ := Drv.ramps_l (c := c) (w := c.accel) (n := up) (s := Drv.queue q (Drv.mk last v []))
  obtain ⟨m3, e3⟩ := Drv.ramps_l (c := c) (w := 0) (n := hold) (s := Drv.ramps c c.accel up (Drv.queue q (Drv.mk last v [])))
  have e1 := Drv.queue_l (q := q) (s := Drv.mk last v [])
  generalize Drv.ramps c 0 hold (Drv.ramps c c.accel up (Drv.queue q (Drv.mk last v []))) = s at *
  obtain ⟨hs, hp, hs1⟩ := stops_eq hc s.last s.v h3.2.2.1 h3.2.2.2
  have hsl := chain_last ha h3.1
  rw [← h3.2.1] at hsl
  have hne : stops c s.last s.v ≠ [] := by intro h; rw [h] at hp; simp at hp
  refine ⟨chain_append h3.1 ?_, by simp; omega, by simp; omega, ?_, ?_, by simp; omega⟩
  · rw [← h3.2.1]; exact stopL_chain hc hsl.1 hsl.2 hs
  · rw [lastA_append, lastA_cons _ s.last hne]
    exact (stopL_end h3.2.2.1 hs).2
  · rw [e3, e2, e1]
    simp

/-! ### What the check of a plan looks for -/
def badA (c : Car) (x : Int) : Bool := !(decide (-c.brake ≤ x) && decide (x ≤ c.accel))
def badS (c : Car) : Int → List Int → Bool
  | _, [] => false
  | l, x :: xs => !(decide (-c.rate ≤ x - l) && decide (x - l ≤ c.rate)) || badS c x xs
theorem chain_badS {c : Car} : ∀ {a : Int} {l : List Int}, chain c a l → badS c a l = false
  | _, [], _ => rfl
  | _, x :: l, ⟨_, h2, h3⟩ => by simp only [badS, h2.1, h2.2, decide_true, Bool.and_self, Bool.not_true, Bool.false_or]; exact chain_badS h3
theorem chain_badS0 {c : Car} (hc : c.ok) {a x : Int} {l : List Int} (h : chain c a (x :: l)) : badS c x (x :: l) = false := by
  obtain ⟨h1, h2, h3, h4, h5, h6, h7, h8, h9, h10⟩ := hc
  have e1 : decide (-c.rate ≤ x - x) = true := decide_eq_true (by omega)
  have e2 : decide (x - x ≤ c.rate) = true := decide_eq_true (by omega)
  simp only [badS, e1, e2, Bool.and_self, Bool.not_true, Bool.false_or]
  exact chain_badS h.2.2
theorem chain_badA {c : Car} {a : Int} {l : List Int} (h : chain c a l) : l.any (badA c) = false := by
  rw [List.any_eq_false]
  intro x hx
  have := chain_in h x hx
  simp [badA, this.1, this.2]

/-- What a check answers. -/
def checkF (c : Car) (l : List Int) : Int :=
  if ¬ c.ok then 2 else if l.length = 0 then 6 else if 200 < l.length then 5
  else if 0 < l.getLastD 0 then 2 else if l.any (badA c) then 2 else if badS c (l.headD 0) l then 11 else 0
theorem getLastD_lastA : ∀ {l : List Int} (a : Int), l ≠ [] → l.getLastD 0 = lastA a l
  | [], _, h => absurd rfl h
  | [x], _, _ => rfl
  | x :: y :: l, a, _ => by
    have := getLastD_lastA (l := y :: l) x (by simp)
    simpa [lastA] using this
theorem checkF_ok {c : Car} (hc : c.ok) {a : Int} {l : List Int} (h : chain c a l) (h0 : 0 < l.length) (hn : l.length ≤ 200) (hl : lastA a l ≤ 0) : checkF c l = 0 := by
  have hne : l ≠ [] := by intro h; rw [h] at h0; simp at h0
  unfold checkF
  rw [if_neg (by simp [hc]), if_neg (by omega), if_neg (by omega), getLastD_lastA a hne, if_neg (by omega), chain_badA h]
  cases l with
  | nil => exact absurd rfl hne
  | cons x l => simp [chain_badS0 hc h]

/-- A queue made by ramps. -/
def rampQ (c : Car) : Int → List Int → List Int
  | _, [] => []
  | a, x :: xs => rampF c a x :: rampQ c (rampF c a x) xs
theorem rampQ_chain {c : Car} (hc : c.ok) : ∀ {a : Int} {l : List Int}, (-c.brake ≤ a ∧ a ≤ c.accel) → chain c a (rampQ c a l)
  | _, [], _ => trivial
  | a, x :: l, ha => ⟨rampF_in hc a x, rampF_near hc ha.1 ha.2 x, rampQ_chain hc (rampF_in hc a x)⟩
theorem rampQ_len {c : Car} : ∀ {a : Int} {l : List Int}, (rampQ c a l).length = l.length
  | _, [] => rfl
  | a, x :: l => by simp [rampQ, rampQ_len]
end Go.PlanLaw

