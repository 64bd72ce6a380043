/- This text proves parts of an evaluator's soundness: what the evaluator answers, the model's run does; no condition. -/
import Derived.Test.YtlcjcbdfabbddaaEng2
import Derived.OrdersIn
import Derived.RowKit3
set_option linter.unusedVariables false
set_option linter.unusedSimpArgs false
/- The engine, part U: two operations that may be exchanged. -/
namespace Go.Eng
open Go

abbrev EnvF := Nat → Option AV
def putE (E : EnvF) (dst : Option Nat) (v : AV) : EnvF := fun n => if dst = some n then some v else E n
theorem put_get {E : Env} {dst : Option Nat} {v : AV} : (E.put dst v).get = putE E.get dst v := by
  funext n
  cases dst with
  | none => simp [Env.put, putE]
  | some d => simp [Env.put, putE, Env.get]

/-! ### An operation looks at its slots alone -/
section
variable {E E' : EnvF}
theorem ev_congr {o : Opd} (h : ∀ n ∈ o.slots, E n = E' n) : o.ev E = o.ev E' := by
  cases o with
  | s n => simp only [Opd.ev, h n (by simp [Opd.slots])]
  | k v => rfl
theorem evs_congr : ∀ {os : List Opd}, (∀ n ∈ os.flatMap Opd.slots, E n = E' n) → evs E os = evs E' os
  | [], _ => rfl
  | o :: os, h => by
    simp only [List.flatMap_cons, List.mem_append] at h
    simp only [evs, ev_congr (fun n hn => h n (.inl hn)), evs_congr (fun n hn => h n (.inr hn))]
theorem fillParts_congr : ∀ {ps : List (Nat × Nat × Opd)} {cs : List Cl}, (∀ n ∈ ps.flatMap (fun p => p.2.2.slots), E n = E' n) → fillParts E cs ps = fillParts E' cs ps
  | [], _, _ => rfl
  | (a, b, o) :: ps, cs, h => by
    simp only [List.flatMap_cons, List.mem_append] at h
    simp only [fillParts, ev_congr (o := o) (fun n hn => h n (.inl hn))]
    split
    · split
      · exact fillParts_congr fun n hn => h n (.inr hn)
      · rfl
    · rfl
theorem fillRows_congr {M : Mem} {esz : Nat} : ∀ {ps : List (Nat × Opd)} {rs : List (List Cl)}, (∀ n ∈ ps.flatMap (fun p => p.2.slots), E n = E' n) → fillRows E M esz rs ps = fillRows E' M esz rs ps
  | [], _, _ => rfl
  | (a, o) :: ps, rs, h => by
    simp only [List.flatMap_cons, List.mem_append] at h
    simp only [fillRows, ev_congr (o := o) (fun n hn => h n (.inl hn))]
    split
    · split
      · split
        · exact fillRows_congr fun n hn => h n (.inr hn)
        · rfl
      · rfl
    · rfl
theorem partsSls_congr : ∀ {ps : List (Nat × Opd)}, (∀ n ∈ ps.flatMap (fun p => p.2.slots), E n = E' n) → partsSls E ps = partsSls E' ps
  | [], _ => rfl
  | (a, o) :: ps, h => by
    simp only [List.flatMap_cons, List.mem_append] at h
    have := partsSls_congr (ps := ps) fun n hn => h n (.inr hn)
    simp only [partsSls] at this
    simp only [partsSls, List.flatMap_cons, ev_congr (o := o) (fun n hn => h n (.inl hn)), this]
theorem boundOf_congr {o : Option Opd} {d t : Nat} (h : ∀ n ∈ o.toList.flatMap Opd.slots, E n = E' n) : boundOf E o d t = boundOf E' o d t := by
  cases o with
  | none => rfl
  | some o => simp only [boundOf, ev_congr (o := o) (fun n hn => h n (by simpa using hn))]
theorem sliceB_congr {len : Nat} {cap : Option Nat} {lo hi mx : Option Opd} (h : ∀ n ∈ (lo.toList ++ hi.toList ++ mx.toList).flatMap Opd.slots, E n = E' n) : sliceB E len cap lo hi mx = sliceB E' len cap lo hi mx := by
  simp only [List.flatMap_append, List.mem_append] at h
  have h1 : ∀ d t, boundOf E lo d t = boundOf E' lo d t := fun d t => boundOf_congr fun n hn => h n (.inl (.inl hn))
  have h2 : ∀ d t, boundOf E hi d t = boundOf E' hi d t := fun d t => boundOf_congr fun n hn => h n (.inl (.inr hn))
  have h3 : ∀ d t, boundOf E mx d t = boundOf E' mx d t := fun d t => boundOf_congr fun n hn => h n (.inr hn)
  simp only [sliceB, h1, h2, h3]
theorem sliceC_congr {es : Nat} {x : Cl} {lo hi mx : Option Opd} (h : ∀ n ∈ (lo.toList ++ hi.toList ++ mx.toList).flatMap Opd.slots, E n = E' n) : sliceC E es x lo hi mx = sliceC E' es x lo hi mx := by
  cases x <;> simp only [sliceC, sliceB_congr h]

theorem opF_congr {cf : CallF} {n0 : Nat} {M : Mem} {co : CO} (h : ∀ n ∈ co.slots, E n = E' n) : opF cf n0 E M co = opF cf n0 E' M co := by
  cases co <;> simp only [CO.slots, List.mem_append] at h
  case mv x => simp only [opF, ev_congr h]
  case pick c a b =>
    simp only [opF, ev_congr (o := c) (fun n hn => h n (.inl (.inl hn)))]
    split
    · rename_i t _
      cases t
      · simp only [Bool.false_eq_true, if_false, ev_congr (o := b) (fun n hn => h n (.inr hn))]
      · simp only [if_true, ev_congr (o := a) (fun n hn => h n (.inl (.inr hn)))]
    · rfl
  case box q n x => simp only [opF, ev_congr h]
  case build z ps => simp only [opF, fillParts_congr h]
  case lit q e z ps => simp only [opF, fillRows_congr h, partsSls_congr h]
  case load a n p => simp only [opF, ev_congr h]
  case store n p v => simp only [opF, ev_congr (o := p) (fun n hn => h n (.inl hn)), ev_congr (o := v) (fun n hn => h n (.inr hn))]
  case nilck x => simp only [opF, ev_congr h]
  case bin op x y => simp only [opF, ev_congr (o := x) (fun n hn => h n (.inl hn)), ev_congr (o := y) (fun n hn => h n (.inr hn))]
  case eqb op x y => simp only [opF, ev_congr (o := x) (fun n hn => h n (.inl hn)), ev_congr (o := y) (fun n hn => h n (.inr hn))]
  case isnil g x => simp only [opF, ev_congr h]
  case eqa g s x y => simp only [opF, ev_congr (o := x) (fun n hn => h n (.inl hn)), ev_congr (o := y) (fun n hn => h n (.inr hn))]
  case un op x => simp only [opF, ev_congr h]
  case conv k x => simp only [opF, ev_congr h]
  case mkfn f a b => simp only [opF, evs_congr (os := a) (fun n hn => h n (.inl hn)), evs_congr (os := b) (fun n hn => h n (.inr hn))]
  case mkslice q e b z l c => simp only [opF, ev_congr (o := l) (fun n hn => h n (.inl hn)), ev_congr (o := c) (fun n hn => h n (.inr hn))]
  case slice e x lo hi mx =>
    simp only [opF, ev_congr (o := x) (fun n hn => h n (.inl hn))]
    split
    · rw [sliceC_congr (fun n hn => h n (.inr hn))]
    · rfl
  case faddr f p => simp only [opF, ev_congr h]
  case field a f n x => simp only [opF, ev_congr h]
  case iaddr e x y => simp only [opF, ev_congr (o := x) (fun n hn => h n (.inl hn)), ev_congr (o := y) (fun n hn => h n (.inr hn))]
  case aaddr l e x y => simp only [opF, ev_congr (o := x) (fun n hn => h n (.inl hn)), ev_congr (o := y) (fun n hn => h n (.inr hn))]
  case aidx a l e x y => simp only [opF, ev_congr (o := x) (fun n hn => h n (.inl hn)), ev_congr (o := y) (fun n hn => h n (.inr hn))]
  case extract t i => simp only [opF, h t (by simp)]
  case len x => simp only [opF, ev_congr h]
  case slen x => simp only [opF, ev_congr h]
  case minmax m xs => simp only [opF, evs_congr h]
  case append e b x y => simp only [opF, ev_congr (o := x) (fun n hn => h n (.inl hn)), ev_congr (o := y) (fun n hn => h n (.inr hn))]
  case clear z x => simp only [opF, ev_congr h]
  case call m f as => simp only [opF, ev_congr (o := f) (fun n hn => h n (.inl hn)), evs_congr (os := as) (fun n hn => h n (.inr hn))]
  case bad => rfl

theorem stepF_congr {cf : CallF} {n0 : Nat} {M : Mem} {o : COper} (h : ∀ n ∈ o.slots, E n = E' n) : stepF cf n0 o E M = stepF cf n0 o E' M := by
  simp only [COper.slots, List.mem_append] at h
  unfold stepF
  have h2 : opF cf n0 E M o.op = opF cf n0 E' M o.op := opF_congr fun n hn => h n (.inr hn)
  cases hg : o.guard with
  | none => simp only [h2]
  | some g =>
    rw [hg] at h
    have : wantedF E g = wantedF E' g := by simp only [wantedF, h g.1 (.inl (by simp))]
    simp only [this, h2]
end

/-! ### Kinds -/
abbrev Run := Mem → Option (AV × Mem × FP)
def KPure (R : Run) : Prop := ∃ g : Option AV, ∀ M, R M = g.map fun v => (v, M, .no)
def KLoad (R : Run) : Prop := ∃ agg n x, ∀ M, R M = loadOp M agg n x
def KHeavy (R : Run) : Prop := ∀ M, Hv M R
def KAlloc (R : Run) : Prop := ∀ M av M' fp, R M = some (av, M', fp) → fp ≠ .bad → ∃ (q : Nat) (b : Blk), M[q]? = some none ∧ M' = M.set q (some b) ∧ ∀ M1 : Mem, M1[q]? = some none → R M1 = some (av, M1.set q (some b), fp)

theorem loadOp_same {M M' : Mem} {agg : Bool} {n : Nat} {x : Cl} {av : AV} {fp : FP} (h : loadOp M agg n x = some (av, M', fp)) : M' = M := by
  unfold loadOp at h
  split at h
  · split at h
    · split at h
      · split at h
        · simp only [Option.map_eq_some_iff, Prod.mk.injEq] at h; obtain ⟨_, _, _, rfl, _⟩ := h; rfl
        · cases h
      · cases h
    · cases h
  · split at h
    · simp only [Option.map_eq_some_iff, Prod.mk.injEq] at h; obtain ⟨_, _, _, rfl, _⟩ := h; rfl
    · cases h
  · cases h

theorem swapK {RA RB : Run} {M M1 M2 : Mem} {va vb : AV} {fa fb : FP} {base : Nat} (hA : RA M = some (va, M1, fa)) (hB : RB M1 = some (vb, M2, fb)) (hbase : base ≤ M.length)
    (h : KPure RA ∨ KPure RB ∨ (KLoad RA ∧ KLoad RB) ∨ (fa.apart fb = true ∧ fb.old base = true ∧ ((KLoad RA ∧ KHeavy RB) ∨ (KHeavy RA ∧ KLoad RB) ∨ (KLoad RA ∧ KAlloc RB) ∨ (KHeavy RA ∧ KAlloc RB) ∨ (KAlloc RA ∧ KAlloc RB)))) :
    ∃ M1', RB M = some (vb, M1', fb) ∧ RA M1' = some (va, M2, fa) := by
  have ne1 : fa.apart fb = true → fb ≠ .bad := by rintro h rfl; cases fa <;> simp [FP.apart] at h
  have ne2 : fa.apart fb = true → fa ≠ .bad := by rintro h rfl; simp [FP.apart] at h
  rcases h with ⟨g, hg⟩ | ⟨g, hg⟩ | ⟨⟨_, _, x, hx⟩, ⟨_, _, y, hy⟩⟩ | ⟨hap, hold, h⟩
  · rw [hg] at hA
    simp only [Option.map_eq_some_iff, Prod.mk.injEq] at hA
    obtain ⟨v, hv, rfl, rfl, rfl⟩ := hA
    exact ⟨M2, hB, by rw [hg, hv]; rfl⟩
  · rw [hg] at hB
    simp only [Option.map_eq_some_iff, Prod.mk.injEq] at hB
    obtain ⟨v, hv, rfl, rfl, rfl⟩ := hB
    exact ⟨M, by rw [hg, hv]; rfl, hA⟩
  · rw [hx] at hA; rw [hy] at hB
    have := loadOp_same hA; subst this
    have := loadOp_same hB; subst this
    exact ⟨_, by rw [hy]; exact hB, by rw [hx]; exact hA⟩
  · rcases h with ⟨⟨_, _, x, hx⟩, hb⟩ | ⟨ha, ⟨_, _, y, hy⟩⟩ | ⟨⟨_, _, x, hx⟩, hb⟩ | ⟨ha, hb⟩ | ⟨ha, hb⟩
    · rw [hx] at hA
      have := loadOp_same hA; subst this
      exact ⟨M2, hB, by rw [hx]; exact ((hb _).eff _ _ _ hB).load hA hap⟩
    · rw [hy] at hB
      have := loadOp_same hB; subst this
      exact ⟨M, by rw [hy]; exact ((ha _).eff _ _ _ hA).load_back hB hap hold hbase, hA⟩
    · rw [hx] at hA
      have := loadOp_same hA; subst this
      obtain ⟨q, b, h1, rfl, h3⟩ := hb _ _ _ _ hB (ne1 hap)
      refine ⟨_, hB, ?_⟩
      rw [hx]
      unfold loadOp at hA ⊢
      split at hA
      · split at hA
        · rename_i b' hlk
          rw [look_fill h1 hlk]
          simp only
          split at hA
          · split at hA
            · simp only [Option.map_eq_some_iff, Prod.mk.injEq] at hA
              obtain ⟨w, hw, rfl, _, rfl⟩ := hA
              simp [hw]
            · cases hA
          · cases hA
        · cases hA
      · split at hA
        · simp only [Option.map_eq_some_iff, Prod.mk.injEq] at hA
          obtain ⟨w, hw, rfl, _, rfl⟩ := hA
          simp [hw]
        · cases hA
      · cases hA
    · obtain ⟨q, b, h1, rfl, h3⟩ := hb _ _ _ _ hB (ne1 hap)
      have hq : M[q]? = some none := (((ha _).eff _ _ _ hA).hole q).1 h1
      exact ⟨_, h3 M hq, (ha M).fill _ _ _ q b hA hq⟩
    · obtain ⟨qa, ba, a1, rfl, a3⟩ := ha _ _ _ _ hA (ne2 hap)
      obtain ⟨qb, bb, b1, rfl, b3⟩ := hb _ _ _ _ hB (ne1 hap)
      have hne : qa ≠ qb := by
        rintro rfl
        rw [List.getElem?_set_self (lt_of_get a1)] at b1
        cases b1
      rw [List.getElem?_set_ne hne] at b1
      refine ⟨_, b3 M b1, ?_⟩
      rw [a3 _ (by rw [List.getElem?_set_ne hne.symm]; exact a1), List.set_comm _ _ hne]


/-! ### Of what kind an operation is -/
theorem newAt_eq {M : Mem} {q : Nat} {b : Blk} (h : M[q]? = some none) : newAt M q b = some (M.set q (some b)) := by simp [newAt, h]

theorem partsSls_nil {E : EnvF} {a : Nat} {o : Opd} {ps : List (Nat × Opd)} (h : (partsSls E ((a, o) :: ps)).isEmpty = true) : (∀ v, o.ev E = some v → v.sls = []) ∧ (partsSls E ps).isEmpty = true := by
  simp only [partsSls, List.flatMap_cons, List.isEmpty_iff, List.append_eq_nil_iff] at h ⊢
  refine ⟨fun v hv => ?_, h.2⟩
  have := h.1
  rw [hv] at this
  exact this

theorem frzs_free {M M1 : Mem} : ∀ {cs : List Cl}, cs.flatMap slC = [] → frzs M cs = frzs M1 cs
  | [], _ => rfl
  | c :: cs, h => by
    simp only [List.flatMap_cons, List.append_eq_nil_iff] at h
    have : frzC M c = frzC M1 c := by
      cases c <;> first | rfl | (simp [slC] at h)
    simp only [frzs, this, frzs_free (M := M) (M1 := M1) h.2]

theorem fillRows_free {E : EnvF} {M M1 : Mem} {esz : Nat} : ∀ {ps : List (Nat × Opd)} {rs : List (List Cl)}, (partsSls E ps).isEmpty = true → fillRows E M esz rs ps = fillRows E M1 esz rs ps
  | [], _, _ => rfl
  | (a, o) :: ps, rs, h => by
    obtain ⟨h1, h2⟩ := partsSls_nil h
    simp only [fillRows]
    cases ho : o.ev E with
    | none => rfl
    | some v =>
      simp only
      rw [frzs_free (M := M) (M1 := M1) (h1 v ho)]
      split
      · split
        · exact fillRows_free h2
        · rfl
      · rfl

theorem kind_alloc {cf : CallF} {n0 : Nat} {E : EnvF} {co : CO} (h : co.cls = .alloc) : KAlloc fun M => opF cf n0 E M co := by
  intro M av M' fp hr hbad
  cases co <;> first | (cases h; done) | skip
  case box q n x =>
    simp only [opF] at hr ⊢
    split at hr
    · rename_i v hv
      split at hr
      · rename_i hc
        simp only [Option.map_eq_some_iff, Prod.mk.injEq] at hr
        obtain ⟨M1, h1, rfl, rfl, rfl⟩ := hr
        obtain ⟨q1, q2, rfl⟩ := newAt_some h1
        refine ⟨_, _, q1, rfl, fun M1 hM1 => ?_⟩
        rw [if_pos hc, newAt_eq hM1]; rfl
      · cases hr
    · cases hr
  case lit q e z ps =>
    simp only [opF] at hr ⊢
    split at hr
    · rename_i rows hrows
      split at hr
      · rename_i hc
        simp only [Option.map_eq_some_iff, Prod.mk.injEq] at hr
        obtain ⟨M1, h1, rfl, rfl, rfl⟩ := hr
        have hemp : (partsSls E ps).isEmpty = true := by
          cases hx : (partsSls E ps).isEmpty with
          | true => rfl
          | false => rw [hx] at hbad; simp at hbad
        have hnil : partsSls E ps = [] := by simpa using hemp
        rw [hnil] at h1
        obtain ⟨q1, q2, rfl⟩ := newAt_some h1
        refine ⟨_, _, q1, rfl, fun M1 hM1 => ?_⟩
        · rw [fillRows_free (M := M1) (M1 := M) hemp, hrows, hnil]
          simp only
          rw [if_pos hc]
          show Option.map _ (newAt M1 _ _) = _
          rw [newAt_eq hM1]; rfl
      · cases hr
    · cases hr
  case mkslice q e b z l c =>
    simp only [opF] at hr ⊢
    split at hr
    · rename_i l1 n1 c1 n2 hl hc
      split at hr
      · rename_i hcond
        simp only [Option.map_eq_some_iff, Prod.mk.injEq] at hr
        obtain ⟨M1, h1, rfl, rfl, rfl⟩ := hr
        obtain ⟨q1, q2, rfl⟩ := newAt_some h1
        refine ⟨_, _, q1, rfl, fun M1 hM1 => ?_⟩
        rw [if_pos hcond, newAt_eq hM1]; rfl
      · cases hr
    · cases hr

theorem kind_load {cf : CallF} {n0 : Nat} {E : EnvF} {co : CO} (h : co.cls = .load) : KPure (fun M => opF cf n0 E M co) ∨ KLoad (fun M => opF cf n0 E M co) := by
  cases co <;> first | (cases h; done) | skip
  case load a n p =>
    simp only [opF]
    split
    · exact .inr ⟨_, _, _, fun M => rfl⟩
    · exact .inl ⟨none, fun M => rfl⟩

theorem kind_heavy {cf : CallF} {n0 : Nat} {E : EnvF} {co : CO} (h : co.cls = .heavy) : KPure (fun M => opF cf n0 E M co) ∨ KHeavy (fun M => opF cf n0 E M co) := by
  cases co <;> first | (cases h; done) | skip
  case store n p v =>
    simp only [opF]
    split
    · exact .inr fun M => store_hv
    · exact .inl ⟨none, fun M => rfl⟩
  case append e b x y =>
    simp only [opF]
    split
    · exact .inr fun M => append_hv
    · exact .inl ⟨none, fun M => rfl⟩
  case clear z x =>
    simp only [opF]
    split
    · exact .inr fun M => clear_hv
    · exact .inl ⟨none, fun M => rfl⟩
  case call m f as =>
    simp only [opF]
    split
    · exact .inr fun M => callOp_hv
    · exact .inl ⟨none, fun M => rfl⟩
  case bad => exact .inl ⟨none, fun M => rfl⟩

theorem KPure.const {r : Option AV} : KPure fun M => r.map fun v => (v, M, .no) := ⟨r, fun _ => rfl⟩

theorem kind_pure {cf : CallF} {n0 : Nat} {E : EnvF} {co : CO} (h : co.cls = .pure) : KPure fun M => opF cf n0 E M co := by
  have hp : ∀ c : Option Cl, KPure fun M => pureW c M := fun c => ⟨c.map fun v => .w (.c v), fun M => by cases c <;> rfl⟩
  have h0 : KPure fun _ => (none : Option (AV × Mem × FP)) := ⟨none, fun M => rfl⟩
  have h1 : ∀ v : AV, KPure fun M => some (v, M, FP.no) := fun v => ⟨some v, fun M => rfl⟩
  cases co <;> first | (cases h; done) | skip
  case mv x => simp only [opF]; split <;> first | exact h0 | exact h1 _
  case pick c a b =>
    simp only [opF]
    split
    · split <;> first | exact h0 | exact h1 _
    · exact h0
  case build z ps => exact ⟨(fillParts E z ps).map fun cs => .w (.a cs), fun M => by simp only [opF]; cases fillParts E z ps <;> rfl⟩
  case nilck x => simp only [opF]; split <;> first | exact h0 | exact h1 _
  case bin op x y => simp only [opF]; split <;> first | exact h0 | exact hp _
  case eqb op x y => simp only [opF]; split <;> first | exact h0 | exact hp _
  case isnil g x => simp only [opF]; split <;> first | exact h0 | exact hp _
  case eqa g s x y =>
    simp only [opF]
    split
    · split <;> first | exact h0 | exact hp _
    · exact h0
  case un op x => simp only [opF]; split <;> first | exact h0 | exact hp _
  case conv k x => simp only [opF]; split <;> first | exact h0 | exact h1 _
  case mkfn f a b =>
    simp only [opF]
    split
    · split <;> first | exact h0 | exact h1 _
    · exact h0
  case slice e x lo hi mx => simp only [opF]; split <;> first | exact h0 | exact hp _
  case faddr f p => simp only [opF]; split <;> first | exact h0 | exact hp _
  case field a f n x =>
    simp only [opF]
    split
    · split
      · rename_i cs' _; exact ⟨(ofCells a cs').map .w, fun M => by cases ofCells a cs' <;> rfl⟩
      · exact h0
    · exact h0
  case iaddr e x y => simp only [opF]; split <;> first | exact h0 | exact hp _
  case aaddr l e x y => simp only [opF]; split <;> first | exact h0 | exact hp _
  case aidx a l e x y =>
    simp only [opF]
    split
    · split
      · split
        · rename_i cs' _; exact ⟨(ofCells a cs').map .w, fun M => by cases ofCells a cs' <;> rfl⟩
        · exact h0
      · exact h0
    · exact h0
  case extract t i =>
    simp only [opF]
    split
    · split <;> first | exact h0 | exact h1 _
    · exact h0
  case len x => simp only [opF]; split <;> first | exact h0 | exact h1 _
  case slen x => simp only [opF]; split <;> first | exact h0 | exact h1 _
  case minmax m xs => simp only [opF]; split <;> first | exact h0 | exact hp _

/-- An operation with its guard. -/
theorem kind_step {cf : CallF} {n0 : Nat} {E : EnvF} {o : COper} : KPure (fun M => stepF cf n0 o E M) ∨ (o.cls = .load ∧ KLoad (fun M => stepF cf n0 o E M)) ∨ (o.cls = .heavy ∧ KHeavy (fun M => stepF cf n0 o E M)) ∨ (o.cls = .alloc ∧ KAlloc (fun M => stepF cf n0 o E M)) := by
  have base : KPure (fun M => opF cf n0 E M o.op) ∨ (o.cls = .load ∧ KLoad (fun M => opF cf n0 E M o.op)) ∨ (o.cls = .heavy ∧ KHeavy (fun M => opF cf n0 E M o.op)) ∨ (o.cls = .alloc ∧ KAlloc (fun M => opF cf n0 E M o.op)) := by
    cases hc : o.cls with
    | pure => exact .inl (kind_pure hc)
    | load => exact (kind_load hc).imp id fun h => .inl ⟨rfl, h⟩
    | heavy => exact (kind_heavy hc).imp id fun h => .inr (.inl ⟨rfl, h⟩)
    | alloc => exact .inr (.inr (.inr ⟨rfl, kind_alloc hc⟩))
  unfold stepF
  split
  · exact base
  · rename_i g hg
    split
    · exact base
    · exact .inl ⟨some .u, fun M => rfl⟩
    · exact .inl ⟨none, fun M => rfl⟩

theorem step_len {cf : CallF} {n0 : Nat} {E : EnvF} {o : COper} {M M' : Mem} {av : AV} {fp : FP} (h : stepF cf n0 o E M = some (av, M', fp)) : M.length ≤ M'.length := by
  rcases kind_step (cf := cf) (n0 := n0) (E := E) (o := o) with ⟨g, hg⟩ | ⟨_, _, _, x, hx⟩ | ⟨_, hh⟩ | ⟨hc, _⟩
  · have := hg M
    dsimp only at this
    rw [h] at this
    cases g with
    | none => cases this
    | some v => simp at this; obtain ⟨_, rfl, _⟩ := this; exact Nat.le_refl _
  · have := hx M
    dsimp only at this
    rw [h] at this
    rw [loadOp_same this.symm]; exact Nat.le_refl _
  · exact ((hh M).eff _ _ _ h).len
  · -- what lays a block
    have : ∀ {M av M' fp}, opF cf n0 E M o.op = some (av, M', fp) → M.length ≤ M'.length := by
      intro M av M' fp h
      have hc : o.op.cls = .alloc := hc
      cases hop : o.op <;> rw [hop] at hc h <;> first | (cases hc; done) | skip
      · simp only [opF] at h
        split at h
        · split at h
          · simp only [Option.map_eq_some_iff, Prod.mk.injEq] at h
            obtain ⟨M1, h1, _, rfl, _⟩ := h
            obtain ⟨_, _, rfl⟩ := newAt_some h1
            simp
          · cases h
        · cases h
      · simp only [opF] at h
        split at h
        · split at h
          · simp only [Option.map_eq_some_iff, Prod.mk.injEq] at h
            obtain ⟨M1, h1, _, rfl, _⟩ := h
            obtain ⟨_, _, rfl⟩ := newAt_some h1
            simp [markAll_len]
          · cases h
        · cases h
      · simp only [opF] at h
        split at h
        · split at h
          · simp only [Option.map_eq_some_iff, Prod.mk.injEq] at h
            obtain ⟨M1, h1, _, rfl, _⟩ := h
            obtain ⟨_, _, rfl⟩ := newAt_some h1
            simp
          · cases h
        · cases h
    unfold stepF at h
    split at h
    · exact this h
    · split at h
      · exact this h
      · cases h; exact Nat.le_refl _
      · cases h

end Go.Eng

/- The engine, part V: an operation in its place. -/
namespace Go.Eng
open Go

structure AllIn (F : Fence) : Prop where
  fn : ∀ f, F.fn f
  depth : F.depth = none
  alive : F.alive = false

theorem AllIn.fenced {F : Fence} (h : AllIn F) (P : Program) (m : Machine) : m.fenced P F := by
  intro g _
  refine ⟨fun ha => ?_, .inl (h.fn _), fun f _ => h.fn f, fun d hd => ?_⟩
  · rw [h.alive] at ha; cases ha
  · rw [h.depth] at hd; cases hd

theorem AllIn.room {F : Fence} (h : AllIn F) (n : Nat) : F.room n := fun d hd => by rw [h.depth] at hd; cases hd

theorem AllIn.calls {F : Fence} (h : AllIn F) {n : Nat} {P : Program} {f : FuncId} {args : Array Value} {w : World} {R : Ending → World → Prop} (hc : Calls P f args w R) : CallsIn F n P f args w R := by
  refine ⟨h.fn f, fun cs _ => ?_⟩
  obtain ⟨e, w', fr, r, s, x⟩ := hc cs
  refine ⟨e, w', fr, r, ?_, x⟩
  cases e with
  | returned v => exact (StepsIn.of_steps s).mono fun m _ => h.fenced P m
  | panicked c => exact (StepsIn.of_steps s).mono fun m _ => h.fenced P m
  | outgrown => exact s

/-- An activation where the engine stands. -/
structure At (own : Nat → Prop) (σ : Stab) (j : Inj) (E : EnvF) (M : Mem) (ntmps : Nat) (a : Act) (w : World) : Prop where
  env : EnvR σ j E a.tmps
  size : a.tmps.size = ntmps
  defers : a.defers = []
  agree : Agree σ w
  mem : MR own σ j M w
  own : ∀ b, w.heap.size ≤ b → own b

section
variable {own : Nat → Prop} {σ : Stab} {j : Inj} {M : Mem} {w : World} {E : EnvF} {a : Act} {P : Program} {cf : CallF} {ntmps : Nat} {F : Fence} {n : Nat} {Q : Exit → Act → World → Prop}

theorem At.put {σ' : Stab} {j' : Inj} {M' : Mem} {w' : World} {d : Option Nat} {av : AV} {v : Value} (h : At own σ j E M ntmps a w) (hd : ∀ x, d = some x → x < ntmps) (hv : AVR σ' j' av v) (hag : Agree σ' w') (hm : MR own σ' j' M' w')
    (hst : Step own M.length σ j M w σ' j' M' w') : At own σ' j' (putE E d av) M' ntmps (a.put d v) w' := by
  have hj := hst.jle' h.mem (Nat.le_refl _)
  have henv := h.env.mono hst.sle hj
  refine ⟨?_, ?_, ?_, hag, hm, fun b hb => h.own b (Nat.le_trans hst.size hb)⟩
  · intro m x hx
    cases d with
    | none => exact henv m x (by simpa [putE] using hx)
    | some d =>
      simp only [Act.put]
      by_cases hdm : d = m
      · subst hdm
        simp only [putE, if_true, Option.some.injEq] at hx
        subst hx
        exact ⟨v, by rw [Array.getElem?_setIfInBounds_self_of_lt (by rw [h.size]; exact hd d rfl)], hv⟩
      · have : E m = some x := by simpa [putE, hdm] using hx
        obtain ⟨u, hu, hr⟩ := henv m x this
        exact ⟨u, by rw [Array.getElem?_setIfInBounds_ne hdm]; exact hu, hr⟩
  · cases d <;> simp [Act.put, h.size]
  · cases d <;> simp [Act.put, h.defers]

theorem compileOper_spec {ops : Array Oper} {m : CMode} {i : Nat} {co : COper} (h : compileOper P ops.toList m ntmps i = some co) :
    ∃ o, ops[i]? = some o ∧ co.ix = i ∧ co.op = (compileOp P (allocsBefore ops.toList i) m o).getD .bad ∧ guardOf ops.toList o.guard = some co.guard ∧ co.dst = o.dst ∧ ∀ x, o.dst = some x → x < ntmps := by
  unfold compileOper at h
  split at h
  · rename_i o ho
    split at h
    · rename_i c g hc hg
      have ho' : ops[i]? = some o := by simpa using ho
      simp only [Option.some.injEq] at hc
      split at h
      · rename_i d hd
        split at h
        · rename_i hlt
          cases h
          exact ⟨o, ho', rfl, hc.symm, hg, hd.symm, fun x hx => by rw [hd] at hx; cases hx; exact hlt⟩
        · cases h
      · rename_i hd
        cases h
        exact ⟨o, ho', rfl, hc.symm, hg, hd.symm, fun x hx => by rw [hd] at hx; cases hx⟩
    · cases h
  · cases h

theorem run_enter {f : FuncId} {fn : Func} {args : Array Value} (hf : P.funcs[f]? = some fn) (hb : fn.body.isNone = false) (hn : (fn.name == "runtime.NumGoroutine") = false) : (callFunc f args).run P w = .ok (.enter f args) w := by
  unfold callFunc
  rw [Sem.run_bind, run_program]
  simp only [Result.andThen_ok, hf, hn, hb, Bool.false_eq_true, if_false, Sem.run_pure]

theorem compileOp_call {q : Nat} {m cm : CMode} {o : Oper} {fv : Opd} {as : List Opd} (h : compileOp P q m o = some (.call cm fv as)) :
    ∃ c f, o.op = .call c ∧ c.callee = .value f ∧ opdOf f = some fv ∧ opdsOf c.args.toList = some as := by
  cases ho : o.op <;> simp only [compileOp, ho] at h
  case call c =>
    refine ⟨c, ?_⟩
    obtain ⟨callee, args, argTypes⟩ := c
    cases callee with
    | value f =>
      simp only at h
      split at h
      · rename_i fv' as' h1 h2; cases h; exact ⟨f, rfl, rfl, h1, h2⟩
      · cases h
    | invoke r mm => cases h
    | builtin b =>
      exfalso
      cases b <;> simp only at h <;> (repeat' split at h) <;> first | (cases h; done) | (obtain ⟨_, _, h⟩ := Option.map_eq_some_iff.1 h; cases h)
  case makeFunc fn fi ca =>
    exfalso
    cases fn <;> simp only at h <;> (repeat' split at h) <;> cases h
  all_goals (exfalso; (repeat' split at h) <;> first | (cases h; done) | (obtain ⟨_, _, h⟩ := Option.map_eq_some_iff.1 h; cases h))

theorem step_good (hF : AllIn F) (hcf : FnS P cf) {ops : Array Oper} {m : CMode} {i n0 : Nat} {co : COper} {av : AV} {M' : Mem} {fp : FP} (hc : compileOper P ops.toList m ntmps i = some co)
    (hs : stepF cf n0 co E M = some (av, M', fp)) (hat : At own σ j E M ntmps a w) {K : Act → World → Prop}
    (hK : ∀ a' w' σ' j', At own σ' j' (putE E co.dst av) M' ntmps a' w' → Step own M.length σ j M w σ' j' M' w' → K a' w') :
    wpOpIn F n P ops Q i K a w := by
  obtain ⟨o, ho, _, hop, hg, hdst, hd⟩ := compileOper_spec hc
  unfold wpOpIn
  simp only [ho]
  have habout : ∀ f, o.about P w a.eval = some f → F.fn f := fun f _ => hF.fn f
  have skip : av = .u → M' = M → K (a.put o.dst undef) w := by
    rintro rfl rfl
    exact hK _ _ σ j (by rw [hdst]; exact hat.put hd rfl hat.agree hat.mem Step.refl) Step.refl
  have go : opF cf n0 E M co.op = some (av, M', fp) → o.wpIn F n P a w K Q := by
    intro hrun
    rw [hop] at hrun
    cases hcop : compileOp P (allocsBefore ops.toList i) m o with
    | none => rw [hcop] at hrun; cases hrun
    | some c =>
      rw [hcop] at hrun
      simp only [Option.getD_some] at hrun
      refine ⟨habout, ?_⟩
      have hnd : ∀ c, o.op ≠ .defer c := by
        intro c' hdef
        simp only [compileOp, hdef] at hcop
        cases hcop
      rw [Oper.semAt_eq _ _ _ hnd]
      cases hic : c.isCall with
      | false =>
        rcases op_good (own := own) hic hcop hrun hat.env hat.agree hat.mem hat.own with ⟨v, w', σ', j', hr, hv, hag, hm, hst⟩ | ⟨rfl, w', σ', hr, hag, hm, hst⟩
        · rw [hr]
          exact hK _ _ σ' j' (by rw [hdst]; exact hat.put hd hv hag hm hst) hst
        · rw [hr]
          exact hK _ _ σ' j (by rw [hdst]; exact hat.put hd rfl hag hm hst) hst
      | true =>
        cases c <;> first | (cases hic; done) | skip
        rename_i cm cfv cargs
        obtain ⟨c, f, ho1, hcallee, hfo, haso⟩ := compileOp_call hcop
        obtain ⟨callee, args, argTypes⟩ := c
        dsimp only at hcallee haso
        subst hcallee
        simp only [opF] at hrun
        split at hrun
        · rename_i fv as hfv has
          have hfw := opd_sound hat.env hfo hfv
          have hvs : WVRs σ j as (args.map a.eval).toList := by
            have := opds_sound hat.env haso has
            simpa using this
          obtain ⟨g, fi, ca, fn, hfval, q1, q2, q3, hcall⟩ := callOp_good hcf hrun hat.agree hat.mem hat.own hfw hvs
          have hexec : (execOp a.eval o).run P w = .ok (.enter g (fi ++ args.map a.eval ++ ca)) w := by
            simp [execOp, ho1, resolve, Deferred.ofValue, hfval, invoke, run_enter q1 q2 q3]
          rw [hexec]
          refine ⟨fun h => (by rw [hF.depth] at h; cases h), hF.calls ?_⟩
          refine Calls.mono' hcall ?_
          rintro e w' ⟨v, σ', j', rfl, hv, hag, hm, hst⟩
          exact hK _ _ σ' j' (by rw [hdst]; exact hat.put hd hv hag hm hst) hst
        · cases hrun
  cases hgd : o.guard with
  | none =>
    rw [hgd] at hg
    simp only [guardOf, Option.some.injEq] at hg
    have hw : Region.wanted o (yielded ops a.tmps) = true := by simp [Region.wanted, hgd]
    rw [if_pos hw]
    simp only [stepF, ← hg] at hs
    exact go hs
  | some g =>
    obtain ⟨jj, want⟩ := g
    rw [hgd] at hg
    simp only [guardOf] at hg
    split at hg
    · rename_i oj hoj
      simp only [Option.map_eq_some_iff] at hg
      obtain ⟨d, hdj, hg⟩ := hg
      have hoj : ops[jj]? = some oj := by simpa using hoj
      simp only [stepF, ← hg] at hs
      split at hs
      · rename_i hwant
        unfold wantedF at hwant
        split at hwant
        · rename_i b hb
          obtain ⟨v, hv, hr⟩ := hat.env _ _ hb
          have hr : VC σ j (.bool b) v := hr
          cases hr
          have hw : Region.wanted o (yielded ops a.tmps) = true := by
            simp only [Region.wanted, hgd, yielded, hoj, Option.bind_some, hdj]
            rw [hv]
            simpa using hwant
          rw [if_pos hw]
          exact go hs
        · cases hwant
        · cases hwant
      · rename_i hwant
        cases hs
        have hw : Region.wanted o (yielded ops a.tmps) = false := by
          unfold wantedF at hwant
          split at hwant
          · rename_i b hb
            obtain ⟨v, hv, hr⟩ := hat.env _ _ hb
            have hr : VC σ j (.bool b) v := hr
            cases hr
            simp only [Region.wanted, hgd, yielded, hoj, Option.bind_some, hdj]
            rw [hv]
            simpa using hwant
          · rename_i hb
            obtain ⟨v, hv, hr⟩ := hat.env _ _ hb
            have hr : v = undef := hr
            subst hr
            simp only [Region.wanted, hgd, yielded, hoj, Option.bind_some, hdj]
            rw [hv]
            simp [undef]
          · cases hwant
        rw [hw]
        exact ⟨habout, skip rfl rfl⟩
      · cases hs
    · cases hg

end
end Go.Eng

/- The engine, part W: a region, in its text's order and in any order. -/
namespace Go.Eng
open Go

/-! ### The order in which we run, over environments as functions -/
def opsG (cf : CallF) (n0 : Nat) : List COper → EnvF → Mem → Option (EnvF × Mem × List FP)
  | [], E, M => some (E, M, [])
  | o :: os, E, M => match stepF cf n0 o E M with
    | some (v, M', fp) => match opsG cf n0 os (putE E o.dst v) M' with
      | some (E2, M2, fs) => some (E2, M2, fp :: fs)
      | none => none
    | none => none

theorem opsG_of {cf : CallF} {n0 : Nat} : ∀ {os : List COper} {E : Env} {M : Mem} {E2 : Env} {M2 : Mem} {fs : List FP}, opsF cf n0 os E M = some (E2, M2, fs) → opsG cf n0 os E.get M = some (E2.get, M2, fs)
  | [], E, M, E2, M2, fs, h => by simp only [opsF, Option.some.injEq, Prod.mk.injEq] at h; obtain ⟨rfl, rfl, rfl⟩ := h; rfl
  | o :: os, E, M, E2, M2, fs, h => by
    simp only [opsF] at h
    split at h
    · rename_i v M' fp h1
      split at h
      · rename_i E3 M3 fs3 h2
        cases h
        have := opsG_of h2
        rw [put_get] at this
        simp only [opsG, h1, this]
      · cases h
    · cases h

theorem opsG_cons {cf : CallF} {n0 : Nat} {o : COper} {os : List COper} {E : EnvF} {M : Mem} {E2 : EnvF} {M2 : Mem} {fp : FP} {fs : List FP} :
    opsG cf n0 (o :: os) E M = some (E2, M2, fp :: fs) ↔ ∃ v M', stepF cf n0 o E M = some (v, M', fp) ∧ opsG cf n0 os (putE E o.dst v) M' = some (E2, M2, fs) := by
  simp only [opsG]
  constructor
  · intro h
    split at h
    · rename_i v M' fp' h1
      split at h
      · rename_i E3 M3 fs3 h2
        cases h
        exact ⟨v, M', h1, h2⟩
      · cases h
    · cases h
  · rintro ⟨v, M', h1, h2⟩
    rw [h1]; simp only; rw [h2]

def Free (base : Nat) (a : COper) (fa : FP) (b : COper) (fb : FP) : Prop :=
  mayCross a b = true ∧ (a.cls = .pure ∨ b.cls = .pure ∨ (a.cls = .load ∧ b.cls = .load) ∨ (fa.apart fb = true ∧ fb.old base = true))

theorem mayCross_spec {a b : COper} (h : mayCross a b = true) : (∀ d, a.dst = some d → d ∉ b.slots ∧ b.dst ≠ some d) ∧ (∀ d, b.dst = some d → d ∉ a.slots) ∧
    (a.cls = .pure ∨ b.cls = .pure ∨ (a.cls = .load ∧ b.cls = .load) ∨ (a.cls = .load ∧ b.cls = .alloc) ∨ (a.cls = .heavy ∧ b.cls = .alloc) ∨ (a.cls = .alloc ∧ b.cls = .alloc) ∨ (a.cls = .load ∧ b.cls = .heavy) ∨ (a.cls = .heavy ∧ b.cls = .load)) := by
  simp only [mayCross, Bool.and_eq_true] at h
  obtain ⟨⟨h1, h2⟩, h3⟩ := h
  refine ⟨fun d hd => ?_, fun d hd => ?_, ?_⟩
  · rw [hd] at h1; simpa using h1
  · rw [hd] at h2; simpa using h2
  · cases ha : a.cls <;> cases hb : b.cls <;> rw [ha, hb] at h3 <;> simp at h3 ⊢

theorem putE_comm {E : EnvF} {d e : Option Nat} {x v : AV} (h : ∀ x, d = some x → e ≠ some x) : putE (putE E d x) e v = putE (putE E e v) d x := by
  funext n
  simp only [putE]
  by_cases h1 : d = some n
  · have := h n h1; simp [h1, this]
  · simp [h1]

theorem swap {cf : CallF} {n0 base : Nat} {a b : COper} {r : List COper} {E E2 : EnvF} {M M2 : Mem} {fa fb : FP} {fr : List FP} (hf : Free base a fa b fb) (hbase : base ≤ M.length)
    (h : opsG cf n0 (a :: b :: r) E M = some (E2, M2, fa :: fb :: fr)) : opsG cf n0 (b :: a :: r) E M = some (E2, M2, fb :: fa :: fr) := by
  obtain ⟨va, M1, h1, h⟩ := opsG_cons.1 h
  obtain ⟨vb, M3, h2, h3⟩ := opsG_cons.1 h
  obtain ⟨hcross, hfree⟩ := hf
  obtain ⟨s1, s2, s3⟩ := mayCross_spec hcross
  have eb : ∀ M, stepF cf n0 b (putE E a.dst va) M = stepF cf n0 b E M := fun M => stepF_congr fun n hn => by
    simp only [putE]; rw [if_neg]; intro hd; exact (s1 n hd).1 hn
  have ea : ∀ M, stepF cf n0 a (putE E b.dst vb) M = stepF cf n0 a E M := fun M => stepF_congr fun n hn => by
    simp only [putE]; rw [if_neg]; intro hd; exact s2 n hd hn
  rw [eb] at h2
  have hK : KPure (fun M => stepF cf n0 a E M) ∨ KPure (fun M => stepF cf n0 b E M) ∨ (KLoad (fun M => stepF cf n0 a E M) ∧ KLoad (fun M => stepF cf n0 b E M)) ∨
      (fa.apart fb = true ∧ fb.old base = true ∧ ((KLoad (fun M => stepF cf n0 a E M) ∧ KHeavy (fun M => stepF cf n0 b E M)) ∨ (KHeavy (fun M => stepF cf n0 a E M) ∧ KLoad (fun M => stepF cf n0 b E M)) ∨ (KLoad (fun M => stepF cf n0 a E M) ∧ KAlloc (fun M => stepF cf n0 b E M)) ∨ (KHeavy (fun M => stepF cf n0 a E M) ∧ KAlloc (fun M => stepF cf n0 b E M)) ∨ (KAlloc (fun M => stepF cf n0 a E M) ∧ KAlloc (fun M => stepF cf n0 b E M)))) := by
    have ka := kind_step (cf := cf) (n0 := n0) (E := E) (o := a)
    have kb := kind_step (cf := cf) (n0 := n0) (E := E) (o := b)
    rcases ka with ka | ⟨ca, ka⟩ | ⟨ca, ka⟩ | ⟨ca, ka⟩
    · exact .inl ka
    all_goals
      rcases kb with kb | ⟨cb, kb⟩ | ⟨cb, kb⟩ | ⟨cb, kb⟩
      · exact .inr (.inl kb)
      all_goals
        simp only [ca, cb, reduceCtorEq, false_and, and_false, or_false, false_or, and_self, or_true, true_or] at s3 hfree <;> first
          | (cases s3; done)
          | exact .inr (.inr (.inl ⟨ka, kb⟩))
          | exact .inr (.inr (.inr ⟨hfree.1, hfree.2, .inl ⟨ka, kb⟩⟩))
          | exact .inr (.inr (.inr ⟨hfree.1, hfree.2, .inr (.inl ⟨ka, kb⟩)⟩))
          | exact .inr (.inr (.inr ⟨hfree.1, hfree.2, .inr (.inr (.inl ⟨ka, kb⟩))⟩))
          | exact .inr (.inr (.inr ⟨hfree.1, hfree.2, .inr (.inr (.inr (.inl ⟨ka, kb⟩)))⟩))
          | exact .inr (.inr (.inr ⟨hfree.1, hfree.2, .inr (.inr (.inr (.inr ⟨ka, kb⟩)))⟩))
  obtain ⟨M1', q1, q2⟩ := swapK (base := base) h1 h2 hbase hK
  refine opsG_cons.2 ⟨vb, M1', q1, opsG_cons.2 ⟨va, M3, by rw [ea]; exact q2, ?_⟩⟩
  rw [← putE_comm (fun x hx => (s1 x hx).2)]
  exact h3

/-- What is free of all that stands before it may stand first. -/
theorem toFront {cf : CallF} {n0 base : Nat} {y : COper × FP} {post : List (COper × FP)} : ∀ {pre : List (COper × FP)} {E E2 : EnvF} {M M2 : Mem}, (∀ x ∈ pre, Free base x.1 x.2 y.1 y.2) → base ≤ M.length →
    opsG cf n0 ((pre ++ y :: post).map (·.1)) E M = some (E2, M2, (pre ++ y :: post).map (·.2)) → opsG cf n0 ((y :: (pre ++ post)).map (·.1)) E M = some (E2, M2, (y :: (pre ++ post)).map (·.2))
  | [], E, E2, M, M2, _, _, h => h
  | x :: pre, E, E2, M, M2, hf, hb, h => by
    simp only [List.cons_append, List.map_cons] at h
    obtain ⟨v, M', h1, h2⟩ := opsG_cons.1 h
    have := toFront (pre := pre) (fun z hz => hf z (List.mem_cons_of_mem _ hz)) (Nat.le_trans hb (step_len h1)) h2
    simp only [List.cons_append, List.map_cons] at this ⊢
    exact swap (hf x (List.mem_cons_self ..)) hb (opsG_cons.2 ⟨v, M', h1, this⟩)

/-! ### What must stand before what -/
def depsAt (ops : Array Oper) (i : Nat) : List Nat := match ops[i]? with
  | some o => depsOf o
  | none => []

theorem testBit_deps {f : Nat → Nat} {a : Nat} : ∀ {l : List Nat} {s : Nat}, (l.foldl (fun s j => s ||| 2 ^ j ||| f j) s).testBit a = true → s.testBit a = true ∨ ∃ d ∈ l, d = a ∨ (f d).testBit a = true
  | [], s, h => .inl h
  | d :: l, s, h => by
    simp only [List.foldl_cons] at h
    rcases testBit_deps h with h | ⟨e, he, h⟩
    · simp only [Nat.testBit_or, Bool.or_eq_true, Nat.testBit_two_pow, decide_eq_true_eq] at h
      rcases h with (h | h) | h
      · exact .inl h
      · exact .inr ⟨d, List.mem_cons_self .., .inl h⟩
      · exact .inr ⟨d, List.mem_cons_self .., .inr h⟩
    · exact .inr ⟨e, List.mem_cons_of_mem _ he, h⟩

theorem befores_len : ∀ {os : List Oper} {acc : List Nat}, (befores os acc).length = acc.length + os.length
  | [], acc => by simp [befores]
  | o :: os, acc => by simp [befores, befores_len]; omega

theorem befores_keep : ∀ {os : List Oper} {acc : List Nat} {i : Nat}, i < acc.length → (befores os acc).getD i 0 = acc.getD i 0
  | [], acc, i, h => rfl
  | o :: os, acc, i, h => by
    simp only [befores]
    rw [befores_keep (by simp; omega)]
    simp [List.getD, List.getElem?_append_left h]

theorem befores_spec : ∀ {os : List Oper} {acc : List Nat} {k : Nat} {o : Oper} {a : Nat}, os[k]? = some o → ((befores os acc).getD (acc.length + k) 0).testBit a = true →
    ∃ d ∈ depsOf o, d = a ∨ (d < acc.length + k ∧ ((befores os acc).getD d 0).testBit a = true)
  | [], acc, k, o, a, ho, h => by simp at ho
  | x :: os, acc, 0, o, a, ho, h => by
    simp only [List.getElem?_cons_zero, Option.some.injEq] at ho
    subst ho
    simp only [befores] at h
    rw [befores_keep (by simp)] at h
    simp only [Nat.add_zero, List.getD, List.getElem?_append_right (Nat.le_refl _), Nat.sub_self, List.getElem?_cons_zero, Option.getD_some] at h
    rcases testBit_deps h with h | ⟨d, hd, h⟩
    · simp at h
    · refine ⟨d, hd, h.imp id fun h => ?_⟩
      have hlt : d < acc.length := by
        rcases Nat.lt_or_ge d acc.length with hl | hl
        · exact hl
        · simp [List.getElem?_eq_none hl] at h
      refine ⟨by omega, ?_⟩
      simp only [befores]
      rw [befores_keep (by simp; omega)]
      simpa [List.getD, List.getElem?_append_left hlt] using h
  | x :: os, acc, k + 1, o, a, ho, h => by
    simp only [List.getElem?_cons_succ] at ho
    simp only [befores] at h ⊢
    have e : acc.length + (k + 1) = (acc ++ [(depsOf x).foldl (fun s j => s ||| 2 ^ j ||| acc.getD j 0) 0]).length + k := by simp; omega
    rw [e] at h
    obtain ⟨d, hd, h'⟩ := befores_spec ho h
    exact ⟨d, hd, h'.imp id fun ⟨q1, q2⟩ => ⟨by rw [e]; exact q1, q2⟩⟩

theorem ancestors {ops : Array Oper} {L : Nat → Prop} (hcl : ∀ i, i < ops.size → L i → ∀ d ∈ depsAt ops i, L d) : ∀ (i : Nat) {a : Nat}, i < ops.size → (∀ d ∈ depsAt ops i, L d) → ((befores ops.toList []).getD i 0).testBit a = true → L a := by
  intro i
  induction i using Nat.strongRecOn with
  | _ i ih =>
    intro a hi hd h
    have ho : ops.toList[i]? = some ops[i] := by simp [hi]
    have hde : depsAt ops i = depsOf ops[i] := by simp [depsAt, hi]
    have := befores_spec (acc := []) ho (by simpa using h)
    obtain ⟨d, hdm, hh⟩ := this
    rw [hde] at hd
    have hLd := hd d hdm
    rcases hh with rfl | ⟨hlt, hb⟩
    · exact hLd
    · simp only [List.length_nil, Nat.zero_add] at hlt
      exact ih d hlt (by omega) (hcl d (by omega) hLd) hb

/-- In this order each stands behind what it must. -/
def Topo (ops : Array Oper) : (Nat → Prop) → List Nat → Prop
  | _, [] => True
  | L, i :: is => (∀ d ∈ depsAt ops i, L d) ∧ Topo ops (fun d => L d ∨ d = i) is

theorem Topo.mono {ops : Array Oper} : ∀ {is : List Nat} {L L' : Nat → Prop}, (∀ d, L d → L' d) → Topo ops L is → Topo ops L' is
  | [], _, _, _, _ => trivial
  | i :: is, L, L', h, ht => ⟨fun d hd => h d (ht.1 d hd), Topo.mono (fun d hd => hd.imp (h d) id) ht.2⟩

theorem Topo.remove {ops : Array Oper} {y : Nat} {B : List Nat} : ∀ {A : List Nat} {L : Nat → Prop}, Topo ops L (A ++ y :: B) → Topo ops (fun d => L d ∨ d = y) (A ++ B)
  | [], L, h => h.2
  | i :: A, L, h => ⟨fun d hd => .inl (h.1 d hd), (Topo.remove (A := A) h.2).mono fun d hd => by
      rcases hd with (hd | hd) | hd
      · exact .inl (.inl hd)
      · exact .inr hd
      · exact .inl (.inr hd)⟩

theorem topoOk_topo {ops : Array Oper} : ∀ {is done : List Nat}, topoOk ops.toList is done = true → Topo ops (fun d => d ∈ done) is
  | [], _, _ => trivial
  | i :: is, done, h => by
    simp only [topoOk, Bool.and_eq_true] at h
    refine ⟨fun d hd => ?_, (topoOk_topo h.2).mono fun d hd => ?_⟩
    · have h1 := h.1
      simp only [depsAt] at hd
      cases ho : ops[i]? with
      | none => rw [ho] at hd; cases hd
      | some o =>
        rw [ho] at hd
        have ho' : ops.toList[i]? = some o := by simpa using ho
        rw [ho'] at h1
        have := List.all_eq_true.1 h1 d hd
        simpa using this
    · rcases List.mem_cons.1 hd with rfl | hd
      · exact .inr rfl
      · exact .inl hd

theorem ready_iff {ops : Array Oper} {listed : Array Bool} {i : Nat} : i ∈ Region.ready .any ops listed ↔ listed.getD i true = false ∧ i < ops.size ∧ ∀ d ∈ depsAt ops i, listed.getD d false = true := by
  rw [mem_ready]
  constructor
  · rintro ⟨h1, o, ho, h2⟩
    refine ⟨h1, (Array.getElem?_eq_some_iff.1 ho).1, fun d hd => ?_⟩
    simp only [depsAt, ho, depsOf, List.mem_map, List.mem_filter] at hd
    obtain ⟨e, ⟨he, hb⟩, rfl⟩ := hd
    exact h2 e (by simpa using he) hb
  · rintro ⟨h1, hi, h2⟩
    refine ⟨h1, ops[i], by simp [hi], fun e he hb => ?_⟩
    refine h2 e.on ?_
    simp only [depsAt, hi, Array.getElem?_eq_getElem, depsOf, List.mem_map, List.mem_filter]
    exact ⟨e, ⟨by simpa using he, hb⟩, rfl⟩

section
variable {own : Nat → Prop} {P : Program} {cf : CallF} {ntmps : Nat} {F : Fence} {n : Nat} {Q : Exit → Act → World → Prop}

theorem any_good (hF : AllIn F) (hcf : FnS P cf) {ops : Array Oper} {n0 base k : Nat} {σ0 : Stab} {j0 : Inj} {M0 : Mem} {w0 : World} {E2 : EnvF} {M2 : Mem} (hk : k ≤ base)
    (hQ : ∀ a' w' σ' j', At own σ' j' E2 M2 ntmps a' w' → Step own k σ0 j0 M0 w0 σ' j' M2 w' → Q .normal a' w') :
    ∀ (fuel : Nat) (listed : Array Bool) (xs : List (COper × FP)) (E : EnvF) (M : Mem) (a : Act) (w : World) (σ : Stab) (j : Inj),
      xs.length = fuel → listed.size = ops.size → (∀ i, i < ops.size → (listed.getD i true = false ↔ i ∈ xs.map (·.1.ix))) → (xs.map (·.1.ix)).Nodup → (∀ x ∈ xs, x.1.ix < ops.size ∧ ∃ m, compileOper P ops.toList m ntmps x.1.ix = some x.1) →
      xs.Pairwise (fun x y => ((befores ops.toList []).getD y.1.ix 0).testBit x.1.ix = true ∨ Free base x.1 x.2 y.1 y.2) →
      (∀ i, i < ops.size → listed.getD i true = true → ∀ d ∈ depsAt ops i, listed.getD d false = true) → Topo ops (fun d => listed.getD d false = true) (xs.map (·.1.ix)) →
      opsG cf n0 (xs.map (·.1)) E M = some (E2, M2, xs.map (·.2)) → base ≤ M.length →
      At own σ j E M ntmps a w → Step own k σ0 j0 M0 w0 σ j M w → wpAnyIn F n P .any ops Q fuel listed a w := by
  intro fuel
  induction fuel with
  | zero =>
    intro listed xs E M a w σ j hlen hsz hx hnd hcomp hpw hcl htopo hrun hbase hat hst
    have hxs : xs = [] := List.eq_nil_of_length_eq_zero hlen
    subst hxs
    simp only [List.map_nil, opsG, Option.some.injEq, Prod.mk.injEq] at hrun
    obtain ⟨rfl, rfl, _⟩ := hrun
    refine ⟨?_, hQ a w σ j hat hst⟩
    apply List.eq_nil_iff_forall_not_mem.2
    intro i hi
    obtain ⟨h1, h2, _⟩ := ready_iff.1 hi
    have := (hx i h2).1 h1
    simp at this
  | succ fuel ih =>
    intro listed xs E M a w σ j hlen hsz hx hnd hcomp hpw hcl htopo hrun hbase hat hst
    refine ⟨fun hnil => ?_, fun i hi => ?_⟩
    · exfalso
      cases xs with
      | nil => simp at hlen
      | cons x xs =>
        have hix := (hcomp x (List.mem_cons_self ..)).1
        have : x.1.ix ∈ Region.ready .any ops listed := ready_iff.2 ⟨(hx _ hix).2 (by simp), hix, htopo.1⟩
        rw [hnil] at this; cases this
    · obtain ⟨h1, h2, h3⟩ := ready_iff.1 hi
      obtain ⟨y, hy, hyi⟩ := List.mem_map.1 ((hx i h2).1 h1)
      obtain ⟨A, B, rfl⟩ := List.append_of_mem hy
      have hfree : ∀ x ∈ A, Free base x.1 x.2 y.1 y.2 := by
        intro x hxA
        have := (List.pairwise_append.1 hpw).2.2 x hxA y (List.mem_cons_self ..)
        refine this.resolve_left fun hb => ?_
        rw [hyi] at hb
        have hL := ancestors (L := fun d => listed.getD d false = true) (fun i hi hl => by
          refine hcl i hi ?_
          rw [show listed.getD i true = listed.getD i false from by simp [Array.getD, hsz, hi]]; exact hl) i h2 h3 hb
        have hxl := (hx x.1.ix (hcomp x (List.mem_append_left _ hxA)).1).2 (List.mem_map.2 ⟨x, List.mem_append_left _ hxA, rfl⟩)
        have hxs := (hcomp x (List.mem_append_left _ hxA)).1
        rw [show listed.getD x.1.ix true = listed.getD x.1.ix false from by simp [Array.getD, hsz, hxs]] at hxl
        rw [hL] at hxl; cases hxl
      have hrun' := toFront hfree hbase hrun
      simp only [List.map_cons] at hrun'
      obtain ⟨v, M', q1, q2⟩ := opsG_cons.1 hrun'
      obtain ⟨_, m, hcm⟩ := hcomp y (List.mem_append_right _ (List.mem_cons_self ..))
      rw [hyi] at hcm
      refine step_good hF hcf hcm q1 hat fun a' w' σ' j' hat' hst' => ?_
      have hMl := step_len q1
      have hperm : ∀ z, z ∈ A ++ B → z ∈ A ++ y :: B := fun z hz => by
        rcases List.mem_append.1 hz with h | h
        · exact List.mem_append_left _ h
        · exact List.mem_append_right _ (List.mem_cons_of_mem _ h)
      have hget : ∀ d b, d ≠ i → (listed.setIfInBounds i true).getD d b = listed.getD d b := fun d b hd => by
        simp only [Array.getD_eq_getD_getElem?]
        rw [Array.getElem?_setIfInBounds_ne (Ne.symm hd)]
      have hgi : ∀ b, (listed.setIfInBounds i true).getD i b = true := fun b => by
        simp only [Array.getD_eq_getD_getElem?]
        rw [Array.getElem?_setIfInBounds_self_of_lt (by rw [hsz]; exact h2)]; rfl
      have hnd' : ((A ++ B).map (·.1.ix)).Nodup ∧ i ∉ (A ++ B).map (·.1.ix) := by
        simp only [List.map_append, List.map_cons] at hnd ⊢
        rw [hyi] at hnd
        have hp := (List.perm_middle (a := i) (l₁ := A.map (·.1.ix)) (l₂ := B.map (·.1.ix))).nodup_iff.1 hnd
        rw [List.nodup_cons] at hp
        exact ⟨hp.2, hp.1⟩
      refine ih (listed.setIfInBounds i true) (A ++ B) _ M' a' w' σ' j' (by simp at hlen ⊢; omega) (by simp [hsz]) (fun d hd => ?_) hnd'.1 (fun z hz => hcomp z (hperm z hz)) ?_ (fun d hd hl e he => ?_) ?_ q2 (Nat.le_trans hbase hMl) hat' ?_
      · by_cases hdi : d = i
        · subst hdi
          rw [hgi]
          exact ⟨fun h => (by cases h), fun h => absurd h hnd'.2⟩
        · rw [hget d true hdi, hx d hd]
          simp only [List.map_append, List.map_cons, List.mem_append, List.mem_cons, hyi, hdi, false_or]
      · exact hpw.sublist (List.Sublist.append (List.Sublist.refl _) (List.sublist_cons_self _ _))
      · have hed : listed.getD e false = true := by
          by_cases hdi : d = i
          · subst hdi; exact h3 e he
          · rw [hget d true hdi] at hl; exact hcl d hd hl e he
        by_cases hei : e = i
        · subst hei; exact hgi false
        · rw [hget e false hei]; exact hed
      · have := Topo.remove (A := A.map (·.1.ix)) (y := i) (B := B.map (·.1.ix)) (by simpa [hyi] using htopo)
        simp only [List.map_append]
        refine this.mono fun d hd => ?_
        rcases hd with hd | rfl
        · by_cases hdi : d = i
          · subst hdi; exact hgi false
          · rw [hget d false hdi]; simpa using hd
        · exact hgi false
      · exact hst.trans (hst'.le (Nat.le_trans hk hbase))

end
end Go.Eng

/- The engine, part X: regions, code, functions. -/
namespace Go.Eng
open Go

theorem nodup_le : ∀ {N : Nat} {l : List Nat}, l.Nodup → (∀ x ∈ l, x < N) → l.length ≤ N
  | 0, l, _, h => by
    cases l with
    | nil => exact Nat.le_refl _
    | cons x xs => exact absurd (h x (List.mem_cons_self ..)) (Nat.not_lt_zero _)
  | N + 1, l, hn, h => by
    by_cases hm : N ∈ l
    · have h1 := nodup_le (N := N) (hn.erase N) (fun x hx => by
        have h2 := (hn.mem_erase_iff).1 hx
        have := h x h2.2
        omega)
      rw [List.length_erase_of_mem hm] at h1
      omega
    · have := nodup_le (N := N) hn (fun x hx => by
        have h1 := h x hx
        have : x ≠ N := by rintro rfl; exact hm hx
        omega)
      omega
theorem all_in {N : Nat} {l : List Nat} (hn : l.Nodup) (h : ∀ x ∈ l, x < N) (hl : l.length = N) {i : Nat} (hi : i < N) : i ∈ l := by
  by_cases hm : i ∈ l
  · exact hm
  · have := nodup_le (N := N) (List.nodup_cons.2 ⟨hm, hn⟩) (fun x hx => by
      rcases List.mem_cons.1 hx with rfl | hx
      · exact hi
      · exact h x hx)
    simp only [List.length_cons] at this
    omega

section
variable {own : Nat → Prop} {P : Program} {cf : CallF} {ntmps : Nat} {F : Fence} {n : Nat} {Q : Exit → Act → World → Prop}

/-! ### A region -/
theorem compileOpers_spec {ops : List Oper} {m : Nat → CMode} : ∀ {is : List Nat} {cs : List COper}, compileOpers P ops m ntmps is = some cs → cs.length = is.length ∧ ∀ (p : Nat) (c : COper), cs[p]? = some c → ∃ i, is[p]? = some i ∧ compileOper P ops (m i) ntmps i = some c
  | [], cs, h => by simp only [compileOpers, Option.some.injEq] at h; subst h; exact ⟨rfl, by simp⟩
  | i :: is, cs, h => by
    simp only [compileOpers] at h
    split at h
    · rename_i c cs' h1 h2
      cases h
      obtain ⟨e1, e2⟩ := compileOpers_spec h2
      refine ⟨by simp [e1], fun p c' hc => ?_⟩
      cases p with
      | zero => simp at hc; subst hc; exact ⟨i, rfl, h1⟩
      | succ p => simpa using e2 p c' (by simpa using hc)
    · cases h

theorem compileOper_ix {ops : Array Oper} {m : CMode} {i : Nat} {c : COper} (h : compileOper P ops.toList m ntmps i = some c) : c.ix = i ∧ i < ops.size := by
  obtain ⟨o, ho, hi, _⟩ := compileOper_spec h
  exact ⟨hi, (Array.getElem?_eq_some_iff.1 ho).1⟩

theorem compileOpers_ix {ops : Array Oper} {m : Nat → CMode} {is : List Nat} {cs : List COper} (h : compileOpers P ops.toList m ntmps is = some cs) : cs.map (·.ix) = is := by
  obtain ⟨e1, e2⟩ := compileOpers_spec h
  apply List.ext_getElem?
  intro p
  rw [List.getElem?_map]
  cases hc : cs[p]? with
  | none =>
    have : is[p]? = none := by rw [List.getElem?_eq_none_iff] at hc ⊢; omega
    rw [this]; rfl
  | some c =>
    obtain ⟨i, hi, hci⟩ := e2 p c hc
    rw [hi]
    simp [(compileOper_ix hci).1]

theorem text_good (hF : AllIn F) (hcf : FnS P cf) {ops : Array Oper} {m : Nat → CMode} {n0 k : Nat} {σ0 : Stab} {j0 : Inj} {M0 : Mem} {w0 : World} {E2 : EnvF} {M2 : Mem}
    (hQ : ∀ a' w' σ' j', At own σ' j' E2 M2 ntmps a' w' → Step own k σ0 j0 M0 w0 σ' j' M2 w' → Q .normal a' w') :
    ∀ {is : List Nat} {cs : List COper} {fs : List FP} {E : EnvF} {M : Mem} {a : Act} {w : World} {σ : Stab} {j : Inj}, compileOpers P ops.toList m ntmps is = some cs → opsG cf n0 cs E M = some (E2, M2, fs) → k ≤ M.length →
      At own σ j E M ntmps a w → Step own k σ0 j0 M0 w0 σ j M w → wpOpsIn F n P ops Q is a w
  | [], cs, fs, E, M, a, w, σ, j, hc, hr, hk, hat, hst => by
    simp only [compileOpers, Option.some.injEq] at hc
    subst hc
    simp only [opsG, Option.some.injEq, Prod.mk.injEq] at hr
    obtain ⟨rfl, rfl, _⟩ := hr
    exact hQ a w σ j hat hst
  | i :: is, cs, fs, E, M, a, w, σ, j, hc, hr, hk, hat, hst => by
    simp only [compileOpers] at hc
    split at hc
    · rename_i c cs' h1 h2
      cases hc
      rw [wpOpsIn_cons]
      cases fs with
      | nil =>
        simp only [opsG] at hr
        split at hr
        · split at hr
          · cases hr
          · cases hr
        · cases hr
      | cons fp fs =>
        obtain ⟨v, M', q1, q2⟩ := opsG_cons.1 hr
        refine step_good hF hcf h1 q1 hat fun a' w' σ' j' hat' hst' => ?_
        exact text_good hF hcf hQ h2 q2 (Nat.le_trans hk (step_len q1)) hat' (hst.trans (hst'.le hk))
    · cases hc

theorem prsFrom_mem {bef : List Nat} {a : COper} {i : Nat} : ∀ {r : List COper} {j p : Nat} {b : COper}, r[p]? = some b → (bef.getD b.ix 0).testBit a.ix = false → ¬ (a.cls = .pure ∨ b.cls = .pure ∨ (a.cls = .load ∧ b.cls = .load)) → (i, j + p) ∈ prsFrom bef a i j r
  | [], j, p, b, h, _, _ => by simp at h
  | x :: r, j, 0, b, h, hb, hk => by
    simp only [List.getElem?_cons_zero, Option.some.injEq] at h
    subst h
    simp only [prsFrom, hb, Bool.false_eq_true, if_false]
    simp only [not_or, not_and] at hk
    obtain ⟨k1, k2, k3⟩ := hk
    cases ha : a.cls <;> cases hx : x.cls <;> simp_all
  | x :: r, j, p + 1, b, h, hb, hk => by
    have := prsFrom_mem (i := i) (r := r) (j := j + 1) (p := p) (by simpa using h) hb hk
    have e : j + (p + 1) = j + 1 + p := by omega
    rw [e]
    simp only [prsFrom]
    split
    · exact this
    · split <;> first | exact this | exact List.mem_cons_of_mem _ this

theorem pairs_of {bef : List Nat} {base : Nat} {fsAll : List FP} : ∀ {cs : List COper} {fs : List FP} {i : Nat}, crossOk bef cs = true → (prsOf bef i cs).all (prOk base fsAll) = true → (∀ p : Nat, fs[p]? = fsAll[i + p]?) →
    (cs.zip fs).Pairwise (fun x y => (bef.getD y.1.ix 0).testBit x.1.ix = true ∨ Free base x.1 x.2 y.1 y.2)
  | [], fs, i, _, _, _ => by simp
  | a :: r, [], i, _, _, _ => by simp
  | a :: r, f :: fr, i, hc, hp, hfs => by
    simp only [crossOk, Bool.and_eq_true] at hc
    simp only [prsOf, List.all_append, Bool.and_eq_true] at hp
    have hfr : ∀ p : Nat, fr[p]? = fsAll[(i + 1) + p]? := fun p => by
      have := hfs (p + 1)
      rw [show i + (p + 1) = i + 1 + p from by omega] at this
      simpa using this
    refine List.pairwise_cons.2 ⟨fun y hy => ?_, pairs_of hc.2 hp.2 hfr⟩
    obtain ⟨p, hp2⟩ := List.getElem?_of_mem hy
    have hp2 : (r.zip fr)[p]? = some y := hp2
    rw [List.getElem?_zip_eq_some] at hp2
    obtain ⟨hb, hfb⟩ := hp2
    cases ht : (bef.getD y.1.ix 0).testBit a.ix with
    | true => exact .inl rfl
    | false =>
      right
      have h1 := List.all_eq_true.1 hc.1 y.1 (List.mem_of_getElem? hb)
      simp only [ht, Bool.false_or] at h1
      refine ⟨h1, ?_⟩
      by_cases hk : (a.cls = .pure ∨ y.1.cls = .pure ∨ (a.cls = .load ∧ y.1.cls = .load))
      · rcases hk with h | h | h
        · exact .inl h
        · exact .inr (.inl h)
        · exact .inr (.inr (.inl h))
      · have hm := prsFrom_mem (i := i) (j := i + 1) hb ht hk
        have := List.all_eq_true.1 hp.1 _ hm
        simp only [prOk] at this
        rw [← hfr p, hfb] at this
        have h0 : fsAll[i]? = some f := by have := hfs 0; simpa using this.symm
        rw [h0] at this
        simp only [Bool.and_eq_true] at this
        exact .inr (.inr (.inr this))

theorem opsG_len {n0 : Nat} : ∀ {os : List COper} {E E2 : EnvF} {M M2 : Mem} {fs : List FP}, opsG cf n0 os E M = some (E2, M2, fs) → fs.length = os.length ∧ M.length ≤ M2.length
  | [], E, E2, M, M2, fs, h => by simp only [opsG, Option.some.injEq, Prod.mk.injEq] at h; obtain ⟨_, rfl, rfl⟩ := h; exact ⟨rfl, Nat.le_refl _⟩
  | o :: os, E, E2, M, M2, fs, h => by
    simp only [opsG] at h
    split at h
    · rename_i v M' fp h1
      split at h
      · rename_i E3 M3 fs3 h2
        cases h
        obtain ⟨e1, e2⟩ := opsG_len h2
        exact ⟨by simp [e1], Nat.le_trans (step_len h1) e2⟩
      · cases h
    · cases h

theorem Step.of_same {k : Nat} {σ : Stab} {j : Inj} {M M' : Mem} {w w' : World} (hM : ∀ (id : Nat) (b : Blk), M[id]? = some (some b) → M'[id]? = some (some b)) (hw : w'.heap = w.heap) (hs : Side w w') : Step own k σ j M w σ j M' w' :=
  ⟨Stab.le_refl _, fun _ _ _ _ h => h, by rw [hw]; exact Nat.le_refl _, fun _ _ _ => by rw [hw], fun _ _ _ h => .inl h, fun id b _ hb => ⟨b, hM id b hb, Nat.le_refl _, fun _ => ⟨rfl, fun _ _ => by rw [hw]⟩⟩, hs⟩

theorem region_good (hF : AllIn F) (hcf : FnS P cf) (hmix : P.follows .mixedOrders = true) {an : Ann} {id : Nat} {ops : Array Oper} {draw : Bool} {nA : Nat} {cs : List COper} {prs : List (Nat × Nat)}
    (hc : compileRegion P an ntmps id ops.toList draw = some (nA, cs, prs)) {E E' : Env} {M M' : Mem} {fs : List FP} (hr : opsF cf M.length cs E (M ++ holes nA) = some (E', M', fs)) (hp : prs.all (prOk (M.length + nA) fs) = true)
    {σ : Stab} {j : Inj} {a : Act} {w : World} (hat : At own σ j E.get M ntmps a w)
    (hQ : ∀ a' w' σ' j', At own σ' j' E'.get M' ntmps a' w' → Step own M.length σ j M w σ' j' M' w' → M.length ≤ M'.length → Q .normal a' w') : (Code.region id ops draw).wpIn F n P Q a w := by
  have hG := opsG_of hr
  obtain ⟨hfl, hlen⟩ := opsG_len hG
  simp only [List.length_append] at hlen
  have hholes : (holes nA).length = nA := by simp [holes]
  have hat1 : ∀ w1 : World, w1.heap = w.heap → At own σ j E.get (M ++ holes nA) ntmps a w1 := fun w1 hw =>
    ⟨hat.env, hat.size, hat.defers, hat.agree.same hw, (hat.mem.holes nA).same hw, fun b hb => hat.own b (by rw [← hw]; exact hb)⟩
  have hst1 : ∀ w1 : World, w1.heap = w.heap → Side w w1 → Step own M.length σ j M w σ j (M ++ holes nA) w1 := fun w1 hw => Step.of_same (fun id b hb => by rw [List.getElem?_append_left (lt_of_get hb)]; exact hb) hw
  have hQ' : ∀ a' w' σ' j', At own σ' j' E'.get M' ntmps a' w' → Step own M.length σ j M w σ' j' M' w' → Q .normal a' w' := fun a' w' σ' j' h1 h2 => hQ a' w' σ' j' h1 h2 (by omega)
  unfold compileRegion at hc
  dsimp only at hc
  cases draw with
  | false =>
    simp only [Bool.false_eq_true, if_false] at hc
    split at hc
    · rename_i cs' hcs
      cases hc
      refine wpIn_region ?_
      have hrange : List.range ops.toList.length = List.range ops.size := by simp
      rw [hrange] at hcs
      exact text_good hF hcf hQ' hcs hG (by simp) (hat1 w rfl) (hst1 w rfl (Side.refl _))
    · cases hc
  | true =>
    simp only [if_true] at hc
    split at hc
    · rename_i cs' hcs
      split at hc
      · rename_i hok
        cases hc
        simp only [Bool.and_eq_true, decide_eq_true_eq] at hok
        obtain ⟨⟨⟨o1, o2⟩, o3⟩, o4⟩ := hok
        refine wpIn_region_any hmix ?_
        obtain ⟨l1, l2⟩ := compileOpers_spec hcs
        have hix := compileOpers_ix hcs
        have hzl : (cs.zip fs).map (·.1) = cs := by rw [List.map_fst_zip]; omega
        have hzr : (cs.zip fs).map (·.2) = fs := by rw [List.map_snd_zip]; omega
        have hzi : (cs.zip fs).map (·.1.ix) = schedule ops.toList ops.toList.length [] := by
          have : (cs.zip fs).map (·.1.ix) = ((cs.zip fs).map (·.1)).map (·.ix) := by rw [List.map_map]; rfl
          rw [this, hzl, hix]
        have hnd := nodupB_nodup o2
        have hmem : ∀ c ∈ cs, ∃ i, i ∈ schedule ops.toList ops.toList.length [] ∧ compileOper P ops.toList (an.mode id i) ntmps i = some c := fun c hcm => by
          obtain ⟨p, hp⟩ := List.getElem?_of_mem hcm
          obtain ⟨i, hi, hci⟩ := l2 p c hp
          exact ⟨i, List.mem_of_getElem? hi, hci⟩
        -- the order holds every index
        have hall : ∀ i, i < ops.size → i ∈ schedule ops.toList ops.toList.length [] := by
          have hsub : ∀ i ∈ schedule ops.toList ops.toList.length [], i < ops.size := by
            intro i hi
            rw [← hix] at hi
            obtain ⟨c, hcm, rfl⟩ := List.mem_map.1 hi
            obtain ⟨i', _, hci⟩ := hmem c hcm
            rw [(compileOper_ix hci).1]; exact (compileOper_ix hci).2
          intro i hi
          exact all_in hnd hsub (by rw [o1]; simp) hi
        refine any_good hF hcf (base := M.length + allocsBefore ops.toList ops.toList.length) (by omega) hQ' ops.size (Array.replicate ops.size false) (cs.zip fs) E.get _ a _ σ j ?_ (by simp) (fun i hi => ?_) (by rw [hzi]; exact hnd) (fun x hx => ?_) (pairs_of o4 hp (fun p => by simp)) (fun i hi h => ?_) ?_ (by rw [hzl, hzr]; exact hG) (by simp [holes]) (hat1 _ rfl) (hst1 _ rfl ⟨rfl, rfl, fun _ h => h⟩)
        · simp only [List.length_zip, hfl, Nat.min_self]; rw [l1, o1]; simp
        · rw [hzi]
          have := hall i hi
          simp only [Array.length_toList] at this ⊢
          simp [Array.getD, hi, this]
        · have hxm : x.1 ∈ cs := by rw [← hzl]; exact List.mem_map.2 ⟨x, hx, rfl⟩
          obtain ⟨i, _, hci⟩ := hmem _ hxm
          have := compileOper_ix hci
          exact ⟨by rw [this.1]; exact this.2, _, by rw [this.1]; exact hci⟩
        · simp [Array.getD, hi] at h
        · rw [hzi]
          exact (topoOk_topo o3).mono fun d hd => by cases hd
      · cases hc
    · cases hc

end
end Go.Eng

/- The engine, part Y: code. -/
namespace Go.Eng
open Go

/-- The compiled code is of this code, whatever it keeps. -/
def CodeOK (P : Program) (an : Ann) (ntmps : Nat) : Code → CC → Prop
  | .skip, .skip => True
  | .region id ops draw, .region nA cs prs _ => compileRegion P an ntmps id ops.toList draw = some (nA, cs, prs)
  | .seq a b, .seq a' b' => CodeOK P an ntmps a a' ∧ CodeOK P an ntmps b b'
  | .cond c a b, .cond c' a' b' => opdOf c = some c' ∧ CodeOK P an ntmps a a' ∧ CodeOK P an ntmps b b'
  | .block id b, .block id' b' => id = id' ∧ CodeOK P an ntmps b b'
  | .loop b, .loop _ b' => CodeOK P an ntmps b b'
  | .exit id, .exit id' => id = id'
  | .ret, .ret => True
  | .label _, .skip => True
  | _, _ => False

theorem compileC_ok {P : Program} {an : Ann} {ntmps : Nat} : ∀ {c : Code} {cc : CC}, compileC P an ntmps c = some cc → CodeOK P an ntmps c cc
  | .skip, cc, h => by simp only [compileC, Option.some.injEq] at h; subst h; trivial
  | .region id ops draw, cc, h => by
    simp only [compileC] at h
    split at h
    · rename_i h1; cases h; exact h1
    · cases h
  | .seq a b, cc, h => by
    simp only [compileC] at h
    split at h
    · rename_i a' b' h1 h2; cases h; exact ⟨compileC_ok h1, compileC_ok h2⟩
    · cases h
  | .cond c a b, cc, h => by
    simp only [compileC] at h
    split at h
    · rename_i c' a' b' h0 h1 h2; cases h; exact ⟨h0, compileC_ok h1, compileC_ok h2⟩
    · cases h
  | .block id b, cc, h => by
    simp only [compileC, Option.map_eq_some_iff] at h
    obtain ⟨b', h1, rfl⟩ := h
    exact ⟨rfl, compileC_ok h1⟩
  | .loop b, cc, h => by
    simp only [compileC, Option.map_eq_some_iff] at h
    obtain ⟨b', h1, rfl⟩ := h
    have := compileC_ok h1
    exact this
  | .exit id, cc, h => by simp only [compileC, Option.some.injEq] at h; subst h; exact rfl
  | .ret, cc, h => by simp only [compileC, Option.some.injEq] at h; subst h; trivial
  | .label l, cc, h => by simp only [compileC, Option.some.injEq] at h; subst h; trivial
  | .goto l, cc, h => by simp [compileC] at h
  | .scope b, cc, h => by simp [compileC] at h
  | .rangeFunc f p a b, cc, h => by simp [compileC] at h

theorem annot_ok {P : Program} {an : Ann} {ntmps : Nat} : ∀ {c : Code} {cc : CC} {l : List Nat} {ex : List (Nat × List Nat)} {rt : List Nat}, CodeOK P an ntmps c cc → CodeOK P an ntmps c (annot cc l ex rt)
  | c, .skip, l, ex, rt, h => by simpa only [annot] using h
  | c, .region nA cs prs k, l, ex, rt, h => by cases c <;> simp only [CodeOK, annot] at h ⊢; exact h
  | c, .seq a b, l, ex, rt, h => by cases c <;> simp only [CodeOK, annot] at h ⊢; exact ⟨annot_ok h.1, annot_ok h.2⟩
  | c, .cond x a b, l, ex, rt, h => by cases c <;> simp only [CodeOK, annot] at h ⊢; exact ⟨h.1, annot_ok h.2.1, annot_ok h.2.2⟩
  | c, .block i b, l, ex, rt, h => by cases c <;> simp only [CodeOK, annot] at h ⊢; exact ⟨h.1, annot_ok h.2⟩
  | c, .loop k b, l, ex, rt, h => by cases c <;> simp only [CodeOK, annot] at h ⊢; exact annot_ok h
  | c, .exit i, l, ex, rt, h => by simpa only [annot] using h
  | c, .ret, l, ex, rt, h => by simpa only [annot] using h

/-! ### What is kept and what is dropped -/
theorem keep_get {E : Env} {n : Nat} {v : AV} : ∀ {l : List Nat}, (E.keep l).get n = some v → E.get n = some v
  | [], h => by simp [Env.keep, Env.get] at h
  | m :: l, h => by
    simp only [Env.keep] at h
    split at h
    · rename_i x hu
      simp only [Env.get] at h
      split at h
      · rename_i hmn; cases h; subst hmn; exact hu
      · exact keep_get h
    · exact keep_get h
theorem kept_get {E : Env} {n : Nat} {v : AV} {k : Option (List Nat)} (h : (E.kept k).get n = some v) : E.get n = some v := by
  cases k with
  | none => exact h
  | some l => exact keep_get h
theorem get_mem {E : Env} {n : Nat} {v : AV} (h : E.get n = some v) : (n, v) ∈ E := by
  induction E with
  | nil => simp [Env.get] at h
  | cons x E ih =>
    obtain ⟨m, y⟩ := x
    simp only [Env.get] at h
    split at h
    · rename_i hmn; cases h; subst hmn; exact List.mem_cons_self ..
    · exact List.mem_cons_of_mem _ (ih h)

section
variable {own : Nat → Prop} {P : Program} {cf : CallF} {ntmps : Nat} {F : Fence} {n : Nat} {Q : Exit → Act → World → Prop} {σ : Stab} {j : Inj} {M : Mem} {a : Act} {w : World}

theorem At.sub {E E' : EnvF} (h : At own σ j E M ntmps a w) (hs : ∀ n v, E' n = some v → E n = some v) : At own σ j E' M ntmps a w :=
  ⟨fun n x hx => h.env n x (hs n x hx), h.size, h.defers, h.agree, h.mem, h.own⟩

def cutJ (k : Nat) (j : Inj) : Inj := fun id g => if id < k then j id g else none

theorem drop0_good {E : Env} {k : Nat} (h : At own σ j E.get M ntmps a w) (hk : k ≤ M.length) : ∃ j', At own σ j' E.get (drop0 k E M) ntmps a w ∧ Step own k σ j M w σ j' (drop0 k E M) w ∧ k ≤ (drop0 k E M).length := by
  unfold drop0
  split
  · exact ⟨j, h, Step.refl, hk⟩
  · split
    · rename_i hb
      simp only [Bool.and_eq_true] at hb
      let ρ : Nat → Option Nat := fun id => if id < k then some id else none
      have hkb : KeepsBelow ρ k := fun id hid => by simp [ρ, hid]
      have hren : RenOK ρ j (cutJ k j) := by
        intro id id' g pl h1 h2
        simp only [ρ] at h1
        split at h1
        · rename_i hid; cases h1; simp [cutJ, hid, h2]
        · cases h1
      have get : ∀ (id : Nat) (b : Blk), (M.take k)[id]? = some (some b) → id < k ∧ M[id]? = some (some b) := by
        intro id b hb
        rw [List.getElem?_take] at hb
        split at hb
        · rename_i hid; exact ⟨hid, hb⟩
        · cases hb
      have put : ∀ (id : Nat) (b : Blk), id < k → M[id]? = some (some b) → (M.take k)[id]? = some (some b) := by
        intro id b hid hb; rw [List.getElem?_take, if_pos hid]; exact hb
      have cutk : ∀ id g, id < k → cutJ k j id g = j id g := fun id g hid => by simp [cutJ, hid]
      refine ⟨cutJ k j, ⟨fun m x hx => ?_, h.size, h.defers, h.agree, ⟨fun id b hb' => ?_, fun id id' b b' L L' hb1 hb2 hL hL' he => ?_, fun id g pl hj => ?_⟩, h.own⟩, ?_, by simp; omega⟩
      · obtain ⟨v, hv, hr⟩ := h.env m x hx
        refine ⟨v, hv, renA_sound hren (renA_below hkb ?_) hr⟩
        have := List.all_eq_true.1 hb.1 _ (get_mem hx)
        exact this
      · obtain ⟨hid, hb1⟩ := get id b hb'
        obtain ⟨pl, h1, h2, h3⟩ := h.mem.blk id b hb1
        refine ⟨pl, by rw [cutk _ _ hid]; exact h1, renB_sound hren (renB_below hkb ?_) h2, h3⟩
        have := hb.2
        simp only [memBelow, List.all_eq_true] at this
        exact this (some b) (List.mem_of_getElem? hb')
      · obtain ⟨hid, hb1⟩ := get id b hb1
        obtain ⟨hid', hb2⟩ := get id' b' hb2
        rw [cutk _ _ hid] at hL
        rw [cutk _ _ hid'] at hL'
        exact h.mem.inj id id' b b' L L' hb1 hb2 hL hL' he
      · simp only [cutJ] at hj
        split at hj
        · rename_i hid
          obtain ⟨b, hb1, hg⟩ := h.mem.dom id g pl hj
          exact ⟨b, put id b hid hb1, hg⟩
        · cases hj
      · exact ⟨Stab.le_refl _, fun id g pl hid hj => by rw [cutk _ _ hid]; exact hj, Nat.le_refl _, fun _ _ _ => rfl, fun _ _ _ h => .inl h, fun id b hid hb1 => ⟨b, put id b hid hb1, Nat.le_refl _, fun _ => ⟨rfl, fun _ _ => rfl⟩⟩, Side.refl _⟩
    · exact ⟨j, h, Step.refl, hk⟩

theorem canon_good {E : Env} {k : Nat} {live : Option (List Nat)} (h : At own σ j E.get M ntmps a w) (hk : k ≤ M.length) :
    ∃ j', At own σ j' (canon k live E M).1.get (canon k live E M).2 ntmps a w ∧ Step own k σ j M w σ j' (canon k live E M).2 w ∧ k ≤ (canon k live E M).2.length := by
  cases live with
  | none => exact ⟨j, h, Step.refl, hk⟩
  | some l => exact drop0_good (E := E.keep l) (h.sub fun n v hv => keep_get hv) hk

/-! ### Code -/
def exitOf : EX → Exit
  | .normal => .normal
  | .exit id => .exit id
  | .ret => .ret

def Post (own : Nat → Prop) (k : Nat) (σ : Stab) (j : Inj) (M : Mem) (w : World) (ntmps : Nat) (ex : EX) (E' : Env) (M' : Mem) : Exit → Act → World → Prop :=
  fun e a' w' => e = exitOf ex ∧ ∃ σ' j', At own σ' j' E'.get M' ntmps a' w' ∧ Step own k σ j M w σ' j' M' w' ∧ k ≤ M'.length

theorem least {p : Nat → Prop} (h : ∃ n, p n) : ∃ n, p n ∧ ∀ m, p m → n ≤ m := by
  obtain ⟨n, hn⟩ := h
  induction n using Nat.strongRecOn with
  | _ n ih =>
    by_cases hx : ∃ m, m < n ∧ p m
    · obtain ⟨m, hm, hp⟩ := hx
      exact ih m hm hp
    · exact ⟨n, hn, fun m hm => by
        rcases Nat.lt_or_ge m n with h | h
        · exact absurd ⟨m, h, hm⟩ hx
        · exact h⟩

open Classical in
noncomputable def leastOf (p : Nat → Prop) : Nat := if h : ∃ n, p n then (least h).choose else 0
theorem leastOf_spec {p : Nat → Prop} {n : Nat} (h : p n) : p (leastOf p) ∧ leastOf p ≤ n := by
  have hx : ∃ n, p n := ⟨n, h⟩
  unfold leastOf
  rw [dif_pos hx]
  exact ⟨(least hx).choose_spec.1, (least hx).choose_spec.2 n h⟩

theorem wpIn_loop_fuel {c : Code} (J : Nat → Act → World → Prop) {m : Nat} (h : J m a w)
    (round : ∀ m a w, J m a w → ∃ m', m = m' + 1 ∧ c.wpIn F n P (Exit.then (J m') Q) a w) : (Code.loop c).wpIn F n P Q a w := by
  refine wpIn_loop (fun a w => ∃ m, J m a w) (fun a w => leastOf fun m => J m a w) ⟨m, h⟩ ?_
  rintro a w ⟨m, hm⟩
  obtain ⟨h1, _⟩ := leastOf_spec (p := fun m => J m a w) hm
  obtain ⟨m', he, hw⟩ := round _ a w h1
  refine wpIn_mono hw fun e a' w' hq => ?_
  cases e with
  | normal =>
    refine ⟨⟨m', hq⟩, ?_⟩
    have := (leastOf_spec (p := fun m => J m a' w') hq).2
    omega
  | _ => exact hq

theorem exec_good (hF : AllIn F) (hcf : FnS P cf) (hmix : P.follows .mixedOrders = true) {an : Ann} : ∀ {c : Code} {cc : CC} {fuel : Nat} {E E' : Env} {M M' : Mem} {ex : EX} {σ : Stab} {j : Inj} {a : Act} {w : World}, CodeOK P an ntmps c cc →
    execC cf fuel cc E M = some (ex, E', M') → At own σ j E.get M ntmps a w → c.wpIn F n P (Post own M.length σ j M w ntmps ex E' M') a w
  | .skip, cc, fuel, E, E', M, M', ex, σ, j, a, w, hc, hx, hat => by
    cases cc <;> simp only [CodeOK] at hc
    simp only [execC, Option.some.injEq, Prod.mk.injEq] at hx
    obtain ⟨rfl, rfl, rfl⟩ := hx
    exact wpIn_skip ⟨rfl, σ, j, hat, Step.refl, Nat.le_refl _⟩
  | .region id ops draw, cc, fuel, E, E', M, M', ex, σ, j, a, w, hc, hx, hat => by
    cases cc <;> simp only [CodeOK] at hc
    rename_i nA cs prs keep
    simp only [execC] at hx
    split at hx
    · rename_i E1 M1 fs hr
      split at hx
      · rename_i hp
        simp only [Option.some.injEq, Prod.mk.injEq] at hx
        obtain ⟨rfl, rfl, rfl⟩ := hx
        refine region_good hF hcf hmix hc hr hp hat fun a' w' σ' j' h1 h2 h3 => ⟨rfl, σ', j', h1.sub fun n v hv => kept_get hv, h2, h3⟩
      · cases hx
    · cases hx
  | .seq x y, cc, fuel, E, E', M, M', ex, σ, j, a, w, hc, hx, hat => by
    cases cc <;> simp only [CodeOK] at hc
    rename_i x' y'
    simp only [execC] at hx
    refine wpIn_seq ?_
    split at hx
    · rename_i E1 M1 h1
      refine wpIn_mono (exec_good hF hcf hmix hc.1 h1 hat) fun e a1 w1 hq => ?_
      obtain ⟨rfl, σ1, j1, hat1, hst1, hk1⟩ := hq
      refine wpIn_mono (exec_good hF hcf hmix hc.2 hx hat1) fun e a2 w2 hq => ?_
      obtain ⟨rfl, σ2, j2, hat2, hst2, hk2⟩ := hq
      exact ⟨rfl, σ2, j2, hat2, hst1.trans (hst2.le hk1), Nat.le_trans hk1 hk2⟩
    · rename_i hne
      refine wpIn_mono (exec_good hF hcf hmix hc.1 hx hat) fun e a1 w1 hq => ?_
      obtain ⟨rfl, hq⟩ := hq
      cases ex with
      | normal => exact absurd hx (by intro h; exact hne _ _ h)
      | exit i => exact ⟨rfl, hq⟩
      | ret => exact ⟨rfl, hq⟩
  | .cond c x y, cc, fuel, E, E', M, M', ex, σ, j, a, w, hc, hx, hat => by
    cases cc <;> simp only [CodeOK] at hc
    obtain ⟨hco, hca, hcb⟩ := hc
    simp only [execC] at hx
    split at hx
    · rename_i t ht
      have hv : VC σ j (.bool t) (a.eval c) := opd_sound hat.env hco ht
      have he : a.eval c = .bool t := by
        generalize a.eval c = v at hv
        cases hv; rfl
      refine wpIn_cond he ?_
      cases t with
      | true => simp only [if_true] at hx ⊢; exact exec_good hF hcf hmix hca hx hat
      | false => simp only [Bool.false_eq_true, if_false] at hx ⊢; exact exec_good hF hcf hmix hcb hx hat
    · cases hx
  | .block id b, cc, fuel, E, E', M, M', ex, σ, j, a, w, hc, hx, hat => by
    cases cc <;> simp only [CodeOK] at hc
    rename_i id' b'
    obtain ⟨rfl, hc⟩ := hc
    simp only [execC] at hx
    refine wpIn_block ?_
    split at hx
    · rename_i i1 E1 M1 h1
      refine wpIn_mono (exec_good hF hcf hmix hc h1 hat) fun e a1 w1 hq => ?_
      obtain ⟨rfl, hq⟩ := hq
      split at hx
      · rename_i hid
        simp only [Option.some.injEq, Prod.mk.injEq] at hx
        obtain ⟨rfl, rfl, rfl⟩ := hx
        simp only [exitOf, Exit.inBlock, hid, if_true]
        exact ⟨rfl, hq⟩
      · rename_i hid
        simp only [Option.some.injEq, Prod.mk.injEq] at hx
        obtain ⟨rfl, rfl, rfl⟩ := hx
        simp only [exitOf, Exit.inBlock, hid, if_false]
        exact ⟨rfl, hq⟩
    · rename_i hne
      refine wpIn_mono (exec_good hF hcf hmix hc hx hat) fun e a1 w1 hq => ?_
      obtain ⟨rfl, hq⟩ := hq
      cases ex with
      | exit i => exact absurd hx (by intro h; exact hne _ _ _ h)
      | normal => exact ⟨rfl, hq⟩
      | ret => exact ⟨rfl, hq⟩
  | .loop b, cc, fuel, E, E', M, M', ex, σ, j, a, w, hc, hx, hat => by
    cases cc <;> simp only [CodeOK] at hc
    rename_i live b'
    simp only [execC] at hx
    obtain ⟨j0, hat0, hst0, hk0⟩ := canon_good (live := live) hat (Nat.le_refl _)
    refine wpIn_loop_fuel (fun m a1 w1 => ∃ E1 M1 σ1 j1, iter (execC cf fuel b') live M.length m E1 M1 = some (ex, E', M') ∧ At own σ1 j1 E1.get M1 ntmps a1 w1 ∧ Step own M.length σ j M w σ1 j1 M1 w1 ∧ M.length ≤ M1.length)
      (m := fuel) ⟨_, _, σ, j0, hx, hat0, hst0, hk0⟩ ?_
    rintro m a1 w1 ⟨E1, M1, σ1, j1, hit, hat1, hst1, hk1⟩
    cases m with
    | zero => simp [iter] at hit
    | succ m =>
      refine ⟨m, rfl, ?_⟩
      simp only [iter] at hit
      split at hit
      · rename_i E2 M2 h2
        refine wpIn_mono (exec_good hF hcf hmix hc h2 hat1) fun e a2 w2 hq => ?_
        obtain ⟨rfl, σ2, j2, hat2, hst2, hk2⟩ := hq
        obtain ⟨j3, hat3, hst3, hk3⟩ := canon_good (live := live) hat2 (Nat.le_trans hk1 hk2)
        exact ⟨_, _, σ2, j3, hit, hat3, (hst1.trans (hst2.le hk1)).trans hst3, hk3⟩
      · rename_i hne
        refine wpIn_mono (exec_good hF hcf hmix hc hit hat1) fun e a2 w2 hq => ?_
        obtain ⟨rfl, σ2, j2, hat2, hst2, hk2⟩ := hq
        have : Post own M.length σ j M w ntmps ex E' M' (exitOf ex) a2 w2 := ⟨rfl, σ2, j2, hat2, hst1.trans (hst2.le hk1), Nat.le_trans hk1 hk2⟩
        cases ex with
        | normal => exact absurd hit (by intro h; exact hne _ _ h)
        | exit i => exact this
        | ret => exact this
  | .exit id, cc, fuel, E, E', M, M', ex, σ, j, a, w, hc, hx, hat => by
    cases cc <;> simp only [CodeOK] at hc
    subst hc
    simp only [execC, Option.some.injEq, Prod.mk.injEq] at hx
    obtain ⟨rfl, rfl, rfl⟩ := hx
    exact wpIn_exit ⟨rfl, σ, j, hat, Step.refl, Nat.le_refl _⟩
  | .ret, cc, fuel, E, E', M, M', ex, σ, j, a, w, hc, hx, hat => by
    cases cc <;> simp only [CodeOK] at hc
    simp only [execC, Option.some.injEq, Prod.mk.injEq] at hx
    obtain ⟨rfl, rfl, rfl⟩ := hx
    exact wpIn_ret ⟨rfl, σ, j, hat, Step.refl, Nat.le_refl _⟩
  | .label l, cc, fuel, E, E', M, M', ex, σ, j, a, w, hc, hx, hat => by
    cases cc <;> simp only [CodeOK] at hc
    simp only [execC, Option.some.injEq, Prod.mk.injEq] at hx
    obtain ⟨rfl, rfl, rfl⟩ := hx
    exact wpIn_label ⟨rfl, σ, j, hat, Step.refl, Nat.le_refl _⟩
  | .goto l, cc, fuel, E, E', M, M', ex, σ, j, a, w, hc, hx, hat => by cases cc <;> simp only [CodeOK] at hc
  | .scope b, cc, fuel, E, E', M, M', ex, σ, j, a, w, hc, hx, hat => by cases cc <;> simp only [CodeOK] at hc
  | .rangeFunc f p x b, cc, fuel, E, E', M, M', ex, σ, j, a, w, hc, hx, hat => by cases cc <;> simp only [CodeOK] at hc

end
end Go.Eng

/- The engine, part Z: functions. -/
namespace Go.Eng
open Go

section
variable {own : Nat → Prop} {P : Program} {cf : CallF} {ntmps : Nat} {σ : Stab} {j : Inj} {M : Mem} {a : Act} {w : World}

theorem load_same {t : TypeId} {agg : Bool} {size : Nat} {p : Cl} {v : Value} {av : AV} {M' : Mem} {fp : FP} (hg : isAggT P t = some agg) (hs : sizeT P t = some size)
    (h : loadOp M agg (if agg then size else 1) p = some (av, M', fp)) (hv : VC σ j p v) (hag : Agree σ w) (hm : MR own σ j M w) :
    ∃ ad u, v = .pointer (some ad) ∧ (loadVar t ad).run P w = .ok u w ∧ AVR σ j av u := by
  unfold loadOp at h
  split at h
  · rename_i id g i k
    cases hv with
    | ptr _ _ _ _ _ L hL =>
      split at h
      · rename_i b hb0
        obtain ⟨hb, hgen⟩ := look_some hb0
        subst hgen
        split at h
        · rename_i row hrow
          split at h
          · rename_i cs hcs
            obtain ⟨hl, hk, hget⟩ := cut_get hcs
            simp only [Option.map_eq_some_iff] at h
            obtain ⟨x, hx, he⟩ := h
            cases he
            obtain ⟨vs, hvs, hcell⟩ := choose_cells (σ := σ) (j := j) (cs := cs) (f := fun m => w.cell? ⟨L.blk, L.off + i * L.esz + k + m, none⟩) (fun m c hc => by
              obtain ⟨v, h1, h2, _⟩ := hm.cell hb hL hrow (hget m c hc)
              exact ⟨v, by rw [← h1, Nat.add_assoc], h2⟩)
            exact ⟨_, _, rfl, run_loadVar_cells (P := P) (w := w) hg hs hl hvs hx hcell, WVR.of_cells vs hvs hx⟩
          · cases h
        · cases h
      · cases h
  · rename_i row k
    cases hv with
    | rptr _ _ _ b o val h1 h2 =>
      split at h
      · rename_i cs hcs
        obtain ⟨hl, hk, hget⟩ := cut_get hcs
        simp only [Option.map_eq_some_iff] at h
        obtain ⟨x, hx, he⟩ := h
        cases he
        obtain ⟨vs, hvs, hcell⟩ := choose_cells (σ := σ) (j := j) (cs := cs) (f := fun m => w.cell? ⟨b, o + k + m, none⟩) (fun m c hc => by
          refine ⟨val (k + m), ?_, VC.of_noInj (h2 _ _ (hget m c hc))⟩
          rw [Nat.add_assoc]; exact hag _ _ _ (h1 _ _ (hget m c hc)))
        exact ⟨_, _, rfl, run_loadVar_cells (P := P) (w := w) hg hs hl hvs hx hcell, WVR.of_cells vs hvs hx⟩
      · cases h
  · cases h

/-- One result. -/
def result1 (tmps : Array Value) : ResultVar → Sem Value
  | .tmp t => pure (tmps.getD t undef)
  | .cell a t => do loadVar t (← asAddr (tmps.getD a undef))

theorem resOne_good {E : Env} {r : ResultVar} {rc : RC} {x : WV} (hrc : resC P r = some rc) (hx : resOne E M rc = some x) (hat : At own σ j E.get M ntmps a w) :
    ∃ v, (result1 a.tmps r).run P w = .ok v w ∧ WVR σ j x v := by
  have slot : ∀ {t : Nat} {y : AV}, E.get t = some y → ∃ v, a.tmps.getD t undef = v ∧ AVR σ j y v := by
    intro t y hy
    obtain ⟨v, hv, hr⟩ := hat.env t y hy
    exact ⟨v, by rw [Array.getD_eq_getD_getElem?, hv]; rfl, hr⟩
  cases r with
  | tmp t =>
    simp only [resC, Option.some.injEq] at hrc
    subst hrc
    simp only [resOne] at hx
    split at hx
    · rename_i y hy
      cases hx
      obtain ⟨v, hv, hr⟩ := slot hy
      exact ⟨v, by simp [result1, hv], hr⟩
    · cases hx
  | cell p t =>
    simp only [resC] at hrc
    split at hrc
    · rename_i g sz hg hs
      cases hrc
      simp only [resOne] at hx
      split at hx
      · rename_i pc hy
        split at hx
        · rename_i y M1 fp hl
          cases hx
          obtain ⟨v, hv, hr⟩ := slot hy
          obtain ⟨ad, u, rfl, hrun, hu⟩ := load_same (P := P) hg hs hl hr hat.agree hat.mem
          exact ⟨u, by simp [result1, hv, asAddr, hrun], hu⟩
        · cases hx
      · cases hx
    · cases hrc

theorem resAll_good {E : Env} (hat : At own σ j E.get M ntmps a w) : ∀ {rs : List ResultVar} {rcs : List RC} {xs : List WV}, resCs P rs = some rcs → resAll E M rcs = some xs →
    ∃ vs, (rs.mapM (result1 a.tmps) : Sem (List Value)).run P w = .ok vs w ∧ WVRs σ j xs vs
  | [], rcs, xs, h, hx => by
    simp only [resCs, Option.some.injEq] at h
    subst h
    simp only [resAll, Option.some.injEq] at hx
    subst hx
    exact ⟨[], by simp, WVRs.nil⟩
  | r :: rs, rcs, xs, h, hx => by
    simp only [resCs] at h
    split at h
    · rename_i c cs h1 h2
      cases h
      simp only [resAll] at hx
      split at hx
      · rename_i y ys q1 q2
        cases hx
        obtain ⟨v, hv, hr⟩ := resOne_good h1 q1 hat
        obtain ⟨vs, hvs, hrs⟩ := resAll_good hat h2 q2
        exact ⟨v :: vs, by simp [List.mapM_cons, hv, hvs], WVRs.cons hr hrs⟩
      · cases hx
    · cases h

theorem results_good {E : Env} {fn : Func} {rcs : List RC} {r : AV} (hat : At own σ j E.get M ntmps a w) (hrc : resCs P fn.results.toList = some rcs) (hr : resOf E M rcs = some r) :
    ∃ v, (results fn a.tmps).run P w = .ok v w ∧ AVR σ j r v := by
  unfold resOf at hr
  have key : ∀ xs, resAll E M rcs = some xs → ∃ vs : List Value, (results fn a.tmps).run P w = .ok (if h : vs.toArray.size = 1 then vs.toArray[0] else .tuple vs.toArray) w ∧ WVRs σ j xs vs := by
    intro xs hxs
    obtain ⟨vs, hvs, hrs⟩ := resAll_good hat hrc hxs
    refine ⟨vs, ?_, hrs⟩
    have hm : (fn.results.mapM (result1 a.tmps) : Sem (Array Value)).run P w = .ok vs.toArray w := by
      rw [Array.mapM_eq_mapM_toList]
      simp [hvs]
    show (do let vs ← fn.results.mapM (result1 a.tmps); pure (if h : vs.size = 1 then vs[0] else .tuple vs) : Sem Value).run P w = _
    simp [hm]
  split at hr
  · rename_i v hv
    cases hr
    obtain ⟨vs, h1, h2⟩ := key _ hv
    obtain ⟨u, us, rfl, hu, hus⟩ := h2.uncons
    have := hus.unnil; subst this
    exact ⟨u, by simpa using h1, hu⟩
  · rename_i vs' hne hv
    cases hr
    obtain ⟨vs, h1, h2⟩ := key _ hv
    have hn : vs.toArray.size ≠ 1 := by
      intro h
      have hl := h2.1
      match vs', hl with
      | [], hl => simp at hl h; omega
      | [x], hl => exact hne x rfl
      | x :: y :: zs, hl => simp at hl h; omega
    rw [dif_neg hn] at h1
    exact ⟨_, h1, vs.toArray, rfl, by simpa using h2⟩
  · cases hr

theorem args_good : ∀ {args : List WV} {vs : List Value} {tmps : Array Value} {i : Nat}, WVRs σ j args vs → (∀ (k : Nat) (v : Value), vs[k]? = some v → tmps[i + k]? = some v) → EnvR σ j (args0 i args).get tmps
  | [], vs, tmps, i, h, ht => fun n x hx => by simp [args0, Env.get] at hx
  | x :: args, vs, tmps, i, h, ht => by
    obtain ⟨v, vs', rfl, hv, hs⟩ := h.uncons
    intro n y hy
    simp only [args0, Env.get] at hy
    split at hy
    · rename_i hin
      cases hy
      subst hin
      exact ⟨v, by simpa using ht 0 v rfl, hv⟩
    · exact args_good (i := i + 1) hs (fun k u hk => by
        have := ht (k + 1) u (by simpa using hk)
        rwa [show i + (k + 1) = i + 1 + k from by omega] at this) n y hy

/-- A compiled function is of this function. -/
def FnOK (P : Program) (f : FuncId) (c : CFn) : Prop := ∃ fn body an, P.funcs[f]? = some fn ∧ fn.body = some body ∧ (fn.name == "runtime.NumGoroutine") = false ∧ c.nargs ≤ fn.ntmps ∧ CodeOK P an fn.ntmps body c.code ∧ resCs P fn.results.toList = some c.res

theorem compileFn_ok {an : Ann} {b : Bool} {f : FuncId} {c : CFn} (h : compileFn P an b f = some c) : FnOK P f c := by
  unfold compileFn at h
  split at h
  · rename_i fn hf
    split at h
    · rename_i body rs hb hrs
      split at h
      · cases h
      · rename_i hname
        split at h
        · rename_i cc hcc
          split at h
          · rename_i hle
            cases h
            refine ⟨fn, body, an, hf, hb, by simpa using hname, hle, ?_, hrs⟩
            cases b with
            | true => exact annot_ok (compileC_ok hcc)
            | false => exact compileC_ok hcc
          · cases h
        · cases h
    · cases h
  · cases h

theorem callF_good (hmix : P.follows .mixedOrders = true) {T : FuncId → Option CFn} {X : CallF} (hT : ∀ f c, T f = some c → FnOK P f c) (hX : FnS P X) : ∀ n, FnS P (callF T X n)
  | 0 => fun f args M res M' h => by simp [callF] at h
  | n + 1 => fun f args M res M' h hfull => by
    simp only [callF] at h
    split at h
    · exact hX f args M res M' h hfull
    · rename_i c hTf
      obtain ⟨fn, body, an, hf, hb, hname, hle, hcode, hres⟩ := hT f c hTf
      refine ⟨fn, hf, by simp [hb], hname, ?_⟩
      split at h
      · rename_i hlen
        intro own σ j w vs hown hag hm hvs
        have ih := callF_good hmix hT hX n
        have hvl : vs.size = c.nargs := by have := hvs.1; simp at this; omega
        have hsz : (vs ++ Array.replicate (fn.ntmps - vs.size) undef).size = fn.ntmps := by simp; omega
        have hat : At own σ j (args0 0 args).get M fn.ntmps { tmps := vs ++ Array.replicate (fn.ntmps - vs.size) undef, defers := [] } w :=
          ⟨args_good hvs (fun k v hk => by
            have hk' : k < vs.size := by have := lt_of_get hk; simpa using this
            rw [Nat.zero_add, Array.getElem?_append_left hk']
            simpa using hk), hsz, rfl, hag, hm, hown⟩
        have fin : ∀ {ex : EX} {E : Env} {M2 : Mem} {r : AV}, (ex = .normal ∨ ex = .ret) → execC (callF T X n) n c.code (args0 0 args) M = some (ex, E, M2) → resOf E M2 c.res = some r → finish M.length r M2 = some (res, M') →
            Calls P f vs w (Ret own σ j M w res M') := by
          intro ex E M2 r hexit hx hr hfin
          have hF : AllIn Fence.wide := ⟨fun _ => trivial, rfl, rfl⟩
          refine callsIn_wide (n := 0).1 (callsIn_of_wp hf hb trivial ?_)
          refine wpIn_mono (exec_good hF ih hmix hcode hx hat) fun e a' w' hq => ?_
          obtain ⟨rfl, σ', j', hat', hst, hk⟩ := hq
          obtain ⟨v, hv, hvr⟩ := results_good hat' hres hr
          obtain ⟨j2, q1, q2, q3⟩ := finish_sound hm rfl hat'.mem hst hfull hvr hfin
          have : Ret own σ j M w res M' (.returned v) w' := ⟨v, σ', j2, rfl, q1, hat'.agree, q2, q3⟩
          rcases hexit with rfl | rfl
          · exact ⟨hat'.defers, v, hv, this⟩
          · exact ⟨hat'.defers, v, hv, this⟩
        split at h
        · rename_i E M2 hx
          split at h
          · rename_i r hr
            exact fin (.inl rfl) hx hr h
          · cases h
        · rename_i E M2 hx
          split at h
          · rename_i r hr
            exact fin (.inr rfl) hx hr h
          · cases h
        · cases h
      · cases h

/-- Nothing is known of others. -/
def noX : CallF := fun _ _ _ => none
theorem noX_good : FnS P noX := fun f args M res M' h => by cases h

end
end Go.Eng

/- The engine: slices.Clone. It answers a slice of new memory, or nil; which of the two an empty slice gives is left open. -/
namespace Go.Eng
open Go

def anN : Ann := { mode := fun _ _ => ⟨false, false, false⟩ }

def nilCheck (P : Program) (id : Nat) (o : Array Oper) : Bool := match compileRegion P anN 8 id o.toList false with
  | some (0, [⟨_, some 2, none, .mv (.k (.c .nilslice))⟩], []) => true
  | _ => false
def testCheck (P : Program) (o : Array Oper) : Bool := match compileOper P o.toList ⟨false, false, false⟩ 8 0 with
  | some ⟨_, some 3, none, .mv (.s 0)⟩ => (match o.toList with
    | [_, ⟨some 4, .binOp .eql S (.tmp 3) (.const (.slice none 0 0)) _, _, _, _, none⟩] => (match P.underlying S with | some (.slice _) => true | _ => false)
    | _ => false)
  | _ => false
def copyCheck (P : Program) (id : Nat) (o : Array Oper) (esz bytes : Nat) : Bool := match compileRegion P anN 8 id o.toList false with
  | some (1, [⟨_, some 5, none, .lit 0 e [] []⟩, ⟨_, some 6, none, .mv (.s 0)⟩, ⟨_, some 7, none, .append e' b (.s 5) (.s 6)⟩, ⟨_, some 2, none, .mv (.s 7)⟩], []) => e == esz && e' == esz && b == bytes
  | _ => false
def cloneCheck (P : Program) (f : FuncId) (esz bytes : Nat) : Bool := match P.funcs[f]? with
  | some fn => match fn.body with
    | some (.seq (.region i0 o0 false) (.seq (.seq (.region _ o1 false) (.cond (.tmp 4) (.seq (.region i2 o2 false) .ret) .skip)) (.seq (.region i3 o3 false) .ret))) =>
      !(fn.name == "runtime.NumGoroutine") && fn.ntmps == 8 && (match fn.results.toList with | [.tmp 2] => true | _ => false) && nilCheck P i0 o0 && testCheck P o1 && nilCheck P i2 o2 && copyCheck P i3 o3 esz bytes
    | _ => false
  | none => false

def cloneX (esz bytes : Nat) (x : Cl) (M : Mem) : Option (AV × Mem) := match elemsOf M esz x with
  | some ys => if roomy ys.length bytes && 0 < esz then
      some (.w (.c (.slice M.length 1 esz 0 ys.length none)), M ++ [some { box := false, esz, rows := ys, gen := 1, fz := false, ver := 1 }])
    else none
  | none => none

/-- slices.Clone at the functions that are listed: number, cells and bytes of an element. -/
def clones (Cs : List (Nat × Nat × Nat)) : CallF := fun f args M => match Cs.lookup f with
  | some (esz, bytes) => match args with
    | [.c x] => cloneX esz bytes x M
    | _ => none
  | none => none

section
variable {own : Nat → Prop} {P : Program} {σ : Stab} {j : Inj} {M : Mem} {w : World}

theorem elems_slice {esz : Nat} {x : Cl} {v : Value} {ys : List (List Cl)} (h : elemsOf M esz x = some ys) (hv : VC σ j x v) : ∃ b l c, v = .slice b l c ∧ (b = none → ys = []) := by
  cases hv with
  | slice _ id g es off len cap pl a c hj hl hc ha =>
    refine ⟨a, len, c, rfl, fun hb => ?_⟩
    have hc0 : c = 0 := by
      by_cases h0 : c = 0
      · exact h0
      · obtain ⟨L, _, _, e, _⟩ := ha h0; rw [hb] at e; cases e
    have hl0 : len = 0 := by omega
    simp only [elemsOf] at h
    split at h
    · split at h
      · cases h; simp [hl0]
      · cases h
    · cases h
  | rslice _ es rows cap a c b o val hl hc ha hr h1 h2 =>
    refine ⟨a, rows.length, c, rfl, fun hb => ?_⟩
    simp only [elemsOf] at h
    split at h
    · cases h
      rcases ha with ha | ha
      · exact ha
      · rw [hb] at ha; cases ha
    · cases h
  | nilslice => exact ⟨none, 0, 0, rfl, fun _ => by simpa [elemsOf] using h.symm⟩
  | _ => cases h

theorem run_equalIn_slice (d : Nat) (t e : TypeId) (b : Option Addr) (l c : Nat) (w : World) (h : P.underlying t = some (.slice e)) : (Op.equalIn (d + 1) t (.slice b l c) (.slice none 0 0)).run P w = .ok b.isNone w := by
  cases b <;> simp [Op.equalIn, run_underlying h]
theorem run_equal_slice (t e : TypeId) (b : Option Addr) (l c : Nat) (w : World) (h : P.underlying t = some (.slice e)) : (Op.equal t (.slice b l c) (.slice none 0 0)).run P w = .ok b.isNone w :=
  run_equalIn_slice 9999 t e b l c w h

theorem lay_empty (hm : MR own σ j M w) {b : Blk} (hb : b.rows = [] ∧ b.box = false) : ∃ j', j' M.length b.gen = some .empty ∧ MR own σ j' (M ++ [some b]) w ∧ Step own M.length σ j M w σ j' (M ++ [some b]) w := by
  have hhole : (M ++ holes 1)[M.length]? = some none := by simp [holes]
  have hlt : M.length < (M ++ holes 1).length := by simp [holes]
  have hset : (M ++ holes 1).set M.length (some b) = M ++ [some b] := by simp [holes]
  obtain ⟨hnone, hm'⟩ := (hm.holes 1).renew (w' := w) (b' := b) (pl' := .empty) hlt (fun b hb => by rw [hhole] at hb; cases hb)
      (fun k b L _ hb hL => ⟨rfl, fun L' e => by cases e⟩) hb (fun L e => by cases e)
  rw [hset] at hm'
  refine ⟨_, Inj.put_at _ _ _ _, hm', Stab.le_refl _, fun id g pl _ h => Inj.le_put hnone id g pl h, Nat.le_refl _, fun _ _ _ => rfl, fun _ _ _ h => .inl h, fun id b hid hb => ⟨b, ?_, Nat.le_refl _, fun _ => ⟨rfl, fun _ _ => rfl⟩⟩, Side.refl _⟩
  rw [List.getElem?_append_left hid]; exact hb

theorem elemsOf_holes {esz n : Nat} {c : Cl} {ys : List (List Cl)} (h : elemsOf M esz c = some ys) : elemsOf (M ++ holes n) esz c = some ys := by
  cases c with
  | slice id g e off len cap =>
    simp only [elemsOf] at h ⊢
    split at h
    · rename_i b hb
      have hb' := look_some hb
      have : look (M ++ holes n) id g = some b := by
        unfold look
        rw [holes_get hb'.1, hb'.2]
        simp
      rw [this]; exact h
    · cases h
  | _ => exact h

theorem copy_run {esz bytes : Nat} {x : Cl} {ys : List (List Cl)} {E : Env} {i0 i1 i2 i3 : Nat} (hE : E.get 0 = some (.w (.c x))) (hys : elemsOf M esz x = some ys) (hpos : 0 < esz) (hroom : roomy ys.length bytes = true) :
    ∃ E' fs, opsF noX M.length [⟨i0, some 5, none, .lit 0 esz [] []⟩, ⟨i1, some 6, none, .mv (.s 0)⟩, ⟨i2, some 7, none, .append esz bytes (.s 5) (.s 6)⟩, ⟨i3, some 2, none, .mv (.s 7)⟩] E (M ++ holes 1) =
      some (E', M ++ [some { box := false, esz, rows := ys, gen := 1, fz := false, ver := 1 }], fs) ∧ E'.get 2 = some (.w (.c (.slice M.length 1 esz 0 ys.length none))) := by
  have hhole : (M ++ holes 1)[M.length]? = some none := by simp [holes]
  have hset : ∀ b, (M ++ holes 1).set M.length (some b) = M ++ [some b] := fun b => by simp [holes]
  have h1 : newAt (markAll (M ++ holes 1) []) (M.length + 0) { box := false, esz, rows := [], gen := 0, fz := false, ver := 0 } = some (M ++ [some { box := false, esz, rows := [], gen := 0, fz := false, ver := 0 }]) := by
    rw [Nat.add_zero]
    show newAt (M ++ holes 1) _ _ = _
    rw [newAt_eq hhole, hset]
  have h2 : elemsOf (M ++ [some { box := false, esz, rows := [], gen := 0, fz := false, ver := 0 }]) esz x = some ys := by
    rw [← hset]; exact elemsOf_fill hhole (elemsOf_holes hys)
  have h3 : look (M ++ [some { box := false, esz, rows := [], gen := 0, fz := false, ver := 0 }]) M.length 0 = some { box := false, esz, rows := [], gen := 0, fz := false, ver := 0 } := by simp [look]
  have h4 : appendOp (M ++ [some { box := false, esz, rows := [], gen := 0, fz := false, ver := 0 }]) esz bytes (.slice M.length 0 esz 0 0 (some 0)) x =
      some (.w (.c (.slice M.length 1 esz 0 ys.length none)), M ++ [some { box := false, esz, rows := ys, gen := 1, fz := false, ver := 1 }], .wr [(M.length, 0, whole)]) := by
    simp only [appendOp, h2, h3]
    rw [if_pos (by simp [hpos, hroom])]
    simp
  have s1 : stepF noX M.length ⟨i0, some 5, none, .lit 0 esz [] []⟩ E.get (M ++ holes 1) = some (.w (.c (.slice M.length 0 esz 0 0 (some 0))), M ++ [some { box := false, esz, rows := [], gen := 0, fz := false, ver := 0 }], .no) := by
    simp only [stepF, opF, fillRows]
    rw [if_pos hpos]
    show Option.map _ (newAt (markAll (M ++ holes 1) []) (M.length + 0) _) = _
    rw [h1]; rfl
  have s2 : ∀ (v : AV) (M1 : Mem), stepF noX M.length ⟨i1, some 6, none, .mv (.s 0)⟩ (Env.put E (some 5) v).get M1 = some (.w (.c x), M1, .no) := fun v M1 => by
    simp [stepF, opF, Opd.ev, Env.put, Env.get, hE]
  have s3 : ∀ (v : AV), stepF noX M.length ⟨i2, some 7, none, .append esz bytes (.s 5) (.s 6)⟩ (Env.put (Env.put E (some 5) (.w (.c (.slice M.length 0 esz 0 0 (some 0))))) (some 6) (.w (.c x))).get (M ++ [some { box := false, esz, rows := [], gen := 0, fz := false, ver := 0 }]) = some (.w (.c (.slice M.length 1 esz 0 ys.length none)), M ++ [some { box := false, esz, rows := ys, gen := 1, fz := false, ver := 1 }], .wr [(M.length, 0, whole)]) := fun v => by
    simp [stepF, opF, Opd.ev, Env.put, Env.get, h4]
  have s4 : ∀ (y : AV) (E : Env) (x : WV) (M1 : Mem), stepF noX M.length ⟨i3, some 2, none, .mv (.s 7)⟩ (Env.put E (some 7) (.w x)).get M1 = some (.w x, M1, .no) := fun y E x M1 => by
    simp [stepF, opF, Opd.ev, Env.put, Env.get]
  refine ⟨Env.put (Env.put (Env.put (Env.put E (some 5) (.w (.c (.slice M.length 0 esz 0 0 (some 0))))) (some 6) (.w (.c x))) (some 7) (.w (.c (.slice M.length 1 esz 0 ys.length none)))) (some 2) (.w (.c (.slice M.length 1 esz 0 ys.length none))), [.no, .no, .wr [(M.length, 0, whole)], .no], ?_, ?_⟩
  · simp only [opsF, s1, s2, s3 .u, s4 .u]
  · simp [Env.put, Env.get]

theorem clone_good (hmix : P.follows .mixedOrders = true) {f : FuncId} {esz bytes : Nat} {x : Cl} {v : Value} {res : AV} {M' : Mem} (hck : cloneCheck P f esz bytes = true) (h : cloneX esz bytes x M = some (res, M')) :
    ∃ fn, P.funcs[f]? = some fn ∧ fn.body.isNone = false ∧ (fn.name == "runtime.NumGoroutine") = false ∧
      ((∀ b, w.heap.size ≤ b → own b) → Agree σ w → MR own σ j M w → VC σ j x v → Calls P f #[v] w (Ret own σ j M w res M')) := by
  unfold cloneCheck at hck
  split at hck
  · rename_i fn hfn
    split at hck
    · rename_i i0 o0 i1 o1 i2 o2 i3 o3 hbody
      simp only [Bool.and_eq_true, Bool.not_eq_true', beq_iff_eq] at hck
      obtain ⟨⟨⟨⟨⟨⟨hname, hnt⟩, hres⟩, hk0⟩, hk1⟩, hk2⟩, hk3⟩ := hck
      refine ⟨fn, hfn, by simp [hbody], by simpa using hname, fun hown hag hm hv => ?_⟩
      -- what the answer is
      unfold cloneX at h
      split at h
      · rename_i ys hys
        split at h
        · rename_i hcond
          cases h
          simp only [Bool.and_eq_true, decide_eq_true_eq] at hcond
          obtain ⟨hroom, hpos⟩ := hcond
          obtain ⟨b, l, c, rfl, hbn⟩ := elems_slice hys hv
          have hresl : fn.results.toList = [.tmp 2] := by
            split at hres
            · rename_i hr; exact hr
            · cases hres
          have hF : AllIn Fence.wide := ⟨fun _ => trivial, rfl, rfl⟩
          have hat0 : At own σ j (args0 0 [.c x]).get M 8 { tmps := #[.slice b l c] ++ Array.replicate (fn.ntmps - (#[Value.slice b l c] : Array Value).size) undef, defers := [] } w := by
            refine ⟨args_good (vs := [.slice b l c]) (WVRs.cons hv WVRs.nil) (fun k u hk => ?_), by simp [hnt], rfl, hag, hm, hown⟩
            have hk0 : k = 0 := by have := lt_of_get hk; simpa using this
            subst hk0
            simp at hk
            subst hk
            rw [Array.getElem?_append_left (by simp)]
            rfl
          refine (callsIn_wide (n := 0)).1 (callsIn_of_wp hfn hbody trivial (wpIn_seq ?_))
          -- the result's place is cleared
          unfold nilCheck at hk0
          split at hk0
          · rename_i ix0 hc0
            refine region_good (n := 0) hF noX_good hmix hc0 (E := args0 0 [.c x]) (E' := (2, .w (.c .nilslice)) :: args0 0 [.c x]) (M' := M) (fs := [.no]) (by simp [opsF, stepF, opF, Opd.ev, Env.put, holes]) (by simp) hat0 fun a1 w1 σ1 j1 hat1 hst1 _ => ?_
            refine wpIn_seq (wpIn_seq ?_)
            -- is it nil?
            unfold testCheck at hk1
            split at hk1
            · rename_i ix1 hca
              split at hk1
              · rename_i oa S yt ty pos aft hol
                obtain ⟨eT, hS⟩ : ∃ e, P.underlying S = some (.slice e) := by
                  split at hk1
                  · rename_i e he; exact ⟨e, he⟩
                  · cases hk1
                have ho1 : o1 = #[oa, ⟨some 4, .binOp .eql S (.tmp 3) (.const (.slice none 0 0)) yt, ty, pos, aft, none⟩] := Array.ext' (by simpa using hol)
                refine wpIn_region ?_
                have hsz : o1.size = 2 := by rw [ho1]; rfl
                rw [hsz]
                show wpOpsIn _ _ _ _ _ [0, 1] _ _
                rw [wpOpsIn_cons]
                refine step_good hF noX_good hca (av := .w (.c x)) (M' := M) (fp := .no) (n0 := 0) (by simp [stepF, opF, Opd.ev, Env.get, args0]) hat1 fun a2 w2 σ2 j2 hat2 hst2 => ?_
                rw [wpOpsIn_cons]
                obtain ⟨v3, hv3, hr3⟩ := hat2.env 3 (.w (.c x)) (by simp [putE])
                obtain ⟨b3, l3, c3, rfl, hb3⟩ := elems_slice hys hr3
                have he3 : a2.eval (.tmp 3) = .slice b3 l3 c3 := by simp [Act.eval, Array.getD_eq_getD_getElem?, hv3]
                have hexec : (execOp a2.eval ⟨some 4, .binOp .eql S (.tmp 3) (.const (.slice none 0 0)) yt, ty, pos, aft, none⟩).run P w2 = .ok (.value (.bool b3.isNone)) w2 := by
                  simp [execOp, hv3, Act.eval, eqGuard, binOp, run_equal_slice _ _ _ _ _ _ hS]
                have hat3 := hat2.put (d := some 4) (av := .w (.c (.bool b3.isNone))) (v := .bool b3.isNone) (fun x hx => by cases hx; omega) (VC.bool _ _) hat2.agree hat2.mem Step.refl
                rw [← put_get, ← put_get] at hat3
                unfold wpOpIn
                have ho11 : o1[1]? = some ⟨some 4, .binOp .eql S (.tmp 3) (.const (.slice none 0 0)) yt, ty, pos, aft, none⟩ := by rw [ho1]; rfl
                simp only [ho11, Region.wanted, if_true]
                refine ⟨fun _ _ => trivial, ?_⟩
                rw [Oper.semAt_eq _ _ _ (by intro c; simp), hexec]
                show Code.wpIn _ _ _ _ _ _ _
                have he4 : (a2.put (some 4) (.bool b3.isNone)).eval (.tmp 4) = .bool b3.isNone := by
                  obtain ⟨v4, hv4, hr4⟩ := hat3.env 4 (.w (.c (.bool b3.isNone))) (by simp [Env.put, Env.get])
                  have hr4 : VC _ _ (.bool b3.isNone) v4 := hr4
                  have : v4 = .bool b3.isNone := by generalize b3.isNone = t at hr4; cases hr4; rfl
                  subst this
                  simp [Act.eval, Array.getD_eq_getD_getElem?, hv4]
                have hrc : resCs P fn.results.toList = some [.slot 2] := by rw [hresl]; rfl
                refine wpIn_cond_split he4 (fun ht => ?_) (fun ht => ?_)
                · -- it is nil
                  have hys0 : ys = [] := hb3 (by simpa using ht)
                  subst hys0
                  refine wpIn_seq ?_
                  unfold nilCheck at hk2
                  split at hk2
                  · rename_i ix2 hc2
                    refine region_good (n := 0) hF noX_good hmix hc2 (M' := M) (fs := [.no]) (by simp [opsF, stepF, opF, Opd.ev, Env.put, holes]; rfl) (by simp) hat3 fun a4 w4 σ4 j4 hat4 hst4 _ => ?_
                    refine wpIn_ret ⟨hat4.defers, ?_⟩
                    obtain ⟨rv, hrv, hrr⟩ := results_good (r := .w (.c .nilslice)) hat4 hrc rfl
                    have hrr : VC σ4 j4 .nilslice rv := hrr
                    cases hrr
                    obtain ⟨j5, hj5, hm5, hst5⟩ := lay_empty hat4.mem (b := { box := false, esz, rows := [], gen := 1, fz := false, ver := 1 }) ⟨rfl, rfl⟩
                    exact ⟨_, hrv, _, σ4, j5, rfl, VC.slice _ M.length 1 esz 0 0 none _ none 0 hj5 (Nat.le_refl _) (by simp) (fun h => absurd rfl h), hat4.agree, hm5, ((hst1.trans hst2).trans hst4).trans hst5⟩
                  · cases hk2
                · -- it is not
                  refine wpIn_skip ?_
                  show Code.wpIn _ _ _ _ _ _ _
                  refine wpIn_seq ?_
                  unfold copyCheck at hk3
                  split at hk3
                  · rename_i p0 e p1 p2 e' by' p3 hc3
                    simp only [Bool.and_eq_true, beq_iff_eq] at hk3
                    obtain ⟨⟨rfl, rfl⟩, rfl⟩ := hk3
                    obtain ⟨E5, fs5, hrun, hget⟩ := copy_run (i0 := p0) (i1 := p1) (i2 := p2) (i3 := p3) (E := Env.put (Env.put ((2, .w (.c .nilslice)) :: args0 0 [.c x]) (some 3) (.w (.c x))) (some 4) (.w (.c (.bool b3.isNone)))) (by simp [Env.put, Env.get, args0]) hys hpos hroom
                    refine region_good (n := 0) hF noX_good hmix hc3 hrun (by simp) hat3 fun a4 w4 σ4 j4 hat4 hst4 _ => ?_
                    refine wpIn_ret ⟨hat4.defers, ?_⟩
                    obtain ⟨rv, hrv, hrr⟩ := results_good (r := .w (.c (.slice M.length 1 e' 0 ys.length none))) hat4 hrc (by simp [resOf, resAll, resOne, hget])
                    exact ⟨_, hrv, _, σ4, j4, rfl, hrr, hat4.agree, hat4.mem, (hst1.trans hst2).trans hst4⟩
                  · cases hk3
              · cases hk1
            · cases hk1
          · cases hk0
        · cases h
      · cases h
    · cases hck
  · cases hck


theorem clones_good (hmix : P.follows .mixedOrders = true) {Cs : List (Nat × Nat × Nat)} (hC : ∀ c ∈ Cs, cloneCheck P c.1 c.2.1 c.2.2 = true) : FnS P (clones Cs) := by
  intro f args M res M' h hfull
  unfold clones at h
  split at h
  · rename_i esz bytes hl
    split at h
    · rename_i x
      have hmem : (f, esz, bytes) ∈ Cs := by
        clear h hC
        induction Cs with
        | nil => simp at hl
        | cons c Cs ih =>
          obtain ⟨g, d⟩ := c
          rw [List.lookup_cons] at hl
          split at hl
          · rename_i hb; cases hl; simp at hb; subst hb; exact List.mem_cons_self ..
          · exact List.mem_cons_of_mem _ (ih hl)
      have hck := hC _ hmem
      obtain ⟨fn, h1, h2, h3, _⟩ := clone_good (own := fun _ => True) (σ := fun _ _ => none) (j := noInj) (w := default) (v := default) hmix hck h
      refine ⟨fn, h1, h2, h3, fun own σ j w vs hown hag hm hvs => ?_⟩
      obtain ⟨v, vs', hv0, hv, hs⟩ := hvs.uncons
      have hvs' := hs.unnil
      subst hvs'
      have : vs = #[v] := Array.ext' (by simpa using hv0)
      subst this
      obtain ⟨_, _, _, _, hc⟩ := clone_good (own := own) (σ := σ) (j := j) (w := w) (v := v) hmix hck h
      exact hc hown hag hm hv
    · cases h
  · cases h

end
end Go.Eng

/- The engine: a law that is run to its end. -/
namespace Go.Eng
open Go

theorem grown_of_step {k : Nat} {σ σ' : Stab} {j j' : Inj} {M M' : Mem} {w w' : World} (h : Step (fun b => w.heap.size ≤ b) k σ j M w σ' j' M' w') : RowKit.Grown w w' := by
  have hold : ∀ i, i < w.heap.size → w'.heap[i]? = w.heap[i]? := fun i hi => h.frame i hi (by omega)
  refine ⟨⟨h.side.os, h.side.output, fun i hi => ?_⟩, fun a => ?_, h.size⟩
  · rw [hold i hi]
    cases hx : w.heap[i]? with
    | none => rfl
    | some o =>
      cases o <;> simp
  · rcases Nat.lt_or_ge a.block w.heap.size with hl | hl
    · unfold World.frozen?
      rw [hold _ hl]
    · have h0 : w.frozen? a = false := by
        unfold World.frozen?
        rw [Array.getElem?_eq_none hl]
      rw [h0, h.side.frozen a h0]

/-- What the evaluator answers, the call returns; the world has at most grown. -/
theorem law_calls {P : Program} {cf : CallF} (hcf : FnS P cf) {f : FuncId} {args : List WV} {vs : Array Value} {w : World} {σ : Stab} {j : Inj} {M M' : Mem} (h : cf f args M = some (.w (.c (.bool true)), M')) (hfull : Mem.full M)
    (hag : Agree σ w) (hm : MR (fun b => w.heap.size ≤ b) σ j M w) (hvs : WVRs σ j args vs.toList) :
    Calls P f vs w fun e w' => e = .returned (.bool true) ∧ RowKit.Grown w w' := by
  obtain ⟨_, _, _, _, hc⟩ := hcf f args M _ _ h hfull
  refine Calls.mono' (hc (fun b => w.heap.size ≤ b) σ j w vs (fun _ h => h) hag hm hvs) ?_
  rintro e w' ⟨v, σ', j', rfl, hr, _, _, hst⟩
  have hr : VC σ' j' (.bool true) v := hr
  cases hr
  exact ⟨rfl, grown_of_step hst⟩

theorem MR.nil {own : Nat → Prop} {σ : Stab} {w : World} : MR own σ noInj [] w :=
  ⟨fun id b h => by simp at h, fun id id' b b' L L' h => by simp at h, fun id g pl h => by simp [noInj] at h⟩

/-- A law of no argument. -/
theorem closed_calls {P : Program} {cf : CallF} (hcf : FnS P cf) {f : FuncId} {M' : Mem} (h : cf f [] [] = some (.w (.c (.bool true)), M')) (w : World) :
    Calls P f #[] w fun e w' => e = .returned (.bool true) ∧ RowKit.Grown w w' :=
  law_calls hcf h (fun id hid => by simp at hid) (σ := fun _ _ => none) (fun b o v hv => by cases hv) MR.nil WVRs.nil

/-- The compiled functions, listed. -/
theorem lookup_mem {α : Type} {f : Nat} {c : α} : ∀ {l : List (Nat × α)}, l.lookup f = some c → (f, c) ∈ l
  | [], h => by simp at h
  | (g, d) :: l, h => by
    rw [List.lookup_cons] at h
    split at h
    · rename_i hb; cases h; simp at hb; subst hb; exact List.mem_cons_self ..
    · exact List.mem_cons_of_mem _ (lookup_mem h)

theorem table_ok {P : Program} {L : List (Nat × CFn)} (h : (L.map fun p => compileFn P anN true p.1) = L.map fun p => some p.2) : ∀ f c, (fun f => L.lookup f : FuncId → Option CFn) f = some c → FnOK P f c := by
  intro f c hl
  have hm := lookup_mem hl
  obtain ⟨k, hk⟩ := List.getElem?_of_mem hm
  have := congrArg (·[k]?) h
  simp only [List.getElem?_map, hk, Option.map_some] at this
  exact compileFn_ok (Option.some.inj this)

/-- The evaluator over a program's table. -/
def runE (L : List (Nat × CFn)) (Cs : List (Nat × Nat × Nat)) (n : Nat) : CallF := callF (fun f => L.lookup f) (clones Cs) n

theorem runE_good {P : Program} (hmix : P.follows .mixedOrders = true) {L : List (Nat × CFn)} {Cs : List (Nat × Nat × Nat)} (hL : (L.map fun p => compileFn P anN true p.1) = L.map fun p => some p.2)
    (hC : (Cs.all fun c => cloneCheck P c.1 c.2.1 c.2.2) = true) (n : Nat) : FnS P (runE L Cs n) :=
  callF_good hmix (table_ok hL) (clones_good hmix fun c hc => List.all_eq_true.1 hC c hc) n

end Go.Eng

