/- This text proves parts of an evaluator's soundness: what the evaluator answers, the model's run does; no condition. -/
import Derived.Test.YtfegdmkaahfhgaaGreatDoorEg2
import Derived.Sort.Grow
import Derived.Sort.AssemblyPlain
import Derived.MapKept
import Derived.Below
import Derived.RowKit3
import Derived.ChangeShapes
import Derived.ChangeSame
import Derived.ReadAgain
import Derived.OpenShut
set_option linter.unusedVariables false
set_option linter.unusedSimpArgs false
set_option linter.unusedSectionVars false
namespace Go.Eng
open Go
variable [RecP]
theorem nodup_le : ∀ {N : Nat} {l : List Nat}, l.Nodup → (∀ x ∈ l, x < N) → l.length ≤ N
  | 0, l, _, h => by
    cases l with
    | nil => exact Nat.le_refl _
    | cons x xs => exact absurd (h x (List.mem_cons_self ..)) (Nat.not_lt_zero _)
  | N + 1, l, hn, h => by
    by_cases hm : N ∈ l
    · have h1 := nodup_le (N := N) (hn.erase N) (fun x hx => by
        have h2 := (hn.mem_erase_iff).1 hx
        have := h x h2.2
        omega)
      rw [List.length_erase_of_mem hm] at h1
      omega
    · have := nodup_le (N := N) hn (fun x hx => by
        have h1 := h x hx
        have : x ≠ N := by rintro rfl; exact hm hx
        omega)
      omega
theorem all_in {N : Nat} {l : List Nat} (hn : l.Nodup) (h : ∀ x ∈ l, x < N) (hl : l.length = N) {i : Nat} (hi : i < N) : i ∈ l := by
  by_cases hm : i ∈ l
  · exact hm
  · have := nodup_le (N := N) (List.nodup_cons.2 ⟨hm, hn⟩) (fun x hx => by
      rcases List.mem_cons.1 hx with rfl | hx
      · exact hi
      · exact h x hx)
    simp only [List.length_cons] at this
    omega
section
variable {own : Nat → Prop} {P : Program} {cf : CallF} {ntmps : Nat} {F : Fence} {n : Nat} {Q : Exit → Act → World → Prop}
theorem compileOpers_spec {ops : List Oper} {m : Oper → CMode} : ∀ {is : List Nat} {cs : List COper}, compileOpers P ops m ntmps is = some cs → cs.length = is.length ∧ ∀ (p : Nat) (c : COper), cs[p]? = some c → ∃ i, is[p]? = some i ∧ compileOper P ops m ntmps i = some c
  | [], cs, h => by simp only [compileOpers, Option.some.injEq] at h; subst h; exact ⟨rfl, by simp⟩
  | i :: is, cs, h => by
    simp only [compileOpers] at h
    split at h
    · rename_i c cs' h1 h2
      cases h
      obtain ⟨e1, e2⟩ := compileOpers_spec h2
      refine ⟨by simp [e1], fun p c' hc => ?_⟩
      cases p with
      | zero => simp at hc; subst hc; exact ⟨i, rfl, h1⟩
      | succ p => simpa using e2 p c' (by simpa using hc)
    · cases h
theorem compileOper_ix {ops : Array Oper} {m : Oper → CMode} {i : Nat} {c : COper} (h : compileOper P ops.toList m ntmps i = some c) : c.ix = i ∧ i < ops.size := by
  obtain ⟨o, ho, hi, _⟩ := compileOper_spec h
  exact ⟨hi, (Array.getElem?_eq_some_iff.1 ho).1⟩
theorem compileOpers_ix {ops : Array Oper} {m : Oper → CMode} {is : List Nat} {cs : List COper} (h : compileOpers P ops.toList m ntmps is = some cs) : cs.map (·.ix) = is := by
  obtain ⟨e1, e2⟩ := compileOpers_spec h
  apply List.ext_getElem?
  intro p
  rw [List.getElem?_map]
  cases hc : cs[p]? with
  | none =>
    have : is[p]? = none := by rw [List.getElem?_eq_none_iff] at hc ⊢; omega
    rw [this]; rfl
  | some c =>
    obtain ⟨i, hi, hci⟩ := e2 p c hc
    rw [hi]
    simp [(compileOper_ix hci).1]
theorem text_good (hF : AllIn F) (hcf : FnS P cf) {ops : Array Oper} {m : Oper → CMode} {n0 k : Nat} {σ0 : Stab} {j0 : Inj} {M0 : Mem} {w0 : World} {E2 : EnvF} {M2 : Mem} {ds : List Deferred}
    (hQ : ∀ a' w' σ' j', At own σ' j' E2 M2 ntmps a' w' → Step own k σ0 j0 M0 w0 σ' j' M2 w' → a'.defers = ds → Q .normal a' w') :
    ∀ {is : List Nat} {cs : List COper} {fs : List FP} {E : EnvF} {M : Mem} {a : Act} {w : World} {σ : Stab} {j : Inj}, compileOpers P ops.toList m ntmps is = some cs → opsG cf n0 cs E M = some (E2, M2, fs) → k ≤ M.length →
      At own σ j E M ntmps a w → Step own k σ0 j0 M0 w0 σ j M w → a.defers = ds → wpOpsIn F n P ops Q is a w
  | [], cs, fs, E, M, a, w, σ, j, hc, hr, hk, hat, hst, hds => by
    simp only [compileOpers, Option.some.injEq] at hc
    subst hc
    simp only [opsG, Option.some.injEq, Prod.mk.injEq] at hr
    obtain ⟨rfl, rfl, _⟩ := hr
    exact hQ a w σ j hat hst hds
  | i :: is, cs, fs, E, M, a, w, σ, j, hc, hr, hk, hat, hst, hds => by
    simp only [compileOpers] at hc
    split at hc
    · rename_i c cs' h1 h2
      cases hc
      rw [wpOpsIn_cons]
      cases fs with
      | nil =>
        simp only [opsG] at hr
        split at hr
        · split at hr
          · cases hr
          · cases hr
        · cases hr
      | cons fp fs =>
        obtain ⟨v, M', q1, q2⟩ := opsG_cons.1 hr
        refine step_good hF hcf h1 q1 hat fun a' w' σ' j' hat' hst' hds' => ?_
        exact text_good hF hcf hQ h2 q2 (Nat.le_trans hk (step_len q1)) hat' (hst.trans (hst'.le hk)) (hds'.trans hds)
    · cases hc
theorem prsFrom_mem {bef : List Nat} {a : COper} {i : Nat} : ∀ {r : List COper} {j p : Nat} {b : COper}, r[p]? = some b → (bef.getD b.ix 0).testBit a.ix = false → ¬ (a.cls = .pure ∨ b.cls = .pure ∨ (a.cls = .load ∧ b.cls = .load)) → (i, j + p) ∈ prsFrom bef a i j r
  | [], j, p, b, h, _, _ => by simp at h
  | x :: r, j, 0, b, h, hb, hk => by
    simp only [List.getElem?_cons_zero, Option.some.injEq] at h
    subst h
    simp only [prsFrom, hb, Bool.false_eq_true, if_false]
    simp only [not_or, not_and] at hk
    obtain ⟨k1, k2, k3⟩ := hk
    cases ha : a.cls <;> cases hx : x.cls <;> simp_all
  | x :: r, j, p + 1, b, h, hb, hk => by
    have := prsFrom_mem (i := i) (r := r) (j := j + 1) (p := p) (by simpa using h) hb hk
    have e : j + (p + 1) = j + 1 + p := by omega
    rw [e]
    simp only [prsFrom]
    split
    · exact this
    · split <;> first | exact this | exact List.mem_cons_of_mem _ this
theorem pairs_of {bef : List Nat} {base : Nat} {fsAll : List FP} : ∀ {cs : List COper} {fs : List FP} {i : Nat}, crossOk bef cs = true → (prsOf bef i cs).all (prOk base fsAll) = true → (∀ p : Nat, fs[p]? = fsAll[i + p]?) →
    (cs.zip fs).Pairwise (fun x y => (bef.getD y.1.ix 0).testBit x.1.ix = true ∨ Free base x.1 x.2 y.1 y.2)
  | [], fs, i, _, _, _ => by simp
  | a :: r, [], i, _, _, _ => by simp
  | a :: r, f :: fr, i, hc, hp, hfs => by
    simp only [crossOk, Bool.and_eq_true] at hc
    simp only [prsOf, List.all_append, Bool.and_eq_true] at hp
    have hfr : ∀ p : Nat, fr[p]? = fsAll[(i + 1) + p]? := fun p => by
      have := hfs (p + 1)
      rw [show i + (p + 1) = i + 1 + p from by omega] at this
      simpa using this
    refine List.pairwise_cons.2 ⟨fun y hy => ?_, pairs_of hc.2 hp.2 hfr⟩
    obtain ⟨p, hp2⟩ := List.getElem?_of_mem hy
    have hp2 : (r.zip fr)[p]? = some y := hp2
    rw [List.getElem?_zip_eq_some] at hp2
    obtain ⟨hb, hfb⟩ := hp2
    cases ht : (bef.getD y.1.ix 0).testBit a.ix with
    | true => exact .inl rfl
    | false =>
      right
      have h1 := List.all_eq_true.1 hc.1 y.1 (List.mem_of_getElem? hb)
      simp only [ht, Bool.false_or] at h1
      refine ⟨h1, ?_⟩
      by_cases hk : (a.cls = .pure ∨ y.1.cls = .pure ∨ (a.cls = .load ∧ y.1.cls = .load))
      · rcases hk with h | h | h
        · exact .inl h
        · exact .inr (.inl h)
        · exact .inr (.inr (.inl h))
      · have hm := prsFrom_mem (i := i) (j := i + 1) hb ht hk
        have := List.all_eq_true.1 hp.1 _ hm
        simp only [prOk] at this
        rw [← hfr p, hfb] at this
        have h0 : fsAll[i]? = some f := by have := hfs 0; simpa using this.symm
        rw [h0] at this
        simp only [Bool.and_eq_true] at this
        exact .inr (.inr (.inr this))
theorem opsG_len {n0 : Nat} : ∀ {os : List COper} {E E2 : EnvF} {M M2 : Mem} {fs : List FP}, opsG cf n0 os E M = some (E2, M2, fs) → fs.length = os.length ∧ M.length ≤ M2.length
  | [], E, E2, M, M2, fs, h => by simp only [opsG, Option.some.injEq, Prod.mk.injEq] at h; obtain ⟨_, rfl, rfl⟩ := h; exact ⟨rfl, Nat.le_refl _⟩
  | o :: os, E, E2, M, M2, fs, h => by
    simp only [opsG] at h
    split at h
    · rename_i v M' fp h1
      split at h
      · rename_i E3 M3 fs3 h2
        cases h
        obtain ⟨e1, e2⟩ := opsG_len h2
        exact ⟨by simp [e1], Nat.le_trans (step_len h1) e2⟩
      · cases h
    · cases h
theorem Step.of_same {k : Nat} {σ : Stab} {j : Inj} {M M' : Mem} {w w' : World} (hM : ∀ (id : Nat) (b : Blk), M[id]? = some (some b) → M'[id]? = some (some b)) (hw : w'.heap = w.heap) (hs : Side w w') : Step own k σ j M w σ j M' w' :=
  ⟨Stab.le_refl _, fun _ _ _ _ h => h, by rw [hw]; exact Nat.le_refl _, fun _ _ _ => by rw [hw], fun _ _ _ h => .inl h, fun id b _ hb => ⟨b, hM id b hb, Nat.le_refl _, fun _ => ⟨rfl, fun _ _ => by rw [hw]⟩⟩, hs⟩
theorem region_good (hF : AllIn F) (hcf : FnS P cf) (hmix : P.follows .mixedOrders = true) {an : Ann} {id : Nat} {ops : Array Oper} {draw : Bool} {nA : Nat} {cs : List COper} {prs : List (Nat × Nat)}
    (hc : compileRegion P an ntmps id ops.toList draw = some (nA, cs, prs)) {E E' : Env} {M M' : Mem} {fs : List FP} (hr : opsF cf M.length cs E (M ++ holes nA) = some (E', M', fs)) (hp : prs.all (prOk (M.length + nA) fs) = true)
    {σ : Stab} {j : Inj} {a : Act} {w : World} (hat : At own σ j E.get M ntmps a w)
    (hQ : ∀ a' w' σ' j', At own σ' j' E'.get M' ntmps a' w' → Step own M.length σ j M w σ' j' M' w' → M.length ≤ M'.length → a'.defers = a.defers → Q .normal a' w') : (Code.region id ops draw).wpIn F n P Q a w := by
  have hG := opsG_of hr
  obtain ⟨hfl, hlen⟩ := opsG_len hG
  simp only [List.length_append] at hlen
  have hholes : (holes nA).length = nA := by simp [holes]
  have hat1 : ∀ w1 : World, w1.heap = w.heap → At own σ j E.get (M ++ holes nA) ntmps a w1 := fun w1 hw =>
    ⟨hat.env, hat.size, hat.marks.heap hw, hat.agree.same hw, (hat.mem.holes nA).same hw, fun b hb => hat.own b (by rw [← hw]; exact hb)⟩
  have hst1 : ∀ w1 : World, w1.heap = w.heap → Side w w1 → Step own M.length σ j M w σ j (M ++ holes nA) w1 := fun w1 hw => Step.of_same (fun id b hb => by rw [List.getElem?_append_left (lt_of_get hb)]; exact hb) hw
  have hQ' : ∀ a' w' σ' j', At own σ' j' E'.get M' ntmps a' w' → Step own M.length σ j M w σ' j' M' w' → a'.defers = a.defers → Q .normal a' w' := fun a' w' σ' j' h1 h2 h3 => hQ a' w' σ' j' h1 h2 (by omega) h3
  unfold compileRegion at hc
  dsimp only at hc
  cases draw with
  | false =>
    simp only [Bool.false_eq_true, if_false] at hc
    split at hc
    · rename_i cs' hcs
      cases hc
      refine wpIn_region ?_
      have hrange : List.range ops.toList.length = List.range ops.size := by simp
      rw [hrange] at hcs
      exact text_good hF hcf hQ' hcs hG (by simp) (hat1 w rfl) (hst1 w rfl (Side.refl _)) rfl
    · cases hc
  | true =>
    simp only [if_true] at hc
    split at hc
    · rename_i cs' hcs
      split at hc
      · rename_i hok
        cases hc
        simp only [Bool.and_eq_true, decide_eq_true_eq] at hok
        obtain ⟨⟨⟨o1, o2⟩, o3⟩, o4⟩ := hok
        refine wpIn_region_any hmix ?_
        obtain ⟨l1, l2⟩ := compileOpers_spec hcs
        have hix := compileOpers_ix hcs
        have hzl : (cs.zip fs).map (·.1) = cs := by rw [List.map_fst_zip]; omega
        have hzr : (cs.zip fs).map (·.2) = fs := by rw [List.map_snd_zip]; omega
        have hzi : (cs.zip fs).map (·.1.ix) = schedule ops.toList ops.toList.length [] := by
          have : (cs.zip fs).map (·.1.ix) = ((cs.zip fs).map (·.1)).map (·.ix) := by rw [List.map_map]; rfl
          rw [this, hzl, hix]
        have hnd := nodupB_nodup o2
        have hmem : ∀ c ∈ cs, ∃ i, i ∈ schedule ops.toList ops.toList.length [] ∧ compileOper P ops.toList an.mode ntmps i = some c := fun c hcm => by
          obtain ⟨p, hp⟩ := List.getElem?_of_mem hcm
          obtain ⟨i, hi, hci⟩ := l2 p c hp
          exact ⟨i, List.mem_of_getElem? hi, hci⟩
        have hall : ∀ i, i < ops.size → i ∈ schedule ops.toList ops.toList.length [] := by
          have hsub : ∀ i ∈ schedule ops.toList ops.toList.length [], i < ops.size := by
            intro i hi
            rw [← hix] at hi
            obtain ⟨c, hcm, rfl⟩ := List.mem_map.1 hi
            obtain ⟨i', _, hci⟩ := hmem c hcm
            rw [(compileOper_ix hci).1]; exact (compileOper_ix hci).2
          intro i hi
          exact all_in hnd hsub (by rw [o1]; simp) hi
        refine any_good hF hcf (base := M.length + allocsBefore ops.toList ops.toList.length) (by omega) hQ' ops.size (Array.replicate ops.size false) (cs.zip fs) E.get _ a _ σ j ?_ (by simp) (fun i hi => ?_) (by rw [hzi]; exact hnd) (fun x hx => ?_) (pairs_of o4 hp (fun p => by simp)) (fun i hi h => ?_) ?_ (by rw [hzl, hzr]; exact hG) (by simp [holes]) (hat1 _ rfl) (hst1 _ rfl ⟨rfl, rfl, rfl, by first | exact Nat.le_refl _ | exact fun _ => Nat.le_succ _⟩) rfl
        · simp only [List.length_zip, hfl, Nat.min_self]; rw [l1, o1]; simp
        · rw [hzi]
          have := hall i hi
          simp only [Array.length_toList] at this ⊢
          simp [Array.getD, hi, this]
        · have hxm : x.1 ∈ cs := by rw [← hzl]; exact List.mem_map.2 ⟨x, hx, rfl⟩
          obtain ⟨i, _, hci⟩ := hmem _ hxm
          have := compileOper_ix hci
          exact ⟨by rw [this.1]; exact this.2, _, by rw [this.1]; exact hci⟩
        · simp [Array.getD, hi] at h
        · rw [hzi]
          exact (topoOk_topo o3).mono fun d hd => by cases hd
      · cases hc
    · cases hc
end
end Go.Eng
namespace Go.Eng
open Go
variable [RecP]
section
variable {own : Nat → Prop} {P : Program} {σ : Stab} {j : Inj} {M : Mem} {a : Act} {w : World} {ntmps : Nat}
theorem rnd_block {id l : Nat} {r : Loop} {f : FuncId} {sh : List (Nat × Bool × Nat)} {b : Blk} (hm : MR own σ j M w) (hj : j id 0 = some (.rnd l r f sh)) (hl : look M id 0 = some b) : M[id]? = some (some b) ∧ b.gen = 0 ∧ RB σ j b l r f sh w := by
  obtain ⟨h1, h2⟩ := look_some hl
  obtain ⟨pl, h3, h4, _⟩ := hm.blkP id b h1
  rw [← h2, hj] at h3
  cases h3
  exact ⟨h1, h2.symm, h4⟩
theorem stAt_some {id : Nat} {s : Int} (h : stAt M id = some s) : ∃ b cells, look M id 0 = some b ∧ b.rows = [.int .i64 s :: cells] ∧ capsAt M id = some cells := by
  grind [stAt, capsAt]
theorem setSt_some {id : Nat} {s s' : Int} {M' : Mem} (h : setSt M id s s' = some M') : ∃ b cells, look M id 0 = some b ∧ b.rows = [.int .i64 s :: cells] ∧ M' = M.set id (some { b with rows := [.int .i64 s' :: cells], ver := b.ver + 1 }) := by
  grind [setSt]
theorem setSt_good {id l : Nat} {r : Loop} {f : FuncId} {sh : List (Nat × Bool × Nat)} {s s' : Int} {M' : Mem} {pd : Option Code} (hag : Agree σ w) (hm : MR own σ j M w) (hj : j id 0 = some (.rnd l r f sh)) (h : setSt M id s s' = some M') (hpd : s' ≠ -1 → pd = pendOf s') :
    Agree σ (w.putObj l (.loop { r with state := stateOf s', pending := pd })) ∧ MR own σ j M' (w.putObj l (.loop { r with state := stateOf s', pending := pd })) ∧
    Step own M.length σ j M w σ j M' (w.putObj l (.loop { r with state := stateOf s', pending := pd })) := by
  obtain ⟨b, cells, hlk, hrows, rfl⟩ := setSt_some h
  obtain ⟨hb, hg, hrb⟩ := rnd_block hm hj hlk
  obtain ⟨s0, cells0, pd0, vs, h1, h2, h3, h4, h5⟩ := hrb.st
  rw [hrows] at h1
  cases h1
  have hll : l < w.heap.size := (Array.getElem?_eq_some_iff.1 h2).1
  have hother : ∀ k, k ≠ l → (w.putObj l (.loop { r with state := stateOf s', pending := pd })).heap[k]? = w.heap[k]? := fun k hk => World.putObj_heap_other hk
  have hjb : j id b.gen = some (.rnd l r f sh) := by grind
  have hne : ∀ k x q, k ≠ id → M[k]? = some (some x) → j.atk k x.gen = some q → q ≠ l := fun k x q hk hx hq e => hk (hm.injP k id x b q hx hb hq (by grind [Inj.atk_rnd]))
  have get : ∀ k x, (M.set id (some { b with rows := [.int .i64 s' :: cells], ver := b.ver + 1 }))[k]? = some (some x) → (k = id ∧ x = { b with rows := [.int .i64 s' :: cells], ver := b.ver + 1 }) ∨ (k ≠ id ∧ M[k]? = some (some x)) := by
    grind
  refine ⟨?_, ⟨fun k x hx => ?_, fun k k' x x' q hx hx' hq hq' => ?_, fun k g pl hk => ?_, hm.okP⟩, ?_⟩
  · refine ⟨?_, hag.glob⟩
    intro k o v hv
    have hold := hag.cells k o v hv
    grind [World.cell?]
  · rcases get k x hx with ⟨rfl, rfl⟩ | ⟨hk, hx⟩
    · obtain ⟨pl, hpl, _, ho⟩ := hm.blkP k b hb
      rw [hjb] at hpl; cases hpl
      exact ⟨_, hjb, (⟨hrb.box, hrb.ok, s', cells, pd, vs, rfl, World.putObj_heap_same hll, hpd, h4, h5⟩ : RB σ j { b with rows := [.int .i64 s' :: cells], ver := b.ver + 1 } l r f sh _), ho⟩
    · obtain ⟨pl, hpl, hbr, ho⟩ := hm.blkP k x hx
      exact ⟨pl, hpl, hbr.mono (Stab.le_refl _) (Inj.le_refl _) (fun q e => hother q (hne k x q hk hx (Inj.atk_of hpl e))) (fun _ _ _ h _ _ => h), ho⟩
  · rcases get k x hx with ⟨rfl, rfl⟩ | ⟨hk, hx1⟩ <;> rcases get k' x' hx' with ⟨rfl, rfl⟩ | ⟨hk', hx1'⟩
    · rfl
    · exact hm.injP k k' b x' q hb hx1' hq hq'
    · exact hm.injP k k' x b q hx1 hb hq hq'
    · exact hm.injP k k' x x' q hx1 hx1' hq hq'
  · obtain ⟨x, hx, hgx⟩ := hm.dom k g pl hk
    grind
  · have hown : own l := hm.ownP hb (Inj.atk_rnd hjb)
    refine ⟨Stab.le_refl _, fun _ _ _ _ h => h, by simp, fun k _ ho => hother k (fun e => ho (e ▸ hown)), fun _ _ _ h => .inl h, fun k x hk hx => ?_, ⟨rfl, rfl, rfl, fun _ => Nat.le_refl _⟩⟩
    grind
theorem caps_env {tmps : Array Value} : ∀ {sh : List (Nat × Bool × Nat)} {cells : List Cl} {vs : List Value} {E0 : Env}, unshape sh cells = some E0 → VCs σ j cells vs → CapV tmps sh vs → EnvR σ j E0.get tmps
  | [], cells, vs, E0, h, hv, hc => by
    simp only [unshape, Option.some.injEq] at h
    intro n x hx
    grind [Env.get]
  | (n, g, k) :: sh, cells, vs, E0, h, hv, hc => by
    simp only [unshape] at h
    split at h
    · rename_i v E h1 h2
      cases h
      obtain ⟨hc1, hc2⟩ := hc
      have ih := caps_env h2 (hv.drop k) hc2
      intro m x hx
      simp only [Env.get] at hx
      split at hx
      · rename_i hm
        cases hx
        subst hm
        cases g with
        | true =>
          simp only [ofCells, if_true, Option.some.injEq] at h1
          subst h1
          exact ⟨_, hc1, _, rfl, by simpa using hv.take k⟩
        | false =>
          obtain ⟨rfl, hc1⟩ := hc1
          simp only [ofCells, Bool.false_eq_true, if_false] at h1
          cases cells with
          | nil => grind
          | cons y ys =>
            cases h1
            obtain ⟨u, us, rfl, hu, _⟩ := hv.uncons
            exact ⟨u, by grind, hu⟩
      · exact ih m x hx
    grind
theorem capOf_good {tmps : Array Value} {E : Env} (hE : EnvR σ j E.get tmps) : ∀ caps : List Nat, ∃ vs, VCs σ j (capOf E caps).2 vs ∧ CapV tmps (capOf E caps).1 vs
  | [] => ⟨[], VCs.nil, trivial⟩
  | n :: ns => by
    obtain ⟨vs, h1, h2⟩ := capOf_good hE ns
    simp only [capOf]
    split
    · rename_i x hx
      obtain ⟨u, hu, hr⟩ := hE n _ hx
      exact ⟨u :: vs, VCs.cons hr h1, ⟨rfl, by grind⟩, by grind⟩
    · rename_i cs hx
      obtain ⟨u, hu, arr, rfl, hr⟩ := hE n _ hx
      have hl : cs.length = arr.toList.length := hr.1
      refine ⟨arr.toList ++ vs, hr.append h1, ?_, ?_⟩
      · simp_all
      grind
    grind
theorem params_env {E0 : Env} : ∀ {ps : List Nat} {as : List WV} {vs : List Value} {tmps : Array Value}, ps.Nodup → (∀ p ∈ ps, p < tmps.size) → as.length = ps.length → WVRs σ j as vs → EnvR σ j E0.get tmps →
    EnvR σ j (zipE ps as ++ E0).get ((ps.zip vs).foldl (fun t (x : Nat × Value) => t.setIfInBounds x.1 x.2) tmps) ∧ ((ps.zip vs).foldl (fun t (x : Nat × Value) => t.setIfInBounds x.1 x.2) tmps).size = tmps.size ∧
      ∀ k, k ∉ ps → ((ps.zip vs).foldl (fun t (x : Nat × Value) => t.setIfInBounds x.1 x.2) tmps)[k]? = tmps[k]?
  | [], as, vs, tmps, hn, hp, hl, hv, hE => by
    simp_all [zipE]
  | p :: ps, as, vs, tmps, hn, hp, hl, hv, hE => by
    cases as with
    | nil => grind
    | cons x as =>
      obtain ⟨v, vs', rfl, h1, h2⟩ := hv.uncons
      obtain ⟨hnp, hn'⟩ := List.nodup_cons.1 hn
      have key : ∀ (E1 : Env), EnvR σ j E1.get (tmps.setIfInBounds p v) → EnvR σ j (zipE ps as ++ E1).get ((ps.zip vs').foldl (fun t (x : Nat × Value) => t.setIfInBounds x.1 x.2) (tmps.setIfInBounds p v)) ∧
          ((ps.zip vs').foldl (fun t (x : Nat × Value) => t.setIfInBounds x.1 x.2) (tmps.setIfInBounds p v)).size = (tmps.setIfInBounds p v).size ∧ ∀ k, k ∉ ps → ((ps.zip vs').foldl (fun t (x : Nat × Value) => t.setIfInBounds x.1 x.2) (tmps.setIfInBounds p v))[k]? = (tmps.setIfInBounds p v)[k]? :=
        fun E1 hE1 => params_env hn' (fun q hq => by grind) (by grind) h2 hE1
      have hpt : p < tmps.size := hp p (List.mem_cons_self ..)
      have hE1 : EnvR σ j (Env.get (E0.filter (fun (x : Nat × AV) => x.1 != p))) (tmps.setIfInBounds p v) := by
        intro m y hy
        have : m ≠ p ∧ E0.get m = some y := by
          clear key hE
          induction E0 with
          | nil => grind [Env.get]
          | cons e E0 ih =>
            simp only [List.filter_cons] at hy
            split at hy
            · rename_i hep
              simp only [Env.get] at hy ⊢
              grind
            · rename_i hep
              obtain ⟨q1, q2⟩ := ih hy
              refine ⟨q1, ?_⟩
              simp only [Env.get]
              rw [if_neg]
              · exact q2
              grind
        obtain ⟨u, hu, hr⟩ := hE m y this.2
        grind
      obtain ⟨q1, q2, q3⟩ := key _ hE1
      refine ⟨?_, by simp_all, fun k hk => ?_⟩
      · intro m y hy
        simp only [zipE, List.cons_append, Env.get] at hy
        simp only [List.zip_cons_cons, List.foldl_cons]
        split at hy
        · rename_i hm
          cases hy
          subst hm
          exact ⟨v, by grind, h1⟩
        · rename_i hm
          refine q1 m y ?_
          have gen : ∀ (Z : Env), Env.get (Z ++ E0) m = some y → Env.get (Z ++ E0.filter (fun (x : Nat × AV) => x.1 != p)) m = some y := by
            intro Z
            induction Z with
            | nil =>
              simp only [List.nil_append]
              clear key q1 q2 q3 hE hE1 hy
              induction E0 with
              | nil => grind
              | cons e E0 ih =>
                intro h
                simp only [Env.get] at h
                simp only [List.filter_cons]
                split at h
                · simp_all [Ne.symm, if_pos, Env.get]
                · rename_i hem
                  split
                  · simp_all [Env.get, if_neg]
                  grind
            | cons z Z ih =>
              intro h
              simp only [List.cons_append, Env.get] at h ⊢
              grind
          grind
      simp_all [List.mem_cons, not_or, List.zip_cons_cons, List.foldl_cons, Array.getElem?_setIfInBounds_ne, Ne.symm]
theorem zip_foldl (ps : Array Nat) (vs : Array Value) (tmps : Array Value) : (ps.zip vs).foldl (fun (tmps : Array Value) (x : Nat × Value) => tmps.setIfInBounds x.1 x.2) tmps = (ps.toList.zip vs.toList).foldl (fun t (x : Nat × Value) => t.setIfInBounds x.1 x.2) tmps := by
  rw [← Array.foldl_toList]; simp
theorem Side.push_obj {w w' : World} {o : Obj} (h : w'.heap = w.heap.push o) (ho : w'.os = w.os) (hp : w'.output = w.output) (hno : ∀ C T f, o ≠ .cells C T f) (ht : w'.tape = w.tape := by rfl) (hd : w.drawn ≤ w'.drawn := by first | exact Nat.le_refl _ | exact Nat.le_succ _) : Side w w' := by
  exact ⟨ho, hp, ht, fun _ => hd⟩
theorem lay_rnd {r : Loop} {f : FuncId} {caps : List Nat} {E : Env} (hst : r.state = .ready) (hpd : r.pending = none) (hok : RecP.ok f r) (hE : EnvR σ j E.get r.tmps) (hag : Agree σ w) (hm : MR own σ j M w) (hown : ∀ b, w.heap.size ≤ b → own b) :
    ∃ j', j' M.length 0 = some (.rnd (w.heap.size + 1) r f (capOf E caps).1) ∧ Agree σ ((w.alloc (.deferred (some []))).alloc (.loop r)) ∧ MR (fun k => own k ∧ k ≠ w.heap.size) σ j' (M ++ [some (ghost (capOf E caps).2)]) ((w.alloc (.deferred (some []))).alloc (.loop r)) ∧
      Step own M.length σ j M w σ j' (M ++ [some (ghost (capOf E caps).2)]) ((w.alloc (.deferred (some []))).alloc (.loop r)) := by
  generalize hw1 : (w.alloc (.deferred (some []))).alloc (.loop r) = w1
  have hheap : w1.heap = (w.heap.push (.deferred (some []))).push (.loop r) := by rw [← hw1]; rfl
  have hold : ∀ k, k < w.heap.size → w1.heap[k]? = w.heap[k]? := fun k hk => by
    grind
  have hl : w1.heap[w.heap.size + 1]? = some (.loop r) := by
    grind
  have hside : Side w w1 := by
    rw [← hw1]
    exact (Side.push_obj (w' := w.alloc (.deferred (some []))) rfl rfl rfl (by grind)).trans (Side.push_obj (w' := (w.alloc (.deferred (some []))).alloc (.loop r)) rfl rfl rfl (by grind))
  have hhole : (M ++ holes 1)[M.length]? = some none := by simp [holes]
  have hlt : M.length < (M ++ holes 1).length := by grind
  have hset : (M ++ holes 1).set M.length (some (ghost (capOf E caps).2)) = M ++ [some (ghost (capOf E caps).2)] := by simp [holes]
  obtain ⟨vs, hvs, hcv⟩ := capOf_good hE caps
  have hm0 : MR (fun k => own k ∧ k ≠ w.heap.size) σ j (M ++ holes 1) w := (hm.own_mono' (fun b hb ho => ⟨ho, by omega⟩)).holes 1
  have hnone : j M.length 0 = none := by
    cases h : j M.length 0 with
    | none => rfl
    | some pl => exact absurd (hm.lt h) (Nat.lt_irrefl _)
  have hle := Inj.le_put (pl := .rnd (w.heap.size + 1) r f (capOf E caps).1) hnone
  obtain ⟨_, hm1⟩ := hm0.renew (w' := w1) (id := M.length) (b' := ghost (capOf E caps).2) (pl' := .rnd (w.heap.size + 1) r f (capOf E caps).1) hlt (fun b hb => by grind)
    (fun k b q _ hb hq => by
      have := hm0.heapLtP hb hq
      exact ⟨hold q this, fun e => by cases e; omega⟩)
    (⟨rfl, hok, 0, (capOf E caps).2, none, vs, rfl, by rw [hl]; obtain ⟨st, pd, _⟩ := r; cases hst; cases hpd; rfl, fun _ => rfl, hvs.mono (Stab.le_refl _) hle, hcv⟩ : RB σ _ (ghost (capOf E caps).2) _ r f _ w1)
    (fun k e => by cases e; grind)
  rw [hset] at hm1
  refine ⟨_, Inj.put_at _ _ _ _, hag.of_blocks (fun b o v hv => hold b (hag.lt hv)), hm1, Stab.le_refl _, fun id g pl _ h => hle id g pl h, by grind, fun k hk _ => hold k hk, fun _ _ _ h => .inl h, fun id b hid hb => ⟨b, ?_, Nat.le_refl _, fun _ => ⟨rfl, fun q hq => hold q (hm.heapLtP hb hq)⟩⟩, hside⟩
  grind
end
end Go.Eng
namespace Go.Eng
open Go
section
variable [GlobP]
def CodeOK (K : FuncId → Array Tmp → Code → Code → Nat → Prop) (P : Program) (an : Ann) (ntmps : Nat) : Code → CC → Prop
  | .skip, .skip => True
  | .region id ops draw, .region nA cs prs _ => compileRegion P an ntmps id ops.toList draw = some (nA, cs, prs)
  | .seq a b, .seq a' b' => CodeOK K P an ntmps a a' ∧ CodeOK K P an ntmps b b'
  | .cond c a b, .cond c' a' b' => opdOf c = some c' ∧ CodeOK K P an ntmps a a' ∧ CodeOK K P an ntmps b b'
  | .block id b, .block id' b' => id = id' ∧ CodeOK K P an ntmps b b'
  | .loop b, .loop _ b' => CodeOK K P an ntmps b b'
  | .exit id, .exit id' => id = id'
  | .ret, .ret => True
  | .label _, .skip => True
  | .scope b, .seq b' c' => c' = .skip ∧ CodeOK K P an ntmps b b'
  | .rangeFunc g ps a b, .rng f v _ => opdOf g = some f ∧ K v ps a b ntmps
  | _, _ => False
def noK : FuncId → Array Tmp → Code → Code → Nat → Prop := fun _ _ _ _ _ => False
def RndOK (P : Program) (T : FuncId → Option CFn) (v : FuncId) (ps : Array Tmp) (a b : Code) (n : Nat) : Prop :=
  ∃ c pre an, T v = some c ∧ c.rnd = some (ps.toList, pre) ∧ CodeOK noK P an n a pre ∧ CodeOK noK P an n b c.code ∧ ps.toList.Nodup ∧ ∀ p ∈ ps.toList, p < n
end
variable [RecP]
theorem CodeOK.mono {K K' : FuncId → Array Tmp → Code → Code → Nat → Prop} {P : Program} {an : Ann} {ntmps : Nat} (hK : ∀ v ps a b, K v ps a b ntmps → K' v ps a b ntmps) : ∀ {c : Code} {cc : CC}, CodeOK K P an ntmps c cc → CodeOK K' P an ntmps c cc
  | .skip, cc, h => by cases cc <;> simp only [CodeOK] at h ⊢
  | .region .., cc, h => by cases cc <;> simp only [CodeOK] at h ⊢; grind
  | .seq a b, cc, h => by cases cc <;> simp only [CodeOK] at h ⊢; exact ⟨CodeOK.mono hK h.1, CodeOK.mono hK h.2⟩
  | .cond c a b, cc, h => by cases cc <;> simp only [CodeOK] at h ⊢; exact ⟨h.1, CodeOK.mono hK h.2.1, CodeOK.mono hK h.2.2⟩
  | .block id b, cc, h => by cases cc <;> simp only [CodeOK] at h ⊢; exact ⟨h.1, CodeOK.mono hK h.2⟩
  | .loop b, cc, h => by cases cc <;> simp only [CodeOK] at h ⊢; exact CodeOK.mono hK h
  | .exit id, cc, h => by cases cc <;> simp only [CodeOK] at h ⊢; grind
  | .ret, cc, h => by cases cc <;> simp only [CodeOK] at h ⊢
  | .label l, cc, h => by cases cc <;> simp only [CodeOK] at h ⊢
  | .rangeFunc g ps a b, cc, h => by cases cc <;> simp only [CodeOK] at h ⊢; grind
  | .goto l, cc, h => by cases cc <;> simp only [CodeOK] at h
  | .scope b, cc, h => by cases cc <;> simp only [CodeOK] at h ⊢; exact ⟨h.1, CodeOK.mono hK h.2⟩
theorem rfs_len : ∀ c : Code, (rfs c).length = countR c
  | .seq a b => by simp [rfs, countR, rfs_len a, rfs_len b]
  | .cond c a b => by simp [rfs, countR, rfs_len a, rfs_len b]
  | .block id b => by simp [rfs, countR, rfs_len b]
  | .loop b => by simp [rfs, countR, rfs_len b]
  | .scope b => by simp [rfs, countR, rfs_len b]
  | .rangeFunc g ps a b => by simp [rfs, countR]
  | .skip => rfl
  | .region .. => rfl
  | .exit _ => rfl
  | .ret => rfl
  | .label _ => rfl
  | .goto _ => rfl
  | .refuse _ => rfl
theorem compileC_ok {K : FuncId → Array Tmp → Code → Code → Nat → Prop} {P : Program} {an : Ann} {ntmps : Nat} : ∀ {vf : Option FuncId} {c : Code} {cc : CC}, compileC P an ntmps vf c = some cc →
    (∀ v i x, vf = some v → (rfs c)[i]? = some x → K (v + i) x.1 x.2.1 x.2.2 ntmps) → CodeOK K P an ntmps c cc
  | vf, .skip, cc, h, hK => by simp only [compileC, Option.some.injEq] at h; subst h; trivial
  | vf, .region id ops draw, cc, h, hK => by
    simp only [compileC] at h
    split at h
    · rename_i h1; cases h; exact h1
    grind
  | vf, .seq a b, cc, h, hK => by
    simp only [compileC] at h
    split at h
    · rename_i a' b' h1 h2
      cases h
      refine ⟨compileC_ok h1 fun v i x hv hx => hK v i x hv (by grind [rfs, List.getElem?_append_left, lt_of_get]), compileC_ok h2 fun v i x hv hx => ?_⟩
      simp only [Option.map_eq_some_iff] at hv
      obtain ⟨v0, hv0, rfl⟩ := hv
      simp_all [countR, rfs, List.getElem?_append_right, rfs_len, Nat.add_assoc]
    grind
  | vf, .cond c a b, cc, h, hK => by
    simp only [compileC] at h
    split at h
    · rename_i c' a' b' h0 h1 h2
      cases h
      refine ⟨h0, compileC_ok h1 fun v i x hv hx => hK v i x hv (by grind [rfs, List.getElem?_append_left, lt_of_get]), compileC_ok h2 fun v i x hv hx => ?_⟩
      simp only [Option.map_eq_some_iff] at hv
      obtain ⟨v0, hv0, rfl⟩ := hv
      simp_all [countR, rfs, List.getElem?_append_right, rfs_len, Nat.add_assoc]
    grind
  | vf, .block id b, cc, h, hK => by
    simp only [compileC, Option.map_eq_some_iff] at h
    obtain ⟨b', h1, rfl⟩ := h
    exact ⟨rfl, compileC_ok h1 hK⟩
  | vf, .loop b, cc, h, hK => by
    simp only [compileC, Option.map_eq_some_iff] at h
    obtain ⟨b', h1, rfl⟩ := h
    have := compileC_ok h1 hK
    exact this
  | vf, .exit id, cc, h, hK => by simp only [compileC, Option.some.injEq] at h; subst h; exact rfl
  | vf, .ret, cc, h, hK => by simp only [compileC, Option.some.injEq] at h; subst h; trivial
  | vf, .label l, cc, h, hK => by simp only [compileC, Option.some.injEq] at h; subst h; trivial
  | vf, .goto l, cc, h, hK => by simp [compileC] at h
  | vf, .scope b, cc, h, hK => by
    simp only [compileC, Option.map_eq_some_iff] at h
    obtain ⟨b', h1, rfl⟩ := h
    exact ⟨rfl, compileC_ok h1 hK⟩
  | vf, .refuse b, cc, h, hK => by simp [compileC] at h
  | vf, .rangeFunc g ps a b, cc, h, hK => by
    simp only [compileC] at h
    split at h
    · rename_i v f a' b' hf h1 h2
      cases h
      have := hK v 0 (ps, a, b) rfl rfl
      exact ⟨hf, this⟩
    grind
theorem annot_ok {K : FuncId → Array Tmp → Code → Code → Nat → Prop} {P : Program} {an : Ann} {ntmps : Nat} : ∀ {c : Code} {cc : CC} {l : List Nat} {ex : List (Nat × List Nat)} {rt : List Nat}, CodeOK K P an ntmps c cc → CodeOK K P an ntmps c (annot cc l ex rt)
  | c, .skip, l, ex, rt, h => by grind [annot]
  | c, .region nA cs prs k, l, ex, rt, h => by cases c <;> simp only [CodeOK, annot] at h ⊢; grind
  | c, .seq a b, l, ex, rt, h => by
    cases c <;> simp only [CodeOK, annot] at h ⊢
    · exact ⟨annot_ok h.1, annot_ok h.2⟩
    · obtain ⟨rfl, h⟩ := h
      exact ⟨rfl, annot_ok h⟩
  | c, .cond x a b, l, ex, rt, h => by cases c <;> simp only [CodeOK, annot] at h ⊢; exact ⟨h.1, annot_ok h.2.1, annot_ok h.2.2⟩
  | c, .block i b, l, ex, rt, h => by cases c <;> simp only [CodeOK, annot] at h ⊢; exact ⟨h.1, annot_ok h.2⟩
  | c, .loop k b, l, ex, rt, h => by cases c <;> simp only [CodeOK, annot] at h ⊢; exact annot_ok h
  | c, .exit i, l, ex, rt, h => by grind [annot]
  | c, .ret, l, ex, rt, h => by grind [annot]
  | c, .rng f v caps, l, ex, rt, h => by grind [annot]
theorem keep_get {E : Env} {n : Nat} {v : AV} : ∀ {l : List Nat}, (E.keep l).get n = some v → E.get n = some v
  | [], h => by grind [Env.keep, Env.get]
  | m :: l, h => by
    simp only [Env.keep] at h
    split at h
    · simp only [Env.get] at h
      split at h
      · grind
      · exact keep_get h
    · exact keep_get h
theorem kept_get {E : Env} {n : Nat} {v : AV} {k : Option (List Nat)} (h : (E.kept k).get n = some v) : E.get n = some v := by
  cases k with
  | none => exact h
  | some l => exact keep_get h
theorem get_mem {E : Env} {n : Nat} {v : AV} (h : E.get n = some v) : (n, v) ∈ E := by
  induction E with
  | nil => grind [Env.get]
  | cons x E ih =>
    grind [Env.get, List.mem_cons_self, List.mem_cons_of_mem]
section
variable {own : Nat → Prop} {P : Program} {cf : CallF} {ntmps : Nat} {F : Fence} {n : Nat} {Q : Exit → Act → World → Prop} {σ : Stab} {j : Inj} {M : Mem} {a : Act} {w : World}
theorem At.sub {E E' : EnvF} (h : At own σ j E M ntmps a w) (hs : ∀ n v, E' n = some v → E n = some v) : At own σ j E' M ntmps a w :=
  ⟨fun n x hx => h.env n x (hs n x hx), h.size, h.marks, h.agree, h.mem, h.own⟩
def cutJ (k : Nat) (j : Inj) : Inj := fun id g => if id < k then j id g else none
theorem drop0_good {E : Env} {k : Nat} (h : At own σ j E.get M ntmps a w) (hk : k ≤ M.length) : ∃ j', At own σ j' E.get (drop0 k E M) ntmps a w ∧ Step own k σ j M w σ j' (drop0 k E M) w ∧ k ≤ (drop0 k E M).length := by
  unfold drop0
  split
  · grind [Step.refl]
  · split
    · rename_i hb
      simp only [Bool.and_eq_true] at hb
      let ρ : Nat → Option Nat := fun id => if id < k then some id else none
      have hkb : KeepsBelow ρ k := fun id hid => by grind
      have hren : RenOK ρ j (cutJ k j) := by
        intro id id' g pl h1 h2
        grind [cutJ]
      have get : ∀ (id : Nat) (b : Blk), (M.take k)[id]? = some (some b) → id < k ∧ M[id]? = some (some b) := by
        grind
      have put : ∀ (id : Nat) (b : Blk), id < k → M[id]? = some (some b) → (M.take k)[id]? = some (some b) := by
        grind
      have cutk : ∀ id g, id < k → cutJ k j id g = j id g := fun id g hid => by grind [cutJ]
      refine ⟨cutJ k j, ⟨fun m x hx => ?_, h.size, h.marks, h.agree, ⟨fun id b hb' => ?_, fun id id' b b' q hb1 hb2 hL hL' => ?_, fun id g pl hj => ?_, fun id g pl hj => by
        simp only [cutJ] at hj
        split at hj
        · exact h.mem.okP _ _ _ hj
        grind⟩, h.own⟩, ?_, by grind⟩
      · obtain ⟨v, hv, hr⟩ := h.env m x hx
        refine ⟨v, hv, renA_sound hren (renA_below hkb ?_) hr⟩
        have := List.all_eq_true.1 hb.1 _ (get_mem hx)
        grind
      · obtain ⟨hid, hb1⟩ := get id b hb'
        obtain ⟨pl, h1, h2, h3⟩ := h.mem.blkP id b hb1
        refine ⟨pl, by grind, renB_sound hren (renB_below hkb ?_) h2, h3⟩
        have := hb.2
        simp only [memBelow, List.all_eq_true] at this
        exact this (some b) (List.mem_of_getElem? hb')
      · obtain ⟨hid, hb1⟩ := get id b hb1
        obtain ⟨hid', hb2⟩ := get id' b' hb2
        have hL : j.atk id b.gen = some q := by grind [Inj.atk]
        have hL' : j.atk id' b'.gen = some q := by grind [Inj.atk]
        exact h.mem.injP id id' b b' q hb1 hb2 hL hL'
      · simp only [cutJ] at hj
        split at hj
        · obtain ⟨b, hb1, hg⟩ := h.mem.dom id g pl hj
          grind
        grind
      · exact ⟨Stab.le_refl _, fun id g pl hid hj => by grind, Nat.le_refl _, fun _ _ _ => rfl, fun _ _ _ h => .inl h, fun id b hid hb1 => ⟨b, put id b hid hb1, Nat.le_refl _, fun _ => ⟨rfl, fun _ _ => rfl⟩⟩, Side.refl _⟩
    grind [Step.refl]
theorem canon_good {E : Env} {k : Nat} {live : Option (List Nat)} (h : At own σ j E.get M ntmps a w) (hk : k ≤ M.length) :
    ∃ j', At own σ j' (canon k live E M).1.get (canon k live E M).2 ntmps a w ∧ Step own k σ j M w σ j' (canon k live E M).2 w ∧ k ≤ (canon k live E M).2.length := by
  cases live with
  | none => exact ⟨j, h, Step.refl, hk⟩
  | some l => exact drop0_good (E := E.keep l) (h.sub fun n v hv => keep_get hv) hk
def exitOf : EX → Exit
  | .normal => .normal
  | .exit id => .exit id
  | .ret => .ret
def Post (own : Nat → Prop) (k : Nat) (σ : Stab) (j : Inj) (M : Mem) (w : World) (ntmps : Nat) (ds : List Deferred) (ex : EX) (E' : Env) (M' : Mem) : Exit → Act → World → Prop :=
  fun e a' w' => e = exitOf ex ∧ ∃ own' σ' j', (∀ b, own' b → own b) ∧ (∀ d ∈ a'.defers, d ∈ ds ∨ ∃ r, d = mkMark r ∧ own r ∧ w.heap.size ≤ r) ∧ At own' σ' j' E'.get M' ntmps a' w' ∧ Step own k σ j M w σ' j' M' w' ∧ k ≤ M'.length
theorem least {p : Nat → Prop} (h : ∃ n, p n) : ∃ n, p n ∧ ∀ m, p m → n ≤ m := by
  obtain ⟨n, hn⟩ := h
  induction n using Nat.strongRecOn with
  | _ n ih =>
    grind
open Classical in
noncomputable def leastOf (p : Nat → Prop) : Nat := if h : ∃ n, p n then (least h).choose else 0
theorem leastOf_spec {p : Nat → Prop} {n : Nat} (h : p n) : p (leastOf p) ∧ leastOf p ≤ n := by
  have hx : ∃ n, p n := ⟨n, h⟩
  grind [leastOf]
theorem wpIn_loop_fuel {c : Code} (J : Nat → Act → World → Prop) {m : Nat} (h : J m a w)
    (round : ∀ m a w, J m a w → ∃ m', m = m' + 1 ∧ c.wpIn F n P (Exit.then (J m') Q) a w) : (Code.loop c).wpIn F n P Q a w := by
  refine wpIn_loop (fun a w => ∃ m, J m a w) (fun a w => leastOf fun m => J m a w) ⟨m, h⟩ ?_
  rintro a w ⟨m, hm⟩
  obtain ⟨h1, _⟩ := leastOf_spec (p := fun m => J m a w) hm
  obtain ⟨m', he, hw⟩ := round _ a w h1
  refine wpIn_mono hw fun e a' w' hq => ?_
  cases e with
  | normal =>
    refine ⟨⟨m', hq⟩, ?_⟩
    have := (leastOf_spec (p := fun m => J m a' w') hq).2
    omega
  | _ => exact hq
theorem stepR_scope {P : Program} {b : Frame} {a : Act} {k : List Item} {cs : List Frame} {w : World} {c : Code} : step P (lone (b.atR a (.code (.scope c) :: k)) cs w) = .next (lone (b.atR a (.code c :: .inScope c :: k)) cs w) :=
  step_lone_go (by simp [stepG, stepG.exec, Frame.atR])
theorem stepR_inScope {P : Program} {b : Frame} {a : Act} {k : List Item} {cs : List Frame} {w : World} {c : Code} : step P (lone (b.atR a (.inScope c :: k)) cs w) = .next (lone (b.atR a k) cs w) :=
  step_lone_go (by simp [stepG, stepG.exec, Frame.atR])
theorem wpIn_scope {F : Fence} {n : Nat} {P : Program} {Q : Exit → Act → World → Prop} {a : Act} {w : World} {c : Code} (h : c.wpIn F n P (fun e a w => (∀ l, e ≠ .goto l) ∧ Q e a w) a w) : (Code.scope c).wpIn F n P Q a w := by
  intro b k cs hro hb hr
  have h0 : (lone (b.atR a (.code (.scope c) :: k)) cs w).fenced P F := fenced_calm hb hr rfl
  obtain ⟨e, a₁, w₁, ⟨hg, hq⟩, harr⟩ := h b (.inScope c :: k) cs hro hb hr
  cases e with
  | normal => exact ⟨.normal, a₁, w₁, hq, .head h0 stepR_scope (StepsIn.trans harr (.one (fenced_calm hb hr rfl) stepR_inScope))⟩
  | exit id =>
    have hx : exitTo id (.inScope c :: k) = exitTo id k := by simp [exitTo]
    exact ⟨_, a₁, w₁, hq, fun k' hk => .head h0 stepR_scope (harr.1 k' (by grind)),
      fun hr' hk => let ⟨k₁, h1, h2⟩ := harr.2 hr' (by grind); ⟨k₁, h1, .head h0 stepR_scope h2⟩⟩
  | goto l => grind
  | ret => exact ⟨_, a₁, w₁, hq, .of_steps (.one h0 stepR_scope) harr⟩
  | panic ch => exact ⟨_, a₁, w₁, hq, .of_steps (.one h0 stepR_scope) harr⟩
  | outgrown => exact ⟨_, a₁, w₁, hq, .of_steps (.one h0 stepR_scope) harr⟩
theorem Post.trans {own own1 : Nat → Prop} {k : Nat} {σ σ1 : Stab} {j j1 : Inj} {M M1 : Mem} {w w1 : World} {ds ds1 : List Deferred} {ex : EX} {E' : Env} {M' : Mem} {e : Exit} {a' : Act} {w' : World} (ho : ∀ b, own1 b → own b) (hd : ∀ d ∈ ds1, d ∈ ds ∨ ∃ r, d = mkMark r ∧ own r ∧ w.heap.size ≤ r)
    (hst : Step own k σ j M w σ1 j1 M1 w1) (hk : k ≤ M1.length) (h : Post own1 M1.length σ1 j1 M1 w1 ntmps ds1 ex E' M' e a' w') : Post own k σ j M w ntmps ds ex E' M' e a' w' := by
  obtain ⟨rfl, own2, σ2, j2, q1, q2, q3, q4, q5⟩ := h
  refine ⟨rfl, own2, σ2, j2, fun b hb => ho b (q1 b hb), fun d hd' => ?_, q3, hst.trans ((q4.own_mono ho).le hk), Nat.le_trans hk q5⟩
  rcases q2 d hd' with h | ⟨r, h1, h2, h3⟩
  · grind
  · exact .inr ⟨r, h1, ho r h2, Nat.le_trans hst.size h3⟩
def noR : CC → Bool
  | .seq a b | .cond _ a b => noR a && noR b
  | .block _ b | .loop _ b => noR b
  | .rng .. => false
  | _ => true
theorem noR_of {P : Program} {an : Ann} : ∀ {c : Code} {cc : CC}, CodeOK noK P an ntmps c cc → noR cc = true
  | c, .skip, h => rfl
  | c, .region .., h => rfl
  | c, .seq a b, h => by
    cases c <;> simp only [CodeOK, noR, Bool.and_eq_true] at h ⊢
    · exact ⟨noR_of h.1, noR_of h.2⟩
    · obtain ⟨rfl, h⟩ := h
      exact ⟨noR_of h, rfl⟩
  | c, .cond x a b, h => by cases c <;> simp only [CodeOK, noR, Bool.and_eq_true] at h ⊢; exact ⟨noR_of h.2.1, noR_of h.2.2⟩
  | c, .block i b, h => by cases c <;> simp only [CodeOK, noR] at h ⊢; exact noR_of h.2
  | c, .loop k b, h => by cases c <;> simp only [CodeOK, noR] at h ⊢; exact noR_of h
  | c, .exit i, h => rfl
  | c, .ret, h => rfl
  | c, .rng .., h => by cases c <;> simp only [CodeOK, noK, and_false] at h
theorem rng_good (hF : AllIn F) (hcf : FnS P cf) (hro : F.round = none) {g : Operand} {ps : Array Tmp} {x b : Code} {f : Opd} {v : FuncId} {caps : List Nat} {E E' : Env} {M' : Mem} {ex : EX} (hg : opdOf g = some f) (hK : RecP.okc v ps x b ntmps)
    (hx : execC cf 0 (.rng f v caps) E M = some (ex, E', M')) (hat : At own σ j E.get M ntmps a w) : (Code.rangeFunc g ps x b).wpIn F n P (Post own M.length σ j M w ntmps a.defers ex E' M') a w := by
  simp only [execC] at hx
  split at hx
  · rename_i g0 gi ga hfv
    split at hx
    · rename_i r M1 fp hcall
      split at hx
      · rename_i s hs
        split at hx
        · rename_i ex' M2 hjump hset
          simp only [Option.some.injEq, Prod.mk.injEq] at hx
          obtain ⟨rfl, rfl, rfl⟩ := hx
          refine wpIn_rangeFunc fun fn hfn => ?_
          rw [hro]
          generalize hrec : ({ state := .ready, pending := none, fn, tmps := a.tmps, params := ps, assign := x, body := b, defers := w.heap.size } : Loop) = rc
          obtain ⟨j1, hj1, hag1, hm1, hst1⟩ := lay_rnd (r := rc) (f := v) (caps := caps) (E := E) (by grind) (by grind) (by rw [← hrec]; show RecP.okc v ps x b a.tmps.size; rw [hat.size]; grind) (by rw [← hrec]; exact hat.env) hat.agree hat.mem hat.own
          generalize hw1 : (w.alloc (.deferred (some []))).alloc (.loop rc) = w1 at *
          have hsize : w1.heap.size = w.heap.size + 2 := by rw [← hw1]; simp
          have hmark : w1.heap[w.heap.size]? = some (.deferred (some [])) := by
            rw [← hw1]
            show ((w.heap.push _).push _)[w.heap.size]? = _
            grind
          have hle1 := hst1.jle' hat.mem (Nat.le_refl _)
          have hfw : WVR σ j1 (.c (.fn g0 gi ga)) (a.eval g) := opd_sound hat.agree.glob (hat.env.mono (Stab.le_refl _) hle1) hg hfv
          have hyv : WVRs σ j1 [.c (.yld M.length v (capOf E caps).1)] (#[Value.func (.yield (w.heap.size + 1)) #[] #[]] : Array Value).toList :=
            WVRs.cons (show WVR σ j1 (.c (.yld M.length v (capOf E caps).1)) _ from .yld _ _ _ _ _ rc hj1) WVRs.nil
          have hown1 : ∀ b, w1.heap.size ≤ b → (own b ∧ b ≠ w.heap.size) := fun b hb => ⟨hat.own b (by omega), by omega⟩
          rcases callOp_good hcf hcall hag1 hm1 hown1 hfw hyv with ⟨h, fi, ca, fnn, hfval, q1, q2, q3, hc⟩ | ⟨l, rc', hfval, hl, hsz, hround⟩
          · have henter := run_enterLoop_outer (P := P) (w := w) fn a.tmps ps x b
            rw [hrec, hw1] at henter
            refine ⟨w.heap.size + 1, _, w1, { target := .fn (.func h) ca, args := fi ++ #[.func (.yield (w.heap.size + 1)) #[] #[]] }, w1, h, fi ++ #[.func (.yield (w.heap.size + 1)) #[] #[]] ++ ca, w1, henter, ?_, fun f' _ => hF.fn f', ?_, fun h => (by rw [hF.depth] at h; grind), hF.calls ?_⟩
            · show (Deferred.ofValue (a.eval g) (#[Operand.const (.func (.yield (w.heap.size + 1)) #[] #[])].map a.eval)).run P w1 = _
              rw [hfval]
              simp [Deferred.ofValue, Act.eval]
            · grind [invoke, run_enter]
            · refine Calls.mono' hc ?_
              rintro e w2 ⟨vv, σ2, j2, rfl, hr, hag2, hm2, hst2⟩
              have hlen : M.length < (M ++ [some (ghost (capOf E caps).2)]).length := by simp
              have hj2 : j2 M.length 0 = some (.rnd (w.heap.size + 1) rc v (capOf E caps).1) := hst2.jle _ _ _ hlen hj1
              obtain ⟨bb, cells, hlk, hrows, _⟩ := stAt_some hs
              obtain ⟨_, _, hrb⟩ := rnd_block hm2 hj2 hlk
              obtain ⟨s0, cells0, pd, vs, h1, h2, h3, h4, h5⟩ := hrb.st
              rw [hrows] at h1
              cases h1
              have hne : s ≠ -1 := by rintro rfl; grind [jumpOf]
              have hs1 : s ≠ 1 := by rintro rfl; grind [jumpOf]
              have hpd := h3 hne
              obtain ⟨hag3, hm3, hst3⟩ := setSt_good (pd := pd) hag2 hm2 hj2 hset (fun h => absurd rfl h)
              have hend := run_endLoop (P := P) h2 (by
                grind [stateOf])
              have e0 : stateOf (-1) = .exhausted := by simp [stateOf]
              rw [e0] at hag3 hm3 hst3
              have hmarkw : ∀ r, w1.heap[r]? = some (.deferred (some [])) → ¬ (own r ∧ r ≠ w.heap.size) → (w2.putObj (w.heap.size + 1) (.loop { rc with state := .exhausted, pending := pd })).heap[r]? = some (.deferred (some [])) := by
                intro r hr1 hr2
                have hlt := (Array.getElem?_eq_some_iff.1 hr1).1
                rw [hst3.frame r (Nat.lt_of_lt_of_le hlt hst2.size) hr2, hst2.frame r hlt hr2]; grind
              have hat' : At (fun k => own k ∧ k ≠ w.heap.size) σ2 j2 E.get M2 ntmps { a with defers := [mkMark w.heap.size] ++ a.defers } (w2.putObj (w.heap.size + 1) (.loop { rc with state := .exhausted, pending := pd })) := by
                have hjle := hst2.jle' hm1 (Nat.le_refl _)
                refine ⟨hat.env.mono hst2.sle (Inj.le_trans hle1 hjle), hat.size, ?_, hag3, hm3, fun k hk => ?_⟩
                · obtain ⟨rs, e1, e2, e3⟩ := hat.marks
                  have hrlt : ∀ r ∈ rs, r < w.heap.size := fun r hr => (Array.getElem?_eq_some_iff.1 (e3 r hr).1).1
                  refine ⟨w.heap.size :: rs, by grind, List.nodup_cons.2 ⟨fun h => Nat.lt_irrefl _ (hrlt _ h), e2⟩, fun r hr => ?_⟩
                  rcases List.mem_cons.1 hr with rfl | hr
                  · grind
                  · have hlt := hrlt r hr
                    have hold : w1.heap[r]? = w.heap[r]? := hst1.frame r hlt (e3 r hr).2
                    grind
                · have hk : w2.heap.size ≤ k := by simp_all
                  grind
              have hpost : ∀ ee, ee = exitOf ex' → Post own M.length σ j M w ntmps a.defers ex' E M2 ee { a with defers := [mkMark w.heap.size] ++ a.defers } (w2.putObj (w.heap.size + 1) (.loop { rc with state := .exhausted, pending := pd })) := by
                rintro ee rfl
                refine ⟨rfl, _, σ2, j2, fun k hk => hk.1, fun d hd => ?_, hat', hst1.trans (((hst2.trans (hst3.le (by
                    grind))).own_mono (fun k hk => hk.1)).le (by simp)), ?_⟩
                · rcases List.mem_append.1 hd with h | h
                  · exact .inr ⟨_, List.mem_singleton.1 h, hat.own _ (Nat.le_refl _), Nat.le_refl _⟩
                  grind
                · have := lt_of_get (look_some hlk).1
                  obtain ⟨_, _, _, _, rfl⟩ := setSt_some hset
                  grind
              refine ⟨pd, _, hend, ?_⟩
              unfold jumpOf at hjump
              split at hjump
              · rename_i h0
                cases hjump
                have : pd = none := by rw [hpd, h0]; rfl
                subst this
                exact hpost _ rfl
              · split at hjump
                · rename_i h0
                  cases hjump
                  have : pd = some .ret := by rw [hpd, h0]; rfl
                  subst this
                  exact wpIn_ret (hpost _ rfl)
                · split at hjump
                  · rename_i h0 h2' h3'
                    cases hjump
                    have : pd = some (.exit (s - 3).toNat) := by
                      simp_all [pendOf, jumpOf, if_neg, if_pos]
                    subst this
                    exact wpIn_exit (hpost _ rfl)
                  grind
          · -- a loop over a yield
            exfalso
            have hfw : VC σ j1 (.fn g0 gi ga) (a.eval g) := hfw
            rw [hfval] at hfw
            cases hfw
        grind
      grind
    grind
  grind
theorem exec_good (hF : AllIn F) (hcf : FnS P cf) (hmix : P.follows .mixedOrders = true) {an : Ann} : ∀ {c : Code} {cc : CC} {fuel : Nat} {E E' : Env} {M M' : Mem} {ex : EX} {own : Nat → Prop} {σ : Stab} {j : Inj} {a : Act} {w : World}, CodeOK RecP.okc P an ntmps c cc → (F.round = none ∨ noR cc = true) →
    execC cf fuel cc E M = some (ex, E', M') → At own σ j E.get M ntmps a w → c.wpIn F n P (Post own M.length σ j M w ntmps a.defers ex E' M') a w
  | .skip, cc, fuel, E, E', M, M', ex, own, σ, j, a, w, hc, hro, hx, hat => by
    cases cc <;> simp only [CodeOK] at hc
    simp only [execC, Option.some.injEq, Prod.mk.injEq] at hx
    obtain ⟨rfl, rfl, rfl⟩ := hx
    exact wpIn_skip ⟨rfl, own, σ, j, fun _ h => h, fun d h => .inl h, hat, Step.refl, Nat.le_refl _⟩
  | .region id ops draw, cc, fuel, E, E', M, M', ex, own, σ, j, a, w, hc, hro, hx, hat => by
    cases cc <;> simp only [CodeOK] at hc
    rename_i nA cs prs keep
    simp only [execC] at hx
    split at hx
    · rename_i E1 M1 fs hr
      split at hx
      · rename_i hp
        simp only [Option.some.injEq, Prod.mk.injEq] at hx
        obtain ⟨rfl, rfl, rfl⟩ := hx
        refine region_good hF hcf hmix hc hr hp hat fun a' w' σ' j' h1 h2 h3 h4 => ⟨rfl, own, σ', j', fun _ h => h, fun d h => .inl (h4 ▸ h), h1.sub fun n v hv => kept_get hv, h2, h3⟩
      grind
    grind
  | .seq x y, cc, fuel, E, E', M, M', ex, own, σ, j, a, w, hc, hro, hx, hat => by
    cases cc <;> simp only [CodeOK] at hc
    rename_i x' y'
    simp only [execC] at hx
    refine wpIn_seq ?_
    split at hx
    · rename_i E1 M1 h1
      refine wpIn_mono (exec_good hF hcf hmix hc.1 (hro.imp (fun h => h) fun h => (by simp_all [noR, Bool.and_eq_true])) h1 hat) fun e a1 w1 hq => ?_
      obtain ⟨rfl, own1, σ1, j1, ho1, hd1, hat1, hst1, hk1⟩ := hq
      refine wpIn_mono (exec_good hF hcf hmix hc.2 (hro.imp (fun h => h) fun h => (by simp_all [noR, Bool.and_eq_true])) hx hat1) fun e a2 w2 hq => ?_
      exact hq.trans ho1 hd1 hst1 hk1
    · rename_i hne
      refine wpIn_mono (exec_good hF hcf hmix hc.1 (hro.imp (fun h => h) fun h => (by simp_all [noR, Bool.and_eq_true])) hx hat) fun e a1 w1 hq => ?_
      obtain ⟨rfl, hq⟩ := hq
      cases ex with
      | normal => grind
      | exit i => exact ⟨rfl, hq⟩
      | ret => exact ⟨rfl, hq⟩
  | .cond c x y, cc, fuel, E, E', M, M', ex, own, σ, j, a, w, hc, hro, hx, hat => by
    cases cc <;> simp only [CodeOK] at hc
    obtain ⟨hco, hca, hcb⟩ := hc
    simp only [execC] at hx
    split at hx
    · rename_i t ht
      have hv : VC σ j (.bool t) (a.eval c) := opd_sound hat.agree.glob hat.env hco ht
      have he : a.eval c = .bool t := by
        generalize a.eval c = v at hv
        cases hv; rfl
      refine wpIn_cond he ?_
      cases t with
      | true => simp only [if_true] at hx ⊢; exact exec_good hF hcf hmix hca (hro.imp (fun h => h) fun h => (by simp_all [noR, Bool.and_eq_true])) hx hat
      | false => simp only [Bool.false_eq_true, if_false] at hx ⊢; exact exec_good hF hcf hmix hcb (hro.imp (fun h => h) fun h => (by simp_all [noR, Bool.and_eq_true])) hx hat
    grind
  | .block id b, cc, fuel, E, E', M, M', ex, own, σ, j, a, w, hc, hro, hx, hat => by
    cases cc <;> simp only [CodeOK] at hc
    rename_i id' b'
    obtain ⟨rfl, hc⟩ := hc
    simp only [execC] at hx
    refine wpIn_block ?_
    split at hx
    · rename_i i1 E1 M1 h1
      refine wpIn_mono (exec_good hF hcf hmix hc (hro.imp (fun h => h) fun h => (by grind [noR])) h1 hat) fun e a1 w1 hq => ?_
      obtain ⟨rfl, hq⟩ := hq
      split at hx
      · rename_i hid
        simp only [Option.some.injEq, Prod.mk.injEq] at hx
        obtain ⟨rfl, rfl, rfl⟩ := hx
        simp only [exitOf, Exit.inBlock, hid, if_true]
        exact ⟨rfl, hq⟩
      · rename_i hid
        simp only [Option.some.injEq, Prod.mk.injEq] at hx
        obtain ⟨rfl, rfl, rfl⟩ := hx
        simp only [exitOf, Exit.inBlock, hid, if_false]
        exact ⟨rfl, hq⟩
    · rename_i hne
      refine wpIn_mono (exec_good hF hcf hmix hc (hro.imp (fun h => h) fun h => (by grind [noR])) hx hat) fun e a1 w1 hq => ?_
      obtain ⟨rfl, hq⟩ := hq
      cases ex with
      | exit i => grind
      | normal => exact ⟨rfl, hq⟩
      | ret => exact ⟨rfl, hq⟩
  | .loop b, cc, fuel, E, E', M, M', ex, own, σ, j, a, w, hc, hro, hx, hat => by
    cases cc <;> simp only [CodeOK] at hc
    rename_i live b'
    simp only [execC] at hx
    obtain ⟨j0, hat0, hst0, hk0⟩ := canon_good (live := live) hat (Nat.le_refl _)
    refine wpIn_loop_fuel (fun m a1 w1 => ∃ E1 M1 own1 σ1 j1, (∀ b, own1 b → own b) ∧ (∀ d ∈ a1.defers, d ∈ a.defers ∨ ∃ r, d = mkMark r ∧ own r ∧ w.heap.size ≤ r) ∧ iter (execC cf fuel b') live M.length m E1 M1 = some (ex, E', M') ∧ At own1 σ1 j1 E1.get M1 ntmps a1 w1 ∧ Step own M.length σ j M w σ1 j1 M1 w1 ∧ M.length ≤ M1.length)
      (m := fuel) ⟨_, _, own, σ, j0, fun _ h => h, fun d h => .inl h, hx, hat0, hst0, hk0⟩ ?_
    rintro m a1 w1 ⟨E1, M1, own1, σ1, j1, ho1, hd1, hit, hat1, hst1, hk1⟩
    cases m with
    | zero => grind [iter]
    | succ m =>
      refine ⟨m, rfl, ?_⟩
      simp only [iter] at hit
      split at hit
      · rename_i E2 M2 h2
        refine wpIn_mono (exec_good hF hcf hmix hc (hro.imp (fun h => h) fun h => (by grind [noR])) h2 hat1) fun e a2 w2 hq => ?_
        obtain ⟨rfl, own2, σ2, j2, ho2, hd2, hat2, hst2, hk2⟩ := hq.trans ho1 hd1 hst1 hk1
        obtain ⟨j3, hat3, hst3, hk3⟩ := canon_good (live := live) hat2 hk2
        exact ⟨_, _, own2, σ2, j3, ho2, hd2, hit, hat3, hst2.trans (hst3.own_mono ho2), hk3⟩
      · rename_i hne
        refine wpIn_mono (exec_good hF hcf hmix hc (hro.imp (fun h => h) fun h => (by grind [noR])) hit hat1) fun e a2 w2 hq => ?_
        have hq := hq.trans ho1 hd1 hst1 hk1
        have he := hq.1
        subst he
        cases ex with
        | normal => grind
        | exit i => exact hq
        | ret => exact hq
  | .exit id, cc, fuel, E, E', M, M', ex, own, σ, j, a, w, hc, hro, hx, hat => by
    cases cc <;> simp only [CodeOK] at hc
    subst hc
    simp only [execC, Option.some.injEq, Prod.mk.injEq] at hx
    obtain ⟨rfl, rfl, rfl⟩ := hx
    exact wpIn_exit ⟨rfl, own, σ, j, fun _ h => h, fun d h => .inl h, hat, Step.refl, Nat.le_refl _⟩
  | .ret, cc, fuel, E, E', M, M', ex, own, σ, j, a, w, hc, hro, hx, hat => by
    cases cc <;> simp only [CodeOK] at hc
    simp only [execC, Option.some.injEq, Prod.mk.injEq] at hx
    obtain ⟨rfl, rfl, rfl⟩ := hx
    exact wpIn_ret ⟨rfl, own, σ, j, fun _ h => h, fun d h => .inl h, hat, Step.refl, Nat.le_refl _⟩
  | .label l, cc, fuel, E, E', M, M', ex, own, σ, j, a, w, hc, hro, hx, hat => by
    cases cc <;> simp only [CodeOK] at hc
    simp only [execC, Option.some.injEq, Prod.mk.injEq] at hx
    obtain ⟨rfl, rfl, rfl⟩ := hx
    exact wpIn_label ⟨rfl, own, σ, j, fun _ h => h, fun d h => .inl h, hat, Step.refl, Nat.le_refl _⟩
  | .goto l, cc, fuel, E, E', M, M', ex, own, σ, j, a, w, hc, hro, hx, hat => by cases cc <;> simp only [CodeOK] at hc
  | .scope b, cc, fuel, E, E', M, M', ex, own, σ, j, a, w, hc, hro, hx, hat => by
    cases cc <;> simp only [CodeOK] at hc
    rename_i b' c'
    obtain ⟨rfl, hc⟩ := hc
    simp only [execC] at hx
    have hx' : execC cf fuel b' E M = some (ex, E', M') := by
      grind
    refine wpIn_scope (wpIn_mono (exec_good hF hcf hmix hc (hro.imp (fun h => h) fun h => (by simp_all [noR, Bool.and_eq_true])) hx' hat) fun e a1 w1 hq => ⟨?_, hq⟩)
    obtain ⟨rfl, _⟩ := hq
    intro l
    cases ex <;> simp [exitOf]
  | .refuse b, cc, fuel, E, E', M, M', ex, own, σ, j, a, w, hc, hro, hx, hat => by cases cc <;> simp only [CodeOK] at hc
  | .rangeFunc f p x b, cc, fuel, E, E', M, M', ex, own, σ, j, a, w, hc, hro, hx, hat => by
    cases cc <;> simp only [CodeOK] at hc
    rename_i f' v caps
    have hro : F.round = none := hro.resolve_right (by simp [noR])
    exact rng_good hF hcf hro hc.1 hc.2 (by simpa only [execC] using hx) hat
end
end Go.Eng
namespace Go.Eng
open Go
variable [RecP]
section
variable {own : Nat → Prop} {P : Program} {cf : CallF} {ntmps : Nat} {σ : Stab} {j : Inj} {M : Mem} {a : Act} {w : World}
theorem load_same {t : TypeId} {agg : Bool} {size : Nat} {p : Cl} {v : Value} {av : AV} {M' : Mem} {fp : FP} (hg : isAggT P t = some agg) (hs : sizeT P t = some size)
    (h : loadOp M agg (if agg then size else 1) p = some (av, M', fp)) (hv : VC σ j p v) (hag : Agree σ w) (hm : MR own σ j M w) :
    ∃ ad u, v = .pointer (some ad) ∧ (loadVar t ad).run P w = .ok u w ∧ AVR σ j av u := by
  unfold loadOp at h
  split at h
  · rename_i id g i k
    cases hv with
    | ptr _ _ _ _ _ L hL =>
      split at h
      · rename_i b hb0
        obtain ⟨hb, hgen⟩ := look_some hb0
        subst hgen
        split at h
        · rename_i row hrow
          split at h
          · rename_i cs hcs
            obtain ⟨hl, hk, hget⟩ := cut_get hcs
            simp only [Option.map_eq_some_iff] at h
            obtain ⟨x, hx, he⟩ := h
            cases he
            obtain ⟨vs, hvs, hcell⟩ := choose_cells (σ := σ) (j := j) (cs := cs) (f := fun m => w.cell? ⟨L.blk, L.off + i * L.esz + k + m, none⟩) (fun m c hc => by
              obtain ⟨v, h1, h2, _⟩ := hm.cell hb hL hrow (hget m c hc)
              grind)
            exact ⟨_, _, rfl, run_loadVar_cells (P := P) (w := w) hg hs hl hvs hx hcell, WVR.of_cells vs hvs hx⟩
          grind
        grind
      grind
  · rename_i row k
    cases hv with
    | rptr _ _ _ b o val h1 h2 =>
      split at h
      · rename_i cs hcs
        obtain ⟨hl, hk, hget⟩ := cut_get hcs
        simp only [Option.map_eq_some_iff] at h
        obtain ⟨x, hx, he⟩ := h
        cases he
        obtain ⟨vs, hvs, hcell⟩ := choose_cells (σ := σ) (j := j) (cs := cs) (f := fun m => w.cell? ⟨b, o + k + m, none⟩) (fun m c hc => by
          refine ⟨val (k + m), ?_, VC.of_noInj (h2 _ _ (hget m c hc))⟩
          rw [Nat.add_assoc]; exact hag.cells _ _ _ (h1 _ _ (hget m c hc)))
        exact ⟨_, _, rfl, run_loadVar_cells (P := P) (w := w) hg hs hl hvs hx hcell, WVR.of_cells vs hvs hx⟩
      grind
  grind
def result1 (tmps : Array Value) : ResultVar → Sem Value
  | .tmp t => pure (tmps.getD t undef)
  | .cell a t => do loadVar t (← asAddr (tmps.getD a undef))
theorem resOne_good {E : Env} {r : ResultVar} {rc : RC} {x : WV} (hrc : resC P r = some rc) (hx : resOne E M rc = some x) (hat : At own σ j E.get M ntmps a w) :
    ∃ v, (result1 a.tmps r).run P w = .ok v w ∧ WVR σ j x v := by
  have slot : ∀ {t : Nat} {y : AV}, E.get t = some y → ∃ v, a.tmps.getD t undef = v ∧ AVR σ j y v := by
    intro t y hy
    obtain ⟨v, hv, hr⟩ := hat.env t y hy
    simp_all
  cases r with
  | tmp t =>
    simp only [resC, Option.some.injEq] at hrc
    subst hrc
    simp only [resOne] at hx
    split at hx
    · rename_i y hy
      cases hx
      obtain ⟨v, hv, hr⟩ := slot hy
      exact ⟨v, by simp [result1, hv], hr⟩
    grind
  | cell p t =>
    simp only [resC] at hrc
    split at hrc
    · rename_i g sz hg hs
      cases hrc
      simp only [resOne] at hx
      split at hx
      · rename_i pc hy
        split at hx
        · rename_i y M1 fp hl
          cases hx
          obtain ⟨v, hv, hr⟩ := slot hy
          obtain ⟨ad, u, rfl, hrun, hu⟩ := load_same (P := P) hg hs hl hr hat.agree hat.mem
          exact ⟨u, by grind [result1, asAddr], hu⟩
        grind
      grind
    grind
theorem resAll_good {E : Env} (hat : At own σ j E.get M ntmps a w) : ∀ {rs : List ResultVar} {rcs : List RC} {xs : List WV}, resCs P rs = some rcs → resAll E M rcs = some xs →
    ∃ vs, (rs.mapM (result1 a.tmps) : Sem (List Value)).run P w = .ok vs w ∧ WVRs σ j xs vs
  | [], rcs, xs, h, hx => by
    simp_all [resCs, Option.some.injEq, resAll, WVRs.nil]
  | r :: rs, rcs, xs, h, hx => by
    simp only [resCs] at h
    split at h
    · rename_i c cs h1 h2
      cases h
      simp only [resAll] at hx
      split at hx
      · rename_i y ys q1 q2
        cases hx
        obtain ⟨v, hv, hr⟩ := resOne_good h1 q1 hat
        obtain ⟨vs, hvs, hrs⟩ := resAll_good hat h2 q2
        simp_all [List.mapM_cons, WVRs.cons]
      grind
    grind
theorem results_good {E : Env} {fn : Func} {rcs : List RC} {r : AV} (hat : At own σ j E.get M ntmps a w) (hrc : resCs P fn.results.toList = some rcs) (hr : resOf E M rcs = some r) :
    ∃ v, (results fn a.tmps).run P w = .ok v w ∧ AVR σ j r v := by
  unfold resOf at hr
  have key : ∀ xs, resAll E M rcs = some xs → ∃ vs : List Value, (results fn a.tmps).run P w = .ok (if h : vs.toArray.size = 1 then vs.toArray[0] else .tuple vs.toArray) w ∧ WVRs σ j xs vs := by
    intro xs hxs
    obtain ⟨vs, hvs, hrs⟩ := resAll_good hat hrc hxs
    refine ⟨vs, ?_, hrs⟩
    have hm : (fn.results.mapM (result1 a.tmps) : Sem (Array Value)).run P w = .ok vs.toArray w := by
      simp_all [Array.mapM_eq_mapM_toList]
    show (do let vs ← fn.results.mapM (result1 a.tmps); pure (if h : vs.size = 1 then vs[0] else .tuple vs) : Sem Value).run P w = _
    simp [hm]
  split at hr
  · rename_i v hv
    cases hr
    obtain ⟨vs, h1, h2⟩ := key _ hv
    obtain ⟨u, us, rfl, hu, hus⟩ := h2.uncons
    have := hus.unnil; exact ⟨u, by grind, hu⟩
  · rename_i vs' hne hv
    cases hr
    obtain ⟨vs, h1, h2⟩ := key _ hv
    have hn : vs.toArray.size ≠ 1 := by
      have hl := h2.1
      match vs', hl with
      | [], hl => grind
      | [x], hl => grind
      | x :: y :: zs, hl => grind
    rw [dif_neg hn] at h1
    exact ⟨_, h1, vs.toArray, rfl, by grind⟩
  grind
theorem args_good : ∀ {args : List WV} {vs : List Value} {tmps : Array Value} {i : Nat}, WVRs σ j args vs → (∀ (k : Nat) (v : Value), vs[k]? = some v → tmps[i + k]? = some v) → EnvR σ j (args0 i args).get tmps
  | [], vs, tmps, i, h, ht => fun n x hx => by grind [args0, Env.get]
  | x :: args, vs, tmps, i, h, ht => by
    obtain ⟨v, vs', rfl, hv, hs⟩ := h.uncons
    intro n y hy
    simp only [args0, Env.get] at hy
    split at hy
    · rename_i hin
      cases hy
      subst hin
      exact ⟨v, by simpa using ht 0 v rfl, hv⟩
    · exact args_good (i := i + 1) hs (fun k u hk => by
        have := ht (k + 1) u (by grind)
        grind) n y hy
theorem shut_good {F : Fence} {n : Nat} {fn : Func} {tmps : Array Value} {R : Ending → World → Prop} : ∀ (rs : List Nat) {w : World}, rs.Nodup → (∀ r ∈ rs, w.heap[r]? = some (.deferred (some [])) ∧ ¬ own r) → Agree σ w → MR own σ j M w →
    (∀ w', (∀ k, k ∉ rs → w'.heap[k]? = w.heap[k]?) → w'.heap.size = w.heap.size → Side w w' → Agree σ w' → MR own σ j M w' → LeavesIn F n P fn tmps R [] .returning w') → LeavesInM F n P fn tmps R (rs.map mkMark) .returning w
  | [], w, hn, hr, hag, hm, hfin => hfin w (fun _ _ => rfl) rfl (Side.refl _) hag hm
  | r :: rs, w, hn, hr, hag, hm, hfin => by
    obtain ⟨hnr, hn'⟩ := List.nodup_cons.1 hn
    obtain ⟨h1, h2⟩ := hr r (List.mem_cons_self ..)
    have hother : ∀ k, k ≠ r → (w.putObj r (.deferred none)).heap[k]? = w.heap[k]? := fun k hk => World.putObj_heap_other hk
    refine ⟨by simp, .inl ⟨r, _, rfl, run_takeDeferred h1, ?_⟩⟩
    refine shut_good rs hn' (fun r' hr' => ?_) ?_ (hm.heapSame fun id b q hb hq => hother q (fun e => h2 (e ▸ hm.ownP hb hq))) ?_
    · grind
    · refine ⟨?_, hag.glob⟩
      intro k o v hv
      have hold := hag.cells k o v hv
      grind [World.cell?]
    · intro w' q1 q2 q3 q4 q5
      have hsd : Side w (w.putObj r (.deferred none)) := by
        exact ⟨rfl, rfl, rfl, fun _ => Nat.le_refl _⟩
      refine hfin w' (fun k hk => ?_) (by simp_all) (hsd.trans q3) q4 q5
      grind
theorem ret_good {F : Fence} {n : Nat} {fn : Func} {own own' : Nat → Prop} {σ σ' : Stab} {j j' : Inj} {M M2 M' : Mem} {w w' : World} {a' : Act} {E : Env} {rcs : List RC} {r res : AV} {frz : Bool} (hm : MR own σ j M w) (hfull : Mem.full M)
    (ho : ∀ b, own' b → own b) (hd : ∀ d ∈ a'.defers, ∃ r, d = mkMark r ∧ own r ∧ w.heap.size ≤ r) (hat : At own' σ' j' E.get M2 ntmps a' w') (hst : Step own M.length σ j M w σ' j' M2 w') (hk : M.length ≤ M2.length)
    (hrc : resCs P fn.results.toList = some rcs) (hr : resOf E M2 rcs = some r) (hfin : leave frz M.length r M2 = some (res, M')) : LeavesInM F n P fn a'.tmps (Ret own σ j M w res M') a'.defers .returning w' := by
  obtain ⟨rs, e1, e2, e3⟩ := hat.marks
  rw [e1]
  have hge : ∀ r ∈ rs, own r ∧ w.heap.size ≤ r := fun r hr => by
    obtain ⟨r', h1, h2, h3⟩ := hd (mkMark r) (by rw [e1]; exact List.mem_map.2 ⟨r, hr, rfl⟩)
    cases h1
    exact ⟨h2, h3⟩
  refine shut_good rs e2 e3 hat.agree hat.mem fun w2 q1 q2 q3 q4 q5 => ?_
  have hat2 : At own' σ' j' E.get M2 ntmps { a' with defers := [] } w2 := ⟨hat.env, hat.size, Marks.nil, q4, q5, fun b hb => hat.own b (by grind)⟩
  obtain ⟨v, hv, hvr⟩ := results_good hat2 hrc hr
  have hst2 : Step own M.length σ j M w σ' j' M2 w2 := by
    refine ⟨hst.sle, hst.jle, by rw [q2]; exact hst.size, fun b hb hob => ?_, hst.snew, fun id b hid hb => ?_, hst.side.trans q3⟩
    · rw [q1 b (fun h => by grind)]; exact hst.frame b hb hob
    · obtain ⟨b', hb', hv', he⟩ := hst.keep id b hid hb
      grind
  obtain ⟨σ3, j3, p1, p2, p3, p4⟩ := leave_sound hm rfl hat2.agree (hat2.mem.own_mono ho) hst2 hfull hk hvr hfin
  exact ⟨v, hv, v, σ3, j3, rfl, p1, p2, p3, p4⟩
def FnOK (P : Program) (f : FuncId) (c : CFn) : Prop := c.rnd = none ∧ ∃ fn body an, P.funcs[f]? = some fn ∧ fn.body = some body ∧ (fn.name == "runtime.NumGoroutine") = false ∧ c.nargs ≤ fn.ntmps ∧ CodeOK RecP.okc P an fn.ntmps body c.code ∧ resCs P fn.results.toList = some c.res
theorem compileFn_ok {an : Ann} {b : Bool} {f : FuncId} {c : CFn} (h : compileFn P an b f = some c)
    (hK : ∀ fn body i x, P.funcs[f]? = some fn → fn.body = some body → countR body ≤ 16 → (rfs body)[i]? = some x → RecP.okc (P.funcs.size + 16 * f + i) x.1 x.2.1 x.2.2 fn.ntmps) : FnOK P f c := by
  unfold compileFn at h
  split at h
  · rename_i fn hf
    split at h
    · rename_i body rs hb hrs
      split at h
      · grind
      · split at h
        · rename_i cc hcc
          split at h
          · rename_i hle
            cases h
            have hcode : CodeOK RecP.okc P an fn.ntmps body cc := compileC_ok hcc fun v i x hv hx => by
              grind
            refine ⟨rfl, fn, body, an, hf, hb, by grind, hle.1, ?_, hrs⟩
            grind [annot_ok]
          grind
        grind
    grind
  grind
theorem compileVirt_ok {an : Ann} {f i : Nat} {c : CFn} {fn : Func} {body : Code} {x : Array Tmp × Code × Code} {T : FuncId → Option CFn} (h : compileVirt P an true (P.funcs.size + 16 * f + i) = some c) (hT : T (P.funcs.size + 16 * f + i) = some c) (hf : P.funcs[f]? = some fn) (hb : fn.body = some body) (hn : countR body ≤ 16) (hx : (rfs body)[i]? = some x) :
    RndOK P T (P.funcs.size + 16 * f + i) x.1 x.2.1 x.2.2 fn.ntmps := by
  have hi : i < 16 := by grind [lt_of_get, rfs_len]
  have e1 : (P.funcs.size + 16 * f + i - P.funcs.size) / 16 = f := by omega
  have e2 : (P.funcs.size + 16 * f + i - P.funcs.size) % 16 = i := by omega
  obtain ⟨ps, a, b⟩ := x
  simp only [compileVirt, e1, e2, hf, hb, hx] at h
  split at h
  · rename_i a' b' ha hb'
    split at h
    · rename_i hc
      simp only [Bool.and_eq_true, List.all_eq_true, decide_eq_true_eq] at hc
      simp only [if_true, Option.some.injEq] at h
      have hno : ∀ (vf : Option FuncId) (c : Code) v i x, (none : Option FuncId) = some v → (rfs c)[i]? = some x → noK (v + i) x.1 x.2.1 x.2.2 fn.ntmps := fun _ _ _ _ _ h _ => by grind
      refine ⟨c, _, an, hT, by rw [← h], annot_ok (compileC_ok ha (hno none a)), by grind [annot_ok, compileC_ok], nodupB_nodup hc.1, hc.2⟩
    grind
  grind
theorem round_good (hmix : P.follows .mixedOrders = true) (hcf : FnS P cf) {n : Nat} {v : FuncId} {c : CFn} {ps : List Nat} {pre : CC} {args : List WV} {M M' : Mem} {res : AV} (h : roundF cf n v ps pre c.code args M = some (res, M')) (hfull : Mem.full M)
    (hK : ∀ r : Loop, RecP.ok v r → ∃ an, r.params.toList = ps ∧ CodeOK noK P an r.tmps.size r.assign pre ∧ CodeOK noK P an r.tmps.size r.body c.code ∧ ps.Nodup ∧ ∀ p ∈ ps, p < r.tmps.size) :
    ∃ id sh as, args = .c (.yld id v sh) :: as ∧
      ∀ F n own σ j w l r (vs : Array Value), AllIn F → (∀ b, w.heap.size ≤ b → own b) → Agree σ w → MR own σ j M w → j id 0 = some (.rnd l r v sh) → WVRs σ j as vs.toList →
        vs.size = r.params.size ∧ (∃ s p, w.heap[l]? = some (.loop { r with state := s, pending := p })) ∧
        RoundIn F n P l r.fn ((r.params.zip vs).foldl (fun tmps (t, a) => tmps.setIfInBounds t a) r.tmps) r.assign r.body w (Ret own σ j M w res M') := by
  unfold roundF at h
  split at h
  · rename_i id g sh as
    split at h
    · rename_i hc
      obtain ⟨rfl, hlen, hst0⟩ := hc
      refine ⟨id, sh, as, rfl, fun F nn own σ j w l r vs hF hown hag hm hj hvs => ?_⟩
      obtain ⟨an, hps, hpre, hcode, hnd, hlt⟩ := hK r (hm.okP _ _ _ hj)
      obtain ⟨b0, cells0, hlk0, hrows0, hcap⟩ := stAt_some hst0
      rw [hcap] at h
      dsimp only at h
      obtain ⟨hb0, hg0, hrb0⟩ := rnd_block hm hj hlk0
      obtain ⟨s0, cells1, pd0, us, q1, q2, q3, q4, q5⟩ := hrb0.st
      rw [hrows0] at q1
      cases q1
      have hpd0 : pd0 = none := q3 (by simp)
      subst hpd0
      have hl0 : w.heap[l]? = some (.loop { r with state := .ready, pending := none }) := q2
      have hvl : vs.size = r.params.size := by
        have h1 := hvs.1
        grind
      refine ⟨hvl, ⟨_, _, hl0⟩, ?_⟩
      split at h
      · rename_i E0 hE0
        have henv0 := caps_env hE0 q4 q5
        have hplt : ∀ p ∈ ps, p < r.tmps.size := hlt
        obtain ⟨t1, t2, _⟩ := params_env (E0 := E0) (tmps := r.tmps) (vs := vs.toList) hnd hplt (by rw [hlen]) hvs henv0
        rw [← hps, ← zip_foldl] at t1 t2
        have hat0 : At own σ j (zipE r.params.toList as ++ E0).get M r.tmps.size { tmps := (r.params.zip vs).foldl (fun (tmps : Array Value) (x : Nat × Value) => tmps.setIfInBounds x.1 x.2) r.tmps, defers := [] } w := ⟨t1, t2, Marks.nil, hag, hm, hown⟩
        rw [← hps] at h
        split at h
        · rename_i E1 M1 hx1
          split at h
          · rename_i M2 hset1
            split at h
            · rename_i ex E3 M3 hx2
              split at h
              · rename_i M4 hset2
                refine roundIn_of_wpIn (hF.fn _) ?_
                have hF' : AllIn (F.inRound l) := ⟨hF.fn, hF.depth, hF.alive⟩
                refine wpIn_mono (exec_good hF' hcf hmix (hpre.mono fun _ _ _ _ h => h.elim) (.inr (noR_of hpre)) hx1 hat0) fun e a1 w1 hq => ?_
                obtain ⟨rfl, own1, σ1, j1, ho1, hd1, hat1, hst1, hk1⟩ := hq
                show ∃ w2, _
                have hj1 : j1 id 0 = some (.rnd l r g sh) := hst1.jle _ _ _ (lt_of_get hb0) hj
                obtain ⟨b1, cells1, hlk1, hrows1, _⟩ := setSt_some hset1
                obtain ⟨hb1, _, hrb1⟩ := rnd_block hat1.mem hj1 hlk1
                obtain ⟨s1, c1, pd1, us1, p1, p2, p3, p4, p5⟩ := hrb1.st
                rw [hrows1] at p1
                cases p1
                have hpd1 : pd1 = none := p3 (by simp)
                subst hpd1
                have hl1 : w1.heap[l]? = some (.loop { r with state := .ready, pending := none }) := p2
                obtain ⟨hag2, hm2, hst2⟩ := setSt_good (pd := none) hat1.agree hat1.mem hj1 hset1 (fun _ => rfl)
                have e1 : stateOf 1 = .busy := rfl
                rw [e1] at hag2 hm2 hst2
                refine ⟨_, run_beginRound hl1 rfl, ?_⟩
                have hat2 : At own1 σ1 j1 E1.get M2 r.tmps.size a1 (w1.putObj l (.loop { r with state := .busy, pending := none })) := ⟨hat1.env, hat1.size, hat1.marks.frame hst2.frame, hag2, hm2, fun b hb => hat1.own b (by simpa using hb)⟩
                refine wpIn_mono (exec_good hF' hcf hmix (hcode.mono fun _ _ _ _ h => h.elim) (.inr (noR_of hcode)) hx2 hat2) fun e a3 w3 hq => ?_
                obtain ⟨rfl, own3, σ3, j3, ho3, hd3, hat3, hst3, hk3⟩ := hq
                have hM2 : M2.length = M1.length := by grind
                have hj3 : j3 id 0 = some (.rnd l r g sh) := hst3.jle _ _ _ (by grind) hj1
                obtain ⟨b3, cells3, hlk3, hrows3, _⟩ := setSt_some hset2
                obtain ⟨hb3, _, hrb3⟩ := rnd_block hat3.mem hj3 hlk3
                obtain ⟨s3, c3, pd3, us3, r1, r2, r3, r4, r5⟩ := hrb3.st
                rw [hrows3] at r1
                cases r1
                have hl3 : w3.heap[l]? = some (.loop { r with state := .busy, pending := pd3 }) := r2
                have hM4 : M4.length = M3.length := by grind
                have done : ∀ (jump : Option Code), (stOf ex ≠ -1 → jump = pendOf (stOf ex)) → stateOf (stOf ex) = (if jump.isNone then .ready else .done) → jump.isNone = (ex == .normal) →
                    ∃ v w', (Instr.endRound l jump).run P w3 = .ok v w' ∧ Ret own σ j M w res M' (.returned v) w' := by
                  intro jump hj1' hj2' hj3'
                  obtain ⟨hag4, hm4, hst4⟩ := setSt_good (pd := jump) hat3.agree hat3.mem hj3 hset2 hj1'
                  rw [hj2'] at hag4 hm4 hst4
                  refine ⟨_, _, run_endRound jump hl3, ?_⟩
                  have hstall : Step own M.length σ j M w σ3 j3 M4 (w3.putObj l (.loop { r with state := if jump.isNone then .ready else .done, pending := jump })) :=
                    ((hst1.trans ((hst2.own_mono ho1).le hk1)).trans ((hst3.own_mono ho1).le (by omega))).trans ((hst4.own_mono (fun b hb => ho1 b (ho3 b hb))).le (by omega))
                  obtain ⟨j5, z1, z2, z3⟩ := finish_sound (w := w3.putObj l (.loop { r with state := if jump.isNone then .ready else .done, pending := jump })) (r := .w (.c (.bool (ex == .normal)))) (v := .bool jump.isNone) hm rfl ((hm4.own_mono ho3).own_mono ho1) hstall hfull (by rw [hj3']; exact VC.bool _ _) h
                  exact ⟨_, σ3, j5, rfl, z1, hag4, z2, z3⟩
                cases ex with
                | normal => exact done none (fun _ => rfl) rfl rfl
                | ret => exact done (some .ret) (fun _ => rfl) rfl rfl
                | exit i =>
                  refine done (some (.exit i)) (fun _ => ?_) ?_ rfl
                  · have h1 : ¬ (3 + (i : Int) = 0) := by omega
                    have h2 : ¬ (3 + (i : Int) = 2) := by omega
                    have h3 : (3 : Int) ≤ 3 + i := by omega
                    have h4 : (3 + (i : Int) - 3).toNat = i := by omega
                    grind [pendOf, jumpOf, stOf]
                  grind [stateOf, stOf]
              grind
            grind
          grind
        grind
      grind
    grind
  grind
theorem callF_good (hmix : P.follows .mixedOrders = true) {T : FuncId → Option CFn} {X : CallF} (hT : ∀ f c, T f = some c → (f < RecP.base → FnOK P f c) ∧ (RecP.base ≤ f → c.rnd.isSome = true)) (hR : ∀ v ps a b n, RecP.okc v ps a b n → RndOK P T v ps a b n) (hX : FnS P X) : ∀ n, FnS P (callF T X n)
  | 0 => fun f args M res M' h => by grind [callF]
  | n + 1 => fun f args M res M' h hfull => by
    have ih := callF_good hmix hT hR hX n
    simp only [callF] at h
    split at h
    · exact hX f args M res M' h hfull
    · rename_i c hTf
      obtain ⟨hT1, hT2⟩ := hT f c hTf
      split at h
      · rename_i ps pre hrnd
        refine ⟨fun hlt => ?_, fun hge => ?_⟩
        · rw [(hT1 hlt).1] at hrnd; grind
        · refine round_good hmix ih h hfull fun r hr => ?_
          obtain ⟨c', pre', an, h1, h2, h3, h4, h5, h6⟩ := hR _ _ _ _ _ hr
          grind
      · refine ⟨fun hlt => ?_, fun hge => by grind⟩
        obtain ⟨_, fn, body, an, hf, hb, hname, hle, hcode, hres⟩ := hT1 hlt
        refine ⟨fn, hf, by grind, hname, ?_⟩
        split at h
        · intro own σ j w vs hown hag hm hvs
          have hvl : vs.size = c.nargs := by have := hvs.1; grind
          have hsz : (vs ++ Array.replicate (fn.ntmps - vs.size) undef).size = fn.ntmps := by grind
          have hat : At own σ j (args0 0 args).get M fn.ntmps { tmps := vs ++ Array.replicate (fn.ntmps - vs.size) undef, defers := [] } w :=
            ⟨args_good hvs (fun k v hk => by
              grind), hsz, Marks.nil, hag, hm, hown⟩
          have fin : ∀ {ex : EX} {E : Env} {M2 : Mem} {r : AV}, (ex = .normal ∨ ex = .ret) → execC (callF T X n) n c.code (args0 0 args) M = some (ex, E, M2) → resOf E M2 c.res = some r → leave c.frz M.length r M2 = some (res, M') →
              Calls P f vs w (Ret own σ j M w res M') := by
            intro ex E M2 r hexit hx hr hfin
            have hF : AllIn Fence.wide := ⟨fun _ => trivial, rfl, rfl⟩
            refine callsIn_wide (n := 0).1 (callsIn_of_wp_marks hf hb trivial ?_)
            refine wpIn_mono (exec_good hF ih hmix hcode (.inl rfl) hx hat) fun e a' w' hq => ?_
            obtain ⟨rfl, own', σ', j', ho, hd, hat', hst, hk⟩ := hq
            have := ret_good (F := Fence.wide) (n := 0) hm hfull ho (fun d hd' => (hd d hd').resolve_left (fun h => by grind)) hat' hst hk hres hr hfin
            rcases hexit with rfl | rfl
            · exact this
            · exact this
          grind
        grind
def noX : CallF := fun _ _ _ => none
theorem noX_good : FnS P noX := fun f args M res M' h => by cases h
end
end Go.Eng
namespace Go.Eng
open Go
section
variable [GlobP]
def an0 : Ann := { mode := fun _ => ⟨true⟩, frz := fun _ => true }
def nilCheck (P : Program) (id : Nat) (o : Array Oper) (esz : Nat) : Bool := match compileRegion P an0 8 id o.toList false with
  | some (1, [⟨_, some 2, none, .newsl 0 e⟩], []) => e == esz
  | _ => false
def testCheck (P : Program) (o : Array Oper) : Bool := match compileOper P o.toList an0.mode 8 0 with
  | some ⟨_, some 3, none, .mv (.s 0)⟩ => (match o.toList with
    | [_, ⟨some 4, .binOp .eql S (.tmp 3) (.const (.slice none 0 0)) _, _, _, _, none⟩] => (match P.underlying S with | some (.slice _) => true | _ => false)
    | _ => false)
  | _ => false
def copyCheck (P : Program) (id : Nat) (o : Array Oper) (esz bytes : Nat) : Bool := match compileRegion P an0 8 id o.toList false with
  | some (1, [⟨_, some 5, none, .lit 0 e [] []⟩, ⟨_, some 6, none, .mv (.s 0)⟩, ⟨_, some 7, none, .append e' b (.s 5) (.s 6)⟩, ⟨_, some 2, none, .mv (.s 7)⟩], []) => e == esz && e' == esz && b == bytes
  | _ => false
def cloneCheck (P : Program) (f : FuncId) (esz bytes : Nat) : Bool := match P.funcs[f]? with
  | some fn => match fn.body with
    | some (.seq (.region i0 o0 false) (.seq (.seq (.region _ o1 false) (.cond (.tmp 4) (.seq (.region i2 o2 false) .ret) .skip)) (.seq (.region i3 o3 false) .ret))) =>
      !(fn.name == "runtime.NumGoroutine") && fn.ntmps == 8 && (match fn.results.toList with | [.tmp 2] => true | _ => false) && nilCheck P i0 o0 esz && testCheck P o1 && nilCheck P i2 o2 esz && copyCheck P i3 o3 esz bytes
    | _ => false
  | none => false
def cloneX (esz bytes : Nat) (frz : Bool) (x : Cl) : Mem → Option (AV × Mem)
  | [] => match x with
    | .rslice ys => if ys.all (fun r => r.length == esz) && roomy ys.length bytes && 0 < esz then
        some (if frz then (.w (.c (.rslice ys)), []) else
          (.w (.c (.slice 0 ys.length esz 0 ys.length none)), [some { box := false, esz, rows := ys, gen := ys.length, fz := false, ver := ys.length }]))
      else none
    | _ => none
  | _ => none
def insI (x : Int) : List Int → List Int
  | [] => [x]
  | y :: l => if x ≤ y then x :: y :: l else y :: insI x l
def sortI : List Int → List Int
  | [] => []
  | x :: l => insI x (sortI l)
def zsOf : List (List Cl) → Option (List Int)
  | [] => some []
  | r :: l => match r with
    | [.int .i64 n] => (zsOf l).map (n :: ·)
    | _ => none
def rowsOf (l : List Int) : List (List Cl) := l.map fun n => [.int .i64 n]
def sortX (x : Cl) (M : Mem) : Option (AV × Mem) := match x with
  | .nilslice => some (.t [], M)
  | .slice id g _ off len _ =>
    if len = 0 then some (.t [], M) else
    match look M id g with
    | some b =>
      if !b.box && !b.fz && off + len ≤ b.rows.length && b.esz == 1 && decide (len < 4611686018427387904) then
        match zsOf ((b.rows.drop off).take len) with
        | some zs => some (.t [], M.set id (some { b with rows := b.rows.take off ++ rowsOf (sortI zs) ++ b.rows.drop (off + len), ver := b.ver + 1 }))
        | none => none
      else none
    | none => none
  | _ => none
def kindN (k key i : Nat) : Bool := key == 7 && i + 1 == k
def cellZ (b : Bool) (z : Int) : Cl := if b then .bool (z != 0) else .int .i64 z
def zRow (k key : Nat) : Nat → List Cl → Option (List Int)
  | _, [] => some []
  | i, c :: l => match c with
    | .int .i64 n => if kindN k key i then none else (zRow k key (i + 1) l).map (n :: ·)
    | .bool b => if kindN k key i then (zRow k key (i + 1) l).map ((if b then 1 else 0) :: ·) else none
    | _ => none
def zzOf (k key : Nat) : List (List Cl) → Option (List (List Int))
  | [] => some []
  | r :: l => match zRow k key 0 r, zzOf k key l with
    | some x, some xs => some (x :: xs)
    | _, _ => none
def lexL : List Int → List Int → Bool
  | [], [] => false
  | [], _ :: _ => true
  | _ :: _, [] => false
  | x :: xs, y :: ys => decide (x < y) || (decide (x = y) && lexL xs ys)
def numsZ (k key : Nat) (x : List Int) : List Int := (List.range k).map fun i => if kindN k key i then (if x.getD i 0 != 0 then 1 else 0) else x.getD i 0
def ltZ (k key : Nat) (x y : List Int) : Bool := if key = 7 then lexL (numsZ k key x) (numsZ k key y) else decide (x.getD key 0 < y.getD key 0)
def bitL (n : Nat) : Nat := if n = 0 then 0 else n.log2 + 1
def sortZ (k key : Nat) (l : List (List Int)) : List (List Int) := (Go.Sort.pdq (ltZ k key) l.toArray 0 l.length (bitL l.length) true true).toList
theorem lexL_irr : ∀ x, lexL x x = false
  | [] => rfl
  | x :: xs => by simp [lexL, lexL_irr xs]
theorem lexL_trans : ∀ {x y z : List Int}, lexL x y = true → lexL y z = true → lexL x z = true
  | [], [], _, h, _ => by grind
  | [], _ :: _, [], _, h => by grind [lexL]
  | [], _ :: _, _ :: _, _, _ => rfl
  | _ :: _, [], _, h, _ => by grind [lexL]
  | _ :: _, _ :: _, [], _, h => by grind [lexL]
  | x :: xs, y :: ys, z :: zs, h1, h2 => by
    simp only [lexL, Bool.or_eq_true, decide_eq_true_eq, Bool.and_eq_true] at *
    rcases h1 with h1 | ⟨rfl, h1⟩
    · grind
    · rcases h2 with h2 | ⟨rfl, h2⟩
      · grind
      · right; exact ⟨rfl, lexL_trans h1 h2⟩
theorem lexL_total : ∀ {x y : List Int}, lexL x y = false → lexL y x = false → x = y
  | [], [], _, _ => rfl
  | [], _ :: _, h, _ => by grind [lexL]
  | _ :: _, [], _, h => by grind [lexL]
  | x :: xs, y :: ys, h1, h2 => by
    simp only [lexL, Bool.or_eq_false_iff, decide_eq_false_iff_not, Bool.and_eq_false_iff] at *
    have e : x = y := by omega
    subst e
    rcases h1.2 with h | h
    · grind
    · rcases h2.2 with g | g
      · grind
      · rw [lexL_total h g]
theorem lexL_ntrans {x y z : List Int} (h1 : lexL x y = false) (h2 : lexL y z = false) : lexL x z = false := by
  grind [lexL, lexL_trans, lexL_total]
theorem ltZ_swo (k key : Nat) : Go.Sort.SWO (ltZ k key) where
  irrefl x := by
    grind [ltZ, lexL_irr]
  trans x y z h1 h2 := by
    unfold ltZ at *
    split
    · grind [lexL_trans]
    grind
  ntrans x y z h1 h2 := by
    unfold ltZ at *
    split
    · grind [lexL_ntrans]
    grind
theorem sortZ_spec (k key : Nat) (l : List (List Int)) : Go.Sort.PermIn 0 l.length l.toArray (Go.Sort.pdq (ltZ k key) l.toArray 0 l.length (bitL l.length) true true) ∧ Go.Sort.SortedIn (ltZ k key) 0 l.length (Go.Sort.pdq (ltZ k key) l.toArray 0 l.length (bitL l.length) true true) :=
  Go.Sort.pdq_sorts (ltZ k key) (ltZ_swo k key) l.toArray 0 l.length _ true true (Nat.zero_le _) (by simp) (Or.inl rfl)
theorem sortZ_len (k key : Nat) (l : List (List Int)) : (sortZ k key l).length = l.length := by
  have := (sortZ_spec k key l).1.1
  grind [sortZ]
def encC (k key : Nat) (l : List Int) : List Cl := (List.range k).map fun i => cellZ (kindN k key i) (l.getD i 0)
def sortFX (k key : Nat) (x : Cl) (M : Mem) : Option (AV × Mem) := match x with
  | .nilslice => some (.t [], M)
  | .slice id g _ off len _ =>
    if len = 0 then some (.t [], M) else
    match look M id g with
    | some b =>
      if !b.box && !b.fz && off + len ≤ b.rows.length && b.esz == k && decide (len < 4611686018427387904) then
        match zzOf k key ((b.rows.drop off).take len) with
        | some zs => some (.t [], M.set id (some { b with rows := b.rows.take off ++ (sortZ k key zs).map (encC k key) ++ b.rows.drop (off + len), ver := b.ver + 1 }))
        | none => none
      else none
    | none => none
  | _ => none
def keysOf : List (List Cl) → Option (List (Int × Int))
  | [] => some []
  | (.int .i64 b :: .int .i64 k :: _) :: R => (keysOf R).map ((b, k) :: ·)
  | _ => none
def keysX (g : Nat) (x : Cl) (M : Mem) : Option (AV × Mem) := match x with
  | .fn g' [] [.ptr id 0 0 0] => match look M id 0 with
    | some b => match b.rows with
      | [[.map m _]] => match mapAt M m with
        | some (_, c, R) => match keysOf R with
          | some ks => if g' = g ∧ b.box = true ∧ ks.length ≤ 1000000 ∧ (ks.all fun p => decide (p.1 < c ∧ -9223372036854775808 ≤ p.2 ∧ p.2 < 9223372036854775808)) = true ∧ (ks.map (·.1)).Nodup ∧ (ks.map (·.2)).Nodup then some (.w (.c (.rslice (rowsOf (sortI (ks.map (·.2)))))), M) else none
          | none => none
        | none => none
      | _ => none
    | none => none
  | _ => none
def mcloneX (x : Cl) (M : Mem) : Option (AV × Mem) := match x with
  | .map m g => match mapAt M m with
    | some (b, _, _) => some (.w (.c (.map M.length g)), M ++ [some { b with ver := 0 }])
    | none => none
  | _ => none
def castB (big : Bool) : AV × Mem → AV × Mem
  | (r, [some b]) => (r, [some (if big && !b.rows.isEmpty then { b with box := true } else b)])
  | x => x
def clones (Cs : List (Nat × Nat × Nat × Bool)) : CallF := fun f args M => match Cs.lookup f with
  | some (esz, bytes, frz) => match args with
    | [.c x] => if esz = 0 then (if bytes = 0 then sortX x M else if bytes % 64 = 1 then keysX (bytes / 64) x M else if bytes % 64 = 2 then mcloneX x M else none) else (cloneX esz (bytes % 1048576) frz x M).map (castB (1048576 ≤ bytes : Bool))
    | [.c x, .c (.fn g [] [])] => if esz = 0 ∧ 8 ≤ bytes % 64 ∧ bytes / 64 = g then sortFX (bytes / 8 % 8) (bytes % 8) x M else none
    | _ => none
  | none => none
end
section
variable [RecP] {own : Nat → Prop} {P : Program} {σ : Stab} {j : Inj} {M : Mem} {w : World}
theorem rs_slice {ys : List (List Cl)} {v : Value} (hv : VC σ j (.rslice ys) v) : ∃ b l c, v = .slice b l c ∧ (b = none → ys = []) := by
  cases hv with
  | rslice _ es rows a c b o val hl ha hr h1 h2 =>
    grind
theorem run_equalIn_slice (d : Nat) (t e : TypeId) (b : Option Addr) (l c : Nat) (w : World) (h : P.underlying t = some (.slice e)) : (Op.equalIn (d + 1) t (.slice b l c) (.slice none 0 0)).run P w = .ok b.isNone w := by
  cases b <;> simp [Op.equalIn, run_underlying h]
theorem run_equal_slice (t e : TypeId) (b : Option Addr) (l c : Nat) (w : World) (h : P.underlying t = some (.slice e)) : (Op.equal t (.slice b l c) (.slice none 0 0)).run P w = .ok b.isNone w :=
  run_equalIn_slice 9999 t e b l c w h
abbrev gh (esz : Nat) : Blk := { box := false, esz, rows := [], gen := 0, fz := false, ver := 0 }
abbrev cl1 (esz : Nat) (ys : List (List Cl)) : Blk := { box := false, esz, rows := ys, gen := ys.length, fz := false, ver := ys.length }
theorem copy_run {esz bytes : Nat} {ys : List (List Cl)} {E : Env} {i0 i1 i2 i3 : Nat} (hE : E.get 0 = some (.w (.c (.rslice ys)))) (hys : ys.all (fun r => r.length == esz) = true) (hpos : 0 < esz) (hroom : roomy ys.length bytes = true) :
    ∃ E' fs, opsF noX 1 [⟨i0, some 5, none, .lit 0 esz [] []⟩, ⟨i1, some 6, none, .mv (.s 0)⟩, ⟨i2, some 7, none, .append esz bytes (.s 5) (.s 6)⟩, ⟨i3, some 2, none, .mv (.s 7)⟩] E ([some (gh esz)] ++ holes 1) =
      some (E', [some (gh esz), some (cl1 esz ys)], fs) ∧ E'.get 2 = some (.w (.c (.slice 1 ys.length esz 0 ys.length none))) := by
  have s1 : stepF noX 1 ⟨i0, some 5, none, .lit 0 esz [] []⟩ E.get ([some (gh esz)] ++ holes 1) = some (.w (.c (.slice 1 0 esz 0 0 none)), [some (gh esz), some (gh esz)], .no) := by
    simp [stepF, opF, fillRows, hpos, partsSls, markAll, newAt, holes, gh]
  have h4 : appendOp [some (gh esz), some (gh esz)] esz bytes (.slice 1 0 esz 0 0 none) (.rslice ys) = some (.w (.c (.slice 1 ys.length esz 0 ys.length none)), [some (gh esz), some (cl1 esz ys)], .wr [(1, 0, whole)]) := by
    simp_all [appendOp, elemsOf, if_pos, List.length_nil, look, gh, cl1]
  simp_all [Env, Mem, stepF, noX, Env.put, get, opF, Opd.av, Opd.ev, Env.get, whole, opsF]
theorem clone_leave {esz : Nat} {ys : List (List Cl)} (frz : Bool) : leave frz 0 (.w (.c (.slice 1 ys.length esz 0 ys.length none))) [some (gh esz), some (cl1 esz ys)] =
    some (if frz then (.w (.c (.rslice ys)), []) else (.w (.c (.slice 0 ys.length esz 0 ys.length none)), [some (cl1 esz ys)])) := by
  cases frz with
  | true => simp [leave, frzA, frzW, frzC, look, gh, cl1, finish, AV.below, WV.below, WV.cells, below, top1, memBelow]
  | false => simp [leave, finish, AV.below, WV.below, WV.cells, below, top1, memBelow, AV.ids, WV.ids, idsC, ids1, collect, collectFuel, idsAt, Blk.ids, nodupB, renA, renW, renC, ren1, idxIn, takeBlks, renB, cl1]
theorem clone_good (hmix : P.follows .mixedOrders = true) {f : FuncId} {esz bytes : Nat} {frz : Bool} {x : Cl} {v : Value} {res : AV} {M' : Mem} (hck : cloneCheck P f esz bytes = true) (h : cloneX esz bytes frz x M = some (res, M')) :
    ∃ fn, P.funcs[f]? = some fn ∧ fn.body.isNone = false ∧ (fn.name == "runtime.NumGoroutine") = false ∧
      ((∀ b, w.heap.size ≤ b → own b) → Agree σ w → MR own σ j M w → VC σ j x v → Calls P f #[v] w (Ret own σ j M w res M')) := by
  unfold cloneCheck at hck
  split at hck
  · rename_i fn hfn
    split at hck
    · rename_i i0 o0 i1 o1 i2 o2 i3 o3 hbody
      simp only [Bool.and_eq_true, Bool.not_eq_true', beq_iff_eq] at hck
      obtain ⟨⟨⟨⟨⟨⟨hname, hnt⟩, hres⟩, hk0⟩, hk1⟩, hk2⟩, hk3⟩ := hck
      refine ⟨fn, hfn, by grind, by grind, fun hown hag hm hv => ?_⟩
      obtain ⟨ys, rfl, rfl, hall, hroom, hpos, hfin⟩ : ∃ ys, x = .rslice ys ∧ M = [] ∧ ys.all (fun r => r.length == esz) = true ∧ roomy ys.length bytes = true ∧ 0 < esz ∧
          leave frz 0 (.w (.c (.slice 1 ys.length esz 0 ys.length none))) [some (gh esz), some (cl1 esz ys)] = some (res, M') := by
        unfold cloneX at h
        split at h
        · split at h
          · rename_i ys
            split at h
            · rename_i hc
              simp only [Bool.and_eq_true, decide_eq_true_eq] at hc
              exact ⟨ys, rfl, rfl, hc.1.1, hc.1.2, hc.2, by rw [clone_leave]; exact h⟩
            · cases h
          grind
        grind
      obtain ⟨b, l, c, rfl, hbn⟩ := rs_slice hv
      have hresl : fn.results.toList = [.tmp 2] := by
        grind
      have hF : AllIn Fence.wide := ⟨fun _ => trivial, rfl, rfl⟩
      have hat0 : At own σ j (args0 0 [.c (.rslice ys)]).get [] 8 { tmps := #[.slice b l c] ++ Array.replicate (fn.ntmps - (#[Value.slice b l c] : Array Value).size) undef, defers := [] } w := by
        refine ⟨args_good (vs := [.slice b l c]) (WVRs.cons hv WVRs.nil) (fun k u hk => ?_), by grind, Marks.nil, hag, hm, hown⟩
        have hk0 : k = 0 := by grind
        grind
      refine (callsIn_wide (n := 0)).1 (callsIn_of_wp_marks hfn hbody trivial (wpIn_seq ?_))
      unfold nilCheck at hk0
      split at hk0
      · rename_i ix0 e0 hc0
        obtain rfl : e0 = esz := by grind
        refine region_good (n := 0) hF noX_good hmix hc0 (E := args0 0 [.c (.rslice ys)]) (E' := (2, .w (.c (.slice 0 0 e0 0 0 none))) :: args0 0 [.c (.rslice ys)]) (M' := [some (gh e0)]) (fs := [.no]) (by simp [opsF, stepF, opF, Env.put, holes, newAt, gh]) (by simp) hat0 fun a1 w1 σ1 j1 hat1 hst1 _ hd1 => ?_
        refine wpIn_seq (wpIn_seq ?_)
        unfold testCheck at hk1
        split at hk1
        · rename_i ix1 hca
          split at hk1
          · rename_i oa S yt ty pos aft hol
            obtain ⟨eT, hS⟩ : ∃ e, P.underlying S = some (.slice e) := by
              grind
            have ho1 : o1 = #[oa, ⟨some 4, .binOp .eql S (.tmp 3) (.const (.slice none 0 0)) yt, ty, pos, aft, none⟩] := Array.ext' (by grind)
            refine wpIn_region ?_
            have hsz : o1.size = 2 := by grind
            rw [hsz]
            show wpOpsIn _ _ _ _ _ [0, 1] _ _
            rw [wpOpsIn_cons]
            refine step_good hF noX_good hca (av := .w (.c (.rslice ys))) (M' := [some (gh e0)]) (fp := .no) (n0 := 0) (by simp [stepF, opF, Opd.av, Opd.ev, Env.get, args0]) hat1 fun a2 w2 σ2 j2 hat2 hst2 hd2 => ?_
            rw [wpOpsIn_cons]
            obtain ⟨v3, hv3, hr3⟩ := hat2.env 3 (.w (.c (.rslice ys))) (by simp [putE])
            obtain ⟨b3, l3, c3, rfl, hb3⟩ := rs_slice hr3
            have he3 : a2.eval (.tmp 3) = .slice b3 l3 c3 := by simp [Act.eval, Array.getD_eq_getD_getElem?, hv3]
            have hexec : (execOp a2.eval ⟨some 4, .binOp .eql S (.tmp 3) (.const (.slice none 0 0)) yt, ty, pos, aft, none⟩).run P w2 = .ok (.value (.bool b3.isNone)) w2 := by
              simp_all [execOp, Act.eval, eqGuard, binOp, run_equal_slice]
            have hat3 := hat2.put (d := some 4) (av := .w (.c (.bool b3.isNone))) (v := .bool b3.isNone) (fun x hx => by grind) (VC.bool _ _) hat2.agree hat2.mem Step.refl
            rw [← put_get, ← put_get] at hat3
            unfold wpOpIn
            have ho11 : o1[1]? = some ⟨some 4, .binOp .eql S (.tmp 3) (.const (.slice none 0 0)) yt, ty, pos, aft, none⟩ := by grind
            simp only [ho11, Region.wanted, if_true]
            refine ⟨fun _ _ => trivial, ?_⟩
            rw [Oper.semAt_eq _ _ _ (by grind), hexec]
            show Code.wpIn _ _ _ _ _ _ _
            have he4 : (a2.put (some 4) (.bool b3.isNone)).eval (.tmp 4) = .bool b3.isNone := by
              obtain ⟨v4, hv4, hr4⟩ := hat3.env 4 (.w (.c (.bool b3.isNone))) (by simp [Env.put, Env.get])
              have hr4 : VC _ _ (.bool b3.isNone) v4 := hr4
              have : v4 = .bool b3.isNone := by generalize b3.isNone = t at hr4; cases hr4; rfl
              simp_all [Act.eval, Array.getD_eq_getD_getElem?]
            have hrc : resCs P fn.results.toList = some [.slot 2] := by rw [hresl]; rfl
            have fin : ∀ {E4 : Env} {a4 : Act} {w4 : World} {σ4 : Stab} {j4 : Inj}, At own σ4 j4 E4.get [some (gh e0), some (cl1 e0 ys)] 8 a4 w4 → E4.get 2 = some (.w (.c (.slice 1 ys.length e0 0 ys.length none))) → Step own 0 σ j [] w σ4 j4 [some (gh e0), some (cl1 e0 ys)] w4 → a4.defers = [] →
                bodyPostM Fence.wide 0 P fn (Ret own σ j [] w res M') .ret a4 w4 := by
              intro E4 a4 w4 σ4 j4 hat4 hget hst hds
              exact ret_good (F := Fence.wide) (n := 0) hm (fun id hid => by grind) (fun _ h => h) (fun d hd => by grind) hat4 hst (by simp) hrc (by grind [resOf, resAll, resOne]) hfin
            refine wpIn_cond_split he4 (fun ht => ?_) (fun ht => ?_)
            · -- it is nil
              have hys0 : ys = [] := hb3 (by simp_all)
              subst hys0
              refine wpIn_seq ?_
              unfold nilCheck at hk2
              split at hk2
              · rename_i ix2 e2 hc2
                obtain rfl : e2 = e0 := by grind
                refine region_good (n := 0) hF noX_good hmix hc2 (E' := Env.put (Env.put (Env.put ((2, .w (.c (.slice 0 0 e2 0 0 none))) :: args0 0 [.c (.rslice [])]) (some 3) (.w (.c (.rslice [])))) (some 4) (.w (.c (.bool b3.isNone)))) (some 2) (.w (.c (.slice 1 0 e2 0 0 none)))) (M' := [some (gh e2), some (cl1 e2 [])]) (fs := [.no]) (by simp [opsF, stepF, opF, Opd.av, Opd.ev, Env.put, holes, newAt, gh]) (by simp) hat3 fun a4 w4 σ4 j4 hat4 hst4 _ hd4 => ?_
                exact wpIn_ret (fin hat4 (by simp [Env.put, Env.get]) (((hst1.trans (hst2.le (by simp))).trans (hst4.le (by simp)))) (hd4.trans (put_defers.trans (hd2.trans hd1))))
              grind
            · -- it is not
              refine wpIn_skip ?_
              show Code.wpIn _ _ _ _ _ _ _
              refine wpIn_seq ?_
              unfold copyCheck at hk3
              split at hk3
              · rename_i p0 e p1 p2 e' by' p3 hc3
                simp only [Bool.and_eq_true, beq_iff_eq] at hk3
                obtain ⟨⟨rfl, rfl⟩, rfl⟩ := hk3
                obtain ⟨E5, fs5, hrun, hget⟩ := copy_run (i0 := p0) (i1 := p1) (i2 := p2) (i3 := p3) (E := Env.put (Env.put ((2, .w (.c (.slice 0 0 e' 0 0 none))) :: args0 0 [.c (.rslice ys)]) (some 3) (.w (.c (.rslice ys)))) (some 4) (.w (.c (.bool b3.isNone)))) (by simp [Env.put, Env.get, args0]) hall hpos hroom
                refine region_good (n := 0) (M := [some (gh e')]) hF noX_good hmix hc3 hrun (by simp) hat3 fun a4 w4 σ4 j4 hat4 hst4 _ hd4 => ?_
                exact wpIn_ret (fin hat4 hget (((hst1.trans (hst2.le (by simp))).trans (hst4.le (by simp)))) (hd4.trans (put_defers.trans (hd2.trans hd1))))
              grind
          grind
        grind
      grind
    grind
  grind
theorem insI_perm (x : Int) : ∀ l, (insI x l).Perm (x :: l)
  | [] => List.Perm.refl _
  | y :: l => by
    unfold insI
    split
    · grind
    · exact ((insI_perm x l).cons y).trans (List.Perm.swap x y l)
theorem sortI_perm : ∀ l, (sortI l).Perm l
  | [] => List.Perm.refl _
  | x :: l => (insI_perm x _).trans ((sortI_perm l).cons x)
theorem insI_sorted {x : Int} : ∀ {l : List Int}, l.Pairwise (· ≤ ·) → (insI x l).Pairwise (· ≤ ·)
  | [], _ => by simp [insI]
  | y :: l, h => by
    unfold insI
    obtain ⟨h1, h2⟩ := List.pairwise_cons.1 h
    split
    · grind [List.pairwise_cons]
    · refine List.pairwise_cons.2 ⟨fun z hz => ?_, insI_sorted h2⟩
      rcases List.mem_cons.1 ((insI_perm x l).mem_iff.1 hz) with rfl | hz
      · omega
      grind
theorem sortI_sorted : ∀ l, (sortI l).Pairwise (· ≤ ·)
  | [] => List.Pairwise.nil
  | x :: l => insI_sorted (sortI_sorted l)
theorem sortI_len (l : List Int) : (sortI l).length = l.length := (sortI_perm l).length_eq
theorem sortI_merge (l : List Int) : l.mergeSort (fun x y => decide (x ≤ y)) = sortI l := by
  grind [List.Perm.eq_of_pairwise, Int.le_antisymm, sortI_sorted, List.mergeSort_perm, trans, sortI_perm, List.pairwise_mergeSort, decide]
theorem zsOf_some : ∀ {r : List (List Cl)} {zs : List Int}, zsOf r = some zs → r = rowsOf zs
  | [], zs, h => by cases h; rfl
  | x :: r, zs, h => by
    unfold zsOf at h
    split at h
    · cases hr : zsOf r with
      | none => grind
      | some l =>
        rw [hr] at h
        cases h
        rw [zsOf_some hr]; rfl
    grind
structure SortC (P : Program) (f : FuncId) : Prop where
  fn : ∃ fn, P.funcs[f]? = some fn ∧ fn.body.isNone = false ∧ (fn.name == "runtime.NumGoroutine") = false
  none : ∀ (p : Option Addr) (cap : Nat) (w : World), Calls P f #[.slice p 0 cap] w fun e w' => e = .returned (.tuple #[]) ∧ w' = w
  some : ∀ (blk off cap : Nat) (zs : List Int) (w : World), Go.Sort.Holds (Value.int .i64) w blk off zs.toArray → blk < w.heap.size → zs.length < 4611686018427387904 →
    Calls P f #[.slice (.some ⟨blk, off, .none⟩) zs.length cap] w fun e w' => e = .returned (.tuple #[]) ∧ ∃ n os, w' = Go.Sort.grow (Go.Sort.putRow (Value.int .i64) (Go.Sort.ahead w n) blk off (zs.mergeSort fun x y => decide (x ≤ y)).toArray) os
theorem MR.more (hm : MR own σ j M w) {w' : World} (h : ∀ k, k < w.heap.size → w'.heap[k]? = w.heap[k]?) : MR own σ j M w' := by
  refine ⟨fun id b hb => ?_, hm.injP, hm.dom, hm.okP⟩
  obtain ⟨pl, h1, h2, h3⟩ := hm.blkP id b hb
  exact ⟨pl, h1, h2.mono (Stab.le_refl _) (Inj.le_refl _) (fun k hk => h k (hm.heapLtP hb (Inj.atk_of h1 hk))) (fun _ _ _ h _ _ => h), h3⟩
theorem sort_good {f : FuncId} (hS : SortC P f) {x : Cl} {res : AV} {M' : Mem} (h : sortX x M = some (res, M')) (hag : Agree σ w) (hm : MR own σ j M w) {v : Value} (hx : VC σ j x v) : Calls P f #[v] w (Ret own σ j M w res M') := by
  unfold sortX at h
  split at h
  · cases h
    cases hx
    refine Calls.mono' (hS.none none 0 w) ?_
    rintro e w' ⟨rfl, rfl⟩
    exact ⟨.tuple #[], σ, j, rfl, ⟨#[], rfl, WVRs.nil⟩, hag, hm, Step.refl⟩
  · rename_i id g es off len cap
    split at h
    · rename_i h0
      subst h0
      cases h
      cases hx with
      | slice _ _ _ _ _ _ _ pl ad c hj hl hcap ha =>
        refine Calls.mono' (hS.none ad c w) ?_
        rintro e w' ⟨rfl, rfl⟩
        exact ⟨.tuple #[], σ, j, rfl, ⟨#[], rfl, WVRs.nil⟩, hag, hm, Step.refl⟩
    · rename_i h0
      split at h
      · rename_i b hb0
        obtain ⟨hbk, hgen⟩ := look_some hb0
        subst hgen
        split at h
        · rename_i hc
          simp only [Bool.and_eq_true, Bool.not_eq_true', decide_eq_true_eq, beq_iff_eq] at hc
          obtain ⟨⟨⟨⟨hbox, hfz⟩, hfit⟩, hone⟩, hbig⟩ := hc
          split at h
          · rename_i zs hzs
            cases h
            have hz := zsOf_some hzs
            have hzl : zs.length = len := by
              have := congrArg List.length hz
              simp [rowsOf] at this
              omega
            cases hx with
            | slice _ _ _ _ _ _ _ pl ad c hj hl hcap ha =>
              obtain ⟨L, rfl, _, rfl, hf2⟩ := ha (by omega)
              obtain ⟨pl', hpl', hbr, hown⟩ := hm.blk id b hbk
              rw [hj] at hpl'; cases hpl'
              have hbr : BL σ j b L w := hbr
              obtain ⟨C, T, fr, hC, hfr, hsz, hrow⟩ := hbr.heap
              have hf0 : fr = (0, 0) := by
                by_cases h : fr = (0, 0)
                · exact h
                · rw [(hfr h).1] at hfz; cases hfz
              subst hf0
              have hes := hbr.esz
              have hLe : L.esz = 1 := by rw [hes, hone]
              have hfitC := hbr.fit
              have hlt : L.blk < w.heap.size := (Array.getElem?_eq_some_iff.1 hC).1
              rw [hone] at hfitC
              rw [hLe, Nat.mul_one] at hf2 ⊢
              have hold : Go.Sort.Holds (Value.int .i64) w L.blk (L.off + off) zs.toArray := by
                intro i hi
                have hi' : i < zs.length := by simpa using hi
                have hri : b.rows[off + i]? = some [.int .i64 zs[i]] := by
                  have h1 : ((b.rows.drop off).take len)[i]? = (rowsOf zs)[i]? := by rw [hz]
                  rw [List.getElem?_take_of_lt (by omega), List.getElem?_drop] at h1
                  rw [h1]; simp [rowsOf, hi']
                obtain ⟨v, hv1, hv2⟩ := hrow (off + i) _ 0 (.int .i64 zs[i]) hri rfl
                rw [if_neg (by simp [hbox])] at hv2
                cases hv2
                refine ⟨?_, by simp [World.frozen?, hC]⟩
                simp only [World.cell?, hC, Option.isSome_none, Bool.false_eq_true, if_false]
                rw [hone] at hv1
                rw [show L.off + off + i = L.off + (off + i) * 1 + 0 by omega, hv1]
                simp [hi']
              subst hzl
              refine Calls.mono' (hS.some L.blk (L.off + off) c zs w hold hlt hbig) ?_
              rintro e w' ⟨rfl, n, os, rfl⟩
              rw [sortI_merge]
              generalize hC' : Go.Sort.putCells (Value.int .i64) (L.off + off) (sortI zs).toArray C = C'
              have hC'sz : C'.size = C.size := by rw [← hC']; simp [Go.Sort.putCells]
              have hC'get : ∀ p, C'[p]? = if L.off + off ≤ p ∧ p < L.off + off + zs.length then (if p < C.size then some (Value.int .i64 ((sortI zs).toArray[p - (L.off + off)]!)) else none) else C[p]? := by
                intro p
                rw [← hC']
                simp only [Go.Sort.putCells, Array.getElem?_mapIdx, List.size_toArray, sortI_len]
                by_cases hp : p < C.size
                · rw [Array.getElem?_eq_getElem hp]
                  simp only [Option.map_some, hp, if_true]
                  split <;> rfl
                · rw [Array.getElem?_eq_none (by omega)]
                  simp [hp]
              have hb1 : (Go.Sort.grow (Go.Sort.putRow (Value.int .i64) (Go.Sort.ahead w n) L.blk (L.off + off) (sortI zs).toArray) os).heap[L.blk]? = some (.cells C' T (0, 0)) := by
                rw [Go.Sort.grow]
                simp only
                rw [Array.getElem?_append_left (by simpa using hlt)]
                simp [Go.Sort.putRow, Go.Sort.mapBlock, Go.Sort.ahead, Array.getElem?_modify, hC, Go.Sort.onCells, hC']
              have hb2 : ∀ k, k < w.heap.size → k ≠ L.blk → (Go.Sort.grow (Go.Sort.putRow (Value.int .i64) (Go.Sort.ahead w n) L.blk (L.off + off) (sortI zs).toArray) os).heap[k]? = w.heap[k]? := by
                intro k hk hne
                rw [Go.Sort.grow]
                simp only
                rw [Array.getElem?_append_left (by simpa using hk)]
                simp [Go.Sort.putRow, Go.Sort.mapBlock, Go.Sort.ahead, Array.getElem?_modify, fun e => hne (Eq.symm e), Ne.symm hne]
              have hsize : w.heap.size ≤ (Go.Sort.grow (Go.Sort.putRow (Value.int .i64) (Go.Sort.ahead w n) L.blk (L.off + off) (sortI zs).toArray) os).heap.size := by simp [Go.Sort.grow]
              have hos : (Go.Sort.grow (Go.Sort.putRow (Value.int .i64) (Go.Sort.ahead w n) L.blk (L.off + off) (sortI zs).toArray) os).os = w.os := rfl
              have hout : (Go.Sort.grow (Go.Sort.putRow (Value.int .i64) (Go.Sort.ahead w n) L.blk (L.off + off) (sortI zs).toArray) os).output = w.output := rfl
              have htape : (Go.Sort.grow (Go.Sort.putRow (Value.int .i64) (Go.Sort.ahead w n) L.blk (L.off + off) (sortI zs).toArray) os).tape = w.tape := rfl
              have hdrn : w.drawn ≤ (Go.Sort.grow (Go.Sort.putRow (Value.int .i64) (Go.Sort.ahead w n) L.blk (L.off + off) (sortI zs).toArray) os).drawn := Nat.le_add_right _ _
              generalize Go.Sort.grow (Go.Sort.putRow (Value.int .i64) (Go.Sort.ahead w n) L.blk (L.off + off) (sortI zs).toArray) os = w' at hb1 hb2 hsize hos hout htape hdrn
              generalize hrows' : b.rows.take off ++ rowsOf (sortI zs) ++ b.rows.drop (off + zs.length) = rows'
              have hsl := sortI_len zs
              have hrl : rows'.length = b.rows.length := by rw [← hrows']; simp [rowsOf]; omega
              have hr'get : ∀ i, rows'[i]? = if i < off then b.rows[i]? else if i < off + zs.length then (rowsOf (sortI zs))[i - off]? else b.rows[i]? := by
                intro i
                have := getElem?_splice b.rows (rowsOf (sortI zs)) off (by simp [rowsOf]; omega) i
                simp only [rowsOf, List.length_map, hsl] at this
                rw [← hrows', rowsOf, this]
              have hagc : ∀ b' o v, σ b' o = some v → w'.cell? ⟨b', o, none⟩ = some v := by
                intro b' o v hv'
                have hold := hag.cells b' o v hv'
                by_cases hbb : b' = L.blk
                · subst hbb
                  have hlo : o < L.off := by
                    rcases Nat.lt_or_ge o L.off with h | h
                    · exact h
                    · have := hbr.stab o h (fun hh => by grind)
                      grind
                  simp only [World.cell?, hC, Option.isSome_none, Bool.false_eq_true, if_false] at hold
                  simp only [World.cell?, hb1, Option.isSome_none, Bool.false_eq_true, if_false]
                  grind
                grind [World.cell?]
              have hbl : BL σ j { b with rows := rows', ver := b.ver + 1 } L w' := by
                refine ⟨hes, hbr.pos, fun r hr' => ?_, by simpa [hrl, hone] using hfitC, ⟨C', T, (0, 0), hb1, fun h => absurd rfl h, by grind, fun i' r n cl hi' hn => ?_⟩, fun o h1 h2 => hbr.stab o h1 (fun h => by grind)⟩
                · obtain ⟨q, hq⟩ := List.getElem?_of_mem hr'
                  rw [hr'get] at hq
                  split at hq
                  · exact hbr.len r (mem_of_get hq)
                  · split at hq
                    · have := mem_of_get hq
                      simp only [rowsOf, List.mem_map] at this
                      grind
                    · exact hbr.len r (mem_of_get hq)
                · simp only at hi' ⊢
                  simp only [hbox, Bool.false_eq_true, if_false]
                  have hnl := lt_of_get hn
                  rw [hr'get] at hi'
                  rw [hC'get, hone, Nat.mul_one]
                  by_cases h1 : i' < off
                  · rw [if_pos h1] at hi'
                    obtain ⟨v, hv1, hv2⟩ := hrow i' r n cl hi' hn
                    rw [if_neg (by grind)] at hv2
                    have hrl1 := hbr.len r (mem_of_get hi')
                    grind
                  · rw [if_neg h1] at hi'
                    by_cases h2 : i' < off + zs.length
                    · rw [if_pos h2] at hi'
                      have hk : i' - off < (sortI zs).length := by omega
                      simp only [rowsOf, List.getElem?_map, List.getElem?_eq_getElem hk, Option.map_some, Option.some.injEq] at hi'
                      subst hi'
                      obtain rfl : n = 0 := by simp at hnl; omega
                      cases hn
                      refine ⟨.int .i64 (sortI zs)[i' - off], ?_, .int _ _ _⟩
                      rw [if_pos (by omega), if_pos (by omega)]
                      have e1 : L.off + i' + 0 - (L.off + off) = i' - off := by omega
                      rw [e1]
                      simp [hk]
                    · rw [if_neg h2] at hi'
                      obtain ⟨v, hv1, hv2⟩ := hrow i' r n cl hi' hn
                      rw [if_neg (by simp [hbox])] at hv2
                      have hrl1 := hbr.len r (mem_of_get hi')
                      rw [hone] at hrl1 hv1
                      rw [Nat.mul_one] at hv1
                      exact ⟨v, by rw [if_neg (by omega)]; exact hv1, hv2⟩
              refine ⟨.tuple #[], σ, j, rfl, ⟨#[], rfl, WVRs.nil⟩, ⟨hagc, hag.glob⟩, ?_, ?_⟩
              · -- a world that is w' at the old places and w beyond
                have hw1 : ∀ k, k ≠ L.blk → ({ w' with heap := (w'.heap.extract 0 w.heap.size) } : World).heap[k]? = w.heap[k]? := by
                  intro k hne
                  rcases Nat.lt_or_ge k w.heap.size with hk | hk
                  · simp only [Array.getElem?_extract]
                    rw [if_pos (by omega), Nat.zero_add]; exact hb2 k hk hne
                  · rw [Array.getElem?_eq_none (by simp; omega), Array.getElem?_eq_none hk]
                have hbl1 : BL σ j { b with rows := rows', ver := b.ver + 1 } L ({ w' with heap := (w'.heap.extract 0 w.heap.size) } : World) := by
                  obtain ⟨a1, a2, a3, a4, ⟨C2, T2, fr2, q1, q0, q2, q3⟩, a6⟩ := hbl
                  refine ⟨a1, a2, a3, a4, ⟨C2, T2, fr2, ?_, q0, q2, q3⟩, a6⟩
                  simp only [Array.getElem?_extract]
                  rw [if_pos (by omega), Nat.zero_add]; exact q1
                refine (hm.write hbk hj (b' := { b with rows := rows', ver := b.ver + 1 }) rfl hw1 hbl1).more fun k hk => ?_
                simp only [Array.size_extract] at hk
                simp only [Array.getElem?_extract]
                rw [if_pos (by omega), Nat.zero_add]
              · refine ⟨Stab.le_refl _, fun _ _ _ _ h => h, hsize, fun b' hb' ho => ?_, fun _ _ _ h => .inl h, fun id' b' hid hb' => ?_, ⟨hos, hout, htape, fun _ => hdrn⟩⟩
                · exact hb2 b' hb' (fun e => ho (e ▸ hown L rfl))
                · by_cases hid' : id = id'
                  · subst hid'
                    rw [hbk] at hb'; cases hb'
                    exact ⟨_, by simp [hid]; rfl, by simp, fun h => by simp at h⟩
                  · refine ⟨b', by rw [List.getElem?_set_ne hid']; exact hb', Nat.le_refl _, fun _ => ⟨rfl, fun L' hL' => ?_⟩⟩
                    exact hb2 _ (hm.heapLtP hb' hL') (fun e => hid' (hm.injP id id' b b' L' hbk hb' (by rw [e]; exact Inj.atk_loc hj) hL'))
          grind
        grind
      grind
  grind
theorem zRow_some (k key : Nat) : ∀ {r : List Cl} {l : List Int} (i : Nat), zRow k key i r = some l → r.length = l.length ∧ ∀ n, n < l.length → r[n]? = some (cellZ (kindN k key (i + n)) (l.getD n 0))
  | [], l, i, h => by simp [zRow] at h; subst h; exact ⟨rfl, fun n hn => by simp at hn⟩
  | c :: r, l, i, h => by
    have key1 : ∀ (z : Int) (l' : List Int), cellZ (kindN k key i) z = c → zRow k key (i + 1) r = some l' → (c :: r).length = (z :: l').length ∧ ∀ n, n < (z :: l').length → (c :: r)[n]? = some (cellZ (kindN k key (i + n)) ((z :: l').getD n 0)) := by
      intro z l' hc hr
      obtain ⟨h1, h2⟩ := zRow_some k key (i + 1) hr
      grind
    unfold zRow at h
    split at h
    · split at h
      · grind
      · simp only [Option.map_eq_some_iff] at h
        grind [cellZ]
    · split at h
      · rename_i b hk
        simp only [Option.map_eq_some_iff] at h
        obtain ⟨l', h1, rfl⟩ := h
        exact key1 _ _ (by cases b <;> simp [cellZ, hk]) h1
      grind
    grind
theorem zzOf_some (k key : Nat) : ∀ {rs : List (List Cl)} {zs : List (List Int)}, zzOf k key rs = some zs → rs.length = zs.length ∧ ∀ (i : Nat) (hi : i < zs.length), ∃ r, rs[i]? = some r ∧ r.length = zs[i].length ∧ ∀ n, n < zs[i].length → r[n]? = some (cellZ (kindN k key n) (zs[i].getD n 0))
  | [], zs, h => by simp [zzOf] at h; subst h; exact ⟨rfl, fun i hi => by simp at hi⟩
  | r :: rs, zs, h => by
    unfold zzOf at h
    split at h
    · rename_i x xs h1 h2
      obtain ⟨g1, g2⟩ := zRow_some k key 0 h1
      obtain ⟨g3, g4⟩ := zzOf_some k key h2
      grind
    grind
def vZ (b : Bool) (z : Int) : Value := if b then .bool (z != 0) else .int .i64 z
theorem cellZ_VC {σ : Stab} {j : Inj} {b : Bool} {z : Int} {v : Value} (h : VC σ j (cellZ b z) v) : v = vZ b z := by
  cases b with
  | true => cases h; rfl
  | false => cases h; rfl
theorem vZ_VC (σ : Stab) (j : Inj) (b : Bool) (z : Int) : VC σ j (cellZ b z) (vZ b z) := by
  cases b with
  | true => exact .bool _ _
  | false => exact .int _ _ _
def encZ (k key : Nat) (l : List Int) : List Value := (List.range k).map fun i => vZ (kindN k key i) (l.getD i 0)
def flatZ (k key : Nat) (zs : List (List Int)) : List Value := zs.flatMap (encZ k key)
theorem flatZ_len (k key : Nat) : ∀ (zs : List (List Int)), (flatZ k key zs).length = zs.length * k
  | [] => by simp [flatZ]
  | z :: zs => by
    have := flatZ_len k key zs
    grind [flatZ, List.length_append, List.length_cons, encZ, Nat.succ_mul]
theorem flatZ_get (k key : Nat) : ∀ (zs : List (List Int)) (i n : Nat) (hi : i < zs.length), n < k → (flatZ k key zs)[i * k + n]? = some (vZ (kindN k key n) (zs[i].getD n 0))
  | z :: zs, 0, n, hi, hn => by
    simp_all [flatZ, List.flatMap_cons, Nat.zero_mul, Nat.zero_add, List.getElem?_append_left, encZ]
  | z :: zs, i + 1, n, hi, hn => by
    have hl : (encZ k key z).length = k := by simp [encZ]
    have := flatZ_get k key zs i n (by grind) hn
    grind [flatZ, List.getElem?_append_right, Nat.succ_mul]
structure SortFC (P : Program) (f g k key : Nat) : Prop where
  fn : ∃ fn, P.funcs[f]? = some fn ∧ fn.body.isNone = false ∧ (fn.name == "runtime.NumGoroutine") = false
  pos : 0 < k
  none : ∀ (p : Option Addr) (cap : Nat) (w : World), Calls P f #[.slice p 0 cap, .func (.func g) #[] #[]] w fun e w' => e = .returned (.tuple #[]) ∧ w' = w
  some : ∀ (blk off cap : Nat) (zs : List (List Int)) (w : World), Go.Sort.Holds id w blk off (flatZ k key zs).toArray → blk < w.heap.size → zs.length < 4611686018427387904 →
    Calls P f #[.slice (.some ⟨blk, off, .none⟩) zs.length cap, .func (.func g) #[] #[]] w fun e w' => e = .returned (.tuple #[]) ∧ ∃ n os, w' = Go.Sort.grow (Go.Sort.putRow id (Go.Sort.ahead w n) blk off (flatZ k key (sortZ k key zs)).toArray) os
structure KeysC (P : Program) (f g : Nat) : Prop where
  fn : ∃ fn, P.funcs[f]? = some fn ∧ fn.body.isNone = false ∧ (fn.name == "runtime.NumGoroutine") = false
  keys : ∃ T, ∀ (B m clock : Nat) (es : Array MapEntry) (ks : List Int) (w : World), w.cell? ⟨B, 0, none⟩ = some (.map (some m)) → w.heap[m]? = some (.map es clock) → Go.MapKept.Stamped es clock → es.toList.map (·.key) = ks.map (Value.int .i64) →
    (∀ k ∈ ks, -9223372036854775808 ≤ k ∧ k < 9223372036854775808) → ks.length ≤ 1000000 →
    Calls P f #[.func (.func g) #[] #[.pointer (some ⟨B, 0, none⟩)]] w fun e w' => ∃ v, e = .returned v ∧ w'.ownsRow w.heap.size T 1 v ks.length ((sortI ks).map (Value.int .i64)) ∧ Go.RowKit.Below w.heap.size w w'
structure MapC (P : Program) (f : Nat) : Prop where
  fn : ∃ fn, P.funcs[f]? = some fn ∧ fn.body.isNone = false ∧ (fn.name == "runtime.NumGoroutine") = false
  clone : ∀ (b : Nat) (es : Array MapEntry) (clock : Nat) (w : World), w.heap[b]? = some (.map es clock) → Calls P f #[.map (some b)] w fun e w' => e = .returned (.map (some w.heap.size)) ∧ w' = w.alloc (.map es clock)
def SortAny (P : Program) (c : Nat × Nat × Nat × Bool) : Prop := (c.2.2.1 = 0 → SortC P c.1) ∧ (c.2.2.1 % 64 = 1 → KeysC P c.1 (c.2.2.1 / 64)) ∧ (c.2.2.1 % 64 = 2 → MapC P c.1) ∧ (8 ≤ c.2.2.1 % 64 → SortFC P c.1 (c.2.2.1 / 64) (c.2.2.1 / 8 % 8) (c.2.2.1 % 8))
theorem sortf_good {f g k key : Nat} (hS : SortFC P f g k key) {x : Cl} {res : AV} {M' : Mem} (h : sortFX k key x M = some (res, M')) (hag : Agree σ w) (hm : MR own σ j M w) {v : Value} (hx : VC σ j x v) : Calls P f #[v, .func (.func g) #[] #[]] w (Ret own σ j M w res M') := by
  unfold sortFX at h
  split at h
  · cases h
    cases hx
    refine Calls.mono' (hS.none none 0 w) ?_
    rintro e w' ⟨rfl, rfl⟩
    exact ⟨.tuple #[], σ, j, rfl, ⟨#[], rfl, WVRs.nil⟩, hag, hm, Step.refl⟩
  · rename_i id0 gg es off len cap
    split at h
    · rename_i h0
      subst h0
      cases h
      cases hx with
      | slice _ _ _ _ _ _ _ pl ad c hj hl hcap ha =>
        refine Calls.mono' (hS.none ad c w) ?_
        rintro e w' ⟨rfl, rfl⟩
        exact ⟨.tuple #[], σ, j, rfl, ⟨#[], rfl, WVRs.nil⟩, hag, hm, Step.refl⟩
    · rename_i h0
      split at h
      · rename_i b hb0
        obtain ⟨hbk, hgen⟩ := look_some hb0
        subst hgen
        split at h
        · rename_i hc
          simp only [Bool.and_eq_true, Bool.not_eq_true', decide_eq_true_eq, beq_iff_eq] at hc
          obtain ⟨⟨⟨⟨hbox, hfz⟩, hfit⟩, hone⟩, hbig⟩ := hc
          split at h
          · rename_i zs hzs
            cases h
            obtain ⟨hz0, hz⟩ := zzOf_some k key hzs
            have hzl : zs.length = len := by
              grind
            cases hx with
            | slice _ _ _ _ _ _ _ pl ad c hj hl hcap ha =>
              obtain ⟨L, rfl, _, rfl, hf2⟩ := ha (by omega)
              obtain ⟨pl', hpl', hbr, hown⟩ := hm.blk id0 b hbk
              rw [hj] at hpl'; cases hpl'
              have hbr : BL σ j b L w := hbr
              obtain ⟨C, T, fr, hC, hfr, hsz, hrow⟩ := hbr.heap
              have hf0 : fr = (0, 0) := by
                by_cases h : fr = (0, 0)
                · exact h
                · rw [(hfr h).1] at hfz; cases hfz
              subst hf0
              have hes := hbr.esz
              have hpos := hS.pos
              have hLe : L.esz = k := by grind
              have hfitC := hbr.fit
              have hlt : L.blk < w.heap.size := (Array.getElem?_eq_some_iff.1 hC).1
              rw [hone] at hfitC
              rw [hLe] at hf2 ⊢
              have hF : ∀ zz : List (List Int), (flatZ k key zz).toArray.size = zz.length * k := fun zz => by simp [flatZ_len]
              have hmul : (off + zs.length) * k ≤ b.rows.length * k := Nat.mul_le_mul_right _ (by omega)
              have hadd : (off + zs.length) * k = off * k + zs.length * k := Nat.add_mul _ _ _
              have hri : ∀ i (hi : i < zs.length), ∃ r, b.rows[off + i]? = some r ∧ r.length = zs[i].length ∧ ∀ n, n < zs[i].length → r[n]? = some (cellZ (kindN k key n) (zs[i].getD n 0)) := by
                grind
              have hzk : ∀ i (hi : i < zs.length), (zs[i]).length = k := by
                intro i hi
                obtain ⟨r, h1, h2, _⟩ := hri i hi
                have := hbr.len _ (mem_of_get h1)
                grind
              have hold : Go.Sort.Holds id w L.blk (L.off + off * k) (flatZ k key zs).toArray := by
                intro t ht
                rw [hF] at ht
                have hq : t / k < zs.length := Nat.div_lt_of_lt_mul (by grind)
                have hm' : t % k < k := Nat.mod_lt _ hpos
                have et : t = t / k * k + t % k := by grind [Nat.mul_comm, Nat.div_add_mod]
                have hg := flatZ_get k key zs (t / k) (t % k) hq hm'
                rw [← et] at hg
                have hzl' := hzk _ hq
                obtain ⟨r0, hr0, hr1, hr2⟩ := hri _ hq
                obtain ⟨v, hv1, hv2⟩ := hrow (off + t / k) _ (t % k) (cellZ (kindN k key (t % k)) ((zs[t / k]).getD (t % k) 0)) hr0 (hr2 _ (by rw [hzl']; exact hm'))
                rw [if_neg (by simp [hbox])] at hv2
                have hv2 := cellZ_VC hv2
                subst hv2
                refine ⟨?_, by simp [World.frozen?, hC]⟩
                simp only [World.cell?, hC, Option.isSome_none, Bool.false_eq_true, if_false]
                grind
              subst hzl
              refine Calls.mono' (hS.some L.blk (L.off + off * k) c zs w hold hlt hbig) ?_
              rintro e w' ⟨rfl, n, os, rfl⟩
              have hsl := sortZ_len k key zs
              generalize hZ : sortZ k key zs = zz at hsl
              generalize hC' : Go.Sort.putCells id (L.off + off * k) (flatZ k key zz).toArray C = C'
              have hC'sz : C'.size = C.size := by rw [← hC']; simp [Go.Sort.putCells]
              have hC'get : ∀ p, C'[p]? = if L.off + off * k ≤ p ∧ p < L.off + off * k + zs.length * k then (if p < C.size then some ((flatZ k key zz).toArray[p - (L.off + off * k)]!) else none) else C[p]? := by
                intro p
                rw [← hC']
                simp only [Go.Sort.putCells, Array.getElem?_mapIdx, hF, hsl]
                by_cases hp : p < C.size
                · rw [Array.getElem?_eq_getElem hp]
                  simp only [Option.map_some, hp, if_true]
                  split <;> rfl
                · rw [Array.getElem?_eq_none (by omega)]
                  simp [hp]
              have hb1 : (Go.Sort.grow (Go.Sort.putRow id (Go.Sort.ahead w n) L.blk (L.off + off * k) (flatZ k key zz).toArray) os).heap[L.blk]? = some (.cells C' T (0, 0)) := by
                rw [Go.Sort.grow]
                simp only
                rw [Array.getElem?_append_left (by simpa using hlt)]
                simp [Go.Sort.putRow, Go.Sort.mapBlock, Go.Sort.ahead, Array.getElem?_modify, hC, Go.Sort.onCells, hC']
              have hb2 : ∀ q, q < w.heap.size → q ≠ L.blk → (Go.Sort.grow (Go.Sort.putRow id (Go.Sort.ahead w n) L.blk (L.off + off * k) (flatZ k key zz).toArray) os).heap[q]? = w.heap[q]? := by
                intro q hk hne
                rw [Go.Sort.grow]
                simp only
                rw [Array.getElem?_append_left (by simpa using hk)]
                simp [Go.Sort.putRow, Go.Sort.mapBlock, Go.Sort.ahead, Array.getElem?_modify, fun e => hne (Eq.symm e), Ne.symm hne]
              have hsize : w.heap.size ≤ (Go.Sort.grow (Go.Sort.putRow id (Go.Sort.ahead w n) L.blk (L.off + off * k) (flatZ k key zz).toArray) os).heap.size := by simp [Go.Sort.grow]
              have hos : (Go.Sort.grow (Go.Sort.putRow id (Go.Sort.ahead w n) L.blk (L.off + off * k) (flatZ k key zz).toArray) os).os = w.os := rfl
              have hout : (Go.Sort.grow (Go.Sort.putRow id (Go.Sort.ahead w n) L.blk (L.off + off * k) (flatZ k key zz).toArray) os).output = w.output := rfl
              have htape : (Go.Sort.grow (Go.Sort.putRow id (Go.Sort.ahead w n) L.blk (L.off + off * k) (flatZ k key zz).toArray) os).tape = w.tape := rfl
              have hdrn : w.drawn ≤ (Go.Sort.grow (Go.Sort.putRow id (Go.Sort.ahead w n) L.blk (L.off + off * k) (flatZ k key zz).toArray) os).drawn := Nat.le_add_right _ _
              generalize Go.Sort.grow (Go.Sort.putRow id (Go.Sort.ahead w n) L.blk (L.off + off * k) (flatZ k key zz).toArray) os = w' at hb1 hb2 hsize hos hout htape hdrn
              generalize hrows' : b.rows.take off ++ zz.map (encC k key) ++ b.rows.drop (off + zs.length) = rows'
              have hrl : rows'.length = b.rows.length := by rw [← hrows']; simp; omega
              have hr'get : ∀ i, rows'[i]? = if i < off then b.rows[i]? else if i < off + zs.length then (zz.map (encC k key))[i - off]? else b.rows[i]? := by
                intro i
                have := getElem?_splice b.rows (zz.map (encC k key)) off (by simp; omega) i
                simp only [List.length_map, hsl] at this
                rw [← hrows', this]
              have hagc : ∀ b' o v, σ b' o = some v → w'.cell? ⟨b', o, none⟩ = some v := by
                intro b' o v hv'
                have hold := hag.cells b' o v hv'
                by_cases hbb : b' = L.blk
                · subst hbb
                  have hlo : o < L.off := by
                    rcases Nat.lt_or_ge o L.off with h | h
                    · exact h
                    · have := hbr.stab o h (fun hh => by rw [hfz] at hh; cases hh)
                      rw [this] at hv'; cases hv'
                  simp only [World.cell?, hC, Option.isSome_none, Bool.false_eq_true, if_false] at hold
                  simp only [World.cell?, hb1, Option.isSome_none, Bool.false_eq_true, if_false]
                  rw [hC'get, if_neg (by omega)]; exact hold
                · have := hb2 b' (hag.lt hv') hbb
                  simpa [World.cell?, this] using hold
              have hbl : BL σ j { b with rows := rows', ver := b.ver + 1 } L w' := by
                refine ⟨hes, hbr.pos, fun r hr' => ?_, by simpa [hrl, hone] using hfitC, ⟨C', T, (0, 0), hb1, fun h => absurd rfl h, by rw [hC'sz, hsz], fun i' r n cl hi' hn => ?_⟩, fun o h1 h2 => hbr.stab o h1 (fun h => by rw [hfz] at h; cases h)⟩
                · obtain ⟨q, hq⟩ := List.getElem?_of_mem hr'
                  rw [hr'get] at hq
                  split at hq
                  · exact hbr.len r (mem_of_get hq)
                  · split at hq
                    · have := mem_of_get hq
                      simp only [List.mem_map] at this
                      obtain ⟨_, _, rfl⟩ := this
                      simp [encC, hone]
                    · exact hbr.len r (mem_of_get hq)
                · simp only at hi' ⊢
                  simp only [hbox, Bool.false_eq_true, if_false]
                  have hnl := lt_of_get hn
                  rw [hr'get] at hi'
                  rw [hC'get, hone]
                  by_cases h1 : i' < off
                  · rw [if_pos h1] at hi'
                    obtain ⟨v, hv1, hv2⟩ := hrow i' r n cl hi' hn
                    rw [if_neg (by simp [hbox])] at hv2
                    have hrl1 := hbr.len r (mem_of_get hi')
                    rw [hone] at hrl1 hv1
                    have : (i' + 1) * k ≤ off * k := Nat.mul_le_mul_right _ h1
                    rw [Nat.succ_mul] at this
                    exact ⟨v, by rw [if_neg (by omega)]; exact hv1, hv2⟩
                  · rw [if_neg h1] at hi'
                    by_cases h2 : i' < off + zs.length
                    · rw [if_pos h2] at hi'
                      have hk : i' - off < zz.length := by omega
                      simp only [List.getElem?_map, List.getElem?_eq_getElem hk, Option.map_some, Option.some.injEq] at hi'
                      subst hi'
                      have hnk : n < k := by simpa [encC] using hnl
                      have ecl : cl = cellZ (kindN k key n) ((zz[i' - off]).getD n 0) := by
                        simp [encC, hnk] at hn
                        simpa using hn.symm
                      subst ecl
                      refine ⟨vZ (kindN k key n) ((zz[i' - off]).getD n 0), ?_, vZ_VC _ _ _ _⟩
                      have hg := flatZ_get k key zz (i' - off) n hk hnk
                      have e0 : i' = off + (i' - off) := by omega
                      have e1 : i' * k = off * k + (i' - off) * k := by rw [← Nat.add_mul, ← e0]
                      have e2 : (i' - off + 1) * k ≤ zs.length * k := Nat.mul_le_mul_right _ (by omega)
                      rw [Nat.succ_mul] at e2
                      have e3 : (i' + 1) * k ≤ b.rows.length * k := Nat.mul_le_mul_right _ (by omega)
                      rw [Nat.succ_mul] at e3
                      rw [if_pos (by omega), if_pos (by omega)]
                      rw [show L.off + i' * k + n - (L.off + off * k) = (i' - off) * k + n by omega, getElem!_def, List.getElem?_toArray, hg]
                    · rw [if_neg h2] at hi'
                      obtain ⟨v, hv1, hv2⟩ := hrow i' r n cl hi' hn
                      rw [if_neg (by simp [hbox])] at hv2
                      have hrl1 := hbr.len r (mem_of_get hi')
                      rw [hone] at hrl1 hv1
                      have : (off + zs.length) * k ≤ i' * k := Nat.mul_le_mul_right _ (by omega)
                      exact ⟨v, by rw [if_neg (by omega)]; exact hv1, hv2⟩
              refine ⟨.tuple #[], σ, j, rfl, ⟨#[], rfl, WVRs.nil⟩, ⟨hagc, hag.glob⟩, ?_, ?_⟩
              · -- a world that is w' at the old places and w beyond
                have hw1 : ∀ k, k ≠ L.blk → ({ w' with heap := (w'.heap.extract 0 w.heap.size) } : World).heap[k]? = w.heap[k]? := by
                  intro k hne
                  rcases Nat.lt_or_ge k w.heap.size with hk | hk
                  · simp only [Array.getElem?_extract]
                    rw [if_pos (by omega), Nat.zero_add]; exact hb2 k hk hne
                  · rw [Array.getElem?_eq_none (by simp; omega), Array.getElem?_eq_none hk]
                have hbl1 : BL σ j { b with rows := rows', ver := b.ver + 1 } L ({ w' with heap := (w'.heap.extract 0 w.heap.size) } : World) := by
                  obtain ⟨a1, a2, a3, a4, ⟨C2, T2, fr2, q1, q0, q2, q3⟩, a6⟩ := hbl
                  refine ⟨a1, a2, a3, a4, ⟨C2, T2, fr2, ?_, q0, q2, q3⟩, a6⟩
                  simp only [Array.getElem?_extract]
                  rw [if_pos (by omega), Nat.zero_add]; exact q1
                refine (hm.write hbk hj (b' := { b with rows := rows', ver := b.ver + 1 }) rfl hw1 hbl1).more fun k hk => ?_
                simp only [Array.size_extract] at hk
                simp only [Array.getElem?_extract]
                rw [if_pos (by omega), Nat.zero_add]
              · refine ⟨Stab.le_refl _, fun _ _ _ _ h => h, hsize, fun b' hb' ho => ?_, fun _ _ _ h => .inl h, fun id' b' hid hb' => ?_, ⟨hos, hout, htape, fun _ => hdrn⟩⟩
                · exact hb2 b' hb' (fun e => ho (e ▸ hown L rfl))
                · by_cases hid' : id0 = id'
                  · subst hid'
                    rw [hbk] at hb'; cases hb'
                    exact ⟨_, by simp [hid]; rfl, by simp, fun h => by simp at h⟩
                  · refine ⟨b', by rw [List.getElem?_set_ne hid']; exact hb', Nat.le_refl _, fun _ => ⟨rfl, fun L' hL' => ?_⟩⟩
                    exact hb2 _ (hm.heapLtP hb' hL') (fun e => hid' (hm.injP id0 id' b b' L' hbk hb' (by rw [e]; exact Inj.atk_loc hj) hL'))
          grind
        grind
      grind
  grind
theorem mapAt_some {M : Mem} {id : Nat} {b : Blk} {c : Int} {R : List (List Cl)} (h : mapAt M id = some (b, c, R)) : M[id]? = some (some b) ∧ b.gen = 0 ∧ b.rows = [.int .i64 c] :: R := by
  grind [mapAt, look_some]
theorem keysOf_some : ∀ {R : List (List Cl)} {ks : List (Int × Int)}, keysOf R = some ks → R.length = ks.length ∧ ∀ (i : Nat) (p : Int × Int), ks[i]? = some p → ∃ vc, R[i]? = some (.int .i64 p.1 :: .int .i64 p.2 :: vc)
  | [], ks, h => by simp [keysOf] at h; subst h; exact ⟨rfl, fun i p hp => by simp at hp⟩
  | r :: R, ks, h => by
    unfold keysOf at h
    split at h
    · grind
    · obtain ⟨l, hl, rfl⟩ := Option.map_eq_some_iff.1 h
      obtain ⟨h1, h2⟩ := keysOf_some hl
      grind
    grind
theorem keys_good {f g : Nat} (hS : KeysC P f g) (hA : ¬ RecP.asc) {x : Cl} {res : AV} {M' : Mem} (h : keysX g x M = some (res, M')) (hown : ∀ b, w.heap.size ≤ b → own b) (hag : Agree σ w) (hm : MR own σ j M w) {v : Value} (hx : VC σ j x v) : Calls P f #[v] w (Ret own σ j M w res M') := by
  unfold keysX at h
  split at h
  · rename_i g' id
    split at h
    · rename_i b hb0
      obtain ⟨hbk, hgen⟩ := look_some hb0
      split at h
      · rename_i m gg hrows
        split at h
        · rename_i bm c R hmap
          split at h
          · rename_i ks hks
            split at h
            · rename_i hc
              cases h
              obtain ⟨rfl, hbox, hlen, hall, hn1, hn2⟩ := hc
              obtain ⟨hR, hrow⟩ := keysOf_some hks
              have hM := mapAt_some hmap
              obtain ⟨hmk, hmg, hmr⟩ := hM
              cases hx with
              | fn _ _ _ _ fi' ca' l1 l2 q1 q2 =>
              have e1 : fi' = #[] := Array.eq_empty_of_size_eq_zero (by simpa using l1.symm)
              subst e1
              obtain ⟨u, hu⟩ : ∃ u, ca' = #[u] := by
                rcases ca' with ⟨l⟩
                match l, l2 with
                | [u], _ => exact ⟨u, rfl⟩
              subst hu
              have hu := q2 0 _ u rfl rfl
              cases hu with
              | ptr _ _ _ _ _ L hj =>
              have hoff : L.off = 0 := hm.okP _ _ _ hj rfl
              obtain ⟨pl', hpl', hbr, _⟩ := hm.blk id b hbk
              rw [← hgen, hj] at hpl'; cases hpl'
              have hbr : BL σ j b L w := hbr
              obtain ⟨C, T0, fr, hC, hfr, hsz, hcell⟩ := hbr.heap
              obtain ⟨u, hu1, hu2⟩ := hcell 0 [.map m gg] 0 (.map m gg) (by rw [hrows]; rfl) rfl
              rw [hbox, if_pos rfl] at hu2
              cases hu2 with
              | map _ _ _ l hjm =>
              obtain ⟨plm, hplm, hbm, _⟩ := hm.blkP m bm hmk
              rw [hmg, hjm] at hplm; cases hplm
              have hbm : MB σ j bm l gg w := hbm
              obtain ⟨es, clock, R', hl, hr', hlen', hent⟩ := hbm.st
              rw [hmr] at hr'
              simp only [List.cons.injEq, Cl.int.injEq, true_and, and_true] at hr'
              obtain ⟨rfl, rfl⟩ := hr'
              have hkeys : es.toList.map (·.key) = (ks.map (·.2)).map (Value.int .i64) ∧ es.toList.map (fun e => (e.born : Int)) = ks.map (·.1) := by
                have hle : es.toList.length = ks.length := by rw [← hlen', hR]
                have hi : ∀ i (h1 : i < es.toList.length) (h2 : i < ks.length), es.toList[i].key = .int .i64 ks[i].2 ∧ (es.toList[i].born : Int) = ks[i].1 := fun i h1 h2 => by
                  obtain ⟨vc, hv⟩ := hrow i ks[i] (by simp [h2])
                  obtain ⟨k, n, vc', x, r1, r2, _⟩ := hent i _ es.toList[i] hv (by simp [h1])
                  simp only [List.cons.injEq, Cl.int.injEq] at r1
                  obtain ⟨⟨_, r1⟩, ⟨rfl, rfl⟩, _⟩ := r1
                  exact ⟨r2, r1.symm⟩
                constructor
                · apply List.ext_getElem
                  · simp [hle]
                  · intro i h1 h2
                    simp only [List.getElem_map]
                    exact (hi i (by simpa using h1) (by simpa using h2)).1
                · apply List.ext_getElem
                  · simp [hle]
                  · intro i h1 h2
                    simp only [List.getElem_map]
                    exact (hi i (by simpa using h1) (by simpa using h2)).2
              have hst : Go.MapKept.Stamped es clock := by
                refine ⟨fun e he => ?_, ?_, ?_⟩
                · have : (e.born : Int) ∈ ks.map (·.1) := by rw [← hkeys.2]; exact List.mem_map_of_mem he
                  obtain ⟨p, hp, hpe⟩ := List.mem_map.1 this
                  have := of_decide_eq_true (List.all_eq_true.1 hall p hp)
                  omega
                · have h3 : (es.toList.map fun e => (e.born : Int)).Nodup := by rw [hkeys.2]; exact hn1
                  have : (es.toList.map fun e => (e.born : Int)) = (es.toList.map (·.born)).map (fun n : Nat => (n : Int)) := by simp
                  rw [this] at h3
                  exact List.Pairwise.of_map (R := (· ≠ ·)) (S := (· ≠ ·)) _ (fun a b hab e => hab (by rw [e])) h3
                · rw [hkeys.1]
                  exact List.Pairwise.map _ (fun a b hab e => hab (by cases e; rfl)) hn2
              obtain ⟨T, hS⟩ := hS.keys
              have hcl : w.cell? ⟨L.blk, 0, none⟩ = some (.map (some l)) := by
                have : C[0]? = some (.map (some l)) := by grind
                simp [World.cell?, hC, this]
              have hcall := hS L.blk l clock es (ks.map (·.2)) w hcl hl hst hkeys.1 (fun k hk => by
                obtain ⟨p, hp, rfl⟩ := List.mem_map.1 hk
                exact (of_decide_eq_true (List.all_eq_true.1 hall p hp)).2) (by simpa using hlen)
              have ea : L.off + 0 * L.esz + 0 = 0 := by omega
              rw [ea]
              refine Calls.mono' hcall ?_
              rintro e w' ⟨v, rfl, hrowv, hbel⟩
              have hslen : (sortI (ks.map (·.2))).length = ks.length := by rw [sortI_len]; simp
              generalize sortI (ks.map (·.2)) = ss at *
              simp only [List.length_map] at hrowv
              rw [← hslen] at hrowv
              have hold : ∀ k, k < w.heap.size → w'.heap[k]? = w.heap[k]? := hbel.block
              have hside : Side w w' := ⟨hbel.os, hbel.output, hbel.tape, fun q => absurd q hA⟩
              rcases hrowv.2 with ⟨rfl, hz⟩ | ⟨gb, cap, cur, rfl, hbase, hgb, hcap, _, hcs, htk⟩
              · have hs0 : ss = [] := List.eq_nil_of_length_eq_zero hz
                subst hs0
                refine ⟨_, σ, j, rfl, VC.rslice _ 1 [] none 0 0 0 (fun _ _ => default) (Nat.le_refl _) (.inl rfl) (fun _ h => by cases h) (fun i row n cl hi => by simp at hi) (fun i row n cl hi => by simp at hi), hag.of_blocks (fun b o v hv => hold b (hag.lt hv)), hm.more hold, Stab.le_refl _, fun _ _ _ _ h => h, hbel.size, fun b hb _ => hold b hb, fun _ _ _ h => .inl h, fun id b _ hb => ⟨b, hb, Nat.le_refl _, fun _ => ⟨rfl, fun q hq => hold q (hm.heapLtP hb hq)⟩⟩, hside⟩
              · have hgw : ∀ o v, σ gb o = some v → False := fun o v hv => by have := hag.lt hv; omega
                have hcell : ∀ i (hi : i < ss.length), cur[i]? = some (.int .i64 ss[i]) := fun i hi => by
                  have h3 := congrArg (·[i]?) htk
                  simp only [Nat.mul_one, List.getElem?_take, hi, if_true, List.getElem?_map, List.getElem?_eq_getElem hi, Option.map_some] at h3
                  simpa using h3
                let σ' : Stab := fun b o => if b = gb then (ss[o]?).map (Value.int .i64) else σ b o
                have hle : σ.le σ' := fun b o v hv => by
                  by_cases hb : b = gb
                  · subst hb; exact (hgw _ _ hv).elim
                  · simp only [σ', if_neg hb]; exact hv
                have hgl : gb < w'.heap.size := (Array.getElem?_eq_some_iff.1 hgb).1
                refine ⟨_, σ', j, rfl, ?_, ⟨fun b o v hv => ?_, hag.glob.mono hle⟩, ⟨fun id b hb => ?_, hm.injP, hm.dom, hm.okP⟩, hle, fun _ _ _ _ h => h, hbel.size, fun b hb _ => hold b hb, fun b o v hv => ?_, fun id b _ hb => ⟨b, hb, Nat.le_refl _, fun _ => ⟨rfl, fun q hq => hold q (hm.heapLtP hb hq)⟩⟩, hside⟩
                · have := VC.rslice (σ := σ') j 1 (rowsOf ss) (some ⟨gb, 0, none⟩) cap gb 0 (fun i _ => .int .i64 (ss.getD i 0)) (by simpa [rowsOf] using hcap) (.inr rfl) (fun row hr => by simp [rowsOf] at hr; obtain ⟨_, _, rfl⟩ := hr; rfl) (fun i row n cl hi hn => by
                    simp only [rowsOf, List.getElem?_map, Option.map_eq_some_iff] at hi
                    obtain ⟨z, hz, rfl⟩ := hi
                    obtain rfl : n = 0 := by
                      have := lt_of_get hn
                      simp at this; omega
                    simp [σ', hz]) (fun i row n cl hi hn => by
                    simp only [rowsOf, List.getElem?_map, Option.map_eq_some_iff] at hi
                    obtain ⟨z, hz, rfl⟩ := hi
                    obtain rfl : n = 0 := by
                      grind
                    simp at hn
                    subst hn
                    simp [hz]
                    exact VC.int _ _ _)
                  simpa [rowsOf, AVR, WVR] using this
                · by_cases hb : b = gb
                  · subst hb
                    simp only [σ', if_true, Option.map_eq_some_iff] at hv
                    obtain ⟨z, hz, rfl⟩ := hv
                    obtain ⟨ho, rfl⟩ := List.getElem?_eq_some_iff.1 hz
                    simp [World.cell?, hgb, hcell o ho]
                  · simp only [σ', if_neg hb] at hv
                    have := hag.cells b o v hv
                    grind [World.cell?]
                · obtain ⟨pl, h1, h2, h3⟩ := hm.blkP id b hb
                  refine ⟨pl, h1, h2.mono hle (Inj.le_refl _) (fun k hk => hold k (hm.heapLtP hb (Inj.atk_of h1 hk))) (fun L' e o hs _ _ => ?_), h3⟩
                  subst e
                  have : L'.blk < w.heap.size := hm.heapLtP hb (Inj.atk_loc h1)
                  grind
                grind
            grind
          grind
        grind
      grind
    grind
  grind
theorem mclone_good {f : Nat} (hS : MapC P f) {x : Cl} {res : AV} {M' : Mem} (h : mcloneX x M = some (res, M')) (hown : ∀ b, w.heap.size ≤ b → own b) (hag : Agree σ w) (hm : MR own σ j M w) {v : Value} (hx : VC σ j x v) : Calls P f #[v] w (Ret own σ j M w res M') := by
  unfold mcloneX at h
  split at h
  · rename_i m g
    split at h
    · rename_i b c R hmap
      cases h
      obtain ⟨hmk, hmg, hmr⟩ := mapAt_some hmap
      cases hx with
      | map _ _ _ l hj =>
      obtain ⟨pl, hpl, hb, _⟩ := hm.blkP m b hmk
      rw [hmg, hj] at hpl; cases hpl
      obtain ⟨es, clock, R', hl, hr', hlen', hent⟩ := hb.st
      refine Calls.mono' (hS.clone l es clock w hl) ?_
      rintro e w' ⟨rfl, rfl⟩
      have hm1 := hm.holes 1
      have hn : newAt (M ++ holes 1) M.length { b with ver := 0 } = some (M ++ [some { b with ver := 0 }]) := by
        simp [newAt, holes]
      have hnone : j M.length 0 = none := by
        cases hq : j M.length 0 with
        | none => rfl
        | some pl =>
          obtain ⟨b2, hb2, _⟩ := hm.dom _ _ _ hq
          grind
      have hbr : MB σ (j.put M.length 0 (.mp w.heap.size g)) { b with ver := 0 } w.heap.size g (w.alloc (.map es clock)) := by
        refine ⟨hb.box, es, clock, R', by show (w.heap.push _)[w.heap.size]? = _; simp, hr', hlen', fun i row e hi he => ?_⟩
        obtain ⟨k, n, vc, x, q1, q2, q3, q4⟩ := hent i row e hi he
        exact ⟨k, n, vc, x, q1, q2, q3, q4.mono (Stab.le_refl _) (Inj.le_put hnone)⟩
      obtain ⟨v, w2, σ', j', r1, r2, r3, r4, r5⟩ := layObj_good (o := .map es clock) (pl := .mp w.heap.size g) (v := .map (some w.heap.size)) (c := .map M.length g) hn hag hm1 hown hmg (by grind) rfl hbr (.map _ _ _ _ (Inj.put_at _ _ _ _))
      cases r1
      exact ⟨_, σ', j', rfl, r2, r3, r4, r5.of_holes⟩
    grind
  grind
theorem Ret.castB {σ : Stab} {j : Inj} {w w' : World} {own : Nat → Prop} {r r' : AV} {M0 M' : Mem} {e : Ending} {big : Bool} (h : Ret own σ j [] w r M0 e w') (hc : Eng.castB big (r, M0) = (r', M')) : Ret own σ j [] w r' M' e w' := by
  unfold Eng.castB at hc
  split at hc
  · rename_i q r1 b e1
    obtain ⟨rfl, rfl⟩ : r = r1 ∧ M0 = [some b] := by simpa using e1
    obtain ⟨rfl, rfl⟩ : r = r' ∧ [some (if big && !b.rows.isEmpty then { b with box := true } else b)] = M' := by simpa using hc
    split
    case isFalse => exact h
    rename_i hb
    simp only [Bool.and_eq_true, Bool.not_eq_true', List.isEmpty_eq_false_iff] at hb
    obtain ⟨v, σ', j', he, hr, hag, hm, hs⟩ := h
    have one : ∀ {id : Nat} {c b1 : Blk}, ([some b1] : Mem)[id]? = some (some c) → id = 0 ∧ c = b1 := fun {id c b1} h => by
      match id, h with
      | 0, h => exact ⟨rfl, by simpa using h.symm⟩
    refine ⟨v, σ', j', he, hr, hag, ⟨fun id c hid => ?_, fun id id' c c' k h1 h2 h3 h4 => ?_, fun id g pl hj => ?_, hm.okP⟩, ⟨hs.sle, hs.jle, hs.size, hs.frame, hs.snew, fun id c hid => absurd hid (Nat.not_lt_zero _), hs.side⟩⟩
    · obtain ⟨rfl, rfl⟩ := one hid
      obtain ⟨pl, p1, p2, p3⟩ := hm.blkP 0 b rfl
      refine ⟨pl, p1, ?_, p3⟩
      cases pl with
      | empty => exact absurd p2.1 hb.2
      | loc L =>
        obtain ⟨q1, q2, q3, q4, ⟨C, T, fr, q5, q6, q7, q8⟩, q9⟩ := (p2 : BL σ' j' b L w')
        refine (⟨q1, q2, q3, q4, ⟨C, T, fr, q5, q6, q7, fun i row n cl hi hn => ?_⟩, q9⟩ : BL σ' j' { b with box := true } L w')
        obtain ⟨x, x1, x2⟩ := q8 i row n cl hi hn
        refine ⟨x, x1, ?_⟩
        split at x2
        · exact x2
        · exact x2.of_noInj
      | rnd l r f sh => exact (⟨rfl, (p2 : RB σ' j' b l r f sh w').ok, (p2 : RB σ' j' b l r f sh w').st⟩ : RB σ' j' { b with box := true } l r f sh w')
      | mp l g => exact (⟨rfl, (p2 : MB σ' j' b l g w').st⟩ : MB σ' j' { b with box := true } l g w')
      | mi l => exact (⟨rfl, (p2 : IB σ' j' b l w').st⟩ : IB σ' j' { b with box := true } l w')
    · rw [(one h1).1, (one h2).1]
    · obtain ⟨c, c1, c2⟩ := hm.dom id g pl hj
      obtain ⟨rfl, rfl⟩ := one c1
      exact ⟨_, rfl, c2⟩
  · obtain ⟨rfl, rfl⟩ : r = r' ∧ M0 = M' := by simpa using hc
    exact h
theorem clones_good (hbase : RecP.base = P.funcs.size) (hmix : P.follows .mixedOrders = true) {Cs : List (Nat × Nat × Nat × Bool)} (hC : ∀ c ∈ Cs, (c.2.1 == 0 || cloneCheck P c.1 c.2.1 (c.2.2.1 % 1048576)) = true) (hS : ∀ c ∈ Cs, c.2.1 = 0 → SortAny P c) (hA : ∀ c ∈ Cs, c.2.1 = 0 → c.2.2.1 % 64 = 1 → ¬ RecP.asc) : FnS P (clones Cs) := by
  intro f args M res M' h hfull
  unfold clones at h
  split at h
  · rename_i esz bytes frz hl
    have hmem : (f, esz, bytes, frz) ∈ Cs := by
      clear h hC hS hA
      induction Cs with
      | nil => grind
      | cons c Cs ih =>
        grind
    split at h
    · rename_i x
      split at h
      · rename_i h0
        split at h
        · rename_i hb0
          have hSf := (hS _ hmem h0).1 hb0
          obtain ⟨fn, h1, h2, h3⟩ := hSf.fn
          refine ⟨fun _ => ⟨fn, h1, h2, h3, fun own σ j w vs hown hag hm hvs => ?_⟩, fun hge => by
            grind⟩
          obtain ⟨v, vs', hv0, hv, hs⟩ := hvs.uncons
          have hvs' := hs.unnil
          subst hvs'
          have : vs = #[v] := Array.ext' (by grind)
          subst this
          exact sort_good hSf h hag hm hv
        · have one : ∀ {own : Nat → Prop} {σ : Stab} {j : Inj} {w : World} {vs : Array Value}, WVRs σ j [.c x] vs.toList → ∃ v, vs = #[v] ∧ VC σ j x v := fun {own σ j w vs} hvs => by
            obtain ⟨v, vs', hv0, hv, hs⟩ := hvs.uncons
            have hvs' := hs.unnil
            subst hvs'
            exact ⟨v, Array.ext' (by grind), hv⟩
          split at h
          · rename_i h1
            have hSf := (hS _ hmem h0).2.1 h1
            obtain ⟨fn, g1, g2, g3⟩ := hSf.fn
            refine ⟨fun _ => ⟨fn, g1, g2, g3, fun own σ j w vs hown hag hm hvs => ?_⟩, fun hge => by
              grind⟩
            obtain ⟨v, rfl, hv⟩ := one (own := own) (w := w) hvs
            grind [keys_good]
          · split at h
            · rename_i h1
              have hSf := (hS _ hmem h0).2.2.1 h1
              obtain ⟨fn, g1, g2, g3⟩ := hSf.fn
              refine ⟨fun _ => ⟨fn, g1, g2, g3, fun own σ j w vs hown hag hm hvs => ?_⟩, fun hge => by
                grind⟩
              obtain ⟨v, rfl, hv⟩ := one (own := own) (w := w) hvs
              grind [mclone_good]
            grind
      · rename_i h0
        have hck := hC _ hmem
        have hck : cloneCheck P f esz (bytes % 1048576) = true := by grind
        obtain ⟨⟨r0, M0⟩, h, hcb⟩ := Option.map_eq_some_iff.1 h
        obtain ⟨fn, h1, h2, h3, _⟩ := clone_good (own := fun _ => True) (σ := fun _ _ => none) (j := noInj) (w := default) (v := default) hmix hck h
        refine ⟨fun _ => ⟨fn, h1, h2, h3, fun own σ j w vs hown hag hm hvs => ?_⟩, fun hge => by
          grind⟩
        obtain ⟨v, vs', hv0, hv, hs⟩ := hvs.uncons
        have hvs' := hs.unnil
        subst hvs'
        have : vs = #[v] := Array.ext' (by grind)
        subst this
        obtain ⟨_, _, _, _, hc⟩ := clone_good (own := own) (σ := σ) (j := j) (w := w) (v := v) hmix hck h
        have hM : M = [] := by
          unfold cloneX at h
          split at h
          · rfl
          · cases h
        subst hM
        exact (hc hown hag hm hv).mono fun e w' hr => hr.castB hcb
    · rename_i x g
      split at h
      · rename_i h0
        obtain ⟨h0, h00, rfl⟩ := h0
        have hSf := (hS _ hmem h0).2.2.2 h00
        obtain ⟨fn, h1, h2, h3⟩ := hSf.fn
        refine ⟨fun _ => ⟨fn, h1, h2, h3, fun own σ j w vs hown hag hm hvs => ?_⟩, fun hge => by
          have := (Array.getElem?_eq_some_iff.1 h1).1
          omega⟩
        obtain ⟨v, vs', hv0, hv, hs⟩ := hvs.uncons
        obtain ⟨u, vs'', hu0, hu, hs'⟩ := hs.uncons
        have hvs' := hs'.unnil
        subst hvs'
        subst hu0
        have hu : VC σ j (.fn (bytes / 64) [] []) u := hu
        cases hu with
        | fn _ f fi ca fi' ca' l1 l2 q1 q2 =>
          have e1 : fi' = #[] := Array.eq_empty_of_size_eq_zero (by simpa using l1.symm)
          have e2 : ca' = #[] := Array.eq_empty_of_size_eq_zero (by simpa using l2.symm)
          subst e1 e2
          have : vs = #[v, .func (.func (bytes / 64)) #[] #[]] := Array.ext' (by simpa using hv0)
          subst this
          exact sortf_good hSf h hag hm hv
      grind
    grind
  grind
end
end Go.Eng
namespace Go.Eng
open Go
section
variable [RecP]
theorem MR.nil {own : Nat → Prop} {σ : Stab} {w : World} : MR own σ noInj [] w :=
  ⟨fun id b h => by simp at h, fun id id' b b' k h => by simp at h, fun id g pl h => by simp [noInj] at h, fun id g pl h => by simp [noInj] at h⟩
end
theorem lookup_mem {α : Type} {f : Nat} {c : α} : ∀ {l : List (Nat × α)}, l.lookup f = some c → (f, c) ∈ l
  | [], h => by simp at h
  | (g, d) :: l, h => by
    rw [List.lookup_cons] at h
    split at h
    · rename_i hb; cases h; simp at hb; subst hb; exact List.mem_cons_self ..
    · exact List.mem_cons_of_mem _ (lookup_mem h)
def noKeys (Cs : List (Nat × Nat × Nat × Bool)) : Prop := ∀ c ∈ Cs, c.2.1 = 0 → c.2.2.1 % 64 ≠ 1
@[reducible] def recP [G : GlobP] (P : Program) (T : FuncId → Option CFn) (asc : Prop := True) : RecP := { toGlobP := G, asc, base := P.funcs.size, okc := fun v ps a b n => P.funcs.size ≤ v ∧ RndOK P T v ps a b n, le := fun _ _ _ _ _ h => h.1 }
variable [GlobP]
def virtOK (P : Program) (L : List (Nat × CFn)) : Bool := L.all fun p => match P.funcs[p.1]? with
  | some fn => match fn.body with
    | some b => (List.range (countR b)).all fun i => (L.lookup (P.funcs.size + 16 * p.1 + i)).isSome
    | none => true
  | none => true
theorem lookup_compiled {P : Program} {an : Ann} {L : List (Nat × CFn)} (h : (L.map fun p => compileAny P an true p.1) = L.map fun p => some p.2) {f : FuncId} {c : CFn} (hl : L.lookup f = some c) : compileAny P an true f = some c ∧ (f, c) ∈ L := by
  have hm := lookup_mem hl
  obtain ⟨k, hk⟩ := List.getElem?_of_mem hm
  have := congrArg (·[k]?) h
  simp only [List.getElem?_map, hk, Option.map_some] at this
  exact ⟨Option.some.inj this, hm⟩
theorem compileVirt_rnd {P : Program} {an : Ann} {b : Bool} {v : FuncId} {c : CFn} (h : compileVirt P an b v = some c) : c.rnd.isSome = true := by
  unfold compileVirt at h
  split at h
  · split at h
    · split at h
      · split at h
        · split at h
          · cases h; rfl
          · cases h
        · cases h
      · cases h
    · cases h
  · cases h
theorem table_ok {P : Program} {A : Prop} {an : Ann} {L : List (Nat × CFn)} (h : (L.map fun p => compileAny P an true p.1) = L.map fun p => some p.2) (hV : virtOK P L = true) (f : FuncId) (c : CFn) (hl : L.lookup f = some c) :
    (f < P.funcs.size → @FnOK (recP P (fun f => L.lookup f) A) P f c) ∧ (P.funcs.size ≤ f → c.rnd.isSome = true) := by
  letI := recP P (fun f => L.lookup f) A
  obtain ⟨hc, hm⟩ := lookup_compiled h hl
  unfold compileAny at hc
  refine ⟨fun hlt => ?_, fun hge => ?_⟩
  · rw [if_pos hlt] at hc
    refine compileFn_ok hc fun fn body i x hf hb hn hx => ⟨Nat.le_trans (Nat.le_add_right _ (16 * f)) (Nat.le_add_right _ i), ?_⟩
    have h1 := List.all_eq_true.1 hV _ hm
    simp only [hf, hb] at h1
    have h2 := List.all_eq_true.1 h1 i (by have := lt_of_get hx; rw [rfs_len] at this; simpa using this)
    obtain ⟨c', hc'⟩ := Option.isSome_iff_exists.1 h2
    obtain ⟨h3, _⟩ := lookup_compiled h hc'
    unfold compileAny at h3
    rw [if_neg (Nat.not_lt.2 (Nat.le_trans (Nat.le_add_right _ (16 * f)) (Nat.le_add_right _ i)))] at h3
    exact compileVirt_ok h3 hc' hf hb hn hx
  · rw [if_neg (Nat.not_lt.2 hge)] at hc
    exact compileVirt_rnd hc
def runE (L : List (Nat × CFn)) (Cs : List (Nat × Nat × Nat × Bool)) (n : Nat) : CallF := callF (fun f => L.lookup f) (clones Cs) n
theorem runE_good {P : Program} (hmix : P.follows .mixedOrders = true) {an : Ann} {L : List (Nat × CFn)} {Cs : List (Nat × Nat × Nat × Bool)} (hL : (L.map fun p => compileAny P an true p.1) = L.map fun p => some p.2) (hV : virtOK P L = true)
    (hC : (Cs.all fun c => c.2.1 == 0 || cloneCheck P c.1 c.2.1 (c.2.2.1 % 1048576)) = true) (hS : ∀ c ∈ Cs, c.2.1 = 0 → SortAny P c) (n : Nat) : @FnS (recP P (fun f => L.lookup f) (noKeys Cs)) P (runE L Cs n) := by
  letI := recP P (fun f => L.lookup f) (noKeys Cs)
  exact callF_good hmix (fun f c hl => table_ok hL hV f c hl) (fun v ps a b n h => h.2) (clones_good rfl hmix (fun c hc => List.all_eq_true.1 hC c hc) hS (fun c hc h0 h1 hn => hn c hc h0 h1)) n
end Go.Eng
namespace Go.Eng
open Go
def CallF.le (c d : CallF) : Prop := ∀ f a M r, c f a M = some r → d f a M = some r
theorem callOn_le {c d : CallF} (h : c.le d) {f : FuncId} {args : List WV} {M : Mem} {r : AV × Mem × FP} (hr : callOn c f args M = some r) : callOn d f args M = some r := by
  unfold callOn at hr ⊢
  dsimp only at hr ⊢
  split at hr
  · split at hr
    · rename_i as Ms h2 h3
      split at hr
      · grind
      · rename_i r0 Ms' h4
        simp only [h2, h3, h _ _ _ _ h4]
        grind
    grind
  grind
theorem callOp_le {c d : CallF} (h : c.le d) {m : CMode} {fv : WV} {args : List WV} {M : Mem} {r : AV × Mem × FP} (hr : callOp c m fv args M = some r) : callOp d m fv args M = some r := by
  unfold callOp at hr ⊢
  split at hr
  · split at hr
    · split at hr
      · grind
      · split at hr
        · dsimp only at hr
          split at hr
          · grind [callOn_le]
          · grind [callOn_le]
        grind
    · split at hr
      · grind [callOn_le]
      grind
  grind
theorem opF_le {c d : CallF} (h : c.le d) {n0 : Nat} {E : Nat → Option AV} {M : Mem} {co : CO} {r : AV × Mem × FP} (hr : opF c n0 E M co = some r) : opF d n0 E M co = some r := by
  cases co with
  | call m f as =>
    grind [opF, callOp_le]
  | _ => exact hr
theorem stepF_le {c d : CallF} (h : c.le d) {n0 : Nat} {o : COper} {E : Nat → Option AV} {M : Mem} {r : AV × Mem × FP} (hr : stepF c n0 o E M = some r) : stepF d n0 o E M = some r := by
  grind [stepF, opF_le]
theorem opsF_le {c d : CallF} (h : c.le d) {n0 : Nat} : ∀ {os : List COper} {E : Env} {M : Mem} {r : Env × Mem × List FP}, opsF c n0 os E M = some r → opsF d n0 os E M = some r
  | [], E, M, r, hr => hr
  | o :: os, E, M, r, hr => by
    simp only [opsF] at hr ⊢
    split at hr
    · rename_i v M' fp h1
      rw [stepF_le h h1]
      dsimp only
      split at hr
      · rename_i E2 M2 fs h2
        rw [opsF_le h h2]
        grind
      grind
    grind
theorem iter_le {f g : Env → Mem → Option (EX × Env × Mem)} (h : ∀ E M r, f E M = some r → g E M = some r) {live : Option (List Nat)} {n0 : Nat} : ∀ {n m : Nat} {E : Env} {M : Mem} {r : EX × Env × Mem}, n ≤ m → iter f live n0 n E M = some r → iter g live n0 m E M = some r
  | 0, m, E, M, r, hn, hr => by grind [iter]
  | n + 1, 0, E, M, r, hn, hr => by omega
  | n + 1, m + 1, E, M, r, hn, hr => by
    simp only [iter] at hr ⊢
    cases hf : f E M with
    | none => grind
    | some x =>
      rw [hf] at hr
      rw [h _ _ _ hf]
      obtain ⟨ex, E', M'⟩ := x
      cases ex with
      | normal => exact iter_le h (by omega) hr
      | exit i => grind
      | ret => grind
theorem execC_le {c d : CallF} (h : c.le d) {n m : Nat} (hn : n ≤ m) : ∀ {cc : CC} {E : Env} {M : Mem} {r : EX × Env × Mem}, execC c n cc E M = some r → execC d m cc E M = some r
  | .skip, E, M, r, hr => hr
  | .region nA ops prs keep, E, M, r, hr => by
    grind [execC, opsF_le]
  | .seq a b, E, M, r, hr => by
    simp only [execC] at hr ⊢
    cases ha : execC c n a E M with
    | none => grind
    | some x =>
      rw [ha] at hr
      rw [execC_le h hn ha]
      obtain ⟨ex, E', M'⟩ := x
      cases ex with
      | normal => exact execC_le h hn hr
      | exit i => grind
      | ret => grind
  | .cond x a b, E, M, r, hr => by
    simp only [execC] at hr ⊢
    split at hr
    · split at hr
      · rename_i h1; rw [if_pos h1]; exact execC_le h hn hr
      · rename_i h1; rw [if_neg h1]; exact execC_le h hn hr
    grind
  | .block id b, E, M, r, hr => by
    simp only [execC] at hr ⊢
    cases ha : execC c n b E M with
    | none => grind
    | some x => rw [execC_le h hn ha]; grind
  | .loop live b, E, M, r, hr => by
    exact iter_le (fun E M r hr => execC_le h hn hr) hn hr
  | .exit id, E, M, r, hr => hr
  | .ret, E, M, r, hr => hr
  | .rng f v caps, E, M, r, hr => by
    grind [execC, callOp_le]
theorem roundF_le {c d : CallF} (h : c.le d) {n m : Nat} (hn : n ≤ m) {f : FuncId} {ps : List Nat} {pre code : CC} {args : List WV} {M : Mem} {r : AV × Mem} (hr : roundF c n f ps pre code args M = some r) : roundF d m f ps pre code args M = some r := by
  unfold roundF at hr ⊢
  split at hr
  · split at hr
    · split at hr
      · split at hr
        · split at hr
          · grind [execC_le]
          grind
        grind
      grind
    grind
  grind
theorem callF_succ {T : FuncId → Option CFn} {X : CallF} : ∀ n, CallF.le (callF T X n) (callF T X (n + 1))
  | 0 => fun f a M r h => by grind [callF]
  | n + 1 => fun f a M r h => by
    have ih := callF_succ (T := T) (X := X) n
    simp only [callF] at h
    rw [callF]
    split at h
    · grind
    · rename_i fn hT
      split at h
      · exact roundF_le ih (Nat.le_succ n) h
      · split at h
        · cases hx : execC (callF T X n) n fn.code (args0 0 a) M with
          | none => grind
          | some x => rw [execC_le ih (Nat.le_succ n) hx]; grind
        grind
theorem callF_le {T : FuncId → Option CFn} {X : CallF} {n m : Nat} (h : n ≤ m) : CallF.le (callF T X n) (callF T X m) := by
  induction h with
  | refl => exact fun _ _ _ _ h => h
  | step _ ih => exact fun f a M r h => callF_succ _ f a M r (ih f a M r h)
def Mono {α : Type} (f : Nat → Option α) : Prop := ∀ n m r, n ≤ m → f n = some r → f m = some r
open Classical in
noncomputable def lim {α : Type} (f : Nat → Option α) : Option α := if h : ∃ r n, f n = some r then some h.choose else none
theorem lim_iff {α : Type} {f : Nat → Option α} (hf : Mono f) {r : α} : lim f = some r ↔ ∃ n, f n = some r := by
  constructor
  · intro h
    unfold lim at h
    split at h
    · grind
    grind
  · rintro ⟨n, hn⟩
    have hx : ∃ r n, f n = some r := ⟨r, n, hn⟩
    unfold lim
    obtain ⟨m, hm⟩ := hx.choose_spec
    have h1 := hf n (max n m) _ (Nat.le_max_left ..) hn
    have h2 := hf m (max n m) _ (Nat.le_max_right ..) hm
    grind
section
variable (L : List (Nat × CFn)) (Cs : List (Nat × Nat × Nat × Bool))
noncomputable def R : CallF := fun f a M => lim fun n => runE L Cs n f a M
noncomputable def X (cc : CC) (E : Env) (M : Mem) : Option (EX × Env × Mem) := lim fun n => execC (runE L Cs n) n cc E M
noncomputable def Y (b : CC) (live : Option (List Nat)) (n0 : Nat) (E : Env) (M : Mem) : Option (EX × Env × Mem) := lim fun n => iter (execC (runE L Cs n) n b) live n0 n E M
end
section
variable {L : List (Nat × CFn)} {Cs : List (Nat × Nat × Nat × Bool)}
theorem runE_le {n m : Nat} (h : n ≤ m) : CallF.le (runE L Cs n) (runE L Cs m) := callF_le h
theorem R_mono {f : FuncId} {a : List WV} {M : Mem} : Mono fun n => runE L Cs n f a M := fun _ _ r h hr => runE_le h _ _ _ _ hr
theorem X_mono {cc : CC} {E : Env} {M : Mem} : Mono fun n => execC (runE L Cs n) n cc E M := fun _ _ _ h hr => execC_le (runE_le h) h hr
theorem Y_mono {b : CC} {live : Option (List Nat)} {n0 : Nat} {E : Env} {M : Mem} : Mono fun n => iter (execC (runE L Cs n) n b) live n0 n E M := fun _ _ _ h hr => iter_le (fun _ _ _ hr => execC_le (runE_le h) h hr) h hr
theorem R_iff {f : FuncId} {a : List WV} {M : Mem} {r : AV × Mem} : R L Cs f a M = some r ↔ ∃ n, runE L Cs n f a M = some r := lim_iff R_mono
theorem X_iff {cc : CC} {E : Env} {M : Mem} {r : EX × Env × Mem} : X L Cs cc E M = some r ↔ ∃ n, execC (runE L Cs n) n cc E M = some r := lim_iff X_mono
theorem Y_iff {b : CC} {live : Option (List Nat)} {n0 : Nat} {E : Env} {M : Mem} {r : EX × Env × Mem} : Y L Cs b live n0 E M = some r ↔ ∃ n, iter (execC (runE L Cs n) n b) live n0 n E M = some r := lim_iff Y_mono
theorem run_R (n : Nat) : CallF.le (runE L Cs n) (R L Cs) := fun _ _ _ _ h => R_iff.2 ⟨n, h⟩
theorem callOn_R {f : FuncId} {args : List WV} {M : Mem} {r : AV × Mem × FP} (hr : callOn (R L Cs) f args M = some r) : ∃ n, callOn (runE L Cs n) f args M = some r := by
  grind [callOn, R_iff]
theorem callOp_R {m : CMode} {fv : WV} {args : List WV} {M : Mem} {r : AV × Mem × FP} (hr : callOp (R L Cs) m fv args M = some r) : ∃ n, callOp (runE L Cs n) m fv args M = some r := by
  unfold callOp at hr ⊢
  split at hr
  · split at hr
    · split at hr
      · grind
      · split at hr
        · dsimp only at hr
          split at hr
          · simp_all [callOn_R, if_pos, if_true]
          grind [callOn_R]
        grind
    simp_all [callOn_R, if_neg, if_pos]
  grind
theorem opF_R {n0 : Nat} {E : Nat → Option AV} {M : Mem} {co : CO} {r : AV × Mem × FP} (hr : opF (R L Cs) n0 E M co = some r) : ∃ n, opF (runE L Cs n) n0 E M co = some r := by
  cases co with
  | call m f as =>
    grind [opF, callOp_R]
  | _ => exact ⟨0, hr⟩
theorem stepF_R {n0 : Nat} {o : COper} {E : Nat → Option AV} {M : Mem} {r : AV × Mem × FP} (hr : stepF (R L Cs) n0 o E M = some r) : ∃ n, stepF (runE L Cs n) n0 o E M = some r := by
  unfold stepF at hr ⊢
  split at hr
  · grind [opF_R]
  · split at hr
    · grind [opF_R]
    · simp_all
    grind
theorem opsF_R {n0 : Nat} : ∀ {os : List COper} {E : Env} {M : Mem} {r : Env × Mem × List FP}, opsF (R L Cs) n0 os E M = some r → ∃ n, opsF (runE L Cs n) n0 os E M = some r
  | [], E, M, r, hr => ⟨0, hr⟩
  | o :: os, E, M, r, hr => by
    simp only [opsF] at hr
    split at hr
    · rename_i v M' fp h1
      split at hr
      · rename_i E2 M2 fs h2
        obtain ⟨n, hn⟩ := stepF_R h1
        obtain ⟨m, hm⟩ := opsF_R h2
        refine ⟨max n m, ?_⟩
        simp only [opsF, stepF_le (runE_le (Nat.le_max_left n m)) hn, opsF_le (runE_le (Nat.le_max_right n m)) hm]
        grind
      grind
    grind
theorem opt_ext {α : Type} {a b : Option α} (h : ∀ x, a = some x ↔ b = some x) : a = b := by
  cases a with
  | none => cases b with
    | none => rfl
    | some y => simp_all
  | some x => grind
theorem X_skip (E : Env) (M : Mem) : X L Cs .skip E M = some (.normal, E, M) := X_iff.2 ⟨0, rfl⟩
theorem X_exit (id : Nat) (E : Env) (M : Mem) : X L Cs (.exit id) E M = some (.exit id, E, M) := X_iff.2 ⟨0, rfl⟩
theorem X_ret (E : Env) (M : Mem) : X L Cs .ret E M = some (.ret, E, M) := X_iff.2 ⟨0, rfl⟩
theorem X_region (nA : Nat) (ops : List COper) (prs : List (Nat × Nat)) (keep : Option (List Nat)) (E : Env) (M : Mem) : X L Cs (.region nA ops prs keep) E M = match opsF (R L Cs) M.length ops E (M ++ holes nA) with
    | some (E', M', fs) => if prs.all (prOk (M.length + nA) fs) then some (.normal, E'.kept keep, M') else none
    | none => none := by
  refine opt_ext fun x => ⟨fun h => ?_, fun h => ?_⟩
  · grind [X_iff, execC, opsF_le, run_R]
  grind [opsF_R, X_iff, execC]
theorem X_seq (a b : CC) (E : Env) (M : Mem) : X L Cs (.seq a b) E M = match X L Cs a E M with
    | some (.normal, E', M') => X L Cs b E' M'
    | r => r := by
  refine opt_ext fun x => ⟨fun h => ?_, fun h => ?_⟩
  · grind [X_iff, execC, runE]
  · cases ha : X L Cs a E M with
    | none => grind
    | some y =>
      rw [ha] at h
      obtain ⟨n, hn⟩ := X_iff.1 ha
      obtain ⟨ex, E', M'⟩ := y
      cases ex with
      | normal =>
        obtain ⟨m, hm⟩ := X_iff.1 h
        exact X_iff.2 ⟨max n m, by simp only [execC, execC_le (runE_le (Nat.le_max_left n m)) (Nat.le_max_left n m) hn]; exact execC_le (runE_le (Nat.le_max_right n m)) (Nat.le_max_right n m) hm⟩
      | exit i => grind [X_iff, execC]
      | ret => grind [X_iff, execC]
theorem X_cond (c : Opd) (a b : CC) (E : Env) (M : Mem) : X L Cs (.cond c a b) E M = match c.ev E.get with
    | some (.c (.bool t)) => if t then X L Cs a E M else X L Cs b E M
    | _ => none := by
  refine opt_ext fun x => ⟨fun h => ?_, fun h => ?_⟩
  · obtain ⟨n, hn⟩ := X_iff.1 h
    simp only [execC] at hn
    split at hn
    · split at hn
      · grind [X_iff]
      · grind [X_iff]
    grind
  · split at h
    · split at h
      · simp_all [X_iff, execC, if_pos]
      simp_all [X_iff, execC, if_neg]
    grind
theorem X_block (id : Nat) (b : CC) (E : Env) (M : Mem) : X L Cs (.block id b) E M = match X L Cs b E M with
    | some (.exit id', E', M') => if id' = id then some (.normal, E', M') else some (.exit id', E', M')
    | r => r := by
  refine opt_ext fun x => ⟨fun h => ?_, fun h => ?_⟩
  · grind [X_iff, execC, runE]
  grind [X, X_iff, execC]
theorem X_loop (live : Option (List Nat)) (b : CC) (E : Env) (M : Mem) : X L Cs (.loop live b) E M = Y L Cs b live M.length (canon M.length live E M).1 (canon M.length live E M).2 := by
  refine opt_ext fun x => ⟨fun h => ?_, fun h => ?_⟩
  · grind [X_iff, Y_iff, execC]
  grind [Y_iff, X_iff, execC]
theorem Y_eq (b : CC) (live : Option (List Nat)) (n0 : Nat) (E : Env) (M : Mem) : Y L Cs b live n0 E M = match X L Cs b E M with
    | some (.normal, E', M') => Y L Cs b live n0 (canon n0 live E' M').1 (canon n0 live E' M').2
    | r => r := by
  refine opt_ext fun x => ⟨fun h => ?_, fun h => ?_⟩
  · obtain ⟨n, hn⟩ := Y_iff.1 h
    cases n with
    | zero => grind [iter]
    | succ n =>
      simp only [iter] at hn
      cases ha : execC (runE L Cs (n + 1)) (n + 1) b E M with
      | none => grind
      | some y =>
        rw [ha] at hn
        rw [X_iff.2 ⟨n + 1, ha⟩]
        obtain ⟨ex, E', M'⟩ := y
        cases ex with
        | normal => exact Y_iff.2 ⟨n + 1, iter_le (fun _ _ _ h => h) (Nat.le_succ n) hn⟩
        | exit i => grind
        | ret => grind
  · cases ha : X L Cs b E M with
    | none => grind
    | some y =>
      rw [ha] at h
      obtain ⟨n, hn⟩ := X_iff.1 ha
      obtain ⟨ex, E', M'⟩ := y
      cases ex with
      | normal =>
        obtain ⟨m, hm⟩ := Y_iff.1 h
        refine Y_iff.2 ⟨max n m + 1, ?_⟩
        have h1 := execC_le (runE_le (L := L) (Cs := Cs) (show n ≤ max n m + 1 by omega)) (show n ≤ max n m + 1 by omega) hn
        simp only [iter, h1]
        exact iter_le (fun _ _ _ hr => execC_le (runE_le (show m ≤ max n m + 1 by omega)) (show m ≤ max n m + 1 by omega) hr) (show m ≤ max n m by omega) hm
      | exit i =>
        refine Y_iff.2 ⟨n + 1, ?_⟩
        simp only [iter, execC_le (runE_le (Nat.le_succ n)) (Nat.le_succ n) hn]; grind
      | ret =>
        refine Y_iff.2 ⟨n + 1, ?_⟩
        simp only [iter, execC_le (runE_le (Nat.le_succ n)) (Nat.le_succ n) hn]; grind
theorem X_rng (f : Opd) (vf : FuncId) (caps : List Nat) (E : Env) (M : Mem) : X L Cs (.rng f vf caps) E M = match f.ev E.get with
    | some (.c (.fn g fi ca)) => match callOp (R L Cs) ⟨true⟩ (.c (.fn g fi ca)) [.c (.yld M.length vf (capOf E caps).1)] (M ++ [some (ghost (capOf E caps).2)]) with
      | some (_, M', _) => match stAt M' M.length with
        | some s => match jumpOf s, setSt M' M.length s (-1) with
          | some ex, some M2 => some (ex, E, M2)
          | _, _ => none
        | none => none
      | none => none
    | _ => none := by
  refine opt_ext fun x => ⟨fun h => ?_, fun h => ?_⟩
  · grind [X_iff, execC, callOp_le, run_R]
  · split at h
    · grind [callOp_R, X_iff, execC]
    grind
theorem R_fn {f : FuncId} {fn : CFn} (hL : L.lookup f = some fn) (hr : fn.rnd = none) (args : List WV) (M : Mem) : R L Cs f args M = if args.length = fn.nargs then
      match X L Cs fn.code (args0 0 args) M with
      | some (.normal, E, M') | some (.ret, E, M') => match resOf E M' fn.res with
        | some r => leave fn.frz M.length r M'
        | none => none
      | _ => none
    else none := by
  refine opt_ext fun x => ⟨fun h => ?_, fun h => ?_⟩
  · obtain ⟨n, hn⟩ := R_iff.1 h
    cases n with
    | zero => simp [runE, callF] at hn
    | succ n =>
      simp only [runE, callF, hL, hr] at hn
      split at hn
      · cases ha : execC (callF (fun f => L.lookup f) (clones Cs) n) n fn.code (args0 0 args) M with
        | none => grind
        | some y => rw [X_iff.2 ⟨n, ha⟩]; grind
      grind
  · split at h
    · rename_i hl
      cases ha : X L Cs fn.code (args0 0 args) M with
      | none => grind
      | some y =>
        obtain ⟨n, hn⟩ := X_iff.1 ha
        refine R_iff.2 ⟨n + 1, ?_⟩
        have hn : execC (callF (fun f => L.lookup f) (clones Cs) n) n fn.code (args0 0 args) M = some y := hn
        simp only [runE, callF, hL, hr, if_pos hl, hn]
        grind
    grind
theorem R_rnd {f : FuncId} {fn : CFn} {ps : List Nat} {pre : CC} (hL : L.lookup f = some fn) (hr : fn.rnd = some (ps, pre)) {id : Nat} {sh : List (Nat × Bool × Nat)} {as : List WV} {M M1 M2 M3 M4 M5 : Mem} {cells : List Cl} {E0 E1 E3 : Env} {ex : EX} {r : AV}
    (h1 : as.length = ps.length) (h2 : stAt M id = some 0) (h3 : capsAt M id = some cells) (h4 : unshape sh cells = some E0) (h5 : X L Cs pre (zipE ps as ++ E0) M = some (.normal, E1, M1)) (h6 : setSt M1 id 0 1 = some M2)
    (h7 : X L Cs fn.code E1 M2 = some (ex, E3, M3)) (h8 : setSt M3 id 1 (stOf ex) = some M4) (h9 : finish M.length (.w (.c (.bool (ex == .normal)))) M4 = some (r, M5)) : R L Cs f (.c (.yld id f sh) :: as) M = some (r, M5) := by
  obtain ⟨n, hn⟩ := X_iff.1 h5
  obtain ⟨m, hm⟩ := X_iff.1 h7
  refine R_iff.2 ⟨max n m + 1, ?_⟩
  have e1 := execC_le (runE_le (L := L) (Cs := Cs) (Nat.le_max_left n m)) (Nat.le_max_left n m) hn
  have e2 := execC_le (runE_le (L := L) (Cs := Cs) (Nat.le_max_right n m)) (Nat.le_max_right n m) hm
  show callF (fun f => L.lookup f) (clones Cs) (max n m + 1) f (.c (.yld id f sh) :: as) M = _
  simp only [callF, hL, hr, roundF]
  have e1 : execC (callF (fun f => L.lookup f) (clones Cs) (max n m)) (max n m) pre (zipE ps as ++ E0) M = _ := e1
  have e2 : execC (callF (fun f => L.lookup f) (clones Cs) (max n m)) (max n m) fn.code E1 M2 = _ := e2
  grind
theorem R_oracle {f : FuncId} (hL : L.lookup f = none) (args : List WV) (M : Mem) : R L Cs f args M = clones Cs f args M := by
  refine opt_ext fun x => ⟨fun h => ?_, fun h => ?_⟩
  · obtain ⟨n, hn⟩ := R_iff.1 h
    cases n with
    | zero => simp [runE, callF] at hn
    | succ n => simpa only [runE, callF, hL] using hn
  · exact R_iff.2 ⟨1, by simpa only [runE, callF, hL] using h⟩
end
end Go.Eng
namespace Go.Eng
open Go
abbrev I (n : Int) : Cl := .int .i64 n
abbrev W (n : Int) : WV := .c (.int .i64 n)
abbrev Bo (b : Bool) : WV := .c (.bool b)
theorem i64_id (x : Int) (h : -9223372036854775808 ≤ x) (h' : x ≤ 9223372036854775807) : IntKind.i64.wrap x = x := by
  simp [IntKind.wrap, IntKind.signed, IntKind.bits]
  omega
theorem holes0 (M : Mem) : M ++ holes 0 = M := by simp [holes]
theorem collect_nil (M : Mem) (n : Nat) (s : List Nat) : collect M n [] s = s := by cases n <;> rfl
theorem collect_succ (M : Mem) (n id : Nat) (todo seen : List Nat) : collect M (n + 1) (id :: todo) seen = if seen.contains id then collect M n todo seen else collect M n (idsAt M id ++ todo) (seen ++ [id]) := rfl
theorem maxI_max (a b : Int) : maxI true a b = max a b := by simp only [maxI, if_true]; split <;> omega
theorem maxI_min (a b : Int) : maxI false a b = min a b := by simp only [maxI, Bool.false_eq_true, if_false]; split <;> omega
abbrev own (es : Nat) (l : List (List Cl)) : Blk := { box := false, esz := es, rows := l, gen := l.length, fz := false, ver := l.length }
end Go.Eng
namespace Go.Eng
open Go
section
variable [GlobP] {L : List (Nat × CFn)} {Cs : List (Nat × Nat × Nat × Bool)}
theorem iterR {b : CC} (hb : ∀ {E : Env} {M : Mem} {r : EX × Env × Mem} {n : Nat}, execC (R L Cs) n b E M = some r → X L Cs b E M = some r) {k : Nat} {live : Option (List Nat)} {n0 : Nat} : ∀ {n : Nat} {E : Env} {M : Mem} {r : EX × Env × Mem}, iter (execC (R L Cs) k b) live n0 n E M = some r → Y L Cs b live n0 E M = some r
  | 0, E, M, r, h => by simp [iter] at h
  | n + 1, E, M, r, h => by
    simp only [iter] at h
    cases ha : execC (R L Cs) k b E M with
    | none => rw [ha] at h; cases h
    | some y =>
      rw [ha] at h
      rw [Y_eq, hb ha]
      obtain ⟨ex, E', M'⟩ := y
      cases ex with
      | normal => exact iterR hb h
      | exit i => exact h
      | ret => exact h
theorem execR : ∀ {cc : CC} {n : Nat} {E : Env} {M : Mem} {r : EX × Env × Mem}, execC (R L Cs) n cc E M = some r → X L Cs cc E M = some r
  | .skip, n, E, M, r, h => by rw [X_skip]; exact h
  | .region nA ops prs keep, n, E, M, r, h => by rw [X_region]; exact h
  | .seq a b, n, E, M, r, h => by
    simp only [execC] at h
    cases ha : execC (R L Cs) n a E M with
    | none => rw [ha] at h; cases h
    | some y =>
      rw [ha] at h
      rw [X_seq, execR ha]
      obtain ⟨ex, E', M'⟩ := y
      cases ex with
      | normal => exact execR (cc := b) h
      | exit i => exact h
      | ret => exact h
  | .cond c a b, n, E, M, r, h => by
    simp only [execC] at h
    rw [X_cond]
    split at h
    · rename_i t ht
      simp only [ht]
      split at h
      · rename_i h1; rw [if_pos h1]; exact execR h
      · rename_i h1; rw [if_neg h1]; exact execR h
    · cases h
  | .block id b, n, E, M, r, h => by
    simp only [execC] at h
    cases ha : execC (R L Cs) n b E M with
    | none => rw [ha] at h; cases h
    | some y => rw [ha] at h; rw [X_block, execR ha]; exact h
  | .loop live b, n, E, M, r, h => by
    simp only [execC] at h
    rw [X_loop]
    exact iterR (fun h => execR h) h
  | .exit id, n, E, M, r, h => by rw [X_exit]; exact h
  | .ret, n, E, M, r, h => by rw [X_ret]; exact h
  | .rng f vf caps, n, E, M, r, h => by rw [X_rng]; exact h
theorem roundR {f : FuncId} {fn : CFn} {ps : List Nat} {pre : CC} (hL : L.lookup f = some fn) (hr : fn.rnd = some (ps, pre)) {n : Nat} {args : List WV} {M : Mem} {r : AV × Mem} (h : roundF (R L Cs) n f ps pre fn.code args M = some r) : R L Cs f args M = some r := by
  unfold roundF at h
  split at h
  · rename_i id g sh as
    split at h
    · rename_i hc
      obtain ⟨rfl, h1, h2⟩ := hc
      split at h
      · rename_i cells h3
        split at h
        · rename_i E0 h4
          split at h
          · rename_i E1 M1 h5
            split at h
            · rename_i M2 h6
              split at h
              · rename_i ex E3 M3 h7
                split at h
                · rename_i M4 h8
                  obtain ⟨a, M5⟩ := r
                  exact R_rnd hL hr h1 h2 h3 h4 (execR h5) h6 (execR h7) h8 h
                · cases h
              · cases h
            · cases h
          · cases h
        · cases h
      · cases h
    · cases h
  · cases h
theorem runBy {T : FuncId → Option CFn} {O : CallF} (hT : ∀ f c, T f = some c → L.lookup f = some c) (hO : ∀ f a M r, T f = none → O f a M = some r → R L Cs f a M = some r) : ∀ (n : Nat), CallF.le (callF T O n) (R L Cs)
  | 0, f, a, M, r, h => by simp [callF] at h
  | n + 1, f, a, M, r, h => by
    have ih := runBy hT hO n
    simp only [callF] at h
    split at h
    · rename_i hn
      exact hO f a M r hn h
    · rename_i fn hf
      split at h
      · rename_i ps pre hr
        refine roundR (n := n) (hT f fn hf) hr ?_
        unfold roundF at h ⊢
        split at h
        · rename_i id g sh as
          split at h
          · rename_i hc
            rw [if_pos hc]
            split at h
            · rename_i cells h3
              split at h
              · rename_i E0 h4
                split at h
                · rename_i E1 M1 h5
                  split at h
                  · rename_i M2 h6
                    split at h
                    · rename_i ex E3 M3 h7
                      simp only [h3, h4, execC_le ih (Nat.le_refl n) h5, h6, execC_le ih (Nat.le_refl n) h7]
                      exact h
                    · cases h
                  · cases h
                · cases h
              · cases h
            · cases h
          · cases h
        · cases h
      · rename_i hr
        rw [R_fn (hT f fn hf) hr]
        split at h
        · rename_i hl
          rw [if_pos hl]
          cases ha : execC (callF T O n) n fn.code (args0 0 a) M with
          | none => rw [ha] at h; cases h
          | some y => rw [ha] at h; rw [execR (execC_le ih (Nat.le_refl n) ha)]; exact h
        · cases h
end
end Go.Eng
namespace Go.Eng
open Go
def eqL {α : Type} (f : α → α → Bool) : List α → List α → Bool
  | [], [] => true
  | x :: xs, y :: ys => match eqL f xs ys with
    | true => f x y
    | false => false
  | _, _ => false
theorem eqL_sound {α : Type} {f : α → α → Bool} (hf : ∀ x y, f x y = true → x = y) : ∀ {xs ys : List α}, eqL f xs ys = true → xs = ys
  | [], [], _ => rfl
  | x :: xs, y :: ys, h => by
    simp only [eqL] at h
    split at h
    · rename_i h1; rw [hf x y h, eqL_sound hf h1]
    · cases h
  | [], _ :: _, h => by cases h
  | _ :: _, [], h => by cases h
def intE : Int → Int → Bool
  | .ofNat a, .ofNat b => Nat.beq a b
  | .negSucc a, .negSucc b => Nat.beq a b
  | _, _ => false
theorem natE {a b : Nat} (h : Nat.beq a b = true) : a = b := Nat.eq_of_beq_eq_true h
theorem intE_sound {a b : Int} (h : intE a b = true) : a = b := by
  cases a <;> cases b <;> simp only [intE] at h <;> first | (rw [natE h]; done) | cases h
def boolE (a b : Bool) : Bool := match a, b with
  | true, true => true
  | false, false => true
  | _, _ => false
theorem boolE_sound {a b : Bool} (h : boolE a b = true) : a = b := by cases a <;> cases b <;> first | rfl | cases h
def optE : Option Nat → Option Nat → Bool
  | none, none => true
  | some a, some b => Nat.beq a b
  | _, _ => false
theorem optE_sound {a b : Option Nat} (h : optE a b = true) : a = b := by
  cases a <;> cases b <;> simp only [optE] at h <;> first | rfl | (rw [natE h]; done) | cases h
def shE (a b : Nat × Bool × Nat) : Bool := Nat.beq a.1 b.1 && (boolE a.2.1 b.2.1 && Nat.beq a.2.2 b.2.2)
theorem shE_sound (a b : Nat × Bool × Nat) (h : shE a b = true) : a = b := by
  obtain ⟨a1, a2, a3⟩ := a
  obtain ⟨b1, b2, b3⟩ := b
  simp only [shE, Bool.and_eq_true] at h
  rw [natE h.1, boolE_sound h.2.1, natE h.2.2]
def clE : Nat → Cl → Cl → Bool
  | 0, _, _ => false
  | n + 1, .bool a, .bool b => boolE a b
  | n + 1, .int k a, .int k' b => (intE a b) && decide (k = k')
  | n + 1, .str a, .str b => decide (a.data.toList = b.data.toList)
  | n + 1, .ptr a b c d, .ptr a' b' c' d' => Nat.beq a a' && (Nat.beq b b' && (Nat.beq c c' && Nat.beq d d'))
  | n + 1, .rptr r k, .rptr r' k' => Nat.beq k k' && eqL (clE n) r r'
  | n + 1, .nilptr, .nilptr => true
  | n + 1, .slice a b c d e f, .slice a' b' c' d' e' f' => Nat.beq a a' && (Nat.beq b b' && (Nat.beq c c' && (Nat.beq d d' && (Nat.beq e e' && optE f f'))))
  | n + 1, .rslice a, .rslice b => eqL (eqL (clE n)) a b
  | n + 1, .nilslice, .nilslice => true
  | n + 1, .fn f a b, .fn f' a' b' => Nat.beq f f' && (eqL (clE n) a a' && eqL (clE n) b b')
  | n + 1, .nilfn, .nilfn => true
  | n + 1, .iface t a b, .iface t' a' b' => Nat.beq t t' && (boolE a a' && eqL (clE n) b b')
  | n + 1, .niliface, .niliface => true
  | n + 1, .yld a b c, .yld a' b' c' => Nat.beq a a' && (Nat.beq b b' && eqL shE c c')
  | n + 1, .nilmap, .nilmap => true
  | n + 1, .map a g, .map a' g' => Nat.beq a a' && boolE g g'
  | n + 1, .mit a, .mit a' => Nat.beq a a'
  | n + 1, .bsl a b c d e f g, .bsl a' b' c' d' e' f' g' => Nat.beq a a' && (Nat.beq b b' && (Nat.beq c c' && (Nat.beq d d' && (Nat.beq e e' && (Nat.beq f f' && Nat.beq g g')))))
  | _, _, _ => false
theorem clE_sound : ∀ (n : Nat) (x y : Cl), clE n x y = true → x = y
  | 0, x, y, h => by simp [clE] at h
  | n + 1, x, y, h => by
    have ih := clE_sound n
    have ihl : ∀ {a b : List Cl}, eqL (clE n) a b = true → a = b := fun h => eqL_sound ih h
    cases x <;> cases y <;> simp only [clE, Bool.and_eq_true, decide_eq_true_eq] at h <;> first | (cases h; done) | rfl | skip
    · rw [boolE_sound h]
    · rw [intE_sound h.1, h.2]
    · rename_i a b
      obtain ⟨⟨a⟩⟩ := a
      obtain ⟨⟨b⟩⟩ := b
      simp only at h
      rw [h]
    · rw [natE h.1, natE h.2.1, natE h.2.2.1, natE h.2.2.2]
    · rw [natE h.1, ihl h.2]
    · rw [natE h.1, natE h.2.1, natE h.2.2.1, natE h.2.2.2.1, natE h.2.2.2.2.1, optE_sound h.2.2.2.2.2]
    · rw [eqL_sound (fun _ _ => ihl) h]
    · rw [natE h.1, ihl h.2.1, ihl h.2.2]
    · rw [natE h.1, boolE_sound h.2.1, ihl h.2.2]
    · rw [natE h.1, natE h.2.1, eqL_sound shE_sound h.2.2]
    · rw [natE h.1, boolE_sound h.2]
    · rw [natE h]
    · rw [natE h.1, natE h.2.1, natE h.2.2.1, natE h.2.2.2.1, natE h.2.2.2.2.1, natE h.2.2.2.2.2.1, natE h.2.2.2.2.2.2]
def wvE : WV → WV → Bool
  | .c x, .c y => clE 12 x y
  | .a x, .a y => eqL (clE 12) x y
  | _, _ => false
theorem wvE_sound (x y : WV) (h : wvE x y = true) : x = y := by
  cases x <;> cases y <;> simp only [wvE] at h <;> first | (cases h; done) | skip
  · rw [clE_sound _ _ _ h]
  · rw [eqL_sound (clE_sound 12) h]
def avE : AV → AV → Bool
  | .w x, .w y => wvE x y
  | .t x, .t y => eqL wvE x y
  | .u, .u => true
  | _, _ => false
theorem avE_sound (x y : AV) (h : avE x y = true) : x = y := by
  cases x <;> cases y <;> simp only [avE] at h <;> first | (cases h; done) | rfl | skip
  · rw [wvE_sound _ _ h]
  · rw [eqL_sound wvE_sound h]
def blkE : Option Blk → Option Blk → Bool
  | none, none => true
  | some a, some b => boolE a.box b.box && (Nat.beq a.esz b.esz && (Nat.beq a.gen b.gen && (boolE a.fz b.fz && (Nat.beq a.ver b.ver && eqL (eqL (clE 12)) a.rows b.rows))))
  | _, _ => false
theorem blkE_sound (x y : Option Blk) (h : blkE x y = true) : x = y := by
  cases x <;> cases y <;> simp only [blkE, Bool.and_eq_true] at h <;> first | (cases h; done) | rfl | skip
  rename_i a b
  obtain ⟨a1, a2, a3, a4, a5, a6⟩ := a
  obtain ⟨b1, b2, b3, b4, b5, b6⟩ := b
  obtain ⟨h1, h2, h3, h4, h5, h6⟩ := h
  simp only at h1 h2 h3 h4 h5 h6
  rw [boolE_sound h1, natE h2, natE h3, boolE_sound h4, natE h5, eqL_sound (fun _ _ h => eqL_sound (clE_sound 12) h) h6]
def memE (M N : Mem) : Bool := eqL blkE M N
theorem memE_sound {M N : Mem} (h : memE M N = true) : M = N := eqL_sound blkE_sound h
structure Ent where
  f : FuncId
  a : List WV
  M : Mem
  r : AV
  M' : Mem
def Ent.find (f : FuncId) (a : List WV) (M : Mem) : List Ent → Option (AV × Mem)
  | [] => none
  | e :: es => match Nat.beq e.f f with
    | true => match eqL wvE e.a a with
      | true => match memE e.M M with
        | true => some (e.r, e.M')
        | false => Ent.find f a M es
      | false => Ent.find f a M es
    | false => Ent.find f a M es
inductive Tr where
  | leaf
  | node (l : Tr) (k : Nat) (v : CFn) (r : Tr)
def Tr.get (f : Nat) : Tr → Option CFn
  | .leaf => none
  | .node l k v r => match Nat.beq f k with
    | true => some v
    | false => match Nat.ble f k with
      | true => Tr.get f l
      | false => Tr.get f r
def Tr.list : Tr → List (Nat × CFn)
  | .leaf => []
  | .node l k v r => l.list ++ (k, v) :: r.list
theorem Tr.get_mem {f : Nat} {c : CFn} : ∀ {t : Tr}, t.get f = some c → (f, c) ∈ t.list
  | .leaf, h => by cases h
  | .node l k v r, h => by
    simp only [Tr.get] at h
    split at h
    · rename_i h1; cases h; rw [natE h1]; simp [Tr.list]
    · split at h
      · exact List.mem_append.2 (.inl (Tr.get_mem h))
      · exact List.mem_append.2 (.inr (List.mem_cons_of_mem _ (Tr.get_mem h)))
theorem lookup_nodup {f : Nat} {c : CFn} : ∀ {l : List (Nat × CFn)}, nodupB (l.map (·.1)) = true → (f, c) ∈ l → l.lookup f = some c
  | [], _, h => by cases h
  | (k, v) :: l, hn, h => by
    simp only [List.map_cons, nodupB, Bool.and_eq_true, Bool.not_eq_true', List.contains_eq_mem, decide_eq_false_iff_not] at hn
    rcases List.mem_cons.1 h with e | h
    · cases e; simp [List.lookup]
    · have hne : f ≠ k := fun e => hn.1 (e ▸ List.mem_map.2 ⟨_, h, rfl⟩)
      have hb : (f == k) = false := by simpa using hne
      simp only [List.lookup, hb]
      exact lookup_nodup hn.2 h
def hotB (f : Nat) : List Nat → Bool
  | [] => false
  | x :: xs => match Nat.beq x f with
    | true => true
    | false => hotB f xs
section
variable [GlobP] {L : List (Nat × CFn)} {Cs : List (Nat × Nat × Nat × Bool)}
def Holds (L : List (Nat × CFn)) (Cs : List (Nat × Nat × Nat × Bool)) (e : Ent) : Prop := R L Cs e.f e.a e.M = some (e.r, e.M')
def AllH (L : List (Nat × CFn)) (Cs : List (Nat × Nat × Nat × Bool)) (es : List Ent) : Prop := ∀ e ∈ es, Holds L Cs e
theorem AllH.nil : AllH L Cs [] := fun _ h => by cases h
theorem find_holds {f : FuncId} {a : List WV} {M : Mem} {r : AV × Mem} : ∀ {es : List Ent}, AllH L Cs es → Ent.find f a M es = some r → R L Cs f a M = some r
  | [], _, h => by cases h
  | e :: es, hs, h => by
    have hrec := find_holds (f := f) (a := a) (M := M) (es := es) (r := r) fun x hx => hs x (List.mem_cons_of_mem _ hx)
    simp only [Ent.find] at h
    split at h
    · rename_i h1
      split at h
      · rename_i h2
        split at h
        · rename_i h3
          cases h
          rw [← natE h1, ← eqL_sound wvE_sound h2, ← memE_sound h3]
          exact hs e (List.mem_cons_self ..)
        · exact hrec h
      · exact hrec h
    · exact hrec h
def cold (t : Tr) (hot : List Nat) (f : FuncId) : Option CFn := match hotB f hot with
  | true => none
  | false => t.get f
def oracle (Cs : List (Nat × Nat × Nat × Bool)) (hot : List Nat) (es : List Ent) : CallF := fun f a M => match hotB f hot with
  | true => Ent.find f a M es
  | false => clones Cs f a M
def checkE (t : Tr) (Cs : List (Nat × Nat × Nat × Bool)) (hot : List Nat) (es : List Ent) (n : Nat) (e : Ent) : Bool :=
  match callF (cold t hot) (oracle Cs hot es) n e.f e.a e.M with
  | some (r, M) => match avE r e.r with
    | true => memE M e.M'
    | false => false
  | none => false
theorem lookup_in {α : Type} {f : Nat} {c : α} : ∀ {l : List (Nat × α)}, l.lookup f = some c → (f, c) ∈ l
  | [], h => by simp at h
  | (g, d) :: l, h => by
    rw [List.lookup_cons] at h
    split at h
    · rename_i hb
      cases h
      have : f = g := by simpa using hb
      subst this
      exact List.mem_cons_self ..
    · exact List.mem_cons_of_mem _ (lookup_in h)
theorem clones_key {f : FuncId} {a : List WV} {M : Mem} {r : AV × Mem} (hno : (Cs.all fun c => (L.lookup c.1).isNone) = true) (h : clones Cs f a M = some r) : L.lookup f = none := by
  unfold clones at h
  cases hl : Cs.lookup f with
  | none => rw [hl] at h; cases h
  | some x =>
    have := List.all_eq_true.1 hno _ (lookup_in hl)
    simpa using this
theorem ent_run {t : Tr} (ht : t.list = L) (hn : nodupB (L.map (·.1)) = true) (hno : (Cs.all fun c => (L.lookup c.1).isNone) = true) {hot : List Nat} {es : List Ent} (hs : AllH L Cs es) {n : Nat} {e : Ent} (h : checkE t Cs hot es n e = true) : Holds L Cs e := by
  have key := runBy (L := L) (Cs := Cs) (T := cold t hot) (O := oracle Cs hot es) (fun f c hc => by
      unfold cold at hc
      split at hc
      · cases hc
      · have := Tr.get_mem hc
        rw [ht] at this
        exact lookup_nodup hn this) (fun f a M r hT hO => by
      unfold oracle at hO
      split at hO
      · exact find_holds hs hO
      · rw [R_oracle (clones_key hno hO)]; exact hO) n
  unfold checkE at h
  split at h
  · rename_i r M hr
    split at h
    · rename_i hav
      have := key _ _ _ _ hr
      rw [avE_sound _ _ hav, memE_sound h] at this
      exact this
    · cases h
  · cases h
end
end Go.Eng
namespace Go.Eng
open Go
attribute [simp] collect_nil args0 X_skip X_exit X_ret X_region X_seq X_cond X_block X_loop opsF stepF opF Opd.av Opd.ev Env.put Env.get binC binI pureW holes0 Env.kept Env.keep resOf resAll resOne finish leave
  AV.below WV.below Eng.below top1 memBelow Blk.below wantedF evs foldMM maxI_max maxI_min unC callOp callOn callee headOK nodupB renWs renW renC renCs ren1 ren1s renA renB renRows takeBlks landed back renNew
  WV.ids WV.cells AV.ids idsC ids1 idxIn idsAt Blk.ids newAt holes loadOp storeOp storeAt isBox Eng.look Eng.cut splice ofCells faddrC prOk FP.apart FP.apartOne FP.old FP.isNo iaddrC asIdx frzC frzs frzW frzWs frzA WV.sls AV.sls slC noIds
  fillParts fillOne fillRows partsSls markAll collectFuel collect_succ appendOp elemsOf roomy canon drop0 whole plainC WV.plain AV.plain eqbC nilC own aaddrC sliceC sliceB boundOf asBound topOf eqC1 eqCells mlayF popF mopF copyOp bslCells bnds
end Go.Eng
namespace Go.Eng
open Go
abbrev kI (n : Int) : Opd := .k (.c (.int .i64 n))
abbrev kB (b : Bool) : Opd := .k (.c (.bool b))
abbrev sQ (a b : CC) : CC := .seq a b
attribute [simp] kI kB sQ
inductive Ins where
  | m (n : Nat)
  | q (d n : Nat)
  | p (d n : Nat)
  | v (n : Int)
  | l (n : Nat)
  | t (k n : Nat)
  | f (k n : Nat)
  | fl (k n : Nat)
  | c (f : Nat) (xs : List Nat)
  | d (f : Nat) (xs : List Opd)
  | a (e x y : Nat)
  | aa (e x y : Nat)
  | ai (e x : Nat) (n : Int)
  | nn (x : Nat)
  | n (x : Nat)
  | e (t k : Nat)
  | b (o : BinOp) (x y : Nat)
  | bb (o : BinOp) (x y : Nat)
  | bn (o : BinOp) (x y : Nat)
  | i (o : BinOp) (x : Nat) (n : Int)
  | ii (o : BinOp) (x : Nat) (n : Int)
  | k (o : BinOp) (x : Nat) (n : Int)
  | inc (x : Nat)
  | u (x : Nat)
  | y (x y : Nat)
  | r (x y : Nat)
  | x (d k e n : Nat)
  | w (k x y : Nat)
  | o (x : CO)
  | od (d : Nat) (x : CO)
  | z (x : CO)
  | j (i d : Nat)
  | g (x : Nat) (b : Bool)
  | h
@[simp] def asm : Nat → Nat → Option (Nat × Bool) → List Ins → List COper
  | _, _, _, [] => []
  | i, d, g, .m n :: r => ⟨i, some d, g, .mv (.s n)⟩ :: asm (i + 1) (d + 1) g r
  | i, d, g, .q k n :: r => ⟨i, some k, g, .mv (.s n)⟩ :: asm (i + 1) d g r
  | i, d, g, .p k n :: r => ⟨i, some d, g, .mv (.s n)⟩ :: ⟨i + 1, some k, g, .mv (.s d)⟩ :: asm (i + 2) (d + 1) g r
  | i, d, g, .v n :: r => ⟨i, some d, g, .mv (.k (.c (.int .i64 n)))⟩ :: asm (i + 1) (d + 1) g r
  | i, d, g, .l n :: r => ⟨i, some d, g, .load false 1 (.s n)⟩ :: asm (i + 1) (d + 1) g r
  | i, d, g, .t k n :: r => ⟨i, some d, g, .load true k (.s n)⟩ :: asm (i + 1) (d + 1) g r
  | i, d, g, .f k n :: r => ⟨i, some d, g, .faddr k (.s n)⟩ :: asm (i + 1) (d + 1) g r
  | i, d, g, .fl k n :: r => ⟨i, some d, g, .faddr k (.s n)⟩ :: ⟨i + 1, some (d + 1), g, .load false 1 (.s d)⟩ :: asm (i + 2) (d + 2) g r
  | i, d, g, .c f xs :: r => ⟨i, some d, g, .call ⟨true⟩ (.k (.c (.fn f [] []))) (xs.map .s)⟩ :: asm (i + 1) (d + 1) g r
  | i, d, g, .d f xs :: r => ⟨i, some d, g, .call ⟨true⟩ (.k (.c (.fn f [] []))) xs⟩ :: asm (i + 1) (d + 1) g r
  | i, d, g, .a e x y :: r => ⟨i, some d, g, .iaddr e (.s x) (.s y)⟩ :: asm (i + 1) (d + 1) g r
  | i, d, g, .aa e x y :: r => ⟨i, some d, g, .mv (.s x)⟩ :: ⟨i + 1, some (d + 1), g, .mv (.s y)⟩ :: ⟨i + 2, some (d + 2), g, .iaddr e (.s d) (.s (d + 1))⟩ :: asm (i + 3) (d + 3) g r
  | i, d, g, .ai e x n :: r => ⟨i, some d, g, .iaddr e (.s x) (.k (.c (.int .i64 n)))⟩ :: asm (i + 1) (d + 1) g r
  | i, d, g, .nn x :: r => ⟨i, some d, g, .mv (.s x)⟩ :: ⟨i + 1, some (d + 1), g, .len (.s d)⟩ :: asm (i + 2) (d + 2) g r
  | i, d, g, .n x :: r => ⟨i, some d, g, .len (.s x)⟩ :: asm (i + 1) (d + 1) g r
  | i, d, g, .e t k :: r => ⟨i, some d, g, .extract t k⟩ :: asm (i + 1) (d + 1) g r
  | i, d, g, .b o x y :: r => ⟨i, some d, g, .bin o (.s x) (.s y)⟩ :: asm (i + 1) (d + 1) g r
  | i, d, g, .bb o x y :: r => ⟨i, some d, g, .mv (.s x)⟩ :: ⟨i + 1, some (d + 1), g, .mv (.s y)⟩ :: ⟨i + 2, some (d + 2), g, .bin o (.s d) (.s (d + 1))⟩ :: asm (i + 3) (d + 3) g r
  | i, d, g, .bn o x y :: r => ⟨i, some d, g, .mv (.s x)⟩ :: ⟨i + 1, some (d + 1), g, .mv (.s y)⟩ :: ⟨i + 2, some (d + 2), g, .len (.s (d + 1))⟩ :: ⟨i + 3, some (d + 3), g, .bin o (.s d) (.s (d + 2))⟩ :: asm (i + 4) (d + 4) g r
  | i, d, g, .i o x n :: r => ⟨i, some d, g, .bin o (.s x) (.k (.c (.int .i64 n)))⟩ :: asm (i + 1) (d + 1) g r
  | i, d, g, .ii o x n :: r => ⟨i, some d, g, .mv (.s x)⟩ :: ⟨i + 1, some (d + 1), g, .bin o (.s d) (.k (.c (.int .i64 n)))⟩ :: asm (i + 2) (d + 2) g r
  | i, d, g, .k o x n :: r => ⟨i, some d, g, .mv (.s x)⟩ :: ⟨i + 1, some (d + 1), g, .len (.s d)⟩ :: ⟨i + 2, some (d + 2), g, .bin o (.s (d + 1)) (.k (.c (.int .i64 n)))⟩ :: asm (i + 3) (d + 3) g r
  | i, d, g, .inc x :: r => ⟨i, some d, g, .mv (.s x)⟩ :: ⟨i + 1, some (d + 1), g, .bin .add (.s d) (.k (.c (.int .i64 1)))⟩ :: ⟨i + 2, some x, g, .mv (.s (d + 1))⟩ :: asm (i + 3) (d + 2) g r
  | i, d, g, .u x :: r => ⟨i, some d, g, .un .not (.s x)⟩ :: asm (i + 1) (d + 1) g r
  | i, d, g, .y x y :: r => ⟨i, some d, g, .pick (.s x) (.s y) (.k (.c (.bool false)))⟩ :: asm (i + 1) (d + 1) g r
  | i, d, g, .r x y :: r => ⟨i, some d, g, .pick (.s x) (.k (.c (.bool true))) (.s y)⟩ :: asm (i + 1) (d + 1) g r
  | i, d, g, .x k s e n :: r => ⟨i, some k, g, .box s e (.s n)⟩ :: asm (i + 1) d g r
  | i, d, g, .w k x y :: r => ⟨i, none, g, .store k (.s x) (.s y)⟩ :: asm (i + 1) d g r
  | i, d, g, .o x :: r => ⟨i, some d, g, x⟩ :: asm (i + 1) (d + 1) g r
  | i, d, g, .od k x :: r => ⟨i, some k, g, x⟩ :: asm (i + 1) d g r
  | i, d, g, .z x :: r => ⟨i, none, g, x⟩ :: asm (i + 1) d g r
  | _, _, g, .j i d :: r => asm i d g r
  | i, d, _, .g x b :: r => asm i d (some (x, b)) r
  | i, d, _, .h :: r => asm i d none r
abbrev rH (n d : Nat) (ops : List Ins) (k : List Nat) : CC := .region n (asm 0 d none ops) [] (some k)
abbrev rP (n d : Nat) (ops : List Ins) (ps : List (Nat × Nat)) (k : List Nat) : CC := .region n (asm 0 d none ops) ps (some k)
abbrev fN (n t : Nat) (r : List RC) (c : CC) : CFn := { frz := true, rnd := none, nargs := n, ntmps := t, res := r, code := c }
abbrev fF (z : Bool) (v : Option (List Nat × CC)) (n t : Nat) (r : List RC) (c : CC) : CFn := { frz := z, rnd := v, nargs := n, ntmps := t, res := r, code := c }
abbrev cD (n : Nat) (a b : CC) : CC := .cond (.s n) a b
attribute [simp] rH rP fN fF cD
end Go.Eng
namespace Go.Eng
open Go
inductive Sh where
  | int (k : IntKind)
  | bool
  | str
  | slice (s : Sh)
  | st (l : List Sh)
  deriving Inhabited
mutual
def Sh.n : Sh → Nat
  | .int _ | .bool | .str | .slice _ => 1
  | .st l => Sh.ns l
def Sh.ns : List Sh → Nat
  | [] => 0
  | s :: l => s.n + Sh.ns l
end
mutual
def HasSh : Sh → List Cl → Prop
  | .int k, cs => ∃ n, cs = [.int k n] ∧ k.min ≤ n ∧ n ≤ k.max
  | .bool, cs => ∃ b, cs = [.bool b]
  | .str, cs => ∃ s, cs = [.str s] ∧ s.size ≤ maxLen
  | .slice s, cs => ∃ rows, cs = [.rslice rows] ∧ rows.length ≤ maxLen ∧ ∀ r ∈ rows, HasSh s r
  | .st l, cs => HasShs l cs
def HasShs : List Sh → List Cl → Prop
  | [], cs => cs = []
  | s :: l, cs => ∃ c d, cs = c ++ d ∧ HasSh s c ∧ HasShs l d
end
mutual
theorem HasSh.len : ∀ {s : Sh} {cs : List Cl}, HasSh s cs → cs.length = s.n
  | .int k, cs, h => by simp only [HasSh] at h; obtain ⟨n, rfl, _⟩ := h; rfl
  | .bool, cs, h => by simp only [HasSh] at h; obtain ⟨n, rfl⟩ := h; rfl
  | .str, cs, h => by simp only [HasSh] at h; obtain ⟨n, rfl, _⟩ := h; rfl
  | .slice s, cs, h => by simp only [HasSh] at h; obtain ⟨n, rfl, _⟩ := h; rfl
  | .st l, cs, h => by simp only [HasSh] at h; simpa only [Sh.n] using HasShs.len h
theorem HasShs.len : ∀ {l : List Sh} {cs : List Cl}, HasShs l cs → cs.length = Sh.ns l
  | [], cs, h => by simp only [HasShs] at h; subst h; rfl
  | s :: l, cs, h => by
    simp only [HasShs] at h
    obtain ⟨c, d, rfl, h1, h2⟩ := h
    simp only [List.length_append, Sh.ns, HasSh.len h1, HasShs.len h2]
end
def fieldShs (P : Program) (f : TypeId → Option Sh) : List Field → Nat → Option (List Sh)
  | [], _ => some []
  | x :: xs, off => match f x.type with
    | some s => if x.offset = off ∧ P.cellsOf x.type = s.n then (fieldShs P f xs (off + s.n)).map (s :: ·) else none
    | none => none
def shapeOf (P : Program) : Nat → TypeId → Option Sh
  | 0, _ => none
  | d + 1, t => match P.underlying t with
    | some (.int k) => some (.int k)
    | some .bool => some .bool
    | some .string => some .str
    | some (.slice e) => match shapeOf P d e with
      | some s => if P.cellsOf e = s.n ∧ 0 < s.n then some (.slice s) else none
      | none => none
    | some (.struct fs) => match fieldShs P (shapeOf P d) fs.toList 0 with
      | some l => if P.cellsOf t = Sh.ns l then some (.st l) else none
      | none => none
    | some (.array n e) => match shapeOf P d e with
      | some s => if P.cellsOf e = s.n ∧ P.cellsOf t = n * s.n then some (.st (List.replicate n s)) else none
      | none => none
    | _ => none
def shapesOf (P : Program) (d : Nat) : List TypeId → Option (List Sh)
  | [] => some []
  | t :: ts => match shapeOf P d t, shapesOf P d ts with
    | some s, some l => some (s :: l)
    | _, _ => none
section
variable {H : Type} {enc : TypeId × Value → H} {P : Program} {W : World} {spare : Nat → Bool} {held : Bool}
def allCells (W : World) : Stab := fun b o => W.cell? ⟨b, o, none⟩
theorem allCells_agree [RecP] (hG : GK (allCells W)) : Agree (allCells W) W := ⟨fun _ _ _ h => h, hG⟩
theorem mapM_range_get {β : Type} {f : Nat → Option β} {n : Nat} {ys : List β} (h : (List.range n).mapM f = some ys) : ys.length = n ∧ ∀ i, i < n → ∃ y, ys[i]? = some y ∧ f i = some y := by
  have hl : ys.length = n := by simpa using mapM_some_length h
  refine ⟨hl, fun i hi => ?_⟩
  have key : ∀ (l : List Nat) (ys : List β), l.mapM f = some ys → ∀ (k x : Nat), l[k]? = some x → ∃ y, ys[k]? = some y ∧ f x = some y := by
    intro l
    induction l with
    | nil => grind
    | cons a l ih =>
      cases ha : f a with
      | none => grind
      | some b =>
        cases hr : l.mapM f with
        | none => grind
        | some bs =>
          grind
  exact key _ _ h i i (by grind)
theorem cells?_get {a : Addr} {n : Nat} {cs : List Value} (h : W.cells? 0 a n = some cs) : cs.length = n ∧ ∀ i, i < n → ∃ v, cs[i]? = some v ∧ W.cell? (a.add i) = some v := by
  exact mapM_range_get h
theorem cell?_spot {a : Addr} {v : Value} (h : W.cell? a = some v) : a.spot = none := by
  unfold World.cell? at h
  split at h
  · simp_all
  grind
theorem trod_fields {d : Nat} {n : Nat} (ih : ∀ {t : TypeId} {cs : List Value} {x : DataW H × List MemPlace} {s : Sh}, DataW.trod enc P W 0 spare held n t cs = some x → shapeOf P d t = some s → ∃ cl, VCs (allCells W) noInj cl cs ∧ HasSh s cl) :
    ∀ {fs : List Field} {off : Nat} {l : List Sh} {cs : List Value} {xs : List (DataW H × List MemPlace)}, fieldShs P (shapeOf P d) fs off = some l → (fs.mapM fun f => DataW.trod enc P W 0 spare held n f.type ((cs.drop f.offset).take (P.cellsOf f.type))) = some xs → cs.length = off + Sh.ns l →
      ∃ cl, VCs (allCells W) noInj cl (cs.drop off) ∧ HasShs l cl
  | [], off, l, cs, xs, hf, hx, hl => by
    simp only [fieldShs, Option.some.injEq] at hf
    subst hf
    simp only [Sh.ns, Nat.add_zero] at hl
    exact ⟨[], by grind [List.drop_eq_nil_of_le, VCs.nil], rfl⟩
  | f :: fs, off, l, cs, xs, hf, hx, hl => by
    simp only [fieldShs] at hf
    split at hf
    · rename_i s hs
      split at hf
      · rename_i hc
        obtain ⟨hoff, hcells⟩ := hc
        simp only [Option.map_eq_some_iff] at hf
        obtain ⟨l', hl', rfl⟩ := hf
        simp only [Sh.ns] at hl
        cases h1 : DataW.trod enc P W 0 spare held n f.type ((cs.drop f.offset).take (P.cellsOf f.type)) with
        | none => grind
        | some y =>
          cases h2 : (fs.mapM fun f => DataW.trod enc P W 0 spare held n f.type ((cs.drop f.offset).take (P.cellsOf f.type))) with
          | none => grind
          | some ys =>
            obtain ⟨c1, hv1, hs1⟩ := ih h1 hs
            obtain ⟨c2, hv2, hs2⟩ := trod_fields ih hl' h2 (by omega)
            refine ⟨c1 ++ c2, ?_, c1, c2, rfl, hs1, hs2⟩
            have e : cs.drop off = (cs.drop off).take s.n ++ cs.drop (off + s.n) := by rw [← List.drop_drop, List.take_append_drop]
            rw [e]
            rw [hoff, hcells] at hv1
            exact hv1.append hv2
      grind
    grind
theorem trod_reps {d : Nat} {n : Nat} {e : TypeId} {s : Sh} (ih : ∀ {t : TypeId} {cs : List Value} {x : DataW H × List MemPlace} {s : Sh}, DataW.trod enc P W 0 spare held n t cs = some x → shapeOf P d t = some s → ∃ cl, VCs (allCells W) noInj cl cs ∧ HasSh s cl) (hs : shapeOf P d e = some s) :
    ∀ {m k : Nat} {cs : List Value}, (∀ i, i < m → ∃ x, DataW.trod enc P W 0 spare held n e ((cs.drop ((k + i) * s.n)).take s.n) = some x) → cs.length = (k + m) * s.n → ∃ cl, VCs (allCells W) noInj cl (cs.drop (k * s.n)) ∧ HasShs (List.replicate m s) cl
  | 0, k, cs, h, hl => ⟨[], by grind [List.drop_eq_nil_of_le, VCs.nil], rfl⟩
  | m + 1, k, cs, h, hl => by
    obtain ⟨x, hx⟩ := h 0 (by omega)
    obtain ⟨c1, hv1, hs1⟩ := ih hx hs
    obtain ⟨c2, hv2, hs2⟩ := trod_reps ih hs (m := m) (k := k + 1) (cs := cs) (fun i hi => by
      grind) (by grind)
    refine ⟨c1 ++ c2, ?_, c1, c2, rfl, hs1, hs2⟩
    grind [VCs, allCells, noInj]
theorem rslice_of {a : Addr} {len cap sz : Nat} {Q : List Cl → Prop} (hpos : 0 < sz) (hl : len ≤ cap) (h : ∀ i, i < len → ∃ cs cl, W.cells? 0 (a.add (i * sz)) sz = some cs ∧ VCs (allCells W) noInj cl cs ∧ Q cl) :
    ∃ rows : List (List Cl), rows.length = len ∧ (∀ r ∈ rows, Q r) ∧ VC (allCells W) noInj (.rslice rows) (.slice (some a) len cap) := by
  have hch : ∃ f : Nat → List Value × List Cl, ∀ i, i < len → W.cells? 0 (a.add (i * sz)) sz = some (f i).1 ∧ VCs (allCells W) noInj (f i).2 (f i).1 ∧ Q (f i).2 := by
    refine ⟨fun i => if hi : i < len then ((h i hi).choose, (h i hi).choose_spec.choose) else ([], []), fun i hi => ?_⟩
    grind
  obtain ⟨f, hf⟩ := hch
  have hlen : ∀ i, i < len → (f i).1.length = sz ∧ (f i).2.length = sz := fun i hi => by
    have h1 := (cells?_get (hf i hi).1).1
    exact ⟨h1, by rw [(hf i hi).2.1.1, h1]⟩
  have hget0 : ∀ i, i < len → ∀ n, n < sz → ∃ v, (f i).1[n]? = some v ∧ W.cell? ((a.add (i * sz)).add n) = some v := fun i hi n hn => (cells?_get (hf i hi).1).2 n hn
  have hsp : len = 0 ∨ ∃ b o, a = ⟨b, o, none⟩ := by
    rcases Nat.eq_zero_or_pos len with h0 | h0
    · grind
    · obtain ⟨v, _, hv⟩ := hget0 0 h0 0 hpos
      have := cell?_spot hv
      obtain ⟨b, o, s⟩ := a
      have : s = none := by grind [Addr.add]
      exact Or.inr ⟨b, o, by rw [this]⟩
  refine ⟨(List.range len).map fun i => (f i).2, by simp, ?_, ?_⟩
  · grind
  · have hrow : ∀ (i : Nat) (row : List Cl), ((List.range len).map fun i => (f i).2)[i]? = some row → i < len ∧ row = (f i).2 := fun i row hi => by
      grind
    have hv := VC.rslice (σ := allCells W) noInj sz ((List.range len).map fun i => (f i).2) (some a) cap a.block a.off (fun i n => ((f i).1[n]?).getD undef) (by grind) ?_ ?_ ?_ ?_
    · grind
    · grind
    · grind
    · intro i row n cl hi hn
      obtain ⟨hil, rfl⟩ := hrow i row hi
      have hns : n < sz := by grind
      obtain ⟨v, h1, h2⟩ := hget0 i hil n hns
      rw [h1]
      rcases hsp with h0 | ⟨b, o, rfl⟩
      · omega
      · show W.cell? ⟨b, o + i * sz + n, none⟩ = some v
        grind [Addr.add]
    · intro i row n cl hi hn
      obtain ⟨hil, rfl⟩ := hrow i row hi
      have hns : n < sz := by grind
      obtain ⟨v, h1, _⟩ := hget0 i hil n hns
      rw [h1]
      exact (hf i hil).2.1.2 n cl v hn h1
theorem trod_sh : ∀ {n d : Nat} {t : TypeId} {cs : List Value} {x : DataW H × List MemPlace} {s : Sh}, DataW.trod enc P W 0 spare held n t cs = some x → shapeOf P d t = some s → ∃ cl, VCs (allCells W) noInj cl cs ∧ HasSh s cl
  | 0, d, t, cs, x, s, h, hs => by simp [DataW.trod] at h
  | n + 1, 0, t, cs, x, s, h, hs => by grind [shapeOf]
  | n + 1, d + 1, t, cs, x, s, h, hs => by
    have ih : ∀ {t : TypeId} {cs : List Value} {x : DataW H × List MemPlace} {s : Sh}, DataW.trod enc P W 0 spare held n t cs = some x → shapeOf P d t = some s → ∃ cl, VCs (allCells W) noInj cl cs ∧ HasSh s cl := fun h hs => trod_sh h hs
    simp only [shapeOf] at hs
    split at hs
    · rename_i k hu
      cases hs
      obtain ⟨m, rfl, _, hw⟩ := DataW.trod_int hu h
      simp only [Lit.wf, Bool.and_eq_true, decide_eq_true_eq] at hw
      exact ⟨[.int k m], VCs.cons (.int _ _ _) VCs.nil, m, rfl, hw⟩
    · rename_i hu
      cases hs
      obtain ⟨b, rfl, _⟩ := DataW.trod_bool hu h
      exact ⟨[.bool b], VCs.cons (.bool _ _) VCs.nil, b, rfl⟩
    · rename_i hu
      cases hs
      obtain ⟨b, rfl, _, hb⟩ := DataW.trod_string hu h
      exact ⟨[.str b], VCs.cons (.str _ _) VCs.nil, b, rfl, hb⟩
    · rename_i e hu
      split at hs
      · rename_i s' hse
        split at hs
        · rename_i hc
          obtain ⟨hcells, hpos⟩ := hc
          cases hs
          rcases DataW.trod_slice hu h with ⟨rfl, _⟩ | ⟨a, len, cap, elems, rest, m, hm, rfl, _, _, hl, hcap, hel, hx, _, _⟩
          · exact ⟨[.rslice []], VCs.cons (.rslice _ s'.n [] none 0 0 0 (fun _ _ => undef) (Nat.le_refl _) (Or.inl rfl) (fun _ h => by grind) (fun _ _ _ _ h => by grind) (fun _ _ _ _ h => by grind)) VCs.nil, [], rfl, Nat.zero_le _, fun _ h => by grind⟩
          · obtain rfl : n = m := by omega
            rw [hcells] at hx
            obtain ⟨rows, h1, h2, h3⟩ := rslice_of (W := W) (a := a) (Q := HasSh s') hpos hl (fun i hi => by
              grind [List.getElem?_eq_getElem, Option.bind_eq_some_iff])
            exact ⟨[.rslice rows], VCs.cons h3 VCs.nil, rows, rfl, by omega, h2⟩
        grind
      grind
    · rename_i fs hu
      split at hs
      · rename_i l hf
        split at hs
        · rename_i hc
          cases hs
          simp only [DataW.trod, hu] at h
          split at h
          · rename_i hl
            obtain ⟨xs, h1, _⟩ := Option.map_eq_some_iff.1 h
            obtain ⟨cl, h2, h3⟩ := trod_fields ih hf h1 (by grind)
            exact ⟨cl, by grind, h3⟩
          grind
        grind
      grind
    · rename_i m e hu
      split at hs
      · rename_i s' hse
        split at hs
        · rename_i hc
          cases hs
          obtain ⟨hce, hct⟩ := hc
          obtain ⟨xs, k, hk, _, hl, hxs, hx⟩ := DataW.trod_array hu h
          obtain rfl : n = k := by omega
          rw [hce] at hx
          obtain ⟨cl, h2, h3⟩ := trod_reps (k := 0) (m := m) ih hse (fun i hi => by
            have := hx i hi
            rw [List.getElem?_eq_getElem (by omega)] at this
            exact ⟨_, by simpa using this⟩) (by grind)
          exact ⟨cl, by grind, h3⟩
        grind
      grind
    grind
def argOf : Sh → List Cl → WV
  | .st _, cs => .a cs
  | _, [x] => .c x
  | _, cs => .a cs
def HasArgs : List Sh → List WV → Prop
  | [], xs => xs = []
  | s :: l, xs => ∃ cl ys, xs = argOf s cl :: ys ∧ HasSh s cl ∧ HasArgs l ys
theorem arg_sh {d : Nat} {t : TypeId} {v : Value} {dt : DataW H} {ps : List MemPlace} {s : Sh} {r : Reach} {base : Nat} (hs : shapeOf P d t = some s) (h : DataW.Trod enc P W 0 spare held t v dt ps) (hok : Value.okWide P W r base t v) :
    ∃ cl, WVR (allCells W) noInj (argOf s cl) v ∧ HasSh s cl := by
  obtain ⟨n, hn⟩ := h
  obtain ⟨cl, h1, h2⟩ := trod_sh hn hs
  refine ⟨cl, ?_, h2⟩
  cases d with
  | zero => grind [shapeOf]
  | succ d =>
    simp only [shapeOf] at hs
    have single : ∀ x, cl = [x] → (∀ a, v ≠ .agg a) → (∀ a, v ≠ .tuple a) → WVR (allCells W) noInj (.c x) v := by
      intro x hx ha ht
      subst hx
      obtain ⟨u, us, h3, h4, h5⟩ := h1.uncons
      have h5 := h5.unnil
      subst h5
      have : v.cells = #[v] := by
        cases v <;> first | rfl | grind | exact absurd rfl (ht _)
      rw [this] at h3
      simp at h3
      subst h3
      exact h4
    split at hs
    · cases hs
      obtain ⟨m, rfl, _⟩ := h2
      exact single _ rfl (fun a ha => by simp_all [Value.okWide, Cell.okWide, Cell.ok]) (fun a ha => by simp_all [Value.okWide, Cell.okWide, Cell.ok])
    · cases hs
      obtain ⟨m, rfl⟩ := h2
      exact single _ rfl (fun a ha => by simp_all [Value.okWide, Cell.okWide, Cell.ok]) (fun a ha => by simp_all [Value.okWide, Cell.okWide, Cell.ok])
    · cases hs
      obtain ⟨m, rfl, _⟩ := h2
      exact single _ rfl (fun a ha => by simp_all [Value.okWide, Cell.okWide, Cell.ok]) (fun a ha => by simp_all [Value.okWide, Cell.okWide, Cell.ok])
    · split at hs
      · split at hs
        · cases hs
          obtain ⟨m, rfl, _⟩ := h2
          exact single _ rfl (fun a ha => by simp_all [Value.okWide, Cell.okWide, Cell.ok]) (fun a ha => by simp_all [Value.okWide, Cell.okWide, Cell.ok])
        grind
      grind
    · rename_i fs hu
      split at hs
      · split at hs
        · cases hs
          simp only [Value.okWide, hu] at hok
          obtain ⟨cs, rfl, _⟩ := hok
          exact ⟨cs, rfl, h1⟩
        grind
      grind
    · rename_i m e hu
      split at hs
      · split at hs
        · cases hs
          simp only [Value.okWide, hu] at hok
          obtain ⟨cs, rfl, _⟩ := hok
          exact ⟨cs, rfl, h1⟩
        grind
      grind
    grind
theorem args_sh {d : Nat} {r : Reach} {base : Nat} : ∀ {ts : List TypeId} {l : List Sh} {vs : List Value} {ds : List (DataW H)} {ps : List MemPlace}, shapesOf P d ts = some l → DataW.TrodAll enc P W 0 spare held ts vs ds ps →
    (∀ (j : Nat) t v, ts[j]? = some t → vs[j]? = some v → Value.okWide P W r base t v) → ∃ xs, WVRs (allCells W) noInj xs vs ∧ HasArgs l xs
  | [], l, [], [], ps, hs, h, hv => by
    simp only [shapesOf, Option.some.injEq] at hs
    subst hs
    exact ⟨[], WVRs.nil, rfl⟩
  | t :: ts, l, v :: vs, d :: ds, ps, hs, h, hv => by
    obtain ⟨p, q, h1, h2, _⟩ := h
    simp only [shapesOf] at hs
    split at hs
    · rename_i s l' h3 h4
      cases hs
      obtain ⟨cl, h5, h6⟩ := arg_sh h3 h1 (hv 0 t v rfl rfl)
      obtain ⟨xs, h7, h8⟩ := args_sh h4 h2 (fun j t v ht hv' => hv (j + 1) t v (by grind) (by grind))
      exact ⟨argOf s cl :: xs, WVRs.cons h5 h7, cl, xs, rfl, h6, h8⟩
    grind
end
end Go.Eng
namespace Go.Eng
open Go Go.ChangeShapes
section
variable [RecP]
theorem law_calls_old {P : Program} {cf : CallF} (hcf : FnS P cf) {f : FuncId} (hf : f < RecP.base) {args : List WV} {vs : Array Value} {w : World} {σ : Stab} {j : Inj} {M M' : Mem} (h : cf f args M = some (.w (.c (.bool true)), M')) (hfull : Mem.full M)
    (hag : Agree σ w) (hm : MR (fun b => w.heap.size ≤ b) σ j M w) (hvs : WVRs σ j args vs.toList) :
    Calls P f vs w fun e w' => e = .returned (.bool true) ∧ Side w w' ∧ ∀ i, i < w.heap.size → w'.heap[i]? = w.heap[i]? := by
  obtain ⟨_, _, _, _, hc⟩ := (hcf f args M _ _ h hfull).1 hf
  refine Calls.mono' (hc (fun b => w.heap.size ≤ b) σ j w vs (fun _ h => h) hag hm hvs) ?_
  rintro e w' ⟨v, σ', j', rfl, hr, _, _, hst⟩
  have hr : VC σ' j' (.bool true) v := hr
  cases hr
  exact ⟨rfl, hst.side, fun i hi => hst.frame i hi (by omega)⟩
end
section
variable {H : Type} {enc : TypeId × Value → H} {P : Program}
theorem sameAt_old {w w' : World} (h : ∀ i, i < w.heap.size → w'.heap[i]? = w.heap[i]?) {p : MemPlace} (hp : p.block < w.heap.size) : w.sameAt w' p := by
  cases p with
  | cell b off =>
    have e := h b hp
    show w'.cell? ⟨b, off, none⟩ = w.cell? ⟨b, off, none⟩
    unfold World.cell?
    rw [e]
  | map b => exact h b hp
theorem trodAll_old {w w' : World} (h : ∀ i, i < w.heap.size → w'.heap[i]? = w.heap[i]?) {base : Nat} {sp : Nat → Bool} {hd : Bool} : ∀ {ts : List TypeId} {vs : List Value} {ds : List (DataW H)} {ps : List MemPlace},
    (∀ p ∈ ps, p.block < w.heap.size) → DataW.TrodAll enc P w base sp hd ts vs ds ps → DataW.TrodAll enc P w' base sp hd ts vs ds ps
  | [], [], [], _, _, h2 => h2
  | _ :: _, _ :: _, _ :: _, _, hl, ⟨p, q, ⟨n, h1⟩, h2, e⟩ => by
    subst e
    exact ⟨p, q, ⟨n, DataW.trod_carry n _ _ _ h1 fun x hx => sameAt_old h (hl x (List.mem_append_left _ hx))⟩, trodAll_old h (fun x hx => hl x (List.mem_append_right _ hx)) h2, rfl⟩
theorem trodAll_len {w : World} {base : Nat} {sp : Nat → Bool} {hd : Bool} : ∀ {ts : List TypeId} {vs : List Value} {ds : List (DataW H)} {ps : List MemPlace}, DataW.TrodAll enc P w base sp hd ts vs ds ps → ds.length = ts.length
  | [], [], [], _, _ => rfl
  | _ :: _, _ :: _, _ :: _, _, ⟨_, _, _, h2, _⟩ => by simp [trodAll_len h2]
  | [], _ :: _, _, _, h | [], [], _ :: _, _, h | _ :: _, [], _, _, h | _ :: _, _ :: _, [], _, h => by simp [DataW.TrodAll] at h
theorem kept_old [RecP] {w w' : World} (hs : Side w w') (hold : ∀ i, i < w.heap.size → w'.heap[i]? = w.heap[i]?) {may : MemPlace → Prop} : w.keptBut w' may := by
  refine ⟨hs.os, hs.output, fun i hi => ?_⟩
  rw [hold i hi]
  cases hx : w.heap[i]? with
  | none => rfl
  | some o => cases o <;> simp
theorem gk_tab [GlobP] {W : World} {g0 : Nat} {k : IntKind} {zs : List Int} (hrow : ∀ (g : Nat) (row : List Cl), GlobP.row g = some row → g = g0 ∧ row = zs.map fun z => Cl.int k z) (hc : ∀ i, i < zs.length → W.cell? ⟨g0, i, none⟩ = some (.int k (zs.getD i 0))) : GK (allCells W) := by
  intro g row hg n c hn
  obtain ⟨rfl, rfl⟩ := hrow g row hg
  have hl : n < zs.length := by simpa using (List.getElem?_eq_some_iff.1 hn).1
  refine ⟨_, hc n hl, ?_⟩
  simp only [List.getElem?_map, List.getElem?_eq_getElem hl, Option.map_some, Option.some.injEq] at hn
  subst hn
  simp only [List.getD, List.getElem?_eq_getElem hl, Option.getD_some]
  exact .int _ _ _
theorem post_old {f : Func} {s : ChangeSpec} {apart fresh handsOn again : Bool} {W W' : World} {args : Array Value} {v : Value} {ds gs : List (DataW H)} {before pa pv : List MemPlace}
    (hW : DataW.Whole enc P f.params.toList s.vars apart W args.toList ds gs before) (hold : ∀ i, i < W.heap.size → W'.heap[i]? = W.heap[i]?) (hk : W.keptBut W' (· ∈ before)) (hps : before = pa ++ pv)
    (hres : ∀ (b : Nat) (sp : Nat → Bool) (hd : Bool), DataW.TrodAll enc P W' b sp hd f.resultTypes.toList (v.resultList f.resultTypes.size) (s.fn H (ds ++ gs)).results [])
    (hargs : ∀ sp : Nat → Bool, (∀ p ∈ before, sp p.block = true) → DataW.TrodAll enc P W' 0 sp true f.params.toList args.toList (s.fn H (ds ++ gs)).args pa)
    (hvars : ∀ sp : Nat → Bool, (∀ p ∈ before, sp p.block = true) → DataW.TrodVars enc P W' sp s.vars (s.fn H (ds ++ gs)).vars pv)
    (hok : ∀ (j : Nat) (t : TypeId) (r : Value), f.resultTypes[j]? = some t → (v.resultList f.resultTypes.size)[j]? = some r → Value.okWide P W' .any 0 t r) :
    s.post enc P f apart fresh handsOn again W args v W' := by
  have hlt : ∀ p ∈ before, p.block < W.heap.size := fun p hp => hW.lt p hp
  have hmem : ∀ p ∈ before, p ∈ [] ∨ p ∈ pa ++ pv := fun p hp => .inr (hps ▸ hp)
  refine ⟨ds, gs, before, [], pa, pv, hW, hres _ _ _, hargs _ fun p hp => decide_eq_true (hlt p hp), hvars _ fun p hp => decide_eq_true (hlt p hp), World.keptBut_mono (fun p hp => ⟨hp, ?_⟩) hk, fun _ => ?_⟩
  · rcases hmem p hp with h | h
    · cases h
    · exact .inr (List.mem_append.1 h)
  · have hW2 := hW
    obtain ⟨_, _, _, _, _, hz, hn⟩ := hW2
    have hall : ∀ p ∈ before, (fun _ : Nat => true) p.block = true := fun _ _ => rfl
    refine ⟨hok, _, _, ([] ++ pa) ++ pv, ⟨[] ++ pa, pv, trodAll_append (hargs _ hall) (hres _ _ _), hvars _ hall, rfl, fun b off hp => ?_, fun ha => ?_⟩, fun p hp _ => ?_⟩
    · have hp' : MemPlace.cell b off ∈ before := by rw [hps]; simpa using hp
      have h1 := hz b off hp'
      have h2 := hold b (hlt _ hp')
      unfold World.frozen? at h1 ⊢
      rw [h2]; exact h1
    · have h1 := hn ha
      rw [hps] at h1
      simpa using h1
    · rw [hps]
      simpa using hp
theorem row_step [GlobP] (hmix : P.follows .mixedOrders = true) {an : Ann} {L : List (Nat × CFn)} {Cs : List (Nat × Nat × Nat × Bool)} (hL : (L.map fun p => compileAny P an true p.1) = L.map fun p => some p.2) (hV : virtOK P L = true)
    (hC : (Cs.all fun c => c.2.1 == 0 || cloneCheck P c.1 c.2.1 (c.2.2.1 % 1048576)) = true) (hS : ∀ c ∈ Cs, c.2.1 = 0 → SortAny P c) {fid : FuncId} (hfid : fid < P.funcs.size) {f : Func} {s : ChangeSpec} {l : List Sh} {d : Nat} {tb : TypeId}
    (hsh : shapesOf P d f.params.toList = some l) (hres : f.resultTypes = #[tb]) (htb : P.underlying tb = some .bool) (hvars : s.vars = [])
    (hfn : ∀ ds : List (DataW H), ds.length = f.params.toList.length → s.fn H ds = { results := [.lit (.bool true)], args := ds })
    (hlaid : laidOutB P = true) (hmaps : mapsRowed P = true) (hts : f.params.toList.all (· < P.types.size) = true)
    (hfull : ((List.range P.types.size).all fun t => match P.underlying t with | some (.slice e) => decide (0 < P.cellsOf e) | _ => true) = true)
    (hrun : ∀ xs, HasArgs l xs → ∃ M', R L Cs fid xs [] = some (.w (.c (.bool true)), M'))
    {W : World} {base : Nat} {args : Array Value} {ds gs : List (DataW H)} {before : List MemPlace}
    (hG : GK (allCells W)) (hval : ∀ (j : Nat) t v, f.params[j]? = some t → args[j]? = some v → Value.okWide P W .any base t v) (hW : DataW.Whole enc P f.params.toList s.vars false W args.toList ds gs before) :
    Calls P fid args W fun e W' => ∃ v, e = .returned v ∧ s.post enc P f false true false false W args v W' := by
  letI := recP P (fun f => L.lookup f) (noKeys Cs)
  have hW' := hW
  obtain ⟨p, q, hA, hV', hb, hfz, hnd⟩ := hW
  rw [hvars] at hV'
  have hg : gs = [] ∧ q = [] := by
    cases gs with
    | nil => exact ⟨rfl, hV'⟩
    | cons g gs => exact absurd hV' (by simp [DataW.TrodVars])
  obtain ⟨rfl, rfl⟩ := hg
  obtain ⟨xs, hx1, hx2⟩ := args_sh hsh hA (fun j t v ht hv => hval j t v (by simpa using ht) (by simpa using hv))
  obtain ⟨M', hr⟩ := hrun xs hx2
  obtain ⟨n, hn⟩ := R_iff.1 hr
  refine (law_calls_old (runE_good hmix hL hV hC hS n) (f := fid) hfid hn (fun id hid => by simp at hid) (allCells_agree (W := W) hG) MR.nil hx1).mono fun e W' ⟨he, hsd, hold⟩ => ?_
  subst he
  have hlen := trodAll_len hA
  have e0 : s.fn H (ds ++ []) = { results := [.lit (.bool true)], args := ds } := by rw [List.append_nil]; exact hfn ds hlen
  have hlt : ∀ p' ∈ p, p'.block < W.heap.size := fun p' hp => hA.lt p' hp
  refine ⟨_, rfl, post_old (pa := p) (pv := []) hW' hold (kept_old hsd hold) hb (fun b sp hd => ?_) (fun sp hsp => ?_) (fun sp _ => ?_) ?_⟩
  · rw [e0, hres]
    exact ⟨[], [], ⟨1, by simp [DataW.trod, htb, Value.cells, Value.resultList]⟩, rfl, rfl⟩
  · rw [e0]
    exact DataW.TrodAll.respare (T := (· < P.types.size)) (kids_rows hlaid hmaps) (slices_full_of P hfull) (fun t ht => by simpa using List.all_eq_true.1 hts t ht) (trodAll_old hold hlt hA) (fun x hx => hsp x (by rw [hb]; exact List.mem_append_left _ hx))
  · rw [hvars, e0]; rfl
  · intro j t r hj hr
    rw [hres] at hj hr
    cases j with
    | zero =>
      simp [Value.resultList] at hj hr
      subst hj
      subst hr
      simp [Value.okWide, Cell.okWide, Cell.ok, htb]
    | succ j => simp at hj
end
theorem map_chunk {α β : Type} {f g : α → β} {l : List α} {n i : Nat} (h1 : ((l.drop i).take n).map f = ((l.drop i).take n).map g) (h2 : (l.drop (i + n)).map f = (l.drop (i + n)).map g) : (l.drop i).map f = (l.drop i).map g := by
  rw [← List.take_append_drop n (l.drop i), List.map_append, List.map_append, h1, List.drop_drop, h2]
theorem map_chunk_nil {α β : Type} {f g : α → β} {l : List α} {i : Nat} (h : l.length ≤ i) : (l.drop i).map f = (l.drop i).map g := by
  rw [List.drop_of_length_le h]; rfl
end Go.Eng
namespace Go.Eng
open Go
abbrev bx (n : Nat) (row : List Cl) : Option Blk := some { box := true, esz := n, rows := [row], gen := 0, fz := false, ver := 0 }
abbrev bxv (v : Nat) (n : Nat) (row : List Cl) : Option Blk := some { box := true, esz := n, rows := [row], gen := 0, fz := false, ver := v }
abbrev Pt (k : Nat) : WV := .c (.ptr k 0 0 0)
section
variable [GlobP] {L : List (Nat × CFn)} {Cs : List (Nat × Nat × Nat × Bool)} {b : CC} {live : Option (List Nat)} {n0 : Nat}
theorem Y_step {b' : CC} (h : b = b') (E : Env) (M : Mem) : Y L Cs b live n0 E M = match X L Cs b' E M with
    | some (.normal, E', M') => Y L Cs b live n0 (canon n0 live E' M').1 (canon n0 live E' M').2
    | r => r := by
  rw [← h]; exact Y_eq b live n0 E M
end
end Go.Eng
