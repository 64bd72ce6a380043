/- The maps that are made of numbers are valid. -/
import Derived.Test.YtfedgghdmiomkaaGreatTrRunC
import Derived.Test.YtfedgghdmiomkaaGreatTrRunB
import Derived.Test.YtfedgghdmiomkaaGreatTrRunA
set_option linter.unusedVariables false
set_option linter.unusedSimpArgs false
set_option linter.unusedSectionVars false
/- The maps that are made of numbers are valid. -/
set_option linter.unusedVariables false
set_option linter.unusedSimpArgs false
set_option maxRecDepth 10000
namespace Go.TrRun
open Go Go.Eng

structure Nums (lim r o1 o2 o3 v w b t : Int) : Prop where
  lim : lim ∈ lims
  r : r = 0 ∨ r = 1
  o1 : 0 ≤ o1 ∧ o1 < 31
  o2 : 0 ≤ o2 ∧ o2 < 31
  o3 : 0 ≤ o3 ∧ o3 < 17
  v : 0 ≤ v ∧ v < 5
  b : 0 ≤ b ∧ b < 40
  t : 0 ≤ t ∧ t < 3
theorem lims_le {lim : Int} (h : lim ∈ lims) : 1 ≤ lim ∧ lim ≤ 2000 := by simp [lims] at h; omega
theorem works_two (w b t : Int) : worksP w b t = [] ∨ worksP w b t = [⟨0, 10000, 15000, b, b + 20, t * 200⟩] := by
  unfold worksP; split
  · exact .inr rfl
  · exact .inl rfl

theorem good0 {lim r o1 o2 o3 v w b t : Int} (h : Nums lim r o1 o2 o3 v w b t) : Good (mapP 0 lim r o1 o2 o3 v w b t) := by
  have hlim := lims_le h.lim
  have hv := h.v
  have hsz : Sized (mapP 0 lim r o1 o2 o3 v w b t) := {
    v1 := hv.1
    v2 := by show v ≤ _; omega
    l1 := by simp [mapP, lanesP]
    l2 := by simp [mapP, lanesP]
    z := by simp [mapP, zonesP]
    s := by simp only [mapP, signalsP]; first | (split <;> simp) | simp
    w := by rcases works_two w b t with e | e <;> simp [mapP, e] }
  have hlen : ∀ l ∈ (mapP 0 lim r o1 o2 o3 v w b t).lanes, R L Cs f_curve_Length [.a [ptsC l]] [] = some (.w (W l.len), []) := fun l hl => by
    have := List.all_eq_true.1 (kc0 lim) l hl
    rw [Bool.and_eq_true] at this
    exact okI_R this.1
  have hrlen : ∀ l ∈ (mapP 0 lim r o1 o2 o3 v w b t).lanes, R L Cs f_kerbstoneref01_Length [.a [ptsC l]] [] = some (.w (W l.len), []) := fun l hl => by
    have := List.all_eq_true.1 (kc0 lim) l hl
    rw [Bool.and_eq_true] at this
    exact okI_R this.2
  have h0 : 0 < (mapP 0 lim r o1 o2 o3 v w b t).lanes.length := hsz.l1
  have hz : R L Cs f_roads_check_zones [.a (mapC (mapP 0 lim r o1 o2 o3 v w b t))] [] = some (.w (W 0), []) ∧ ∀ z ∈ (mapP 0 lim r o1 o2 o3 v w b t).zones, R L Cs f_kerbstoneref03_checkZone [.a (mapC (mapP 0 lim r o1 o2 o3 v w b t)), .a z] [] = some (.w (W 0), []) := by
    have q0 := List.all_eq_true.1 (kz0 v lim ((worksP w b t).map workC))
    rcases h.r with hr | hr
    · subst hr
      have q := q0 0 (by simp)
      rw [Bool.and_eq_true] at q
      exact ⟨okI_R q.1, fun z hz => okI_R (List.all_eq_true.1 q.2 z hz)⟩
    · subst hr
      have q := q0 1 (by simp)
      rw [Bool.and_eq_true] at q
      exact ⟨okI_R q.1, fun z hz => okI_R (List.all_eq_true.1 q.2 z hz)⟩
  have hs : R L Cs f_roads_check_signals [.a (mapC (mapP 0 lim r o1 o2 o3 v w b t))] [] = some (.w (W 0), []) := R_signals (by simp [mapP, signalsP]) (fun s hs => by simp [mapP, signalsP] at hs)
  have hrs : ∀ s ∈ (mapP 0 lim r o1 o2 o3 v w b t).signals, R L Cs f_kerbstoneref03_checkSignal [.a (mapC (mapP 0 lim r o1 o2 o3 v w b t)), .a s] [] = some (.w (W 0), []) := fun s hs => by simp [mapP, signalsP] at hs
  have hsp : ∀ s ∈ (mapP 0 lim r o1 o2 o3 v w b t).signals, ∃ o ps, s = [I o, .rslice ps] := fun s hs => by simp [mapP, signalsP] at hs
  have hzp : ∀ s ∈ (mapP 0 lim r o1 o2 o3 v w b t).zones, ∃ ps o, s = [.rslice ps, I o] := fun s hs => by
    simp [mapP, zonesP] at hs
    try (first | (rcases hs with hs | hs <;> (subst hs; exact ⟨_, _, rfl⟩)) | (subst hs; exact ⟨_, _, rfl⟩))
  exact {
    small := ⟨by simp [mapP, lanesP], by simp [mapP, lanesP, roadL], by simp [mapP, lanesP, roadL]⟩
    chk := R_Check_of (R_numbers hsz) (okI_R (List.all_eq_true.1 (kl0 v (zonesP 0 r) (signalsP 0 r o1 o2 o3) ((worksP w b t).map workC)) lim h.lim)) (okI_R (kj0 v lim (zonesP 0 r) (signalsP 0 r o1 o2 o3) ((worksP w b t).map workC))) hs hz.1
      (R_works h0 (hlen _ (List.getElem_mem h0)) rfl (by simp [mapP, lanesP, roadL]) (by simp [mapP, lanesP, roadL]) b t h.b h.t (works_two w b t))
    rchk := R_refCheck_of hsz (fun i hi => okI_R (List.all_eq_true.1 (List.all_eq_true.1 (rl0 v (zonesP 0 r) (signalsP 0 r o1 o2 o3) ((worksP w b t).map workC)) lim h.lim) i (List.mem_range.2 hi))) (okI_R (rj0 v lim (zonesP 0 r) (signalsP 0 r o1 o2 o3) ((worksP w b t).map workC))) hsp hzp hrs hz.2
      (fun x hx => by
        rcases works_two w b t with e | e
        · simp [mapP, e] at hx
        · simp [mapP, e] at hx
          subst hx
          exact R_refworks h0 (hrlen _ (List.getElem_mem h0)) rfl (by simp [mapP, lanesP, roadL]) b t h.b h.t)
    len := hlen
    rlen := hrlen
    len1 := by simp [mapP, lanesP, roadL]
    kind := by simp [mapP, lanesP, roadL]
    limit := by simp [mapP, lanesP, roadL]; try omega }

theorem good1 {lim r o1 o2 o3 v w b t : Int} (h : Nums lim r o1 o2 o3 v w b t) : Good (mapP 1 lim r o1 o2 o3 v w b t) := by
  have hlim := lims_le h.lim
  have hv := h.v
  have hsz : Sized (mapP 1 lim r o1 o2 o3 v w b t) := {
    v1 := hv.1
    v2 := by show v ≤ _; omega
    l1 := by simp [mapP, lanesP]
    l2 := by simp [mapP, lanesP]
    z := by simp [mapP, zonesP]
    s := by simp only [mapP, signalsP]; first | (split <;> simp) | simp
    w := by rcases works_two w b t with e | e <;> simp [mapP, e] }
  have hlen : ∀ l ∈ (mapP 1 lim r o1 o2 o3 v w b t).lanes, R L Cs f_curve_Length [.a [ptsC l]] [] = some (.w (W l.len), []) := fun l hl => by
    have := List.all_eq_true.1 (kc1 lim) l hl
    rw [Bool.and_eq_true] at this
    exact okI_R this.1
  have hrlen : ∀ l ∈ (mapP 1 lim r o1 o2 o3 v w b t).lanes, R L Cs f_kerbstoneref01_Length [.a [ptsC l]] [] = some (.w (W l.len), []) := fun l hl => by
    have := List.all_eq_true.1 (kc1 lim) l hl
    rw [Bool.and_eq_true] at this
    exact okI_R this.2
  have h0 : 0 < (mapP 1 lim r o1 o2 o3 v w b t).lanes.length := hsz.l1
  have hz : R L Cs f_roads_check_zones [.a (mapC (mapP 1 lim r o1 o2 o3 v w b t))] [] = some (.w (W 0), []) ∧ ∀ z ∈ (mapP 1 lim r o1 o2 o3 v w b t).zones, R L Cs f_kerbstoneref03_checkZone [.a (mapC (mapP 1 lim r o1 o2 o3 v w b t)), .a z] [] = some (.w (W 0), []) := by
    have q0 := List.all_eq_true.1 (kz1 v lim ((worksP w b t).map workC))
    rcases h.r with hr | hr
    · subst hr
      have q := q0 0 (by simp)
      rw [Bool.and_eq_true] at q
      exact ⟨okI_R q.1, fun z hz => okI_R (List.all_eq_true.1 q.2 z hz)⟩
    · subst hr
      have q := q0 1 (by simp)
      rw [Bool.and_eq_true] at q
      exact ⟨okI_R q.1, fun z hz => okI_R (List.all_eq_true.1 q.2 z hz)⟩
  have hs : R L Cs f_roads_check_signals [.a (mapC (mapP 1 lim r o1 o2 o3 v w b t))] [] = some (.w (W 0), []) := R_signals (by simp [mapP, signalsP]) (fun s hs => by simp [mapP, signalsP] at hs)
  have hrs : ∀ s ∈ (mapP 1 lim r o1 o2 o3 v w b t).signals, R L Cs f_kerbstoneref03_checkSignal [.a (mapC (mapP 1 lim r o1 o2 o3 v w b t)), .a s] [] = some (.w (W 0), []) := fun s hs => by simp [mapP, signalsP] at hs
  have hsp : ∀ s ∈ (mapP 1 lim r o1 o2 o3 v w b t).signals, ∃ o ps, s = [I o, .rslice ps] := fun s hs => by simp [mapP, signalsP] at hs
  have hzp : ∀ s ∈ (mapP 1 lim r o1 o2 o3 v w b t).zones, ∃ ps o, s = [.rslice ps, I o] := fun s hs => by
    simp [mapP, zonesP] at hs
    try (first | (rcases hs with hs | hs <;> (subst hs; exact ⟨_, _, rfl⟩)) | (subst hs; exact ⟨_, _, rfl⟩))
  exact {
    small := ⟨by simp [mapP, lanesP], by simp [mapP, lanesP, roadL], by simp [mapP, lanesP, roadL]⟩
    chk := R_Check_of (R_numbers hsz) (okI_R (List.all_eq_true.1 (kl1 v (zonesP 1 r) (signalsP 1 r o1 o2 o3) ((worksP w b t).map workC)) lim h.lim)) (okI_R (kj1 v lim (zonesP 1 r) (signalsP 1 r o1 o2 o3) ((worksP w b t).map workC))) hs hz.1
      (R_works h0 (hlen _ (List.getElem_mem h0)) rfl (by simp [mapP, lanesP, roadL]) (by simp [mapP, lanesP, roadL]) b t h.b h.t (works_two w b t))
    rchk := R_refCheck_of hsz (fun i hi => okI_R (List.all_eq_true.1 (List.all_eq_true.1 (rl1 v (zonesP 1 r) (signalsP 1 r o1 o2 o3) ((worksP w b t).map workC)) lim h.lim) i (List.mem_range.2 hi))) (okI_R (rj1 v lim (zonesP 1 r) (signalsP 1 r o1 o2 o3) ((worksP w b t).map workC))) hsp hzp hrs hz.2
      (fun x hx => by
        rcases works_two w b t with e | e
        · simp [mapP, e] at hx
        · simp [mapP, e] at hx
          subst hx
          exact R_refworks h0 (hrlen _ (List.getElem_mem h0)) rfl (by simp [mapP, lanesP, roadL]) b t h.b h.t)
    len := hlen
    rlen := hrlen
    len1 := by simp [mapP, lanesP, roadL]
    kind := by simp [mapP, lanesP, roadL]
    limit := by simp [mapP, lanesP, roadL]; try omega }

theorem good2 {lim r o1 o2 o3 v w b t : Int} (h : Nums lim r o1 o2 o3 v w b t) : Good (mapP 2 lim r o1 o2 o3 v w b t) := by
  have hlim := lims_le h.lim
  have hv := h.v
  have hsz : Sized (mapP 2 lim r o1 o2 o3 v w b t) := {
    v1 := hv.1
    v2 := by show v ≤ _; omega
    l1 := by simp [mapP, lanesP]
    l2 := by simp [mapP, lanesP]
    z := by simp [mapP, zonesP]
    s := by simp only [mapP, signalsP]; first | (split <;> simp) | simp
    w := by rcases works_two w b t with e | e <;> simp [mapP, e] }
  have hlen : ∀ l ∈ (mapP 2 lim r o1 o2 o3 v w b t).lanes, R L Cs f_curve_Length [.a [ptsC l]] [] = some (.w (W l.len), []) := fun l hl => by
    have := List.all_eq_true.1 (kc2 lim) l hl
    rw [Bool.and_eq_true] at this
    exact okI_R this.1
  have hrlen : ∀ l ∈ (mapP 2 lim r o1 o2 o3 v w b t).lanes, R L Cs f_kerbstoneref01_Length [.a [ptsC l]] [] = some (.w (W l.len), []) := fun l hl => by
    have := List.all_eq_true.1 (kc2 lim) l hl
    rw [Bool.and_eq_true] at this
    exact okI_R this.2
  have h0 : 0 < (mapP 2 lim r o1 o2 o3 v w b t).lanes.length := hsz.l1
  have hz : R L Cs f_roads_check_zones [.a (mapC (mapP 2 lim r o1 o2 o3 v w b t))] [] = some (.w (W 0), []) ∧ ∀ z ∈ (mapP 2 lim r o1 o2 o3 v w b t).zones, R L Cs f_kerbstoneref03_checkZone [.a (mapC (mapP 2 lim r o1 o2 o3 v w b t)), .a z] [] = some (.w (W 0), []) := by
    have q0 := List.all_eq_true.1 (kz2 v lim (signalC o1 0 1) ((worksP w b t).map workC))
    rcases h.r with hr | hr
    · subst hr
      have q := q0 0 (by simp)
      rw [Bool.and_eq_true] at q
      exact ⟨okI_R q.1, fun z hz => okI_R (List.all_eq_true.1 q.2 z hz)⟩
    · subst hr
      have q := q0 1 (by simp)
      rw [Bool.and_eq_true] at q
      exact ⟨okI_R q.1, fun z hz => okI_R (List.all_eq_true.1 q.2 z hz)⟩
  have hs : R L Cs f_roads_check_signals [.a (mapC (mapP 2 lim r o1 o2 o3 v w b t))] [] = some (.w (W 0), []) := R_signals (by simp [mapP, signalsP]) (fun s hs => by
    simp [mapP, signalsP] at hs
    subst hs
    exact ⟨o1, 0, 1, rfl, h.o1.1, by have := h.o1.2; omega, R_iff.2 ⟨400, cf1.1⟩, R_iff.2 ⟨400, cf2a v lim _ _ _⟩⟩)
  have hrs : ∀ s ∈ (mapP 2 lim r o1 o2 o3 v w b t).signals, R L Cs f_kerbstoneref03_checkSignal [.a (mapC (mapP 2 lim r o1 o2 o3 v w b t)), .a s] [] = some (.w (W 0), []) := fun s hs => by
    simp [mapP, signalsP] at hs
    subst hs
    obtain ⟨n, hn⟩ := Int.eq_ofNat_of_zero_le h.o1.1
    subst hn
    exact okI_R (List.all_eq_true.1 (rs2 v lim _ _ _) n (List.mem_range.2 (by have := h.o1.2; omega)))
  have hsp : ∀ s ∈ (mapP 2 lim r o1 o2 o3 v w b t).signals, ∃ o ps, s = [I o, .rslice ps] := fun s hs => by
    simp [mapP, signalsP] at hs
    subst hs
    exact ⟨_, _, rfl⟩
  have hzp : ∀ s ∈ (mapP 2 lim r o1 o2 o3 v w b t).zones, ∃ ps o, s = [.rslice ps, I o] := fun s hs => by
    simp [mapP, zonesP] at hs
    try (first | (rcases hs with hs | hs <;> (subst hs; exact ⟨_, _, rfl⟩)) | (subst hs; exact ⟨_, _, rfl⟩))
  exact {
    small := ⟨by simp [mapP, lanesP], by simp [mapP, lanesP, roadL], by simp [mapP, lanesP, roadL]⟩
    chk := R_Check_of (R_numbers hsz) (okI_R (List.all_eq_true.1 (kl2 v (zonesP 2 r) (signalsP 2 r o1 o2 o3) ((worksP w b t).map workC)) lim h.lim)) (okI_R (kj2 v lim (zonesP 2 r) (signalsP 2 r o1 o2 o3) ((worksP w b t).map workC))) hs hz.1
      (R_works h0 (hlen _ (List.getElem_mem h0)) rfl (by simp [mapP, lanesP, roadL]) (by simp [mapP, lanesP, roadL]) b t h.b h.t (works_two w b t))
    rchk := R_refCheck_of hsz (fun i hi => okI_R (List.all_eq_true.1 (List.all_eq_true.1 (rl2 v (zonesP 2 r) (signalsP 2 r o1 o2 o3) ((worksP w b t).map workC)) lim h.lim) i (List.mem_range.2 hi))) (okI_R (rj2 v lim (zonesP 2 r) (signalsP 2 r o1 o2 o3) ((worksP w b t).map workC))) hsp hzp hrs hz.2
      (fun x hx => by
        rcases works_two w b t with e | e
        · simp [mapP, e] at hx
        · simp [mapP, e] at hx
          subst hx
          exact R_refworks h0 (hrlen _ (List.getElem_mem h0)) rfl (by simp [mapP, lanesP, roadL]) b t h.b h.t)
    len := hlen
    rlen := hrlen
    len1 := by simp [mapP, lanesP, roadL]
    kind := by simp [mapP, lanesP, roadL]
    limit := by simp [mapP, lanesP, roadL]; try omega }

theorem good3 {lim r o1 o2 o3 v w b t : Int} (h : Nums lim r o1 o2 o3 v w b t) : Good (mapP 3 lim r o1 o2 o3 v w b t) := by
  have hlim := lims_le h.lim
  have hv := h.v
  have hsz : Sized (mapP 3 lim r o1 o2 o3 v w b t) := {
    v1 := hv.1
    v2 := by show v ≤ _; omega
    l1 := by simp [mapP, lanesP]
    l2 := by simp [mapP, lanesP]
    z := by simp [mapP, zonesP]
    s := by simp only [mapP, signalsP]; first | (split <;> simp) | simp
    w := by rcases works_two w b t with e | e <;> simp [mapP, e] }
  have hlen : ∀ l ∈ (mapP 3 lim r o1 o2 o3 v w b t).lanes, R L Cs f_curve_Length [.a [ptsC l]] [] = some (.w (W l.len), []) := fun l hl => by
    have := List.all_eq_true.1 (kc3 lim) l hl
    rw [Bool.and_eq_true] at this
    exact okI_R this.1
  have hrlen : ∀ l ∈ (mapP 3 lim r o1 o2 o3 v w b t).lanes, R L Cs f_kerbstoneref01_Length [.a [ptsC l]] [] = some (.w (W l.len), []) := fun l hl => by
    have := List.all_eq_true.1 (kc3 lim) l hl
    rw [Bool.and_eq_true] at this
    exact okI_R this.2
  have h0 : 0 < (mapP 3 lim r o1 o2 o3 v w b t).lanes.length := hsz.l1
  have hz : R L Cs f_roads_check_zones [.a (mapC (mapP 3 lim r o1 o2 o3 v w b t))] [] = some (.w (W 0), []) ∧ ∀ z ∈ (mapP 3 lim r o1 o2 o3 v w b t).zones, R L Cs f_kerbstoneref03_checkZone [.a (mapC (mapP 3 lim r o1 o2 o3 v w b t)), .a z] [] = some (.w (W 0), []) := by
    have q0 := List.all_eq_true.1 (kz3 v lim ((worksP w b t).map workC))
    rcases h.r with hr | hr
    · subst hr
      have q := q0 0 (by simp)
      rw [Bool.and_eq_true] at q
      exact ⟨okI_R q.1, fun z hz => okI_R (List.all_eq_true.1 q.2 z hz)⟩
    · subst hr
      have q := q0 1 (by simp)
      rw [Bool.and_eq_true] at q
      exact ⟨okI_R q.1, fun z hz => okI_R (List.all_eq_true.1 q.2 z hz)⟩
  have hs : R L Cs f_roads_check_signals [.a (mapC (mapP 3 lim r o1 o2 o3 v w b t))] [] = some (.w (W 0), []) := R_signals (by simp [mapP, signalsP]) (fun s hs => by simp [mapP, signalsP] at hs)
  have hrs : ∀ s ∈ (mapP 3 lim r o1 o2 o3 v w b t).signals, R L Cs f_kerbstoneref03_checkSignal [.a (mapC (mapP 3 lim r o1 o2 o3 v w b t)), .a s] [] = some (.w (W 0), []) := fun s hs => by simp [mapP, signalsP] at hs
  have hsp : ∀ s ∈ (mapP 3 lim r o1 o2 o3 v w b t).signals, ∃ o ps, s = [I o, .rslice ps] := fun s hs => by simp [mapP, signalsP] at hs
  have hzp : ∀ s ∈ (mapP 3 lim r o1 o2 o3 v w b t).zones, ∃ ps o, s = [.rslice ps, I o] := fun s hs => by
    simp [mapP, zonesP] at hs
    try (first | (rcases hs with hs | hs <;> (subst hs; exact ⟨_, _, rfl⟩)) | (subst hs; exact ⟨_, _, rfl⟩))
  exact {
    small := ⟨by simp [mapP, lanesP], by simp [mapP, lanesP, roadL], by simp [mapP, lanesP, roadL]⟩
    chk := R_Check_of (R_numbers hsz) (okI_R (List.all_eq_true.1 (kl3 v (zonesP 3 r) (signalsP 3 r o1 o2 o3) ((worksP w b t).map workC)) lim h.lim)) (okI_R (kj3 v lim (zonesP 3 r) (signalsP 3 r o1 o2 o3) ((worksP w b t).map workC))) hs hz.1
      (R_works h0 (hlen _ (List.getElem_mem h0)) rfl (by simp [mapP, lanesP, roadL]) (by simp [mapP, lanesP, roadL]) b t h.b h.t (works_two w b t))
    rchk := R_refCheck_of hsz (fun i hi => okI_R (List.all_eq_true.1 (List.all_eq_true.1 (rl3 v (zonesP 3 r) (signalsP 3 r o1 o2 o3) ((worksP w b t).map workC)) lim h.lim) i (List.mem_range.2 hi))) (okI_R (rj3 v lim (zonesP 3 r) (signalsP 3 r o1 o2 o3) ((worksP w b t).map workC))) hsp hzp hrs hz.2
      (fun x hx => by
        rcases works_two w b t with e | e
        · simp [mapP, e] at hx
        · simp [mapP, e] at hx
          subst hx
          exact R_refworks h0 (hrlen _ (List.getElem_mem h0)) rfl (by simp [mapP, lanesP, roadL]) b t h.b h.t)
    len := hlen
    rlen := hrlen
    len1 := by simp [mapP, lanesP, roadL]
    kind := by simp [mapP, lanesP, roadL]
    limit := by simp [mapP, lanesP, roadL]; try omega }

theorem good4 {lim r o1 o2 o3 v w b t : Int} (h : Nums lim r o1 o2 o3 v w b t) : Good (mapP 4 lim r o1 o2 o3 v w b t) := by
  have hlim := lims_le h.lim
  have hv := h.v
  have hsz : Sized (mapP 4 lim r o1 o2 o3 v w b t) := {
    v1 := hv.1
    v2 := by show v ≤ _; omega
    l1 := by simp [mapP, lanesP]
    l2 := by simp [mapP, lanesP]
    z := by simp [mapP, zonesP]
    s := by simp only [mapP, signalsP]; first | (split <;> simp) | simp
    w := by rcases works_two w b t with e | e <;> simp [mapP, e] }
  have hlen : ∀ l ∈ (mapP 4 lim r o1 o2 o3 v w b t).lanes, R L Cs f_curve_Length [.a [ptsC l]] [] = some (.w (W l.len), []) := fun l hl => by
    have := List.all_eq_true.1 (kc4 lim) l hl
    rw [Bool.and_eq_true] at this
    exact okI_R this.1
  have hrlen : ∀ l ∈ (mapP 4 lim r o1 o2 o3 v w b t).lanes, R L Cs f_kerbstoneref01_Length [.a [ptsC l]] [] = some (.w (W l.len), []) := fun l hl => by
    have := List.all_eq_true.1 (kc4 lim) l hl
    rw [Bool.and_eq_true] at this
    exact okI_R this.2
  have h0 : 0 < (mapP 4 lim r o1 o2 o3 v w b t).lanes.length := hsz.l1
  have hz : R L Cs f_roads_check_zones [.a (mapC (mapP 4 lim r o1 o2 o3 v w b t))] [] = some (.w (W 0), []) ∧ ∀ z ∈ (mapP 4 lim r o1 o2 o3 v w b t).zones, R L Cs f_kerbstoneref03_checkZone [.a (mapC (mapP 4 lim r o1 o2 o3 v w b t)), .a z] [] = some (.w (W 0), []) := by
    have q0 := List.all_eq_true.1 (kz4 v lim ((worksP w b t).map workC))
    rcases h.r with hr | hr
    · subst hr
      have q := q0 0 (by simp)
      rw [Bool.and_eq_true] at q
      exact ⟨okI_R q.1, fun z hz => okI_R (List.all_eq_true.1 q.2 z hz)⟩
    · subst hr
      have q := q0 1 (by simp)
      rw [Bool.and_eq_true] at q
      exact ⟨okI_R q.1, fun z hz => okI_R (List.all_eq_true.1 q.2 z hz)⟩
  have hs : R L Cs f_roads_check_signals [.a (mapC (mapP 4 lim r o1 o2 o3 v w b t))] [] = some (.w (W 0), []) := R_signals (by simp [mapP, signalsP]) (fun s hs => by simp [mapP, signalsP] at hs)
  have hrs : ∀ s ∈ (mapP 4 lim r o1 o2 o3 v w b t).signals, R L Cs f_kerbstoneref03_checkSignal [.a (mapC (mapP 4 lim r o1 o2 o3 v w b t)), .a s] [] = some (.w (W 0), []) := fun s hs => by simp [mapP, signalsP] at hs
  have hsp : ∀ s ∈ (mapP 4 lim r o1 o2 o3 v w b t).signals, ∃ o ps, s = [I o, .rslice ps] := fun s hs => by simp [mapP, signalsP] at hs
  have hzp : ∀ s ∈ (mapP 4 lim r o1 o2 o3 v w b t).zones, ∃ ps o, s = [.rslice ps, I o] := fun s hs => by
    simp [mapP, zonesP] at hs
    try (first | (rcases hs with hs | hs <;> (subst hs; exact ⟨_, _, rfl⟩)) | (subst hs; exact ⟨_, _, rfl⟩))
  exact {
    small := ⟨by simp [mapP, lanesP], by simp [mapP, lanesP, roadL], by simp [mapP, lanesP, roadL]⟩
    chk := R_Check_of (R_numbers hsz) (okI_R (List.all_eq_true.1 (kl4 v (zonesP 4 r) (signalsP 4 r o1 o2 o3) ((worksP w b t).map workC)) lim h.lim)) (okI_R (kj4 v lim (zonesP 4 r) (signalsP 4 r o1 o2 o3) ((worksP w b t).map workC))) hs hz.1
      (R_works h0 (hlen _ (List.getElem_mem h0)) rfl (by simp [mapP, lanesP, roadL]) (by simp [mapP, lanesP, roadL]) b t h.b h.t (works_two w b t))
    rchk := R_refCheck_of hsz (fun i hi => okI_R (List.all_eq_true.1 (List.all_eq_true.1 (rl4 v (zonesP 4 r) (signalsP 4 r o1 o2 o3) ((worksP w b t).map workC)) lim h.lim) i (List.mem_range.2 hi))) (okI_R (rj4 v lim (zonesP 4 r) (signalsP 4 r o1 o2 o3) ((worksP w b t).map workC))) hsp hzp hrs hz.2
      (fun x hx => by
        rcases works_two w b t with e | e
        · simp [mapP, e] at hx
        · simp [mapP, e] at hx
          subst hx
          exact R_refworks h0 (hrlen _ (List.getElem_mem h0)) rfl (by simp [mapP, lanesP, roadL]) b t h.b h.t)
    len := hlen
    rlen := hrlen
    len1 := by simp [mapP, lanesP, roadL]
    kind := by simp [mapP, lanesP, roadL]
    limit := by simp [mapP, lanesP, roadL]; try omega }

theorem good5 {lim r o1 o2 o3 v w b t : Int} (h : Nums lim r o1 o2 o3 v w b t) : Good (mapP 5 lim r o1 o2 o3 v w b t) := by
  have hlim := lims_le h.lim
  have hv := h.v
  have hsz : Sized (mapP 5 lim r o1 o2 o3 v w b t) := {
    v1 := hv.1
    v2 := by show v ≤ _; omega
    l1 := by simp [mapP, lanesP]
    l2 := by simp [mapP, lanesP]
    z := by simp [mapP, zonesP]
    s := by simp only [mapP, signalsP]; first | (split <;> simp) | simp
    w := by rcases works_two w b t with e | e <;> simp [mapP, e] }
  have hlen : ∀ l ∈ (mapP 5 lim r o1 o2 o3 v w b t).lanes, R L Cs f_curve_Length [.a [ptsC l]] [] = some (.w (W l.len), []) := fun l hl => by
    have := List.all_eq_true.1 (kc5 lim) l hl
    rw [Bool.and_eq_true] at this
    exact okI_R this.1
  have hrlen : ∀ l ∈ (mapP 5 lim r o1 o2 o3 v w b t).lanes, R L Cs f_kerbstoneref01_Length [.a [ptsC l]] [] = some (.w (W l.len), []) := fun l hl => by
    have := List.all_eq_true.1 (kc5 lim) l hl
    rw [Bool.and_eq_true] at this
    exact okI_R this.2
  have h0 : 0 < (mapP 5 lim r o1 o2 o3 v w b t).lanes.length := hsz.l1
  have hz : R L Cs f_roads_check_zones [.a (mapC (mapP 5 lim r o1 o2 o3 v w b t))] [] = some (.w (W 0), []) ∧ ∀ z ∈ (mapP 5 lim r o1 o2 o3 v w b t).zones, R L Cs f_kerbstoneref03_checkZone [.a (mapC (mapP 5 lim r o1 o2 o3 v w b t)), .a z] [] = some (.w (W 0), []) := by
    have q0 := List.all_eq_true.1 (kz5 v lim ((worksP w b t).map workC))
    rcases h.r with hr | hr
    · subst hr
      have q := q0 0 (by simp)
      rw [Bool.and_eq_true] at q
      exact ⟨okI_R q.1, fun z hz => okI_R (List.all_eq_true.1 q.2 z hz)⟩
    · subst hr
      have q := q0 1 (by simp)
      rw [Bool.and_eq_true] at q
      exact ⟨okI_R q.1, fun z hz => okI_R (List.all_eq_true.1 q.2 z hz)⟩
  have hs : R L Cs f_roads_check_signals [.a (mapC (mapP 5 lim r o1 o2 o3 v w b t))] [] = some (.w (W 0), []) := R_signals (by simp [mapP, signalsP]) (fun s hs => by simp [mapP, signalsP] at hs)
  have hrs : ∀ s ∈ (mapP 5 lim r o1 o2 o3 v w b t).signals, R L Cs f_kerbstoneref03_checkSignal [.a (mapC (mapP 5 lim r o1 o2 o3 v w b t)), .a s] [] = some (.w (W 0), []) := fun s hs => by simp [mapP, signalsP] at hs
  have hsp : ∀ s ∈ (mapP 5 lim r o1 o2 o3 v w b t).signals, ∃ o ps, s = [I o, .rslice ps] := fun s hs => by simp [mapP, signalsP] at hs
  have hzp : ∀ s ∈ (mapP 5 lim r o1 o2 o3 v w b t).zones, ∃ ps o, s = [.rslice ps, I o] := fun s hs => by
    simp [mapP, zonesP] at hs
    try (first | (rcases hs with hs | hs <;> (subst hs; exact ⟨_, _, rfl⟩)) | (subst hs; exact ⟨_, _, rfl⟩))
  exact {
    small := ⟨by simp [mapP, lanesP], by simp [mapP, lanesP, roadL], by simp [mapP, lanesP, roadL]⟩
    chk := R_Check_of (R_numbers hsz) (okI_R (List.all_eq_true.1 (kl5 v (zonesP 5 r) (signalsP 5 r o1 o2 o3) ((worksP w b t).map workC)) lim h.lim)) (okI_R (kj5 v lim (zonesP 5 r) (signalsP 5 r o1 o2 o3) ((worksP w b t).map workC))) hs hz.1
      (R_works h0 (hlen _ (List.getElem_mem h0)) rfl (by simp [mapP, lanesP, roadL]) (by simp [mapP, lanesP, roadL]) b t h.b h.t (works_two w b t))
    rchk := R_refCheck_of hsz (fun i hi => okI_R (List.all_eq_true.1 (List.all_eq_true.1 (rl5 v (zonesP 5 r) (signalsP 5 r o1 o2 o3) ((worksP w b t).map workC)) lim h.lim) i (List.mem_range.2 hi))) (okI_R (rj5 v lim (zonesP 5 r) (signalsP 5 r o1 o2 o3) ((worksP w b t).map workC))) hsp hzp hrs hz.2
      (fun x hx => by
        rcases works_two w b t with e | e
        · simp [mapP, e] at hx
        · simp [mapP, e] at hx
          subst hx
          exact R_refworks h0 (hrlen _ (List.getElem_mem h0)) rfl (by simp [mapP, lanesP, roadL]) b t h.b h.t)
    len := hlen
    rlen := hrlen
    len1 := by simp [mapP, lanesP, roadL]
    kind := by simp [mapP, lanesP, roadL]
    limit := by simp [mapP, lanesP, roadL]; try omega }

theorem good6 {lim r o1 o2 o3 v w b t : Int} (h : Nums lim r o1 o2 o3 v w b t) : Good (mapP 6 lim r o1 o2 o3 v w b t) := by
  have hlim := lims_le h.lim
  have hv := h.v
  have hsz : Sized (mapP 6 lim r o1 o2 o3 v w b t) := {
    v1 := hv.1
    v2 := by show v ≤ _; omega
    l1 := by simp [mapP, lanesP]
    l2 := by simp [mapP, lanesP]
    z := by simp [mapP, zonesP]
    s := by simp only [mapP, signalsP]; first | (split <;> simp) | simp
    w := by rcases works_two w b t with e | e <;> simp [mapP, e] }
  have hlen : ∀ l ∈ (mapP 6 lim r o1 o2 o3 v w b t).lanes, R L Cs f_curve_Length [.a [ptsC l]] [] = some (.w (W l.len), []) := fun l hl => by
    have := List.all_eq_true.1 (kc6 lim) l hl
    rw [Bool.and_eq_true] at this
    exact okI_R this.1
  have hrlen : ∀ l ∈ (mapP 6 lim r o1 o2 o3 v w b t).lanes, R L Cs f_kerbstoneref01_Length [.a [ptsC l]] [] = some (.w (W l.len), []) := fun l hl => by
    have := List.all_eq_true.1 (kc6 lim) l hl
    rw [Bool.and_eq_true] at this
    exact okI_R this.2
  have h0 : 0 < (mapP 6 lim r o1 o2 o3 v w b t).lanes.length := hsz.l1
  have hz : R L Cs f_roads_check_zones [.a (mapC (mapP 6 lim r o1 o2 o3 v w b t))] [] = some (.w (W 0), []) ∧ ∀ z ∈ (mapP 6 lim r o1 o2 o3 v w b t).zones, R L Cs f_kerbstoneref03_checkZone [.a (mapC (mapP 6 lim r o1 o2 o3 v w b t)), .a z] [] = some (.w (W 0), []) := by
    rcases h.r with hr | hr
    · subst hr
      have q := kz6 v lim ((worksP w b t).map workC)
      rw [Bool.and_eq_true] at q
      exact ⟨okI_R q.1, fun z hz => okI_R (List.all_eq_true.1 q.2 z hz)⟩
    · subst hr
      have q := kz6b v lim (signalC o2 1 3) (signalC o3 2 3) ((worksP w b t).map workC)
      rw [Bool.and_eq_true] at q
      exact ⟨okI_R q.1, fun z hz => okI_R (List.all_eq_true.1 q.2 z hz)⟩
  have hs : R L Cs f_roads_check_signals [.a (mapC (mapP 6 lim r o1 o2 o3 v w b t))] [] = some (.w (W 0), []) := R_signals (by have := hsz.s; omega) (fun s hs => by
    rcases h.r with hr | hr
    · subst hr; simp [mapP, signalsP] at hs
    · subst hr
      simp [mapP, signalsP] at hs
      rcases hs with hs | hs
      · subst hs
        exact ⟨o2, 1, 3, rfl, h.o2.1, by have := h.o2.2; omega, R_iff.2 ⟨400, cf1.2.1⟩, R_iff.2 ⟨400, cf2b v lim _ _ _⟩⟩
      · subst hs
        exact ⟨o3, 2, 3, rfl, h.o3.1, by have := h.o3.2; omega, R_iff.2 ⟨400, cf1.2.2⟩, R_iff.2 ⟨400, cf2c v lim _ _ _⟩⟩)
  have hrs : ∀ s ∈ (mapP 6 lim r o1 o2 o3 v w b t).signals, R L Cs f_kerbstoneref03_checkSignal [.a (mapC (mapP 6 lim r o1 o2 o3 v w b t)), .a s] [] = some (.w (W 0), []) := fun s hs => by
    rcases h.r with hr | hr
    · subst hr; simp [mapP, signalsP] at hs
    · subst hr
      simp [mapP, signalsP] at hs
      rcases hs with hs | hs
      · subst hs
        obtain ⟨n, hn⟩ := Int.eq_ofNat_of_zero_le h.o2.1
        subst hn
        have q := List.all_eq_true.1 (rs6 v lim (zonesP 6 1) (signalsP 6 1 o1 n o3) ((worksP w b t).map workC)) n (List.mem_range.2 (by have := h.o2.2; omega))
        rw [Bool.and_eq_true] at q
        exact okI_R q.1
      · subst hs
        obtain ⟨n, hn⟩ := Int.eq_ofNat_of_zero_le h.o3.1
        subst hn
        have q := List.all_eq_true.1 (rs6 v lim (zonesP 6 1) (signalsP 6 1 o1 o2 n) ((worksP w b t).map workC)) n (List.mem_range.2 (by have := h.o3.2; omega))
        rw [Bool.and_eq_true] at q
        exact okI_R q.2
  have hsp : ∀ s ∈ (mapP 6 lim r o1 o2 o3 v w b t).signals, ∃ o ps, s = [I o, .rslice ps] := fun s hs => by
    rcases h.r with hr | hr
    · subst hr; simp [mapP, signalsP] at hs
    · subst hr
      simp [mapP, signalsP] at hs
      rcases hs with hs | hs
      · subst hs; exact ⟨_, _, rfl⟩
      · subst hs; exact ⟨_, _, rfl⟩
  have hzp : ∀ s ∈ (mapP 6 lim r o1 o2 o3 v w b t).zones, ∃ ps o, s = [.rslice ps, I o] := fun s hs => by
    simp [mapP, zonesP] at hs
    try (first | (rcases hs with hs | hs <;> (subst hs; exact ⟨_, _, rfl⟩)) | (subst hs; exact ⟨_, _, rfl⟩))
  exact {
    small := ⟨by simp [mapP, lanesP], by simp [mapP, lanesP, roadL], by simp [mapP, lanesP, roadL]⟩
    chk := R_Check_of (R_numbers hsz) (okI_R (List.all_eq_true.1 (kl6 v (zonesP 6 r) (signalsP 6 r o1 o2 o3) ((worksP w b t).map workC)) lim h.lim)) (okI_R (kj6 v lim (zonesP 6 r) (signalsP 6 r o1 o2 o3) ((worksP w b t).map workC))) hs hz.1
      (R_works h0 (hlen _ (List.getElem_mem h0)) rfl (by simp [mapP, lanesP, roadL]) (by simp [mapP, lanesP, roadL]) b t h.b h.t (works_two w b t))
    rchk := R_refCheck_of hsz (fun i hi => okI_R (List.all_eq_true.1 (List.all_eq_true.1 (rl6 v (zonesP 6 r) (signalsP 6 r o1 o2 o3) ((worksP w b t).map workC)) lim h.lim) i (List.mem_range.2 hi))) (okI_R (rj6 v lim (zonesP 6 r) (signalsP 6 r o1 o2 o3) ((worksP w b t).map workC))) hsp hzp hrs hz.2
      (fun x hx => by
        rcases works_two w b t with e | e
        · simp [mapP, e] at hx
        · simp [mapP, e] at hx
          subst hx
          exact R_refworks h0 (hrlen _ (List.getElem_mem h0)) rfl (by simp [mapP, lanesP, roadL]) b t h.b h.t)
    len := hlen
    rlen := hrlen
    len1 := by simp [mapP, lanesP, roadL]
    kind := by simp [mapP, lanesP, roadL]
    limit := by simp [mapP, lanesP, roadL]; try omega }
end Go.TrRun

/- The map of a number is valid. -/
set_option linter.unusedVariables false
set_option linter.unusedSimpArgs false
set_option maxRecDepth 10000
namespace Go.TrRun
open Go Go.Eng

theorem limF_mem (j : Nat) : limF j ∈ lims := by
  unfold limF lims
  split <;> simp
theorem nums_of (n : Int) : Nums (limF (((n % 16777216).tdiv 7).tmod 4).toNat) (((n % 16777216).tdiv 28).tmod 2) (((n % 16777216).tdiv 28).tmod 31) (((n % 16777216).tdiv 56).tmod 31) (((n % 16777216).tdiv 56).tmod 17) (((n % 16777216).tdiv 28).tmod 5) (((n % 16777216).tdiv 1736).tmod 3) (((n % 16777216).tdiv 5208).tmod 40) (((n % 16777216).tdiv 208320).tmod 3) := by
  have hN : 0 ≤ n % 16777216 ∧ n % 16777216 < 16777216 := by omega
  have hr := tmod_lt _ 28 2 hN (by decide) (by decide)
  exact ⟨limF_mem _, by omega, tmod_lt _ 28 31 hN (by decide) (by decide), tmod_lt _ 56 31 hN (by decide) (by decide), tmod_lt _ 56 17 hN (by decide) (by decide), tmod_lt _ 28 5 hN (by decide) (by decide), tmod_lt _ 5208 40 hN (by decide) (by decide), tmod_lt _ 208320 3 hN (by decide) (by decide)⟩
theorem Map_good (n : Int) : ∃ m, Good m ∧ R L Cs f_kerbstonekit_Map [W n] [] = some (.w (.a (mapC m)), []) := by
  have hN : 0 ≤ n % 16777216 ∧ n % 16777216 < 16777216 := by omega
  have h7 : 0 ≤ (n % 16777216).tmod 7 ∧ (n % 16777216).tmod 7 < 7 := by
    rw [Int.tmod_eq_emod_of_nonneg hN.1]; omega
  have hr := tmod_lt _ 28 2 hN (by decide) (by decide)
  have nu := nums_of n
  by_cases hw : ((n % 16777216).tdiv 1736).tmod 3 = 1
  · have hk : (n % 16777216).tmod 7 = 0 ∨ (n % 16777216).tmod 7 = 1 ∨ (n % 16777216).tmod 7 = 2 ∨ (n % 16777216).tmod 7 = 3 ∨ (n % 16777216).tmod 7 = 4 ∨ (n % 16777216).tmod 7 = 5 ∨ (n % 16777216).tmod 7 = 6 := by omega
    rcases hk with h | h | h | h | h | h | h
    · exact ⟨_, good0 nu, R_Map0w n h hw⟩
    · exact ⟨_, good1 nu, R_Map1w n h hw⟩
    · exact ⟨_, good2 nu, R_Map2w n h hw⟩
    · exact ⟨_, good3 nu, R_Map3w n h hw⟩
    · exact ⟨_, good4 nu, R_Map4w n h hw⟩
    · exact ⟨_, good5 nu, R_Map5w n h hw⟩
    · by_cases h28 : ((n % 16777216).tdiv 28).tmod 2 = 1
      · exact ⟨_, good6 nu, R_Map6aw n h h28 hw⟩
      · exact ⟨_, good6 nu, R_Map6bw n h (by omega) hw⟩
  · have hk : (n % 16777216).tmod 7 = 0 ∨ (n % 16777216).tmod 7 = 1 ∨ (n % 16777216).tmod 7 = 2 ∨ (n % 16777216).tmod 7 = 3 ∨ (n % 16777216).tmod 7 = 4 ∨ (n % 16777216).tmod 7 = 5 ∨ (n % 16777216).tmod 7 = 6 := by omega
    rcases hk with h | h | h | h | h | h | h
    · exact ⟨_, good0 nu, R_Map0 n h hw⟩
    · exact ⟨_, good1 nu, R_Map1 n h hw⟩
    · exact ⟨_, good2 nu, R_Map2 n h hw⟩
    · exact ⟨_, good3 nu, R_Map3 n h hw⟩
    · exact ⟨_, good4 nu, R_Map4 n h hw⟩
    · exact ⟨_, good5 nu, R_Map5 n h hw⟩
    · by_cases h28 : ((n % 16777216).tdiv 28).tmod 2 = 1
      · exact ⟨_, good6 nu, R_Map6a n h h28 hw⟩
      · exact ⟨_, good6 nu, R_Map6b n h (by omega) hw⟩
end Go.TrRun

/- TrackChecks answers true. -/
set_option linter.unusedVariables false
set_option linter.unusedSimpArgs false
set_option maxRecDepth 10000
namespace Go.TrRun
open Go Go.Eng

theorem allFrom_len : ∀ (r : List Lane) (i : Nat), (allFrom i r).length = r.length
  | [], _ => rfl
  | _ :: r, i => by simp [allFrom, allFrom_len r]
end Go.TrRun

