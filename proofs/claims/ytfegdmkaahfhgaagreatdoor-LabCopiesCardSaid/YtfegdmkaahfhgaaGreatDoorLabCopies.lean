/- This text proves the given statement 'Rows.LabCopiesCardSaid': whatever the input, the call returns true, and the input reads as it did; the listed package-level variables hold what the card ties to the program's text. -/
import Derived.Test.YtfegdmkaahfhgaaGreatDoorCode
import Derived.Test.YtfegdmkaahfhgaaGreatDoorTx1
import Derived.Test.YtfegdmkaahfhgaaGreatDoorTie
import Derived.Test.YtfegdmkaahfhgaaGreatDoorCards
import Derived.Lib.LaidTab
import Derived.LaidMore
import Derived.WalkKit
import Derived.ProofKit
import Derived.OpenShut
namespace Go.Proofs.YtfegdmkaahfhgaaGreatDoor.labCopies
open Go.ChangeShapes Go.WideShapes Go.ChangeAt Go.RowKit Go.Eng Go.LcRun
set_option linter.unusedVariables false
set_option linter.unusedSimpArgs false

theorem own : ownKnob Tryz.prog.godebug = none := by kernel_rfl
def laid3 : List (String × DataW Unit) := [("math/bits.deBruijn32tab", Rows.laid_math_bits_deBruijn32tab), ("math/bits.deBruijn64tab", Rows.laid_math_bits_deBruijn64tab), ("internal/strconv.uint64pow10", Rows.laid_internal_strconv_uint64pow10)]

/-- The heap that start-up leaves meets the condition. -/
theorem door_met (os : Os) (args : Array Value) : laidMetH Tryz.prog laid3 ((World.doorLaid Tryz.prog 5000 os).forCall (fun _ _ => 0) ⟨#[], args, []⟩).memory :=
  laidMetH_of_parts3 (fuel := 8) (laidMet_of_run' 8 (by kernel_rfl) (by kernel_rfl)) (by kernel_rfl) (by kernel_rfl)

def zs : List Int := [1, 10, 100, 1000, 10000, 100000, 1000000, 10000000, 100000000, 1000000000, 10000000000, 100000000000, 1000000000000, 10000000000000, 100000000000000, 1000000000000000, 10000000000000000, 100000000000000000, 1000000000000000000, 10000000000000000000]
theorem g0 : Tryz.prog.globalNamed "internal/strconv.uint64pow10" = some 0 := by kernel_rfl
theorem tab_of {W : World} (h : laidMetH Tryz.prog laid3 W) : Lib.TabIs Tryz.prog W "internal/strconv.uint64pow10" .u64 zs := by
  have h1 : laidMet Tryz.prog laid3 W := h
  obtain ⟨ps, h2, _⟩ := h1
  obtain ⟨_, _, _, _, _, _, _, _, _, _, h3, _⟩ := h2
  obtain ⟨_, _, _, _, _, _, _, _, _, _, h4, _⟩ := h3
  obtain ⟨g, t, cs, fuel, p, q, hg, ht, hv, hd, _, _⟩ := h4
  obtain rfl := Option.some.inj (g0.symm.trans hg)
  have ht' : t = 271 := (Option.some.inj ((show (Tryz.prog.globals[0]?).map (·.type) = some 271 by kernel_rfl).symm.trans ht)).symm
  subst ht'
  unfold Lib.TabIs
  have hd2 : DataW.trod (fun _ => ()) Tryz.prog W 0 (fun _ => true) false fuel 271 cs.toList = some (Lib.tabData .u64 zs, p) := hd
  rw [hv, ← Lib.cells_of_tab (n := 20) (e := 240) (show Tryz.prog.underlying 271 = some (.array 20 240) by kernel_rfl) (show Tryz.prog.underlying 240 = some (.int .u64) by kernel_rfl) (by kernel_rfl) (by kernel_rfl) hd2]
theorem gk_of {W : World} (h : laidMetH Tryz.prog laid3 W) : GK (allCells W) := by
  refine gk_tab (g0 := 0) (k := .u64) (zs := zs) (fun g row hr => ?_) fun i hi => (tab_of h).cell g0 i hi
  have hg : g = 0 := by
    rcases Nat.eq_zero_or_pos g with h0 | h0
    · exact h0
    · exfalso
      have hb : (g == 0) = false := by
        cases hq : g == 0 with
        | false => rfl
        | true => exact absurd (eq_of_beq hq) (by omega)
      have hr : (if (g == 0) = true then some _ else none) = some row := hr
      rw [hb] at hr
      cases hr
  subst hg
  exact ⟨rfl, (Option.some.inj hr).symm⟩

set_option maxRecDepth 100000 in
theorem lifted (os : Os) (started : os.Started) (H : Type) (enc : TypeId × Value → H) :
    ReturnsInHanded {} Tryz.checked os f_kerbstonelaw10_LabCopies .any (fun w args => (Rows.labCopiesSpec.pre enc Tryz.prog Tryz.f3 [] false w args ∧ laidMetH Tryz.prog laid3 w) ∧ sizedMet enc Tryz.prog Tryz.f3 (OpenSpec.ofChange Rows.labCopiesSpec) false w args)
      (Rows.labCopiesSpec.post enc Tryz.prog Tryz.f3 false true false false) := by
  refine returnsInHanded_of_change_and (C := Tryz.checked) (X := fun w _ => laidMetH Tryz.prog laid3 w) (fun _ _ _ hh h => h.of_heap hh) own started (by kernel_rfl) Tryz.func3
    (ChangeSpec.witness_shaped (enc := enc) (C := Tryz.checked) (os := os) (X := fun w _ => laidMetH Tryz.prog laid3 w) false (World.doorLaid Tryz.prog 5000 os) #[.agg #[.int .i64 0, .slice none 0 0, .slice none 0 0, .slice none 0 0, .slice none 0 0, .int .i64 0, .int .i64 0, .int .i64 0, .int .i64 0, .int .i64 0, .slice none 0 0, .int .i64 0, .int .i64 0, .bool false, .int .i64 0, .int .i64 0, .int .i64 0, .slice none 0 0], .agg #[.int .i64 0, .slice none 0 0, .slice none 0 0, .slice none 0 0, .slice none 0 0, .int .i64 0, .int .i64 0, .int .i64 0, .int .i64 0, .int .i64 0, .slice none 0 0, .int .i64 0, .int .i64 0, .bool false, .int .i64 0, .int .i64 0, .int .i64 0, .slice none 0 0]] 8 rfl (World.shaped_of_RefB (by kernel_rfl) (by kernel_rfl)) (by kernel_rfl) (by kernel_rfl) (by kernel_rfl) (door_met os _)) ?_
  intro W base args ds gs before hval0 hW _ _ hL _
  exact row_step (P := Tryz.prog) Lcmixed LcL_eq LcV_ok LcC_ok LcS_ok (of_decide_eq_true (by kernel_rfl)) (d := 8) (tb := 4) (by kernel_rfl) rfl Tryz.underlying4 rfl
    (fun ds h => match ds, h with | [_, _], _ => rfl) Lclaid Lcmaps (by kernel_rfl) Lcfull runs_copies (gk_of hL) hval0 hW

theorem over : Rows.labCopiesRow.holds Tryz.pinned (OpenSpec.ofChange Rows.labCopiesSpec) :=
  OpenClaim.holds_of_wide 3 Tryz.f3 rfl rfl rfl rfl rfl rfl rfl ⟨rfl, rfl, rfl, rfl, rfl⟩ rfl rfl rfl rfl rfl (by kernel_rfl) Tryz.func3 (by kernel_rfl)
    (of_decide_eq_true (by kernel_rfl)) (by unfold Func.isWrapper; first | (rw [if_pos (by decide +kernel)]; kernel_rfl) | (rw [if_neg (by decide +kernel)]; exact ⟨rfl, rfl⟩))
    (fun os started H enc _ => lifted os started H enc)

/-- ████ THE STATEMENT: THE TIED CARD ████ -/
theorem proved : Rows.LabCopiesCardSaid :=
  Claim7.holds_tied_plain_at .later [] [.data, .data, .data] true (true, "e656fe62964cd150c212d02f59e53dc55010dcb3cdca51be270ae0aa4960a75c") false
    over (fun _ h => by cases h) (by kernel_rfl) (fun _ h => by cases h) labCopies_row_tie rfl ⟨rfl, rfl⟩ (by kernel_rfl) rfl
    (fun f fn hf hfn => by
      obtain rfl : f = 3 := Option.some.inj ((show Tryz.prog.funcNamed "kerbstone/kerbstonelaw10.LabCopies" = some 3 by kernel_rfl).symm.trans hf) |>.symm
      obtain rfl : fn = Tryz.f3 := (Option.some.inj (Tryz.func3.symm.trans hfn)).symm
      exact ⟨by kernel_rfl, fun j t ht => by
        have hall : (Tryz.f3.params.toList.all fun u => !Tryz.prog.wantsStandIn u) = true := by kernel_rfl
        have hm : t ∈ Tryz.f3.params.toList := Array.mem_toList_iff.2 (Array.mem_of_getElem? ht)
        exact (show Tryz.prog.wantsStandIn t = false by simpa using List.all_eq_true.1 hall t hm)⟩)
    (by kernel_rfl)
#print axioms proved
end Go.Proofs.YtfegdmkaahfhgaaGreatDoor.labCopies
