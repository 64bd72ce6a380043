/-
  No cell of these rows narrows 'for every input' (looked for: loops, veiled, ifaces, maps, wideKeys, modest, calm, conditions, laid).
  DERIVED. THE GIVEN ROWS OF THIS SEAT. 8 by the template 'for every input the law returns true; each argument reads behind the call as it read before'; 0 by the template 'total and deterministic' (their statements: YtjmaghejnagjeaaGreatTotals.lean).
  GIVEN WITH THE SEED: the statements are not yours to turn. If you find one false, say at which input.
  Laid BY PROGRAM, IN A SANDBOX (cutbox-rows.mjs): the forced cells as the released guide's own fill.sh prints them over the translation 8df20ffc41494469… (all of the seat's roots in one cut). By AI agents, Wed Nov 11 2026. No macro, syntax, notation, axiom, sorry.
-/
import Derived.Test.YtjmaghejnagjeaaGreatChecked
import GoSem.Claim
import GoSem.ClaimJoined
import GoSem.ClaimMapViews
import Derived.JoinedTies
import Derived.KernelRfl
namespace Go.Proofs.YtjmaghejnagjeaaGreat
/- THE CELL 'sum', in the pinned program and in every row, IS THE sha256 OF THE DUMP (.gsa) THAT YtjmaghejnagjeaaGreatProg.lean LOADS. Nothing in Lean hashes anything: it is a label: what it is worth is what the hold of that sum in a sandbox is worth. -/
noncomputable def Tryz.pinned : Pinned := { name := "ytjmaghejnagjeaagreat", sum := "8df20ffc414944698c971a41a40f7510142ea8b3b20724ce978d03074519aa14", checked := Tryz.checked }
namespace Rows
def none {H : Type} : Left H := { results := [], args := [] }

/-- 'kerbstonelaw07.PlanPredicts': WHATEVER THE INPUT: true; the input reads as it did. -/
def planPredictsSpec : ChangeSpec := { name := "planPredicts", fn := fun _ => fun
  | [d1, d2, d3, d4, d5, d6, d7] => { results := [.lit (.bool true)], args := [d1, d2, d3, d4, d5, d6, d7] }
  | _ => none }
def planPredictsRow : OpenClaim := { program := "ytjmaghejnagjeaagreat", sum := "8df20ffc414944698c971a41a40f7510142ea8b3b20724ce978d03074519aa14", func := "kerbstone/kerbstonelaw07.PlanPredicts", spec := "planPredicts", unfollowed := true, recurses := true, apart := false }
def PlanPredictsSaid : Prop := planPredictsRow.holds Tryz.pinned (OpenSpec.ofChange planPredictsSpec)

/-- ITS FALSE NEIGHBOUR: 'it returns false'. Refute it at one input. -/
def planPredictsWrong : ChangeSpec := { name := "planPredicts", fn := fun _ => fun
  | [d1, d2, d3, d4, d5, d6, d7] => { results := [.lit (.bool false)], args := [d1, d2, d3, d4, d5, d6, d7] }
  | _ => none }
def PlanPredictsWrongFalsely : Prop := planPredictsRow.holds Tryz.pinned (OpenSpec.ofChange planPredictsWrong)

/-- 'kerbstonelaw07.PlanVerifies': WHATEVER THE INPUT: true; the input reads as it did. -/
def planVerifiesSpec : ChangeSpec := { name := "planVerifies", fn := fun _ => fun
  | [d1, d2, d3, d4, d5, d6] => { results := [.lit (.bool true)], args := [d1, d2, d3, d4, d5, d6] }
  | _ => none }
def planVerifiesRow : OpenClaim := { program := "ytjmaghejnagjeaagreat", sum := "8df20ffc414944698c971a41a40f7510142ea8b3b20724ce978d03074519aa14", func := "kerbstone/kerbstonelaw07.PlanVerifies", spec := "planVerifies", unfollowed := true, recurses := true, apart := false }
def PlanVerifiesSaid : Prop := planVerifiesRow.holds Tryz.pinned (OpenSpec.ofChange planVerifiesSpec)

/-- ITS FALSE NEIGHBOUR: 'it returns false'. Refute it at one input. -/
def planVerifiesWrong : ChangeSpec := { name := "planVerifies", fn := fun _ => fun
  | [d1, d2, d3, d4, d5, d6] => { results := [.lit (.bool false)], args := [d1, d2, d3, d4, d5, d6] }
  | _ => none }
def PlanVerifiesWrongFalsely : Prop := planVerifiesRow.holds Tryz.pinned (OpenSpec.ofChange planVerifiesWrong)

/-- 'kerbstonelaw07.PlanSearches': WHATEVER THE INPUT: true; the input reads as it did. -/
def planSearchesSpec : ChangeSpec := { name := "planSearches", fn := fun _ => fun
  | [d1, d2, d3, d4, d5, d6, d7, d8, d9] => { results := [.lit (.bool true)], args := [d1, d2, d3, d4, d5, d6, d7, d8, d9] }
  | _ => none }
def planSearchesRow : OpenClaim := { program := "ytjmaghejnagjeaagreat", sum := "8df20ffc414944698c971a41a40f7510142ea8b3b20724ce978d03074519aa14", func := "kerbstone/kerbstonelaw07.PlanSearches", spec := "planSearches", unfollowed := true, recurses := true, apart := false }
def PlanSearchesSaid : Prop := planSearchesRow.holds Tryz.pinned (OpenSpec.ofChange planSearchesSpec)

/-- ITS FALSE NEIGHBOUR: 'it returns false'. Refute it at one input. -/
def planSearchesWrong : ChangeSpec := { name := "planSearches", fn := fun _ => fun
  | [d1, d2, d3, d4, d5, d6, d7, d8, d9] => { results := [.lit (.bool false)], args := [d1, d2, d3, d4, d5, d6, d7, d8, d9] }
  | _ => none }
def PlanSearchesWrongFalsely : Prop := planSearchesRow.holds Tryz.pinned (OpenSpec.ofChange planSearchesWrong)

/-- 'kerbstonelaw07.PlanFirst': WHATEVER THE INPUT: true; the input reads as it did. -/
def planFirstSpec : ChangeSpec := { name := "planFirst", fn := fun _ => fun
  | [d1, d2, d3, d4, d5, d6, d7] => { results := [.lit (.bool true)], args := [d1, d2, d3, d4, d5, d6, d7] }
  | _ => none }
def planFirstRow : OpenClaim := { program := "ytjmaghejnagjeaagreat", sum := "8df20ffc414944698c971a41a40f7510142ea8b3b20724ce978d03074519aa14", func := "kerbstone/kerbstonelaw07.PlanFirst", spec := "planFirst", unfollowed := true, recurses := true, apart := false }
def PlanFirstSaid : Prop := planFirstRow.holds Tryz.pinned (OpenSpec.ofChange planFirstSpec)

/-- ITS FALSE NEIGHBOUR: 'it returns false'. Refute it at one input. -/
def planFirstWrong : ChangeSpec := { name := "planFirst", fn := fun _ => fun
  | [d1, d2, d3, d4, d5, d6, d7] => { results := [.lit (.bool false)], args := [d1, d2, d3, d4, d5, d6, d7] }
  | _ => none }
def PlanFirstWrongFalsely : Prop := planFirstRow.holds Tryz.pinned (OpenSpec.ofChange planFirstWrong)

/-- 'kerbstonelaw07.PlanStands': WHATEVER THE INPUT: true; the input reads as it did. -/
def planStandsSpec : ChangeSpec := { name := "planStands", fn := fun _ => fun
  | [d1, d2, d3, d4, d5, d6] => { results := [.lit (.bool true)], args := [d1, d2, d3, d4, d5, d6] }
  | _ => none }
def planStandsRow : OpenClaim := { program := "ytjmaghejnagjeaagreat", sum := "8df20ffc414944698c971a41a40f7510142ea8b3b20724ce978d03074519aa14", func := "kerbstone/kerbstonelaw07.PlanStands", spec := "planStands", unfollowed := true, recurses := true, apart := false }
def PlanStandsSaid : Prop := planStandsRow.holds Tryz.pinned (OpenSpec.ofChange planStandsSpec)

/-- ITS FALSE NEIGHBOUR: 'it returns false'. Refute it at one input. -/
def planStandsWrong : ChangeSpec := { name := "planStands", fn := fun _ => fun
  | [d1, d2, d3, d4, d5, d6] => { results := [.lit (.bool false)], args := [d1, d2, d3, d4, d5, d6] }
  | _ => none }
def PlanStandsWrongFalsely : Prop := planStandsRow.holds Tryz.pinned (OpenSpec.ofChange planStandsWrong)

/-- 'kerbstonelaw07.PlanStrict': WHATEVER THE INPUT: true; the input reads as it did. -/
def planStrictSpec : ChangeSpec := { name := "planStrict", fn := fun _ => fun
  | [d1, d2, d3, d4, d5, d6, d7, d8, d9] => { results := [.lit (.bool true)], args := [d1, d2, d3, d4, d5, d6, d7, d8, d9] }
  | _ => none }
def planStrictRow : OpenClaim := { program := "ytjmaghejnagjeaagreat", sum := "8df20ffc414944698c971a41a40f7510142ea8b3b20724ce978d03074519aa14", func := "kerbstone/kerbstonelaw07.PlanStrict", spec := "planStrict", unfollowed := true, recurses := true, apart := false }
def PlanStrictSaid : Prop := planStrictRow.holds Tryz.pinned (OpenSpec.ofChange planStrictSpec)

/-- ITS FALSE NEIGHBOUR: 'it returns false'. Refute it at one input. -/
def planStrictWrong : ChangeSpec := { name := "planStrict", fn := fun _ => fun
  | [d1, d2, d3, d4, d5, d6, d7, d8, d9] => { results := [.lit (.bool false)], args := [d1, d2, d3, d4, d5, d6, d7, d8, d9] }
  | _ => none }
def PlanStrictWrongFalsely : Prop := planStrictRow.holds Tryz.pinned (OpenSpec.ofChange planStrictWrong)

/-- 'kerbstonelaw07.PlanTails': WHATEVER THE INPUT: true; the input reads as it did. -/
def planTailsSpec : ChangeSpec := { name := "planTails", fn := fun _ => fun
  | [d1, d2, d3, d4, d5, d6, d7, d8, d9] => { results := [.lit (.bool true)], args := [d1, d2, d3, d4, d5, d6, d7, d8, d9] }
  | _ => none }
def planTailsRow : OpenClaim := { program := "ytjmaghejnagjeaagreat", sum := "8df20ffc414944698c971a41a40f7510142ea8b3b20724ce978d03074519aa14", func := "kerbstone/kerbstonelaw07.PlanTails", spec := "planTails", unfollowed := true, recurses := true, apart := false }
def PlanTailsSaid : Prop := planTailsRow.holds Tryz.pinned (OpenSpec.ofChange planTailsSpec)

/-- ITS FALSE NEIGHBOUR: 'it returns false'. Refute it at one input. -/
def planTailsWrong : ChangeSpec := { name := "planTails", fn := fun _ => fun
  | [d1, d2, d3, d4, d5, d6, d7, d8, d9] => { results := [.lit (.bool false)], args := [d1, d2, d3, d4, d5, d6, d7, d8, d9] }
  | _ => none }
def PlanTailsWrongFalsely : Prop := planTailsRow.holds Tryz.pinned (OpenSpec.ofChange planTailsWrong)

/-- 'kerbstonelaw07.PlanFaultless': WHATEVER THE INPUT: true; the input reads as it did. -/
def planFaultlessSpec : ChangeSpec := { name := "planFaultless", fn := fun _ => fun
  | [d1, d2, d3, d4, d5, d6, d7, d8, d9] => { results := [.lit (.bool true)], args := [d1, d2, d3, d4, d5, d6, d7, d8, d9] }
  | _ => none }
def planFaultlessRow : OpenClaim := { program := "ytjmaghejnagjeaagreat", sum := "8df20ffc414944698c971a41a40f7510142ea8b3b20724ce978d03074519aa14", func := "kerbstone/kerbstonelaw07.PlanFaultless", spec := "planFaultless", unfollowed := true, recurses := true, apart := false }
def PlanFaultlessSaid : Prop := planFaultlessRow.holds Tryz.pinned (OpenSpec.ofChange planFaultlessSpec)

/-- ITS FALSE NEIGHBOUR: 'it returns false'. Refute it at one input. -/
def planFaultlessWrong : ChangeSpec := { name := "planFaultless", fn := fun _ => fun
  | [d1, d2, d3, d4, d5, d6, d7, d8, d9] => { results := [.lit (.bool false)], args := [d1, d2, d3, d4, d5, d6, d7, d8, d9] }
  | _ => none }
def PlanFaultlessWrongFalsely : Prop := planFaultlessRow.holds Tryz.pinned (OpenSpec.ofChange planFaultlessWrong)

/- THE SECOND FORM. 'bulk': how many values and letters a reading holds, each counted each time it is reached (what is shared counts as often as it is met; a slice's spare places count too). A statement '..UptoSaid' is the law's where the arguments, and the package variables that the reading takes, are together of bulk at most 1048576: NARROWER than '..Said'. Prove '..Said' where nothing that the law and all that it calls make is longer than what came in: it says more and counts as full. Else prove '..UptoSaid'. A law counts once. -/
mutual
def uptoBulk {H : Type} : DataW H → Nat
  | .lit (.string bytes) => bytes.length + 1
  | .lit _ => 1
  | .nil => 1
  | .ptr d => uptoBulk d + 1
  | .slice elems spare => uptoBulkAll elems + uptoBulkAll spare + 1
  | .agg parts => uptoBulkAll parts + 1
  | .iface _ d => uptoBulk d + 1
  | .map entries => uptoBulkEntries entries + 1
  | .held _ => 1
def uptoBulkAll {H : Type} : List (DataW H) → Nat
  | [] => 0
  | d :: r => uptoBulk d + uptoBulkAll r
def uptoBulkEntries {H : Type} : List (Lit × DataW H) → Nat
  | [] => 0
  | x :: r => uptoBulkEntry x + uptoBulkEntries r
def uptoBulkEntry {H : Type} : Lit × DataW H → Nat
  | (.string bytes, d) => bytes.length + uptoBulk d + 1
  | (_, d) => uptoBulk d + 1
 end
def uptoSmall : (H : Type) → List (DataW H) → Bool := fun _ ds => decide (uptoBulkAll ds ≤ 1048576)
def OpenSpec.upto (s : _root_.Go.ChangeSpec) : _root_.Go.OpenSpec := { _root_.Go.OpenSpec.ofChange s with cond := some uptoSmall }

/-- 'kerbstonelaw07.PlanPredicts', WHERE WHAT IT READS IS OF BULK AT MOST 1048576: true; the input reads as it did. -/
def planPredictsUptoRow : OpenClaim := { program := "ytjmaghejnagjeaagreat", sum := "8df20ffc414944698c971a41a40f7510142ea8b3b20724ce978d03074519aa14", func := "kerbstone/kerbstonelaw07.PlanPredicts", spec := "planPredicts", unfollowed := true, recurses := true, apart := false, narrowed := true }
def PlanPredictsUptoSaid : Prop := planPredictsUptoRow.holds Tryz.pinned (OpenSpec.upto planPredictsSpec)

/-- 'kerbstonelaw07.PlanVerifies', WHERE WHAT IT READS IS OF BULK AT MOST 1048576: true; the input reads as it did. -/
def planVerifiesUptoRow : OpenClaim := { program := "ytjmaghejnagjeaagreat", sum := "8df20ffc414944698c971a41a40f7510142ea8b3b20724ce978d03074519aa14", func := "kerbstone/kerbstonelaw07.PlanVerifies", spec := "planVerifies", unfollowed := true, recurses := true, apart := false, narrowed := true }
def PlanVerifiesUptoSaid : Prop := planVerifiesUptoRow.holds Tryz.pinned (OpenSpec.upto planVerifiesSpec)

/-- 'kerbstonelaw07.PlanSearches', WHERE WHAT IT READS IS OF BULK AT MOST 1048576: true; the input reads as it did. -/
def planSearchesUptoRow : OpenClaim := { program := "ytjmaghejnagjeaagreat", sum := "8df20ffc414944698c971a41a40f7510142ea8b3b20724ce978d03074519aa14", func := "kerbstone/kerbstonelaw07.PlanSearches", spec := "planSearches", unfollowed := true, recurses := true, apart := false, narrowed := true }
def PlanSearchesUptoSaid : Prop := planSearchesUptoRow.holds Tryz.pinned (OpenSpec.upto planSearchesSpec)

/-- 'kerbstonelaw07.PlanFirst', WHERE WHAT IT READS IS OF BULK AT MOST 1048576: true; the input reads as it did. -/
def planFirstUptoRow : OpenClaim := { program := "ytjmaghejnagjeaagreat", sum := "8df20ffc414944698c971a41a40f7510142ea8b3b20724ce978d03074519aa14", func := "kerbstone/kerbstonelaw07.PlanFirst", spec := "planFirst", unfollowed := true, recurses := true, apart := false, narrowed := true }
def PlanFirstUptoSaid : Prop := planFirstUptoRow.holds Tryz.pinned (OpenSpec.upto planFirstSpec)

/-- 'kerbstonelaw07.PlanStands', WHERE WHAT IT READS IS OF BULK AT MOST 1048576: true; the input reads as it did. -/
def planStandsUptoRow : OpenClaim := { program := "ytjmaghejnagjeaagreat", sum := "8df20ffc414944698c971a41a40f7510142ea8b3b20724ce978d03074519aa14", func := "kerbstone/kerbstonelaw07.PlanStands", spec := "planStands", unfollowed := true, recurses := true, apart := false, narrowed := true }
def PlanStandsUptoSaid : Prop := planStandsUptoRow.holds Tryz.pinned (OpenSpec.upto planStandsSpec)

/-- 'kerbstonelaw07.PlanStrict', WHERE WHAT IT READS IS OF BULK AT MOST 1048576: true; the input reads as it did. -/
def planStrictUptoRow : OpenClaim := { program := "ytjmaghejnagjeaagreat", sum := "8df20ffc414944698c971a41a40f7510142ea8b3b20724ce978d03074519aa14", func := "kerbstone/kerbstonelaw07.PlanStrict", spec := "planStrict", unfollowed := true, recurses := true, apart := false, narrowed := true }
def PlanStrictUptoSaid : Prop := planStrictUptoRow.holds Tryz.pinned (OpenSpec.upto planStrictSpec)

/-- 'kerbstonelaw07.PlanTails', WHERE WHAT IT READS IS OF BULK AT MOST 1048576: true; the input reads as it did. -/
def planTailsUptoRow : OpenClaim := { program := "ytjmaghejnagjeaagreat", sum := "8df20ffc414944698c971a41a40f7510142ea8b3b20724ce978d03074519aa14", func := "kerbstone/kerbstonelaw07.PlanTails", spec := "planTails", unfollowed := true, recurses := true, apart := false, narrowed := true }
def PlanTailsUptoSaid : Prop := planTailsUptoRow.holds Tryz.pinned (OpenSpec.upto planTailsSpec)

/-- 'kerbstonelaw07.PlanFaultless', WHERE WHAT IT READS IS OF BULK AT MOST 1048576: true; the input reads as it did. -/
def planFaultlessUptoRow : OpenClaim := { program := "ytjmaghejnagjeaagreat", sum := "8df20ffc414944698c971a41a40f7510142ea8b3b20724ce978d03074519aa14", func := "kerbstone/kerbstonelaw07.PlanFaultless", spec := "planFaultless", unfollowed := true, recurses := true, apart := false, narrowed := true }
def PlanFaultlessUptoSaid : Prop := planFaultlessUptoRow.holds Tryz.pinned (OpenSpec.upto planFaultlessSpec)

end Rows
end Go.Proofs.YtjmaghejnagjeaaGreat
