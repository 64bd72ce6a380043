/-
  No cell of these rows narrows 'for every input' (looked for: loops, veiled, ifaces, maps, wideKeys, modest, calm, conditions, laid).
  DERIVED. THE GIVEN ROWS OF THIS SEAT. 4 by the template 'for every input the law returns true; each argument reads behind the call as it read before'; 0 by the template 'total and deterministic' (their statements: YtlcjcbdfabbddaaTotals.lean).
  GIVEN WITH THE SEED: the statements are not yours to turn. If you find one false, say at which input.
  Laid BY PROGRAM, IN A SANDBOX (cutbox-rows.mjs): the forced cells as the released guide's own fill.sh prints them over the translation b7e8e168ec29de0c… (all of the seat's roots in one cut). By AI agents, Wed Nov 11 2026. No macro, syntax, notation, axiom, sorry.
-/
import Derived.Test.YtlcjcbdfabbddaaChecked
import GoSem.Claim
import GoSem.ClaimJoined
import GoSem.ClaimMapViews
import Derived.JoinedTies
import Derived.KernelRfl
namespace Go.Proofs.Ytlcjcbdfabbddaa
/- THE CELL 'sum', in the pinned program and in every row, IS THE sha256 OF THE DUMP (.gsa) THAT YtlcjcbdfabbddaaProg.lean LOADS. Nothing in Lean hashes anything: it is a label: what it is worth is what the hold of that sum in a sandbox is worth. -/
noncomputable def Try.pinned : Pinned := { name := "ytlcjcbdfabbddaa", sum := "b7e8e168ec29de0c275291da8b57056f3f2126e42ac8d005ff9ce9e2e249e75b", checked := Try.checked }
namespace Rows
def none {H : Type} : Left H := { results := [], args := [] }

/-- 'kerbstonelaw07.PlanValid': WHATEVER THE INPUT: true; the input reads as it did. -/
def planValidSpec : ChangeSpec := { name := "planValid", fn := fun _ => fun
  | [d1, d2, d3, d4, d5, d6] => { results := [.lit (.bool true)], args := [d1, d2, d3, d4, d5, d6] }
  | _ => none }
def planValidRow : OpenClaim := { program := "ytlcjcbdfabbddaa", sum := "b7e8e168ec29de0c275291da8b57056f3f2126e42ac8d005ff9ce9e2e249e75b", func := "kerbstone/kerbstonelaw07.PlanValid", spec := "planValid", unfollowed := true, recurses := true, apart := false }
def PlanValidSaid : Prop := planValidRow.holds Try.pinned (OpenSpec.ofChange planValidSpec)

/-- ITS FALSE NEIGHBOUR: 'it returns false'. Refute it at one input. -/
def planValidWrong : ChangeSpec := { name := "planValid", fn := fun _ => fun
  | [d1, d2, d3, d4, d5, d6] => { results := [.lit (.bool false)], args := [d1, d2, d3, d4, d5, d6] }
  | _ => none }
def PlanValidWrongFalsely : Prop := planValidRow.holds Try.pinned (OpenSpec.ofChange planValidWrong)

/-- 'kerbstonelaw07.PlanStops': WHATEVER THE INPUT: true; the input reads as it did. -/
def planStopsSpec : ChangeSpec := { name := "planStops", fn := fun _ => fun
  | [d1, d2, d3, d4, d5] => { results := [.lit (.bool true)], args := [d1, d2, d3, d4, d5] }
  | _ => none }
def planStopsRow : OpenClaim := { program := "ytlcjcbdfabbddaa", sum := "b7e8e168ec29de0c275291da8b57056f3f2126e42ac8d005ff9ce9e2e249e75b", func := "kerbstone/kerbstonelaw07.PlanStops", spec := "planStops", unfollowed := true, recurses := true, apart := false }
def PlanStopsSaid : Prop := planStopsRow.holds Try.pinned (OpenSpec.ofChange planStopsSpec)

/-- ITS FALSE NEIGHBOUR: 'it returns false'. Refute it at one input. -/
def planStopsWrong : ChangeSpec := { name := "planStops", fn := fun _ => fun
  | [d1, d2, d3, d4, d5] => { results := [.lit (.bool false)], args := [d1, d2, d3, d4, d5] }
  | _ => none }
def PlanStopsWrongFalsely : Prop := planStopsRow.holds Try.pinned (OpenSpec.ofChange planStopsWrong)

/-- 'kerbstonelaw07.PlanChecks': WHATEVER THE INPUT: true; the input reads as it did. -/
def planChecksSpec : ChangeSpec := { name := "planChecks", fn := fun _ => fun
  | [d1, d2, d3, d4] => { results := [.lit (.bool true)], args := [d1, d2, d3, d4] }
  | _ => none }
def planChecksRow : OpenClaim := { program := "ytlcjcbdfabbddaa", sum := "b7e8e168ec29de0c275291da8b57056f3f2126e42ac8d005ff9ce9e2e249e75b", func := "kerbstone/kerbstonelaw07.PlanChecks", spec := "planChecks", unfollowed := true, recurses := true, apart := false }
def PlanChecksSaid : Prop := planChecksRow.holds Try.pinned (OpenSpec.ofChange planChecksSpec)

/-- ITS FALSE NEIGHBOUR: 'it returns false'. Refute it at one input. -/
def planChecksWrong : ChangeSpec := { name := "planChecks", fn := fun _ => fun
  | [d1, d2, d3, d4] => { results := [.lit (.bool false)], args := [d1, d2, d3, d4] }
  | _ => none }
def PlanChecksWrongFalsely : Prop := planChecksRow.holds Try.pinned (OpenSpec.ofChange planChecksWrong)

/-- 'kerbstonelaw07.PlanKnown': WHATEVER THE INPUT: true; the input reads as it did. -/
def planKnownSpec : ChangeSpec := { name := "planKnown", fn := fun _ => fun
  | [] => { results := [.lit (.bool true)], args := [] }
  | _ => none }
def planKnownRow : OpenClaim := { program := "ytlcjcbdfabbddaa", sum := "b7e8e168ec29de0c275291da8b57056f3f2126e42ac8d005ff9ce9e2e249e75b", func := "kerbstone/kerbstonelaw07.PlanKnown", spec := "planKnown", unfollowed := true, recurses := true, apart := false }
def PlanKnownSaid : Prop := planKnownRow.holds Try.pinned (OpenSpec.ofChange planKnownSpec)

/-- ITS FALSE NEIGHBOUR: 'it returns false'. Refute it at one input. -/
def planKnownWrong : ChangeSpec := { name := "planKnown", fn := fun _ => fun
  | [] => { results := [.lit (.bool false)], args := [] }
  | _ => none }
def PlanKnownWrongFalsely : Prop := planKnownRow.holds Try.pinned (OpenSpec.ofChange planKnownWrong)

/- THE SECOND FORM. 'bulk': how many values and letters a reading holds, each counted each time it is reached (what is shared counts as often as it is met; a slice's spare places count too). A statement '..UptoSaid' is the law's where the arguments, and the package variables that the reading takes, are together of bulk at most 1048576: NARROWER than '..Said'. Prove '..Said' where nothing that the law and all that it calls make is longer than what came in: it says more and counts as full. Else prove '..UptoSaid'. A law counts once. -/
mutual
def uptoBulk {H : Type} : DataW H → Nat
  | .lit (.string bytes) => bytes.length + 1
  | .lit _ => 1
  | .nil => 1
  | .ptr d => uptoBulk d + 1
  | .slice elems spare => uptoBulkAll elems + uptoBulkAll spare + 1
  | .agg parts => uptoBulkAll parts + 1
  | .iface _ d => uptoBulk d + 1
  | .map entries => uptoBulkEntries entries + 1
  | .held _ => 1
def uptoBulkAll {H : Type} : List (DataW H) → Nat
  | [] => 0
  | d :: r => uptoBulk d + uptoBulkAll r
def uptoBulkEntries {H : Type} : List (Lit × DataW H) → Nat
  | [] => 0
  | x :: r => uptoBulkEntry x + uptoBulkEntries r
def uptoBulkEntry {H : Type} : Lit × DataW H → Nat
  | (.string bytes, d) => bytes.length + uptoBulk d + 1
  | (_, d) => uptoBulk d + 1
 end
def uptoSmall : (H : Type) → List (DataW H) → Bool := fun _ ds => decide (uptoBulkAll ds ≤ 1048576)
def OpenSpec.upto (s : _root_.Go.ChangeSpec) : _root_.Go.OpenSpec := { _root_.Go.OpenSpec.ofChange s with cond := some uptoSmall }

/-- 'kerbstonelaw07.PlanValid', WHERE WHAT IT READS IS OF BULK AT MOST 1048576: true; the input reads as it did. -/
def planValidUptoRow : OpenClaim := { program := "ytlcjcbdfabbddaa", sum := "b7e8e168ec29de0c275291da8b57056f3f2126e42ac8d005ff9ce9e2e249e75b", func := "kerbstone/kerbstonelaw07.PlanValid", spec := "planValid", unfollowed := true, recurses := true, apart := false, narrowed := true }
def PlanValidUptoSaid : Prop := planValidUptoRow.holds Try.pinned (OpenSpec.upto planValidSpec)

/-- 'kerbstonelaw07.PlanStops', WHERE WHAT IT READS IS OF BULK AT MOST 1048576: true; the input reads as it did. -/
def planStopsUptoRow : OpenClaim := { program := "ytlcjcbdfabbddaa", sum := "b7e8e168ec29de0c275291da8b57056f3f2126e42ac8d005ff9ce9e2e249e75b", func := "kerbstone/kerbstonelaw07.PlanStops", spec := "planStops", unfollowed := true, recurses := true, apart := false, narrowed := true }
def PlanStopsUptoSaid : Prop := planStopsUptoRow.holds Try.pinned (OpenSpec.upto planStopsSpec)

/-- 'kerbstonelaw07.PlanChecks', WHERE WHAT IT READS IS OF BULK AT MOST 1048576: true; the input reads as it did. -/
def planChecksUptoRow : OpenClaim := { program := "ytlcjcbdfabbddaa", sum := "b7e8e168ec29de0c275291da8b57056f3f2126e42ac8d005ff9ce9e2e249e75b", func := "kerbstone/kerbstonelaw07.PlanChecks", spec := "planChecks", unfollowed := true, recurses := true, apart := false, narrowed := true }
def PlanChecksUptoSaid : Prop := planChecksUptoRow.holds Try.pinned (OpenSpec.upto planChecksSpec)

/-- 'kerbstonelaw07.PlanKnown', WHERE WHAT IT READS IS OF BULK AT MOST 1048576: true; the input reads as it did. -/
def planKnownUptoRow : OpenClaim := { program := "ytlcjcbdfabbddaa", sum := "b7e8e168ec29de0c275291da8b57056f3f2126e42ac8d005ff9ce9e2e249e75b", func := "kerbstone/kerbstonelaw07.PlanKnown", spec := "planKnown", unfollowed := true, recurses := true, apart := false, narrowed := true }
def PlanKnownUptoSaid : Prop := planKnownUptoRow.holds Try.pinned (OpenSpec.upto planKnownSpec)

end Rows
end Go.Proofs.Ytlcjcbdfabbddaa
