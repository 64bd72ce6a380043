/-
  No cell of these rows narrows 'for every input' (looked for: loops, veiled, ifaces, maps, wideKeys, modest, calm, conditions, laid).
  DERIVED. THE GIVEN ROWS OF THIS SEAT. 7 by the template 'for every input the law returns true; each argument reads behind the call as it read before'; 0 by the template 'total and deterministic' (their statements: YtoeljnnolbplaaaTotals.lean).
  GIVEN WITH THE SEED: the statements are not yours to turn. If you find one false, say at which input.
  Laid BY PROGRAM, IN A SANDBOX (cutbox-rows.mjs): the forced cells as the released guide's own fill.sh prints them over the translation 10afa999edb0472a… (all of the seat's roots in one cut). By AI agents, Wed Nov 11 2026. No macro, syntax, notation, axiom, sorry.
-/
import Derived.Test.YtoeljnnolbplaaaChecked
import GoSem.Claim
import GoSem.ClaimJoined
import GoSem.ClaimMapViews
import Derived.JoinedTies
import Derived.KernelRfl
namespace Go.Proofs.Ytoeljnnolbplaaa
/- THE CELL 'sum', in the pinned program and in every row, IS THE sha256 OF THE DUMP (.gsa) THAT YtoeljnnolbplaaaProg.lean LOADS. Nothing in Lean hashes anything: it is a label: what it is worth is what the hold of that sum in a sandbox is worth. -/
noncomputable def Try.pinned : Pinned := { name := "ytoeljnnolbplaaa", sum := "10afa999edb0472a580031bb67bc5aea47e657ce429d322e8045fdbb2f2e0f54", checked := Try.checked }
namespace Rows
def none {H : Type} : Left H := { results := [], args := [] }

/-- 'kerbstonelaw07.PlanValid': WHATEVER THE INPUT: true; the input reads as it did. -/
def planValidSpec : ChangeSpec := { name := "planValid", fn := fun _ => fun
  | [d1, d2, d3, d4, d5, d6] => { results := [.lit (.bool true)], args := [d1, d2, d3, d4, d5, d6] }
  | _ => none }
def planValidRow : OpenClaim := { program := "ytoeljnnolbplaaa", sum := "10afa999edb0472a580031bb67bc5aea47e657ce429d322e8045fdbb2f2e0f54", func := "kerbstone/kerbstonelaw07.PlanValid", spec := "planValid", unfollowed := true, recurses := true, apart := false }
def PlanValidSaid : Prop := planValidRow.holds Try.pinned (OpenSpec.ofChange planValidSpec)

/-- ITS FALSE NEIGHBOUR: 'it returns false'. Refute it at one input. -/
def planValidWrong : ChangeSpec := { name := "planValid", fn := fun _ => fun
  | [d1, d2, d3, d4, d5, d6] => { results := [.lit (.bool false)], args := [d1, d2, d3, d4, d5, d6] }
  | _ => none }
def PlanValidWrongFalsely : Prop := planValidRow.holds Try.pinned (OpenSpec.ofChange planValidWrong)

/-- 'kerbstonelaw07.PlanStops': WHATEVER THE INPUT: true; the input reads as it did. -/
def planStopsSpec : ChangeSpec := { name := "planStops", fn := fun _ => fun
  | [d1, d2, d3, d4, d5] => { results := [.lit (.bool true)], args := [d1, d2, d3, d4, d5] }
  | _ => none }
def planStopsRow : OpenClaim := { program := "ytoeljnnolbplaaa", sum := "10afa999edb0472a580031bb67bc5aea47e657ce429d322e8045fdbb2f2e0f54", func := "kerbstone/kerbstonelaw07.PlanStops", spec := "planStops", unfollowed := true, recurses := true, apart := false }
def PlanStopsSaid : Prop := planStopsRow.holds Try.pinned (OpenSpec.ofChange planStopsSpec)

/-- ITS FALSE NEIGHBOUR: 'it returns false'. Refute it at one input. -/
def planStopsWrong : ChangeSpec := { name := "planStops", fn := fun _ => fun
  | [d1, d2, d3, d4, d5] => { results := [.lit (.bool false)], args := [d1, d2, d3, d4, d5] }
  | _ => none }
def PlanStopsWrongFalsely : Prop := planStopsRow.holds Try.pinned (OpenSpec.ofChange planStopsWrong)

/-- 'kerbstonelaw07.PlanChecks': WHATEVER THE INPUT: true; the input reads as it did. -/
def planChecksSpec : ChangeSpec := { name := "planChecks", fn := fun _ => fun
  | [d1, d2, d3, d4] => { results := [.lit (.bool true)], args := [d1, d2, d3, d4] }
  | _ => none }
def planChecksRow : OpenClaim := { program := "ytoeljnnolbplaaa", sum := "10afa999edb0472a580031bb67bc5aea47e657ce429d322e8045fdbb2f2e0f54", func := "kerbstone/kerbstonelaw07.PlanChecks", spec := "planChecks", unfollowed := true, recurses := true, apart := false }
def PlanChecksSaid : Prop := planChecksRow.holds Try.pinned (OpenSpec.ofChange planChecksSpec)

/-- ITS FALSE NEIGHBOUR: 'it returns false'. Refute it at one input. -/
def planChecksWrong : ChangeSpec := { name := "planChecks", fn := fun _ => fun
  | [d1, d2, d3, d4] => { results := [.lit (.bool false)], args := [d1, d2, d3, d4] }
  | _ => none }
def PlanChecksWrongFalsely : Prop := planChecksRow.holds Try.pinned (OpenSpec.ofChange planChecksWrong)

/-- 'kerbstonelaw07.PlanLeasts': WHATEVER THE INPUT: true; the input reads as it did. -/
def planLeastsSpec : ChangeSpec := { name := "planLeasts", fn := fun _ => fun
  | [d1, d2, d3, d4, d5] => { results := [.lit (.bool true)], args := [d1, d2, d3, d4, d5] }
  | _ => none }
def planLeastsRow : OpenClaim := { program := "ytoeljnnolbplaaa", sum := "10afa999edb0472a580031bb67bc5aea47e657ce429d322e8045fdbb2f2e0f54", func := "kerbstone/kerbstonelaw07.PlanLeasts", spec := "planLeasts", unfollowed := true, recurses := true, apart := false }
def PlanLeastsSaid : Prop := planLeastsRow.holds Try.pinned (OpenSpec.ofChange planLeastsSpec)

/-- ITS FALSE NEIGHBOUR: 'it returns false'. Refute it at one input. -/
def planLeastsWrong : ChangeSpec := { name := "planLeasts", fn := fun _ => fun
  | [d1, d2, d3, d4, d5] => { results := [.lit (.bool false)], args := [d1, d2, d3, d4, d5] }
  | _ => none }
def PlanLeastsWrongFalsely : Prop := planLeastsRow.holds Try.pinned (OpenSpec.ofChange planLeastsWrong)

/-- 'kerbstonelaw05.TrackChecks': WHATEVER THE INPUT: true; the input reads as it did. -/
def trackChecksSpec : ChangeSpec := { name := "trackChecks", fn := fun _ => fun
  | [d1, d2] => { results := [.lit (.bool true)], args := [d1, d2] }
  | _ => none }
def trackChecksRow : OpenClaim := { program := "ytoeljnnolbplaaa", sum := "10afa999edb0472a580031bb67bc5aea47e657ce429d322e8045fdbb2f2e0f54", func := "kerbstone/kerbstonelaw05.TrackChecks", spec := "trackChecks", unfollowed := true, recurses := true, apart := false }
def TrackChecksSaid : Prop := trackChecksRow.holds Try.pinned (OpenSpec.ofChange trackChecksSpec)

/-- ITS FALSE NEIGHBOUR: 'it returns false'. Refute it at one input. -/
def trackChecksWrong : ChangeSpec := { name := "trackChecks", fn := fun _ => fun
  | [d1, d2] => { results := [.lit (.bool false)], args := [d1, d2] }
  | _ => none }
def TrackChecksWrongFalsely : Prop := trackChecksRow.holds Try.pinned (OpenSpec.ofChange trackChecksWrong)

/-- 'kerbstonelaw05.TrackJoins': WHATEVER THE INPUT: true; the input reads as it did. -/
def trackJoinsSpec : ChangeSpec := { name := "trackJoins", fn := fun _ => fun
  | [d] => { results := [.lit (.bool true)], args := [d] }
  | _ => none }
def trackJoinsRow : OpenClaim := { program := "ytoeljnnolbplaaa", sum := "10afa999edb0472a580031bb67bc5aea47e657ce429d322e8045fdbb2f2e0f54", func := "kerbstone/kerbstonelaw05.TrackJoins", spec := "trackJoins", unfollowed := true, recurses := true, apart := false }
def TrackJoinsSaid : Prop := trackJoinsRow.holds Try.pinned (OpenSpec.ofChange trackJoinsSpec)

/-- ITS FALSE NEIGHBOUR: 'it returns false'. Refute it at one input. -/
def trackJoinsWrong : ChangeSpec := { name := "trackJoins", fn := fun _ => fun
  | [d] => { results := [.lit (.bool false)], args := [d] }
  | _ => none }
def TrackJoinsWrongFalsely : Prop := trackJoinsRow.holds Try.pinned (OpenSpec.ofChange trackJoinsWrong)

/-- 'kerbstonelaw05.TrackMarks': WHATEVER THE INPUT: true; the input reads as it did. -/
def trackMarksSpec : ChangeSpec := { name := "trackMarks", fn := fun _ => fun
  | [d1, d2] => { results := [.lit (.bool true)], args := [d1, d2] }
  | _ => none }
def trackMarksRow : OpenClaim := { program := "ytoeljnnolbplaaa", sum := "10afa999edb0472a580031bb67bc5aea47e657ce429d322e8045fdbb2f2e0f54", func := "kerbstone/kerbstonelaw05.TrackMarks", spec := "trackMarks", unfollowed := true, recurses := true, apart := false }
def TrackMarksSaid : Prop := trackMarksRow.holds Try.pinned (OpenSpec.ofChange trackMarksSpec)

/-- ITS FALSE NEIGHBOUR: 'it returns false'. Refute it at one input. -/
def trackMarksWrong : ChangeSpec := { name := "trackMarks", fn := fun _ => fun
  | [d1, d2] => { results := [.lit (.bool false)], args := [d1, d2] }
  | _ => none }
def TrackMarksWrongFalsely : Prop := trackMarksRow.holds Try.pinned (OpenSpec.ofChange trackMarksWrong)

/- THE SECOND FORM. 'bulk': how many values and letters a reading holds, each counted each time it is reached (what is shared counts as often as it is met; a slice's spare places count too). A statement '..UptoSaid' is the law's where the arguments, and the package variables that the reading takes, are together of bulk at most 1048576: NARROWER than '..Said'. Prove '..Said' where nothing that the law and all that it calls make is longer than what came in: it says more and counts as full. Else prove '..UptoSaid'. A law counts once. -/
mutual
def uptoBulk {H : Type} : DataW H → Nat
  | .lit (.string bytes) => bytes.length + 1
  | .lit _ => 1
  | .nil => 1
  | .ptr d => uptoBulk d + 1
  | .slice elems spare => uptoBulkAll elems + uptoBulkAll spare + 1
  | .agg parts => uptoBulkAll parts + 1
  | .iface _ d => uptoBulk d + 1
  | .map entries => uptoBulkEntries entries + 1
  | .held _ => 1
def uptoBulkAll {H : Type} : List (DataW H) → Nat
  | [] => 0
  | d :: r => uptoBulk d + uptoBulkAll r
def uptoBulkEntries {H : Type} : List (Lit × DataW H) → Nat
  | [] => 0
  | x :: r => uptoBulkEntry x + uptoBulkEntries r
def uptoBulkEntry {H : Type} : Lit × DataW H → Nat
  | (.string bytes, d) => bytes.length + uptoBulk d + 1
  | (_, d) => uptoBulk d + 1
 end
def uptoSmall : (H : Type) → List (DataW H) → Bool := fun _ ds => decide (uptoBulkAll ds ≤ 1048576)
def OpenSpec.upto (s : _root_.Go.ChangeSpec) : _root_.Go.OpenSpec := { _root_.Go.OpenSpec.ofChange s with cond := some uptoSmall }

/-- 'kerbstonelaw07.PlanValid', WHERE WHAT IT READS IS OF BULK AT MOST 1048576: true; the input reads as it did. -/
def planValidUptoRow : OpenClaim := { program := "ytoeljnnolbplaaa", sum := "10afa999edb0472a580031bb67bc5aea47e657ce429d322e8045fdbb2f2e0f54", func := "kerbstone/kerbstonelaw07.PlanValid", spec := "planValid", unfollowed := true, recurses := true, apart := false, narrowed := true }
def PlanValidUptoSaid : Prop := planValidUptoRow.holds Try.pinned (OpenSpec.upto planValidSpec)

/-- 'kerbstonelaw07.PlanStops', WHERE WHAT IT READS IS OF BULK AT MOST 1048576: true; the input reads as it did. -/
def planStopsUptoRow : OpenClaim := { program := "ytoeljnnolbplaaa", sum := "10afa999edb0472a580031bb67bc5aea47e657ce429d322e8045fdbb2f2e0f54", func := "kerbstone/kerbstonelaw07.PlanStops", spec := "planStops", unfollowed := true, recurses := true, apart := false, narrowed := true }
def PlanStopsUptoSaid : Prop := planStopsUptoRow.holds Try.pinned (OpenSpec.upto planStopsSpec)

/-- 'kerbstonelaw07.PlanChecks', WHERE WHAT IT READS IS OF BULK AT MOST 1048576: true; the input reads as it did. -/
def planChecksUptoRow : OpenClaim := { program := "ytoeljnnolbplaaa", sum := "10afa999edb0472a580031bb67bc5aea47e657ce429d322e8045fdbb2f2e0f54", func := "kerbstone/kerbstonelaw07.PlanChecks", spec := "planChecks", unfollowed := true, recurses := true, apart := false, narrowed := true }
def PlanChecksUptoSaid : Prop := planChecksUptoRow.holds Try.pinned (OpenSpec.upto planChecksSpec)

/-- 'kerbstonelaw07.PlanLeasts', WHERE WHAT IT READS IS OF BULK AT MOST 1048576: true; the input reads as it did. -/
def planLeastsUptoRow : OpenClaim := { program := "ytoeljnnolbplaaa", sum := "10afa999edb0472a580031bb67bc5aea47e657ce429d322e8045fdbb2f2e0f54", func := "kerbstone/kerbstonelaw07.PlanLeasts", spec := "planLeasts", unfollowed := true, recurses := true, apart := false, narrowed := true }
def PlanLeastsUptoSaid : Prop := planLeastsUptoRow.holds Try.pinned (OpenSpec.upto planLeastsSpec)

/-- 'kerbstonelaw05.TrackChecks', WHERE WHAT IT READS IS OF BULK AT MOST 1048576: true; the input reads as it did. -/
def trackChecksUptoRow : OpenClaim := { program := "ytoeljnnolbplaaa", sum := "10afa999edb0472a580031bb67bc5aea47e657ce429d322e8045fdbb2f2e0f54", func := "kerbstone/kerbstonelaw05.TrackChecks", spec := "trackChecks", unfollowed := true, recurses := true, apart := false, narrowed := true }
def TrackChecksUptoSaid : Prop := trackChecksUptoRow.holds Try.pinned (OpenSpec.upto trackChecksSpec)

/-- 'kerbstonelaw05.TrackJoins', WHERE WHAT IT READS IS OF BULK AT MOST 1048576: true; the input reads as it did. -/
def trackJoinsUptoRow : OpenClaim := { program := "ytoeljnnolbplaaa", sum := "10afa999edb0472a580031bb67bc5aea47e657ce429d322e8045fdbb2f2e0f54", func := "kerbstone/kerbstonelaw05.TrackJoins", spec := "trackJoins", unfollowed := true, recurses := true, apart := false, narrowed := true }
def TrackJoinsUptoSaid : Prop := trackJoinsUptoRow.holds Try.pinned (OpenSpec.upto trackJoinsSpec)

/-- 'kerbstonelaw05.TrackMarks', WHERE WHAT IT READS IS OF BULK AT MOST 1048576: true; the input reads as it did. -/
def trackMarksUptoRow : OpenClaim := { program := "ytoeljnnolbplaaa", sum := "10afa999edb0472a580031bb67bc5aea47e657ce429d322e8045fdbb2f2e0f54", func := "kerbstone/kerbstonelaw05.TrackMarks", spec := "trackMarks", unfollowed := true, recurses := true, apart := false, narrowed := true }
def TrackMarksUptoSaid : Prop := trackMarksUptoRow.holds Try.pinned (OpenSpec.upto trackMarksSpec)

end Rows
end Go.Proofs.Ytoeljnnolbplaaa
