/-
  No cell of these rows narrows 'for every input' (looked for: loops, veiled, ifaces, maps, wideKeys, modest, calm, conditions, laid).
  DERIVED. THE GIVEN ROWS OF THIS SEAT. 8 by the template 'for every input the law returns true; each argument reads behind the call as it read before'; 0 by the template 'total and deterministic' (their statements: YtammkplkmigccaaGreatTotals.lean).
  GIVEN WITH THE SEED: the statements are not yours to turn. If you find one false, say at which input.
  Laid BY PROGRAM, IN A SANDBOX (cutbox-rows.mjs): the forced cells as the released guide's own fill.sh prints them over the translation 4a9df5f57dfc9095… (all of the seat's roots in one cut). By AI agents, Wed Nov 11 2026. No macro, syntax, notation, axiom, sorry.
-/
import Derived.Test.YtammkplkmigccaaGreatChecked
import GoSem.Claim
import GoSem.ClaimJoined
import GoSem.ClaimMapViews
import Derived.JoinedTies
import Derived.KernelRfl
namespace Go.Proofs.YtammkplkmigccaaGreat
/- THE CELL 'sum', in the pinned program and in every row, IS THE sha256 OF THE DUMP (.gsa) THAT YtammkplkmigccaaGreatProg.lean LOADS. Nothing in Lean hashes anything: it is a label: what it is worth is what the hold of that sum in a sandbox is worth. -/
noncomputable def Tryz.pinned : Pinned := { name := "ytammkplkmigccaagreat", sum := "4a9df5f57dfc909553ccd647482f8162617bef2e3db826754c2186d5040327cf", checked := Tryz.checked }
namespace Rows
def none {H : Type} : Left H := { results := [], args := [] }

/-- 'kerbstonelaw05.TrackCompares': WHATEVER THE INPUT: true; the input reads as it did. -/
def trackComparesSpec : ChangeSpec := { name := "trackCompares", fn := fun _ => fun
  | [d1, d2, d3, d4] => { results := [.lit (.bool true)], args := [d1, d2, d3, d4] }
  | _ => none }
def trackComparesRow : OpenClaim := { program := "ytammkplkmigccaagreat", sum := "4a9df5f57dfc909553ccd647482f8162617bef2e3db826754c2186d5040327cf", func := "kerbstone/kerbstonelaw05.TrackCompares", spec := "trackCompares", unfollowed := true, recurses := true, apart := false }
def TrackComparesSaid : Prop := trackComparesRow.holds Tryz.pinned (OpenSpec.ofChange trackComparesSpec)

/-- ITS FALSE NEIGHBOUR: 'it returns false'. Refute it at one input. -/
def trackComparesWrong : ChangeSpec := { name := "trackCompares", fn := fun _ => fun
  | [d1, d2, d3, d4] => { results := [.lit (.bool false)], args := [d1, d2, d3, d4] }
  | _ => none }
def TrackComparesWrongFalsely : Prop := trackComparesRow.holds Tryz.pinned (OpenSpec.ofChange trackComparesWrong)

/-- 'kerbstonelaw05.TrackFinds': WHATEVER THE INPUT: true; the input reads as it did. -/
def trackFindsSpec : ChangeSpec := { name := "trackFinds", fn := fun _ => fun
  | [d1, d2, d3, d4] => { results := [.lit (.bool true)], args := [d1, d2, d3, d4] }
  | _ => none }
def trackFindsRow : OpenClaim := { program := "ytammkplkmigccaagreat", sum := "4a9df5f57dfc909553ccd647482f8162617bef2e3db826754c2186d5040327cf", func := "kerbstone/kerbstonelaw05.TrackFinds", spec := "trackFinds", unfollowed := true, recurses := true, apart := false }
def TrackFindsSaid : Prop := trackFindsRow.holds Tryz.pinned (OpenSpec.ofChange trackFindsSpec)

/-- ITS FALSE NEIGHBOUR: 'it returns false'. Refute it at one input. -/
def trackFindsWrong : ChangeSpec := { name := "trackFinds", fn := fun _ => fun
  | [d1, d2, d3, d4] => { results := [.lit (.bool false)], args := [d1, d2, d3, d4] }
  | _ => none }
def TrackFindsWrongFalsely : Prop := trackFindsRow.holds Tryz.pinned (OpenSpec.ofChange trackFindsWrong)

/-- 'kerbstonelaw05.TrackUpdated': WHATEVER THE INPUT: true; the input reads as it did. -/
def trackUpdatedSpec : ChangeSpec := { name := "trackUpdated", fn := fun _ => fun
  | [d1, d2, d3, d4, d5, d6, d7] => { results := [.lit (.bool true)], args := [d1, d2, d3, d4, d5, d6, d7] }
  | _ => none }
def trackUpdatedRow : OpenClaim := { program := "ytammkplkmigccaagreat", sum := "4a9df5f57dfc909553ccd647482f8162617bef2e3db826754c2186d5040327cf", func := "kerbstone/kerbstonelaw05.TrackUpdated", spec := "trackUpdated", unfollowed := true, recurses := true, apart := false }
def TrackUpdatedSaid : Prop := trackUpdatedRow.holds Tryz.pinned (OpenSpec.ofChange trackUpdatedSpec)

/-- ITS FALSE NEIGHBOUR: 'it returns false'. Refute it at one input. -/
def trackUpdatedWrong : ChangeSpec := { name := "trackUpdated", fn := fun _ => fun
  | [d1, d2, d3, d4, d5, d6, d7] => { results := [.lit (.bool false)], args := [d1, d2, d3, d4, d5, d6, d7] }
  | _ => none }
def TrackUpdatedWrongFalsely : Prop := trackUpdatedRow.holds Tryz.pinned (OpenSpec.ofChange trackUpdatedWrong)

/-- 'kerbstonelaw05.TrackScans': WHATEVER THE INPUT: true; the input reads as it did. -/
def trackScansSpec : ChangeSpec := { name := "trackScans", fn := fun _ => fun
  | [d1, d2, d3, d4, d5, d6] => { results := [.lit (.bool true)], args := [d1, d2, d3, d4, d5, d6] }
  | _ => none }
def trackScansRow : OpenClaim := { program := "ytammkplkmigccaagreat", sum := "4a9df5f57dfc909553ccd647482f8162617bef2e3db826754c2186d5040327cf", func := "kerbstone/kerbstonelaw05.TrackScans", spec := "trackScans", unfollowed := true, recurses := true, apart := false }
def TrackScansSaid : Prop := trackScansRow.holds Tryz.pinned (OpenSpec.ofChange trackScansSpec)

/-- ITS FALSE NEIGHBOUR: 'it returns false'. Refute it at one input. -/
def trackScansWrong : ChangeSpec := { name := "trackScans", fn := fun _ => fun
  | [d1, d2, d3, d4, d5, d6] => { results := [.lit (.bool false)], args := [d1, d2, d3, d4, d5, d6] }
  | _ => none }
def TrackScansWrongFalsely : Prop := trackScansRow.holds Tryz.pinned (OpenSpec.ofChange trackScansWrong)

/-- 'kerbstonelaw05.TrackSteps': WHATEVER THE INPUT: true; the input reads as it did. -/
def trackStepsSpec : ChangeSpec := { name := "trackSteps", fn := fun _ => fun
  | [d1, d2, d3, d4, d5, d6] => { results := [.lit (.bool true)], args := [d1, d2, d3, d4, d5, d6] }
  | _ => none }
def trackStepsRow : OpenClaim := { program := "ytammkplkmigccaagreat", sum := "4a9df5f57dfc909553ccd647482f8162617bef2e3db826754c2186d5040327cf", func := "kerbstone/kerbstonelaw05.TrackSteps", spec := "trackSteps", unfollowed := true, recurses := true, apart := false }
def TrackStepsSaid : Prop := trackStepsRow.holds Tryz.pinned (OpenSpec.ofChange trackStepsSpec)

/-- ITS FALSE NEIGHBOUR: 'it returns false'. Refute it at one input. -/
def trackStepsWrong : ChangeSpec := { name := "trackSteps", fn := fun _ => fun
  | [d1, d2, d3, d4, d5, d6] => { results := [.lit (.bool false)], args := [d1, d2, d3, d4, d5, d6] }
  | _ => none }
def TrackStepsWrongFalsely : Prop := trackStepsRow.holds Tryz.pinned (OpenSpec.ofChange trackStepsWrong)

/-- 'kerbstonelaw05.TrackContains': WHATEVER THE INPUT: true; the input reads as it did. -/
def trackContainsSpec : ChangeSpec := { name := "trackContains", fn := fun _ => fun
  | [d1, d2, d3, d4, d5, d6] => { results := [.lit (.bool true)], args := [d1, d2, d3, d4, d5, d6] }
  | _ => none }
def trackContainsRow : OpenClaim := { program := "ytammkplkmigccaagreat", sum := "4a9df5f57dfc909553ccd647482f8162617bef2e3db826754c2186d5040327cf", func := "kerbstone/kerbstonelaw05.TrackContains", spec := "trackContains", unfollowed := true, recurses := true, apart := false }
def TrackContainsSaid : Prop := trackContainsRow.holds Tryz.pinned (OpenSpec.ofChange trackContainsSpec)

/-- ITS FALSE NEIGHBOUR: 'it returns false'. Refute it at one input. -/
def trackContainsWrong : ChangeSpec := { name := "trackContains", fn := fun _ => fun
  | [d1, d2, d3, d4, d5, d6] => { results := [.lit (.bool false)], args := [d1, d2, d3, d4, d5, d6] }
  | _ => none }
def TrackContainsWrongFalsely : Prop := trackContainsRow.holds Tryz.pinned (OpenSpec.ofChange trackContainsWrong)

/-- 'kerbstonelaw05.TrackMonotone': WHATEVER THE INPUT: true; the input reads as it did. -/
def trackMonotoneSpec : ChangeSpec := { name := "trackMonotone", fn := fun _ => fun
  | [d1, d2, d3, d4, d5, d6, d7] => { results := [.lit (.bool true)], args := [d1, d2, d3, d4, d5, d6, d7] }
  | _ => none }
def trackMonotoneRow : OpenClaim := { program := "ytammkplkmigccaagreat", sum := "4a9df5f57dfc909553ccd647482f8162617bef2e3db826754c2186d5040327cf", func := "kerbstone/kerbstonelaw05.TrackMonotone", spec := "trackMonotone", unfollowed := true, recurses := true, apart := false }
def TrackMonotoneSaid : Prop := trackMonotoneRow.holds Tryz.pinned (OpenSpec.ofChange trackMonotoneSpec)

/-- ITS FALSE NEIGHBOUR: 'it returns false'. Refute it at one input. -/
def trackMonotoneWrong : ChangeSpec := { name := "trackMonotone", fn := fun _ => fun
  | [d1, d2, d3, d4, d5, d6, d7] => { results := [.lit (.bool false)], args := [d1, d2, d3, d4, d5, d6, d7] }
  | _ => none }
def TrackMonotoneWrongFalsely : Prop := trackMonotoneRow.holds Tryz.pinned (OpenSpec.ofChange trackMonotoneWrong)

/-- 'kerbstonelaw05.TrackValid': WHATEVER THE INPUT: true; the input reads as it did. -/
def trackValidSpec : ChangeSpec := { name := "trackValid", fn := fun _ => fun
  | [d1, d2, d3, d4, d5, d6] => { results := [.lit (.bool true)], args := [d1, d2, d3, d4, d5, d6] }
  | _ => none }
def trackValidRow : OpenClaim := { program := "ytammkplkmigccaagreat", sum := "4a9df5f57dfc909553ccd647482f8162617bef2e3db826754c2186d5040327cf", func := "kerbstone/kerbstonelaw05.TrackValid", spec := "trackValid", unfollowed := true, recurses := true, apart := false }
def TrackValidSaid : Prop := trackValidRow.holds Tryz.pinned (OpenSpec.ofChange trackValidSpec)

/-- ITS FALSE NEIGHBOUR: 'it returns false'. Refute it at one input. -/
def trackValidWrong : ChangeSpec := { name := "trackValid", fn := fun _ => fun
  | [d1, d2, d3, d4, d5, d6] => { results := [.lit (.bool false)], args := [d1, d2, d3, d4, d5, d6] }
  | _ => none }
def TrackValidWrongFalsely : Prop := trackValidRow.holds Tryz.pinned (OpenSpec.ofChange trackValidWrong)

/- THE SECOND FORM. 'bulk': how many values and letters a reading holds, each counted each time it is reached (what is shared counts as often as it is met; a slice's spare places count too). A statement '..UptoSaid' is the law's where the arguments, and the package variables that the reading takes, are together of bulk at most 1048576: NARROWER than '..Said'. Prove '..Said' where nothing that the law and all that it calls make is longer than what came in: it says more and counts as full. Else prove '..UptoSaid'. A law counts once. -/
mutual
def uptoBulk {H : Type} : DataW H → Nat
  | .lit (.string bytes) => bytes.length + 1
  | .lit _ => 1
  | .nil => 1
  | .ptr d => uptoBulk d + 1
  | .slice elems spare => uptoBulkAll elems + uptoBulkAll spare + 1
  | .agg parts => uptoBulkAll parts + 1
  | .iface _ d => uptoBulk d + 1
  | .map entries => uptoBulkEntries entries + 1
  | .held _ => 1
def uptoBulkAll {H : Type} : List (DataW H) → Nat
  | [] => 0
  | d :: r => uptoBulk d + uptoBulkAll r
def uptoBulkEntries {H : Type} : List (Lit × DataW H) → Nat
  | [] => 0
  | x :: r => uptoBulkEntry x + uptoBulkEntries r
def uptoBulkEntry {H : Type} : Lit × DataW H → Nat
  | (.string bytes, d) => bytes.length + uptoBulk d + 1
  | (_, d) => uptoBulk d + 1
 end
def uptoSmall : (H : Type) → List (DataW H) → Bool := fun _ ds => decide (uptoBulkAll ds ≤ 1048576)
def OpenSpec.upto (s : _root_.Go.ChangeSpec) : _root_.Go.OpenSpec := { _root_.Go.OpenSpec.ofChange s with cond := some uptoSmall }

/-- 'kerbstonelaw05.TrackCompares', WHERE WHAT IT READS IS OF BULK AT MOST 1048576: true; the input reads as it did. -/
def trackComparesUptoRow : OpenClaim := { program := "ytammkplkmigccaagreat", sum := "4a9df5f57dfc909553ccd647482f8162617bef2e3db826754c2186d5040327cf", func := "kerbstone/kerbstonelaw05.TrackCompares", spec := "trackCompares", unfollowed := true, recurses := true, apart := false, narrowed := true }
def TrackComparesUptoSaid : Prop := trackComparesUptoRow.holds Tryz.pinned (OpenSpec.upto trackComparesSpec)

/-- 'kerbstonelaw05.TrackFinds', WHERE WHAT IT READS IS OF BULK AT MOST 1048576: true; the input reads as it did. -/
def trackFindsUptoRow : OpenClaim := { program := "ytammkplkmigccaagreat", sum := "4a9df5f57dfc909553ccd647482f8162617bef2e3db826754c2186d5040327cf", func := "kerbstone/kerbstonelaw05.TrackFinds", spec := "trackFinds", unfollowed := true, recurses := true, apart := false, narrowed := true }
def TrackFindsUptoSaid : Prop := trackFindsUptoRow.holds Tryz.pinned (OpenSpec.upto trackFindsSpec)

/-- 'kerbstonelaw05.TrackUpdated', WHERE WHAT IT READS IS OF BULK AT MOST 1048576: true; the input reads as it did. -/
def trackUpdatedUptoRow : OpenClaim := { program := "ytammkplkmigccaagreat", sum := "4a9df5f57dfc909553ccd647482f8162617bef2e3db826754c2186d5040327cf", func := "kerbstone/kerbstonelaw05.TrackUpdated", spec := "trackUpdated", unfollowed := true, recurses := true, apart := false, narrowed := true }
def TrackUpdatedUptoSaid : Prop := trackUpdatedUptoRow.holds Tryz.pinned (OpenSpec.upto trackUpdatedSpec)

/-- 'kerbstonelaw05.TrackScans', WHERE WHAT IT READS IS OF BULK AT MOST 1048576: true; the input reads as it did. -/
def trackScansUptoRow : OpenClaim := { program := "ytammkplkmigccaagreat", sum := "4a9df5f57dfc909553ccd647482f8162617bef2e3db826754c2186d5040327cf", func := "kerbstone/kerbstonelaw05.TrackScans", spec := "trackScans", unfollowed := true, recurses := true, apart := false, narrowed := true }
def TrackScansUptoSaid : Prop := trackScansUptoRow.holds Tryz.pinned (OpenSpec.upto trackScansSpec)

/-- 'kerbstonelaw05.TrackSteps', WHERE WHAT IT READS IS OF BULK AT MOST 1048576: true; the input reads as it did. -/
def trackStepsUptoRow : OpenClaim := { program := "ytammkplkmigccaagreat", sum := "4a9df5f57dfc909553ccd647482f8162617bef2e3db826754c2186d5040327cf", func := "kerbstone/kerbstonelaw05.TrackSteps", spec := "trackSteps", unfollowed := true, recurses := true, apart := false, narrowed := true }
def TrackStepsUptoSaid : Prop := trackStepsUptoRow.holds Tryz.pinned (OpenSpec.upto trackStepsSpec)

/-- 'kerbstonelaw05.TrackContains', WHERE WHAT IT READS IS OF BULK AT MOST 1048576: true; the input reads as it did. -/
def trackContainsUptoRow : OpenClaim := { program := "ytammkplkmigccaagreat", sum := "4a9df5f57dfc909553ccd647482f8162617bef2e3db826754c2186d5040327cf", func := "kerbstone/kerbstonelaw05.TrackContains", spec := "trackContains", unfollowed := true, recurses := true, apart := false, narrowed := true }
def TrackContainsUptoSaid : Prop := trackContainsUptoRow.holds Tryz.pinned (OpenSpec.upto trackContainsSpec)

/-- 'kerbstonelaw05.TrackMonotone', WHERE WHAT IT READS IS OF BULK AT MOST 1048576: true; the input reads as it did. -/
def trackMonotoneUptoRow : OpenClaim := { program := "ytammkplkmigccaagreat", sum := "4a9df5f57dfc909553ccd647482f8162617bef2e3db826754c2186d5040327cf", func := "kerbstone/kerbstonelaw05.TrackMonotone", spec := "trackMonotone", unfollowed := true, recurses := true, apart := false, narrowed := true }
def TrackMonotoneUptoSaid : Prop := trackMonotoneUptoRow.holds Tryz.pinned (OpenSpec.upto trackMonotoneSpec)

/-- 'kerbstonelaw05.TrackValid', WHERE WHAT IT READS IS OF BULK AT MOST 1048576: true; the input reads as it did. -/
def trackValidUptoRow : OpenClaim := { program := "ytammkplkmigccaagreat", sum := "4a9df5f57dfc909553ccd647482f8162617bef2e3db826754c2186d5040327cf", func := "kerbstone/kerbstonelaw05.TrackValid", spec := "trackValid", unfollowed := true, recurses := true, apart := false, narrowed := true }
def TrackValidUptoSaid : Prop := trackValidUptoRow.holds Tryz.pinned (OpenSpec.upto trackValidSpec)

end Rows
end Go.Proofs.YtammkplkmigccaaGreat
