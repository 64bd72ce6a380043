/-
  No cell of these rows narrows 'for every input' (looked for: loops, veiled, ifaces, maps, wideKeys, modest, calm, conditions, laid).
  DERIVED. THE GIVEN ROWS OF THIS SEAT. 3 by the template 'for every input the law returns true; each argument reads behind the call as it read before'; 0 by the template 'total and deterministic' (their statements: YtgjbaackhdgknaaGreatTotals.lean).
  GIVEN WITH THE SEED: the statements are not yours to turn. If you find one false, say at which input.
  Laid BY PROGRAM, IN A SANDBOX (cutbox-rows.mjs): the forced cells as the released guide's own fill.sh prints them over the translation 7159cd2f0dfe7525… (all of the seat's roots in one cut). By AI agents, Wed Nov 11 2026. No macro, syntax, notation, axiom, sorry.
-/
import Derived.Test.YtgjbaackhdgknaaGreatChecked
import GoSem.Claim
import GoSem.ClaimJoined
import GoSem.ClaimMapViews
import Derived.JoinedTies
import Derived.KernelRfl
namespace Go.Proofs.YtgjbaackhdgknaaGreat
/- THE CELL 'sum', in the pinned program and in every row, IS THE sha256 OF THE DUMP (.gsa) THAT YtgjbaackhdgknaaGreatProg.lean LOADS. Nothing in Lean hashes anything: it is a label: what it is worth is what the hold of that sum in a sandbox is worth. -/
noncomputable def Tryz.pinned : Pinned := { name := "ytgjbaackhdgknaagreat", sum := "7159cd2f0dfe7525fe0cb37eba3d1e7622bfd37f5e46fdc47faf9fdcee336800", checked := Tryz.checked }
namespace Rows
def none {H : Type} : Left H := { results := [], args := [] }

/-- 'kerbstonelaw08.DriveActuates': WHATEVER THE INPUT: true; the input reads as it did. -/
def driveActuatesSpec : ChangeSpec := { name := "driveActuates", fn := fun _ => fun
  | [d1, d2, d3, d4, d5] => { results := [.lit (.bool true)], args := [d1, d2, d3, d4, d5] }
  | _ => none }
def driveActuatesRow : OpenClaim := { program := "ytgjbaackhdgknaagreat", sum := "7159cd2f0dfe7525fe0cb37eba3d1e7622bfd37f5e46fdc47faf9fdcee336800", func := "kerbstone/kerbstonelaw08.DriveActuates", spec := "driveActuates", unfollowed := true, recurses := true, apart := false }
def DriveActuatesSaid : Prop := driveActuatesRow.holds Tryz.pinned (OpenSpec.ofChange driveActuatesSpec)

/-- ITS FALSE NEIGHBOUR: 'it returns false'. Refute it at one input. -/
def driveActuatesWrong : ChangeSpec := { name := "driveActuates", fn := fun _ => fun
  | [d1, d2, d3, d4, d5] => { results := [.lit (.bool false)], args := [d1, d2, d3, d4, d5] }
  | _ => none }
def DriveActuatesWrongFalsely : Prop := driveActuatesRow.holds Tryz.pinned (OpenSpec.ofChange driveActuatesWrong)

/-- 'kerbstonelaw08.DriveKnown': WHATEVER THE INPUT: true; the input reads as it did. -/
def driveKnownSpec : ChangeSpec := { name := "driveKnown", fn := fun _ => fun
  | [] => { results := [.lit (.bool true)], args := [] }
  | _ => none }
def driveKnownRow : OpenClaim := { program := "ytgjbaackhdgknaagreat", sum := "7159cd2f0dfe7525fe0cb37eba3d1e7622bfd37f5e46fdc47faf9fdcee336800", func := "kerbstone/kerbstonelaw08.DriveKnown", spec := "driveKnown", unfollowed := true, recurses := true, apart := false }
def DriveKnownSaid : Prop := driveKnownRow.holds Tryz.pinned (OpenSpec.ofChange driveKnownSpec)

/-- ITS FALSE NEIGHBOUR: 'it returns false'. Refute it at one input. -/
def driveKnownWrong : ChangeSpec := { name := "driveKnown", fn := fun _ => fun
  | [] => { results := [.lit (.bool false)], args := [] }
  | _ => none }
def DriveKnownWrongFalsely : Prop := driveKnownRow.holds Tryz.pinned (OpenSpec.ofChange driveKnownWrong)

/-- 'kerbstonelaw08.DriveNil': WHATEVER THE INPUT: true; the input reads as it did. -/
def driveNilSpec : ChangeSpec := { name := "driveNil", fn := fun _ => fun
  | [d] => { results := [.lit (.bool true)], args := [d] }
  | _ => none }
def driveNilRow : OpenClaim := { program := "ytgjbaackhdgknaagreat", sum := "7159cd2f0dfe7525fe0cb37eba3d1e7622bfd37f5e46fdc47faf9fdcee336800", func := "kerbstone/kerbstonelaw08.DriveNil", spec := "driveNil", inPlace := ["maps.clone"], unfollowed := true, recurses := true, apart := false }
def DriveNilSaid : Prop := driveNilRow.holds Tryz.pinned (OpenSpec.ofChange driveNilSpec)

/-- ITS FALSE NEIGHBOUR: 'it returns false'. Refute it at one input. -/
def driveNilWrong : ChangeSpec := { name := "driveNil", fn := fun _ => fun
  | [d] => { results := [.lit (.bool false)], args := [d] }
  | _ => none }
def DriveNilWrongFalsely : Prop := driveNilRow.holds Tryz.pinned (OpenSpec.ofChange driveNilWrong)

/- THE SECOND FORM. 'bulk': how many values and letters a reading holds, each counted each time it is reached (what is shared counts as often as it is met; a slice's spare places count too). A statement '..UptoSaid' is the law's where the arguments, and the package variables that the reading takes, are together of bulk at most 1048576: NARROWER than '..Said'. Prove '..Said' where nothing that the law and all that it calls make is longer than what came in: it says more and counts as full. Else prove '..UptoSaid'. A law counts once. -/
mutual
def uptoBulk {H : Type} : DataW H → Nat
  | .lit (.string bytes) => bytes.length + 1
  | .lit _ => 1
  | .nil => 1
  | .ptr d => uptoBulk d + 1
  | .slice elems spare => uptoBulkAll elems + uptoBulkAll spare + 1
  | .agg parts => uptoBulkAll parts + 1
  | .iface _ d => uptoBulk d + 1
  | .map entries => uptoBulkEntries entries + 1
  | .held _ => 1
def uptoBulkAll {H : Type} : List (DataW H) → Nat
  | [] => 0
  | d :: r => uptoBulk d + uptoBulkAll r
def uptoBulkEntries {H : Type} : List (Lit × DataW H) → Nat
  | [] => 0
  | x :: r => uptoBulkEntry x + uptoBulkEntries r
def uptoBulkEntry {H : Type} : Lit × DataW H → Nat
  | (.string bytes, d) => bytes.length + uptoBulk d + 1
  | (_, d) => uptoBulk d + 1
 end
def uptoSmall : (H : Type) → List (DataW H) → Bool := fun _ ds => decide (uptoBulkAll ds ≤ 1048576)
def OpenSpec.upto (s : _root_.Go.ChangeSpec) : _root_.Go.OpenSpec := { _root_.Go.OpenSpec.ofChange s with cond := some uptoSmall }

/-- 'kerbstonelaw08.DriveActuates', WHERE WHAT IT READS IS OF BULK AT MOST 1048576: true; the input reads as it did. -/
def driveActuatesUptoRow : OpenClaim := { program := "ytgjbaackhdgknaagreat", sum := "7159cd2f0dfe7525fe0cb37eba3d1e7622bfd37f5e46fdc47faf9fdcee336800", func := "kerbstone/kerbstonelaw08.DriveActuates", spec := "driveActuates", unfollowed := true, recurses := true, apart := false, narrowed := true }
def DriveActuatesUptoSaid : Prop := driveActuatesUptoRow.holds Tryz.pinned (OpenSpec.upto driveActuatesSpec)

/-- 'kerbstonelaw08.DriveKnown', WHERE WHAT IT READS IS OF BULK AT MOST 1048576: true; the input reads as it did. -/
def driveKnownUptoRow : OpenClaim := { program := "ytgjbaackhdgknaagreat", sum := "7159cd2f0dfe7525fe0cb37eba3d1e7622bfd37f5e46fdc47faf9fdcee336800", func := "kerbstone/kerbstonelaw08.DriveKnown", spec := "driveKnown", unfollowed := true, recurses := true, apart := false, narrowed := true }
def DriveKnownUptoSaid : Prop := driveKnownUptoRow.holds Tryz.pinned (OpenSpec.upto driveKnownSpec)

/-- 'kerbstonelaw08.DriveNil', WHERE WHAT IT READS IS OF BULK AT MOST 1048576: true; the input reads as it did. -/
def driveNilUptoRow : OpenClaim := { program := "ytgjbaackhdgknaagreat", sum := "7159cd2f0dfe7525fe0cb37eba3d1e7622bfd37f5e46fdc47faf9fdcee336800", func := "kerbstone/kerbstonelaw08.DriveNil", spec := "driveNil", inPlace := ["maps.clone"], unfollowed := true, recurses := true, apart := false, narrowed := true }
def DriveNilUptoSaid : Prop := driveNilUptoRow.holds Tryz.pinned (OpenSpec.upto driveNilSpec)

end Rows
end Go.Proofs.YtgjbaackhdgknaaGreat
