/-
  No cell of these rows narrows 'for every input' (looked for: loops, veiled, ifaces, maps, wideKeys, modest, calm, conditions, laid).
  DERIVED. THE GIVEN ROWS OF THIS SEAT. 6 by the template 'for every input the law returns true; each argument reads behind the call as it read before'; 0 by the template 'total and deterministic' (their statements: YtdndkdliiojpiaaGreatTotals.lean).
  GIVEN WITH THE SEED: the statements are not yours to turn. If you find one false, say at which input.
  Laid BY PROGRAM, IN A SANDBOX (cutbox-rows.mjs): the forced cells as the released guide's own fill.sh prints them over the translation 04e063fc605ed88b… (all of the seat's roots in one cut). By AI agents, Wed Nov 11 2026. No macro, syntax, notation, axiom, sorry.
-/
import Derived.Test.YtdndkdliiojpiaaGreatChecked
import GoSem.Claim
import GoSem.ClaimJoined
import GoSem.ClaimMapViews
import Derived.JoinedTies
import Derived.KernelRfl
namespace Go.Proofs.YtdndkdliiojpiaaGreat
/- THE CELL 'sum', in the pinned program and in every row, IS THE sha256 OF THE DUMP (.gsa) THAT YtdndkdliiojpiaaGreatProg.lean LOADS. Nothing in Lean hashes anything: it is a label: what it is worth is what the hold of that sum in a sandbox is worth. -/
noncomputable def Tryz.pinned : Pinned := { name := "ytdndkdliiojpiaagreat", sum := "04e063fc605ed88b1169974339224752846239496ba4a59ba41e5b301ef0c478", checked := Tryz.checked }
namespace Rows
def none {H : Type} : Left H := { results := [], args := [] }

/-- 'kerbstonelaw08.DriveLess': WHATEVER THE INPUT: true; the input reads as it did. -/
def driveLessSpec : ChangeSpec := { name := "driveLess", fn := fun _ => fun
  | [d1, d2, d3] => { results := [.lit (.bool true)], args := [d1, d2, d3] }
  | _ => none }
def driveLessRow : OpenClaim := { program := "ytdndkdliiojpiaagreat", sum := "04e063fc605ed88b1169974339224752846239496ba4a59ba41e5b301ef0c478", func := "kerbstone/kerbstonelaw08.DriveLess", spec := "driveLess", unfollowed := true, recurses := true, apart := false }
def DriveLessSaid : Prop := driveLessRow.holds Tryz.pinned (OpenSpec.ofChange driveLessSpec)

/-- ITS FALSE NEIGHBOUR: 'it returns false'. Refute it at one input. -/
def driveLessWrong : ChangeSpec := { name := "driveLess", fn := fun _ => fun
  | [d1, d2, d3] => { results := [.lit (.bool false)], args := [d1, d2, d3] }
  | _ => none }
def DriveLessWrongFalsely : Prop := driveLessRow.holds Tryz.pinned (OpenSpec.ofChange driveLessWrong)

/-- 'kerbstonelaw08.DriveOrders': WHATEVER THE INPUT: true; the input reads as it did. -/
def driveOrdersSpec : ChangeSpec := { name := "driveOrders", fn := fun _ => fun
  | [d1, d2, d3] => { results := [.lit (.bool true)], args := [d1, d2, d3] }
  | _ => none }
def driveOrdersRow : OpenClaim := { program := "ytdndkdliiojpiaagreat", sum := "04e063fc605ed88b1169974339224752846239496ba4a59ba41e5b301ef0c478", func := "kerbstone/kerbstonelaw08.DriveOrders", spec := "driveOrders", unfollowed := true, recurses := true, apart := false }
def DriveOrdersSaid : Prop := driveOrdersRow.holds Tryz.pinned (OpenSpec.ofChange driveOrdersSpec)

/-- ITS FALSE NEIGHBOUR: 'it returns false'. Refute it at one input. -/
def driveOrdersWrong : ChangeSpec := { name := "driveOrders", fn := fun _ => fun
  | [d1, d2, d3] => { results := [.lit (.bool false)], args := [d1, d2, d3] }
  | _ => none }
def DriveOrdersWrongFalsely : Prop := driveOrdersRow.holds Tryz.pinned (OpenSpec.ofChange driveOrdersWrong)

/-- 'kerbstonelaw08.DrivePlans': WHATEVER THE INPUT: true; the input reads as it did. -/
def drivePlansSpec : ChangeSpec := { name := "drivePlans", fn := fun _ => fun
  | [d1, d2] => { results := [.lit (.bool true)], args := [d1, d2] }
  | _ => none }
def drivePlansRow : OpenClaim := { program := "ytdndkdliiojpiaagreat", sum := "04e063fc605ed88b1169974339224752846239496ba4a59ba41e5b301ef0c478", func := "kerbstone/kerbstonelaw08.DrivePlans", spec := "drivePlans", unfollowed := true, recurses := true, apart := false }
def DrivePlansSaid : Prop := drivePlansRow.holds Tryz.pinned (OpenSpec.ofChange drivePlansSpec)

/-- ITS FALSE NEIGHBOUR: 'it returns false'. Refute it at one input. -/
def drivePlansWrong : ChangeSpec := { name := "drivePlans", fn := fun _ => fun
  | [d1, d2] => { results := [.lit (.bool false)], args := [d1, d2] }
  | _ => none }
def DrivePlansWrongFalsely : Prop := drivePlansRow.holds Tryz.pinned (OpenSpec.ofChange drivePlansWrong)

/-- 'kerbstonelaw08.DriveActs': WHATEVER THE INPUT: true; the input reads as it did. -/
def driveActsSpec : ChangeSpec := { name := "driveActs", fn := fun _ => fun
  | [d1, d2, d3, d4] => { results := [.lit (.bool true)], args := [d1, d2, d3, d4] }
  | _ => none }
def driveActsRow : OpenClaim := { program := "ytdndkdliiojpiaagreat", sum := "04e063fc605ed88b1169974339224752846239496ba4a59ba41e5b301ef0c478", func := "kerbstone/kerbstonelaw08.DriveActs", spec := "driveActs", unfollowed := true, recurses := true, apart := false }
def DriveActsSaid : Prop := driveActsRow.holds Tryz.pinned (OpenSpec.ofChange driveActsSpec)

/-- ITS FALSE NEIGHBOUR: 'it returns false'. Refute it at one input. -/
def driveActsWrong : ChangeSpec := { name := "driveActs", fn := fun _ => fun
  | [d1, d2, d3, d4] => { results := [.lit (.bool false)], args := [d1, d2, d3, d4] }
  | _ => none }
def DriveActsWrongFalsely : Prop := driveActsRow.holds Tryz.pinned (OpenSpec.ofChange driveActsWrong)

/-- 'kerbstonelaw08.DriveSilent': WHATEVER THE INPUT: true; the input reads as it did. -/
def driveSilentSpec : ChangeSpec := { name := "driveSilent", fn := fun _ => fun
  | [d1, d2] => { results := [.lit (.bool true)], args := [d1, d2] }
  | _ => none }
def driveSilentRow : OpenClaim := { program := "ytdndkdliiojpiaagreat", sum := "04e063fc605ed88b1169974339224752846239496ba4a59ba41e5b301ef0c478", func := "kerbstone/kerbstonelaw08.DriveSilent", spec := "driveSilent", unfollowed := true, recurses := true, apart := false }
def DriveSilentSaid : Prop := driveSilentRow.holds Tryz.pinned (OpenSpec.ofChange driveSilentSpec)

/-- ITS FALSE NEIGHBOUR: 'it returns false'. Refute it at one input. -/
def driveSilentWrong : ChangeSpec := { name := "driveSilent", fn := fun _ => fun
  | [d1, d2] => { results := [.lit (.bool false)], args := [d1, d2] }
  | _ => none }
def DriveSilentWrongFalsely : Prop := driveSilentRow.holds Tryz.pinned (OpenSpec.ofChange driveSilentWrong)

/-- 'kerbstonelaw08.DriveCopies': WHATEVER THE INPUT: true; the input reads as it did. -/
def driveCopiesSpec : ChangeSpec := { name := "driveCopies", fn := fun _ => fun
  | [d1, d2, d3] => { results := [.lit (.bool true)], args := [d1, d2, d3] }
  | _ => none }
def driveCopiesRow : OpenClaim := { program := "ytdndkdliiojpiaagreat", sum := "04e063fc605ed88b1169974339224752846239496ba4a59ba41e5b301ef0c478", func := "kerbstone/kerbstonelaw08.DriveCopies", spec := "driveCopies", inPlace := ["maps.clone"], unfollowed := true, recurses := true, apart := false }
def DriveCopiesSaid : Prop := driveCopiesRow.holds Tryz.pinned (OpenSpec.ofChange driveCopiesSpec)

/-- ITS FALSE NEIGHBOUR: 'it returns false'. Refute it at one input. -/
def driveCopiesWrong : ChangeSpec := { name := "driveCopies", fn := fun _ => fun
  | [d1, d2, d3] => { results := [.lit (.bool false)], args := [d1, d2, d3] }
  | _ => none }
def DriveCopiesWrongFalsely : Prop := driveCopiesRow.holds Tryz.pinned (OpenSpec.ofChange driveCopiesWrong)

/- THE SECOND FORM. 'bulk': how many values and letters a reading holds, each counted each time it is reached (what is shared counts as often as it is met; a slice's spare places count too). A statement '..UptoSaid' is the law's where the arguments, and the package variables that the reading takes, are together of bulk at most 1048576: NARROWER than '..Said'. Prove '..Said' where nothing that the law and all that it calls make is longer than what came in: it says more and counts as full. Else prove '..UptoSaid'. A law counts once. -/
mutual
def uptoBulk {H : Type} : DataW H → Nat
  | .lit (.string bytes) => bytes.length + 1
  | .lit _ => 1
  | .nil => 1
  | .ptr d => uptoBulk d + 1
  | .slice elems spare => uptoBulkAll elems + uptoBulkAll spare + 1
  | .agg parts => uptoBulkAll parts + 1
  | .iface _ d => uptoBulk d + 1
  | .map entries => uptoBulkEntries entries + 1
  | .held _ => 1
def uptoBulkAll {H : Type} : List (DataW H) → Nat
  | [] => 0
  | d :: r => uptoBulk d + uptoBulkAll r
def uptoBulkEntries {H : Type} : List (Lit × DataW H) → Nat
  | [] => 0
  | x :: r => uptoBulkEntry x + uptoBulkEntries r
def uptoBulkEntry {H : Type} : Lit × DataW H → Nat
  | (.string bytes, d) => bytes.length + uptoBulk d + 1
  | (_, d) => uptoBulk d + 1
 end
def uptoSmall : (H : Type) → List (DataW H) → Bool := fun _ ds => decide (uptoBulkAll ds ≤ 1048576)
def OpenSpec.upto (s : _root_.Go.ChangeSpec) : _root_.Go.OpenSpec := { _root_.Go.OpenSpec.ofChange s with cond := some uptoSmall }

/-- 'kerbstonelaw08.DriveLess', WHERE WHAT IT READS IS OF BULK AT MOST 1048576: true; the input reads as it did. -/
def driveLessUptoRow : OpenClaim := { program := "ytdndkdliiojpiaagreat", sum := "04e063fc605ed88b1169974339224752846239496ba4a59ba41e5b301ef0c478", func := "kerbstone/kerbstonelaw08.DriveLess", spec := "driveLess", unfollowed := true, recurses := true, apart := false, narrowed := true }
def DriveLessUptoSaid : Prop := driveLessUptoRow.holds Tryz.pinned (OpenSpec.upto driveLessSpec)

/-- 'kerbstonelaw08.DriveOrders', WHERE WHAT IT READS IS OF BULK AT MOST 1048576: true; the input reads as it did. -/
def driveOrdersUptoRow : OpenClaim := { program := "ytdndkdliiojpiaagreat", sum := "04e063fc605ed88b1169974339224752846239496ba4a59ba41e5b301ef0c478", func := "kerbstone/kerbstonelaw08.DriveOrders", spec := "driveOrders", unfollowed := true, recurses := true, apart := false, narrowed := true }
def DriveOrdersUptoSaid : Prop := driveOrdersUptoRow.holds Tryz.pinned (OpenSpec.upto driveOrdersSpec)

/-- 'kerbstonelaw08.DrivePlans', WHERE WHAT IT READS IS OF BULK AT MOST 1048576: true; the input reads as it did. -/
def drivePlansUptoRow : OpenClaim := { program := "ytdndkdliiojpiaagreat", sum := "04e063fc605ed88b1169974339224752846239496ba4a59ba41e5b301ef0c478", func := "kerbstone/kerbstonelaw08.DrivePlans", spec := "drivePlans", unfollowed := true, recurses := true, apart := false, narrowed := true }
def DrivePlansUptoSaid : Prop := drivePlansUptoRow.holds Tryz.pinned (OpenSpec.upto drivePlansSpec)

/-- 'kerbstonelaw08.DriveActs', WHERE WHAT IT READS IS OF BULK AT MOST 1048576: true; the input reads as it did. -/
def driveActsUptoRow : OpenClaim := { program := "ytdndkdliiojpiaagreat", sum := "04e063fc605ed88b1169974339224752846239496ba4a59ba41e5b301ef0c478", func := "kerbstone/kerbstonelaw08.DriveActs", spec := "driveActs", unfollowed := true, recurses := true, apart := false, narrowed := true }
def DriveActsUptoSaid : Prop := driveActsUptoRow.holds Tryz.pinned (OpenSpec.upto driveActsSpec)

/-- 'kerbstonelaw08.DriveSilent', WHERE WHAT IT READS IS OF BULK AT MOST 1048576: true; the input reads as it did. -/
def driveSilentUptoRow : OpenClaim := { program := "ytdndkdliiojpiaagreat", sum := "04e063fc605ed88b1169974339224752846239496ba4a59ba41e5b301ef0c478", func := "kerbstone/kerbstonelaw08.DriveSilent", spec := "driveSilent", unfollowed := true, recurses := true, apart := false, narrowed := true }
def DriveSilentUptoSaid : Prop := driveSilentUptoRow.holds Tryz.pinned (OpenSpec.upto driveSilentSpec)

/-- 'kerbstonelaw08.DriveCopies', WHERE WHAT IT READS IS OF BULK AT MOST 1048576: true; the input reads as it did. -/
def driveCopiesUptoRow : OpenClaim := { program := "ytdndkdliiojpiaagreat", sum := "04e063fc605ed88b1169974339224752846239496ba4a59ba41e5b301ef0c478", func := "kerbstone/kerbstonelaw08.DriveCopies", spec := "driveCopies", inPlace := ["maps.clone"], unfollowed := true, recurses := true, apart := false, narrowed := true }
def DriveCopiesUptoSaid : Prop := driveCopiesUptoRow.holds Tryz.pinned (OpenSpec.upto driveCopiesSpec)

end Rows
end Go.Proofs.YtdndkdliiojpiaaGreat
