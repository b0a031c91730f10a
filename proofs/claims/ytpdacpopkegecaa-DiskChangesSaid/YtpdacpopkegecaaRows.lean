/-
  No cell of these rows narrows 'for every input' (looked for: loops, veiled, ifaces, maps, wideKeys, modest, calm, conditions, laid).
  DERIVED. THE GIVEN ROWS OF THIS SEAT. 8 by the template 'for every input the law returns true; each argument reads behind the call as it read before'; 0 by the template 'total and deterministic' (their statements: YtpdacpopkegecaaTotals.lean).
  GIVEN WITH THE SEED: the statements are not yours to turn. If you find one false, say at which input.
  Laid BY PROGRAM, IN A SANDBOX (cutbox-rows.mjs): the forced cells as the released guide's own fill.sh prints them over the translation 7eb63954e03b1606… (all of the seat's roots in one cut). By AI agents, Wed Nov 11 2026. No macro, syntax, notation, axiom, sorry.
-/
import Derived.Test.YtpdacpopkegecaaChecked
import GoSem.Claim
import GoSem.ClaimJoined
import GoSem.ClaimMapViews
import Derived.JoinedTies
import Derived.KernelRfl
namespace Go.Proofs.Ytpdacpopkegecaa
/- THE CELL 'sum', in the pinned program and in every row, IS THE sha256 OF THE DUMP (.gsa) THAT YtpdacpopkegecaaProg.lean LOADS. Nothing in Lean hashes anything: it is a label: what it is worth is what the hold of that sum in a sandbox is worth. -/
noncomputable def Try.pinned : Pinned := { name := "ytpdacpopkegecaa", sum := "7eb63954e03b16062c315574b1222090f13c8344fcd111431db23ee4e77d9f15", checked := Try.checked }
namespace Rows
def none {H : Type} : Left H := { results := [], args := [] }

/-- 'gafferlaw02.DiskCrashes': WHATEVER THE INPUT: true; the input reads as it did. -/
def diskCrashesSpec : ChangeSpec := { name := "diskCrashes", fn := fun _ => fun
  | [d1, d2] => { results := [.lit (.bool true)], args := [d1, d2] }
  | _ => none }
def diskCrashesRow : OpenClaim := { program := "ytpdacpopkegecaa", sum := "7eb63954e03b16062c315574b1222090f13c8344fcd111431db23ee4e77d9f15", func := "gaffer/gafferlaw02.DiskCrashes", spec := "diskCrashes", inPlace := ["slices.overlaps[gaffer/api.File]"], unfollowed := true, recurses := true, apart := false }
def DiskCrashesSaid : Prop := diskCrashesRow.holds Try.pinned (OpenSpec.ofChange diskCrashesSpec)

/-- ITS FALSE NEIGHBOUR: 'it returns false'. Refute it at one input. -/
def diskCrashesWrong : ChangeSpec := { name := "diskCrashes", fn := fun _ => fun
  | [d1, d2] => { results := [.lit (.bool false)], args := [d1, d2] }
  | _ => none }
def DiskCrashesWrongFalsely : Prop := diskCrashesRow.holds Try.pinned (OpenSpec.ofChange diskCrashesWrong)

/-- 'gafferlaw02.DiskSafe': WHATEVER THE INPUT: true; the input reads as it did. -/
def diskSafeSpec : ChangeSpec := { name := "diskSafe", fn := fun _ => fun
  | [d1, d2, d3] => { results := [.lit (.bool true)], args := [d1, d2, d3] }
  | _ => none }
def diskSafeRow : OpenClaim := { program := "ytpdacpopkegecaa", sum := "7eb63954e03b16062c315574b1222090f13c8344fcd111431db23ee4e77d9f15", func := "gaffer/gafferlaw02.DiskSafe", spec := "diskSafe", inPlace := ["slices.overlaps[gaffer/api.File]"], unfollowed := true, recurses := true, apart := false }
def DiskSafeSaid : Prop := diskSafeRow.holds Try.pinned (OpenSpec.ofChange diskSafeSpec)

/-- ITS FALSE NEIGHBOUR: 'it returns false'. Refute it at one input. -/
def diskSafeWrong : ChangeSpec := { name := "diskSafe", fn := fun _ => fun
  | [d1, d2, d3] => { results := [.lit (.bool false)], args := [d1, d2, d3] }
  | _ => none }
def DiskSafeWrongFalsely : Prop := diskSafeRow.holds Try.pinned (OpenSpec.ofChange diskSafeWrong)

/-- 'gafferlaw02.DiskBehind': WHATEVER THE INPUT: true; the input reads as it did. -/
def diskBehindSpec : ChangeSpec := { name := "diskBehind", fn := fun _ => fun
  | [d1, d2, d3, d4, d5] => { results := [.lit (.bool true)], args := [d1, d2, d3, d4, d5] }
  | _ => none }
def diskBehindRow : OpenClaim := { program := "ytpdacpopkegecaa", sum := "7eb63954e03b16062c315574b1222090f13c8344fcd111431db23ee4e77d9f15", func := "gaffer/gafferlaw02.DiskBehind", spec := "diskBehind", inPlace := ["slices.overlaps[gaffer/api.File]"], unfollowed := true, recurses := true, apart := false }
def DiskBehindSaid : Prop := diskBehindRow.holds Try.pinned (OpenSpec.ofChange diskBehindSpec)

/-- ITS FALSE NEIGHBOUR: 'it returns false'. Refute it at one input. -/
def diskBehindWrong : ChangeSpec := { name := "diskBehind", fn := fun _ => fun
  | [d1, d2, d3, d4, d5] => { results := [.lit (.bool false)], args := [d1, d2, d3, d4, d5] }
  | _ => none }
def DiskBehindWrongFalsely : Prop := diskBehindRow.holds Try.pinned (OpenSpec.ofChange diskBehindWrong)

/-- 'gafferlaw02.DiskSwapped': WHATEVER THE INPUT: true; the input reads as it did. -/
def diskSwappedSpec : ChangeSpec := { name := "diskSwapped", fn := fun _ => fun
  | [d1, d2, d3] => { results := [.lit (.bool true)], args := [d1, d2, d3] }
  | _ => none }
def diskSwappedRow : OpenClaim := { program := "ytpdacpopkegecaa", sum := "7eb63954e03b16062c315574b1222090f13c8344fcd111431db23ee4e77d9f15", func := "gaffer/gafferlaw02.DiskSwapped", spec := "diskSwapped", inPlace := ["slices.overlaps[gaffer/api.File]"], unfollowed := true, recurses := true, apart := false }
def DiskSwappedSaid : Prop := diskSwappedRow.holds Try.pinned (OpenSpec.ofChange diskSwappedSpec)

/-- ITS FALSE NEIGHBOUR: 'it returns false'. Refute it at one input. -/
def diskSwappedWrong : ChangeSpec := { name := "diskSwapped", fn := fun _ => fun
  | [d1, d2, d3] => { results := [.lit (.bool false)], args := [d1, d2, d3] }
  | _ => none }
def DiskSwappedWrongFalsely : Prop := diskSwappedRow.holds Try.pinned (OpenSpec.ofChange diskSwappedWrong)

/-- 'gafferlaw02.DiskChanges': WHATEVER THE INPUT: true; the input reads as it did. -/
def diskChangesSpec : ChangeSpec := { name := "diskChanges", fn := fun _ => fun
  | [d1, d2, d3, d4] => { results := [.lit (.bool true)], args := [d1, d2, d3, d4] }
  | _ => none }
def diskChangesRow : OpenClaim := { program := "ytpdacpopkegecaa", sum := "7eb63954e03b16062c315574b1222090f13c8344fcd111431db23ee4e77d9f15", func := "gaffer/gafferlaw02.DiskChanges", spec := "diskChanges", inPlace := ["slices.overlaps[gaffer/api.File]"], unfollowed := true, recurses := true, apart := false }
def DiskChangesSaid : Prop := diskChangesRow.holds Try.pinned (OpenSpec.ofChange diskChangesSpec)

/-- ITS FALSE NEIGHBOUR: 'it returns false'. Refute it at one input. -/
def diskChangesWrong : ChangeSpec := { name := "diskChanges", fn := fun _ => fun
  | [d1, d2, d3, d4] => { results := [.lit (.bool false)], args := [d1, d2, d3, d4] }
  | _ => none }
def DiskChangesWrongFalsely : Prop := diskChangesRow.holds Try.pinned (OpenSpec.ofChange diskChangesWrong)

/-- 'gafferlaw02.DiskNames': WHATEVER THE INPUT: true; the input reads as it did. -/
def diskNamesSpec : ChangeSpec := { name := "diskNames", fn := fun _ => fun
  | [d1, d2, d3] => { results := [.lit (.bool true)], args := [d1, d2, d3] }
  | _ => none }
def diskNamesRow : OpenClaim := { program := "ytpdacpopkegecaa", sum := "7eb63954e03b16062c315574b1222090f13c8344fcd111431db23ee4e77d9f15", func := "gaffer/gafferlaw02.DiskNames", spec := "diskNames", inPlace := ["slices.overlaps[gaffer/api.File]"], unfollowed := true, recurses := true, apart := false }
def DiskNamesSaid : Prop := diskNamesRow.holds Try.pinned (OpenSpec.ofChange diskNamesSpec)

/-- ITS FALSE NEIGHBOUR: 'it returns false'. Refute it at one input. -/
def diskNamesWrong : ChangeSpec := { name := "diskNames", fn := fun _ => fun
  | [d1, d2, d3] => { results := [.lit (.bool false)], args := [d1, d2, d3] }
  | _ => none }
def DiskNamesWrongFalsely : Prop := diskNamesRow.holds Try.pinned (OpenSpec.ofChange diskNamesWrong)

/-- 'gafferlaw02.DiskAsks': WHATEVER THE INPUT: true; the input reads as it did. -/
def diskAsksSpec : ChangeSpec := { name := "diskAsks", fn := fun _ => fun
  | [d1, d2] => { results := [.lit (.bool true)], args := [d1, d2] }
  | _ => none }
def diskAsksRow : OpenClaim := { program := "ytpdacpopkegecaa", sum := "7eb63954e03b16062c315574b1222090f13c8344fcd111431db23ee4e77d9f15", func := "gaffer/gafferlaw02.DiskAsks", spec := "diskAsks", inPlace := ["slices.overlaps[gaffer/api.File]"], unfollowed := true, recurses := true, apart := false }
def DiskAsksSaid : Prop := diskAsksRow.holds Try.pinned (OpenSpec.ofChange diskAsksSpec)

/-- ITS FALSE NEIGHBOUR: 'it returns false'. Refute it at one input. -/
def diskAsksWrong : ChangeSpec := { name := "diskAsks", fn := fun _ => fun
  | [d1, d2] => { results := [.lit (.bool false)], args := [d1, d2] }
  | _ => none }
def DiskAsksWrongFalsely : Prop := diskAsksRow.holds Try.pinned (OpenSpec.ofChange diskAsksWrong)

/-- 'gafferlaw02.DiskFused': WHATEVER THE INPUT: true; the input reads as it did. -/
def diskFusedSpec : ChangeSpec := { name := "diskFused", fn := fun _ => fun
  | [d1, d2] => { results := [.lit (.bool true)], args := [d1, d2] }
  | _ => none }
def diskFusedRow : OpenClaim := { program := "ytpdacpopkegecaa", sum := "7eb63954e03b16062c315574b1222090f13c8344fcd111431db23ee4e77d9f15", func := "gaffer/gafferlaw02.DiskFused", spec := "diskFused", inPlace := ["slices.overlaps[gaffer/api.File]"], unfollowed := true, recurses := true, apart := false }
def DiskFusedSaid : Prop := diskFusedRow.holds Try.pinned (OpenSpec.ofChange diskFusedSpec)

/-- ITS FALSE NEIGHBOUR: 'it returns false'. Refute it at one input. -/
def diskFusedWrong : ChangeSpec := { name := "diskFused", fn := fun _ => fun
  | [d1, d2] => { results := [.lit (.bool false)], args := [d1, d2] }
  | _ => none }
def DiskFusedWrongFalsely : Prop := diskFusedRow.holds Try.pinned (OpenSpec.ofChange diskFusedWrong)

/- THE SECOND FORM. 'bulk': how many values and letters a reading holds, each counted each time it is reached (what is shared counts as often as it is met; a slice's spare places count too). A statement '..UptoSaid' is the law's where the arguments, and the package variables that the reading takes, are together of bulk at most 1048576: NARROWER than '..Said'. Prove '..Said' where nothing that the law and all that it calls make is longer than what came in: it says more and counts as full. Else prove '..UptoSaid'. A law counts once. -/
mutual
def uptoBulk {H : Type} : DataW H → Nat
  | .lit (.string bytes) => bytes.length + 1
  | .lit _ => 1
  | .nil => 1
  | .ptr d => uptoBulk d + 1
  | .slice elems spare => uptoBulkAll elems + uptoBulkAll spare + 1
  | .agg parts => uptoBulkAll parts + 1
  | .iface _ d => uptoBulk d + 1
  | .map entries => uptoBulkEntries entries + 1
  | .held _ => 1
def uptoBulkAll {H : Type} : List (DataW H) → Nat
  | [] => 0
  | d :: r => uptoBulk d + uptoBulkAll r
def uptoBulkEntries {H : Type} : List (Lit × DataW H) → Nat
  | [] => 0
  | x :: r => uptoBulkEntry x + uptoBulkEntries r
def uptoBulkEntry {H : Type} : Lit × DataW H → Nat
  | (.string bytes, d) => bytes.length + uptoBulk d + 1
  | (_, d) => uptoBulk d + 1
 end
def uptoSmall : (H : Type) → List (DataW H) → Bool := fun _ ds => decide (uptoBulkAll ds ≤ 1048576)
def OpenSpec.upto (s : _root_.Go.ChangeSpec) : _root_.Go.OpenSpec := { _root_.Go.OpenSpec.ofChange s with cond := some uptoSmall }

/-- 'gafferlaw02.DiskCrashes', WHERE WHAT IT READS IS OF BULK AT MOST 1048576: true; the input reads as it did. -/
def diskCrashesUptoRow : OpenClaim := { program := "ytpdacpopkegecaa", sum := "7eb63954e03b16062c315574b1222090f13c8344fcd111431db23ee4e77d9f15", func := "gaffer/gafferlaw02.DiskCrashes", spec := "diskCrashes", inPlace := ["slices.overlaps[gaffer/api.File]"], unfollowed := true, recurses := true, apart := false, narrowed := true }
def DiskCrashesUptoSaid : Prop := diskCrashesUptoRow.holds Try.pinned (OpenSpec.upto diskCrashesSpec)

/-- 'gafferlaw02.DiskSafe', WHERE WHAT IT READS IS OF BULK AT MOST 1048576: true; the input reads as it did. -/
def diskSafeUptoRow : OpenClaim := { program := "ytpdacpopkegecaa", sum := "7eb63954e03b16062c315574b1222090f13c8344fcd111431db23ee4e77d9f15", func := "gaffer/gafferlaw02.DiskSafe", spec := "diskSafe", inPlace := ["slices.overlaps[gaffer/api.File]"], unfollowed := true, recurses := true, apart := false, narrowed := true }
def DiskSafeUptoSaid : Prop := diskSafeUptoRow.holds Try.pinned (OpenSpec.upto diskSafeSpec)

/-- 'gafferlaw02.DiskBehind', WHERE WHAT IT READS IS OF BULK AT MOST 1048576: true; the input reads as it did. -/
def diskBehindUptoRow : OpenClaim := { program := "ytpdacpopkegecaa", sum := "7eb63954e03b16062c315574b1222090f13c8344fcd111431db23ee4e77d9f15", func := "gaffer/gafferlaw02.DiskBehind", spec := "diskBehind", inPlace := ["slices.overlaps[gaffer/api.File]"], unfollowed := true, recurses := true, apart := false, narrowed := true }
def DiskBehindUptoSaid : Prop := diskBehindUptoRow.holds Try.pinned (OpenSpec.upto diskBehindSpec)

/-- 'gafferlaw02.DiskSwapped', WHERE WHAT IT READS IS OF BULK AT MOST 1048576: true; the input reads as it did. -/
def diskSwappedUptoRow : OpenClaim := { program := "ytpdacpopkegecaa", sum := "7eb63954e03b16062c315574b1222090f13c8344fcd111431db23ee4e77d9f15", func := "gaffer/gafferlaw02.DiskSwapped", spec := "diskSwapped", inPlace := ["slices.overlaps[gaffer/api.File]"], unfollowed := true, recurses := true, apart := false, narrowed := true }
def DiskSwappedUptoSaid : Prop := diskSwappedUptoRow.holds Try.pinned (OpenSpec.upto diskSwappedSpec)

/-- 'gafferlaw02.DiskChanges', WHERE WHAT IT READS IS OF BULK AT MOST 1048576: true; the input reads as it did. -/
def diskChangesUptoRow : OpenClaim := { program := "ytpdacpopkegecaa", sum := "7eb63954e03b16062c315574b1222090f13c8344fcd111431db23ee4e77d9f15", func := "gaffer/gafferlaw02.DiskChanges", spec := "diskChanges", inPlace := ["slices.overlaps[gaffer/api.File]"], unfollowed := true, recurses := true, apart := false, narrowed := true }
def DiskChangesUptoSaid : Prop := diskChangesUptoRow.holds Try.pinned (OpenSpec.upto diskChangesSpec)

/-- 'gafferlaw02.DiskNames', WHERE WHAT IT READS IS OF BULK AT MOST 1048576: true; the input reads as it did. -/
def diskNamesUptoRow : OpenClaim := { program := "ytpdacpopkegecaa", sum := "7eb63954e03b16062c315574b1222090f13c8344fcd111431db23ee4e77d9f15", func := "gaffer/gafferlaw02.DiskNames", spec := "diskNames", inPlace := ["slices.overlaps[gaffer/api.File]"], unfollowed := true, recurses := true, apart := false, narrowed := true }
def DiskNamesUptoSaid : Prop := diskNamesUptoRow.holds Try.pinned (OpenSpec.upto diskNamesSpec)

/-- 'gafferlaw02.DiskAsks', WHERE WHAT IT READS IS OF BULK AT MOST 1048576: true; the input reads as it did. -/
def diskAsksUptoRow : OpenClaim := { program := "ytpdacpopkegecaa", sum := "7eb63954e03b16062c315574b1222090f13c8344fcd111431db23ee4e77d9f15", func := "gaffer/gafferlaw02.DiskAsks", spec := "diskAsks", inPlace := ["slices.overlaps[gaffer/api.File]"], unfollowed := true, recurses := true, apart := false, narrowed := true }
def DiskAsksUptoSaid : Prop := diskAsksUptoRow.holds Try.pinned (OpenSpec.upto diskAsksSpec)

/-- 'gafferlaw02.DiskFused', WHERE WHAT IT READS IS OF BULK AT MOST 1048576: true; the input reads as it did. -/
def diskFusedUptoRow : OpenClaim := { program := "ytpdacpopkegecaa", sum := "7eb63954e03b16062c315574b1222090f13c8344fcd111431db23ee4e77d9f15", func := "gaffer/gafferlaw02.DiskFused", spec := "diskFused", inPlace := ["slices.overlaps[gaffer/api.File]"], unfollowed := true, recurses := true, apart := false, narrowed := true }
def DiskFusedUptoSaid : Prop := diskFusedUptoRow.holds Try.pinned (OpenSpec.upto diskFusedSpec)

end Rows
end Go.Proofs.Ytpdacpopkegecaa
