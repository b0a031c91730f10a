/-
  No cell of these rows narrows 'for every input' (looked for: loops, veiled, ifaces, maps, wideKeys, modest, calm, conditions, laid).
  DERIVED. THE GIVEN ROWS OF THIS SEAT. 11 by the template 'for every input the law returns true; each argument reads behind the call as it read before'; 0 by the template 'total and deterministic' (their statements: YtpigjmjbfpipnaaTotals.lean).
  GIVEN WITH THE SEED: the statements are not yours to turn. If you find one false, say at which input.
  Laid BY PROGRAM, IN A SANDBOX (cutbox-rows.mjs): the forced cells as the released guide's own fill.sh prints them over the translation 9d175a2e831732e3… (all of the seat's roots in one cut). By AI agents, Wed Nov 11 2026. No macro, syntax, notation, axiom, sorry.
-/
import Derived.Test.YtpigjmjbfpipnaaChecked
import GoSem.Claim
import GoSem.ClaimJoined
import GoSem.ClaimMapViews
import Derived.JoinedTies
import Derived.KernelRfl
namespace Go.Proofs.Ytpigjmjbfpipnaa
/- THE CELL 'sum', in the pinned program and in every row, IS THE sha256 OF THE DUMP (.gsa) THAT YtpigjmjbfpipnaaProg.lean LOADS. Nothing in Lean hashes anything: it is a label: what it is worth is what the hold of that sum in a sandbox is worth. -/
noncomputable def Try.pinned : Pinned := { name := "ytpigjmjbfpipnaa", sum := "9d175a2e831732e3e8296a88b4ee6125a7cfcc6cc872f5d0b126f9480acde50e", checked := Try.checked }
namespace Rows
def none {H : Type} : Left H := { results := [], args := [] }

/-- 'gafferlaw04.HardDoes': WHATEVER THE INPUT: true; the input reads as it did. -/
def hardDoesSpec : ChangeSpec := { name := "hardDoes", fn := fun _ => fun
  | [d1, d2] => { results := [.lit (.bool true)], args := [d1, d2] }
  | _ => none }
def hardDoesRow : OpenClaim := { program := "ytpigjmjbfpipnaa", sum := "9d175a2e831732e3e8296a88b4ee6125a7cfcc6cc872f5d0b126f9480acde50e", func := "gaffer/gafferlaw04.HardDoes", spec := "hardDoes", inPlace := ["slices.overlaps[gaffer/api.File]"], unfollowed := true, recurses := true, apart := false }
def HardDoesSaid : Prop := hardDoesRow.holds Try.pinned (OpenSpec.ofChange hardDoesSpec)

/-- ITS FALSE NEIGHBOUR: 'it returns false'. Refute it at one input. -/
def hardDoesWrong : ChangeSpec := { name := "hardDoes", fn := fun _ => fun
  | [d1, d2] => { results := [.lit (.bool false)], args := [d1, d2] }
  | _ => none }
def HardDoesWrongFalsely : Prop := hardDoesRow.holds Try.pinned (OpenSpec.ofChange hardDoesWrong)

/-- 'gafferlaw04.HardOne': WHATEVER THE INPUT: true; the input reads as it did. -/
def hardOneSpec : ChangeSpec := { name := "hardOne", fn := fun _ => fun
  | [d1, d2, d3, d4] => { results := [.lit (.bool true)], args := [d1, d2, d3, d4] }
  | _ => none }
def hardOneRow : OpenClaim := { program := "ytpigjmjbfpipnaa", sum := "9d175a2e831732e3e8296a88b4ee6125a7cfcc6cc872f5d0b126f9480acde50e", func := "gaffer/gafferlaw04.HardOne", spec := "hardOne", inPlace := ["slices.overlaps[gaffer/api.File]"], unfollowed := true, recurses := true, apart := false }
def HardOneSaid : Prop := hardOneRow.holds Try.pinned (OpenSpec.ofChange hardOneSpec)

/-- ITS FALSE NEIGHBOUR: 'it returns false'. Refute it at one input. -/
def hardOneWrong : ChangeSpec := { name := "hardOne", fn := fun _ => fun
  | [d1, d2, d3, d4] => { results := [.lit (.bool false)], args := [d1, d2, d3, d4] }
  | _ => none }
def HardOneWrongFalsely : Prop := hardOneRow.holds Try.pinned (OpenSpec.ofChange hardOneWrong)

/-- 'gafferlaw04.HardOthers': WHATEVER THE INPUT: true; the input reads as it did. -/
def hardOthersSpec : ChangeSpec := { name := "hardOthers", fn := fun _ => fun
  | [d1, d2, d3] => { results := [.lit (.bool true)], args := [d1, d2, d3] }
  | _ => none }
def hardOthersRow : OpenClaim := { program := "ytpigjmjbfpipnaa", sum := "9d175a2e831732e3e8296a88b4ee6125a7cfcc6cc872f5d0b126f9480acde50e", func := "gaffer/gafferlaw04.HardOthers", spec := "hardOthers", inPlace := ["slices.overlaps[gaffer/api.File]"], unfollowed := true, recurses := true, apart := false }
def HardOthersSaid : Prop := hardOthersRow.holds Try.pinned (OpenSpec.ofChange hardOthersSpec)

/-- ITS FALSE NEIGHBOUR: 'it returns false'. Refute it at one input. -/
def hardOthersWrong : ChangeSpec := { name := "hardOthers", fn := fun _ => fun
  | [d1, d2, d3] => { results := [.lit (.bool false)], args := [d1, d2, d3] }
  | _ => none }
def HardOthersWrongFalsely : Prop := hardOthersRow.holds Try.pinned (OpenSpec.ofChange hardOthersWrong)

/-- 'gafferlaw04.HardTwo': WHATEVER THE INPUT: true; the input reads as it did. -/
def hardTwoSpec : ChangeSpec := { name := "hardTwo", fn := fun _ => fun
  | [d1, d2, d3, d4] => { results := [.lit (.bool true)], args := [d1, d2, d3, d4] }
  | _ => none }
def hardTwoRow : OpenClaim := { program := "ytpigjmjbfpipnaa", sum := "9d175a2e831732e3e8296a88b4ee6125a7cfcc6cc872f5d0b126f9480acde50e", func := "gaffer/gafferlaw04.HardTwo", spec := "hardTwo", inPlace := ["slices.overlaps[gaffer/api.File]"], unfollowed := true, recurses := true, apart := false }
def HardTwoSaid : Prop := hardTwoRow.holds Try.pinned (OpenSpec.ofChange hardTwoSpec)

/-- ITS FALSE NEIGHBOUR: 'it returns false'. Refute it at one input. -/
def hardTwoWrong : ChangeSpec := { name := "hardTwo", fn := fun _ => fun
  | [d1, d2, d3, d4] => { results := [.lit (.bool false)], args := [d1, d2, d3, d4] }
  | _ => none }
def HardTwoWrongFalsely : Prop := hardTwoRow.holds Try.pinned (OpenSpec.ofChange hardTwoWrong)

/-- 'gafferlaw04.HardAgain': WHATEVER THE INPUT: true; the input reads as it did. -/
def hardAgainSpec : ChangeSpec := { name := "hardAgain", fn := fun _ => fun
  | [d1, d2] => { results := [.lit (.bool true)], args := [d1, d2] }
  | _ => none }
def hardAgainRow : OpenClaim := { program := "ytpigjmjbfpipnaa", sum := "9d175a2e831732e3e8296a88b4ee6125a7cfcc6cc872f5d0b126f9480acde50e", func := "gaffer/gafferlaw04.HardAgain", spec := "hardAgain", inPlace := ["slices.overlaps[gaffer/api.File]"], unfollowed := true, recurses := true, apart := false }
def HardAgainSaid : Prop := hardAgainRow.holds Try.pinned (OpenSpec.ofChange hardAgainSpec)

/-- ITS FALSE NEIGHBOUR: 'it returns false'. Refute it at one input. -/
def hardAgainWrong : ChangeSpec := { name := "hardAgain", fn := fun _ => fun
  | [d1, d2] => { results := [.lit (.bool false)], args := [d1, d2] }
  | _ => none }
def HardAgainWrongFalsely : Prop := hardAgainRow.holds Try.pinned (OpenSpec.ofChange hardAgainWrong)

/-- 'gafferlaw05.SnapCodes': WHATEVER THE INPUT: true; the input reads as it did. -/
def snapCodesSpec : ChangeSpec := { name := "snapCodes", fn := fun _ => fun
  | [d1, d2] => { results := [.lit (.bool true)], args := [d1, d2] }
  | _ => none }
def snapCodesRow : OpenClaim := { program := "ytpigjmjbfpipnaa", sum := "9d175a2e831732e3e8296a88b4ee6125a7cfcc6cc872f5d0b126f9480acde50e", func := "gaffer/gafferlaw05.SnapCodes", spec := "snapCodes", inPlace := ["internal/abi.NoEscape", "slices.overlaps[gaffer/api.File]"], unfollowed := true, recurses := true, apart := false }
def SnapCodesSaid : Prop := snapCodesRow.holds Try.pinned (OpenSpec.ofChange snapCodesSpec)

/-- ITS FALSE NEIGHBOUR: 'it returns false'. Refute it at one input. -/
def snapCodesWrong : ChangeSpec := { name := "snapCodes", fn := fun _ => fun
  | [d1, d2] => { results := [.lit (.bool false)], args := [d1, d2] }
  | _ => none }
def SnapCodesWrongFalsely : Prop := snapCodesRow.holds Try.pinned (OpenSpec.ofChange snapCodesWrong)

/-- 'gafferlaw05.SnapDoes': WHATEVER THE INPUT: true; the input reads as it did. -/
def snapDoesSpec : ChangeSpec := { name := "snapDoes", fn := fun _ => fun
  | [d1, d2] => { results := [.lit (.bool true)], args := [d1, d2] }
  | _ => none }
def snapDoesRow : OpenClaim := { program := "ytpigjmjbfpipnaa", sum := "9d175a2e831732e3e8296a88b4ee6125a7cfcc6cc872f5d0b126f9480acde50e", func := "gaffer/gafferlaw05.SnapDoes", spec := "snapDoes", inPlace := ["internal/abi.NoEscape", "slices.overlaps[gaffer/api.File]"], unfollowed := true, recurses := true, apart := false }
def SnapDoesSaid : Prop := snapDoesRow.holds Try.pinned (OpenSpec.ofChange snapDoesSpec)

/-- ITS FALSE NEIGHBOUR: 'it returns false'. Refute it at one input. -/
def snapDoesWrong : ChangeSpec := { name := "snapDoes", fn := fun _ => fun
  | [d1, d2] => { results := [.lit (.bool false)], args := [d1, d2] }
  | _ => none }
def SnapDoesWrongFalsely : Prop := snapDoesRow.holds Try.pinned (OpenSpec.ofChange snapDoesWrong)

/-- 'gafferlaw05.SnapBack': WHATEVER THE INPUT: true; the input reads as it did. -/
def snapBackSpec : ChangeSpec := { name := "snapBack", fn := fun _ => fun
  | [d1, d2] => { results := [.lit (.bool true)], args := [d1, d2] }
  | _ => none }
def snapBackRow : OpenClaim := { program := "ytpigjmjbfpipnaa", sum := "9d175a2e831732e3e8296a88b4ee6125a7cfcc6cc872f5d0b126f9480acde50e", func := "gaffer/gafferlaw05.SnapBack", spec := "snapBack", inPlace := ["internal/abi.NoEscape", "slices.overlaps[gaffer/api.File]"], unfollowed := true, recurses := true, apart := false }
def SnapBackSaid : Prop := snapBackRow.holds Try.pinned (OpenSpec.ofChange snapBackSpec)

/-- ITS FALSE NEIGHBOUR: 'it returns false'. Refute it at one input. -/
def snapBackWrong : ChangeSpec := { name := "snapBack", fn := fun _ => fun
  | [d1, d2] => { results := [.lit (.bool false)], args := [d1, d2] }
  | _ => none }
def SnapBackWrongFalsely : Prop := snapBackRow.holds Try.pinned (OpenSpec.ofChange snapBackWrong)

/-- 'gafferlaw05.SnapRising': WHATEVER THE INPUT: true; the input reads as it did. -/
def snapRisingSpec : ChangeSpec := { name := "snapRising", fn := fun _ => fun
  | [d] => { results := [.lit (.bool true)], args := [d] }
  | _ => none }
def snapRisingRow : OpenClaim := { program := "ytpigjmjbfpipnaa", sum := "9d175a2e831732e3e8296a88b4ee6125a7cfcc6cc872f5d0b126f9480acde50e", func := "gaffer/gafferlaw05.SnapRising", spec := "snapRising", inPlace := ["internal/abi.NoEscape", "slices.overlaps[gaffer/api.File]"], unfollowed := true, recurses := true, apart := false }
def SnapRisingSaid : Prop := snapRisingRow.holds Try.pinned (OpenSpec.ofChange snapRisingSpec)

/-- ITS FALSE NEIGHBOUR: 'it returns false'. Refute it at one input. -/
def snapRisingWrong : ChangeSpec := { name := "snapRising", fn := fun _ => fun
  | [d] => { results := [.lit (.bool false)], args := [d] }
  | _ => none }
def SnapRisingWrongFalsely : Prop := snapRisingRow.holds Try.pinned (OpenSpec.ofChange snapRisingWrong)

/-- 'gafferlaw05.SnapOthers': WHATEVER THE INPUT: true; the input reads as it did. -/
def snapOthersSpec : ChangeSpec := { name := "snapOthers", fn := fun _ => fun
  | [d1, d2, d3] => { results := [.lit (.bool true)], args := [d1, d2, d3] }
  | _ => none }
def snapOthersRow : OpenClaim := { program := "ytpigjmjbfpipnaa", sum := "9d175a2e831732e3e8296a88b4ee6125a7cfcc6cc872f5d0b126f9480acde50e", func := "gaffer/gafferlaw05.SnapOthers", spec := "snapOthers", inPlace := ["internal/abi.NoEscape", "slices.overlaps[gaffer/api.File]"], unfollowed := true, recurses := true, apart := false }
def SnapOthersSaid : Prop := snapOthersRow.holds Try.pinned (OpenSpec.ofChange snapOthersSpec)

/-- ITS FALSE NEIGHBOUR: 'it returns false'. Refute it at one input. -/
def snapOthersWrong : ChangeSpec := { name := "snapOthers", fn := fun _ => fun
  | [d1, d2, d3] => { results := [.lit (.bool false)], args := [d1, d2, d3] }
  | _ => none }
def SnapOthersWrongFalsely : Prop := snapOthersRow.holds Try.pinned (OpenSpec.ofChange snapOthersWrong)

/-- 'gafferlaw05.SnapOne': WHATEVER THE INPUT: true; the input reads as it did. -/
def snapOneSpec : ChangeSpec := { name := "snapOne", fn := fun _ => fun
  | [d1, d2, d3, d4] => { results := [.lit (.bool true)], args := [d1, d2, d3, d4] }
  | _ => none }
def snapOneRow : OpenClaim := { program := "ytpigjmjbfpipnaa", sum := "9d175a2e831732e3e8296a88b4ee6125a7cfcc6cc872f5d0b126f9480acde50e", func := "gaffer/gafferlaw05.SnapOne", spec := "snapOne", inPlace := ["internal/abi.NoEscape", "slices.overlaps[gaffer/api.File]"], unfollowed := true, recurses := true, apart := false }
def SnapOneSaid : Prop := snapOneRow.holds Try.pinned (OpenSpec.ofChange snapOneSpec)

/-- ITS FALSE NEIGHBOUR: 'it returns false'. Refute it at one input. -/
def snapOneWrong : ChangeSpec := { name := "snapOne", fn := fun _ => fun
  | [d1, d2, d3, d4] => { results := [.lit (.bool false)], args := [d1, d2, d3, d4] }
  | _ => none }
def SnapOneWrongFalsely : Prop := snapOneRow.holds Try.pinned (OpenSpec.ofChange snapOneWrong)

/- THE SECOND FORM. 'bulk': how many values and letters a reading holds, each counted each time it is reached (what is shared counts as often as it is met; a slice's spare places count too). A statement '..UptoSaid' is the law's where the arguments, and the package variables that the reading takes, are together of bulk at most 1048576: NARROWER than '..Said'. Prove '..Said' where nothing that the law and all that it calls make is longer than what came in: it says more and counts as full. Else prove '..UptoSaid'. A law counts once. -/
mutual
def uptoBulk {H : Type} : DataW H → Nat
  | .lit (.string bytes) => bytes.length + 1
  | .lit _ => 1
  | .nil => 1
  | .ptr d => uptoBulk d + 1
  | .slice elems spare => uptoBulkAll elems + uptoBulkAll spare + 1
  | .agg parts => uptoBulkAll parts + 1
  | .iface _ d => uptoBulk d + 1
  | .map entries => uptoBulkEntries entries + 1
  | .held _ => 1
def uptoBulkAll {H : Type} : List (DataW H) → Nat
  | [] => 0
  | d :: r => uptoBulk d + uptoBulkAll r
def uptoBulkEntries {H : Type} : List (Lit × DataW H) → Nat
  | [] => 0
  | x :: r => uptoBulkEntry x + uptoBulkEntries r
def uptoBulkEntry {H : Type} : Lit × DataW H → Nat
  | (.string bytes, d) => bytes.length + uptoBulk d + 1
  | (_, d) => uptoBulk d + 1
 end
def uptoSmall : (H : Type) → List (DataW H) → Bool := fun _ ds => decide (uptoBulkAll ds ≤ 1048576)
def OpenSpec.upto (s : _root_.Go.ChangeSpec) : _root_.Go.OpenSpec := { _root_.Go.OpenSpec.ofChange s with cond := some uptoSmall }

/-- 'gafferlaw04.HardDoes', WHERE WHAT IT READS IS OF BULK AT MOST 1048576: true; the input reads as it did. -/
def hardDoesUptoRow : OpenClaim := { program := "ytpigjmjbfpipnaa", sum := "9d175a2e831732e3e8296a88b4ee6125a7cfcc6cc872f5d0b126f9480acde50e", func := "gaffer/gafferlaw04.HardDoes", spec := "hardDoes", inPlace := ["slices.overlaps[gaffer/api.File]"], unfollowed := true, recurses := true, apart := false, narrowed := true }
def HardDoesUptoSaid : Prop := hardDoesUptoRow.holds Try.pinned (OpenSpec.upto hardDoesSpec)

/-- 'gafferlaw04.HardOne', WHERE WHAT IT READS IS OF BULK AT MOST 1048576: true; the input reads as it did. -/
def hardOneUptoRow : OpenClaim := { program := "ytpigjmjbfpipnaa", sum := "9d175a2e831732e3e8296a88b4ee6125a7cfcc6cc872f5d0b126f9480acde50e", func := "gaffer/gafferlaw04.HardOne", spec := "hardOne", inPlace := ["slices.overlaps[gaffer/api.File]"], unfollowed := true, recurses := true, apart := false, narrowed := true }
def HardOneUptoSaid : Prop := hardOneUptoRow.holds Try.pinned (OpenSpec.upto hardOneSpec)

/-- 'gafferlaw04.HardOthers', WHERE WHAT IT READS IS OF BULK AT MOST 1048576: true; the input reads as it did. -/
def hardOthersUptoRow : OpenClaim := { program := "ytpigjmjbfpipnaa", sum := "9d175a2e831732e3e8296a88b4ee6125a7cfcc6cc872f5d0b126f9480acde50e", func := "gaffer/gafferlaw04.HardOthers", spec := "hardOthers", inPlace := ["slices.overlaps[gaffer/api.File]"], unfollowed := true, recurses := true, apart := false, narrowed := true }
def HardOthersUptoSaid : Prop := hardOthersUptoRow.holds Try.pinned (OpenSpec.upto hardOthersSpec)

/-- 'gafferlaw04.HardTwo', WHERE WHAT IT READS IS OF BULK AT MOST 1048576: true; the input reads as it did. -/
def hardTwoUptoRow : OpenClaim := { program := "ytpigjmjbfpipnaa", sum := "9d175a2e831732e3e8296a88b4ee6125a7cfcc6cc872f5d0b126f9480acde50e", func := "gaffer/gafferlaw04.HardTwo", spec := "hardTwo", inPlace := ["slices.overlaps[gaffer/api.File]"], unfollowed := true, recurses := true, apart := false, narrowed := true }
def HardTwoUptoSaid : Prop := hardTwoUptoRow.holds Try.pinned (OpenSpec.upto hardTwoSpec)

/-- 'gafferlaw04.HardAgain', WHERE WHAT IT READS IS OF BULK AT MOST 1048576: true; the input reads as it did. -/
def hardAgainUptoRow : OpenClaim := { program := "ytpigjmjbfpipnaa", sum := "9d175a2e831732e3e8296a88b4ee6125a7cfcc6cc872f5d0b126f9480acde50e", func := "gaffer/gafferlaw04.HardAgain", spec := "hardAgain", inPlace := ["slices.overlaps[gaffer/api.File]"], unfollowed := true, recurses := true, apart := false, narrowed := true }
def HardAgainUptoSaid : Prop := hardAgainUptoRow.holds Try.pinned (OpenSpec.upto hardAgainSpec)

/-- 'gafferlaw05.SnapCodes', WHERE WHAT IT READS IS OF BULK AT MOST 1048576: true; the input reads as it did. -/
def snapCodesUptoRow : OpenClaim := { program := "ytpigjmjbfpipnaa", sum := "9d175a2e831732e3e8296a88b4ee6125a7cfcc6cc872f5d0b126f9480acde50e", func := "gaffer/gafferlaw05.SnapCodes", spec := "snapCodes", inPlace := ["internal/abi.NoEscape", "slices.overlaps[gaffer/api.File]"], unfollowed := true, recurses := true, apart := false, narrowed := true }
def SnapCodesUptoSaid : Prop := snapCodesUptoRow.holds Try.pinned (OpenSpec.upto snapCodesSpec)

/-- 'gafferlaw05.SnapDoes', WHERE WHAT IT READS IS OF BULK AT MOST 1048576: true; the input reads as it did. -/
def snapDoesUptoRow : OpenClaim := { program := "ytpigjmjbfpipnaa", sum := "9d175a2e831732e3e8296a88b4ee6125a7cfcc6cc872f5d0b126f9480acde50e", func := "gaffer/gafferlaw05.SnapDoes", spec := "snapDoes", inPlace := ["internal/abi.NoEscape", "slices.overlaps[gaffer/api.File]"], unfollowed := true, recurses := true, apart := false, narrowed := true }
def SnapDoesUptoSaid : Prop := snapDoesUptoRow.holds Try.pinned (OpenSpec.upto snapDoesSpec)

/-- 'gafferlaw05.SnapBack', WHERE WHAT IT READS IS OF BULK AT MOST 1048576: true; the input reads as it did. -/
def snapBackUptoRow : OpenClaim := { program := "ytpigjmjbfpipnaa", sum := "9d175a2e831732e3e8296a88b4ee6125a7cfcc6cc872f5d0b126f9480acde50e", func := "gaffer/gafferlaw05.SnapBack", spec := "snapBack", inPlace := ["internal/abi.NoEscape", "slices.overlaps[gaffer/api.File]"], unfollowed := true, recurses := true, apart := false, narrowed := true }
def SnapBackUptoSaid : Prop := snapBackUptoRow.holds Try.pinned (OpenSpec.upto snapBackSpec)

/-- 'gafferlaw05.SnapRising', WHERE WHAT IT READS IS OF BULK AT MOST 1048576: true; the input reads as it did. -/
def snapRisingUptoRow : OpenClaim := { program := "ytpigjmjbfpipnaa", sum := "9d175a2e831732e3e8296a88b4ee6125a7cfcc6cc872f5d0b126f9480acde50e", func := "gaffer/gafferlaw05.SnapRising", spec := "snapRising", inPlace := ["internal/abi.NoEscape", "slices.overlaps[gaffer/api.File]"], unfollowed := true, recurses := true, apart := false, narrowed := true }
def SnapRisingUptoSaid : Prop := snapRisingUptoRow.holds Try.pinned (OpenSpec.upto snapRisingSpec)

/-- 'gafferlaw05.SnapOthers', WHERE WHAT IT READS IS OF BULK AT MOST 1048576: true; the input reads as it did. -/
def snapOthersUptoRow : OpenClaim := { program := "ytpigjmjbfpipnaa", sum := "9d175a2e831732e3e8296a88b4ee6125a7cfcc6cc872f5d0b126f9480acde50e", func := "gaffer/gafferlaw05.SnapOthers", spec := "snapOthers", inPlace := ["internal/abi.NoEscape", "slices.overlaps[gaffer/api.File]"], unfollowed := true, recurses := true, apart := false, narrowed := true }
def SnapOthersUptoSaid : Prop := snapOthersUptoRow.holds Try.pinned (OpenSpec.upto snapOthersSpec)

/-- 'gafferlaw05.SnapOne', WHERE WHAT IT READS IS OF BULK AT MOST 1048576: true; the input reads as it did. -/
def snapOneUptoRow : OpenClaim := { program := "ytpigjmjbfpipnaa", sum := "9d175a2e831732e3e8296a88b4ee6125a7cfcc6cc872f5d0b126f9480acde50e", func := "gaffer/gafferlaw05.SnapOne", spec := "snapOne", inPlace := ["internal/abi.NoEscape", "slices.overlaps[gaffer/api.File]"], unfollowed := true, recurses := true, apart := false, narrowed := true }
def SnapOneUptoSaid : Prop := snapOneUptoRow.holds Try.pinned (OpenSpec.upto snapOneSpec)

end Rows
end Go.Proofs.Ytpigjmjbfpipnaa
