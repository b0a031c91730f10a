/-
  No cell of these rows narrows 'for every input' (looked for: loops, veiled, ifaces, maps, wideKeys, modest, calm, conditions, laid).
  DERIVED. THE GIVEN ROWS OF THIS SEAT. 7 by the template 'for every input the law returns true; each argument reads behind the call as it read before'; 0 by the template 'total and deterministic' (their statements: YtjlhohdfojkogaaTotals.lean).
  GIVEN WITH THE SEED: the statements are not yours to turn. If you find one false, say at which input.
  Laid BY PROGRAM, IN A SANDBOX (cutbox-rows.mjs): the forced cells as the released guide's own fill.sh prints them over the translation 0b0e2815a8154744… (all of the seat's roots in one cut). By AI agents, Wed Nov 11 2026. No macro, syntax, notation, axiom, sorry.
-/
import Derived.Test.YtjlhohdfojkogaaChecked
import GoSem.Claim
import GoSem.ClaimJoined
import GoSem.ClaimMapViews
import Derived.JoinedTies
import Derived.KernelRfl
namespace Go.Proofs.Ytjlhohdfojkogaa
/- THE CELL 'sum', in the pinned program and in every row, IS THE sha256 OF THE DUMP (.gsa) THAT YtjlhohdfojkogaaProg.lean LOADS. Nothing in Lean hashes anything: it is a label: what it is worth is what the hold of that sum in a sandbox is worth. -/
noncomputable def Try.pinned : Pinned := { name := "ytjlhohdfojkogaa", sum := "0b0e2815a8154744a8cd2551ea0f9b408f6f38a8b96a8e6dd29acc386c17fbc2", checked := Try.checked }
namespace Rows
def none {H : Type} : Left H := { results := [], args := [] }

/-- 'gafferlaw15.QuorumSettled': WHATEVER THE INPUT: true; the input reads as it did. -/
def quorumSettledSpec : ChangeSpec := { name := "quorumSettled", fn := fun _ => fun
  | [d1, d2, d3, d4] => { results := [.lit (.bool true)], args := [d1, d2, d3, d4] }
  | _ => none }
def quorumSettledRow : OpenClaim := { program := "ytjlhohdfojkogaa", sum := "0b0e2815a8154744a8cd2551ea0f9b408f6f38a8b96a8e6dd29acc386c17fbc2", func := "gaffer/gafferlaw15.QuorumSettled", spec := "quorumSettled", unfollowed := true, recurses := true, apart := false }
def QuorumSettledSaid : Prop := quorumSettledRow.holds Try.pinned (OpenSpec.ofChange quorumSettledSpec)

/-- ITS FALSE NEIGHBOUR: 'it returns false'. Refute it at one input. -/
def quorumSettledWrong : ChangeSpec := { name := "quorumSettled", fn := fun _ => fun
  | [d1, d2, d3, d4] => { results := [.lit (.bool false)], args := [d1, d2, d3, d4] }
  | _ => none }
def QuorumSettledWrongFalsely : Prop := quorumSettledRow.holds Try.pinned (OpenSpec.ofChange quorumSettledWrong)

/-- 'gafferlaw15.QuorumMost': WHATEVER THE INPUT: true; the input reads as it did. -/
def quorumMostSpec : ChangeSpec := { name := "quorumMost", fn := fun _ => fun
  | [d1, d2] => { results := [.lit (.bool true)], args := [d1, d2] }
  | _ => none }
def quorumMostRow : OpenClaim := { program := "ytjlhohdfojkogaa", sum := "0b0e2815a8154744a8cd2551ea0f9b408f6f38a8b96a8e6dd29acc386c17fbc2", func := "gaffer/gafferlaw15.QuorumMost", spec := "quorumMost", unfollowed := true, recurses := true, apart := false }
def QuorumMostSaid : Prop := quorumMostRow.holds Try.pinned (OpenSpec.ofChange quorumMostSpec)

/-- ITS FALSE NEIGHBOUR: 'it returns false'. Refute it at one input. -/
def quorumMostWrong : ChangeSpec := { name := "quorumMost", fn := fun _ => fun
  | [d1, d2] => { results := [.lit (.bool false)], args := [d1, d2] }
  | _ => none }
def QuorumMostWrongFalsely : Prop := quorumMostRow.holds Try.pinned (OpenSpec.ofChange quorumMostWrong)

/-- 'gafferlaw15.QuorumShared': WHATEVER THE INPUT: true; the input reads as it did. -/
def quorumSharedSpec : ChangeSpec := { name := "quorumShared", fn := fun _ => fun
  | [d1, d2, d3, d4] => { results := [.lit (.bool true)], args := [d1, d2, d3, d4] }
  | _ => none }
def quorumSharedRow : OpenClaim := { program := "ytjlhohdfojkogaa", sum := "0b0e2815a8154744a8cd2551ea0f9b408f6f38a8b96a8e6dd29acc386c17fbc2", func := "gaffer/gafferlaw15.QuorumShared", spec := "quorumShared", unfollowed := true, recurses := true, apart := false }
def QuorumSharedSaid : Prop := quorumSharedRow.holds Try.pinned (OpenSpec.ofChange quorumSharedSpec)

/-- ITS FALSE NEIGHBOUR: 'it returns false'. Refute it at one input. -/
def quorumSharedWrong : ChangeSpec := { name := "quorumShared", fn := fun _ => fun
  | [d1, d2, d3, d4] => { results := [.lit (.bool false)], args := [d1, d2, d3, d4] }
  | _ => none }
def QuorumSharedWrongFalsely : Prop := quorumSharedRow.holds Try.pinned (OpenSpec.ofChange quorumSharedWrong)

/-- 'gafferlaw15.QuorumHas': WHATEVER THE INPUT: true; the input reads as it did. -/
def quorumHasSpec : ChangeSpec := { name := "quorumHas", fn := fun _ => fun
  | [d1, d2, d3, d4] => { results := [.lit (.bool true)], args := [d1, d2, d3, d4] }
  | _ => none }
def quorumHasRow : OpenClaim := { program := "ytjlhohdfojkogaa", sum := "0b0e2815a8154744a8cd2551ea0f9b408f6f38a8b96a8e6dd29acc386c17fbc2", func := "gaffer/gafferlaw15.QuorumHas", spec := "quorumHas", unfollowed := true, recurses := true, apart := false }
def QuorumHasSaid : Prop := quorumHasRow.holds Try.pinned (OpenSpec.ofChange quorumHasSpec)

/-- ITS FALSE NEIGHBOUR: 'it returns false'. Refute it at one input. -/
def quorumHasWrong : ChangeSpec := { name := "quorumHas", fn := fun _ => fun
  | [d1, d2, d3, d4] => { results := [.lit (.bool false)], args := [d1, d2, d3, d4] }
  | _ => none }
def QuorumHasWrongFalsely : Prop := quorumHasRow.holds Try.pinned (OpenSpec.ofChange quorumHasWrong)

/-- 'gafferlaw15.QuorumMore': WHATEVER THE INPUT: true; the input reads as it did. -/
def quorumMoreSpec : ChangeSpec := { name := "quorumMore", fn := fun _ => fun
  | [d1, d2, d3] => { results := [.lit (.bool true)], args := [d1, d2, d3] }
  | _ => none }
def quorumMoreRow : OpenClaim := { program := "ytjlhohdfojkogaa", sum := "0b0e2815a8154744a8cd2551ea0f9b408f6f38a8b96a8e6dd29acc386c17fbc2", func := "gaffer/gafferlaw15.QuorumMore", spec := "quorumMore", unfollowed := true, recurses := true, apart := false }
def QuorumMoreSaid : Prop := quorumMoreRow.holds Try.pinned (OpenSpec.ofChange quorumMoreSpec)

/-- ITS FALSE NEIGHBOUR: 'it returns false'. Refute it at one input. -/
def quorumMoreWrong : ChangeSpec := { name := "quorumMore", fn := fun _ => fun
  | [d1, d2, d3] => { results := [.lit (.bool false)], args := [d1, d2, d3] }
  | _ => none }
def QuorumMoreWrongFalsely : Prop := quorumMoreRow.holds Try.pinned (OpenSpec.ofChange quorumMoreWrong)

/-- 'gafferlaw15.QuorumBack': WHATEVER THE INPUT: true; the input reads as it did. -/
def quorumBackSpec : ChangeSpec := { name := "quorumBack", fn := fun _ => fun
  | [d1, d2] => { results := [.lit (.bool true)], args := [d1, d2] }
  | _ => none }
def quorumBackRow : OpenClaim := { program := "ytjlhohdfojkogaa", sum := "0b0e2815a8154744a8cd2551ea0f9b408f6f38a8b96a8e6dd29acc386c17fbc2", func := "gaffer/gafferlaw15.QuorumBack", spec := "quorumBack", unfollowed := true, recurses := true, apart := false }
def QuorumBackSaid : Prop := quorumBackRow.holds Try.pinned (OpenSpec.ofChange quorumBackSpec)

/-- ITS FALSE NEIGHBOUR: 'it returns false'. Refute it at one input. -/
def quorumBackWrong : ChangeSpec := { name := "quorumBack", fn := fun _ => fun
  | [d1, d2] => { results := [.lit (.bool false)], args := [d1, d2] }
  | _ => none }
def QuorumBackWrongFalsely : Prop := quorumBackRow.holds Try.pinned (OpenSpec.ofChange quorumBackWrong)

/-- 'gafferlaw15.QuorumEnds': WHATEVER THE INPUT: true; the input reads as it did. -/
def quorumEndsSpec : ChangeSpec := { name := "quorumEnds", fn := fun _ => fun
  | [d1, d2, d3, d4, d5] => { results := [.lit (.bool true)], args := [d1, d2, d3, d4, d5] }
  | _ => none }
def quorumEndsRow : OpenClaim := { program := "ytjlhohdfojkogaa", sum := "0b0e2815a8154744a8cd2551ea0f9b408f6f38a8b96a8e6dd29acc386c17fbc2", func := "gaffer/gafferlaw15.QuorumEnds", spec := "quorumEnds", unfollowed := true, recurses := true, apart := false }
def QuorumEndsSaid : Prop := quorumEndsRow.holds Try.pinned (OpenSpec.ofChange quorumEndsSpec)

/-- ITS FALSE NEIGHBOUR: 'it returns false'. Refute it at one input. -/
def quorumEndsWrong : ChangeSpec := { name := "quorumEnds", fn := fun _ => fun
  | [d1, d2, d3, d4, d5] => { results := [.lit (.bool false)], args := [d1, d2, d3, d4, d5] }
  | _ => none }
def QuorumEndsWrongFalsely : Prop := quorumEndsRow.holds Try.pinned (OpenSpec.ofChange quorumEndsWrong)

/- THE SECOND FORM. 'bulk': how many values and letters a reading holds, each counted each time it is reached (what is shared counts as often as it is met; a slice's spare places count too). A statement '..UptoSaid' is the law's where the arguments, and the package variables that the reading takes, are together of bulk at most 1048576: NARROWER than '..Said'. Prove '..Said' where nothing that the law and all that it calls make is longer than what came in: it says more and counts as full. Else prove '..UptoSaid'. A law counts once. -/
mutual
def uptoBulk {H : Type} : DataW H → Nat
  | .lit (.string bytes) => bytes.length + 1
  | .lit _ => 1
  | .nil => 1
  | .ptr d => uptoBulk d + 1
  | .slice elems spare => uptoBulkAll elems + uptoBulkAll spare + 1
  | .agg parts => uptoBulkAll parts + 1
  | .iface _ d => uptoBulk d + 1
  | .map entries => uptoBulkEntries entries + 1
  | .held _ => 1
def uptoBulkAll {H : Type} : List (DataW H) → Nat
  | [] => 0
  | d :: r => uptoBulk d + uptoBulkAll r
def uptoBulkEntries {H : Type} : List (Lit × DataW H) → Nat
  | [] => 0
  | x :: r => uptoBulkEntry x + uptoBulkEntries r
def uptoBulkEntry {H : Type} : Lit × DataW H → Nat
  | (.string bytes, d) => bytes.length + uptoBulk d + 1
  | (_, d) => uptoBulk d + 1
 end
def uptoSmall : (H : Type) → List (DataW H) → Bool := fun _ ds => decide (uptoBulkAll ds ≤ 1048576)
def OpenSpec.upto (s : _root_.Go.ChangeSpec) : _root_.Go.OpenSpec := { _root_.Go.OpenSpec.ofChange s with cond := some uptoSmall }

/-- 'gafferlaw15.QuorumSettled', WHERE WHAT IT READS IS OF BULK AT MOST 1048576: true; the input reads as it did. -/
def quorumSettledUptoRow : OpenClaim := { program := "ytjlhohdfojkogaa", sum := "0b0e2815a8154744a8cd2551ea0f9b408f6f38a8b96a8e6dd29acc386c17fbc2", func := "gaffer/gafferlaw15.QuorumSettled", spec := "quorumSettled", unfollowed := true, recurses := true, apart := false, narrowed := true }
def QuorumSettledUptoSaid : Prop := quorumSettledUptoRow.holds Try.pinned (OpenSpec.upto quorumSettledSpec)

/-- 'gafferlaw15.QuorumMost', WHERE WHAT IT READS IS OF BULK AT MOST 1048576: true; the input reads as it did. -/
def quorumMostUptoRow : OpenClaim := { program := "ytjlhohdfojkogaa", sum := "0b0e2815a8154744a8cd2551ea0f9b408f6f38a8b96a8e6dd29acc386c17fbc2", func := "gaffer/gafferlaw15.QuorumMost", spec := "quorumMost", unfollowed := true, recurses := true, apart := false, narrowed := true }
def QuorumMostUptoSaid : Prop := quorumMostUptoRow.holds Try.pinned (OpenSpec.upto quorumMostSpec)

/-- 'gafferlaw15.QuorumShared', WHERE WHAT IT READS IS OF BULK AT MOST 1048576: true; the input reads as it did. -/
def quorumSharedUptoRow : OpenClaim := { program := "ytjlhohdfojkogaa", sum := "0b0e2815a8154744a8cd2551ea0f9b408f6f38a8b96a8e6dd29acc386c17fbc2", func := "gaffer/gafferlaw15.QuorumShared", spec := "quorumShared", unfollowed := true, recurses := true, apart := false, narrowed := true }
def QuorumSharedUptoSaid : Prop := quorumSharedUptoRow.holds Try.pinned (OpenSpec.upto quorumSharedSpec)

/-- 'gafferlaw15.QuorumHas', WHERE WHAT IT READS IS OF BULK AT MOST 1048576: true; the input reads as it did. -/
def quorumHasUptoRow : OpenClaim := { program := "ytjlhohdfojkogaa", sum := "0b0e2815a8154744a8cd2551ea0f9b408f6f38a8b96a8e6dd29acc386c17fbc2", func := "gaffer/gafferlaw15.QuorumHas", spec := "quorumHas", unfollowed := true, recurses := true, apart := false, narrowed := true }
def QuorumHasUptoSaid : Prop := quorumHasUptoRow.holds Try.pinned (OpenSpec.upto quorumHasSpec)

/-- 'gafferlaw15.QuorumMore', WHERE WHAT IT READS IS OF BULK AT MOST 1048576: true; the input reads as it did. -/
def quorumMoreUptoRow : OpenClaim := { program := "ytjlhohdfojkogaa", sum := "0b0e2815a8154744a8cd2551ea0f9b408f6f38a8b96a8e6dd29acc386c17fbc2", func := "gaffer/gafferlaw15.QuorumMore", spec := "quorumMore", unfollowed := true, recurses := true, apart := false, narrowed := true }
def QuorumMoreUptoSaid : Prop := quorumMoreUptoRow.holds Try.pinned (OpenSpec.upto quorumMoreSpec)

/-- 'gafferlaw15.QuorumBack', WHERE WHAT IT READS IS OF BULK AT MOST 1048576: true; the input reads as it did. -/
def quorumBackUptoRow : OpenClaim := { program := "ytjlhohdfojkogaa", sum := "0b0e2815a8154744a8cd2551ea0f9b408f6f38a8b96a8e6dd29acc386c17fbc2", func := "gaffer/gafferlaw15.QuorumBack", spec := "quorumBack", unfollowed := true, recurses := true, apart := false, narrowed := true }
def QuorumBackUptoSaid : Prop := quorumBackUptoRow.holds Try.pinned (OpenSpec.upto quorumBackSpec)

/-- 'gafferlaw15.QuorumEnds', WHERE WHAT IT READS IS OF BULK AT MOST 1048576: true; the input reads as it did. -/
def quorumEndsUptoRow : OpenClaim := { program := "ytjlhohdfojkogaa", sum := "0b0e2815a8154744a8cd2551ea0f9b408f6f38a8b96a8e6dd29acc386c17fbc2", func := "gaffer/gafferlaw15.QuorumEnds", spec := "quorumEnds", unfollowed := true, recurses := true, apart := false, narrowed := true }
def QuorumEndsUptoSaid : Prop := quorumEndsUptoRow.holds Try.pinned (OpenSpec.upto quorumEndsSpec)

end Rows
end Go.Proofs.Ytjlhohdfojkogaa
