/-
  No cell of these rows narrows 'for every input' (looked for: loops, veiled, ifaces, maps, wideKeys, modest, calm, conditions, laid).
  DERIVED. THE GIVEN ROWS OF THIS SEAT. 5 by the template 'for every input the law returns true; each argument reads behind the call as it read before'; 0 by the template 'total and deterministic' (their statements: YtcdlookokffkeaaTotals.lean).
  GIVEN WITH THE SEED: the statements are not yours to turn. If you find one false, say at which input.
  Laid BY PROGRAM, IN A SANDBOX (cutbox-rows.mjs): the forced cells as the released guide's own fill.sh prints them over the translation 35fb653255ca6c1f… (all of the seat's roots in one cut). By AI agents, Wed Nov 11 2026. No macro, syntax, notation, axiom, sorry.
-/
import Derived.Test.YtcdlookokffkeaaChecked
import GoSem.Claim
import GoSem.ClaimJoined
import GoSem.ClaimMapViews
import Derived.JoinedTies
import Derived.KernelRfl
namespace Go.Proofs.Ytcdlookokffkeaa
/- THE CELL 'sum', in the pinned program and in every row, IS THE sha256 OF THE DUMP (.gsa) THAT YtcdlookokffkeaaProg.lean LOADS. Nothing in Lean hashes anything: it is a label: what it is worth is what the hold of that sum in a sandbox is worth. -/
noncomputable def Try.pinned : Pinned := { name := "ytcdlookokffkeaa", sum := "35fb653255ca6c1f41533045615a6daae02a05d632daa37d119e53bdb9df6947", checked := Try.checked }
namespace Rows
def none {H : Type} : Left H := { results := [], args := [] }

/-- 'laws.FnExactPagesIn': WHATEVER THE INPUT: true; the input reads as it did. -/
def fnExactPagesInSpec : ChangeSpec := { name := "fnExactPagesIn", fn := fun _ => fun
  | [d1, d2] => { results := [.lit (.bool true)], args := [d1, d2] }
  | _ => none }
def fnExactPagesInRow : OpenClaim := { program := "ytcdlookokffkeaa", sum := "35fb653255ca6c1f41533045615a6daae02a05d632daa37d119e53bdb9df6947", func := "loop.example/g00083/laws.FnExactPagesIn", spec := "fnExactPagesIn", inPlace := ["slices.overlaps[int]"], unfollowed := true, recurses := true, apart := false }
def FnExactPagesInSaid : Prop := fnExactPagesInRow.holds Try.pinned (OpenSpec.ofChange fnExactPagesInSpec)

/-- ITS FALSE NEIGHBOUR: 'it returns false'. Refute it at one input. -/
def fnExactPagesInWrong : ChangeSpec := { name := "fnExactPagesIn", fn := fun _ => fun
  | [d1, d2] => { results := [.lit (.bool false)], args := [d1, d2] }
  | _ => none }
def FnExactPagesInWrongFalsely : Prop := fnExactPagesInRow.holds Try.pinned (OpenSpec.ofChange fnExactPagesInWrong)

/-- 'laws.FnExactGoodTree': WHATEVER THE INPUT: true; the input reads as it did. -/
def fnExactGoodTreeSpec : ChangeSpec := { name := "fnExactGoodTree", fn := fun _ => fun
  | [d1, d2] => { results := [.lit (.bool true)], args := [d1, d2] }
  | _ => none }
def fnExactGoodTreeRow : OpenClaim := { program := "ytcdlookokffkeaa", sum := "35fb653255ca6c1f41533045615a6daae02a05d632daa37d119e53bdb9df6947", func := "loop.example/g00083/laws.FnExactGoodTree", spec := "fnExactGoodTree", unfollowed := true, recurses := true, apart := false }
def FnExactGoodTreeSaid : Prop := fnExactGoodTreeRow.holds Try.pinned (OpenSpec.ofChange fnExactGoodTreeSpec)

/-- ITS FALSE NEIGHBOUR: 'it returns false'. Refute it at one input. -/
def fnExactGoodTreeWrong : ChangeSpec := { name := "fnExactGoodTree", fn := fun _ => fun
  | [d1, d2] => { results := [.lit (.bool false)], args := [d1, d2] }
  | _ => none }
def FnExactGoodTreeWrongFalsely : Prop := fnExactGoodTreeRow.holds Try.pinned (OpenSpec.ofChange fnExactGoodTreeWrong)

/-- 'laws.FnExactValueIn': WHATEVER THE INPUT: true; the input reads as it did. -/
def fnExactValueInSpec : ChangeSpec := { name := "fnExactValueIn", fn := fun _ => fun
  | [d1, d2, d3] => { results := [.lit (.bool true)], args := [d1, d2, d3] }
  | _ => none }
def fnExactValueInRow : OpenClaim := { program := "ytcdlookokffkeaa", sum := "35fb653255ca6c1f41533045615a6daae02a05d632daa37d119e53bdb9df6947", func := "loop.example/g00083/laws.FnExactValueIn", spec := "fnExactValueIn", unfollowed := true, recurses := true, apart := false }
def FnExactValueInSaid : Prop := fnExactValueInRow.holds Try.pinned (OpenSpec.ofChange fnExactValueInSpec)

/-- ITS FALSE NEIGHBOUR: 'it returns false'. Refute it at one input. -/
def fnExactValueInWrong : ChangeSpec := { name := "fnExactValueIn", fn := fun _ => fun
  | [d1, d2, d3] => { results := [.lit (.bool false)], args := [d1, d2, d3] }
  | _ => none }
def FnExactValueInWrongFalsely : Prop := fnExactValueInRow.holds Try.pinned (OpenSpec.ofChange fnExactValueInWrong)

/-- 'laws.FnExactKeysIn': WHATEVER THE INPUT: true; the input reads as it did. -/
def fnExactKeysInSpec : ChangeSpec := { name := "fnExactKeysIn", fn := fun _ => fun
  | [d1, d2] => { results := [.lit (.bool true)], args := [d1, d2] }
  | _ => none }
def fnExactKeysInRow : OpenClaim := { program := "ytcdlookokffkeaa", sum := "35fb653255ca6c1f41533045615a6daae02a05d632daa37d119e53bdb9df6947", func := "loop.example/g00083/laws.FnExactKeysIn", spec := "fnExactKeysIn", unfollowed := true, recurses := true, apart := false }
def FnExactKeysInSaid : Prop := fnExactKeysInRow.holds Try.pinned (OpenSpec.ofChange fnExactKeysInSpec)

/-- ITS FALSE NEIGHBOUR: 'it returns false'. Refute it at one input. -/
def fnExactKeysInWrong : ChangeSpec := { name := "fnExactKeysIn", fn := fun _ => fun
  | [d1, d2] => { results := [.lit (.bool false)], args := [d1, d2] }
  | _ => none }
def FnExactKeysInWrongFalsely : Prop := fnExactKeysInRow.holds Try.pinned (OpenSpec.ofChange fnExactKeysInWrong)

/-- 'laws.FnExactNeedForKeys': WHATEVER THE INPUT: true; the input reads as it did. -/
def fnExactNeedForKeysSpec : ChangeSpec := { name := "fnExactNeedForKeys", fn := fun _ => fun
  | [d1, d2, d3] => { results := [.lit (.bool true)], args := [d1, d2, d3] }
  | _ => none }
def fnExactNeedForKeysRow : OpenClaim := { program := "ytcdlookokffkeaa", sum := "35fb653255ca6c1f41533045615a6daae02a05d632daa37d119e53bdb9df6947", func := "loop.example/g00083/laws.FnExactNeedForKeys", spec := "fnExactNeedForKeys", unfollowed := true, recurses := true, apart := false }
def FnExactNeedForKeysSaid : Prop := fnExactNeedForKeysRow.holds Try.pinned (OpenSpec.ofChange fnExactNeedForKeysSpec)

/-- ITS FALSE NEIGHBOUR: 'it returns false'. Refute it at one input. -/
def fnExactNeedForKeysWrong : ChangeSpec := { name := "fnExactNeedForKeys", fn := fun _ => fun
  | [d1, d2, d3] => { results := [.lit (.bool false)], args := [d1, d2, d3] }
  | _ => none }
def FnExactNeedForKeysWrongFalsely : Prop := fnExactNeedForKeysRow.holds Try.pinned (OpenSpec.ofChange fnExactNeedForKeysWrong)

/- THE SECOND FORM. 'bulk': how many values and letters a reading holds, each counted each time it is reached (what is shared counts as often as it is met; a slice's spare places count too). A statement '..UptoSaid' is the law's where the arguments, and the package variables that the reading takes, are together of bulk at most 1048576: NARROWER than '..Said'. Prove '..Said' where nothing that the law and all that it calls make is longer than what came in: it says more and counts as full. Else prove '..UptoSaid'. A law counts once. -/
mutual
def uptoBulk {H : Type} : DataW H → Nat
  | .lit (.string bytes) => bytes.length + 1
  | .lit _ => 1
  | .nil => 1
  | .ptr d => uptoBulk d + 1
  | .slice elems spare => uptoBulkAll elems + uptoBulkAll spare + 1
  | .agg parts => uptoBulkAll parts + 1
  | .iface _ d => uptoBulk d + 1
  | .map entries => uptoBulkEntries entries + 1
  | .held _ => 1
def uptoBulkAll {H : Type} : List (DataW H) → Nat
  | [] => 0
  | d :: r => uptoBulk d + uptoBulkAll r
def uptoBulkEntries {H : Type} : List (Lit × DataW H) → Nat
  | [] => 0
  | x :: r => uptoBulkEntry x + uptoBulkEntries r
def uptoBulkEntry {H : Type} : Lit × DataW H → Nat
  | (.string bytes, d) => bytes.length + uptoBulk d + 1
  | (_, d) => uptoBulk d + 1
 end
def uptoSmall : (H : Type) → List (DataW H) → Bool := fun _ ds => decide (uptoBulkAll ds ≤ 1048576)
def OpenSpec.upto (s : _root_.Go.ChangeSpec) : _root_.Go.OpenSpec := { _root_.Go.OpenSpec.ofChange s with cond := some uptoSmall }

/-- 'laws.FnExactPagesIn', WHERE WHAT IT READS IS OF BULK AT MOST 1048576: true; the input reads as it did. -/
def fnExactPagesInUptoRow : OpenClaim := { program := "ytcdlookokffkeaa", sum := "35fb653255ca6c1f41533045615a6daae02a05d632daa37d119e53bdb9df6947", func := "loop.example/g00083/laws.FnExactPagesIn", spec := "fnExactPagesIn", inPlace := ["slices.overlaps[int]"], unfollowed := true, recurses := true, apart := false, narrowed := true }
def FnExactPagesInUptoSaid : Prop := fnExactPagesInUptoRow.holds Try.pinned (OpenSpec.upto fnExactPagesInSpec)

/-- 'laws.FnExactGoodTree', WHERE WHAT IT READS IS OF BULK AT MOST 1048576: true; the input reads as it did. -/
def fnExactGoodTreeUptoRow : OpenClaim := { program := "ytcdlookokffkeaa", sum := "35fb653255ca6c1f41533045615a6daae02a05d632daa37d119e53bdb9df6947", func := "loop.example/g00083/laws.FnExactGoodTree", spec := "fnExactGoodTree", unfollowed := true, recurses := true, apart := false, narrowed := true }
def FnExactGoodTreeUptoSaid : Prop := fnExactGoodTreeUptoRow.holds Try.pinned (OpenSpec.upto fnExactGoodTreeSpec)

/-- 'laws.FnExactValueIn', WHERE WHAT IT READS IS OF BULK AT MOST 1048576: true; the input reads as it did. -/
def fnExactValueInUptoRow : OpenClaim := { program := "ytcdlookokffkeaa", sum := "35fb653255ca6c1f41533045615a6daae02a05d632daa37d119e53bdb9df6947", func := "loop.example/g00083/laws.FnExactValueIn", spec := "fnExactValueIn", unfollowed := true, recurses := true, apart := false, narrowed := true }
def FnExactValueInUptoSaid : Prop := fnExactValueInUptoRow.holds Try.pinned (OpenSpec.upto fnExactValueInSpec)

/-- 'laws.FnExactKeysIn', WHERE WHAT IT READS IS OF BULK AT MOST 1048576: true; the input reads as it did. -/
def fnExactKeysInUptoRow : OpenClaim := { program := "ytcdlookokffkeaa", sum := "35fb653255ca6c1f41533045615a6daae02a05d632daa37d119e53bdb9df6947", func := "loop.example/g00083/laws.FnExactKeysIn", spec := "fnExactKeysIn", unfollowed := true, recurses := true, apart := false, narrowed := true }
def FnExactKeysInUptoSaid : Prop := fnExactKeysInUptoRow.holds Try.pinned (OpenSpec.upto fnExactKeysInSpec)

/-- 'laws.FnExactNeedForKeys', WHERE WHAT IT READS IS OF BULK AT MOST 1048576: true; the input reads as it did. -/
def fnExactNeedForKeysUptoRow : OpenClaim := { program := "ytcdlookokffkeaa", sum := "35fb653255ca6c1f41533045615a6daae02a05d632daa37d119e53bdb9df6947", func := "loop.example/g00083/laws.FnExactNeedForKeys", spec := "fnExactNeedForKeys", unfollowed := true, recurses := true, apart := false, narrowed := true }
def FnExactNeedForKeysUptoSaid : Prop := fnExactNeedForKeysUptoRow.holds Try.pinned (OpenSpec.upto fnExactNeedForKeysSpec)

end Rows
end Go.Proofs.Ytcdlookokffkeaa
