/-
  No cell of these rows narrows 'for every input' (looked for: loops, veiled, ifaces, maps, wideKeys, modest, calm, conditions, laid).
  DERIVED. THE GIVEN ROWS OF THIS SEAT. 12 by the template 'for every input the law returns true; each argument reads behind the call as it read before'; 0 by the template 'total and deterministic' (their statements: YtebmncdjlmnbnaaTotals.lean).
  GIVEN WITH THE SEED: the statements are not yours to turn. If you find one false, say at which input.
  Laid BY PROGRAM, IN A SANDBOX (cutbox-rows.mjs): the forced cells as the released guide's own fill.sh prints them over the translation 4956fe96b63b2d86… (all of the seat's roots in one cut). By AI agents, Wed Nov 11 2026. No macro, syntax, notation, axiom, sorry.
-/
import Derived.Test.YtebmncdjlmnbnaaChecked
import GoSem.Claim
import GoSem.ClaimJoined
import GoSem.ClaimMapViews
import Derived.JoinedTies
import Derived.KernelRfl
namespace Go.Proofs.Ytebmncdjlmnbnaa
/- THE CELL 'sum', in the pinned program and in every row, IS THE sha256 OF THE DUMP (.gsa) THAT YtebmncdjlmnbnaaProg.lean LOADS. Nothing in Lean hashes anything: it is a label: what it is worth is what the hold of that sum in a sandbox is worth. -/
noncomputable def Try.pinned : Pinned := { name := "ytebmncdjlmnbnaa", sum := "4956fe96b63b2d86b6e9fe6ffa413def667620a7c0180dae68824f8fb144ae4d", checked := Try.checked }
namespace Rows
def none {H : Type} : Left H := { results := [], args := [] }

/-- 'laws.FnExactGoodChange': WHATEVER THE INPUT: true; the input reads as it did. -/
def fnExactGoodChangeSpec : ChangeSpec := { name := "fnExactGoodChange", fn := fun _ => fun
  | [d] => { results := [.lit (.bool true)], args := [d] }
  | _ => none }
def fnExactGoodChangeRow : OpenClaim := { program := "ytebmncdjlmnbnaa", sum := "4956fe96b63b2d86b6e9fe6ffa413def667620a7c0180dae68824f8fb144ae4d", func := "loop.example/g00083/laws.FnExactGoodChange", spec := "fnExactGoodChange", apart := false }
def FnExactGoodChangeSaid : Prop := fnExactGoodChangeRow.holds Try.pinned (OpenSpec.ofChange fnExactGoodChangeSpec)

/-- ITS FALSE NEIGHBOUR: 'it returns false'. Refute it at one input. -/
def fnExactGoodChangeWrong : ChangeSpec := { name := "fnExactGoodChange", fn := fun _ => fun
  | [d] => { results := [.lit (.bool false)], args := [d] }
  | _ => none }
def FnExactGoodChangeWrongFalsely : Prop := fnExactGoodChangeRow.holds Try.pinned (OpenSpec.ofChange fnExactGoodChangeWrong)

/-- 'laws.FnExactLengthsOf': WHATEVER THE INPUT: true; the input reads as it did. -/
def fnExactLengthsOfSpec : ChangeSpec := { name := "fnExactLengthsOf", fn := fun _ => fun
  | [d] => { results := [.lit (.bool true)], args := [d] }
  | _ => none }
def fnExactLengthsOfRow : OpenClaim := { program := "ytebmncdjlmnbnaa", sum := "4956fe96b63b2d86b6e9fe6ffa413def667620a7c0180dae68824f8fb144ae4d", func := "loop.example/g00083/laws.FnExactLengthsOf", spec := "fnExactLengthsOf", apart := false }
def FnExactLengthsOfSaid : Prop := fnExactLengthsOfRow.holds Try.pinned (OpenSpec.ofChange fnExactLengthsOfSpec)

/-- ITS FALSE NEIGHBOUR: 'it returns false'. Refute it at one input. -/
def fnExactLengthsOfWrong : ChangeSpec := { name := "fnExactLengthsOf", fn := fun _ => fun
  | [d] => { results := [.lit (.bool false)], args := [d] }
  | _ => none }
def FnExactLengthsOfWrongFalsely : Prop := fnExactLengthsOfRow.holds Try.pinned (OpenSpec.ofChange fnExactLengthsOfWrong)

/-- 'laws.FnExactApplyChange': WHATEVER THE INPUT: true; the input reads as it did. -/
def fnExactApplyChangeSpec : ChangeSpec := { name := "fnExactApplyChange", fn := fun _ => fun
  | [d1, d2] => { results := [.lit (.bool true)], args := [d1, d2] }
  | _ => none }
def fnExactApplyChangeRow : OpenClaim := { program := "ytebmncdjlmnbnaa", sum := "4956fe96b63b2d86b6e9fe6ffa413def667620a7c0180dae68824f8fb144ae4d", func := "loop.example/g00083/laws.FnExactApplyChange", spec := "fnExactApplyChange", apart := false }
def FnExactApplyChangeSaid : Prop := fnExactApplyChangeRow.holds Try.pinned (OpenSpec.ofChange fnExactApplyChangeSpec)

/-- ITS FALSE NEIGHBOUR: 'it returns false'. Refute it at one input. -/
def fnExactApplyChangeWrong : ChangeSpec := { name := "fnExactApplyChange", fn := fun _ => fun
  | [d1, d2] => { results := [.lit (.bool false)], args := [d1, d2] }
  | _ => none }
def FnExactApplyChangeWrongFalsely : Prop := fnExactApplyChangeRow.holds Try.pinned (OpenSpec.ofChange fnExactApplyChangeWrong)

/-- 'laws.FnExactImageOf': WHATEVER THE INPUT: true; the input reads as it did. -/
def fnExactImageOfSpec : ChangeSpec := { name := "fnExactImageOf", fn := fun _ => fun
  | [d1, d2, d3] => { results := [.lit (.bool true)], args := [d1, d2, d3] }
  | _ => none }
def fnExactImageOfRow : OpenClaim := { program := "ytebmncdjlmnbnaa", sum := "4956fe96b63b2d86b6e9fe6ffa413def667620a7c0180dae68824f8fb144ae4d", func := "loop.example/g00083/laws.FnExactImageOf", spec := "fnExactImageOf", apart := false }
def FnExactImageOfSaid : Prop := fnExactImageOfRow.holds Try.pinned (OpenSpec.ofChange fnExactImageOfSpec)

/-- ITS FALSE NEIGHBOUR: 'it returns false'. Refute it at one input. -/
def fnExactImageOfWrong : ChangeSpec := { name := "fnExactImageOf", fn := fun _ => fun
  | [d1, d2, d3] => { results := [.lit (.bool false)], args := [d1, d2, d3] }
  | _ => none }
def FnExactImageOfWrongFalsely : Prop := fnExactImageOfRow.holds Try.pinned (OpenSpec.ofChange fnExactImageOfWrong)

/-- 'laws.FnExactWriteChange': WHATEVER THE INPUT: true; the input reads as it did. -/
def fnExactWriteChangeSpec : ChangeSpec := { name := "fnExactWriteChange", fn := fun _ => fun
  | [d] => { results := [.lit (.bool true)], args := [d] }
  | _ => none }
def fnExactWriteChangeRow : OpenClaim := { program := "ytebmncdjlmnbnaa", sum := "4956fe96b63b2d86b6e9fe6ffa413def667620a7c0180dae68824f8fb144ae4d", func := "loop.example/g00083/laws.FnExactWriteChange", spec := "fnExactWriteChange", apart := false }
def FnExactWriteChangeSaid : Prop := fnExactWriteChangeRow.holds Try.pinned (OpenSpec.ofChange fnExactWriteChangeSpec)

/-- ITS FALSE NEIGHBOUR: 'it returns false'. Refute it at one input. -/
def fnExactWriteChangeWrong : ChangeSpec := { name := "fnExactWriteChange", fn := fun _ => fun
  | [d] => { results := [.lit (.bool false)], args := [d] }
  | _ => none }
def FnExactWriteChangeWrongFalsely : Prop := fnExactWriteChangeRow.holds Try.pinned (OpenSpec.ofChange fnExactWriteChangeWrong)

/-- 'laws.FnExactReadChange': WHATEVER THE INPUT: true; the input reads as it did. -/
def fnExactReadChangeSpec : ChangeSpec := { name := "fnExactReadChange", fn := fun _ => fun
  | [d] => { results := [.lit (.bool true)], args := [d] }
  | _ => none }
def fnExactReadChangeRow : OpenClaim := { program := "ytebmncdjlmnbnaa", sum := "4956fe96b63b2d86b6e9fe6ffa413def667620a7c0180dae68824f8fb144ae4d", func := "loop.example/g00083/laws.FnExactReadChange", spec := "fnExactReadChange", apart := false }
def FnExactReadChangeSaid : Prop := fnExactReadChangeRow.holds Try.pinned (OpenSpec.ofChange fnExactReadChangeSpec)

/-- ITS FALSE NEIGHBOUR: 'it returns false'. Refute it at one input. -/
def fnExactReadChangeWrong : ChangeSpec := { name := "fnExactReadChange", fn := fun _ => fun
  | [d] => { results := [.lit (.bool false)], args := [d] }
  | _ => none }
def FnExactReadChangeWrongFalsely : Prop := fnExactReadChangeRow.holds Try.pinned (OpenSpec.ofChange fnExactReadChangeWrong)

/-- 'laws.FnExactInvertChange': WHATEVER THE INPUT: true; the input reads as it did. -/
def fnExactInvertChangeSpec : ChangeSpec := { name := "fnExactInvertChange", fn := fun _ => fun
  | [d1, d2] => { results := [.lit (.bool true)], args := [d1, d2] }
  | _ => none }
def fnExactInvertChangeRow : OpenClaim := { program := "ytebmncdjlmnbnaa", sum := "4956fe96b63b2d86b6e9fe6ffa413def667620a7c0180dae68824f8fb144ae4d", func := "loop.example/g00083/laws.FnExactInvertChange", spec := "fnExactInvertChange", apart := false }
def FnExactInvertChangeSaid : Prop := fnExactInvertChangeRow.holds Try.pinned (OpenSpec.ofChange fnExactInvertChangeSpec)

/-- ITS FALSE NEIGHBOUR: 'it returns false'. Refute it at one input. -/
def fnExactInvertChangeWrong : ChangeSpec := { name := "fnExactInvertChange", fn := fun _ => fun
  | [d1, d2] => { results := [.lit (.bool false)], args := [d1, d2] }
  | _ => none }
def FnExactInvertChangeWrongFalsely : Prop := fnExactInvertChangeRow.holds Try.pinned (OpenSpec.ofChange fnExactInvertChangeWrong)

/-- 'laws.FnExactNormalOf': WHATEVER THE INPUT: true; the input reads as it did. -/
def fnExactNormalOfSpec : ChangeSpec := { name := "fnExactNormalOf", fn := fun _ => fun
  | [d] => { results := [.lit (.bool true)], args := [d] }
  | _ => none }
def fnExactNormalOfRow : OpenClaim := { program := "ytebmncdjlmnbnaa", sum := "4956fe96b63b2d86b6e9fe6ffa413def667620a7c0180dae68824f8fb144ae4d", func := "loop.example/g00083/laws.FnExactNormalOf", spec := "fnExactNormalOf", apart := false }
def FnExactNormalOfSaid : Prop := fnExactNormalOfRow.holds Try.pinned (OpenSpec.ofChange fnExactNormalOfSpec)

/-- ITS FALSE NEIGHBOUR: 'it returns false'. Refute it at one input. -/
def fnExactNormalOfWrong : ChangeSpec := { name := "fnExactNormalOf", fn := fun _ => fun
  | [d] => { results := [.lit (.bool false)], args := [d] }
  | _ => none }
def FnExactNormalOfWrongFalsely : Prop := fnExactNormalOfRow.holds Try.pinned (OpenSpec.ofChange fnExactNormalOfWrong)

/-- 'laws.FnExactCarryChange': WHATEVER THE INPUT: true; the input reads as it did. -/
def fnExactCarryChangeSpec : ChangeSpec := { name := "fnExactCarryChange", fn := fun _ => fun
  | [d1, d2, d3] => { results := [.lit (.bool true)], args := [d1, d2, d3] }
  | _ => none }
def fnExactCarryChangeRow : OpenClaim := { program := "ytebmncdjlmnbnaa", sum := "4956fe96b63b2d86b6e9fe6ffa413def667620a7c0180dae68824f8fb144ae4d", func := "loop.example/g00083/laws.FnExactCarryChange", spec := "fnExactCarryChange", apart := false }
def FnExactCarryChangeSaid : Prop := fnExactCarryChangeRow.holds Try.pinned (OpenSpec.ofChange fnExactCarryChangeSpec)

/-- ITS FALSE NEIGHBOUR: 'it returns false'. Refute it at one input. -/
def fnExactCarryChangeWrong : ChangeSpec := { name := "fnExactCarryChange", fn := fun _ => fun
  | [d1, d2, d3] => { results := [.lit (.bool false)], args := [d1, d2, d3] }
  | _ => none }
def FnExactCarryChangeWrongFalsely : Prop := fnExactCarryChangeRow.holds Try.pinned (OpenSpec.ofChange fnExactCarryChangeWrong)

/-- 'laws.FnExactComposeChanges': WHATEVER THE INPUT: true; the input reads as it did. -/
def fnExactComposeChangesSpec : ChangeSpec := { name := "fnExactComposeChanges", fn := fun _ => fun
  | [d1, d2] => { results := [.lit (.bool true)], args := [d1, d2] }
  | _ => none }
def fnExactComposeChangesRow : OpenClaim := { program := "ytebmncdjlmnbnaa", sum := "4956fe96b63b2d86b6e9fe6ffa413def667620a7c0180dae68824f8fb144ae4d", func := "loop.example/g00083/laws.FnExactComposeChanges", spec := "fnExactComposeChanges", apart := false }
def FnExactComposeChangesSaid : Prop := fnExactComposeChangesRow.holds Try.pinned (OpenSpec.ofChange fnExactComposeChangesSpec)

/-- ITS FALSE NEIGHBOUR: 'it returns false'. Refute it at one input. -/
def fnExactComposeChangesWrong : ChangeSpec := { name := "fnExactComposeChanges", fn := fun _ => fun
  | [d1, d2] => { results := [.lit (.bool false)], args := [d1, d2] }
  | _ => none }
def FnExactComposeChangesWrongFalsely : Prop := fnExactComposeChangesRow.holds Try.pinned (OpenSpec.ofChange fnExactComposeChangesWrong)

/-- 'laws.FnExactComposeAll': WHATEVER THE INPUT: true; the input reads as it did. -/
def fnExactComposeAllSpec : ChangeSpec := { name := "fnExactComposeAll", fn := fun _ => fun
  | [d] => { results := [.lit (.bool true)], args := [d] }
  | _ => none }
def fnExactComposeAllRow : OpenClaim := { program := "ytebmncdjlmnbnaa", sum := "4956fe96b63b2d86b6e9fe6ffa413def667620a7c0180dae68824f8fb144ae4d", func := "loop.example/g00083/laws.FnExactComposeAll", spec := "fnExactComposeAll", apart := false }
def FnExactComposeAllSaid : Prop := fnExactComposeAllRow.holds Try.pinned (OpenSpec.ofChange fnExactComposeAllSpec)

/-- ITS FALSE NEIGHBOUR: 'it returns false'. Refute it at one input. -/
def fnExactComposeAllWrong : ChangeSpec := { name := "fnExactComposeAll", fn := fun _ => fun
  | [d] => { results := [.lit (.bool false)], args := [d] }
  | _ => none }
def FnExactComposeAllWrongFalsely : Prop := fnExactComposeAllRow.holds Try.pinned (OpenSpec.ofChange fnExactComposeAllWrong)

/-- 'laws.FnExactGoodHistory': WHATEVER THE INPUT: true; the input reads as it did. -/
def fnExactGoodHistorySpec : ChangeSpec := { name := "fnExactGoodHistory", fn := fun _ => fun
  | [d] => { results := [.lit (.bool true)], args := [d] }
  | _ => none }
def fnExactGoodHistoryRow : OpenClaim := { program := "ytebmncdjlmnbnaa", sum := "4956fe96b63b2d86b6e9fe6ffa413def667620a7c0180dae68824f8fb144ae4d", func := "loop.example/g00083/laws.FnExactGoodHistory", spec := "fnExactGoodHistory", apart := false }
def FnExactGoodHistorySaid : Prop := fnExactGoodHistoryRow.holds Try.pinned (OpenSpec.ofChange fnExactGoodHistorySpec)

/-- ITS FALSE NEIGHBOUR: 'it returns false'. Refute it at one input. -/
def fnExactGoodHistoryWrong : ChangeSpec := { name := "fnExactGoodHistory", fn := fun _ => fun
  | [d] => { results := [.lit (.bool false)], args := [d] }
  | _ => none }
def FnExactGoodHistoryWrongFalsely : Prop := fnExactGoodHistoryRow.holds Try.pinned (OpenSpec.ofChange fnExactGoodHistoryWrong)

/- THE SECOND FORM. 'bulk': how many values and letters a reading holds, each counted each time it is reached (what is shared counts as often as it is met; a slice's spare places count too). A statement '..UptoSaid' is the law's where the arguments, and the package variables that the reading takes, are together of bulk at most 1048576: NARROWER than '..Said'. Prove '..Said' where nothing that the law and all that it calls make is longer than what came in: it says more and counts as full. Else prove '..UptoSaid'. A law counts once. -/
mutual
def uptoBulk {H : Type} : DataW H → Nat
  | .lit (.string bytes) => bytes.length + 1
  | .lit _ => 1
  | .nil => 1
  | .ptr d => uptoBulk d + 1
  | .slice elems spare => uptoBulkAll elems + uptoBulkAll spare + 1
  | .agg parts => uptoBulkAll parts + 1
  | .iface _ d => uptoBulk d + 1
  | .map entries => uptoBulkEntries entries + 1
  | .held _ => 1
def uptoBulkAll {H : Type} : List (DataW H) → Nat
  | [] => 0
  | d :: r => uptoBulk d + uptoBulkAll r
def uptoBulkEntries {H : Type} : List (Lit × DataW H) → Nat
  | [] => 0
  | x :: r => uptoBulkEntry x + uptoBulkEntries r
def uptoBulkEntry {H : Type} : Lit × DataW H → Nat
  | (.string bytes, d) => bytes.length + uptoBulk d + 1
  | (_, d) => uptoBulk d + 1
 end
def uptoSmall : (H : Type) → List (DataW H) → Bool := fun _ ds => decide (uptoBulkAll ds ≤ 1048576)
def OpenSpec.upto (s : _root_.Go.ChangeSpec) : _root_.Go.OpenSpec := { _root_.Go.OpenSpec.ofChange s with cond := some uptoSmall }

/-- 'laws.FnExactGoodChange', WHERE WHAT IT READS IS OF BULK AT MOST 1048576: true; the input reads as it did. -/
def fnExactGoodChangeUptoRow : OpenClaim := { program := "ytebmncdjlmnbnaa", sum := "4956fe96b63b2d86b6e9fe6ffa413def667620a7c0180dae68824f8fb144ae4d", func := "loop.example/g00083/laws.FnExactGoodChange", spec := "fnExactGoodChange", apart := false, narrowed := true }
def FnExactGoodChangeUptoSaid : Prop := fnExactGoodChangeUptoRow.holds Try.pinned (OpenSpec.upto fnExactGoodChangeSpec)

/-- 'laws.FnExactLengthsOf', WHERE WHAT IT READS IS OF BULK AT MOST 1048576: true; the input reads as it did. -/
def fnExactLengthsOfUptoRow : OpenClaim := { program := "ytebmncdjlmnbnaa", sum := "4956fe96b63b2d86b6e9fe6ffa413def667620a7c0180dae68824f8fb144ae4d", func := "loop.example/g00083/laws.FnExactLengthsOf", spec := "fnExactLengthsOf", apart := false, narrowed := true }
def FnExactLengthsOfUptoSaid : Prop := fnExactLengthsOfUptoRow.holds Try.pinned (OpenSpec.upto fnExactLengthsOfSpec)

/-- 'laws.FnExactApplyChange', WHERE WHAT IT READS IS OF BULK AT MOST 1048576: true; the input reads as it did. -/
def fnExactApplyChangeUptoRow : OpenClaim := { program := "ytebmncdjlmnbnaa", sum := "4956fe96b63b2d86b6e9fe6ffa413def667620a7c0180dae68824f8fb144ae4d", func := "loop.example/g00083/laws.FnExactApplyChange", spec := "fnExactApplyChange", apart := false, narrowed := true }
def FnExactApplyChangeUptoSaid : Prop := fnExactApplyChangeUptoRow.holds Try.pinned (OpenSpec.upto fnExactApplyChangeSpec)

/-- 'laws.FnExactImageOf', WHERE WHAT IT READS IS OF BULK AT MOST 1048576: true; the input reads as it did. -/
def fnExactImageOfUptoRow : OpenClaim := { program := "ytebmncdjlmnbnaa", sum := "4956fe96b63b2d86b6e9fe6ffa413def667620a7c0180dae68824f8fb144ae4d", func := "loop.example/g00083/laws.FnExactImageOf", spec := "fnExactImageOf", apart := false, narrowed := true }
def FnExactImageOfUptoSaid : Prop := fnExactImageOfUptoRow.holds Try.pinned (OpenSpec.upto fnExactImageOfSpec)

/-- 'laws.FnExactWriteChange', WHERE WHAT IT READS IS OF BULK AT MOST 1048576: true; the input reads as it did. -/
def fnExactWriteChangeUptoRow : OpenClaim := { program := "ytebmncdjlmnbnaa", sum := "4956fe96b63b2d86b6e9fe6ffa413def667620a7c0180dae68824f8fb144ae4d", func := "loop.example/g00083/laws.FnExactWriteChange", spec := "fnExactWriteChange", apart := false, narrowed := true }
def FnExactWriteChangeUptoSaid : Prop := fnExactWriteChangeUptoRow.holds Try.pinned (OpenSpec.upto fnExactWriteChangeSpec)

/-- 'laws.FnExactReadChange', WHERE WHAT IT READS IS OF BULK AT MOST 1048576: true; the input reads as it did. -/
def fnExactReadChangeUptoRow : OpenClaim := { program := "ytebmncdjlmnbnaa", sum := "4956fe96b63b2d86b6e9fe6ffa413def667620a7c0180dae68824f8fb144ae4d", func := "loop.example/g00083/laws.FnExactReadChange", spec := "fnExactReadChange", apart := false, narrowed := true }
def FnExactReadChangeUptoSaid : Prop := fnExactReadChangeUptoRow.holds Try.pinned (OpenSpec.upto fnExactReadChangeSpec)

/-- 'laws.FnExactInvertChange', WHERE WHAT IT READS IS OF BULK AT MOST 1048576: true; the input reads as it did. -/
def fnExactInvertChangeUptoRow : OpenClaim := { program := "ytebmncdjlmnbnaa", sum := "4956fe96b63b2d86b6e9fe6ffa413def667620a7c0180dae68824f8fb144ae4d", func := "loop.example/g00083/laws.FnExactInvertChange", spec := "fnExactInvertChange", apart := false, narrowed := true }
def FnExactInvertChangeUptoSaid : Prop := fnExactInvertChangeUptoRow.holds Try.pinned (OpenSpec.upto fnExactInvertChangeSpec)

/-- 'laws.FnExactNormalOf', WHERE WHAT IT READS IS OF BULK AT MOST 1048576: true; the input reads as it did. -/
def fnExactNormalOfUptoRow : OpenClaim := { program := "ytebmncdjlmnbnaa", sum := "4956fe96b63b2d86b6e9fe6ffa413def667620a7c0180dae68824f8fb144ae4d", func := "loop.example/g00083/laws.FnExactNormalOf", spec := "fnExactNormalOf", apart := false, narrowed := true }
def FnExactNormalOfUptoSaid : Prop := fnExactNormalOfUptoRow.holds Try.pinned (OpenSpec.upto fnExactNormalOfSpec)

/-- 'laws.FnExactCarryChange', WHERE WHAT IT READS IS OF BULK AT MOST 1048576: true; the input reads as it did. -/
def fnExactCarryChangeUptoRow : OpenClaim := { program := "ytebmncdjlmnbnaa", sum := "4956fe96b63b2d86b6e9fe6ffa413def667620a7c0180dae68824f8fb144ae4d", func := "loop.example/g00083/laws.FnExactCarryChange", spec := "fnExactCarryChange", apart := false, narrowed := true }
def FnExactCarryChangeUptoSaid : Prop := fnExactCarryChangeUptoRow.holds Try.pinned (OpenSpec.upto fnExactCarryChangeSpec)

/-- 'laws.FnExactComposeChanges', WHERE WHAT IT READS IS OF BULK AT MOST 1048576: true; the input reads as it did. -/
def fnExactComposeChangesUptoRow : OpenClaim := { program := "ytebmncdjlmnbnaa", sum := "4956fe96b63b2d86b6e9fe6ffa413def667620a7c0180dae68824f8fb144ae4d", func := "loop.example/g00083/laws.FnExactComposeChanges", spec := "fnExactComposeChanges", apart := false, narrowed := true }
def FnExactComposeChangesUptoSaid : Prop := fnExactComposeChangesUptoRow.holds Try.pinned (OpenSpec.upto fnExactComposeChangesSpec)

/-- 'laws.FnExactComposeAll', WHERE WHAT IT READS IS OF BULK AT MOST 1048576: true; the input reads as it did. -/
def fnExactComposeAllUptoRow : OpenClaim := { program := "ytebmncdjlmnbnaa", sum := "4956fe96b63b2d86b6e9fe6ffa413def667620a7c0180dae68824f8fb144ae4d", func := "loop.example/g00083/laws.FnExactComposeAll", spec := "fnExactComposeAll", apart := false, narrowed := true }
def FnExactComposeAllUptoSaid : Prop := fnExactComposeAllUptoRow.holds Try.pinned (OpenSpec.upto fnExactComposeAllSpec)

/-- 'laws.FnExactGoodHistory', WHERE WHAT IT READS IS OF BULK AT MOST 1048576: true; the input reads as it did. -/
def fnExactGoodHistoryUptoRow : OpenClaim := { program := "ytebmncdjlmnbnaa", sum := "4956fe96b63b2d86b6e9fe6ffa413def667620a7c0180dae68824f8fb144ae4d", func := "loop.example/g00083/laws.FnExactGoodHistory", spec := "fnExactGoodHistory", apart := false, narrowed := true }
def FnExactGoodHistoryUptoSaid : Prop := fnExactGoodHistoryUptoRow.holds Try.pinned (OpenSpec.upto fnExactGoodHistorySpec)

end Rows
end Go.Proofs.Ytebmncdjlmnbnaa
