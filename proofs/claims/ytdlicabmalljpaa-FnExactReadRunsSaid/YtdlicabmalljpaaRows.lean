/-
  No cell of these rows narrows 'for every input' (looked for: loops, veiled, ifaces, maps, wideKeys, modest, calm, conditions, laid).
  DERIVED. THE GIVEN ROWS OF THIS SEAT. 7 by the template 'for every input the law returns true; each argument reads behind the call as it read before'; 0 by the template 'total and deterministic' (their statements: YtdlicabmalljpaaTotals.lean).
  GIVEN WITH THE SEED: the statements are not yours to turn. If you find one false, say at which input.
  Laid BY PROGRAM, IN A SANDBOX (cutbox-rows.mjs): the forced cells as the released guide's own fill.sh prints them over the translation 9673cede62aac849… (all of the seat's roots in one cut). By AI agents, Wed Nov 11 2026. No macro, syntax, notation, axiom, sorry.
-/
import Derived.Test.YtdlicabmalljpaaChecked
import GoSem.Claim
import GoSem.ClaimJoined
import GoSem.ClaimMapViews
import Derived.JoinedTies
import Derived.KernelRfl
namespace Go.Proofs.Ytdlicabmalljpaa
/- THE CELL 'sum', in the pinned program and in every row, IS THE sha256 OF THE DUMP (.gsa) THAT YtdlicabmalljpaaProg.lean LOADS. Nothing in Lean hashes anything: it is a label: what it is worth is what the hold of that sum in a sandbox is worth. -/
noncomputable def Try.pinned : Pinned := { name := "ytdlicabmalljpaa", sum := "9673cede62aac8496c94b08fe345c685e725f32d26dc8713ad15cd10bb3df1a8", checked := Try.checked }
namespace Rows
def none {H : Type} : Left H := { results := [], args := [] }

/-- 'laws.FnExactRevOf': WHATEVER THE INPUT: true; the input reads as it did. -/
def fnExactRevOfSpec : ChangeSpec := { name := "fnExactRevOf", fn := fun _ => fun
  | [d1, d2] => { results := [.lit (.bool true)], args := [d1, d2] }
  | _ => none }
def fnExactRevOfRow : OpenClaim := { program := "ytdlicabmalljpaa", sum := "9673cede62aac8496c94b08fe345c685e725f32d26dc8713ad15cd10bb3df1a8", func := "loop.example/g00083/laws.FnExactRevOf", spec := "fnExactRevOf", apart := false }
def FnExactRevOfSaid : Prop := fnExactRevOfRow.holds Try.pinned (OpenSpec.ofChange fnExactRevOfSpec)

/-- ITS FALSE NEIGHBOUR: 'it returns false'. Refute it at one input. -/
def fnExactRevOfWrong : ChangeSpec := { name := "fnExactRevOf", fn := fun _ => fun
  | [d1, d2] => { results := [.lit (.bool false)], args := [d1, d2] }
  | _ => none }
def FnExactRevOfWrongFalsely : Prop := fnExactRevOfRow.holds Try.pinned (OpenSpec.ofChange fnExactRevOfWrong)

/-- 'laws.FnExactWriteRuns': WHATEVER THE INPUT: true; the input reads as it did. -/
def fnExactWriteRunsSpec : ChangeSpec := { name := "fnExactWriteRuns", fn := fun _ => fun
  | [d] => { results := [.lit (.bool true)], args := [d] }
  | _ => none }
def fnExactWriteRunsRow : OpenClaim := { program := "ytdlicabmalljpaa", sum := "9673cede62aac8496c94b08fe345c685e725f32d26dc8713ad15cd10bb3df1a8", func := "loop.example/g00083/laws.FnExactWriteRuns", spec := "fnExactWriteRuns", apart := false }
def FnExactWriteRunsSaid : Prop := fnExactWriteRunsRow.holds Try.pinned (OpenSpec.ofChange fnExactWriteRunsSpec)

/-- ITS FALSE NEIGHBOUR: 'it returns false'. Refute it at one input. -/
def fnExactWriteRunsWrong : ChangeSpec := { name := "fnExactWriteRuns", fn := fun _ => fun
  | [d] => { results := [.lit (.bool false)], args := [d] }
  | _ => none }
def FnExactWriteRunsWrongFalsely : Prop := fnExactWriteRunsRow.holds Try.pinned (OpenSpec.ofChange fnExactWriteRunsWrong)

/-- 'laws.FnExactReadRuns': WHATEVER THE INPUT: true; the input reads as it did. -/
def fnExactReadRunsSpec : ChangeSpec := { name := "fnExactReadRuns", fn := fun _ => fun
  | [d] => { results := [.lit (.bool true)], args := [d] }
  | _ => none }
def fnExactReadRunsRow : OpenClaim := { program := "ytdlicabmalljpaa", sum := "9673cede62aac8496c94b08fe345c685e725f32d26dc8713ad15cd10bb3df1a8", func := "loop.example/g00083/laws.FnExactReadRuns", spec := "fnExactReadRuns", unfollowed := true, recurses := true, apart := false }
def FnExactReadRunsSaid : Prop := fnExactReadRunsRow.holds Try.pinned (OpenSpec.ofChange fnExactReadRunsSpec)

/-- ITS FALSE NEIGHBOUR: 'it returns false'. Refute it at one input. -/
def fnExactReadRunsWrong : ChangeSpec := { name := "fnExactReadRuns", fn := fun _ => fun
  | [d] => { results := [.lit (.bool false)], args := [d] }
  | _ => none }
def FnExactReadRunsWrongFalsely : Prop := fnExactReadRunsRow.holds Try.pinned (OpenSpec.ofChange fnExactReadRunsWrong)

/-- 'laws.FnExactCarryRuns': WHATEVER THE INPUT: true; the input reads as it did. -/
def fnExactCarryRunsSpec : ChangeSpec := { name := "fnExactCarryRuns", fn := fun _ => fun
  | [d1, d2, d3] => { results := [.lit (.bool true)], args := [d1, d2, d3] }
  | _ => none }
def fnExactCarryRunsRow : OpenClaim := { program := "ytdlicabmalljpaa", sum := "9673cede62aac8496c94b08fe345c685e725f32d26dc8713ad15cd10bb3df1a8", func := "loop.example/g00083/laws.FnExactCarryRuns", spec := "fnExactCarryRuns", apart := false }
def FnExactCarryRunsSaid : Prop := fnExactCarryRunsRow.holds Try.pinned (OpenSpec.ofChange fnExactCarryRunsSpec)

/-- ITS FALSE NEIGHBOUR: 'it returns false'. Refute it at one input. -/
def fnExactCarryRunsWrong : ChangeSpec := { name := "fnExactCarryRuns", fn := fun _ => fun
  | [d1, d2, d3] => { results := [.lit (.bool false)], args := [d1, d2, d3] }
  | _ => none }
def FnExactCarryRunsWrongFalsely : Prop := fnExactCarryRunsRow.holds Try.pinned (OpenSpec.ofChange fnExactCarryRunsWrong)

/-- 'laws.FnExactTextAt': WHATEVER THE INPUT: true; the input reads as it did. -/
def fnExactTextAtSpec : ChangeSpec := { name := "fnExactTextAt", fn := fun _ => fun
  | [d1, d2] => { results := [.lit (.bool true)], args := [d1, d2] }
  | _ => none }
def fnExactTextAtRow : OpenClaim := { program := "ytdlicabmalljpaa", sum := "9673cede62aac8496c94b08fe345c685e725f32d26dc8713ad15cd10bb3df1a8", func := "loop.example/g00083/laws.FnExactTextAt", spec := "fnExactTextAt", apart := false }
def FnExactTextAtSaid : Prop := fnExactTextAtRow.holds Try.pinned (OpenSpec.ofChange fnExactTextAtSpec)

/-- ITS FALSE NEIGHBOUR: 'it returns false'. Refute it at one input. -/
def fnExactTextAtWrong : ChangeSpec := { name := "fnExactTextAt", fn := fun _ => fun
  | [d1, d2] => { results := [.lit (.bool false)], args := [d1, d2] }
  | _ => none }
def FnExactTextAtWrongFalsely : Prop := fnExactTextAtRow.holds Try.pinned (OpenSpec.ofChange fnExactTextAtWrong)

/-- 'laws.FnExactSuperBlock': WHATEVER THE INPUT: true; the input reads as it did. -/
def fnExactSuperBlockSpec : ChangeSpec := { name := "fnExactSuperBlock", fn := fun _ => fun
  | [d] => { results := [.lit (.bool true)], args := [d] }
  | _ => none }
def fnExactSuperBlockRow : OpenClaim := { program := "ytdlicabmalljpaa", sum := "9673cede62aac8496c94b08fe345c685e725f32d26dc8713ad15cd10bb3df1a8", func := "loop.example/g00083/laws.FnExactSuperBlock", spec := "fnExactSuperBlock", apart := false }
def FnExactSuperBlockSaid : Prop := fnExactSuperBlockRow.holds Try.pinned (OpenSpec.ofChange fnExactSuperBlockSpec)

/-- ITS FALSE NEIGHBOUR: 'it returns false'. Refute it at one input. -/
def fnExactSuperBlockWrong : ChangeSpec := { name := "fnExactSuperBlock", fn := fun _ => fun
  | [d] => { results := [.lit (.bool false)], args := [d] }
  | _ => none }
def FnExactSuperBlockWrongFalsely : Prop := fnExactSuperBlockRow.holds Try.pinned (OpenSpec.ofChange fnExactSuperBlockWrong)

/-- 'laws.FnExactSuperOf': WHATEVER THE INPUT: true; the input reads as it did. -/
def fnExactSuperOfSpec : ChangeSpec := { name := "fnExactSuperOf", fn := fun _ => fun
  | [d] => { results := [.lit (.bool true)], args := [d] }
  | _ => none }
def fnExactSuperOfRow : OpenClaim := { program := "ytdlicabmalljpaa", sum := "9673cede62aac8496c94b08fe345c685e725f32d26dc8713ad15cd10bb3df1a8", func := "loop.example/g00083/laws.FnExactSuperOf", spec := "fnExactSuperOf", apart := false }
def FnExactSuperOfSaid : Prop := fnExactSuperOfRow.holds Try.pinned (OpenSpec.ofChange fnExactSuperOfSpec)

/-- ITS FALSE NEIGHBOUR: 'it returns false'. Refute it at one input. -/
def fnExactSuperOfWrong : ChangeSpec := { name := "fnExactSuperOf", fn := fun _ => fun
  | [d] => { results := [.lit (.bool false)], args := [d] }
  | _ => none }
def FnExactSuperOfWrongFalsely : Prop := fnExactSuperOfRow.holds Try.pinned (OpenSpec.ofChange fnExactSuperOfWrong)

/- THE SECOND FORM. 'bulk': how many values and letters a reading holds, each counted each time it is reached (what is shared counts as often as it is met; a slice's spare places count too). A statement '..UptoSaid' is the law's where the arguments, and the package variables that the reading takes, are together of bulk at most 1048576: NARROWER than '..Said'. Prove '..Said' where nothing that the law and all that it calls make is longer than what came in: it says more and counts as full. Else prove '..UptoSaid'. A law counts once. -/
mutual
def uptoBulk {H : Type} : DataW H → Nat
  | .lit (.string bytes) => bytes.length + 1
  | .lit _ => 1
  | .nil => 1
  | .ptr d => uptoBulk d + 1
  | .slice elems spare => uptoBulkAll elems + uptoBulkAll spare + 1
  | .agg parts => uptoBulkAll parts + 1
  | .iface _ d => uptoBulk d + 1
  | .map entries => uptoBulkEntries entries + 1
  | .held _ => 1
def uptoBulkAll {H : Type} : List (DataW H) → Nat
  | [] => 0
  | d :: r => uptoBulk d + uptoBulkAll r
def uptoBulkEntries {H : Type} : List (Lit × DataW H) → Nat
  | [] => 0
  | x :: r => uptoBulkEntry x + uptoBulkEntries r
def uptoBulkEntry {H : Type} : Lit × DataW H → Nat
  | (.string bytes, d) => bytes.length + uptoBulk d + 1
  | (_, d) => uptoBulk d + 1
 end
def uptoSmall : (H : Type) → List (DataW H) → Bool := fun _ ds => decide (uptoBulkAll ds ≤ 1048576)
def OpenSpec.upto (s : _root_.Go.ChangeSpec) : _root_.Go.OpenSpec := { _root_.Go.OpenSpec.ofChange s with cond := some uptoSmall }

/-- 'laws.FnExactRevOf', WHERE WHAT IT READS IS OF BULK AT MOST 1048576: true; the input reads as it did. -/
def fnExactRevOfUptoRow : OpenClaim := { program := "ytdlicabmalljpaa", sum := "9673cede62aac8496c94b08fe345c685e725f32d26dc8713ad15cd10bb3df1a8", func := "loop.example/g00083/laws.FnExactRevOf", spec := "fnExactRevOf", apart := false, narrowed := true }
def FnExactRevOfUptoSaid : Prop := fnExactRevOfUptoRow.holds Try.pinned (OpenSpec.upto fnExactRevOfSpec)

/-- 'laws.FnExactWriteRuns', WHERE WHAT IT READS IS OF BULK AT MOST 1048576: true; the input reads as it did. -/
def fnExactWriteRunsUptoRow : OpenClaim := { program := "ytdlicabmalljpaa", sum := "9673cede62aac8496c94b08fe345c685e725f32d26dc8713ad15cd10bb3df1a8", func := "loop.example/g00083/laws.FnExactWriteRuns", spec := "fnExactWriteRuns", apart := false, narrowed := true }
def FnExactWriteRunsUptoSaid : Prop := fnExactWriteRunsUptoRow.holds Try.pinned (OpenSpec.upto fnExactWriteRunsSpec)

/-- 'laws.FnExactReadRuns', WHERE WHAT IT READS IS OF BULK AT MOST 1048576: true; the input reads as it did. -/
def fnExactReadRunsUptoRow : OpenClaim := { program := "ytdlicabmalljpaa", sum := "9673cede62aac8496c94b08fe345c685e725f32d26dc8713ad15cd10bb3df1a8", func := "loop.example/g00083/laws.FnExactReadRuns", spec := "fnExactReadRuns", unfollowed := true, recurses := true, apart := false, narrowed := true }
def FnExactReadRunsUptoSaid : Prop := fnExactReadRunsUptoRow.holds Try.pinned (OpenSpec.upto fnExactReadRunsSpec)

/-- 'laws.FnExactCarryRuns', WHERE WHAT IT READS IS OF BULK AT MOST 1048576: true; the input reads as it did. -/
def fnExactCarryRunsUptoRow : OpenClaim := { program := "ytdlicabmalljpaa", sum := "9673cede62aac8496c94b08fe345c685e725f32d26dc8713ad15cd10bb3df1a8", func := "loop.example/g00083/laws.FnExactCarryRuns", spec := "fnExactCarryRuns", apart := false, narrowed := true }
def FnExactCarryRunsUptoSaid : Prop := fnExactCarryRunsUptoRow.holds Try.pinned (OpenSpec.upto fnExactCarryRunsSpec)

/-- 'laws.FnExactTextAt', WHERE WHAT IT READS IS OF BULK AT MOST 1048576: true; the input reads as it did. -/
def fnExactTextAtUptoRow : OpenClaim := { program := "ytdlicabmalljpaa", sum := "9673cede62aac8496c94b08fe345c685e725f32d26dc8713ad15cd10bb3df1a8", func := "loop.example/g00083/laws.FnExactTextAt", spec := "fnExactTextAt", apart := false, narrowed := true }
def FnExactTextAtUptoSaid : Prop := fnExactTextAtUptoRow.holds Try.pinned (OpenSpec.upto fnExactTextAtSpec)

/-- 'laws.FnExactSuperBlock', WHERE WHAT IT READS IS OF BULK AT MOST 1048576: true; the input reads as it did. -/
def fnExactSuperBlockUptoRow : OpenClaim := { program := "ytdlicabmalljpaa", sum := "9673cede62aac8496c94b08fe345c685e725f32d26dc8713ad15cd10bb3df1a8", func := "loop.example/g00083/laws.FnExactSuperBlock", spec := "fnExactSuperBlock", apart := false, narrowed := true }
def FnExactSuperBlockUptoSaid : Prop := fnExactSuperBlockUptoRow.holds Try.pinned (OpenSpec.upto fnExactSuperBlockSpec)

/-- 'laws.FnExactSuperOf', WHERE WHAT IT READS IS OF BULK AT MOST 1048576: true; the input reads as it did. -/
def fnExactSuperOfUptoRow : OpenClaim := { program := "ytdlicabmalljpaa", sum := "9673cede62aac8496c94b08fe345c685e725f32d26dc8713ad15cd10bb3df1a8", func := "loop.example/g00083/laws.FnExactSuperOf", spec := "fnExactSuperOf", apart := false, narrowed := true }
def FnExactSuperOfUptoSaid : Prop := fnExactSuperOfUptoRow.holds Try.pinned (OpenSpec.upto fnExactSuperOfSpec)

end Rows
end Go.Proofs.Ytdlicabmalljpaa
