/-
  No cell of these rows narrows 'for every input' (looked for: loops, veiled, ifaces, maps, wideKeys, modest, calm, conditions, laid).
  DERIVED. THE GIVEN ROWS OF THIS SEAT. 7 by the template 'for every input the law returns true; each argument reads behind the call as it read before'; 0 by the template 'total and deterministic' (their statements: YtlphbpaojcdjaaaTotals.lean).
  GIVEN WITH THE SEED: the statements are not yours to turn. If you find one false, say at which input.
  Laid BY PROGRAM, IN A SANDBOX (cutbox-rows.mjs): the forced cells as the released guide's own fill.sh prints them over the translation 8da591539a9186d6… (all of the seat's roots in one cut). By AI agents, Wed Nov 11 2026. No macro, syntax, notation, axiom, sorry.
-/
import Derived.Test.YtlphbpaojcdjaaaChecked
import GoSem.Claim
import GoSem.ClaimJoined
import GoSem.ClaimMapViews
import Derived.JoinedTies
import Derived.KernelRfl
namespace Go.Proofs.Ytlphbpaojcdjaaa
/- THE CELL 'sum', in the pinned program and in every row, IS THE sha256 OF THE DUMP (.gsa) THAT YtlphbpaojcdjaaaProg.lean LOADS. Nothing in Lean hashes anything: it is a label: what it is worth is what the hold of that sum in a sandbox is worth. -/
noncomputable def Try.pinned : Pinned := { name := "ytlphbpaojcdjaaa", sum := "8da591539a9186d68ae9db65919a6e36ab91eb7748264aa01462669396c2237c", checked := Try.checked }
namespace Rows
def none {H : Type} : Left H := { results := [], args := [] }

/-- 'laws.FnExactGoodSpace': WHATEVER THE INPUT: true; the input reads as it did. -/
def fnExactGoodSpaceSpec : ChangeSpec := { name := "fnExactGoodSpace", fn := fun _ => fun
  | [d] => { results := [.lit (.bool true)], args := [d] }
  | _ => none }
def fnExactGoodSpaceRow : OpenClaim := { program := "ytlphbpaojcdjaaa", sum := "8da591539a9186d68ae9db65919a6e36ab91eb7748264aa01462669396c2237c", func := "loop.example/g00083/laws.FnExactGoodSpace", spec := "fnExactGoodSpace", unfollowed := true, recurses := true, apart := false }
def FnExactGoodSpaceSaid : Prop := fnExactGoodSpaceRow.holds Try.pinned (OpenSpec.ofChange fnExactGoodSpaceSpec)

/-- ITS FALSE NEIGHBOUR: 'it returns false'. Refute it at one input. -/
def fnExactGoodSpaceWrong : ChangeSpec := { name := "fnExactGoodSpace", fn := fun _ => fun
  | [d] => { results := [.lit (.bool false)], args := [d] }
  | _ => none }
def FnExactGoodSpaceWrongFalsely : Prop := fnExactGoodSpaceRow.holds Try.pinned (OpenSpec.ofChange fnExactGoodSpaceWrong)

/-- 'laws.FnExactFreeIn': WHATEVER THE INPUT: true; the input reads as it did. -/
def fnExactFreeInSpec : ChangeSpec := { name := "fnExactFreeIn", fn := fun _ => fun
  | [d] => { results := [.lit (.bool true)], args := [d] }
  | _ => none }
def fnExactFreeInRow : OpenClaim := { program := "ytlphbpaojcdjaaa", sum := "8da591539a9186d68ae9db65919a6e36ab91eb7748264aa01462669396c2237c", func := "loop.example/g00083/laws.FnExactFreeIn", spec := "fnExactFreeIn", unfollowed := true, recurses := true, apart := false }
def FnExactFreeInSaid : Prop := fnExactFreeInRow.holds Try.pinned (OpenSpec.ofChange fnExactFreeInSpec)

/-- ITS FALSE NEIGHBOUR: 'it returns false'. Refute it at one input. -/
def fnExactFreeInWrong : ChangeSpec := { name := "fnExactFreeIn", fn := fun _ => fun
  | [d] => { results := [.lit (.bool false)], args := [d] }
  | _ => none }
def FnExactFreeInWrongFalsely : Prop := fnExactFreeInRow.holds Try.pinned (OpenSpec.ofChange fnExactFreeInWrong)

/-- 'laws.FnExactUsedIn': WHATEVER THE INPUT: true; the input reads as it did. -/
def fnExactUsedInSpec : ChangeSpec := { name := "fnExactUsedIn", fn := fun _ => fun
  | [d] => { results := [.lit (.bool true)], args := [d] }
  | _ => none }
def fnExactUsedInRow : OpenClaim := { program := "ytlphbpaojcdjaaa", sum := "8da591539a9186d68ae9db65919a6e36ab91eb7748264aa01462669396c2237c", func := "loop.example/g00083/laws.FnExactUsedIn", spec := "fnExactUsedIn", unfollowed := true, recurses := true, apart := false }
def FnExactUsedInSaid : Prop := fnExactUsedInRow.holds Try.pinned (OpenSpec.ofChange fnExactUsedInSpec)

/-- ITS FALSE NEIGHBOUR: 'it returns false'. Refute it at one input. -/
def fnExactUsedInWrong : ChangeSpec := { name := "fnExactUsedIn", fn := fun _ => fun
  | [d] => { results := [.lit (.bool false)], args := [d] }
  | _ => none }
def FnExactUsedInWrongFalsely : Prop := fnExactUsedInRow.holds Try.pinned (OpenSpec.ofChange fnExactUsedInWrong)

/-- 'laws.FnExactOpenSpace': WHATEVER THE INPUT: true; the input reads as it did. -/
def fnExactOpenSpaceSpec : ChangeSpec := { name := "fnExactOpenSpace", fn := fun _ => fun
  | [d] => { results := [.lit (.bool true)], args := [d] }
  | _ => none }
def fnExactOpenSpaceRow : OpenClaim := { program := "ytlphbpaojcdjaaa", sum := "8da591539a9186d68ae9db65919a6e36ab91eb7748264aa01462669396c2237c", func := "loop.example/g00083/laws.FnExactOpenSpace", spec := "fnExactOpenSpace", unfollowed := true, recurses := true, apart := false }
def FnExactOpenSpaceSaid : Prop := fnExactOpenSpaceRow.holds Try.pinned (OpenSpec.ofChange fnExactOpenSpaceSpec)

/-- ITS FALSE NEIGHBOUR: 'it returns false'. Refute it at one input. -/
def fnExactOpenSpaceWrong : ChangeSpec := { name := "fnExactOpenSpace", fn := fun _ => fun
  | [d] => { results := [.lit (.bool false)], args := [d] }
  | _ => none }
def FnExactOpenSpaceWrongFalsely : Prop := fnExactOpenSpaceRow.holds Try.pinned (OpenSpec.ofChange fnExactOpenSpaceWrong)

/-- 'laws.FnExactPutIn': WHATEVER THE INPUT: true; the input reads as it did. -/
def fnExactPutInSpec : ChangeSpec := { name := "fnExactPutIn", fn := fun _ => fun
  | [d1, d2, d3] => { results := [.lit (.bool true)], args := [d1, d2, d3] }
  | _ => none }
def fnExactPutInRow : OpenClaim := { program := "ytlphbpaojcdjaaa", sum := "8da591539a9186d68ae9db65919a6e36ab91eb7748264aa01462669396c2237c", func := "loop.example/g00083/laws.FnExactPutIn", spec := "fnExactPutIn", inPlace := ["slices.overlaps[int]"], unfollowed := true, recurses := true, apart := false }
def FnExactPutInSaid : Prop := fnExactPutInRow.holds Try.pinned (OpenSpec.ofChange fnExactPutInSpec)

/-- ITS FALSE NEIGHBOUR: 'it returns false'. Refute it at one input. -/
def fnExactPutInWrong : ChangeSpec := { name := "fnExactPutIn", fn := fun _ => fun
  | [d1, d2, d3] => { results := [.lit (.bool false)], args := [d1, d2, d3] }
  | _ => none }
def FnExactPutInWrongFalsely : Prop := fnExactPutInRow.holds Try.pinned (OpenSpec.ofChange fnExactPutInWrong)

/-- 'laws.FnExactGiveBack': WHATEVER THE INPUT: true; the input reads as it did. -/
def fnExactGiveBackSpec : ChangeSpec := { name := "fnExactGiveBack", fn := fun _ => fun
  | [d1, d2] => { results := [.lit (.bool true)], args := [d1, d2] }
  | _ => none }
def fnExactGiveBackRow : OpenClaim := { program := "ytlphbpaojcdjaaa", sum := "8da591539a9186d68ae9db65919a6e36ab91eb7748264aa01462669396c2237c", func := "loop.example/g00083/laws.FnExactGiveBack", spec := "fnExactGiveBack", inPlace := ["slices.overlaps[int]"], unfollowed := true, recurses := true, apart := false }
def FnExactGiveBackSaid : Prop := fnExactGiveBackRow.holds Try.pinned (OpenSpec.ofChange fnExactGiveBackSpec)

/-- ITS FALSE NEIGHBOUR: 'it returns false'. Refute it at one input. -/
def fnExactGiveBackWrong : ChangeSpec := { name := "fnExactGiveBack", fn := fun _ => fun
  | [d1, d2] => { results := [.lit (.bool false)], args := [d1, d2] }
  | _ => none }
def FnExactGiveBackWrongFalsely : Prop := fnExactGiveBackRow.holds Try.pinned (OpenSpec.ofChange fnExactGiveBackWrong)

/-- 'laws.FnExactCloseSpace': WHATEVER THE INPUT: true; the input reads as it did. -/
def fnExactCloseSpaceSpec : ChangeSpec := { name := "fnExactCloseSpace", fn := fun _ => fun
  | [d1, d2] => { results := [.lit (.bool true)], args := [d1, d2] }
  | _ => none }
def fnExactCloseSpaceRow : OpenClaim := { program := "ytlphbpaojcdjaaa", sum := "8da591539a9186d68ae9db65919a6e36ab91eb7748264aa01462669396c2237c", func := "loop.example/g00083/laws.FnExactCloseSpace", spec := "fnExactCloseSpace", unfollowed := true, recurses := true, apart := false }
def FnExactCloseSpaceSaid : Prop := fnExactCloseSpaceRow.holds Try.pinned (OpenSpec.ofChange fnExactCloseSpaceSpec)

/-- ITS FALSE NEIGHBOUR: 'it returns false'. Refute it at one input. -/
def fnExactCloseSpaceWrong : ChangeSpec := { name := "fnExactCloseSpace", fn := fun _ => fun
  | [d1, d2] => { results := [.lit (.bool false)], args := [d1, d2] }
  | _ => none }
def FnExactCloseSpaceWrongFalsely : Prop := fnExactCloseSpaceRow.holds Try.pinned (OpenSpec.ofChange fnExactCloseSpaceWrong)

/- THE SECOND FORM. 'bulk': how many values and letters a reading holds, each counted each time it is reached (what is shared counts as often as it is met; a slice's spare places count too). A statement '..UptoSaid' is the law's where the arguments, and the package variables that the reading takes, are together of bulk at most 1048576: NARROWER than '..Said'. Prove '..Said' where nothing that the law and all that it calls make is longer than what came in: it says more and counts as full. Else prove '..UptoSaid'. A law counts once. -/
mutual
def uptoBulk {H : Type} : DataW H → Nat
  | .lit (.string bytes) => bytes.length + 1
  | .lit _ => 1
  | .nil => 1
  | .ptr d => uptoBulk d + 1
  | .slice elems spare => uptoBulkAll elems + uptoBulkAll spare + 1
  | .agg parts => uptoBulkAll parts + 1
  | .iface _ d => uptoBulk d + 1
  | .map entries => uptoBulkEntries entries + 1
  | .held _ => 1
def uptoBulkAll {H : Type} : List (DataW H) → Nat
  | [] => 0
  | d :: r => uptoBulk d + uptoBulkAll r
def uptoBulkEntries {H : Type} : List (Lit × DataW H) → Nat
  | [] => 0
  | x :: r => uptoBulkEntry x + uptoBulkEntries r
def uptoBulkEntry {H : Type} : Lit × DataW H → Nat
  | (.string bytes, d) => bytes.length + uptoBulk d + 1
  | (_, d) => uptoBulk d + 1
 end
def uptoSmall : (H : Type) → List (DataW H) → Bool := fun _ ds => decide (uptoBulkAll ds ≤ 1048576)
def OpenSpec.upto (s : _root_.Go.ChangeSpec) : _root_.Go.OpenSpec := { _root_.Go.OpenSpec.ofChange s with cond := some uptoSmall }

/-- 'laws.FnExactGoodSpace', WHERE WHAT IT READS IS OF BULK AT MOST 1048576: true; the input reads as it did. -/
def fnExactGoodSpaceUptoRow : OpenClaim := { program := "ytlphbpaojcdjaaa", sum := "8da591539a9186d68ae9db65919a6e36ab91eb7748264aa01462669396c2237c", func := "loop.example/g00083/laws.FnExactGoodSpace", spec := "fnExactGoodSpace", unfollowed := true, recurses := true, apart := false, narrowed := true }
def FnExactGoodSpaceUptoSaid : Prop := fnExactGoodSpaceUptoRow.holds Try.pinned (OpenSpec.upto fnExactGoodSpaceSpec)

/-- 'laws.FnExactFreeIn', WHERE WHAT IT READS IS OF BULK AT MOST 1048576: true; the input reads as it did. -/
def fnExactFreeInUptoRow : OpenClaim := { program := "ytlphbpaojcdjaaa", sum := "8da591539a9186d68ae9db65919a6e36ab91eb7748264aa01462669396c2237c", func := "loop.example/g00083/laws.FnExactFreeIn", spec := "fnExactFreeIn", unfollowed := true, recurses := true, apart := false, narrowed := true }
def FnExactFreeInUptoSaid : Prop := fnExactFreeInUptoRow.holds Try.pinned (OpenSpec.upto fnExactFreeInSpec)

/-- 'laws.FnExactUsedIn', WHERE WHAT IT READS IS OF BULK AT MOST 1048576: true; the input reads as it did. -/
def fnExactUsedInUptoRow : OpenClaim := { program := "ytlphbpaojcdjaaa", sum := "8da591539a9186d68ae9db65919a6e36ab91eb7748264aa01462669396c2237c", func := "loop.example/g00083/laws.FnExactUsedIn", spec := "fnExactUsedIn", unfollowed := true, recurses := true, apart := false, narrowed := true }
def FnExactUsedInUptoSaid : Prop := fnExactUsedInUptoRow.holds Try.pinned (OpenSpec.upto fnExactUsedInSpec)

/-- 'laws.FnExactOpenSpace', WHERE WHAT IT READS IS OF BULK AT MOST 1048576: true; the input reads as it did. -/
def fnExactOpenSpaceUptoRow : OpenClaim := { program := "ytlphbpaojcdjaaa", sum := "8da591539a9186d68ae9db65919a6e36ab91eb7748264aa01462669396c2237c", func := "loop.example/g00083/laws.FnExactOpenSpace", spec := "fnExactOpenSpace", unfollowed := true, recurses := true, apart := false, narrowed := true }
def FnExactOpenSpaceUptoSaid : Prop := fnExactOpenSpaceUptoRow.holds Try.pinned (OpenSpec.upto fnExactOpenSpaceSpec)

/-- 'laws.FnExactPutIn', WHERE WHAT IT READS IS OF BULK AT MOST 1048576: true; the input reads as it did. -/
def fnExactPutInUptoRow : OpenClaim := { program := "ytlphbpaojcdjaaa", sum := "8da591539a9186d68ae9db65919a6e36ab91eb7748264aa01462669396c2237c", func := "loop.example/g00083/laws.FnExactPutIn", spec := "fnExactPutIn", inPlace := ["slices.overlaps[int]"], unfollowed := true, recurses := true, apart := false, narrowed := true }
def FnExactPutInUptoSaid : Prop := fnExactPutInUptoRow.holds Try.pinned (OpenSpec.upto fnExactPutInSpec)

/-- 'laws.FnExactGiveBack', WHERE WHAT IT READS IS OF BULK AT MOST 1048576: true; the input reads as it did. -/
def fnExactGiveBackUptoRow : OpenClaim := { program := "ytlphbpaojcdjaaa", sum := "8da591539a9186d68ae9db65919a6e36ab91eb7748264aa01462669396c2237c", func := "loop.example/g00083/laws.FnExactGiveBack", spec := "fnExactGiveBack", inPlace := ["slices.overlaps[int]"], unfollowed := true, recurses := true, apart := false, narrowed := true }
def FnExactGiveBackUptoSaid : Prop := fnExactGiveBackUptoRow.holds Try.pinned (OpenSpec.upto fnExactGiveBackSpec)

/-- 'laws.FnExactCloseSpace', WHERE WHAT IT READS IS OF BULK AT MOST 1048576: true; the input reads as it did. -/
def fnExactCloseSpaceUptoRow : OpenClaim := { program := "ytlphbpaojcdjaaa", sum := "8da591539a9186d68ae9db65919a6e36ab91eb7748264aa01462669396c2237c", func := "loop.example/g00083/laws.FnExactCloseSpace", spec := "fnExactCloseSpace", unfollowed := true, recurses := true, apart := false, narrowed := true }
def FnExactCloseSpaceUptoSaid : Prop := fnExactCloseSpaceUptoRow.holds Try.pinned (OpenSpec.upto fnExactCloseSpaceSpec)

end Rows
end Go.Proofs.Ytlphbpaojcdjaaa
