/-
  No cell of these rows narrows 'for every input' (looked for: loops, veiled, ifaces, maps, wideKeys, modest, calm, conditions, laid).
  DERIVED. THE GIVEN ROWS OF THIS SEAT. 8 by the template 'for every input the law returns true; each argument reads behind the call as it read before'; 0 by the template 'total and deterministic' (their statements: YthbbcnjnbfhcbaaTotals.lean).
  GIVEN WITH THE SEED: the statements are not yours to turn. If you find one false, say at which input.
  Laid BY PROGRAM, IN A SANDBOX (cutbox-rows.mjs): the forced cells as the released guide's own fill.sh prints them over the translation 0d54b98c2777c555… (all of the seat's roots in one cut). By AI agents, Wed Nov 11 2026. No macro, syntax, notation, axiom, sorry.
-/
import Derived.Test.YthbbcnjnbfhcbaaChecked
import GoSem.Claim
import GoSem.ClaimJoined
import GoSem.ClaimMapViews
import Derived.JoinedTies
import Derived.KernelRfl
namespace Go.Proofs.Ythbbcnjnbfhcbaa
/- THE CELL 'sum', in the pinned program and in every row, IS THE sha256 OF THE DUMP (.gsa) THAT YthbbcnjnbfhcbaaProg.lean LOADS. Nothing in Lean hashes anything: it is a label: what it is worth is what the hold of that sum in a sandbox is worth. -/
noncomputable def Try.pinned : Pinned := { name := "ythbbcnjnbfhcbaa", sum := "0d54b98c2777c555c564b3f54dd8b80f895578867f6b78c8fa9c60440d49e28d", checked := Try.checked }
namespace Rows
def none {H : Type} : Left H := { results := [], args := [] }

/-- 'laws.FnExactNewDisk': WHATEVER THE INPUT: true; the input reads as it did. -/
def fnExactNewDiskSpec : ChangeSpec := { name := "fnExactNewDisk", fn := fun _ => fun
  | [d] => { results := [.lit (.bool true)], args := [d] }
  | _ => none }
def fnExactNewDiskRow : OpenClaim := { program := "ythbbcnjnbfhcbaa", sum := "0d54b98c2777c555c564b3f54dd8b80f895578867f6b78c8fa9c60440d49e28d", func := "loop.example/g00083/laws.FnExactNewDisk", spec := "fnExactNewDisk", apart := false }
def FnExactNewDiskSaid : Prop := fnExactNewDiskRow.holds Try.pinned (OpenSpec.ofChange fnExactNewDiskSpec)

/-- ITS FALSE NEIGHBOUR: 'it returns false'. Refute it at one input. -/
def fnExactNewDiskWrong : ChangeSpec := { name := "fnExactNewDisk", fn := fun _ => fun
  | [d] => { results := [.lit (.bool false)], args := [d] }
  | _ => none }
def FnExactNewDiskWrongFalsely : Prop := fnExactNewDiskRow.holds Try.pinned (OpenSpec.ofChange fnExactNewDiskWrong)

/-- 'laws.FnExactGoodDisk': WHATEVER THE INPUT: true; the input reads as it did. -/
def fnExactGoodDiskSpec : ChangeSpec := { name := "fnExactGoodDisk", fn := fun _ => fun
  | [d] => { results := [.lit (.bool true)], args := [d] }
  | _ => none }
def fnExactGoodDiskRow : OpenClaim := { program := "ythbbcnjnbfhcbaa", sum := "0d54b98c2777c555c564b3f54dd8b80f895578867f6b78c8fa9c60440d49e28d", func := "loop.example/g00083/laws.FnExactGoodDisk", spec := "fnExactGoodDisk", unfollowed := true, recurses := true, apart := false }
def FnExactGoodDiskSaid : Prop := fnExactGoodDiskRow.holds Try.pinned (OpenSpec.ofChange fnExactGoodDiskSpec)

/-- ITS FALSE NEIGHBOUR: 'it returns false'. Refute it at one input. -/
def fnExactGoodDiskWrong : ChangeSpec := { name := "fnExactGoodDisk", fn := fun _ => fun
  | [d] => { results := [.lit (.bool false)], args := [d] }
  | _ => none }
def FnExactGoodDiskWrongFalsely : Prop := fnExactGoodDiskRow.holds Try.pinned (OpenSpec.ofChange fnExactGoodDiskWrong)

/-- 'laws.FnExactReadBlock': WHATEVER THE INPUT: true; the input reads as it did. -/
def fnExactReadBlockSpec : ChangeSpec := { name := "fnExactReadBlock", fn := fun _ => fun
  | [d1, d2] => { results := [.lit (.bool true)], args := [d1, d2] }
  | _ => none }
def fnExactReadBlockRow : OpenClaim := { program := "ythbbcnjnbfhcbaa", sum := "0d54b98c2777c555c564b3f54dd8b80f895578867f6b78c8fa9c60440d49e28d", func := "loop.example/g00083/laws.FnExactReadBlock", spec := "fnExactReadBlock", unfollowed := true, recurses := true, apart := false }
def FnExactReadBlockSaid : Prop := fnExactReadBlockRow.holds Try.pinned (OpenSpec.ofChange fnExactReadBlockSpec)

/-- ITS FALSE NEIGHBOUR: 'it returns false'. Refute it at one input. -/
def fnExactReadBlockWrong : ChangeSpec := { name := "fnExactReadBlock", fn := fun _ => fun
  | [d1, d2] => { results := [.lit (.bool false)], args := [d1, d2] }
  | _ => none }
def FnExactReadBlockWrongFalsely : Prop := fnExactReadBlockRow.holds Try.pinned (OpenSpec.ofChange fnExactReadBlockWrong)

/-- 'laws.FnExactWriteBlock': WHATEVER THE INPUT: true; the input reads as it did. -/
def fnExactWriteBlockSpec : ChangeSpec := { name := "fnExactWriteBlock", fn := fun _ => fun
  | [d1, d2, d3] => { results := [.lit (.bool true)], args := [d1, d2, d3] }
  | _ => none }
def fnExactWriteBlockRow : OpenClaim := { program := "ythbbcnjnbfhcbaa", sum := "0d54b98c2777c555c564b3f54dd8b80f895578867f6b78c8fa9c60440d49e28d", func := "loop.example/g00083/laws.FnExactWriteBlock", spec := "fnExactWriteBlock", unfollowed := true, recurses := true, apart := false }
def FnExactWriteBlockSaid : Prop := fnExactWriteBlockRow.holds Try.pinned (OpenSpec.ofChange fnExactWriteBlockSpec)

/-- ITS FALSE NEIGHBOUR: 'it returns false'. Refute it at one input. -/
def fnExactWriteBlockWrong : ChangeSpec := { name := "fnExactWriteBlock", fn := fun _ => fun
  | [d1, d2, d3] => { results := [.lit (.bool false)], args := [d1, d2, d3] }
  | _ => none }
def FnExactWriteBlockWrongFalsely : Prop := fnExactWriteBlockRow.holds Try.pinned (OpenSpec.ofChange fnExactWriteBlockWrong)

/-- 'laws.FnExactCutAfter': WHATEVER THE INPUT: true; the input reads as it did. -/
def fnExactCutAfterSpec : ChangeSpec := { name := "fnExactCutAfter", fn := fun _ => fun
  | [d1, d2] => { results := [.lit (.bool true)], args := [d1, d2] }
  | _ => none }
def fnExactCutAfterRow : OpenClaim := { program := "ythbbcnjnbfhcbaa", sum := "0d54b98c2777c555c564b3f54dd8b80f895578867f6b78c8fa9c60440d49e28d", func := "loop.example/g00083/laws.FnExactCutAfter", spec := "fnExactCutAfter", unfollowed := true, recurses := true, apart := false }
def FnExactCutAfterSaid : Prop := fnExactCutAfterRow.holds Try.pinned (OpenSpec.ofChange fnExactCutAfterSpec)

/-- ITS FALSE NEIGHBOUR: 'it returns false'. Refute it at one input. -/
def fnExactCutAfterWrong : ChangeSpec := { name := "fnExactCutAfter", fn := fun _ => fun
  | [d1, d2] => { results := [.lit (.bool false)], args := [d1, d2] }
  | _ => none }
def FnExactCutAfterWrongFalsely : Prop := fnExactCutAfterRow.holds Try.pinned (OpenSpec.ofChange fnExactCutAfterWrong)

/-- 'laws.FnExactRestart': WHATEVER THE INPUT: true; the input reads as it did. -/
def fnExactRestartSpec : ChangeSpec := { name := "fnExactRestart", fn := fun _ => fun
  | [d] => { results := [.lit (.bool true)], args := [d] }
  | _ => none }
def fnExactRestartRow : OpenClaim := { program := "ythbbcnjnbfhcbaa", sum := "0d54b98c2777c555c564b3f54dd8b80f895578867f6b78c8fa9c60440d49e28d", func := "loop.example/g00083/laws.FnExactRestart", spec := "fnExactRestart", unfollowed := true, recurses := true, apart := false }
def FnExactRestartSaid : Prop := fnExactRestartRow.holds Try.pinned (OpenSpec.ofChange fnExactRestartSpec)

/-- ITS FALSE NEIGHBOUR: 'it returns false'. Refute it at one input. -/
def fnExactRestartWrong : ChangeSpec := { name := "fnExactRestart", fn := fun _ => fun
  | [d] => { results := [.lit (.bool false)], args := [d] }
  | _ => none }
def FnExactRestartWrongFalsely : Prop := fnExactRestartRow.holds Try.pinned (OpenSpec.ofChange fnExactRestartWrong)

/-- 'laws.FnExactGoodCache': WHATEVER THE INPUT: true; the input reads as it did. -/
def fnExactGoodCacheSpec : ChangeSpec := { name := "fnExactGoodCache", fn := fun _ => fun
  | [d1, d2] => { results := [.lit (.bool true)], args := [d1, d2] }
  | _ => none }
def fnExactGoodCacheRow : OpenClaim := { program := "ythbbcnjnbfhcbaa", sum := "0d54b98c2777c555c564b3f54dd8b80f895578867f6b78c8fa9c60440d49e28d", func := "loop.example/g00083/laws.FnExactGoodCache", spec := "fnExactGoodCache", unfollowed := true, recurses := true, apart := false }
def FnExactGoodCacheSaid : Prop := fnExactGoodCacheRow.holds Try.pinned (OpenSpec.ofChange fnExactGoodCacheSpec)

/-- ITS FALSE NEIGHBOUR: 'it returns false'. Refute it at one input. -/
def fnExactGoodCacheWrong : ChangeSpec := { name := "fnExactGoodCache", fn := fun _ => fun
  | [d1, d2] => { results := [.lit (.bool false)], args := [d1, d2] }
  | _ => none }
def FnExactGoodCacheWrongFalsely : Prop := fnExactGoodCacheRow.holds Try.pinned (OpenSpec.ofChange fnExactGoodCacheWrong)

/-- 'laws.FnExactFlushCache': WHATEVER THE INPUT: true; the input reads as it did. -/
def fnExactFlushCacheSpec : ChangeSpec := { name := "fnExactFlushCache", fn := fun _ => fun
  | [d1, d2] => { results := [.lit (.bool true)], args := [d1, d2] }
  | _ => none }
def fnExactFlushCacheRow : OpenClaim := { program := "ythbbcnjnbfhcbaa", sum := "0d54b98c2777c555c564b3f54dd8b80f895578867f6b78c8fa9c60440d49e28d", func := "loop.example/g00083/laws.FnExactFlushCache", spec := "fnExactFlushCache", unfollowed := true, recurses := true, apart := false }
def FnExactFlushCacheSaid : Prop := fnExactFlushCacheRow.holds Try.pinned (OpenSpec.ofChange fnExactFlushCacheSpec)

/-- ITS FALSE NEIGHBOUR: 'it returns false'. Refute it at one input. -/
def fnExactFlushCacheWrong : ChangeSpec := { name := "fnExactFlushCache", fn := fun _ => fun
  | [d1, d2] => { results := [.lit (.bool false)], args := [d1, d2] }
  | _ => none }
def FnExactFlushCacheWrongFalsely : Prop := fnExactFlushCacheRow.holds Try.pinned (OpenSpec.ofChange fnExactFlushCacheWrong)

/- THE SECOND FORM. 'bulk': how many values and letters a reading holds, each counted each time it is reached (what is shared counts as often as it is met; a slice's spare places count too). A statement '..UptoSaid' is the law's where the arguments, and the package variables that the reading takes, are together of bulk at most 1048576: NARROWER than '..Said'. Prove '..Said' where nothing that the law and all that it calls make is longer than what came in: it says more and counts as full. Else prove '..UptoSaid'. A law counts once. -/
mutual
def uptoBulk {H : Type} : DataW H → Nat
  | .lit (.string bytes) => bytes.length + 1
  | .lit _ => 1
  | .nil => 1
  | .ptr d => uptoBulk d + 1
  | .slice elems spare => uptoBulkAll elems + uptoBulkAll spare + 1
  | .agg parts => uptoBulkAll parts + 1
  | .iface _ d => uptoBulk d + 1
  | .map entries => uptoBulkEntries entries + 1
  | .held _ => 1
def uptoBulkAll {H : Type} : List (DataW H) → Nat
  | [] => 0
  | d :: r => uptoBulk d + uptoBulkAll r
def uptoBulkEntries {H : Type} : List (Lit × DataW H) → Nat
  | [] => 0
  | x :: r => uptoBulkEntry x + uptoBulkEntries r
def uptoBulkEntry {H : Type} : Lit × DataW H → Nat
  | (.string bytes, d) => bytes.length + uptoBulk d + 1
  | (_, d) => uptoBulk d + 1
 end
def uptoSmall : (H : Type) → List (DataW H) → Bool := fun _ ds => decide (uptoBulkAll ds ≤ 1048576)
def OpenSpec.upto (s : _root_.Go.ChangeSpec) : _root_.Go.OpenSpec := { _root_.Go.OpenSpec.ofChange s with cond := some uptoSmall }

/-- 'laws.FnExactNewDisk', WHERE WHAT IT READS IS OF BULK AT MOST 1048576: true; the input reads as it did. -/
def fnExactNewDiskUptoRow : OpenClaim := { program := "ythbbcnjnbfhcbaa", sum := "0d54b98c2777c555c564b3f54dd8b80f895578867f6b78c8fa9c60440d49e28d", func := "loop.example/g00083/laws.FnExactNewDisk", spec := "fnExactNewDisk", apart := false, narrowed := true }
def FnExactNewDiskUptoSaid : Prop := fnExactNewDiskUptoRow.holds Try.pinned (OpenSpec.upto fnExactNewDiskSpec)

/-- 'laws.FnExactGoodDisk', WHERE WHAT IT READS IS OF BULK AT MOST 1048576: true; the input reads as it did. -/
def fnExactGoodDiskUptoRow : OpenClaim := { program := "ythbbcnjnbfhcbaa", sum := "0d54b98c2777c555c564b3f54dd8b80f895578867f6b78c8fa9c60440d49e28d", func := "loop.example/g00083/laws.FnExactGoodDisk", spec := "fnExactGoodDisk", unfollowed := true, recurses := true, apart := false, narrowed := true }
def FnExactGoodDiskUptoSaid : Prop := fnExactGoodDiskUptoRow.holds Try.pinned (OpenSpec.upto fnExactGoodDiskSpec)

/-- 'laws.FnExactReadBlock', WHERE WHAT IT READS IS OF BULK AT MOST 1048576: true; the input reads as it did. -/
def fnExactReadBlockUptoRow : OpenClaim := { program := "ythbbcnjnbfhcbaa", sum := "0d54b98c2777c555c564b3f54dd8b80f895578867f6b78c8fa9c60440d49e28d", func := "loop.example/g00083/laws.FnExactReadBlock", spec := "fnExactReadBlock", unfollowed := true, recurses := true, apart := false, narrowed := true }
def FnExactReadBlockUptoSaid : Prop := fnExactReadBlockUptoRow.holds Try.pinned (OpenSpec.upto fnExactReadBlockSpec)

/-- 'laws.FnExactWriteBlock', WHERE WHAT IT READS IS OF BULK AT MOST 1048576: true; the input reads as it did. -/
def fnExactWriteBlockUptoRow : OpenClaim := { program := "ythbbcnjnbfhcbaa", sum := "0d54b98c2777c555c564b3f54dd8b80f895578867f6b78c8fa9c60440d49e28d", func := "loop.example/g00083/laws.FnExactWriteBlock", spec := "fnExactWriteBlock", unfollowed := true, recurses := true, apart := false, narrowed := true }
def FnExactWriteBlockUptoSaid : Prop := fnExactWriteBlockUptoRow.holds Try.pinned (OpenSpec.upto fnExactWriteBlockSpec)

/-- 'laws.FnExactCutAfter', WHERE WHAT IT READS IS OF BULK AT MOST 1048576: true; the input reads as it did. -/
def fnExactCutAfterUptoRow : OpenClaim := { program := "ythbbcnjnbfhcbaa", sum := "0d54b98c2777c555c564b3f54dd8b80f895578867f6b78c8fa9c60440d49e28d", func := "loop.example/g00083/laws.FnExactCutAfter", spec := "fnExactCutAfter", unfollowed := true, recurses := true, apart := false, narrowed := true }
def FnExactCutAfterUptoSaid : Prop := fnExactCutAfterUptoRow.holds Try.pinned (OpenSpec.upto fnExactCutAfterSpec)

/-- 'laws.FnExactRestart', WHERE WHAT IT READS IS OF BULK AT MOST 1048576: true; the input reads as it did. -/
def fnExactRestartUptoRow : OpenClaim := { program := "ythbbcnjnbfhcbaa", sum := "0d54b98c2777c555c564b3f54dd8b80f895578867f6b78c8fa9c60440d49e28d", func := "loop.example/g00083/laws.FnExactRestart", spec := "fnExactRestart", unfollowed := true, recurses := true, apart := false, narrowed := true }
def FnExactRestartUptoSaid : Prop := fnExactRestartUptoRow.holds Try.pinned (OpenSpec.upto fnExactRestartSpec)

/-- 'laws.FnExactGoodCache', WHERE WHAT IT READS IS OF BULK AT MOST 1048576: true; the input reads as it did. -/
def fnExactGoodCacheUptoRow : OpenClaim := { program := "ythbbcnjnbfhcbaa", sum := "0d54b98c2777c555c564b3f54dd8b80f895578867f6b78c8fa9c60440d49e28d", func := "loop.example/g00083/laws.FnExactGoodCache", spec := "fnExactGoodCache", unfollowed := true, recurses := true, apart := false, narrowed := true }
def FnExactGoodCacheUptoSaid : Prop := fnExactGoodCacheUptoRow.holds Try.pinned (OpenSpec.upto fnExactGoodCacheSpec)

/-- 'laws.FnExactFlushCache', WHERE WHAT IT READS IS OF BULK AT MOST 1048576: true; the input reads as it did. -/
def fnExactFlushCacheUptoRow : OpenClaim := { program := "ythbbcnjnbfhcbaa", sum := "0d54b98c2777c555c564b3f54dd8b80f895578867f6b78c8fa9c60440d49e28d", func := "loop.example/g00083/laws.FnExactFlushCache", spec := "fnExactFlushCache", unfollowed := true, recurses := true, apart := false, narrowed := true }
def FnExactFlushCacheUptoSaid : Prop := fnExactFlushCacheUptoRow.holds Try.pinned (OpenSpec.upto fnExactFlushCacheSpec)

end Rows
end Go.Proofs.Ythbbcnjnbfhcbaa
