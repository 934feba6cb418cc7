/-
  No cell of these rows narrows 'for every input' (looked for: loops, veiled, ifaces, maps, wideKeys, modest, calm, conditions, laid).
  DERIVED. THE GIVEN ROWS OF THIS SEAT. 7 by the template 'for every input the law returns true; each argument reads behind the call as it read before'; 0 by the template 'total and deterministic' (their statements: YtfjboeeogjepeaaTotals.lean).
  GIVEN WITH THE SEED: the statements are not yours to turn. If you find one false, say at which input.
  Laid BY PROGRAM, IN A SANDBOX (cutbox-rows.mjs): the forced cells as the released guide's own fill.sh prints them over the translation 7ab8cfac394b17e2… (all of the seat's roots in one cut). By AI agents, Wed Nov 11 2026. No macro, syntax, notation, axiom, sorry.
-/
import Derived.Test.YtfjboeeogjepeaaChecked
import GoSem.Claim
import GoSem.ClaimJoined
import GoSem.ClaimMapViews
import Derived.JoinedTies
import Derived.KernelRfl
namespace Go.Proofs.Ytfjboeeogjepeaa
/- THE CELL 'sum', in the pinned program and in every row, IS THE sha256 OF THE DUMP (.gsa) THAT YtfjboeeogjepeaaProg.lean LOADS. Nothing in Lean hashes anything: it is a label: what it is worth is what the hold of that sum in a sandbox is worth. -/
noncomputable def Try.pinned : Pinned := { name := "ytfjboeeogjepeaa", sum := "7ab8cfac394b17e2f87d212f364aba60bd427abbbc15a4680211d045c6c0145c", checked := Try.checked }
namespace Rows
def none {H : Type} : Left H := { results := [], args := [] }

/-- 'laws.FnExactHeaderOf': WHATEVER THE INPUT: true; the input reads as it did. -/
def fnExactHeaderOfSpec : ChangeSpec := { name := "fnExactHeaderOf", fn := fun _ => fun
  | [d] => { results := [.lit (.bool true)], args := [d] }
  | _ => none }
def fnExactHeaderOfRow : OpenClaim := { program := "ytfjboeeogjepeaa", sum := "7ab8cfac394b17e2f87d212f364aba60bd427abbbc15a4680211d045c6c0145c", func := "loop.example/g00083/laws.FnExactHeaderOf", spec := "fnExactHeaderOf", apart := false }
def FnExactHeaderOfSaid : Prop := fnExactHeaderOfRow.holds Try.pinned (OpenSpec.ofChange fnExactHeaderOfSpec)

/-- ITS FALSE NEIGHBOUR: 'it returns false'. Refute it at one input. -/
def fnExactHeaderOfWrong : ChangeSpec := { name := "fnExactHeaderOf", fn := fun _ => fun
  | [d] => { results := [.lit (.bool false)], args := [d] }
  | _ => none }
def FnExactHeaderOfWrongFalsely : Prop := fnExactHeaderOfRow.holds Try.pinned (OpenSpec.ofChange fnExactHeaderOfWrong)

/-- 'laws.FnExactGoodGroup': WHATEVER THE INPUT: true; the input reads as it did. -/
def fnExactGoodGroupSpec : ChangeSpec := { name := "fnExactGoodGroup", fn := fun _ => fun
  | [d1, d2] => { results := [.lit (.bool true)], args := [d1, d2] }
  | _ => none }
def fnExactGoodGroupRow : OpenClaim := { program := "ytfjboeeogjepeaa", sum := "7ab8cfac394b17e2f87d212f364aba60bd427abbbc15a4680211d045c6c0145c", func := "loop.example/g00083/laws.FnExactGoodGroup", spec := "fnExactGoodGroup", unfollowed := true, recurses := true, apart := false }
def FnExactGoodGroupSaid : Prop := fnExactGoodGroupRow.holds Try.pinned (OpenSpec.ofChange fnExactGoodGroupSpec)

/-- ITS FALSE NEIGHBOUR: 'it returns false'. Refute it at one input. -/
def fnExactGoodGroupWrong : ChangeSpec := { name := "fnExactGoodGroup", fn := fun _ => fun
  | [d1, d2] => { results := [.lit (.bool false)], args := [d1, d2] }
  | _ => none }
def FnExactGoodGroupWrongFalsely : Prop := fnExactGoodGroupRow.holds Try.pinned (OpenSpec.ofChange fnExactGoodGroupWrong)

/-- 'laws.FnExactWaitingIn': WHATEVER THE INPUT: true; the input reads as it did. -/
def fnExactWaitingInSpec : ChangeSpec := { name := "fnExactWaitingIn", fn := fun _ => fun
  | [d] => { results := [.lit (.bool true)], args := [d] }
  | _ => none }
def fnExactWaitingInRow : OpenClaim := { program := "ytfjboeeogjepeaa", sum := "7ab8cfac394b17e2f87d212f364aba60bd427abbbc15a4680211d045c6c0145c", func := "loop.example/g00083/laws.FnExactWaitingIn", spec := "fnExactWaitingIn", unfollowed := true, recurses := true, apart := false }
def FnExactWaitingInSaid : Prop := fnExactWaitingInRow.holds Try.pinned (OpenSpec.ofChange fnExactWaitingInSpec)

/-- ITS FALSE NEIGHBOUR: 'it returns false'. Refute it at one input. -/
def fnExactWaitingInWrong : ChangeSpec := { name := "fnExactWaitingIn", fn := fun _ => fun
  | [d] => { results := [.lit (.bool false)], args := [d] }
  | _ => none }
def FnExactWaitingInWrongFalsely : Prop := fnExactWaitingInRow.holds Try.pinned (OpenSpec.ofChange fnExactWaitingInWrong)

/-- 'laws.FnExactPlanOf': WHATEVER THE INPUT: true; the input reads as it did. -/
def fnExactPlanOfSpec : ChangeSpec := { name := "fnExactPlanOf", fn := fun _ => fun
  | [d1, d2] => { results := [.lit (.bool true)], args := [d1, d2] }
  | _ => none }
def fnExactPlanOfRow : OpenClaim := { program := "ytfjboeeogjepeaa", sum := "7ab8cfac394b17e2f87d212f364aba60bd427abbbc15a4680211d045c6c0145c", func := "loop.example/g00083/laws.FnExactPlanOf", spec := "fnExactPlanOf", unfollowed := true, recurses := true, apart := false }
def FnExactPlanOfSaid : Prop := fnExactPlanOfRow.holds Try.pinned (OpenSpec.ofChange fnExactPlanOfSpec)

/-- ITS FALSE NEIGHBOUR: 'it returns false'. Refute it at one input. -/
def fnExactPlanOfWrong : ChangeSpec := { name := "fnExactPlanOf", fn := fun _ => fun
  | [d1, d2] => { results := [.lit (.bool false)], args := [d1, d2] }
  | _ => none }
def FnExactPlanOfWrongFalsely : Prop := fnExactPlanOfRow.holds Try.pinned (OpenSpec.ofChange fnExactPlanOfWrong)

/-- 'laws.FnGroups': WHATEVER THE INPUT: true; the input reads as it did. -/
def fnGroupsSpec : ChangeSpec := { name := "fnGroups", fn := fun _ => fun
  | [d1, d2] => { results := [.lit (.bool true)], args := [d1, d2] }
  | _ => none }
def fnGroupsRow : OpenClaim := { program := "ytfjboeeogjepeaa", sum := "7ab8cfac394b17e2f87d212f364aba60bd427abbbc15a4680211d045c6c0145c", func := "loop.example/g00083/laws.FnGroups", spec := "fnGroups", unfollowed := true, recurses := true, apart := false }
def FnGroupsSaid : Prop := fnGroupsRow.holds Try.pinned (OpenSpec.ofChange fnGroupsSpec)

/-- ITS FALSE NEIGHBOUR: 'it returns false'. Refute it at one input. -/
def fnGroupsWrong : ChangeSpec := { name := "fnGroups", fn := fun _ => fun
  | [d1, d2] => { results := [.lit (.bool false)], args := [d1, d2] }
  | _ => none }
def FnGroupsWrongFalsely : Prop := fnGroupsRow.holds Try.pinned (OpenSpec.ofChange fnGroupsWrong)

/-- 'laws.FnExactRecover': WHATEVER THE INPUT: true; the input reads as it did. -/
def fnExactRecoverSpec : ChangeSpec := { name := "fnExactRecover", fn := fun _ => fun
  | [d] => { results := [.lit (.bool true)], args := [d] }
  | _ => none }
def fnExactRecoverRow : OpenClaim := { program := "ytfjboeeogjepeaa", sum := "7ab8cfac394b17e2f87d212f364aba60bd427abbbc15a4680211d045c6c0145c", func := "loop.example/g00083/laws.FnExactRecover", spec := "fnExactRecover", unfollowed := true, recurses := true, apart := false }
def FnExactRecoverSaid : Prop := fnExactRecoverRow.holds Try.pinned (OpenSpec.ofChange fnExactRecoverSpec)

/-- ITS FALSE NEIGHBOUR: 'it returns false'. Refute it at one input. -/
def fnExactRecoverWrong : ChangeSpec := { name := "fnExactRecover", fn := fun _ => fun
  | [d] => { results := [.lit (.bool false)], args := [d] }
  | _ => none }
def FnExactRecoverWrongFalsely : Prop := fnExactRecoverRow.holds Try.pinned (OpenSpec.ofChange fnExactRecoverWrong)

/-- 'laws.FnExactCommitGroup': WHATEVER THE INPUT: true; the input reads as it did. -/
def fnExactCommitGroupSpec : ChangeSpec := { name := "fnExactCommitGroup", fn := fun _ => fun
  | [d1, d2] => { results := [.lit (.bool true)], args := [d1, d2] }
  | _ => none }
def fnExactCommitGroupRow : OpenClaim := { program := "ytfjboeeogjepeaa", sum := "7ab8cfac394b17e2f87d212f364aba60bd427abbbc15a4680211d045c6c0145c", func := "loop.example/g00083/laws.FnExactCommitGroup", spec := "fnExactCommitGroup", unfollowed := true, recurses := true, apart := false }
def FnExactCommitGroupSaid : Prop := fnExactCommitGroupRow.holds Try.pinned (OpenSpec.ofChange fnExactCommitGroupSpec)

/-- ITS FALSE NEIGHBOUR: 'it returns false'. Refute it at one input. -/
def fnExactCommitGroupWrong : ChangeSpec := { name := "fnExactCommitGroup", fn := fun _ => fun
  | [d1, d2] => { results := [.lit (.bool false)], args := [d1, d2] }
  | _ => none }
def FnExactCommitGroupWrongFalsely : Prop := fnExactCommitGroupRow.holds Try.pinned (OpenSpec.ofChange fnExactCommitGroupWrong)

/- THE SECOND FORM. 'bulk': how many values and letters a reading holds, each counted each time it is reached (what is shared counts as often as it is met; a slice's spare places count too). A statement '..UptoSaid' is the law's where the arguments, and the package variables that the reading takes, are together of bulk at most 1048576: NARROWER than '..Said'. Prove '..Said' where nothing that the law and all that it calls make is longer than what came in: it says more and counts as full. Else prove '..UptoSaid'. A law counts once. -/
mutual
def uptoBulk {H : Type} : DataW H → Nat
  | .lit (.string bytes) => bytes.length + 1
  | .lit _ => 1
  | .nil => 1
  | .ptr d => uptoBulk d + 1
  | .slice elems spare => uptoBulkAll elems + uptoBulkAll spare + 1
  | .agg parts => uptoBulkAll parts + 1
  | .iface _ d => uptoBulk d + 1
  | .map entries => uptoBulkEntries entries + 1
  | .held _ => 1
def uptoBulkAll {H : Type} : List (DataW H) → Nat
  | [] => 0
  | d :: r => uptoBulk d + uptoBulkAll r
def uptoBulkEntries {H : Type} : List (Lit × DataW H) → Nat
  | [] => 0
  | x :: r => uptoBulkEntry x + uptoBulkEntries r
def uptoBulkEntry {H : Type} : Lit × DataW H → Nat
  | (.string bytes, d) => bytes.length + uptoBulk d + 1
  | (_, d) => uptoBulk d + 1
 end
def uptoSmall : (H : Type) → List (DataW H) → Bool := fun _ ds => decide (uptoBulkAll ds ≤ 1048576)
def OpenSpec.upto (s : _root_.Go.ChangeSpec) : _root_.Go.OpenSpec := { _root_.Go.OpenSpec.ofChange s with cond := some uptoSmall }

/-- 'laws.FnExactHeaderOf', WHERE WHAT IT READS IS OF BULK AT MOST 1048576: true; the input reads as it did. -/
def fnExactHeaderOfUptoRow : OpenClaim := { program := "ytfjboeeogjepeaa", sum := "7ab8cfac394b17e2f87d212f364aba60bd427abbbc15a4680211d045c6c0145c", func := "loop.example/g00083/laws.FnExactHeaderOf", spec := "fnExactHeaderOf", apart := false, narrowed := true }
def FnExactHeaderOfUptoSaid : Prop := fnExactHeaderOfUptoRow.holds Try.pinned (OpenSpec.upto fnExactHeaderOfSpec)

/-- 'laws.FnExactGoodGroup', WHERE WHAT IT READS IS OF BULK AT MOST 1048576: true; the input reads as it did. -/
def fnExactGoodGroupUptoRow : OpenClaim := { program := "ytfjboeeogjepeaa", sum := "7ab8cfac394b17e2f87d212f364aba60bd427abbbc15a4680211d045c6c0145c", func := "loop.example/g00083/laws.FnExactGoodGroup", spec := "fnExactGoodGroup", unfollowed := true, recurses := true, apart := false, narrowed := true }
def FnExactGoodGroupUptoSaid : Prop := fnExactGoodGroupUptoRow.holds Try.pinned (OpenSpec.upto fnExactGoodGroupSpec)

/-- 'laws.FnExactWaitingIn', WHERE WHAT IT READS IS OF BULK AT MOST 1048576: true; the input reads as it did. -/
def fnExactWaitingInUptoRow : OpenClaim := { program := "ytfjboeeogjepeaa", sum := "7ab8cfac394b17e2f87d212f364aba60bd427abbbc15a4680211d045c6c0145c", func := "loop.example/g00083/laws.FnExactWaitingIn", spec := "fnExactWaitingIn", unfollowed := true, recurses := true, apart := false, narrowed := true }
def FnExactWaitingInUptoSaid : Prop := fnExactWaitingInUptoRow.holds Try.pinned (OpenSpec.upto fnExactWaitingInSpec)

/-- 'laws.FnExactPlanOf', WHERE WHAT IT READS IS OF BULK AT MOST 1048576: true; the input reads as it did. -/
def fnExactPlanOfUptoRow : OpenClaim := { program := "ytfjboeeogjepeaa", sum := "7ab8cfac394b17e2f87d212f364aba60bd427abbbc15a4680211d045c6c0145c", func := "loop.example/g00083/laws.FnExactPlanOf", spec := "fnExactPlanOf", unfollowed := true, recurses := true, apart := false, narrowed := true }
def FnExactPlanOfUptoSaid : Prop := fnExactPlanOfUptoRow.holds Try.pinned (OpenSpec.upto fnExactPlanOfSpec)

/-- 'laws.FnGroups', WHERE WHAT IT READS IS OF BULK AT MOST 1048576: true; the input reads as it did. -/
def fnGroupsUptoRow : OpenClaim := { program := "ytfjboeeogjepeaa", sum := "7ab8cfac394b17e2f87d212f364aba60bd427abbbc15a4680211d045c6c0145c", func := "loop.example/g00083/laws.FnGroups", spec := "fnGroups", unfollowed := true, recurses := true, apart := false, narrowed := true }
def FnGroupsUptoSaid : Prop := fnGroupsUptoRow.holds Try.pinned (OpenSpec.upto fnGroupsSpec)

/-- 'laws.FnExactRecover', WHERE WHAT IT READS IS OF BULK AT MOST 1048576: true; the input reads as it did. -/
def fnExactRecoverUptoRow : OpenClaim := { program := "ytfjboeeogjepeaa", sum := "7ab8cfac394b17e2f87d212f364aba60bd427abbbc15a4680211d045c6c0145c", func := "loop.example/g00083/laws.FnExactRecover", spec := "fnExactRecover", unfollowed := true, recurses := true, apart := false, narrowed := true }
def FnExactRecoverUptoSaid : Prop := fnExactRecoverUptoRow.holds Try.pinned (OpenSpec.upto fnExactRecoverSpec)

/-- 'laws.FnExactCommitGroup', WHERE WHAT IT READS IS OF BULK AT MOST 1048576: true; the input reads as it did. -/
def fnExactCommitGroupUptoRow : OpenClaim := { program := "ytfjboeeogjepeaa", sum := "7ab8cfac394b17e2f87d212f364aba60bd427abbbc15a4680211d045c6c0145c", func := "loop.example/g00083/laws.FnExactCommitGroup", spec := "fnExactCommitGroup", unfollowed := true, recurses := true, apart := false, narrowed := true }
def FnExactCommitGroupUptoSaid : Prop := fnExactCommitGroupUptoRow.holds Try.pinned (OpenSpec.upto fnExactCommitGroupSpec)

end Rows
end Go.Proofs.Ytfjboeeogjepeaa
