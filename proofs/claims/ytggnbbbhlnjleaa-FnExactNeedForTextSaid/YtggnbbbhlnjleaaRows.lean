/-
  No cell of these rows narrows 'for every input' (looked for: loops, veiled, ifaces, maps, wideKeys, modest, calm, conditions, laid).
  DERIVED. THE GIVEN ROWS OF THIS SEAT. 4 by the template 'for every input the law returns true; each argument reads behind the call as it read before'; 0 by the template 'total and deterministic' (their statements: YtggnbbbhlnjleaaTotals.lean).
  GIVEN WITH THE SEED: the statements are not yours to turn. If you find one false, say at which input.
  Laid BY PROGRAM, IN A SANDBOX (cutbox-rows.mjs): the forced cells as the released guide's own fill.sh prints them over the translation 29b9c8be09ccf62d… (all of the seat's roots in one cut). By AI agents, Wed Nov 11 2026. No macro, syntax, notation, axiom, sorry.
-/
import Derived.Test.YtggnbbbhlnjleaaChecked
import GoSem.Claim
import GoSem.ClaimJoined
import GoSem.ClaimMapViews
import Derived.JoinedTies
import Derived.KernelRfl
namespace Go.Proofs.Ytggnbbbhlnjleaa
/- THE CELL 'sum', in the pinned program and in every row, IS THE sha256 OF THE DUMP (.gsa) THAT YtggnbbbhlnjleaaProg.lean LOADS. Nothing in Lean hashes anything: it is a label: what it is worth is what the hold of that sum in a sandbox is worth. -/
noncomputable def Try.pinned : Pinned := { name := "ytggnbbbhlnjleaa", sum := "29b9c8be09ccf62dcfe040018d199c98cdd27f5dec7e43db059926ca7ddabce2", checked := Try.checked }
namespace Rows
def none {H : Type} : Left H := { results := [], args := [] }

/-- 'laws.FnExactDropRecord': WHATEVER THE INPUT: true; the input reads as it did. -/
def fnExactDropRecordSpec : ChangeSpec := { name := "fnExactDropRecord", fn := fun _ => fun
  | [d1, d2] => { results := [.lit (.bool true)], args := [d1, d2] }
  | _ => none }
def fnExactDropRecordRow : OpenClaim := { program := "ytggnbbbhlnjleaa", sum := "29b9c8be09ccf62dcfe040018d199c98cdd27f5dec7e43db059926ca7ddabce2", func := "loop.example/g00083/laws.FnExactDropRecord", spec := "fnExactDropRecord", inPlace := ["slices.overlaps[int]"], unfollowed := true, recurses := true, apart := false }
def FnExactDropRecordSaid : Prop := fnExactDropRecordRow.holds Try.pinned (OpenSpec.ofChange fnExactDropRecordSpec)

/-- ITS FALSE NEIGHBOUR: 'it returns false'. Refute it at one input. -/
def fnExactDropRecordWrong : ChangeSpec := { name := "fnExactDropRecord", fn := fun _ => fun
  | [d1, d2] => { results := [.lit (.bool false)], args := [d1, d2] }
  | _ => none }
def FnExactDropRecordWrongFalsely : Prop := fnExactDropRecordRow.holds Try.pinned (OpenSpec.ofChange fnExactDropRecordWrong)

/-- 'laws.FnExactRecordAt': WHATEVER THE INPUT: true; the input reads as it did. -/
def fnExactRecordAtSpec : ChangeSpec := { name := "fnExactRecordAt", fn := fun _ => fun
  | [d1, d2] => { results := [.lit (.bool true)], args := [d1, d2] }
  | _ => none }
def fnExactRecordAtRow : OpenClaim := { program := "ytggnbbbhlnjleaa", sum := "29b9c8be09ccf62dcfe040018d199c98cdd27f5dec7e43db059926ca7ddabce2", func := "loop.example/g00083/laws.FnExactRecordAt", spec := "fnExactRecordAt", unfollowed := true, recurses := true, apart := false }
def FnExactRecordAtSaid : Prop := fnExactRecordAtRow.holds Try.pinned (OpenSpec.ofChange fnExactRecordAtSpec)

/-- ITS FALSE NEIGHBOUR: 'it returns false'. Refute it at one input. -/
def fnExactRecordAtWrong : ChangeSpec := { name := "fnExactRecordAt", fn := fun _ => fun
  | [d1, d2] => { results := [.lit (.bool false)], args := [d1, d2] }
  | _ => none }
def FnExactRecordAtWrongFalsely : Prop := fnExactRecordAtRow.holds Try.pinned (OpenSpec.ofChange fnExactRecordAtWrong)

/-- 'laws.FnExactTextIn': WHATEVER THE INPUT: true; the input reads as it did. -/
def fnExactTextInSpec : ChangeSpec := { name := "fnExactTextIn", fn := fun _ => fun
  | [d1, d2] => { results := [.lit (.bool true)], args := [d1, d2] }
  | _ => none }
def fnExactTextInRow : OpenClaim := { program := "ytggnbbbhlnjleaa", sum := "29b9c8be09ccf62dcfe040018d199c98cdd27f5dec7e43db059926ca7ddabce2", func := "loop.example/g00083/laws.FnExactTextIn", spec := "fnExactTextIn", unfollowed := true, recurses := true, apart := false }
def FnExactTextInSaid : Prop := fnExactTextInRow.holds Try.pinned (OpenSpec.ofChange fnExactTextInSpec)

/-- ITS FALSE NEIGHBOUR: 'it returns false'. Refute it at one input. -/
def fnExactTextInWrong : ChangeSpec := { name := "fnExactTextIn", fn := fun _ => fun
  | [d1, d2] => { results := [.lit (.bool false)], args := [d1, d2] }
  | _ => none }
def FnExactTextInWrongFalsely : Prop := fnExactTextInRow.holds Try.pinned (OpenSpec.ofChange fnExactTextInWrong)

/-- 'laws.FnExactNeedForText': WHATEVER THE INPUT: true; the input reads as it did. -/
def fnExactNeedForTextSpec : ChangeSpec := { name := "fnExactNeedForText", fn := fun _ => fun
  | [d1, d2, d3] => { results := [.lit (.bool true)], args := [d1, d2, d3] }
  | _ => none }
def fnExactNeedForTextRow : OpenClaim := { program := "ytggnbbbhlnjleaa", sum := "29b9c8be09ccf62dcfe040018d199c98cdd27f5dec7e43db059926ca7ddabce2", func := "loop.example/g00083/laws.FnExactNeedForText", spec := "fnExactNeedForText", unfollowed := true, recurses := true, apart := false }
def FnExactNeedForTextSaid : Prop := fnExactNeedForTextRow.holds Try.pinned (OpenSpec.ofChange fnExactNeedForTextSpec)

/-- ITS FALSE NEIGHBOUR: 'it returns false'. Refute it at one input. -/
def fnExactNeedForTextWrong : ChangeSpec := { name := "fnExactNeedForText", fn := fun _ => fun
  | [d1, d2, d3] => { results := [.lit (.bool false)], args := [d1, d2, d3] }
  | _ => none }
def FnExactNeedForTextWrongFalsely : Prop := fnExactNeedForTextRow.holds Try.pinned (OpenSpec.ofChange fnExactNeedForTextWrong)

/- THE SECOND FORM. 'bulk': how many values and letters a reading holds, each counted each time it is reached (what is shared counts as often as it is met; a slice's spare places count too). A statement '..UptoSaid' is the law's where the arguments, and the package variables that the reading takes, are together of bulk at most 1048576: NARROWER than '..Said'. Prove '..Said' where nothing that the law and all that it calls make is longer than what came in: it says more and counts as full. Else prove '..UptoSaid'. A law counts once. -/
mutual
def uptoBulk {H : Type} : DataW H → Nat
  | .lit (.string bytes) => bytes.length + 1
  | .lit _ => 1
  | .nil => 1
  | .ptr d => uptoBulk d + 1
  | .slice elems spare => uptoBulkAll elems + uptoBulkAll spare + 1
  | .agg parts => uptoBulkAll parts + 1
  | .iface _ d => uptoBulk d + 1
  | .map entries => uptoBulkEntries entries + 1
  | .held _ => 1
def uptoBulkAll {H : Type} : List (DataW H) → Nat
  | [] => 0
  | d :: r => uptoBulk d + uptoBulkAll r
def uptoBulkEntries {H : Type} : List (Lit × DataW H) → Nat
  | [] => 0
  | x :: r => uptoBulkEntry x + uptoBulkEntries r
def uptoBulkEntry {H : Type} : Lit × DataW H → Nat
  | (.string bytes, d) => bytes.length + uptoBulk d + 1
  | (_, d) => uptoBulk d + 1
 end
def uptoSmall : (H : Type) → List (DataW H) → Bool := fun _ ds => decide (uptoBulkAll ds ≤ 1048576)
def OpenSpec.upto (s : _root_.Go.ChangeSpec) : _root_.Go.OpenSpec := { _root_.Go.OpenSpec.ofChange s with cond := some uptoSmall }

/-- 'laws.FnExactDropRecord', WHERE WHAT IT READS IS OF BULK AT MOST 1048576: true; the input reads as it did. -/
def fnExactDropRecordUptoRow : OpenClaim := { program := "ytggnbbbhlnjleaa", sum := "29b9c8be09ccf62dcfe040018d199c98cdd27f5dec7e43db059926ca7ddabce2", func := "loop.example/g00083/laws.FnExactDropRecord", spec := "fnExactDropRecord", inPlace := ["slices.overlaps[int]"], unfollowed := true, recurses := true, apart := false, narrowed := true }
def FnExactDropRecordUptoSaid : Prop := fnExactDropRecordUptoRow.holds Try.pinned (OpenSpec.upto fnExactDropRecordSpec)

/-- 'laws.FnExactRecordAt', WHERE WHAT IT READS IS OF BULK AT MOST 1048576: true; the input reads as it did. -/
def fnExactRecordAtUptoRow : OpenClaim := { program := "ytggnbbbhlnjleaa", sum := "29b9c8be09ccf62dcfe040018d199c98cdd27f5dec7e43db059926ca7ddabce2", func := "loop.example/g00083/laws.FnExactRecordAt", spec := "fnExactRecordAt", unfollowed := true, recurses := true, apart := false, narrowed := true }
def FnExactRecordAtUptoSaid : Prop := fnExactRecordAtUptoRow.holds Try.pinned (OpenSpec.upto fnExactRecordAtSpec)

/-- 'laws.FnExactTextIn', WHERE WHAT IT READS IS OF BULK AT MOST 1048576: true; the input reads as it did. -/
def fnExactTextInUptoRow : OpenClaim := { program := "ytggnbbbhlnjleaa", sum := "29b9c8be09ccf62dcfe040018d199c98cdd27f5dec7e43db059926ca7ddabce2", func := "loop.example/g00083/laws.FnExactTextIn", spec := "fnExactTextIn", unfollowed := true, recurses := true, apart := false, narrowed := true }
def FnExactTextInUptoSaid : Prop := fnExactTextInUptoRow.holds Try.pinned (OpenSpec.upto fnExactTextInSpec)

/-- 'laws.FnExactNeedForText', WHERE WHAT IT READS IS OF BULK AT MOST 1048576: true; the input reads as it did. -/
def fnExactNeedForTextUptoRow : OpenClaim := { program := "ytggnbbbhlnjleaa", sum := "29b9c8be09ccf62dcfe040018d199c98cdd27f5dec7e43db059926ca7ddabce2", func := "loop.example/g00083/laws.FnExactNeedForText", spec := "fnExactNeedForText", unfollowed := true, recurses := true, apart := false, narrowed := true }
def FnExactNeedForTextUptoSaid : Prop := fnExactNeedForTextUptoRow.holds Try.pinned (OpenSpec.upto fnExactNeedForTextSpec)

end Rows
end Go.Proofs.Ytggnbbbhlnjleaa
