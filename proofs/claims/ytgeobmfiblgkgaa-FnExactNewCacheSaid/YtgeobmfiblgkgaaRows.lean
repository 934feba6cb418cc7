/-
  No cell of these rows narrows 'for every input' (looked for: loops, veiled, ifaces, maps, wideKeys, modest, calm, conditions, laid).
  DERIVED. THE GIVEN ROWS OF THIS SEAT. 12 by the template 'for every input the law returns true; each argument reads behind the call as it read before'; 0 by the template 'total and deterministic' (their statements: YtgeobmfiblgkgaaTotals.lean).
  GIVEN WITH THE SEED: the statements are not yours to turn. If you find one false, say at which input.
  Laid BY PROGRAM, IN A SANDBOX (cutbox-rows.mjs): the forced cells as the released guide's own fill.sh prints them over the translation 8a9e76a27865cdd2… (all of the seat's roots in one cut). By AI agents, Wed Nov 11 2026. No macro, syntax, notation, axiom, sorry.
-/
import Derived.Test.YtgeobmfiblgkgaaChecked
import GoSem.Claim
import GoSem.ClaimJoined
import GoSem.ClaimMapViews
import Derived.JoinedTies
import Derived.KernelRfl
namespace Go.Proofs.Ytgeobmfiblgkgaa
/- THE CELL 'sum', in the pinned program and in every row, IS THE sha256 OF THE DUMP (.gsa) THAT YtgeobmfiblgkgaaProg.lean LOADS. Nothing in Lean hashes anything: it is a label: what it is worth is what the hold of that sum in a sandbox is worth. -/
noncomputable def Try.pinned : Pinned := { name := "ytgeobmfiblgkgaa", sum := "8a9e76a27865cdd2a32ceb3015a5bcc8b64375e2bd712ded764a82e3665f2788", checked := Try.checked }
namespace Rows
def none {H : Type} : Left H := { results := [], args := [] }

/-- 'laws.FnExactConstants': WHATEVER THE INPUT: true; the input reads as it did. -/
def fnExactConstantsSpec : ChangeSpec := { name := "fnExactConstants", fn := fun _ => fun
  | [] => { results := [.lit (.bool true)], args := [] }
  | _ => none }
def fnExactConstantsRow : OpenClaim := { program := "ytgeobmfiblgkgaa", sum := "8a9e76a27865cdd2a32ceb3015a5bcc8b64375e2bd712ded764a82e3665f2788", func := "loop.example/g00083/laws.FnExactConstants", spec := "fnExactConstants", apart := false }
def FnExactConstantsSaid : Prop := fnExactConstantsRow.holds Try.pinned (OpenSpec.ofChange fnExactConstantsSpec)

/-- ITS FALSE NEIGHBOUR: 'it returns false'. Refute it at one input. -/
def fnExactConstantsWrong : ChangeSpec := { name := "fnExactConstants", fn := fun _ => fun
  | [] => { results := [.lit (.bool false)], args := [] }
  | _ => none }
def FnExactConstantsWrongFalsely : Prop := fnExactConstantsRow.holds Try.pinned (OpenSpec.ofChange fnExactConstantsWrong)

/-- 'laws.FnExactMostFetched': WHATEVER THE INPUT: true; the input reads as it did. -/
def fnExactMostFetchedSpec : ChangeSpec := { name := "fnExactMostFetched", fn := fun _ => fun
  | [d1, d2] => { results := [.lit (.bool true)], args := [d1, d2] }
  | _ => none }
def fnExactMostFetchedRow : OpenClaim := { program := "ytgeobmfiblgkgaa", sum := "8a9e76a27865cdd2a32ceb3015a5bcc8b64375e2bd712ded764a82e3665f2788", func := "loop.example/g00083/laws.FnExactMostFetched", spec := "fnExactMostFetched", apart := false }
def FnExactMostFetchedSaid : Prop := fnExactMostFetchedRow.holds Try.pinned (OpenSpec.ofChange fnExactMostFetchedSpec)

/-- ITS FALSE NEIGHBOUR: 'it returns false'. Refute it at one input. -/
def fnExactMostFetchedWrong : ChangeSpec := { name := "fnExactMostFetched", fn := fun _ => fun
  | [d1, d2] => { results := [.lit (.bool false)], args := [d1, d2] }
  | _ => none }
def FnExactMostFetchedWrongFalsely : Prop := fnExactMostFetchedRow.holds Try.pinned (OpenSpec.ofChange fnExactMostFetchedWrong)

/-- 'laws.FnExactKeyOf': WHATEVER THE INPUT: true; the input reads as it did. -/
def fnExactKeyOfSpec : ChangeSpec := { name := "fnExactKeyOf", fn := fun _ => fun
  | [d] => { results := [.lit (.bool true)], args := [d] }
  | _ => none }
def fnExactKeyOfRow : OpenClaim := { program := "ytgeobmfiblgkgaa", sum := "8a9e76a27865cdd2a32ceb3015a5bcc8b64375e2bd712ded764a82e3665f2788", func := "loop.example/g00083/laws.FnExactKeyOf", spec := "fnExactKeyOf", apart := false }
def FnExactKeyOfSaid : Prop := fnExactKeyOfRow.holds Try.pinned (OpenSpec.ofChange fnExactKeyOfSpec)

/-- ITS FALSE NEIGHBOUR: 'it returns false'. Refute it at one input. -/
def fnExactKeyOfWrong : ChangeSpec := { name := "fnExactKeyOf", fn := fun _ => fun
  | [d] => { results := [.lit (.bool false)], args := [d] }
  | _ => none }
def FnExactKeyOfWrongFalsely : Prop := fnExactKeyOfRow.holds Try.pinned (OpenSpec.ofChange fnExactKeyOfWrong)

/-- 'laws.FnExactDigestOf': WHATEVER THE INPUT: true; the input reads as it did. -/
def fnExactDigestOfSpec : ChangeSpec := { name := "fnExactDigestOf", fn := fun _ => fun
  | [d] => { results := [.lit (.bool true)], args := [d] }
  | _ => none }
def fnExactDigestOfRow : OpenClaim := { program := "ytgeobmfiblgkgaa", sum := "8a9e76a27865cdd2a32ceb3015a5bcc8b64375e2bd712ded764a82e3665f2788", func := "loop.example/g00083/laws.FnExactDigestOf", spec := "fnExactDigestOf", apart := false }
def FnExactDigestOfSaid : Prop := fnExactDigestOfRow.holds Try.pinned (OpenSpec.ofChange fnExactDigestOfSpec)

/-- ITS FALSE NEIGHBOUR: 'it returns false'. Refute it at one input. -/
def fnExactDigestOfWrong : ChangeSpec := { name := "fnExactDigestOf", fn := fun _ => fun
  | [d] => { results := [.lit (.bool false)], args := [d] }
  | _ => none }
def FnExactDigestOfWrongFalsely : Prop := fnExactDigestOfRow.holds Try.pinned (OpenSpec.ofChange fnExactDigestOfWrong)

/-- 'laws.FnExactNeedForRecord': WHATEVER THE INPUT: true; the input reads as it did. -/
def fnExactNeedForRecordSpec : ChangeSpec := { name := "fnExactNeedForRecord", fn := fun _ => fun
  | [d] => { results := [.lit (.bool true)], args := [d] }
  | _ => none }
def fnExactNeedForRecordRow : OpenClaim := { program := "ytgeobmfiblgkgaa", sum := "8a9e76a27865cdd2a32ceb3015a5bcc8b64375e2bd712ded764a82e3665f2788", func := "loop.example/g00083/laws.FnExactNeedForRecord", spec := "fnExactNeedForRecord", apart := false }
def FnExactNeedForRecordSaid : Prop := fnExactNeedForRecordRow.holds Try.pinned (OpenSpec.ofChange fnExactNeedForRecordSpec)

/-- ITS FALSE NEIGHBOUR: 'it returns false'. Refute it at one input. -/
def fnExactNeedForRecordWrong : ChangeSpec := { name := "fnExactNeedForRecord", fn := fun _ => fun
  | [d] => { results := [.lit (.bool false)], args := [d] }
  | _ => none }
def FnExactNeedForRecordWrongFalsely : Prop := fnExactNeedForRecordRow.holds Try.pinned (OpenSpec.ofChange fnExactNeedForRecordWrong)

/-- 'laws.FnExactGoodRuns': WHATEVER THE INPUT: true; the input reads as it did. -/
def fnExactGoodRunsSpec : ChangeSpec := { name := "fnExactGoodRuns", fn := fun _ => fun
  | [d1, d2, d3] => { results := [.lit (.bool true)], args := [d1, d2, d3] }
  | _ => none }
def fnExactGoodRunsRow : OpenClaim := { program := "ytgeobmfiblgkgaa", sum := "8a9e76a27865cdd2a32ceb3015a5bcc8b64375e2bd712ded764a82e3665f2788", func := "loop.example/g00083/laws.FnExactGoodRuns", spec := "fnExactGoodRuns", apart := false }
def FnExactGoodRunsSaid : Prop := fnExactGoodRunsRow.holds Try.pinned (OpenSpec.ofChange fnExactGoodRunsSpec)

/-- ITS FALSE NEIGHBOUR: 'it returns false'. Refute it at one input. -/
def fnExactGoodRunsWrong : ChangeSpec := { name := "fnExactGoodRuns", fn := fun _ => fun
  | [d1, d2, d3] => { results := [.lit (.bool false)], args := [d1, d2, d3] }
  | _ => none }
def FnExactGoodRunsWrongFalsely : Prop := fnExactGoodRunsRow.holds Try.pinned (OpenSpec.ofChange fnExactGoodRunsWrong)

/-- 'laws.FnExactCompletedBy': WHATEVER THE INPUT: true; the input reads as it did. -/
def fnExactCompletedBySpec : ChangeSpec := { name := "fnExactCompletedBy", fn := fun _ => fun
  | [d1, d2] => { results := [.lit (.bool true)], args := [d1, d2] }
  | _ => none }
def fnExactCompletedByRow : OpenClaim := { program := "ytgeobmfiblgkgaa", sum := "8a9e76a27865cdd2a32ceb3015a5bcc8b64375e2bd712ded764a82e3665f2788", func := "loop.example/g00083/laws.FnExactCompletedBy", spec := "fnExactCompletedBy", apart := false }
def FnExactCompletedBySaid : Prop := fnExactCompletedByRow.holds Try.pinned (OpenSpec.ofChange fnExactCompletedBySpec)

/-- ITS FALSE NEIGHBOUR: 'it returns false'. Refute it at one input. -/
def fnExactCompletedByWrong : ChangeSpec := { name := "fnExactCompletedBy", fn := fun _ => fun
  | [d1, d2] => { results := [.lit (.bool false)], args := [d1, d2] }
  | _ => none }
def FnExactCompletedByWrongFalsely : Prop := fnExactCompletedByRow.holds Try.pinned (OpenSpec.ofChange fnExactCompletedByWrong)

/-- 'laws.FnExactAllStrata': WHATEVER THE INPUT: true; the input reads as it did. -/
def fnExactAllStrataSpec : ChangeSpec := { name := "fnExactAllStrata", fn := fun _ => fun
  | [d1, d2] => { results := [.lit (.bool true)], args := [d1, d2] }
  | _ => none }
def fnExactAllStrataRow : OpenClaim := { program := "ytgeobmfiblgkgaa", sum := "8a9e76a27865cdd2a32ceb3015a5bcc8b64375e2bd712ded764a82e3665f2788", func := "loop.example/g00083/laws.FnExactAllStrata", spec := "fnExactAllStrata", apart := false }
def FnExactAllStrataSaid : Prop := fnExactAllStrataRow.holds Try.pinned (OpenSpec.ofChange fnExactAllStrataSpec)

/-- ITS FALSE NEIGHBOUR: 'it returns false'. Refute it at one input. -/
def fnExactAllStrataWrong : ChangeSpec := { name := "fnExactAllStrata", fn := fun _ => fun
  | [d1, d2] => { results := [.lit (.bool false)], args := [d1, d2] }
  | _ => none }
def FnExactAllStrataWrongFalsely : Prop := fnExactAllStrataRow.holds Try.pinned (OpenSpec.ofChange fnExactAllStrataWrong)

/-- 'laws.FnExactCoverOf': WHATEVER THE INPUT: true; the input reads as it did. -/
def fnExactCoverOfSpec : ChangeSpec := { name := "fnExactCoverOf", fn := fun _ => fun
  | [d1, d2, d3, d4] => { results := [.lit (.bool true)], args := [d1, d2, d3, d4] }
  | _ => none }
def fnExactCoverOfRow : OpenClaim := { program := "ytgeobmfiblgkgaa", sum := "8a9e76a27865cdd2a32ceb3015a5bcc8b64375e2bd712ded764a82e3665f2788", func := "loop.example/g00083/laws.FnExactCoverOf", spec := "fnExactCoverOf", apart := false }
def FnExactCoverOfSaid : Prop := fnExactCoverOfRow.holds Try.pinned (OpenSpec.ofChange fnExactCoverOfSpec)

/-- ITS FALSE NEIGHBOUR: 'it returns false'. Refute it at one input. -/
def fnExactCoverOfWrong : ChangeSpec := { name := "fnExactCoverOf", fn := fun _ => fun
  | [d1, d2, d3, d4] => { results := [.lit (.bool false)], args := [d1, d2, d3, d4] }
  | _ => none }
def FnExactCoverOfWrongFalsely : Prop := fnExactCoverOfRow.holds Try.pinned (OpenSpec.ofChange fnExactCoverOfWrong)

/-- 'laws.FnExactLostBy': WHATEVER THE INPUT: true; the input reads as it did. -/
def fnExactLostBySpec : ChangeSpec := { name := "fnExactLostBy", fn := fun _ => fun
  | [d1, d2, d3] => { results := [.lit (.bool true)], args := [d1, d2, d3] }
  | _ => none }
def fnExactLostByRow : OpenClaim := { program := "ytgeobmfiblgkgaa", sum := "8a9e76a27865cdd2a32ceb3015a5bcc8b64375e2bd712ded764a82e3665f2788", func := "loop.example/g00083/laws.FnExactLostBy", spec := "fnExactLostBy", apart := false }
def FnExactLostBySaid : Prop := fnExactLostByRow.holds Try.pinned (OpenSpec.ofChange fnExactLostBySpec)

/-- ITS FALSE NEIGHBOUR: 'it returns false'. Refute it at one input. -/
def fnExactLostByWrong : ChangeSpec := { name := "fnExactLostBy", fn := fun _ => fun
  | [d1, d2, d3] => { results := [.lit (.bool false)], args := [d1, d2, d3] }
  | _ => none }
def FnExactLostByWrongFalsely : Prop := fnExactLostByRow.holds Try.pinned (OpenSpec.ofChange fnExactLostByWrong)

/-- 'laws.FnCovers': WHATEVER THE INPUT: true; the input reads as it did. -/
def fnCoversSpec : ChangeSpec := { name := "fnCovers", fn := fun _ => fun
  | [d] => { results := [.lit (.bool true)], args := [d] }
  | _ => none }
def fnCoversRow : OpenClaim := { program := "ytgeobmfiblgkgaa", sum := "8a9e76a27865cdd2a32ceb3015a5bcc8b64375e2bd712ded764a82e3665f2788", func := "loop.example/g00083/laws.FnCovers", spec := "fnCovers", apart := false }
def FnCoversSaid : Prop := fnCoversRow.holds Try.pinned (OpenSpec.ofChange fnCoversSpec)

/-- ITS FALSE NEIGHBOUR: 'it returns false'. Refute it at one input. -/
def fnCoversWrong : ChangeSpec := { name := "fnCovers", fn := fun _ => fun
  | [d] => { results := [.lit (.bool false)], args := [d] }
  | _ => none }
def FnCoversWrongFalsely : Prop := fnCoversRow.holds Try.pinned (OpenSpec.ofChange fnCoversWrong)

/-- 'laws.FnExactNewCache': WHATEVER THE INPUT: true; the input reads as it did. -/
def fnExactNewCacheSpec : ChangeSpec := { name := "fnExactNewCache", fn := fun _ => fun
  | [d] => { results := [.lit (.bool true)], args := [d] }
  | _ => none }
def fnExactNewCacheRow : OpenClaim := { program := "ytgeobmfiblgkgaa", sum := "8a9e76a27865cdd2a32ceb3015a5bcc8b64375e2bd712ded764a82e3665f2788", func := "loop.example/g00083/laws.FnExactNewCache", spec := "fnExactNewCache", apart := false }
def FnExactNewCacheSaid : Prop := fnExactNewCacheRow.holds Try.pinned (OpenSpec.ofChange fnExactNewCacheSpec)

/-- ITS FALSE NEIGHBOUR: 'it returns false'. Refute it at one input. -/
def fnExactNewCacheWrong : ChangeSpec := { name := "fnExactNewCache", fn := fun _ => fun
  | [d] => { results := [.lit (.bool false)], args := [d] }
  | _ => none }
def FnExactNewCacheWrongFalsely : Prop := fnExactNewCacheRow.holds Try.pinned (OpenSpec.ofChange fnExactNewCacheWrong)

/- THE SECOND FORM. 'bulk': how many values and letters a reading holds, each counted each time it is reached (what is shared counts as often as it is met; a slice's spare places count too). A statement '..UptoSaid' is the law's where the arguments, and the package variables that the reading takes, are together of bulk at most 1048576: NARROWER than '..Said'. Prove '..Said' where nothing that the law and all that it calls make is longer than what came in: it says more and counts as full. Else prove '..UptoSaid'. A law counts once. -/
mutual
def uptoBulk {H : Type} : DataW H → Nat
  | .lit (.string bytes) => bytes.length + 1
  | .lit _ => 1
  | .nil => 1
  | .ptr d => uptoBulk d + 1
  | .slice elems spare => uptoBulkAll elems + uptoBulkAll spare + 1
  | .agg parts => uptoBulkAll parts + 1
  | .iface _ d => uptoBulk d + 1
  | .map entries => uptoBulkEntries entries + 1
  | .held _ => 1
def uptoBulkAll {H : Type} : List (DataW H) → Nat
  | [] => 0
  | d :: r => uptoBulk d + uptoBulkAll r
def uptoBulkEntries {H : Type} : List (Lit × DataW H) → Nat
  | [] => 0
  | x :: r => uptoBulkEntry x + uptoBulkEntries r
def uptoBulkEntry {H : Type} : Lit × DataW H → Nat
  | (.string bytes, d) => bytes.length + uptoBulk d + 1
  | (_, d) => uptoBulk d + 1
 end
def uptoSmall : (H : Type) → List (DataW H) → Bool := fun _ ds => decide (uptoBulkAll ds ≤ 1048576)
def OpenSpec.upto (s : _root_.Go.ChangeSpec) : _root_.Go.OpenSpec := { _root_.Go.OpenSpec.ofChange s with cond := some uptoSmall }

/-- 'laws.FnExactConstants', WHERE WHAT IT READS IS OF BULK AT MOST 1048576: true; the input reads as it did. -/
def fnExactConstantsUptoRow : OpenClaim := { program := "ytgeobmfiblgkgaa", sum := "8a9e76a27865cdd2a32ceb3015a5bcc8b64375e2bd712ded764a82e3665f2788", func := "loop.example/g00083/laws.FnExactConstants", spec := "fnExactConstants", apart := false, narrowed := true }
def FnExactConstantsUptoSaid : Prop := fnExactConstantsUptoRow.holds Try.pinned (OpenSpec.upto fnExactConstantsSpec)

/-- 'laws.FnExactMostFetched', WHERE WHAT IT READS IS OF BULK AT MOST 1048576: true; the input reads as it did. -/
def fnExactMostFetchedUptoRow : OpenClaim := { program := "ytgeobmfiblgkgaa", sum := "8a9e76a27865cdd2a32ceb3015a5bcc8b64375e2bd712ded764a82e3665f2788", func := "loop.example/g00083/laws.FnExactMostFetched", spec := "fnExactMostFetched", apart := false, narrowed := true }
def FnExactMostFetchedUptoSaid : Prop := fnExactMostFetchedUptoRow.holds Try.pinned (OpenSpec.upto fnExactMostFetchedSpec)

/-- 'laws.FnExactKeyOf', WHERE WHAT IT READS IS OF BULK AT MOST 1048576: true; the input reads as it did. -/
def fnExactKeyOfUptoRow : OpenClaim := { program := "ytgeobmfiblgkgaa", sum := "8a9e76a27865cdd2a32ceb3015a5bcc8b64375e2bd712ded764a82e3665f2788", func := "loop.example/g00083/laws.FnExactKeyOf", spec := "fnExactKeyOf", apart := false, narrowed := true }
def FnExactKeyOfUptoSaid : Prop := fnExactKeyOfUptoRow.holds Try.pinned (OpenSpec.upto fnExactKeyOfSpec)

/-- 'laws.FnExactDigestOf', WHERE WHAT IT READS IS OF BULK AT MOST 1048576: true; the input reads as it did. -/
def fnExactDigestOfUptoRow : OpenClaim := { program := "ytgeobmfiblgkgaa", sum := "8a9e76a27865cdd2a32ceb3015a5bcc8b64375e2bd712ded764a82e3665f2788", func := "loop.example/g00083/laws.FnExactDigestOf", spec := "fnExactDigestOf", apart := false, narrowed := true }
def FnExactDigestOfUptoSaid : Prop := fnExactDigestOfUptoRow.holds Try.pinned (OpenSpec.upto fnExactDigestOfSpec)

/-- 'laws.FnExactNeedForRecord', WHERE WHAT IT READS IS OF BULK AT MOST 1048576: true; the input reads as it did. -/
def fnExactNeedForRecordUptoRow : OpenClaim := { program := "ytgeobmfiblgkgaa", sum := "8a9e76a27865cdd2a32ceb3015a5bcc8b64375e2bd712ded764a82e3665f2788", func := "loop.example/g00083/laws.FnExactNeedForRecord", spec := "fnExactNeedForRecord", apart := false, narrowed := true }
def FnExactNeedForRecordUptoSaid : Prop := fnExactNeedForRecordUptoRow.holds Try.pinned (OpenSpec.upto fnExactNeedForRecordSpec)

/-- 'laws.FnExactGoodRuns', WHERE WHAT IT READS IS OF BULK AT MOST 1048576: true; the input reads as it did. -/
def fnExactGoodRunsUptoRow : OpenClaim := { program := "ytgeobmfiblgkgaa", sum := "8a9e76a27865cdd2a32ceb3015a5bcc8b64375e2bd712ded764a82e3665f2788", func := "loop.example/g00083/laws.FnExactGoodRuns", spec := "fnExactGoodRuns", apart := false, narrowed := true }
def FnExactGoodRunsUptoSaid : Prop := fnExactGoodRunsUptoRow.holds Try.pinned (OpenSpec.upto fnExactGoodRunsSpec)

/-- 'laws.FnExactCompletedBy', WHERE WHAT IT READS IS OF BULK AT MOST 1048576: true; the input reads as it did. -/
def fnExactCompletedByUptoRow : OpenClaim := { program := "ytgeobmfiblgkgaa", sum := "8a9e76a27865cdd2a32ceb3015a5bcc8b64375e2bd712ded764a82e3665f2788", func := "loop.example/g00083/laws.FnExactCompletedBy", spec := "fnExactCompletedBy", apart := false, narrowed := true }
def FnExactCompletedByUptoSaid : Prop := fnExactCompletedByUptoRow.holds Try.pinned (OpenSpec.upto fnExactCompletedBySpec)

/-- 'laws.FnExactAllStrata', WHERE WHAT IT READS IS OF BULK AT MOST 1048576: true; the input reads as it did. -/
def fnExactAllStrataUptoRow : OpenClaim := { program := "ytgeobmfiblgkgaa", sum := "8a9e76a27865cdd2a32ceb3015a5bcc8b64375e2bd712ded764a82e3665f2788", func := "loop.example/g00083/laws.FnExactAllStrata", spec := "fnExactAllStrata", apart := false, narrowed := true }
def FnExactAllStrataUptoSaid : Prop := fnExactAllStrataUptoRow.holds Try.pinned (OpenSpec.upto fnExactAllStrataSpec)

/-- 'laws.FnExactCoverOf', WHERE WHAT IT READS IS OF BULK AT MOST 1048576: true; the input reads as it did. -/
def fnExactCoverOfUptoRow : OpenClaim := { program := "ytgeobmfiblgkgaa", sum := "8a9e76a27865cdd2a32ceb3015a5bcc8b64375e2bd712ded764a82e3665f2788", func := "loop.example/g00083/laws.FnExactCoverOf", spec := "fnExactCoverOf", apart := false, narrowed := true }
def FnExactCoverOfUptoSaid : Prop := fnExactCoverOfUptoRow.holds Try.pinned (OpenSpec.upto fnExactCoverOfSpec)

/-- 'laws.FnExactLostBy', WHERE WHAT IT READS IS OF BULK AT MOST 1048576: true; the input reads as it did. -/
def fnExactLostByUptoRow : OpenClaim := { program := "ytgeobmfiblgkgaa", sum := "8a9e76a27865cdd2a32ceb3015a5bcc8b64375e2bd712ded764a82e3665f2788", func := "loop.example/g00083/laws.FnExactLostBy", spec := "fnExactLostBy", apart := false, narrowed := true }
def FnExactLostByUptoSaid : Prop := fnExactLostByUptoRow.holds Try.pinned (OpenSpec.upto fnExactLostBySpec)

/-- 'laws.FnCovers', WHERE WHAT IT READS IS OF BULK AT MOST 1048576: true; the input reads as it did. -/
def fnCoversUptoRow : OpenClaim := { program := "ytgeobmfiblgkgaa", sum := "8a9e76a27865cdd2a32ceb3015a5bcc8b64375e2bd712ded764a82e3665f2788", func := "loop.example/g00083/laws.FnCovers", spec := "fnCovers", apart := false, narrowed := true }
def FnCoversUptoSaid : Prop := fnCoversUptoRow.holds Try.pinned (OpenSpec.upto fnCoversSpec)

/-- 'laws.FnExactNewCache', WHERE WHAT IT READS IS OF BULK AT MOST 1048576: true; the input reads as it did. -/
def fnExactNewCacheUptoRow : OpenClaim := { program := "ytgeobmfiblgkgaa", sum := "8a9e76a27865cdd2a32ceb3015a5bcc8b64375e2bd712ded764a82e3665f2788", func := "loop.example/g00083/laws.FnExactNewCache", spec := "fnExactNewCache", apart := false, narrowed := true }
def FnExactNewCacheUptoSaid : Prop := fnExactNewCacheUptoRow.holds Try.pinned (OpenSpec.upto fnExactNewCacheSpec)

end Rows
end Go.Proofs.Ytgeobmfiblgkgaa
