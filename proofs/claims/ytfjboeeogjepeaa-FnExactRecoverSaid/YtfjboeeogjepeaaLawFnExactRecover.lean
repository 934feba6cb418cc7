/-
The law FnExactRecover returns true for every input that can be read as data, and leaves its arguments as they were: the row over the printed contract and the pure statement.
-/
import Derived.Test.YtfjboeeogjepeaaRows
import Derived.Test.YtfjboeeogjepeaaWfFnExactRecover
import Derived.Test.YtfjboeeogjepeaaPureFnExactRecover
import Derived.Test.YtfjboeeogjepeaaRead
import Derived.WalkKit
import Derived.ProofKit
import Derived.OpenShut
import Derived.ShutString
import Derived.ChangeOld
import Derived.Below
import Derived.SizedLaws
import Derived.Deep.Fields
import Derived.Lib.SmallJoins
namespace Go.Proofs.Ytfjboeeogjepeaa.fnExactRecover
open Go.ChangeShapes Go.WideShapes Go.ChangeAt Go.RowKit Go.Deep Go.Joins
open Go.ChangeMaps (open_string shut_string)
open Go.Proofs.YtfjboeeogjepeaaW.PrintWords Go.Proofs.Ytfjboeeogjepeaa.Read Go.Proofs.Ytfjboeeogjepeaa.PFnExactRecover
set_option linter.unusedVariables false
theorem own : ownKnob Try.prog.godebug = none := by kernel_rfl
theorem laidOut : laidOutB Try.prog = true := by kernel_rfl
set_option maxRecDepth 100000 in
theorem lifted (os : Os) (started : os.Started) (H : Type) (enc : TypeId × Value → H) :
    ReturnsInHanded {} Try.checked os 8 .any (Rows.fnExactRecoverSpec.pre6 enc Try.prog Try.f8 Rows.fnExactRecoverRow.domain false) (Rows.fnExactRecoverSpec.post enc Try.prog Try.f8 false true false false) := by
  refine returnsInHanded_of_change_sized (C := Try.checked) own started (by kernel_rfl) Try.func8
    (ChangeSpec.witness6 (enc := enc) (C := Try.checked) false ⟨#[], #[.agg #[.slice none 0 0, .int .i64 0, .bool false, .int .i64 0]], []⟩ 8 (by kernel_rfl) (by kernel_rfl) (by kernel_rfl) (by kernel_rfl)) ?_
  intro W base args ds gs before hval0 hW hcnd hsz0 _
  have hval : ∀ (j : Nat) t v, Try.f8.params[j]? = some t → args[j]? = some v → Value.okWide Try.prog W .any base t v := hval0
  have hW' := hW
  obtain ⟨p, q, hA0, hV, rfl, hfz, hnd⟩ := hW
  have hA : DataW.TrodAll enc Try.prog W 0 (fun _ => true) true Try.f8.params.toList args.toList ds p := hA0
  rw [Try.params8] at hA hval
  obtain ⟨v0, vs0, d0, ds0, p0, q0, hargs, rfl, rfl, h0, r0⟩ := trodAll_cons hA
  obtain ⟨rfl, rfl, rfl⟩ := trodAll_nil r0
  obtain rfl : args = #[v0] := by cases args; simp_all
  obtain ⟨rfl, rfl⟩ := trodVars_none hV
  obtain ⟨cs0, rfl, hz0⟩ := okWide_struct Try.underlying36 (hval 0 36 v0 rfl rfl)
  have k0 := h0
  have lt0 : ∀ x ∈ p0, x.block < W.heap.size := by obtain ⟨m, hm⟩ := k0; exact DataW.trod_lt m _ _ _ hm
  obtain ⟨fuel0, hf0⟩ := h0
  obtain ⟨x0, K0, w0⟩ := Opens.op (P := Try.prog) (W := W) (t := 36) (opens_struct4 (fun x => x) Try.underlying36 (by kernel_rfl) (by kernel_rfl) (by kernel_rfl) (by kernel_rfl) (by kernel_rfl) (opens_slice Try.underlying34 (by kernel_rfl) (opens_slice Try.underlying24 (by kernel_rfl) (opens_int Try.underlying5 (by kernel_rfl)))) (opens_int Try.underlying3 (by kernel_rfl)) (opens_bool Try.underlying4 (by kernel_rfl)) (opens_int Try.underlying3 (by kernel_rfl)) (f := fun x => x) (fun _ => rfl)) enc fuel0 _ _ hf0
  obtain ⟨l0_0, a0_1, a0_2, a0_3⟩ := x0
  obtain ⟨w0_0, w0_1, w0_2, w0_3⟩ := w0
  obtain ⟨_, _, hcs0, ⟨A0_0, c0_0, rfl, hc0_0, hr0_0⟩, ⟨_, _, rfl, rfl, ⟨_, _, rfl, rfl, rfl⟩⟩⟩ := K0
  obtain ⟨cs0⟩ := cs0
  simp only [Value.cells, List.cons_append, List.nil_append] at hcs0
  subst hcs0
  clear hA0 hval0 hsz0
  obtain ⟨k, hk⟩ := Pure.FnExactRecover l0_0 a0_1 a0_2 a0_3 w0_0 w0_1 w0_2 w0_3
  refine (laws_FnExactRecover.calls k _ _ l0_0 a0_1 a0_2 a0_3 true W hr0_0 hc0_0 hk).mono fun e W' hh => ?_
  obtain ⟨he, bel0⟩ := hh
  have bel : Below W.heap.size W W' := bel0
  subst he
  exact ⟨_, rfl, _, _, _, [], _, [], hW', trodAll_mk1 (shut_bool Try.underlying4 _), (trodAll_cons_mk (Below.trod laidOut (by kernel_rfl) (of_decide_eq_true (by kernel_rfl)) k0 bel lt0) trodAll_mk0), rfl, bel.frame _, fun h => by cases h⟩
theorem over : Rows.fnExactRecoverRow.holds Try.pinned (OpenSpec.ofChange Rows.fnExactRecoverSpec) :=
  OpenClaim.holds_of_wide 8 Try.f8 rfl rfl rfl rfl rfl rfl rfl ⟨rfl, rfl, rfl, rfl, rfl⟩ rfl rfl rfl rfl rfl (by kernel_rfl) Try.func8 (by kernel_rfl)
    (of_decide_eq_true (by kernel_rfl)) (by unfold Func.isWrapper; first | (rw [if_pos (by decide +kernel)]; kernel_rfl) | (rw [if_neg (by decide +kernel)]; exact ⟨rfl, rfl⟩))
    (fun os started H enc _ => lifted os started H enc)
theorem proved : Rows.FnExactRecoverSaid := over
#print axioms proved
end Go.Proofs.Ytfjboeeogjepeaa.fnExactRecover
namespace Go.Proofs.Ytfjboeeogjepeaa
/-- The row, under a short name, for the claim. -/
theorem fnExactRecover_holds : Rows.FnExactRecoverSaid := fnExactRecover.proved
end Go.Proofs.Ytfjboeeogjepeaa
