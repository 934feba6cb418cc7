/-
The law FnExactComposeAll returns true for every input that can be read as data, and leaves its arguments as they were: the row over the printed contract and the pure statement.
-/
import Derived.Test.YtebmncdjlmnbnaaRows
import Derived.Test.YtebmncdjlmnbnaaWfFnExactComposeAll
import Derived.Test.YtebmncdjlmnbnaaPureFnExactComposeAll
import Derived.Test.YtebmncdjlmnbnaaRead
import Derived.WalkKit
import Derived.ProofKit
import Derived.OpenShut
import Derived.ShutString
import Derived.ChangeOld
import Derived.Below
import Derived.SizedLaws
import Derived.Deep.Fields
import Derived.Lib.SmallJoins
namespace Go.Proofs.Ytebmncdjlmnbnaa.fnExactComposeAll
open Go.ChangeShapes Go.WideShapes Go.ChangeAt Go.RowKit Go.Deep Go.Joins
open Go.ChangeMaps (open_string shut_string)
open Go.Proofs.YtebmncdjlmnbnaaW.PrintWords Go.Proofs.Ytebmncdjlmnbnaa.Read Go.Proofs.Ytebmncdjlmnbnaa.PFnExactComposeAll
set_option linter.unusedVariables false
theorem own : ownKnob Try.prog.godebug = none := by kernel_rfl
theorem laidOut : laidOutB Try.prog = true := by kernel_rfl
theorem opens73 (W : World) : Opens Try.prog W 73 k73 wf73 :=
  opens_struct3 (fun x => ⟨x.1, x.2.1, x.2.2⟩) Try.underlying73 (by kernel_rfl) (by kernel_rfl) (by kernel_rfl) (by kernel_rfl) (opens_int Try.underlying3 (by kernel_rfl)) (opens_int Try.underlying3 (by kernel_rfl)) (opens_string Try.underlying9 (by kernel_rfl)) (fun _ => rfl)
theorem opens98 (W : World) : Opens Try.prog W 98 k98 wf98 :=
  opens_struct1 (fun x => ⟨x⟩) Try.underlying98 (by kernel_rfl) (by kernel_rfl) (opens_slice Try.underlying22 (by kernel_rfl) (opens73 W)) (fun _ => rfl)
set_option maxRecDepth 100000 in
theorem lifted (os : Os) (started : os.Started) (H : Type) (enc : TypeId × Value → H) :
    ReturnsInHanded {} Try.checked os 13 .any (Rows.fnExactComposeAllSpec.pre6 enc Try.prog Try.f13 Rows.fnExactComposeAllRow.domain false) (Rows.fnExactComposeAllSpec.post enc Try.prog Try.f13 false true false false) := by
  refine returnsInHanded_of_change_sized (C := Try.checked) own started (by kernel_rfl) Try.func13
    (ChangeSpec.witness6 (enc := enc) (C := Try.checked) false ⟨#[], #[.slice none 0 0], []⟩ 8 (by kernel_rfl) (by kernel_rfl) (by kernel_rfl) (by kernel_rfl)) ?_
  intro W base args ds gs before hval0 hW hcnd hsz0 _
  have hval : ∀ (j : Nat) t v, Try.f13.params[j]? = some t → args[j]? = some v → Value.okWide Try.prog W .any base t v := hval0
  have hW' := hW
  obtain ⟨p, q, hA0, hV, rfl, hfz, hnd⟩ := hW
  have hA : DataW.TrodAll enc Try.prog W 0 (fun _ => true) true Try.f13.params.toList args.toList ds p := hA0
  rw [Try.params13] at hA hval
  obtain ⟨v0, vs0, d0, ds0, p0, q0, hargs, rfl, rfl, h0, r0⟩ := trodAll_cons hA
  obtain ⟨rfl, rfl, rfl⟩ := trodAll_nil r0
  obtain rfl : args = #[v0] := by cases args; simp_all
  obtain ⟨rfl, rfl⟩ := trodVars_none hV
  obtain ⟨A0, len0, c0, rfl⟩ := okWide_slice Try.underlying52 (hval 0 52 v0 rfl rfl)
  have k0 := h0
  have lt0 : ∀ x ∈ p0, x.block < W.heap.size := by obtain ⟨m, hm⟩ := k0; exact DataW.trod_lt m _ _ _ hm
  obtain ⟨fuel0, hf0⟩ := h0
  obtain ⟨l0, ⟨A_, c_, hcs0, hc0, hr0⟩, w0⟩ := Opens.op (P := Try.prog) (W := W) (opens_slice Try.underlying52 (by kernel_rfl) (opens98 W)) enc fuel0 _ _ hf0
  simp [Value.cells] at hcs0
  obtain ⟨rfl, rfl, rfl⟩ := hcs0
  clear hA0 hval0 hsz0
  obtain ⟨k, hk⟩ := Pure.FnExactComposeAll l0 w0
  refine (laws_FnExactComposeAll.calls k _ _ l0 true W hr0 hc0 hk).mono fun e W' hh => ?_
  obtain ⟨he, bel0⟩ := hh
  have bel : Below W.heap.size W W' := bel0
  subst he
  exact ⟨_, rfl, _, _, _, [], _, [], hW', trodAll_mk1 (shut_bool Try.underlying4 _), (trodAll_cons_mk (Below.trod laidOut (by kernel_rfl) (of_decide_eq_true (by kernel_rfl)) k0 bel lt0) trodAll_mk0), rfl, bel.frame _, fun h => by cases h⟩
theorem over : Rows.fnExactComposeAllRow.holds Try.pinned (OpenSpec.ofChange Rows.fnExactComposeAllSpec) :=
  OpenClaim.holds_of_wide 13 Try.f13 rfl rfl rfl rfl rfl rfl rfl ⟨rfl, rfl, rfl, rfl, rfl⟩ rfl rfl rfl rfl rfl (by kernel_rfl) Try.func13 (by kernel_rfl)
    (of_decide_eq_true (by kernel_rfl)) (by unfold Func.isWrapper; first | (rw [if_pos (by decide +kernel)]; kernel_rfl) | (rw [if_neg (by decide +kernel)]; exact ⟨rfl, rfl⟩))
    (fun os started H enc _ => lifted os started H enc)
theorem proved : Rows.FnExactComposeAllSaid := over
#print axioms proved
end Go.Proofs.Ytebmncdjlmnbnaa.fnExactComposeAll
namespace Go.Proofs.Ytebmncdjlmnbnaa
/-- The row, under a short name, for the claim. -/
theorem fnExactComposeAll_holds : Rows.FnExactComposeAllSaid := fnExactComposeAll.proved
end Go.Proofs.Ytebmncdjlmnbnaa
