/-
The pure statement of FnExactNewCache: the printed functions of the program and of the reference answer alike for every argument within the bounds that the statement tells.
-/
import Derived.Test.YtgeobmfiblgkgaaWfFnExactNewCache
namespace Go.Proofs.Ytgeobmfiblgkgaa.Pure
open Go Go.RowKit Go.Proofs.Ytgeobmfiblgkgaa.PFnExactNewCache Go.Proofs.YtgeobmfiblgkgaaW.PrintWords Go.Proofs.YtgeobmfiblgkgaaW.PrintLast Go.Proofs.YtgeobmfiblgkgaaW.PrintMore Go.Proofs.Ytgeobmfiblgkgaa.Lib
set_option linter.unusedVariables false
set_option linter.unusedSimpArgs false
namespace OfFnExactNewCache
theorem within_eq (a b c : Int) : impl_within.f a b c = some (decide (b ≤ a ∧ a ≤ c)) := by
  simp only [impl_within.f]
  by_cases h : b ≤ a <;> simp [h]

theorem l1In_eq (a b c : Int) : spec_l1In.f a b c = some (decide (b ≤ a ∧ a ≤ c)) := by
  simp only [spec_l1In.f]
  by_cases h : b ≤ a <;> simp [h]

def newC (a : Int) : Int × Int × List S87 × Bool := if 1 ≤ a ∧ a ≤ 8 then (a, 0, [], true) else (0, 0, [], false)
theorem specNewC_eq (a : Int) : spec_NewCache.f a = some (newC a) := by
  simp only [spec_NewCache.f, l1In_eq, Option.bind_some, decide_eq_true_eq]
  by_cases c : 1 ≤ a ∧ a ≤ 8
  · rw [if_pos c, newC, if_pos c]
  · rw [if_neg c, newC, if_neg c]
theorem implNewC_eq (a : Int) : impl_NewCache.f a = some (newC a) := by
  simp only [impl_NewCache.f, within_eq, Option.bind_some, decide_eq_true_eq]
  by_cases c : 1 ≤ a ∧ a ≤ 8
  · rw [if_pos c, newC, if_pos c]
  · rw [if_neg c, newC, if_neg c]
theorem newC_nil (a : Int) : ∃ m c o, newC a = (m, c, [], o) := by
  by_cases c : 1 ≤ a ∧ a ≤ 8
  · exact ⟨_, _, _, by rw [newC, if_pos c]⟩
  · exact ⟨_, _, _, by rw [newC, if_neg c]⟩
theorem eqCache_nil (m c : Int) : Ev (fun k => laws_eqCache.f k m c [] m c []) true := by
  simp only [laws_eqCache.f, laws_eqCacheLineS.f]
  exact Ev_t trivial (Ev_t trivial (Ev.bind (Ev_t trivial (Ev_succ (by simp only [laws_eqCacheLineS.l0]; exact Ev_f (by simp) (Ev.now _)) : Ev (fun k => laws_eqCacheLineS.l0 k [] [] 0) true)) (Ev_t rfl (Ev.now _))))
theorem heldCache_nil (m c : Int) : Ev (fun k => laws_heldCache.f k m c [] 1) 1 := by
  simp only [laws_heldCache.f, laws_heldCacheLineS.f]
  exact Ev.bind (Ev_succ (by simp only [laws_heldCacheLineS.l0]; exact Ev_f (by simp) (Ev.now _)) : Ev (fun k => laws_heldCacheLineS.l0 k [] 1 0) 1) (Ev_f (by omega) (Ev.now _))
theorem pureNewCache (a : Int) : ∃ k, laws_FnExactNewCache.f k a = some true := by
  refine Ev.rounds ?_
  simp only [laws_FnExactNewCache.f, specNewC_eq, implNewC_eq, Option.bind_some]
  obtain ⟨m, c, o, e⟩ := newC_nil a
  rw [e]
  have ee := eqCache_nil m c
  have eh := heldCache_nil m c
  have em : laws_markCache.f m c [] 1 = some (1, []) := by simp [laws_markCache.f, laws_markCacheLineS.f]
  refine Ev.bind ee (Ev_t rfl (Ev_succ ?_))
  simp only [laws_FnExactNewCache.j0, em, implNewC_eq, e, Option.bind_some]
  refine Ev_f (by simp) (Ev.bind eh (Ev_f (by omega) (Ev_t rfl (Ev.bind ee (Ev_t rfl (Ev_succ ?_))))))
  simp only [laws_FnExactNewCache.j1]
  exact Ev_f (by simp) (Ev.bind eh (Ev_f (by omega) (Ev_t rfl (Ev.now _))))
end OfFnExactNewCache
open OfFnExactNewCache
theorem FnExactNewCache : Stated := by
  intro a _
  exact pureNewCache a
end Go.Proofs.Ytgeobmfiblgkgaa.Pure
