/-
The pure statement of FnExactGoodRuns: the printed functions of the program and of the reference answer alike for every argument within the bounds that the statement tells.
-/
import Derived.Test.YtgeobmfiblgkgaaWfFnExactGoodRuns
namespace Go.Proofs.Ytgeobmfiblgkgaa.Pure
open Go Go.RowKit Go.Proofs.Ytgeobmfiblgkgaa.PFnExactGoodRuns Go.Proofs.YtgeobmfiblgkgaaW.PrintWords Go.Proofs.YtgeobmfiblgkgaaW.PrintLast Go.Proofs.YtgeobmfiblgkgaaW.PrintMore Go.Proofs.Ytgeobmfiblgkgaa.Lib
set_option linter.unusedVariables false
set_option linter.unusedSimpArgs false
namespace OfFnExactGoodRuns
theorem rd_T72_nat (xs : List S72) (i : Nat) : rd_T72 xs (i : Int) = xs.getD i z72 := by simp [rd_T72]
theorem toRunS_ev (l : List S72) (hl : l.length ≤ 1048576) : Ev (fun k => laws_toRunS.f k l) (l.map fun x => (⟨x.f0, x.f1⟩ : S70)) := by
  have h := fill_ev (g := fun k x i => laws_toRunS.l0 k l x i) l z72 (fun x => (⟨x.f0, x.f1⟩ : S70))
    (fun x i hx hi hr => Ev_succ (by
      simp only [laws_toRunS.l0, laws_toRun.f, Option.bind_some]
      refine Ev_t (by omega) (Ev_t (by omega) (Ev_t (by omega) ?_))
      rw [w64_succ hi (by omega)]
      simpa [rd_T72_nat] using hr))
    (fun x hx => Ev_succ (by simp only [laws_toRunS.l0]; exact Ev_f (by omega) (Ev.now _)))
    (List.replicate l.length z70) (by simp)
  refine Ev.congr (fun k => ?_) h
  simp only [laws_toRunS.f]
  rw [if_pos (by omega), if_pos (by simp; omega)]
  simp

theorem eqRunS_ev (l : List S70) (hl : l.length ≤ 4611686018427387904) : Ev (fun k => laws_eqRunS.f k l l) true := by
  have h := all_ev (g := fun k i => laws_eqRunS.l0 k l l i) (r := true) l.length
    (fun i hi hr => Ev_succ (by
      simp only [laws_eqRunS.l0, laws_eqRun.f, if_true, Option.bind_some]
      refine Ev_t (by omega) (Ev_t (by omega) (Ev_t (by omega) ?_))
      rw [w64_succ hi (by omega)]; exact hr))
    (Ev_succ (by simp only [laws_eqRunS.l0]; exact Ev_f (by omega) (Ev.now _)))
  refine Ev.congr (fun k => ?_) h
  simp only [laws_eqRunS.f]; rw [if_pos trivial]

theorem within_eq (a b c : Int) : impl_within.f a b c = some (decide (b ≤ a ∧ a ≤ c)) := by
  simp only [impl_within.f]
  by_cases h : b ≤ a <;> simp [h]

theorem l1In_eq (a b c : Int) : spec_l1In.f a b c = some (decide (b ≤ a ∧ a ≤ c)) := by
  simp only [spec_l1In.f]
  by_cases h : b ≤ a <;> simp [h]

theorem same_GoodRuns_loop (l : List S70) (hl : l.length ≤ 1048576) (a1 a2 : Int) (ha : a1 ≤ 120) : ∀ (m i : Nat) (x : Int), i + m = l.length → 0 ≤ x → x ≤ a1 →
    Same (fun k => spec_GoodRuns.l0 k l a1 a2 x l (l.length : Int) (i : Int)) (fun k => impl_GoodRuns.l0 k l a1 a2 x l (l.length : Int) (i : Int)) := by
  intro m
  induction m with
  | zero =>
    intro i x hi h0 h1
    refine Same.succL (Same.succR ?_)
    simp only [spec_GoodRuns.l0, impl_GoodRuns.l0]
    exact Same.of (Ev_f (by omega) (Ev.now _)) (Ev_f (by omega) (Ev.now _))
  | succ m ih =>
    intro i x hi h0 h1
    refine Same.succL (Same.succR ?_)
    simp only [spec_GoodRuns.l0, impl_GoodRuns.l0, l1In_eq, within_eq, Option.bind_some, decide_eq_true_eq]
    rw [w64_succ (show i < l.length by omega) (by omega)]
    generalize rd_T70 l (i : Int) = p
    generalize hq : rd_T70 l (wrap64 ((i : Int) - 1)) = q
    have e1 : wrap64 ((i : Int) - 1) = (i : Int) - 1 := w64 (by omega) (by omega)
    have e2 : wrap64 (a1 - x) = a1 - x := w64 (by omega) (by omega)
    simp only [e1, e2]
    have hj : ∀ b : Bool, (b = true ∨ ¬ (1 ≤ p.f1 ∧ p.f1 ≤ a1 - x)) → (1 ≤ p.f1 ∧ p.f1 ≤ 120 ∨ b = true) → Ev (fun k => impl_GoodRuns.j2 k l a1 a2 x l (l.length : Int) (i : Int) b p.f0 p.f1) false := by
      intro b hb hc
      refine Ev_succ ?_
      simp only [impl_GoodRuns.j2]
      refine Ev_ite (fun _ => Ev.now _) (fun h => ?_)
      have h3 : ¬ (1 ≤ p.f1 ∧ p.f1 ≤ a1 - x) := hb.resolve_left h
      have h4 := hc.resolve_right h
      rw [w64 (n := x + p.f1) (by omega) (by omega)]
      exact Ev_t (by omega) (Ev.now _)
    have hg : ∀ b : Bool, b = false → (1 ≤ p.f1 ∧ p.f1 ≤ a1 - x) → Same (fun k => spec_GoodRuns.l0 k l a1 a2 (wrap64 (x + p.f1)) l (l.length : Int) ((i + 1 : Nat) : Int)) (fun k => impl_GoodRuns.j2 k l a1 a2 x l (l.length : Int) (i : Int) b p.f0 p.f1) := by
      intro b hb hc
      refine Same.succR ?_
      subst hb
      simp only [impl_GoodRuns.j2]
      rw [w64_succ (show i < l.length by omega) (by omega), w64 (n := x + p.f1) (by omega) (by omega)]
      obtain ⟨r, h5, h6⟩ := ih (i + 1) (x + p.f1) (by omega) (by omega) (by omega)
      exact ⟨r, h5, Ev_f (by decide) (Ev_f (by omega) h6)⟩
    refine Same.iteL (fun _ => Same.iteR (fun _ => ?_) (fun h => absurd (show (i : Int) < l.length by omega) h)) (fun h => absurd (show (i : Int) < l.length by omega) h)
    refine Same.iteL (fun _ => Same.iteR (fun _ => ?_) (fun h => absurd (show (0 : Int) ≤ i by omega) h)) (fun h => absurd (show (0 : Int) ≤ i by omega) h)
    refine Same.iteL (fun _ => Same.iteR (fun _ => ?_) (fun h => absurd (show (i : Int) < l.length by omega) h)) (fun h => absurd (show (i : Int) < l.length by omega) h)
    by_cases c1 : 0 ≤ p.f0 ∧ p.f0 ≤ a2
    · simp only [if_pos c1]
      by_cases c2 : 1 ≤ p.f1 ∧ p.f1 ≤ a1 - x
      · simp only [if_pos c2, if_pos (show 1 ≤ p.f1 ∧ p.f1 ≤ 120 by omega)]
        by_cases c3 : (i : Int) > 0
        · simp only [if_pos c3, if_pos (show 0 ≤ (i : Int) - 1 by omega), if_pos (show (i : Int) - 1 < (l.length : Int) by omega)]
          by_cases c4 : q.f0 = p.f0
          · simp only [if_pos c4]
            exact Same.of (Ev.now _) (hj _ (Or.inl (by simp [c4])) (Or.inr (by simp [c4])))
          · simp only [if_neg c4]
            exact hg _ (by simp [c4]) c2
        · simp only [if_neg c3]
          exact hg _ rfl c2
      · simp only [if_neg c2]
        refine ⟨false, Ev.now _, ?_⟩
        by_cases c5 : 1 ≤ p.f1 ∧ p.f1 ≤ 120
        · simp only [if_pos c5]
          by_cases c3 : (i : Int) > 0
          · simp only [if_pos c3, if_pos (show 0 ≤ (i : Int) - 1 by omega), if_pos (show (i : Int) - 1 < (l.length : Int) by omega)]
            exact hj _ (Or.inr c2) (Or.inl c5)
          · simp only [if_neg c3]
            exact hj _ (Or.inr c2) (Or.inl c5)
        · simp only [if_neg c5]
          exact hj _ (Or.inl rfl) (Or.inr rfl)
    · simp only [if_neg c1]
      exact Same.of (Ev.now _) (hj _ (Or.inl rfl) (Or.inr rfl))
theorem same_GoodRuns (l : List S70) (hl : l.length ≤ 1048576) (a1 a2 : Int) : Same (fun k => spec_GoodRuns.f k l a1 a2) (fun k => impl_GoodRuns.f k l a1 a2) := by
  simp only [spec_GoodRuns.f, impl_GoodRuns.f, l1In_eq, within_eq, Option.bind_some, decide_eq_true_eq]
  have hf : ∀ b : Bool, b = true → Same (fun k => spec_GoodRuns.j0 k l a1 a2 b) (fun k => impl_GoodRuns.j0 k l a1 a2 b) := by
    intro b hb
    subst hb
    refine Same.succL (Same.succR ?_)
    simp only [spec_GoodRuns.j0, impl_GoodRuns.j0, if_true]
    exact Same.now _
  by_cases c1 : 0 ≤ a1 ∧ a1 ≤ 120
  · simp only [if_pos c1]
    by_cases c2 : 0 ≤ a2 ∧ a2 ≤ 60
    · simp only [c2, and_self, decide_true, Bool.not_true]
      refine Same.succL (Same.succR ?_)
      simp only [spec_GoodRuns.j0, impl_GoodRuns.j0, Bool.false_eq_true, if_false]
      exact same_GoodRuns_loop l hl a1 a2 c1.2 l.length 0 0 (by omega) (by omega) c1.1
    · exact hf _ (by simp only [c2, decide_false, Bool.not_false])
  · simp only [if_neg c1]
    exact hf _ rfl
end OfFnExactGoodRuns
open OfFnExactGoodRuns
theorem FnExactGoodRuns : Stated := by
  intro l a1 a2 w0 _ _
  refine Ev.rounds ?_
  simp only [laws_FnExactGoodRuns.f, laws_szRunS.f]
  have hl0 : (l.length : Int) ≤ 9223372036854775807 := by have := w0.1; simp only [maxLen] at this; omega
  rw [w64 (n := 1048576 - (l.length : Int)) (by omega) (by omega)]
  by_cases c : 1048576 - (l.length : Int) < 0
  · simp only [if_pos c]
    exact Ev_bind0 rfl (Ev_t (by decide) (Ev.now _))
  · simp only [if_neg c]
    refine Ev_bind0 rfl (Ev_f c ?_)
    have hl : l.length ≤ 1048576 := by omega
    obtain ⟨r, p, q⟩ := same_GoodRuns (l.map fun x => (⟨x.f0, x.f1⟩ : S70)) (by simpa using hl) a1 a2
    refine Ev.bind (toRunS_ev l hl) (Ev.bind p (Ev.bind (toRunS_ev l hl) (Ev.bind q (Ev_f (by simp) (Ev.bind (toRunS_ev l hl) (Ev.bind (eqRunS_ev _ (by simp; omega)) (Ev.now _)))))))
end Go.Proofs.Ytgeobmfiblgkgaa.Pure
