/-
The pure statement of FnExactReadRuns: the printed functions of the program and of the reference answer alike for every argument within the bounds that the statement tells.
-/
import Derived.Test.YtdlicabmalljpaaWfFnExactReadRuns
namespace Go.Proofs.Ytdlicabmalljpaa.Pure
open Go Go.RowKit Go.Proofs.Ytdlicabmalljpaa.PFnExactReadRuns Go.Proofs.YtdlicabmalljpaaW.PrintWords Go.Proofs.YtdlicabmalljpaaW.PrintLast Go.Proofs.YtdlicabmalljpaaW.PrintMore Go.Proofs.Ytdlicabmalljpaa.Lib
set_option linter.unusedVariables false
set_option linter.unusedSimpArgs false
namespace OfFnExactReadRuns
theorem toByteS_ev (l : List Int) (hl : l.length ≤ 1048576) : Ev (fun k => laws_toByteS.f k l) l := by
  have h := fill_ev (g := fun k x i => laws_toByteS.l0 k l x i) l 0 (fun x => x)
    (fun x i hx hi hr => Ev_succ (by
      simp only [laws_toByteS.l0]
      refine Ev_t (by omega) (Ev_t (by omega) (Ev_t (by omega) ?_))
      rw [w64_succ hi (by omega)]
      simpa [rd_nat] using hr))
    (fun x hx => Ev_succ (by simp only [laws_toByteS.l0]; exact Ev_f (by omega) (Ev.now _)))
    (List.replicate l.length 0) (by simp)
  rw [map_same] at h
  refine Ev.congr (fun k => ?_) h
  simp only [laws_toByteS.f]
  rw [if_pos (by omega), if_pos (by simp; omega)]
  simp

theorem eqRunS_ev (l : List S74) (hl : l.length ≤ 4611686018427387904) : Ev (fun k => laws_eqRunS.f k l l) true := by
  have h := all_ev (g := fun k i => laws_eqRunS.l0 k l l i) (r := true) l.length
    (fun i hi hr => Ev_succ (by
      simp only [laws_eqRunS.l0, laws_eqRun.f, if_true, Option.bind_some]
      refine Ev_t (by omega) (Ev_t (by omega) (Ev_t (by omega) ?_))
      rw [w64_succ hi (by omega)]; exact hr))
    (Ev_succ (by simp only [laws_eqRunS.l0]; exact Ev_f (by omega) (Ev.now _)))
  refine Ev.congr (fun k => ?_) h
  simp only [laws_eqRunS.f]; rw [if_pos trivial]

theorem eqByteS_ev (l : List Int) (hl : l.length ≤ 4611686018427387904) : Ev (fun k => laws_eqByteS.f k l l) true := by
  have h := all_ev (g := fun k i => laws_eqByteS.l0 k l l i) (r := true) l.length
    (fun i hi hr => Ev_succ (by
      simp only [laws_eqByteS.l0]
      refine Ev_t (by omega) (Ev_t (by omega) (Ev_t (by omega) (Ev_t trivial ?_)))
      rw [w64_succ hi (by omega)]; exact hr))
    (Ev_succ (by simp only [laws_eqByteS.l0]; exact Ev_f (by omega) (Ev.now _)))
  refine Ev.congr (fun k => ?_) h
  simp only [laws_eqByteS.f]; rw [if_pos trivial]

theorem rd_T74_nat (xs : List S74) (i : Nat) : rd_T74 xs (i : Int) = xs.getD i z74 := by simp [rd_T74]

theorem mark_markRunS (l : List S74) (hl : l.length ≤ 1048576) (n0 : Int) (h0 : 0 ≤ n0) (h1 : n0 ≤ 1000000000000) : Ev (fun k => laws_markRunS.f k l n0) (n0 + 2 * (l.length : Int), (List.range l.length).map fun i : Nat => (⟨n0 + 2 * (i : Int), n0 + 2 * (i : Int) + 1⟩ : S74)) := by
  have h := fills_ev (g := fun k x i => laws_markRunS.l0 k x (n0 + 2 * i) i) l.length (fun i : Nat => (⟨n0 + 2 * (i : Int), n0 + 2 * (i : Int) + 1⟩ : S74)) (fun x => (n0 + 2 * (l.length : Int), x))
      (fun x i hx hi r hr => Ev_succ (by
        simp only [laws_markRunS.l0, Option.bind_some]
        refine Ev_t (by omega) (Ev_t (by omega) ?_)
        have e0 : wrap64 (n0 + 2 * (i : Int) + 1) = n0 + 2 * (i : Int) + 1 := w64 (by omega) (by omega)
        have e1 : wrap64 (n0 + 2 * (i : Int) + 1 + 1) = n0 + 2 * ((i + 1 : Nat) : Int) := by rw [w64 (by omega) (by omega)]; omega
        rw [e0, e1, w64_succ hi (by omega)]
        have e2 : rd_T74 (x.set i (⟨n0 + 2 * (i : Int), (rd_T74 x (i : Int)).f1⟩ : S74)) (i : Int) = ⟨n0 + 2 * (i : Int), (rd_T74 x (i : Int)).f1⟩ := by
          rw [rd_T74_nat]; simp [List.getD, hx, hi]
        simp only [Int.toNat_natCast, e2, List.set_set]
        exact hr))
      (fun x hx => Ev_succ (by simp only [laws_markRunS.l0]; exact Ev_f (by omega) (Ev.now _)))
      l rfl
  refine Ev.congr (fun k => ?_) h
  simp only [laws_markRunS.f, Int.mul_zero, Int.add_zero]

theorem held_heldRunS (n : Nat) (hl : n ≤ 1048576) (n0 : Int) (h0 : 0 ≤ n0) (h1 : n0 ≤ 1000000000000) : Ev (fun k => laws_heldRunS.f k ((List.range n).map fun i : Nat => (⟨n0 + 2 * (i : Int), n0 + 2 * (i : Int) + 1⟩ : S74)) n0) (n0 + 2 * (n : Int)) := by
  have h := all_ev (g := fun k i => laws_heldRunS.l0 k ((List.range n).map fun i : Nat => (⟨n0 + 2 * (i : Int), n0 + 2 * (i : Int) + 1⟩ : S74)) (n0 + 2 * i) i) (r := n0 + 2 * (n : Int)) n
      (fun i hi hr => Ev_succ (by
        simp only [laws_heldRunS.l0, List.length_map, List.length_range]
        have e0 : wrap64 (n0 + 2 * (i : Int) + 1) = n0 + 2 * (i : Int) + 1 := w64 (by omega) (by omega)
        have e1 : wrap64 (n0 + 2 * (i : Int) + 1 + 1) = n0 + 2 * ((i + 1 : Nat) : Int) := by rw [w64 (by omega) (by omega)]; omega
        have e2 : rd_T74 ((List.range n).map fun i : Nat => (⟨n0 + 2 * (i : Int), n0 + 2 * (i : Int) + 1⟩ : S74)) (i : Int) = ⟨n0 + 2 * (i : Int), n0 + 2 * (i : Int) + 1⟩ := by
          rw [rd_T74_nat]; simp [List.getD, hi]
        rw [e0, e1, e2, w64_succ hi (by omega)]
        exact Ev_t (by omega) (Ev_t (by omega) (Ev_t rfl (Ev_t rfl hr)))))
      (Ev_succ (by simp only [laws_heldRunS.l0, List.length_map, List.length_range]; exact Ev_f (by omega) (Ev.now _)))
  refine Ev.congr (fun k => ?_) h
  simp only [laws_heldRunS.f, Int.mul_zero, Int.add_zero]

theorem markB (l : List Int) (hl : l.length ≤ 1048576) (n0 : Int) (h0 : 0 ≤ n0) (h1 : n0 ≤ 4000000000000000000) : Ev (fun k => laws_markByteS.f k l n0) (n0 + (l.length : Int), (List.range l.length).map fun i : Nat => (n0 + (i : Int)) % 256) := by
  have h := fills_ev (g := fun k x i => laws_markByteS.l0 k x (n0 + i) i) l.length (fun i : Nat => (n0 + (i : Int)) % 256) (fun x => (n0 + (l.length : Int), x))
      (fun x i hx hi r hr => Ev_succ (by
        have e0 : wrap64 (n0 + (i : Int) + 1) = n0 + ((i + 1 : Nat) : Int) := by rw [w64 (by omega) (by omega)]; omega
        simp only [laws_markByteS.l0, Int.toNat_natCast, e0]
        rw [w64_succ hi (by omega)]
        exact Ev_t (by omega) (Ev_t (by omega) hr)))
      (fun x hx => Ev_succ (by simp only [laws_markByteS.l0]; exact Ev_f (by omega) (Ev.now _)))
      l rfl
  refine Ev.congr (fun k => ?_) h
  simp only [laws_markByteS.f, Int.add_zero]

theorem within_eq (a b c : Int) : impl_within.f a b c = some (decide (b ≤ a ∧ a ≤ c)) := by
  simp only [impl_within.f]
  by_cases h : b ≤ a <;> simp [h]

theorem l1In_eq (a b c : Int) : spec_l1In.f a b c = some (decide (b ≤ a ∧ a ≤ c)) := by
  simp only [spec_l1In.f]
  by_cases h : b ≤ a <;> simp [h]

def rsum : List S74 → Int
  | [] => 0
  | p :: c => p.f1 + rsum c
def runsInfo (l : List S74) (a1 a2 : Int) (i : Nat) (x : Int) (r : Bool) : Prop := r = true → (∀ p ∈ l.drop i, 0 ≤ p.f0 ∧ p.f0 ≤ a2 ∧ 1 ≤ p.f1) ∧ x + rsum (l.drop i) = a1
theorem same_GoodRuns_loop (l : List S74) (hl : l.length ≤ 1048576) (a1 a2 : Int) (ha : a1 ≤ 120) : ∀ (m i : Nat) (x : Int), i + m = l.length → 0 ≤ x → x ≤ a1 →
    SameQ (runsInfo l a1 a2 i x) (fun k => spec_GoodRuns.l0 k l a1 a2 x l (l.length : Int) (i : Int)) (fun k => impl_GoodRuns.l0 k l a1 a2 x l (l.length : Int) (i : Int)) := by
  intro m
  induction m with
  | zero =>
    intro i x hi h0 h1
    refine SameQ.succL (SameQ.succR ?_)
    simp only [spec_GoodRuns.l0, impl_GoodRuns.l0]
    refine SameQ.of (Ev_f (by omega) (Ev.now _)) (Ev_f (by omega) (Ev.now _)) (fun h => ?_)
    have hx : x = a1 := by simpa using h
    rw [List.drop_of_length_le (by omega)]
    exact ⟨by simp, by simp [rsum, hx]⟩
  | succ m ih =>
    intro i x hi h0 h1
    refine SameQ.succL (SameQ.succR ?_)
    simp only [spec_GoodRuns.l0, impl_GoodRuns.l0, l1In_eq, within_eq, Option.bind_some, decide_eq_true_eq]
    rw [w64_succ (show i < l.length by omega) (by omega)]
    have hdrop := drop_cons l i z74 (by omega)
    have hrd : rd_T74 l (i : Int) = l.getD i z74 := by simp [rd_T74]
    rw [hrd]
    generalize l.getD i z74 = p at hdrop ⊢
    generalize hq : rd_T74 l (wrap64 ((i : Int) - 1)) = q
    have e1 : wrap64 ((i : Int) - 1) = (i : Int) - 1 := w64 (by omega) (by omega)
    have e2 : wrap64 (a1 - x) = a1 - x := w64 (by omega) (by omega)
    simp only [e1, e2]
    have hj : ∀ b : Bool, (b = true ∨ ¬ (1 ≤ p.f1 ∧ p.f1 ≤ a1 - x)) → (1 ≤ p.f1 ∧ p.f1 ≤ 120 ∨ b = true) → Ev (fun k => impl_GoodRuns.j2 k l a1 a2 x l (l.length : Int) (i : Int) b p.f0 p.f1) false := by
      intro b hb hc
      refine Ev_succ ?_
      simp only [impl_GoodRuns.j2]
      refine Ev_ite (fun _ => Ev.now _) (fun h => ?_)
      have h3 : ¬ (1 ≤ p.f1 ∧ p.f1 ≤ a1 - x) := hb.resolve_left h
      have h4 := hc.resolve_right h
      rw [w64 (n := x + p.f1) (by omega) (by omega)]
      exact Ev_t (by omega) (Ev.now _)
    have hg : ∀ b : Bool, b = false → (0 ≤ p.f0 ∧ p.f0 ≤ a2) → (1 ≤ p.f1 ∧ p.f1 ≤ a1 - x) → SameQ (runsInfo l a1 a2 i x) (fun k => spec_GoodRuns.l0 k l a1 a2 (wrap64 (x + p.f1)) l (l.length : Int) ((i + 1 : Nat) : Int)) (fun k => impl_GoodRuns.j2 k l a1 a2 x l (l.length : Int) (i : Int) b p.f0 p.f1) := by
      intro b hb hc0 hc
      refine SameQ.succR ?_
      subst hb
      simp only [impl_GoodRuns.j2]
      rw [w64_succ (show i < l.length by omega) (by omega), w64 (n := x + p.f1) (by omega) (by omega)]
      obtain ⟨r, h5, h6, h7⟩ := ih (i + 1) (x + p.f1) (by omega) (by omega) (by omega)
      refine ⟨r, h5, Ev_f (by decide) (Ev_f (by omega) h6), fun hr => ?_⟩
      obtain ⟨h8, h9⟩ := h7 hr
      rw [hdrop]
      refine ⟨fun y hy => ?_, by simp only [rsum]; omega⟩
      rcases List.mem_cons.1 hy with rfl | hy
      · exact ⟨hc0.1, hc0.2, hc.1⟩
      · exact h8 y hy
    refine SameQ.iteL (fun _ => SameQ.iteR (fun _ => ?_) (fun h => absurd (show (i : Int) < l.length by omega) h)) (fun h => absurd (show (i : Int) < l.length by omega) h)
    refine SameQ.iteL (fun _ => SameQ.iteR (fun _ => ?_) (fun h => absurd (show (0 : Int) ≤ i by omega) h)) (fun h => absurd (show (0 : Int) ≤ i by omega) h)
    refine SameQ.iteL (fun _ => SameQ.iteR (fun _ => ?_) (fun h => absurd (show (i : Int) < l.length by omega) h)) (fun h => absurd (show (i : Int) < l.length by omega) h)
    by_cases c1 : 0 ≤ p.f0 ∧ p.f0 ≤ a2
    · simp only [if_pos c1]
      by_cases c2 : 1 ≤ p.f1 ∧ p.f1 ≤ a1 - x
      · simp only [if_pos c2, if_pos (show 1 ≤ p.f1 ∧ p.f1 ≤ 120 by omega)]
        by_cases c3 : (i : Int) > 0
        · simp only [if_pos c3, if_pos (show 0 ≤ (i : Int) - 1 by omega), if_pos (show (i : Int) - 1 < (l.length : Int) by omega)]
          by_cases c4 : q.f0 = p.f0
          · simp only [if_pos c4]
            exact SameQ.of (Ev.now _) (hj _ (Or.inl (by simp [c4])) (Or.inr (by simp [c4]))) (fun h => by cases h)
          · simp only [if_neg c4]
            exact hg _ (by simp [c4]) c1 c2
        · simp only [if_neg c3]
          exact hg _ rfl c1 c2
      · simp only [if_neg c2]
        refine ⟨false, Ev.now _, ?_, fun h => by cases h⟩
        by_cases c5 : 1 ≤ p.f1 ∧ p.f1 ≤ 120
        · simp only [if_pos c5]
          by_cases c3 : (i : Int) > 0
          · simp only [if_pos c3, if_pos (show 0 ≤ (i : Int) - 1 by omega), if_pos (show (i : Int) - 1 < (l.length : Int) by omega)]
            exact hj _ (Or.inr c2) (Or.inl c5)
          · simp only [if_neg c3]
            exact hj _ (Or.inr c2) (Or.inl c5)
        · simp only [if_neg c5]
          exact hj _ (Or.inl rfl) (Or.inr rfl)
    · simp only [if_neg c1]
      exact SameQ.of (Ev.now _) (hj _ (Or.inl rfl) (Or.inr rfl)) (fun h => by cases h)
theorem same_GoodRuns (l : List S74) (hl : l.length ≤ 1048576) (a1 a2 : Int) : SameQ (fun r => r = true → (0 ≤ a1 ∧ a1 ≤ 120) ∧ (0 ≤ a2 ∧ a2 ≤ 60) ∧ (∀ p ∈ l, 0 ≤ p.f0 ∧ p.f0 ≤ a2 ∧ 1 ≤ p.f1) ∧ rsum l = a1) (fun k => spec_GoodRuns.f k l a1 a2) (fun k => impl_GoodRuns.f k l a1 a2) := by
  simp only [spec_GoodRuns.f, impl_GoodRuns.f, l1In_eq, within_eq, Option.bind_some, decide_eq_true_eq]
  have hf : ∀ b : Bool, b = true → SameQ (fun r => r = true → (0 ≤ a1 ∧ a1 ≤ 120) ∧ (0 ≤ a2 ∧ a2 ≤ 60) ∧ (∀ p ∈ l, 0 ≤ p.f0 ∧ p.f0 ≤ a2 ∧ 1 ≤ p.f1) ∧ rsum l = a1) (fun k => spec_GoodRuns.j0 k l a1 a2 b) (fun k => impl_GoodRuns.j0 k l a1 a2 b) := by
    intro b hb
    subst hb
    refine SameQ.succL (SameQ.succR ?_)
    simp only [spec_GoodRuns.j0, impl_GoodRuns.j0, if_true]
    exact SameQ.of (Ev.now _) (Ev.now _) (fun h => by cases h)
  by_cases c1 : 0 ≤ a1 ∧ a1 ≤ 120
  · simp only [if_pos c1]
    by_cases c2 : 0 ≤ a2 ∧ a2 ≤ 60
    · simp only [c2, and_self, decide_true, Bool.not_true]
      refine SameQ.succL (SameQ.succR ?_)
      simp only [spec_GoodRuns.j0, impl_GoodRuns.j0, Bool.false_eq_true, if_false]
      refine SameQ.imp (same_GoodRuns_loop l hl a1 a2 c1.2 l.length 0 0 (by omega) (by omega) c1.1) (fun r h hr => ?_)
      obtain ⟨h1, h2⟩ := h hr
      rw [List.drop_zero] at h1 h2
      exact ⟨c1, trivial, h1, by omega⟩
    · exact hf _ (by simp only [c2, decide_false, Bool.not_false])
  · simp only [if_neg c1]
    exact hf _ rfl

def sok : Int → List S74 → Bool
  | _, [] => true
  | x, p :: c => decide (1 ≤ p.f1 ∧ p.f1 ≤ 120 - x) && sok (x + p.f1) c
theorem sok_sum : ∀ (c : List S74) (x : Int), x ≤ 120 → sok x c = true → x + rsum c ≤ 120 ∧ 0 ≤ rsum c := by
  intro c
  induction c with
  | nil => intro x hx _; simp [rsum]; exact hx
  | cons p c ih =>
    intro x hx h
    simp only [sok, Bool.and_eq_true, decide_eq_true_eq] at h
    have := ih (x + p.f1) (by omega) h.2
    simp only [rsum]
    omega
theorem l9Sum_loop (l : List S74) (hl : l.length ≤ 1048576) : ∀ (m i : Nat) (x : Int), i + m = l.length → 0 ≤ x → x ≤ 120 →
    Ev (fun k => spec_l9Sum.l0 k x l (l.length : Int) (i : Int)) (if sok x (l.drop i) = true then x + rsum (l.drop i) else -1) := by
  intro m
  induction m with
  | zero =>
    intro i x hi h0 h1
    refine Ev_succ ?_
    simp only [spec_l9Sum.l0]
    rw [List.drop_of_length_le (by omega)]
    exact Ev_f (by omega) (Ev_eq (Ev.now _) (by simp [sok, rsum]))
  | succ m ih =>
    intro i x hi h0 h1
    have hdrop := drop_cons l i z74 (by omega)
    have hrd : rd_T74 l (i : Int) = l.getD i z74 := by simp [rd_T74]
    refine Ev_succ ?_
    simp only [spec_l9Sum.l0, hrd, l1In_eq, Option.bind_some, decide_eq_true_eq]
    rw [hdrop]
    generalize l.getD i z74 = p
    rw [w64 (n := 120 - x) (by omega) (by omega), w64_succ (show i < l.length by omega) (by omega)]
    refine Ev_t (by omega) (Ev_t (by omega) (Ev_t (by omega) (Ev_ite (fun h => ?_) (fun h => Ev_eq (Ev.now _) ?_))))
    · rw [w64 (n := x + p.f1) (by omega) (by omega)]
      refine Ev_eq (ih (i + 1) (x + p.f1) (by omega) (by omega) (by omega)) ?_
      simp [sok, rsum, h, Int.add_assoc]
    · simp [sok, h]
theorem someRuns_big (l : List S74) (hl : l.length ≤ 1048576) : ∀ (m i : Nat) (x : Int), i + m = l.length → 120 < x → x ≤ 1000 →
    Ev (fun k => impl_someRuns.l0 k l x l (l.length : Int) (i : Int)) false := by
  intro m i x hi h0 h1
  refine Ev_succ ?_
  simp only [impl_someRuns.l0, within_eq, Option.bind_some, decide_eq_true_eq]
  refine Ev_ite (fun h => Ev_t (by omega) (Ev_t (by omega) (Ev_ite (fun _ => Ev_t h0 (Ev.now _)) (fun _ => Ev.now _)))) (fun h => ?_)
  refine Ev.bind (a := false) ?_ (Ev.now _)
  simp only [impl_GoodRuns.f, within_eq, Option.bind_some, decide_eq_true_eq]
  refine Ev_f (by omega) (Ev_succ ?_)
  simp only [impl_GoodRuns.j0]
  exact Ev_t trivial (Ev.now _)
theorem someRuns_loop (l : List S74) (hl : l.length ≤ 1048576) : ∀ (m i : Nat) (x : Int), i + m = l.length → 0 ≤ x → x ≤ 120 →
    (sok x (l.drop i) = true → ∀ r, Ev (fun k => impl_GoodRuns.f k l (x + rsum (l.drop i)) 60) r → Ev (fun k => impl_someRuns.l0 k l x l (l.length : Int) (i : Int)) r) ∧
    (sok x (l.drop i) = false → Ev (fun k => impl_someRuns.l0 k l x l (l.length : Int) (i : Int)) false) := by
  intro m
  induction m with
  | zero =>
    intro i x hi h0 h1
    rw [List.drop_of_length_le (by omega)]
    refine ⟨fun _ r hr => Ev_succ ?_, fun h => by simp [sok] at h⟩
    simp only [impl_someRuns.l0]
    simp only [rsum, Int.add_zero] at hr
    exact Ev_f (by omega) (Ev.bind hr (Ev.now _))
  | succ m ih =>
    intro i x hi h0 h1
    have hdrop := drop_cons l i z74 (by omega)
    have hrd : rd_T74 l (i : Int) = l.getD i z74 := by simp [rd_T74]
    rw [hdrop]
    generalize l.getD i z74 = p at hrd ⊢
    constructor
    · intro hs r hr
      simp only [sok, Bool.and_eq_true, decide_eq_true_eq] at hs
      simp only [rsum] at hr
      refine Ev_succ ?_
      simp only [impl_someRuns.l0, hrd, within_eq, Option.bind_some, decide_eq_true_eq]
      rw [w64 (n := x + p.f1) (by omega) (by omega), w64_succ (show i < l.length by omega) (by omega)]
      exact Ev_t (by omega) (Ev_t (by omega) (Ev_t (by omega) (Ev_t (by omega) (Ev_f (by omega) ((ih (i + 1) (x + p.f1) (by omega) (by omega) (by omega)).1 hs.2 r (by rw [Int.add_assoc]; exact hr))))))
    · intro hs
      refine Ev_succ ?_
      simp only [impl_someRuns.l0, hrd, within_eq, Option.bind_some, decide_eq_true_eq]
      rw [w64_succ (show i < l.length by omega) (by omega)]
      refine Ev_t (by omega) (Ev_t (by omega) (Ev_t (by omega) (Ev_ite (fun h => Ev_f (by omega) ?_) (fun _ => Ev.now _))))
      rw [w64 (n := x + p.f1) (by omega) (by omega)]
      by_cases c : x + p.f1 ≤ 120
      · have : sok (x + p.f1) (l.drop (i + 1)) = false := by
          simp only [sok] at hs
          rw [show decide (1 ≤ p.f1 ∧ p.f1 ≤ 120 - x) = true from by simp; omega] at hs
          simpa using hs
        exact (ih (i + 1) (x + p.f1) (by omega) (by omega) c).2 this
      · exact someRuns_big l hl m (i + 1) (x + p.f1) (by omega) (by omega) (by omega)
theorem l9Sum_ev (l : List S74) (hl : l.length ≤ 1048576) : Ev (fun k => spec_l9Sum.f k l) (if sok 0 l = true then rsum l else -1) := by
  have h := l9Sum_loop l hl l.length 0 0 (by omega) (by omega) (by omega)
  simp only [spec_l9Sum.f]
  refine Ev_eq h ?_
  simp
theorem same_some (l : List S74) (hl : l.length ≤ 1048576) : ∃ r : Bool, Ev (fun k => spec_l9Good.f k l) r ∧ Ev (fun k => impl_someRuns.f k l) r ∧ (r = true → sok 0 l = true ∧ (∀ p ∈ l, 0 ≤ p.f0 ∧ p.f0 ≤ 60 ∧ 1 ≤ p.f1) ∧ 0 ≤ rsum l ∧ rsum l ≤ 120) := by
  have h := someRuns_loop l hl l.length 0 0 (by omega) (by omega) (by omega)
  rw [List.drop_zero] at h
  have hs := l9Sum_ev l hl
  cases hc : sok 0 l with
  | true =>
    rw [if_pos hc] at hs
    obtain ⟨g1, g2⟩ := sok_sum l 0 (by omega) hc
    obtain ⟨r, p, q, w⟩ := same_GoodRuns l hl (rsum l) 60
    refine ⟨r, ?_, ?_, fun hr => ?_⟩
    · simp only [spec_l9Good.f]
      exact Ev.bind hs (Ev_t (by omega) (Ev.bind p (Ev.now _)))
    · simp only [impl_someRuns.f]
      exact h.1 hc r (by rw [Int.zero_add]; exact q)
    · obtain ⟨_, _, w3, _⟩ := w hr
      exact ⟨rfl, w3, g2, by omega⟩
  | false =>
    rw [if_neg (by simp [hc])] at hs
    refine ⟨false, ?_, ?_, fun hr => by cases hr⟩
    · simp only [spec_l9Good.f]
      exact Ev.bind hs (Ev_f (by omega) (Ev.now _))
    · simp only [impl_someRuns.f]
      exact h.2 hc

theorem short_runs : ∀ (l : List S74), (∀ p ∈ l, 0 ≤ p.f0 ∧ p.f0 ≤ 60 ∧ 1 ≤ p.f1) → (l.length : Int) ≤ rsum l := by
  intro l
  induction l with
  | nil => intro _; simp [rsum]
  | cons p c ih =>
    intro h
    have h1 := h p (by simp)
    have h2 := ih (fun q hq => h q (by simp [hq]))
    simp only [rsum, List.length_cons]
    omega
def runsOf (l : List Int) (m : Nat) : List S74 := (List.finRange m).map fun x => impl_ReadRuns.p l x.1
theorem runsOf_len (l : List Int) (m : Nat) : (runsOf l m).length = m := by simp [runsOf]
theorem runsOf_take (l : List Int) (m j : Nat) (h : j < m) : (runsOf l m).take (j + 1) = (runsOf l m).take j ++ [impl_ReadRuns.p l j] := by
  rw [List.take_add_one]
  congr 1
  simp [runsOf, h]
theorem spec_loop (l : List Int) (m : Nat) (hl : l.length = 2 * m) (hb : m ≤ 524288) (t : Bool) (ht : Ev (fun k => spec_l9Good.f k (runsOf l m)) t) : ∀ (n j : Nat), j + n = m →
    Ev (fun k => spec_ReadRuns.l0 k l ((runsOf l m).take j) ((2 * j : Nat) : Int)) (if t = true then (runsOf l m, true) else ([], false)) := by
  intro n
  induction n with
  | zero =>
    intro j hj
    refine Ev_succ ?_
    simp only [spec_ReadRuns.l0]
    rw [List.take_of_length_le (by rw [runsOf_len]; omega)]
    refine Ev_f (by omega) (Ev.bind ht ?_)
    cases t with
    | true => exact Ev_t rfl (Ev.now _)
    | false => exact Ev_f (by decide) (Ev.now _)
  | succ n ih =>
    intro j hj
    have h := ih (j + 1) (by omega)
    rw [runsOf_take l m j (by omega)] at h
    refine Ev_succ ?_
    simp only [spec_ReadRuns.l0]
    rw [show wrap64 (((2 * j : Nat) : Int) + 1) = ((2 * j + 1 : Nat) : Int) from (w64 (by omega) (by omega)).trans (by omega), show wrap64 (((2 * j : Nat) : Int) + 2) = ((2 * (j + 1) : Nat) : Int) from (w64 (by omega) (by omega)).trans (by omega)]
    refine Ev_t (by omega) (Ev_t (by omega) (Ev_t (by omega) (Ev_t (by omega) (Ev_t (by rw [List.length_take, runsOf_len]; omega) h))))
end OfFnExactReadRuns
open OfFnExactReadRuns
theorem FnExactReadRuns : Stated := by
  intro l w0
  refine Ev.rounds ?_
  simp only [laws_FnExactReadRuns.f]
  refine Ev_ite (fun _ => Ev.now _) (fun c => ?_)
  have hl : l.length ≤ 1048576 := by omega
  have f1 := toByteS_ev l hl
  have same : ∃ (R : List S74) (b : Bool), R.length ≤ 1048576 ∧ Ev (fun k => spec_ReadRuns.f k l) (R, b) ∧ Ev (fun k => impl_ReadRuns.f k l) (R, b) := by
    simp only [spec_ReadRuns.f, impl_ReadRuns.f]
    by_cases he : (l.length : Int) % 2 = 0
    · obtain ⟨m, hm⟩ : ∃ m, l.length = 2 * m := ⟨l.length / 2, by omega⟩
      rw [show l.length / 2 = m from by omega]
      obtain ⟨b, p, q, w⟩ := same_some (runsOf l m) (by rw [runsOf_len]; omega)
      by_cases hs : (l.length : Int) > 240
      · have hbf : b = false := by
          cases b with
          | false => rfl
          | true =>
            obtain ⟨w1, w2, w3, w4⟩ := w rfl
            have := short_runs _ w2
            rw [runsOf_len] at this
            omega
        subst hbf
        refine ⟨[], false, by simp, Ev_f (by omega) (Ev_succ ?_), Ev_t he (Ev_t (by omega) (Ev.bind q (Ev_f (by decide) (Ev.now _))))⟩
        simp only [spec_ReadRuns.j0]
        exact Ev_t (by simpa using hs) (Ev.now _)
      · have h := spec_loop l m hm (by omega) b p m 0 (by omega)
        rw [List.take_zero] at h
        cases b with
        | true =>
          refine ⟨runsOf l m, true, by rw [runsOf_len]; omega, Ev_f (by omega) (Ev_succ ?_), Ev_t he (Ev_t (by omega) (Ev.bind q (Ev_t rfl (Ev.now _))))⟩
          simp only [spec_ReadRuns.j0]
          exact Ev_f (by simpa using hs) h
        | false =>
          refine ⟨[], false, by simp, Ev_f (by omega) (Ev_succ ?_), Ev_t he (Ev_t (by omega) (Ev.bind q (Ev_f (by decide) (Ev.now _))))⟩
          simp only [spec_ReadRuns.j0]
          exact Ev_f (by simpa using hs) h
    · refine ⟨[], false, by simp, Ev_t (by omega) (Ev_succ ?_), Ev_f he (Ev.now _)⟩
      simp only [spec_ReadRuns.j0]
      exact Ev_t trivial (Ev.now _)
  obtain ⟨R, b, hR, p, q⟩ := same
  have f2 := eqRunS_ev R (by omega)
  have f3 := eqByteS_ev l (by omega)
  have f4 := markB l hl 1 (by omega) (by omega)
  have f5 := mark_markRunS R hR 1 (by omega) (by omega)
  have f6 := held_heldRunS R.length hR 1 (by omega) (by omega)
  refine Ev.bind f1 (Ev.bind p (Ev.bind f1 (Ev.bind q (Ev.bind f2 (Ev_t rfl (Ev_succ ?_))))))
  simp only [laws_FnExactReadRuns.j0]
  refine Ev_f (by simp) (Ev.bind f1 (Ev.bind f3 (Ev_t rfl (Ev.bind f4 (Ev_f (by omega) (Ev.bind f2 (Ev_t rfl (Ev_succ ?_))))))))
  simp only [laws_FnExactReadRuns.j1]
  refine Ev_f (by simp) (Ev.bind f5 (Ev.bind f6 (Ev_f (by omega) (Ev_t rfl (Ev.bind f1 (Ev.bind q (Ev.bind f2 (Ev_t rfl (Ev_succ ?_)))))))))
  simp only [laws_FnExactReadRuns.j2]
  exact Ev_f (by simp) (Ev.bind f6 (Ev_f (by omega) (Ev_t rfl (Ev.now _))))
end Go.Proofs.Ytdlicabmalljpaa.Pure
