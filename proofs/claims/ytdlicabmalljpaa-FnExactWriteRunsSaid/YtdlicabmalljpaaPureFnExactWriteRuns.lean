/-
The pure statement of FnExactWriteRuns: the printed functions of the program and of the reference answer alike for every argument within the bounds that the statement tells.
-/
import Derived.Test.YtdlicabmalljpaaWfFnExactWriteRuns
namespace Go.Proofs.Ytdlicabmalljpaa.Pure
open Go Go.RowKit Go.Proofs.Ytdlicabmalljpaa.PFnExactWriteRuns Go.Proofs.YtdlicabmalljpaaW.PrintWords Go.Proofs.YtdlicabmalljpaaW.PrintLast Go.Proofs.YtdlicabmalljpaaW.PrintMore Go.Proofs.Ytdlicabmalljpaa.Lib
set_option linter.unusedVariables false
set_option linter.unusedSimpArgs false
namespace OfFnExactWriteRuns
theorem rd_T76_nat (xs : List S76) (i : Nat) : rd_T76 xs (i : Int) = xs.getD i z76 := by simp [rd_T76]
theorem toRunS_ev (l : List S76) (hl : l.length ≤ 1048576) : Ev (fun k => laws_toRunS.f k l) (l.map fun x => (⟨x.f0, x.f1⟩ : S74)) := by
  have h := fill_ev (g := fun k x i => laws_toRunS.l0 k l x i) l z76 (fun x => (⟨x.f0, x.f1⟩ : S74))
    (fun x i hx hi hr => Ev_succ (by
      simp only [laws_toRunS.l0, laws_toRun.f, Option.bind_some]
      refine Ev_t (by omega) (Ev_t (by omega) (Ev_t (by omega) ?_))
      rw [w64_succ hi (by omega)]
      simpa [rd_T76_nat] using hr))
    (fun x hx => Ev_succ (by simp only [laws_toRunS.l0]; exact Ev_f (by omega) (Ev.now _)))
    (List.replicate l.length z74) (by simp)
  refine Ev.congr (fun k => ?_) h
  simp only [laws_toRunS.f]
  rw [if_pos (by omega), if_pos (by simp; omega)]
  simp

theorem eqRunS_ev (l : List S74) (hl : l.length ≤ 4611686018427387904) : Ev (fun k => laws_eqRunS.f k l l) true := by
  have h := all_ev (g := fun k i => laws_eqRunS.l0 k l l i) (r := true) l.length
    (fun i hi hr => Ev_succ (by
      simp only [laws_eqRunS.l0, laws_eqRun.f, if_true, Option.bind_some]
      refine Ev_t (by omega) (Ev_t (by omega) (Ev_t (by omega) ?_))
      rw [w64_succ hi (by omega)]; exact hr))
    (Ev_succ (by simp only [laws_eqRunS.l0]; exact Ev_f (by omega) (Ev.now _)))
  refine Ev.congr (fun k => ?_) h
  simp only [laws_eqRunS.f]; rw [if_pos trivial]

theorem eqByteS_ev (l : List Int) (hl : l.length ≤ 4611686018427387904) : Ev (fun k => laws_eqByteS.f k l l) true := by
  have h := all_ev (g := fun k i => laws_eqByteS.l0 k l l i) (r := true) l.length
    (fun i hi hr => Ev_succ (by
      simp only [laws_eqByteS.l0]
      refine Ev_t (by omega) (Ev_t (by omega) (Ev_t (by omega) (Ev_t trivial ?_)))
      rw [w64_succ hi (by omega)]; exact hr))
    (Ev_succ (by simp only [laws_eqByteS.l0]; exact Ev_f (by omega) (Ev.now _)))
  refine Ev.congr (fun k => ?_) h
  simp only [laws_eqByteS.f]; rw [if_pos trivial]

theorem rd_T74_nat (xs : List S74) (i : Nat) : rd_T74 xs (i : Int) = xs.getD i z74 := by simp [rd_T74]

theorem mark_markRunS (l : List S74) (hl : l.length ≤ 1048576) (n0 : Int) (h0 : 0 ≤ n0) (h1 : n0 ≤ 1000000000000) : Ev (fun k => laws_markRunS.f k l n0) (n0 + 2 * (l.length : Int), (List.range l.length).map fun i : Nat => (⟨n0 + 2 * (i : Int), n0 + 2 * (i : Int) + 1⟩ : S74)) := by
  have h := fills_ev (g := fun k x i => laws_markRunS.l0 k x (n0 + 2 * i) i) l.length (fun i : Nat => (⟨n0 + 2 * (i : Int), n0 + 2 * (i : Int) + 1⟩ : S74)) (fun x => (n0 + 2 * (l.length : Int), x))
      (fun x i hx hi r hr => Ev_succ (by
        simp only [laws_markRunS.l0, Option.bind_some]
        refine Ev_t (by omega) (Ev_t (by omega) ?_)
        have e0 : wrap64 (n0 + 2 * (i : Int) + 1) = n0 + 2 * (i : Int) + 1 := w64 (by omega) (by omega)
        have e1 : wrap64 (n0 + 2 * (i : Int) + 1 + 1) = n0 + 2 * ((i + 1 : Nat) : Int) := by rw [w64 (by omega) (by omega)]; omega
        rw [e0, e1, w64_succ hi (by omega)]
        have e2 : rd_T74 (x.set i (⟨n0 + 2 * (i : Int), (rd_T74 x (i : Int)).f1⟩ : S74)) (i : Int) = ⟨n0 + 2 * (i : Int), (rd_T74 x (i : Int)).f1⟩ := by
          rw [rd_T74_nat]; simp [List.getD, hx, hi]
        simp only [Int.toNat_natCast, e2, List.set_set]
        exact hr))
      (fun x hx => Ev_succ (by simp only [laws_markRunS.l0]; exact Ev_f (by omega) (Ev.now _)))
      l rfl
  refine Ev.congr (fun k => ?_) h
  simp only [laws_markRunS.f, Int.mul_zero, Int.add_zero]

theorem markB (l : List Int) (hl : l.length ≤ 1048576) (n0 : Int) (h0 : 0 ≤ n0) (h1 : n0 ≤ 1000000000000) : Ev (fun k => laws_markByteS.f k l n0) (n0 + (l.length : Int), (List.range l.length).map fun i : Nat => (n0 + (i : Int)) % 256) := by
  have h := fills_ev (g := fun k x i => laws_markByteS.l0 k x (n0 + i) i) l.length (fun i : Nat => (n0 + (i : Int)) % 256) (fun x => (n0 + (l.length : Int), x))
      (fun x i hx hi r hr => Ev_succ (by
        have e0 : wrap64 (n0 + (i : Int) + 1) = n0 + ((i + 1 : Nat) : Int) := by rw [w64 (by omega) (by omega)]; omega
        simp only [laws_markByteS.l0, Int.toNat_natCast, e0]
        rw [w64_succ hi (by omega)]
        exact Ev_t (by omega) (Ev_t (by omega) hr)))
      (fun x hx => Ev_succ (by simp only [laws_markByteS.l0]; exact Ev_f (by omega) (Ev.now _)))
      l rfl
  refine Ev.congr (fun k => ?_) h
  simp only [laws_markByteS.f, Int.add_zero]

theorem heldB (n : Nat) (hl : n ≤ 1048576) (n0 : Int) (h0 : 0 ≤ n0) (h1 : n0 ≤ 1000000000000) : Ev (fun k => laws_heldByteS.f k ((List.range n).map fun i : Nat => (n0 + (i : Int)) % 256) n0) (n0 + (n : Int)) := by
  have h := all_ev (g := fun k i => laws_heldByteS.l0 k ((List.range n).map fun i : Nat => (n0 + (i : Int)) % 256) (n0 + i) i) (r := n0 + (n : Int)) n
      (fun i hi hr => Ev_succ (by
        simp only [laws_heldByteS.l0, List.length_map, List.length_range]
        have e1 : wrap64 (n0 + (i : Int) + 1) = n0 + ((i + 1 : Nat) : Int) := by rw [w64 (by omega) (by omega)]; omega
        have e2 : rd ((List.range n).map fun i : Nat => (n0 + (i : Int)) % 256) (i : Int) = (n0 + (i : Int)) % 256 := by
          rw [rd_nat]; simp [List.getD, hi]
        rw [e1, e2, w64_succ hi (by omega)]
        exact Ev_t (by omega) (Ev_t (by omega) (Ev_t rfl hr))))
      (Ev_succ (by simp only [laws_heldByteS.l0, List.length_map, List.length_range]; exact Ev_f (by omega) (Ev.now _)))
  refine Ev.congr (fun k => ?_) h
  simp only [laws_heldByteS.f, Int.add_zero]

theorem within_eq (a b c : Int) : impl_within.f a b c = some (decide (b ≤ a ∧ a ≤ c)) := by
  simp only [impl_within.f]
  by_cases h : b ≤ a <;> simp [h]

theorem l1In_eq (a b c : Int) : spec_l1In.f a b c = some (decide (b ≤ a ∧ a ≤ c)) := by
  simp only [spec_l1In.f]
  by_cases h : b ≤ a <;> simp [h]

theorem szRunS_val (l : List S76) (hl : l.length ≤ maxLen) (n : Int) (h0 : 0 ≤ n) (h1 : n ≤ 1048576) : ∃ r, laws_szRunS.f l n = some r ∧ r ≤ n ∧ (0 ≤ r → l.length ≤ 1048576) := by
  have hl0 : (l.length : Int) ≤ 9223372036854775807 := by simp only [maxLen] at hl; omega
  simp only [laws_szRunS.f]
  rw [w64 (n := n - (l.length : Int)) (by omega) (by omega)]
  by_cases c : n - (l.length : Int) < 0
  · exact ⟨-1, if_pos c, by omega, fun h => by omega⟩
  · exact ⟨n - (l.length : Int), if_neg c, by omega, fun h => by omega⟩

def rsum : List S74 → Int
  | [] => 0
  | p :: c => p.f1 + rsum c
def runsInfo (l : List S74) (a1 a2 : Int) (i : Nat) (x : Int) (r : Bool) : Prop := r = true → (∀ p ∈ l.drop i, 0 ≤ p.f0 ∧ p.f0 ≤ a2 ∧ 1 ≤ p.f1) ∧ x + rsum (l.drop i) = a1
theorem same_GoodRuns_loop (l : List S74) (hl : l.length ≤ 1048576) (a1 a2 : Int) (ha : a1 ≤ 120) : ∀ (m i : Nat) (x : Int), i + m = l.length → 0 ≤ x → x ≤ a1 →
    SameQ (runsInfo l a1 a2 i x) (fun k => spec_GoodRuns.l0 k l a1 a2 x l (l.length : Int) (i : Int)) (fun k => impl_GoodRuns.l0 k l a1 a2 x l (l.length : Int) (i : Int)) := by
  intro m
  induction m with
  | zero =>
    intro i x hi h0 h1
    refine SameQ.succL (SameQ.succR ?_)
    simp only [spec_GoodRuns.l0, impl_GoodRuns.l0]
    refine SameQ.of (Ev_f (by omega) (Ev.now _)) (Ev_f (by omega) (Ev.now _)) (fun h => ?_)
    have hx : x = a1 := by simpa using h
    rw [List.drop_of_length_le (by omega)]
    exact ⟨by simp, by simp [rsum, hx]⟩
  | succ m ih =>
    intro i x hi h0 h1
    refine SameQ.succL (SameQ.succR ?_)
    simp only [spec_GoodRuns.l0, impl_GoodRuns.l0, l1In_eq, within_eq, Option.bind_some, decide_eq_true_eq]
    rw [w64_succ (show i < l.length by omega) (by omega)]
    have hdrop := drop_cons l i z74 (by omega)
    have hrd : rd_T74 l (i : Int) = l.getD i z74 := by simp [rd_T74]
    rw [hrd]
    generalize l.getD i z74 = p at hdrop ⊢
    generalize hq : rd_T74 l (wrap64 ((i : Int) - 1)) = q
    have e1 : wrap64 ((i : Int) - 1) = (i : Int) - 1 := w64 (by omega) (by omega)
    have e2 : wrap64 (a1 - x) = a1 - x := w64 (by omega) (by omega)
    simp only [e1, e2]
    have hj : ∀ b : Bool, (b = true ∨ ¬ (1 ≤ p.f1 ∧ p.f1 ≤ a1 - x)) → (1 ≤ p.f1 ∧ p.f1 ≤ 120 ∨ b = true) → Ev (fun k => impl_GoodRuns.j2 k l a1 a2 x l (l.length : Int) (i : Int) b p.f0 p.f1) false := by
      intro b hb hc
      refine Ev_succ ?_
      simp only [impl_GoodRuns.j2]
      refine Ev_ite (fun _ => Ev.now _) (fun h => ?_)
      have h3 : ¬ (1 ≤ p.f1 ∧ p.f1 ≤ a1 - x) := hb.resolve_left h
      have h4 := hc.resolve_right h
      rw [w64 (n := x + p.f1) (by omega) (by omega)]
      exact Ev_t (by omega) (Ev.now _)
    have hg : ∀ b : Bool, b = false → (0 ≤ p.f0 ∧ p.f0 ≤ a2) → (1 ≤ p.f1 ∧ p.f1 ≤ a1 - x) → SameQ (runsInfo l a1 a2 i x) (fun k => spec_GoodRuns.l0 k l a1 a2 (wrap64 (x + p.f1)) l (l.length : Int) ((i + 1 : Nat) : Int)) (fun k => impl_GoodRuns.j2 k l a1 a2 x l (l.length : Int) (i : Int) b p.f0 p.f1) := by
      intro b hb hc0 hc
      refine SameQ.succR ?_
      subst hb
      simp only [impl_GoodRuns.j2]
      rw [w64_succ (show i < l.length by omega) (by omega), w64 (n := x + p.f1) (by omega) (by omega)]
      obtain ⟨r, h5, h6, h7⟩ := ih (i + 1) (x + p.f1) (by omega) (by omega) (by omega)
      refine ⟨r, h5, Ev_f (by decide) (Ev_f (by omega) h6), fun hr => ?_⟩
      obtain ⟨h8, h9⟩ := h7 hr
      rw [hdrop]
      refine ⟨fun y hy => ?_, by simp only [rsum]; omega⟩
      rcases List.mem_cons.1 hy with rfl | hy
      · exact ⟨hc0.1, hc0.2, hc.1⟩
      · exact h8 y hy
    refine SameQ.iteL (fun _ => SameQ.iteR (fun _ => ?_) (fun h => absurd (show (i : Int) < l.length by omega) h)) (fun h => absurd (show (i : Int) < l.length by omega) h)
    refine SameQ.iteL (fun _ => SameQ.iteR (fun _ => ?_) (fun h => absurd (show (0 : Int) ≤ i by omega) h)) (fun h => absurd (show (0 : Int) ≤ i by omega) h)
    refine SameQ.iteL (fun _ => SameQ.iteR (fun _ => ?_) (fun h => absurd (show (i : Int) < l.length by omega) h)) (fun h => absurd (show (i : Int) < l.length by omega) h)
    by_cases c1 : 0 ≤ p.f0 ∧ p.f0 ≤ a2
    · simp only [if_pos c1]
      by_cases c2 : 1 ≤ p.f1 ∧ p.f1 ≤ a1 - x
      · simp only [if_pos c2, if_pos (show 1 ≤ p.f1 ∧ p.f1 ≤ 120 by omega)]
        by_cases c3 : (i : Int) > 0
        · simp only [if_pos c3, if_pos (show 0 ≤ (i : Int) - 1 by omega), if_pos (show (i : Int) - 1 < (l.length : Int) by omega)]
          by_cases c4 : q.f0 = p.f0
          · simp only [if_pos c4]
            exact SameQ.of (Ev.now _) (hj _ (Or.inl (by simp [c4])) (Or.inr (by simp [c4]))) (fun h => by cases h)
          · simp only [if_neg c4]
            exact hg _ (by simp [c4]) c1 c2
        · simp only [if_neg c3]
          exact hg _ rfl c1 c2
      · simp only [if_neg c2]
        refine ⟨false, Ev.now _, ?_, fun h => by cases h⟩
        by_cases c5 : 1 ≤ p.f1 ∧ p.f1 ≤ 120
        · simp only [if_pos c5]
          by_cases c3 : (i : Int) > 0
          · simp only [if_pos c3, if_pos (show 0 ≤ (i : Int) - 1 by omega), if_pos (show (i : Int) - 1 < (l.length : Int) by omega)]
            exact hj _ (Or.inr c2) (Or.inl c5)
          · simp only [if_neg c3]
            exact hj _ (Or.inr c2) (Or.inl c5)
        · simp only [if_neg c5]
          exact hj _ (Or.inl rfl) (Or.inr rfl)
    · simp only [if_neg c1]
      exact SameQ.of (Ev.now _) (hj _ (Or.inl rfl) (Or.inr rfl)) (fun h => by cases h)
theorem same_GoodRuns (l : List S74) (hl : l.length ≤ 1048576) (a1 a2 : Int) : SameQ (fun r => r = true → (0 ≤ a1 ∧ a1 ≤ 120) ∧ (0 ≤ a2 ∧ a2 ≤ 60) ∧ (∀ p ∈ l, 0 ≤ p.f0 ∧ p.f0 ≤ a2 ∧ 1 ≤ p.f1) ∧ rsum l = a1) (fun k => spec_GoodRuns.f k l a1 a2) (fun k => impl_GoodRuns.f k l a1 a2) := by
  simp only [spec_GoodRuns.f, impl_GoodRuns.f, l1In_eq, within_eq, Option.bind_some, decide_eq_true_eq]
  have hf : ∀ b : Bool, b = true → SameQ (fun r => r = true → (0 ≤ a1 ∧ a1 ≤ 120) ∧ (0 ≤ a2 ∧ a2 ≤ 60) ∧ (∀ p ∈ l, 0 ≤ p.f0 ∧ p.f0 ≤ a2 ∧ 1 ≤ p.f1) ∧ rsum l = a1) (fun k => spec_GoodRuns.j0 k l a1 a2 b) (fun k => impl_GoodRuns.j0 k l a1 a2 b) := by
    intro b hb
    subst hb
    refine SameQ.succL (SameQ.succR ?_)
    simp only [spec_GoodRuns.j0, impl_GoodRuns.j0, if_true]
    exact SameQ.of (Ev.now _) (Ev.now _) (fun h => by cases h)
  by_cases c1 : 0 ≤ a1 ∧ a1 ≤ 120
  · simp only [if_pos c1]
    by_cases c2 : 0 ≤ a2 ∧ a2 ≤ 60
    · simp only [c2, and_self, decide_true, Bool.not_true]
      refine SameQ.succL (SameQ.succR ?_)
      simp only [spec_GoodRuns.j0, impl_GoodRuns.j0, Bool.false_eq_true, if_false]
      refine SameQ.imp (same_GoodRuns_loop l hl a1 a2 c1.2 l.length 0 0 (by omega) (by omega) c1.1) (fun r h hr => ?_)
      obtain ⟨h1, h2⟩ := h hr
      rw [List.drop_zero] at h1 h2
      exact ⟨c1, trivial, h1, by omega⟩
    · exact hf _ (by simp only [c2, decide_false, Bool.not_false])
  · simp only [if_neg c1]
    exact hf _ rfl

def sok : Int → List S74 → Bool
  | _, [] => true
  | x, p :: c => decide (1 ≤ p.f1 ∧ p.f1 ≤ 120 - x) && sok (x + p.f1) c
theorem sok_sum : ∀ (c : List S74) (x : Int), x ≤ 120 → sok x c = true → x + rsum c ≤ 120 ∧ 0 ≤ rsum c := by
  intro c
  induction c with
  | nil => intro x hx _; simp [rsum]; exact hx
  | cons p c ih =>
    intro x hx h
    simp only [sok, Bool.and_eq_true, decide_eq_true_eq] at h
    have := ih (x + p.f1) (by omega) h.2
    simp only [rsum]
    omega
theorem l9Sum_loop (l : List S74) (hl : l.length ≤ 1048576) : ∀ (m i : Nat) (x : Int), i + m = l.length → 0 ≤ x → x ≤ 120 →
    Ev (fun k => spec_l9Sum.l0 k x l (l.length : Int) (i : Int)) (if sok x (l.drop i) = true then x + rsum (l.drop i) else -1) := by
  intro m
  induction m with
  | zero =>
    intro i x hi h0 h1
    refine Ev_succ ?_
    simp only [spec_l9Sum.l0]
    rw [List.drop_of_length_le (by omega)]
    exact Ev_f (by omega) (Ev_eq (Ev.now _) (by simp [sok, rsum]))
  | succ m ih =>
    intro i x hi h0 h1
    have hdrop := drop_cons l i z74 (by omega)
    have hrd : rd_T74 l (i : Int) = l.getD i z74 := by simp [rd_T74]
    refine Ev_succ ?_
    simp only [spec_l9Sum.l0, hrd, l1In_eq, Option.bind_some, decide_eq_true_eq]
    rw [hdrop]
    generalize l.getD i z74 = p
    rw [w64 (n := 120 - x) (by omega) (by omega), w64_succ (show i < l.length by omega) (by omega)]
    refine Ev_t (by omega) (Ev_t (by omega) (Ev_t (by omega) (Ev_ite (fun h => ?_) (fun h => Ev_eq (Ev.now _) ?_))))
    · rw [w64 (n := x + p.f1) (by omega) (by omega)]
      refine Ev_eq (ih (i + 1) (x + p.f1) (by omega) (by omega) (by omega)) ?_
      simp [sok, rsum, h, Int.add_assoc]
    · simp [sok, h]
theorem someRuns_big (l : List S74) (hl : l.length ≤ 1048576) : ∀ (m i : Nat) (x : Int), i + m = l.length → 120 < x → x ≤ 1000 →
    Ev (fun k => impl_someRuns.l0 k l x l (l.length : Int) (i : Int)) false := by
  intro m i x hi h0 h1
  refine Ev_succ ?_
  simp only [impl_someRuns.l0, within_eq, Option.bind_some, decide_eq_true_eq]
  refine Ev_ite (fun h => Ev_t (by omega) (Ev_t (by omega) (Ev_ite (fun _ => Ev_t h0 (Ev.now _)) (fun _ => Ev.now _)))) (fun h => ?_)
  refine Ev.bind (a := false) ?_ (Ev.now _)
  simp only [impl_GoodRuns.f, within_eq, Option.bind_some, decide_eq_true_eq]
  refine Ev_f (by omega) (Ev_succ ?_)
  simp only [impl_GoodRuns.j0]
  exact Ev_t trivial (Ev.now _)
theorem someRuns_loop (l : List S74) (hl : l.length ≤ 1048576) : ∀ (m i : Nat) (x : Int), i + m = l.length → 0 ≤ x → x ≤ 120 →
    (sok x (l.drop i) = true → ∀ r, Ev (fun k => impl_GoodRuns.f k l (x + rsum (l.drop i)) 60) r → Ev (fun k => impl_someRuns.l0 k l x l (l.length : Int) (i : Int)) r) ∧
    (sok x (l.drop i) = false → Ev (fun k => impl_someRuns.l0 k l x l (l.length : Int) (i : Int)) false) := by
  intro m
  induction m with
  | zero =>
    intro i x hi h0 h1
    rw [List.drop_of_length_le (by omega)]
    refine ⟨fun _ r hr => Ev_succ ?_, fun h => by simp [sok] at h⟩
    simp only [impl_someRuns.l0]
    simp only [rsum, Int.add_zero] at hr
    exact Ev_f (by omega) (Ev.bind hr (Ev.now _))
  | succ m ih =>
    intro i x hi h0 h1
    have hdrop := drop_cons l i z74 (by omega)
    have hrd : rd_T74 l (i : Int) = l.getD i z74 := by simp [rd_T74]
    rw [hdrop]
    generalize l.getD i z74 = p at hrd ⊢
    constructor
    · intro hs r hr
      simp only [sok, Bool.and_eq_true, decide_eq_true_eq] at hs
      simp only [rsum] at hr
      refine Ev_succ ?_
      simp only [impl_someRuns.l0, hrd, within_eq, Option.bind_some, decide_eq_true_eq]
      rw [w64 (n := x + p.f1) (by omega) (by omega), w64_succ (show i < l.length by omega) (by omega)]
      exact Ev_t (by omega) (Ev_t (by omega) (Ev_t (by omega) (Ev_t (by omega) (Ev_f (by omega) ((ih (i + 1) (x + p.f1) (by omega) (by omega) (by omega)).1 hs.2 r (by rw [Int.add_assoc]; exact hr))))))
    · intro hs
      refine Ev_succ ?_
      simp only [impl_someRuns.l0, hrd, within_eq, Option.bind_some, decide_eq_true_eq]
      rw [w64_succ (show i < l.length by omega) (by omega)]
      refine Ev_t (by omega) (Ev_t (by omega) (Ev_t (by omega) (Ev_ite (fun h => Ev_f (by omega) ?_) (fun _ => Ev.now _))))
      rw [w64 (n := x + p.f1) (by omega) (by omega)]
      by_cases c : x + p.f1 ≤ 120
      · have : sok (x + p.f1) (l.drop (i + 1)) = false := by
          simp only [sok] at hs
          rw [show decide (1 ≤ p.f1 ∧ p.f1 ≤ 120 - x) = true from by simp; omega] at hs
          simpa using hs
        exact (ih (i + 1) (x + p.f1) (by omega) (by omega) c).2 this
      · exact someRuns_big l hl m (i + 1) (x + p.f1) (by omega) (by omega) (by omega)
theorem l9Sum_ev (l : List S74) (hl : l.length ≤ 1048576) : Ev (fun k => spec_l9Sum.f k l) (if sok 0 l = true then rsum l else -1) := by
  have h := l9Sum_loop l hl l.length 0 0 (by omega) (by omega) (by omega)
  simp only [spec_l9Sum.f]
  refine Ev_eq h ?_
  simp
theorem same_some (l : List S74) (hl : l.length ≤ 1048576) : ∃ r : Bool, Ev (fun k => spec_l9Good.f k l) r ∧ Ev (fun k => impl_someRuns.f k l) r ∧ (r = true → sok 0 l = true ∧ (∀ p ∈ l, 0 ≤ p.f0 ∧ p.f0 ≤ 60 ∧ 1 ≤ p.f1) ∧ 0 ≤ rsum l ∧ rsum l ≤ 120) := by
  have h := someRuns_loop l hl l.length 0 0 (by omega) (by omega) (by omega)
  rw [List.drop_zero] at h
  have hs := l9Sum_ev l hl
  cases hc : sok 0 l with
  | true =>
    rw [if_pos hc] at hs
    obtain ⟨g1, g2⟩ := sok_sum l 0 (by omega) hc
    obtain ⟨r, p, q, w⟩ := same_GoodRuns l hl (rsum l) 60
    refine ⟨r, ?_, ?_, fun hr => ?_⟩
    · simp only [spec_l9Good.f]
      exact Ev.bind hs (Ev_t (by omega) (Ev.bind p (Ev.now _)))
    · simp only [impl_someRuns.f]
      exact h.1 hc r (by rw [Int.zero_add]; exact q)
    · obtain ⟨_, _, w3, _⟩ := w hr
      exact ⟨rfl, w3, g2, by omega⟩
  | false =>
    rw [if_neg (by simp [hc])] at hs
    refine ⟨false, ?_, ?_, fun hr => by cases hr⟩
    · simp only [spec_l9Good.f]
      exact Ev.bind hs (Ev_f (by omega) (Ev.now _))
    · simp only [impl_someRuns.f]
      exact h.2 hc

theorem same_write (l : List S74) (hl : l.length ≤ 1048576) : ∀ (m i : Nat) (acc : List Int), i + m = l.length → acc.length = 2 * i →
    ∃ R : List Int, R.length = 2 * l.length ∧ Ev (fun k => spec_l9Write.l0 k acc l (l.length : Int) (i : Int)) R ∧ Ev (fun k => impl_writeRuns.l0 k acc l (l.length : Int) (i : Int)) R := by
  intro m
  induction m with
  | zero =>
    intro i acc hi ha
    refine ⟨acc, by omega, Ev_succ ?_, Ev_succ ?_⟩
    · simp only [spec_l9Write.l0]; exact Ev_f (by omega) (Ev.now _)
    · simp only [impl_writeRuns.l0]; exact Ev_f (by omega) (Ev.now _)
  | succ m ih =>
    intro i acc hi ha
    obtain ⟨R, hR, p, q⟩ := ih (i + 1) (acc ++ [(rd_T74 l (i : Int)).f0 % 256, (rd_T74 l (i : Int)).f1 % 256]) (by omega) (by simp; omega)
    refine ⟨R, hR, Ev_succ ?_, Ev_succ ?_⟩
    · simp only [spec_l9Write.l0, Option.bind_some, List.length_cons, List.length_nil]
      rw [w64_succ (show i < l.length by omega) (by omega)]
      exact Ev_t (by omega) (Ev_t (by omega) (Ev_t (by omega) (Ev_t (by omega) p)))
    · simp only [impl_writeRuns.l0, Option.bind_some, List.length_cons, List.length_nil]
      rw [w64_succ (show i < l.length by omega) (by omega)]
      exact Ev_t (by omega) (Ev_t (by omega) (Ev_t (by omega) (Ev_t (by omega) q)))
theorem short_runs : ∀ (l : List S74), (∀ p ∈ l, 0 ≤ p.f0 ∧ p.f0 ≤ 60 ∧ 1 ≤ p.f1) → (l.length : Int) ≤ rsum l := by
  intro l
  induction l with
  | nil => intro _; simp [rsum]
  | cons p c ih =>
    intro h
    have h1 := h p (by simp)
    have h2 := ih (fun q hq => h q (by simp [hq]))
    simp only [rsum, List.length_cons]
    omega
end OfFnExactWriteRuns
open OfFnExactWriteRuns
theorem FnExactWriteRuns : Stated := by
  intro l w0
  refine Ev.rounds ?_
  simp only [laws_FnExactWriteRuns.f]
  obtain ⟨r, h1, _, h3⟩ := szRunS_val l w0.1 1048576 (by omega) (by omega)
  refine Ev_bind0 h1 (Ev_ite (fun _ => Ev.now _) (fun c => ?_))
  have hl : l.length ≤ 1048576 := h3 (by omega)
  have f1 := toRunS_ev l hl
  generalize hg : (l.map fun x => (⟨x.f0, x.f1⟩ : S74)) = g at f1
  have hgl : g.length ≤ 1048576 := by rw [← hg]; simpa using hl
  have f2 := eqRunS_ev g (by omega)
  have same : ∃ (R : List Int) (b : Bool), R.length ≤ 1048576 ∧ Ev (fun k => spec_WriteRuns.f k g) (R, b) ∧ Ev (fun k => impl_WriteRuns.f k g) (R, b) := by
    obtain ⟨b, p, q, w⟩ := same_some g hgl
    simp only [spec_WriteRuns.f, impl_WriteRuns.f]
    cases b with
    | false => exact ⟨[], false, by simp, Ev.bind p (Ev_f (by decide) (Ev.now _)), Ev.bind q (Ev_f (by decide) (Ev.now _))⟩
    | true =>
      obtain ⟨w1, w2, w3, w4⟩ := w rfl
      obtain ⟨R, hR, u, v⟩ := same_write g hgl g.length 0 [] (by omega) (by simp)
      have := short_runs g w2
      refine ⟨R, true, by omega, Ev.bind p (Ev_t rfl (Ev.bind (a := R) u (Ev.now _))), Ev.bind q (Ev_t rfl (Ev.bind (a := R) v (Ev.now _)))⟩
  obtain ⟨R, b, hR, p, q⟩ := same
  have f3 := eqByteS_ev R (by omega)
  have f4 := mark_markRunS g hgl 1 (by omega) (by omega)
  have f5 := markB R hR 1 (by omega) (by omega)
  have f6 := heldB R.length hR 1 (by omega) (by omega)
  refine Ev.bind f1 (Ev.bind p (Ev.bind f1 (Ev.bind q (Ev.bind f3 (Ev_t rfl (Ev_succ ?_))))))
  simp only [laws_FnExactWriteRuns.j0]
  refine Ev_f (by simp) (Ev.bind f1 (Ev.bind f2 (Ev_t rfl (Ev.bind f4 (Ev_f (by omega) (Ev.bind f3 (Ev_t rfl (Ev_succ ?_))))))))
  simp only [laws_FnExactWriteRuns.j1]
  refine Ev_f (by simp) (Ev.bind f5 (Ev.bind f6 (Ev_f (by omega) (Ev_t rfl (Ev.bind f1 (Ev.bind q (Ev.bind f3 (Ev_t rfl (Ev_succ ?_)))))))))
  simp only [laws_FnExactWriteRuns.j2]
  exact Ev_f (by simp) (Ev.bind f6 (Ev_f (by omega) (Ev_t rfl (Ev.now _))))
end Go.Proofs.Ytdlicabmalljpaa.Pure
