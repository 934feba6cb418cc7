/-
The pure statement of FnExactCompletedBy: the printed functions of the program and of the reference answer alike for every argument within the bounds that the statement tells.
-/
import Derived.Test.YtgeobmfiblgkgaaPFnExactCompletedByx3
import Derived.Test.YtgeobmfiblgkgaaLib
namespace Go.Proofs.Ytgeobmfiblgkgaa.Pure
open Go Go.RowKit Go.Proofs.Ytgeobmfiblgkgaa.PFnExactCompletedBy Go.Proofs.YtgeobmfiblgkgaaW.PrintWords Go.Proofs.YtgeobmfiblgkgaaW.PrintLast Go.Proofs.YtgeobmfiblgkgaaW.PrintMore Go.Proofs.Ytgeobmfiblgkgaa.Lib
set_option linter.unusedVariables false
set_option linter.unusedSimpArgs false
namespace OfFnExactCompletedBy
theorem rd_T29_nat (xs : List S29) (i : Nat) : rd_T29 xs (i : Int) = xs.getD i z29 := by simp [rd_T29]
theorem marks_markStratumS (l : List S29) (hl : l.length ≤ 1048576) : ∃ (q : Int) (l' : List S29), 0 ≤ q ∧ Ev (fun k => laws_markStratumS.f k l 1) (q, l') ∧ Ev (fun k => laws_heldStratumS.f k l' 1) q := by
  refine ⟨1 + 2 * (l.length : Int), (List.range l.length).map fun i : Nat => (⟨1 + 2 * (i : Int), 2 + 2 * (i : Int)⟩ : S29), by omega, ?_, ?_⟩
  · have h := fills_ev (g := fun k x i => laws_markStratumS.l0 k x (1 + 2 * i) i) l.length (fun i : Nat => (⟨1 + 2 * (i : Int), 2 + 2 * (i : Int)⟩ : S29)) (fun x => (1 + 2 * (l.length : Int), x))
      (fun x i hx hi r hr => Ev_succ (by
        simp only [laws_markStratumS.l0, Option.bind_some]
        refine Ev_t (by omega) (Ev_t (by omega) ?_)
        have e0 : wrap64 (1 + 2 * (i : Int) + 1) = 2 + 2 * (i : Int) := by rw [w64 (by omega) (by omega)]; omega
        have e1 : wrap64 (2 + 2 * (i : Int) + 1) = 1 + 2 * ((i + 1 : Nat) : Int) := by rw [w64 (by omega) (by omega)]; omega
        rw [e0, e1, w64_succ hi (by omega)]
        have e2 : rd_T29 (x.set i (⟨1 + 2 * (i : Int), (rd_T29 x (i : Int)).f1⟩ : S29)) (i : Int) = ⟨1 + 2 * (i : Int), (rd_T29 x (i : Int)).f1⟩ := by
          rw [rd_T29_nat]; simp [List.getD, hx, hi]
        simp only [Int.toNat_natCast, e2, List.set_set]
        exact hr))
      (fun x hx => Ev_succ (by simp only [laws_markStratumS.l0]; exact Ev_f (by omega) (Ev.now _)))
      l rfl
    exact h
  · have h := all_ev (g := fun k i => laws_heldStratumS.l0 k ((List.range l.length).map fun i : Nat => (⟨1 + 2 * (i : Int), 2 + 2 * (i : Int)⟩ : S29)) (1 + 2 * i) i) (r := 1 + 2 * (l.length : Int)) l.length
      (fun i hi hr => Ev_succ (by
        simp only [laws_heldStratumS.l0, List.length_map, List.length_range]
        have e0 : wrap64 (1 + 2 * (i : Int) + 1) = 2 + 2 * (i : Int) := by rw [w64 (by omega) (by omega)]; omega
        have e1 : wrap64 (2 + 2 * (i : Int) + 1) = 1 + 2 * ((i + 1 : Nat) : Int) := by rw [w64 (by omega) (by omega)]; omega
        have e2 : rd_T29 ((List.range l.length).map fun i : Nat => (⟨1 + 2 * (i : Int), 2 + 2 * (i : Int)⟩ : S29)) (i : Int) = ⟨1 + 2 * (i : Int), 2 + 2 * (i : Int)⟩ := by
          rw [rd_T29_nat]; simp [List.getD, hi]
        rw [e0, e1, e2, w64_succ hi (by omega)]
        exact Ev_t (by omega) (Ev_t (by omega) (Ev_t rfl (Ev_t rfl hr)))))
      (Ev_succ (by simp only [laws_heldStratumS.l0, List.length_map, List.length_range]; exact Ev_f (by omega) (Ev.now _)))
    exact h

theorem eqStratumS_ev (l : List S29) (hl : l.length ≤ 4611686018427387904) : Ev (fun k => laws_eqStratumS.f k l l) true := by
  have h := all_ev (g := fun k i => laws_eqStratumS.l0 k l l i) (r := true) l.length
    (fun i hi hr => Ev_succ (by
      simp only [laws_eqStratumS.l0, laws_eqStratum.f, if_true, Option.bind_some]
      refine Ev_t (by omega) (Ev_t (by omega) (Ev_t (by omega) ?_))
      rw [w64_succ hi (by omega)]; exact hr))
    (Ev_succ (by simp only [laws_eqStratumS.l0]; exact Ev_f (by omega) (Ev.now _)))
  refine Ev.congr (fun k => ?_) h
  simp only [laws_eqStratumS.f]; rw [if_pos trivial]

theorem l1In_eq (a b c : Int) : spec_l1In.f a b c = some (decide (b ≤ a ∧ a ≤ c)) := by
  simp only [spec_l1In.f]
  by_cases h : b ≤ a <;> simp [h]

theorem range_eq (a b : Int) : spec_l8Range.f a b = some (decide (0 ≤ a ∧ a ≤ b ∧ b ≤ 60)) := by
  simp only [spec_l8Range.f, l1In_eq, Option.bind_some]
  by_cases h : 0 ≤ a <;> by_cases h' : a ≤ b <;> simp [h, h']
theorem history_eq (a b : Int) : impl_isHistory.f a b = some (decide (0 ≤ a ∧ a ≤ b ∧ b ≤ 60)) := by
  simp only [impl_isHistory.f]
  by_cases h : 0 ≤ a <;> by_cases h' : a ≤ b <;> simp [h, h']

theorem six {n : Nat} (h : n < 6) : n = 0 ∨ n = 1 ∨ n = 2 ∨ n = 3 ∨ n = 4 ∨ n = 5 := by omega
theorem wu_lvl {n : Nat} (h : n < 6) : IntKind.u64.wrap (n : Int) = (n : Int) := wu64 (by omega) (by omega)
theorem shl_lvl {n : Nat} (h : n < 6) {x : Int} (h0 : 0 ≤ x) (h1 : x ≤ 1000) : shl .i64 x (n : Int) = x * 2 ^ n := by
  refine shl_nat (by omega) ?_ ?_ <;> rcases six h with rfl | rfl | rfl | rfl | rfl | rfl <;> omega
theorem shr_lvl {n : Nat} (h : n < 6) (x : Int) : shr .i64 x (n : Int) = x / 2 ^ n := shr_nat (by omega)

theorem same_completed (f h : Nat) (hf : f ≤ h) (hh : h ≤ 60) : ∀ (d n : Nat) (acc : List S29), n + d = 6 → acc.length ≤ n →
    ∃ L : List S29, L.length ≤ 6 ∧ Ev (fun k => spec_CompletedBy.l0 k (f : Int) (h : Int) acc (n : Int)) (L, true) ∧ Ev (fun k => impl_completed.l0 k (f : Int) (h : Int) acc (n : Int)) L := by
  intro d
  induction d with
  | zero =>
    intro n acc hn ha
    refine ⟨acc, by omega, Ev_succ ?_, Ev_succ ?_⟩
    · simp only [spec_CompletedBy.l0]; exact Ev_f (by omega) (Ev.now _)
    · simp only [impl_completed.l0]; exact Ev_f (by omega) (Ev.now _)
  | succ d ih =>
    intro n acc hn ha
    have hn6 : n < 6 := by omega
    have e0 : shl .i64 1 (n : Int) = ((2 ^ n : Nat) : Int) := by rw [shl_lvl hn6 (by omega) (by omega)]; simp
    have e1 : wrap64 ((h : Int) - ((2 ^ n : Nat) : Int)) = (h : Int) - ((2 ^ n : Nat) : Int) := by
      rcases six hn6 with rfl | rfl | rfl | rfl | rfl | rfl <;> exact w64 (by omega) (by omega)
    have e2 : Int.tdiv (h : Int) ((2 ^ n : Nat) : Int) = ((h / 2 ^ n : Nat) : Int) := by
      rw [Int.tdiv_eq_ediv_of_nonneg (by omega)]; simp
    have e3 : wrap64 ((h / 2 ^ n : Nat) : Int) = ((h / 2 ^ n : Nat) : Int) := by
      have : h / 2 ^ n ≤ h := Nat.div_le_self _ _
      generalize h / 2 ^ n = g at this ⊢
      exact w64 (by omega) (by omega)
    have e4 : shr .i64 (h : Int) (n : Int) = ((h / 2 ^ n : Nat) : Int) := by rw [shr_lvl hn6]; simp
    have e5 : 0 < 2 ^ n := Nat.two_pow_pos n
    by_cases c : Int.tmod (h : Int) ((2 ^ n : Nat) : Int) = 0
    · by_cases c2 : (h : Int) - ((2 ^ n : Nat) : Int) ≥ (f : Int)
      · obtain ⟨L, hL, p, q⟩ := ih (n + 1) (acc ++ [(⟨(n : Int), wrap64 (((h / 2 ^ n : Nat) : Int) - 1)⟩ : S29)]) (by omega) (by simp; omega)
        refine ⟨L, hL, Ev_succ ?_, Ev_succ ?_⟩
        · simp only [spec_CompletedBy.l0, wu_lvl hn6, e0, e1, e2, e3]
          rw [w64_succ hn6 (by omega)]
          exact Ev_t (by omega) (Ev_t (by omega) (Ev_f (by omega) (Ev_t c (Ev_t c2 (Ev_t (by omega) p)))))
        · simp only [impl_completed.l0, e0, e1, e4]
          rw [w64_succ hn6 (by omega)]
          exact Ev_t (by omega) (Ev_t (by omega) (Ev_f (by omega) (Ev_t c (Ev_t c2 (Ev_t (by omega) q)))))
      · obtain ⟨L, hL, p, q⟩ := ih (n + 1) acc (by omega) (by omega)
        refine ⟨L, hL, Ev_succ ?_, Ev_succ ?_⟩
        · simp only [spec_CompletedBy.l0, wu_lvl hn6, e0, e1, e2, e3]
          rw [w64_succ hn6 (by omega)]
          exact Ev_t (by omega) (Ev_t (by omega) (Ev_f (by omega) (Ev_t c (Ev_f c2 p))))
        · simp only [impl_completed.l0, e0, e1, e4]
          rw [w64_succ hn6 (by omega)]
          exact Ev_t (by omega) (Ev_t (by omega) (Ev_f (by omega) (Ev_t c (Ev_f c2 q))))
    · obtain ⟨L, hL, p, q⟩ := ih (n + 1) acc (by omega) (by omega)
      refine ⟨L, hL, Ev_succ ?_, Ev_succ ?_⟩
      · simp only [spec_CompletedBy.l0, wu_lvl hn6, e0, e1, e2, e3]
        rw [w64_succ hn6 (by omega)]
        exact Ev_t (by omega) (Ev_t (by omega) (Ev_f (by omega) (Ev_f c p)))
      · simp only [impl_completed.l0, e0, e1, e4]
        rw [w64_succ hn6 (by omega)]
        exact Ev_t (by omega) (Ev_t (by omega) (Ev_f (by omega) (Ev_f c q)))
theorem tail_CompletedBy (a0 a1 : Int) (L : List S29) (b : Bool) (hi : Ev (fun k => impl_CompletedBy.f k a0 a1) (L, b)) (hl : L.length ≤ 1048576) : Ev (fun k => laws_FnExactCompletedBy.j0 k a0 a1 L b L (b != b)) true := by
  obtain ⟨q, l', h0, hm, hh⟩ := marks_markStratumS L hl
  refine Ev_succ ?_
  simp only [laws_FnExactCompletedBy.j0]
  refine Ev_f (by simp) (Ev.bind hm (Ev.bind hh (Ev_f (by omega) (Ev_t rfl (Ev.bind hi (Ev.bind (eqStratumS_ev L (by omega)) (Ev_t rfl (Ev_succ ?_))))))))
  simp only [laws_FnExactCompletedBy.j1]
  exact Ev_f (by simp) (Ev.bind hh (Ev_f (by omega) (Ev_t rfl (Ev.now _))))
theorem law_CompletedBy (a0 a1 : Int) (L : List S29) (b : Bool) (hs : Ev (fun k => spec_CompletedBy.f k a0 a1) (L, b)) (hi : Ev (fun k => impl_CompletedBy.f k a0 a1) (L, b)) (hl : L.length ≤ 1048576) : Ev (fun k => laws_FnExactCompletedBy.f k a0 a1) true := by
  simp only [laws_FnExactCompletedBy.f]
  exact Ev.bind hs (Ev.bind hi (Ev.bind (eqStratumS_ev L (by omega)) (Ev_t rfl (tail_CompletedBy a0 a1 L b hi hl))))
end OfFnExactCompletedBy
open OfFnExactCompletedBy
theorem FnExactCompletedBy : laws_FnExactCompletedBy.Pure := by
  intro a0 a1 _ _
  refine Ev.rounds ?_
  by_cases c : 0 ≤ a0 ∧ a0 ≤ a1 ∧ a1 ≤ 60
  · by_cases c2 : a0 = a1
    · refine law_CompletedBy _ _ [] false ?_ ?_ (by simp)
      · simp only [spec_CompletedBy.f, range_eq, Option.bind_some, c, and_self, decide_true, if_true]
        refine Ev_succ ?_
        simp only [spec_CompletedBy.j0]
        exact Ev_t (by simp [c2]) (Ev.now _)
      · simp only [impl_CompletedBy.f, history_eq, Option.bind_some, c, and_self, decide_true, if_true]
        exact Ev_t c2 (Ev.now _)
    · obtain ⟨f, rfl⟩ := Int.eq_ofNat_of_zero_le c.1
      obtain ⟨h, rfl⟩ := Int.eq_ofNat_of_zero_le (show 0 ≤ a1 by omega)
      obtain ⟨L, hL, p, q⟩ := same_completed f h (by omega) (by omega) 6 0 [] (by omega) (by simp)
      refine law_CompletedBy _ _ L true ?_ ?_ (by omega)
      · simp only [spec_CompletedBy.f, range_eq, Option.bind_some, c, and_self, decide_true, if_true]
        refine Ev_succ ?_
        simp only [spec_CompletedBy.j0]
        exact Ev_f (by simpa using c2) p
      · simp only [impl_CompletedBy.f, impl_completed.f, history_eq, Option.bind_some, c, and_self, decide_true, if_true]
        exact Ev_f c2 (Ev.bind q (Ev.now _))
  · refine law_CompletedBy _ _ [] false ?_ ?_ (by simp)
    · simp only [spec_CompletedBy.f, range_eq, Option.bind_some, c, decide_false, Bool.false_eq_true, if_false]
      refine Ev_succ ?_
      simp only [spec_CompletedBy.j0, if_true]
      exact Ev.now _
    · simp only [impl_CompletedBy.f, history_eq, Option.bind_some, c, decide_false, Bool.false_eq_true, if_false]
      exact Ev.now _
end Go.Proofs.Ytgeobmfiblgkgaa.Pure
