/-
The pure statement of FnExactCoverOf: the printed functions of the program and of the reference answer alike for every argument within the bounds that the statement tells.
-/
import Derived.Test.YtgeobmfiblgkgaaPFnExactCoverOfx3
import Derived.Test.YtgeobmfiblgkgaaLib
namespace Go.Proofs.Ytgeobmfiblgkgaa.Pure
open Go Go.RowKit Go.Proofs.Ytgeobmfiblgkgaa.PFnExactCoverOf Go.Proofs.YtgeobmfiblgkgaaW.PrintWords Go.Proofs.YtgeobmfiblgkgaaW.PrintLast Go.Proofs.YtgeobmfiblgkgaaW.PrintMore Go.Proofs.Ytgeobmfiblgkgaa.Lib
set_option linter.unusedVariables false
set_option linter.unusedSimpArgs false
namespace OfFnExactCoverOf
theorem rd_T29_nat (xs : List S29) (i : Nat) : rd_T29 xs (i : Int) = xs.getD i z29 := by simp [rd_T29]
theorem marks_markStratumS (l : List S29) (hl : l.length ≤ 1048576) : ∃ (q : Int) (l' : List S29), 0 ≤ q ∧ Ev (fun k => laws_markStratumS.f k l 1) (q, l') ∧ Ev (fun k => laws_heldStratumS.f k l' 1) q := by
  refine ⟨1 + 2 * (l.length : Int), (List.range l.length).map fun i : Nat => (⟨1 + 2 * (i : Int), 2 + 2 * (i : Int)⟩ : S29), by omega, ?_, ?_⟩
  · have h := fills_ev (g := fun k x i => laws_markStratumS.l0 k x (1 + 2 * i) i) l.length (fun i : Nat => (⟨1 + 2 * (i : Int), 2 + 2 * (i : Int)⟩ : S29)) (fun x => (1 + 2 * (l.length : Int), x))
      (fun x i hx hi r hr => Ev_succ (by
        simp only [laws_markStratumS.l0, Option.bind_some]
        refine Ev_t (by omega) (Ev_t (by omega) ?_)
        have e0 : wrap64 (1 + 2 * (i : Int) + 1) = 2 + 2 * (i : Int) := by rw [w64 (by omega) (by omega)]; omega
        have e1 : wrap64 (2 + 2 * (i : Int) + 1) = 1 + 2 * ((i + 1 : Nat) : Int) := by rw [w64 (by omega) (by omega)]; omega
        rw [e0, e1, w64_succ hi (by omega)]
        have e2 : rd_T29 (x.set i (⟨1 + 2 * (i : Int), (rd_T29 x (i : Int)).f1⟩ : S29)) (i : Int) = ⟨1 + 2 * (i : Int), (rd_T29 x (i : Int)).f1⟩ := by
          rw [rd_T29_nat]; simp [List.getD, hx, hi]
        simp only [Int.toNat_natCast, e2, List.set_set]
        exact hr))
      (fun x hx => Ev_succ (by simp only [laws_markStratumS.l0]; exact Ev_f (by omega) (Ev.now _)))
      l rfl
    exact h
  · have h := all_ev (g := fun k i => laws_heldStratumS.l0 k ((List.range l.length).map fun i : Nat => (⟨1 + 2 * (i : Int), 2 + 2 * (i : Int)⟩ : S29)) (1 + 2 * i) i) (r := 1 + 2 * (l.length : Int)) l.length
      (fun i hi hr => Ev_succ (by
        simp only [laws_heldStratumS.l0, List.length_map, List.length_range]
        have e0 : wrap64 (1 + 2 * (i : Int) + 1) = 2 + 2 * (i : Int) := by rw [w64 (by omega) (by omega)]; omega
        have e1 : wrap64 (2 + 2 * (i : Int) + 1) = 1 + 2 * ((i + 1 : Nat) : Int) := by rw [w64 (by omega) (by omega)]; omega
        have e2 : rd_T29 ((List.range l.length).map fun i : Nat => (⟨1 + 2 * (i : Int), 2 + 2 * (i : Int)⟩ : S29)) (i : Int) = ⟨1 + 2 * (i : Int), 2 + 2 * (i : Int)⟩ := by
          rw [rd_T29_nat]; simp [List.getD, hi]
        rw [e0, e1, e2, w64_succ hi (by omega)]
        exact Ev_t (by omega) (Ev_t (by omega) (Ev_t rfl (Ev_t rfl hr)))))
      (Ev_succ (by simp only [laws_heldStratumS.l0, List.length_map, List.length_range]; exact Ev_f (by omega) (Ev.now _)))
    exact h

theorem eqStratumS_ev (l : List S29) (hl : l.length ≤ 4611686018427387904) : Ev (fun k => laws_eqStratumS.f k l l) true := by
  have h := all_ev (g := fun k i => laws_eqStratumS.l0 k l l i) (r := true) l.length
    (fun i hi hr => Ev_succ (by
      simp only [laws_eqStratumS.l0, laws_eqStratum.f, if_true, Option.bind_some]
      refine Ev_t (by omega) (Ev_t (by omega) (Ev_t (by omega) ?_))
      rw [w64_succ hi (by omega)]; exact hr))
    (Ev_succ (by simp only [laws_eqStratumS.l0]; exact Ev_f (by omega) (Ev.now _)))
  refine Ev.congr (fun k => ?_) h
  simp only [laws_eqStratumS.f]; rw [if_pos trivial]

theorem l1In_eq (a b c : Int) : spec_l1In.f a b c = some (decide (b ≤ a ∧ a ≤ c)) := by
  simp only [spec_l1In.f]
  by_cases h : b ≤ a <;> simp [h]

theorem range_eq (a b : Int) : spec_l8Range.f a b = some (decide (0 ≤ a ∧ a ≤ b ∧ b ≤ 60)) := by
  simp only [spec_l8Range.f, l1In_eq, Option.bind_some]
  by_cases h : 0 ≤ a <;> by_cases h' : a ≤ b <;> simp [h, h']
theorem history_eq (a b : Int) : impl_isHistory.f a b = some (decide (0 ≤ a ∧ a ≤ b ∧ b ≤ 60)) := by
  simp only [impl_isHistory.f]
  by_cases h : 0 ≤ a <;> by_cases h' : a ≤ b <;> simp [h, h']

theorem six {n : Nat} (h : n < 6) : n = 0 ∨ n = 1 ∨ n = 2 ∨ n = 3 ∨ n = 4 ∨ n = 5 := by omega
theorem wu_lvl {n : Nat} (h : n < 6) : IntKind.u64.wrap (n : Int) = (n : Int) := wu64 (by omega) (by omega)
theorem shl_lvl {n : Nat} (h : n < 6) {x : Int} (h0 : 0 ≤ x) (h1 : x ≤ 1000) : shl .i64 x (n : Int) = x * 2 ^ n := by
  refine shl_nat (by omega) ?_ ?_ <;> rcases six h with rfl | rfl | rfl | rfl | rfl | rfl <;> omega
theorem shr_lvl {n : Nat} (h : n < 6) (x : Int) : shr .i64 x (n : Int) = x / 2 ^ n := shr_nat (by omega)

theorem same_cover (t : Nat) (ht : t ≤ 60) : ∀ (d f : Nat) (acc : List S29), t - f ≤ d → f ≤ t → acc.length ≤ f →
    ∃ L : List S29, L.length ≤ 60 ∧ Ev (fun k => spec_l8Cover.l0 k (f : Int) (t : Int) acc) L ∧ Ev (fun k => impl_cover.l0 k (t : Int) acc (f : Int)) L := by
  intro d
  induction d with
  | zero =>
    intro f acc hd hf ha
    refine ⟨acc, by omega, Ev_succ ?_, Ev_succ ?_⟩
    · simp only [spec_l8Cover.l0]; exact Ev_f (by omega) (Ev.now _)
    · simp only [impl_cover.l0]; exact Ev_f (by omega) (Ev.now _)
  | succ d ih =>
    intro f acc hd hf ha
    by_cases hlt : f < t
    · have inner : ∀ n : Nat, n < 6 → ∃ L : List S29, L.length ≤ 60 ∧ Ev (fun k => spec_l8Cover.l1 k (f : Int) (t : Int) acc (n : Int)) L ∧ Ev (fun k => impl_cover.l1 k (t : Int) acc (f : Int) (n : Int)) L := by
        intro n
        induction n with
        | zero =>
          intro hn
          have e0 : shl .i64 1 ((0 : Nat) : Int) = 1 := by rw [shl_lvl hn (by omega) (by omega)]; rfl
          obtain ⟨L, hL, p, q⟩ := ih (f + 1) (acc ++ [(⟨((0 : Nat) : Int), shr .i64 (f : Int) ((0 : Nat) : Int)⟩ : S29)]) (by omega) (by omega) (by simp; omega)
          have e1 : wrap64 ((f : Int) + 1) = ((f + 1 : Nat) : Int) := w64_succ hlt (by omega)
          have e3 : Int.tmod (f : Int) 1 = 0 := Int.tmod_one _
          refine ⟨L, hL, Ev_succ ?_, Ev_succ ?_⟩
          · simp only [spec_l8Cover.l1, wu_lvl hn, e0, e1]
            exact Ev_t (by omega) (Ev_f (by omega) (Ev_t e3 (Ev_f (by omega) (Ev_t (by omega) p))))
          · simp only [impl_cover.l1, e0, e1]
            exact Ev_t (by omega) (Ev_f (by omega) (Ev_t e3 (Ev_f (by omega) (Ev_t (by omega) q))))
        | succ n ihn =>
          intro hn
          obtain ⟨L0, hL0, p0, q0⟩ := ihn (by omega)
          have e0 : shl .i64 1 ((n + 1 : Nat) : Int) = ((2 ^ (n + 1) : Nat) : Int) := by rw [shl_lvl hn (by omega) (by omega)]; simp
          have e5 : 0 < 2 ^ (n + 1) := Nat.two_pow_pos _
          have e6 : 2 ^ (n + 1) ≤ 32 := by rcases six hn with h | h | h | h | h | h <;> rw [h] <;> decide
          have e1 : wrap64 ((f : Int) + ((2 ^ (n + 1) : Nat) : Int)) = ((f + 2 ^ (n + 1) : Nat) : Int) := by rw [w64 (by omega) (by omega)]; omega
          have e2 : wrap64 (((n + 1 : Nat) : Int) - 1) = (n : Int) := by rw [w64 (by omega) (by omega)]; omega
          by_cases c : Int.tmod (f : Int) ((2 ^ (n + 1) : Nat) : Int) = 0
          · by_cases c2 : ((f + 2 ^ (n + 1) : Nat) : Int) > (t : Int)
            · refine ⟨L0, hL0, Ev_succ ?_, Ev_succ ?_⟩
              · simp only [spec_l8Cover.l1, wu_lvl hn, e0, e1, e2]
                exact Ev_t (by omega) (Ev_f (by omega) (Ev_t c (Ev_t c2 p0)))
              · simp only [impl_cover.l1, e0, e1, e2]
                exact Ev_t (by omega) (Ev_f (by omega) (Ev_t c (Ev_t c2 q0)))
            · obtain ⟨L, hL, p, q⟩ := ih (f + 2 ^ (n + 1)) (acc ++ [(⟨((n + 1 : Nat) : Int), shr .i64 (f : Int) ((n + 1 : Nat) : Int)⟩ : S29)]) (by omega) (by omega) (by simp; omega)
              refine ⟨L, hL, Ev_succ ?_, Ev_succ ?_⟩
              · simp only [spec_l8Cover.l1, wu_lvl hn, e0, e1, e2]
                exact Ev_t (by omega) (Ev_f (by omega) (Ev_t c (Ev_f c2 (Ev_t (by omega) p))))
              · simp only [impl_cover.l1, e0, e1, e2]
                exact Ev_t (by omega) (Ev_f (by omega) (Ev_t c (Ev_f c2 (Ev_t (by omega) q))))
          · refine ⟨L0, hL0, Ev_succ ?_, Ev_succ ?_⟩
            · simp only [spec_l8Cover.l1, wu_lvl hn, e0, e1, e2]
              exact Ev_t (by omega) (Ev_f (by omega) (Ev_f c p0))
            · simp only [impl_cover.l1, e0, e1, e2]
              exact Ev_t (by omega) (Ev_f (by omega) (Ev_f c q0))
      obtain ⟨L, hL, p, q⟩ := inner 5 (by omega)
      refine ⟨L, hL, Ev_succ ?_, Ev_succ ?_⟩
      · simp only [spec_l8Cover.l0]; exact Ev_t (by omega) p
      · simp only [impl_cover.l0]; exact Ev_t (by omega) q
    · refine ⟨acc, by omega, Ev_succ ?_, Ev_succ ?_⟩
      · simp only [spec_l8Cover.l0]; exact Ev_f (by omega) (Ev.now _)
      · simp only [impl_cover.l0]; exact Ev_f (by omega) (Ev.now _)
theorem tail_CoverOf (a0 a1 a2 a3 : Int) (L : List S29) (b : Bool) (hi : Ev (fun k => impl_CoverOf.f k a0 a1 a2 a3) (L, b)) (hl : L.length ≤ 1048576) : Ev (fun k => laws_FnExactCoverOf.j0 k a0 a1 a2 a3 L b L (b != b)) true := by
  obtain ⟨q, l', h0, hm, hh⟩ := marks_markStratumS L hl
  refine Ev_succ ?_
  simp only [laws_FnExactCoverOf.j0]
  refine Ev_f (by simp) (Ev.bind hm (Ev.bind hh (Ev_f (by omega) (Ev_t rfl (Ev.bind hi (Ev.bind (eqStratumS_ev L (by omega)) (Ev_t rfl (Ev_succ ?_))))))))
  simp only [laws_FnExactCoverOf.j1]
  exact Ev_f (by simp) (Ev.bind hh (Ev_f (by omega) (Ev_t rfl (Ev.now _))))
theorem law_CoverOf (a0 a1 a2 a3 : Int) (L : List S29) (b : Bool) (hs : Ev (fun k => spec_CoverOf.f k a0 a1 a2 a3) (L, b)) (hi : Ev (fun k => impl_CoverOf.f k a0 a1 a2 a3) (L, b)) (hl : L.length ≤ 1048576) : Ev (fun k => laws_FnExactCoverOf.f k a0 a1 a2 a3) true := by
  simp only [laws_FnExactCoverOf.f]
  exact Ev.bind hs (Ev.bind hi (Ev.bind (eqStratumS_ev L (by omega)) (Ev_t rfl (tail_CoverOf a0 a1 a2 a3 L b hi hl))))
end OfFnExactCoverOf
open OfFnExactCoverOf
theorem FnExactCoverOf : laws_FnExactCoverOf.Pure := by
  intro a0 a1 a2 a3 _ _ _ _
  refine Ev.rounds ?_
  by_cases c : (0 ≤ a0 ∧ a0 ≤ a1 ∧ a1 ≤ 60) ∧ a0 ≤ a2 ∧ a2 ≤ a3 ∧ a3 ≤ a1
  · obtain ⟨f, rfl⟩ := Int.eq_ofNat_of_zero_le (show 0 ≤ a2 by omega)
    obtain ⟨h, rfl⟩ := Int.eq_ofNat_of_zero_le (show 0 ≤ a3 by omega)
    obtain ⟨L, hL, p, q⟩ := same_cover h (by omega) h f [] (by omega) (by omega) (by simp)
    refine law_CoverOf _ _ _ _ L true ?_ ?_ (by omega)
    · simp only [spec_CoverOf.f, spec_l8Cover.f, range_eq, l1In_eq, Option.bind_some, c.1, and_self, decide_true, if_true, show a0 ≤ (f : Int) ∧ (f : Int) ≤ (h : Int) from ⟨c.2.1, c.2.2.1⟩]
      exact Ev_f (by omega) (Ev.bind p (Ev.now _))
    · simp only [impl_CoverOf.f, impl_cover.f, history_eq, Option.bind_some, c.1, and_self, decide_true, if_true]
      exact Ev_f (by omega) (Ev_f (by omega) (Ev_f (by omega) (Ev.bind q (Ev.now _))))
  · refine law_CoverOf _ _ _ _ [] false ?_ ?_ (by simp)
    · simp only [spec_CoverOf.f, range_eq, l1In_eq, Option.bind_some, decide_eq_true_eq]
      refine Ev_ite (fun h1 => Ev_ite (fun h2 => Ev_t (by omega) (Ev.now _)) (fun _ => Ev.now _)) (fun _ => Ev.now _)
    · simp only [impl_CoverOf.f, history_eq, Option.bind_some, decide_eq_true_eq]
      refine Ev_ite (fun h1 => Ev_ite (fun _ => Ev.now _) (fun h2 => Ev_ite (fun _ => Ev.now _) (fun h3 => Ev_t (by omega) (Ev.now _)))) (fun _ => Ev.now _)
end Go.Proofs.Ytgeobmfiblgkgaa.Pure
