/-
The pure statement of FnExactAllStrata: the printed functions of the program and of the reference answer alike for every argument within the bounds that the statement tells.
-/
import Derived.Test.YtgeobmfiblgkgaaPFnExactAllStratax2
import Derived.Test.YtgeobmfiblgkgaaLib
namespace Go.Proofs.Ytgeobmfiblgkgaa.Pure
open Go Go.RowKit Go.Proofs.Ytgeobmfiblgkgaa.PFnExactAllStrata Go.Proofs.YtgeobmfiblgkgaaW.PrintWords Go.Proofs.YtgeobmfiblgkgaaW.PrintLast Go.Proofs.YtgeobmfiblgkgaaW.PrintMore Go.Proofs.Ytgeobmfiblgkgaa.Lib
set_option linter.unusedVariables false
set_option linter.unusedSimpArgs false
namespace OfFnExactAllStrata
theorem rd_T29_nat (xs : List S29) (i : Nat) : rd_T29 xs (i : Int) = xs.getD i z29 := by simp [rd_T29]
theorem marks_markStratumS (l : List S29) (hl : l.length ≤ 1048576) : ∃ (q : Int) (l' : List S29), 0 ≤ q ∧ Ev (fun k => laws_markStratumS.f k l 1) (q, l') ∧ Ev (fun k => laws_heldStratumS.f k l' 1) q := by
  refine ⟨1 + 2 * (l.length : Int), (List.range l.length).map fun i : Nat => (⟨1 + 2 * (i : Int), 2 + 2 * (i : Int)⟩ : S29), by omega, ?_, ?_⟩
  · have h := fills_ev (g := fun k x i => laws_markStratumS.l0 k x (1 + 2 * i) i) l.length (fun i : Nat => (⟨1 + 2 * (i : Int), 2 + 2 * (i : Int)⟩ : S29)) (fun x => (1 + 2 * (l.length : Int), x))
      (fun x i hx hi r hr => Ev_succ (by
        simp only [laws_markStratumS.l0, Option.bind_some]
        refine Ev_t (by omega) (Ev_t (by omega) ?_)
        have e0 : wrap64 (1 + 2 * (i : Int) + 1) = 2 + 2 * (i : Int) := by rw [w64 (by omega) (by omega)]; omega
        have e1 : wrap64 (2 + 2 * (i : Int) + 1) = 1 + 2 * ((i + 1 : Nat) : Int) := by rw [w64 (by omega) (by omega)]; omega
        rw [e0, e1, w64_succ hi (by omega)]
        have e2 : rd_T29 (x.set i (⟨1 + 2 * (i : Int), (rd_T29 x (i : Int)).f1⟩ : S29)) (i : Int) = ⟨1 + 2 * (i : Int), (rd_T29 x (i : Int)).f1⟩ := by
          rw [rd_T29_nat]; simp [List.getD, hx, hi]
        simp only [Int.toNat_natCast, e2, List.set_set]
        exact hr))
      (fun x hx => Ev_succ (by simp only [laws_markStratumS.l0]; exact Ev_f (by omega) (Ev.now _)))
      l rfl
    exact h
  · have h := all_ev (g := fun k i => laws_heldStratumS.l0 k ((List.range l.length).map fun i : Nat => (⟨1 + 2 * (i : Int), 2 + 2 * (i : Int)⟩ : S29)) (1 + 2 * i) i) (r := 1 + 2 * (l.length : Int)) l.length
      (fun i hi hr => Ev_succ (by
        simp only [laws_heldStratumS.l0, List.length_map, List.length_range]
        have e0 : wrap64 (1 + 2 * (i : Int) + 1) = 2 + 2 * (i : Int) := by rw [w64 (by omega) (by omega)]; omega
        have e1 : wrap64 (2 + 2 * (i : Int) + 1) = 1 + 2 * ((i + 1 : Nat) : Int) := by rw [w64 (by omega) (by omega)]; omega
        have e2 : rd_T29 ((List.range l.length).map fun i : Nat => (⟨1 + 2 * (i : Int), 2 + 2 * (i : Int)⟩ : S29)) (i : Int) = ⟨1 + 2 * (i : Int), 2 + 2 * (i : Int)⟩ := by
          rw [rd_T29_nat]; simp [List.getD, hi]
        rw [e0, e1, e2, w64_succ hi (by omega)]
        exact Ev_t (by omega) (Ev_t (by omega) (Ev_t rfl (Ev_t rfl hr)))))
      (Ev_succ (by simp only [laws_heldStratumS.l0, List.length_map, List.length_range]; exact Ev_f (by omega) (Ev.now _)))
    exact h

theorem eqStratumS_ev (l : List S29) (hl : l.length ≤ 4611686018427387904) : Ev (fun k => laws_eqStratumS.f k l l) true := by
  have h := all_ev (g := fun k i => laws_eqStratumS.l0 k l l i) (r := true) l.length
    (fun i hi hr => Ev_succ (by
      simp only [laws_eqStratumS.l0, laws_eqStratum.f, if_true, Option.bind_some]
      refine Ev_t (by omega) (Ev_t (by omega) (Ev_t (by omega) ?_))
      rw [w64_succ hi (by omega)]; exact hr))
    (Ev_succ (by simp only [laws_eqStratumS.l0]; exact Ev_f (by omega) (Ev.now _)))
  refine Ev.congr (fun k => ?_) h
  simp only [laws_eqStratumS.f]; rw [if_pos trivial]

theorem l1In_eq (a b c : Int) : spec_l1In.f a b c = some (decide (b ≤ a ∧ a ≤ c)) := by
  simp only [spec_l1In.f]
  by_cases h : b ≤ a <;> simp [h]

theorem range_eq (a b : Int) : spec_l8Range.f a b = some (decide (0 ≤ a ∧ a ≤ b ∧ b ≤ 60)) := by
  simp only [spec_l8Range.f, l1In_eq, Option.bind_some]
  by_cases h : 0 ≤ a <;> by_cases h' : a ≤ b <;> simp [h, h']
theorem history_eq (a b : Int) : impl_isHistory.f a b = some (decide (0 ≤ a ∧ a ≤ b ∧ b ≤ 60)) := by
  simp only [impl_isHistory.f]
  by_cases h : 0 ≤ a <;> by_cases h' : a ≤ b <;> simp [h, h']

theorem six {n : Nat} (h : n < 6) : n = 0 ∨ n = 1 ∨ n = 2 ∨ n = 3 ∨ n = 4 ∨ n = 5 := by omega
theorem wu_lvl {n : Nat} (h : n < 6) : IntKind.u64.wrap (n : Int) = (n : Int) := wu64 (by omega) (by omega)
theorem shl_lvl {n : Nat} (h : n < 6) {x : Int} (h0 : 0 ≤ x) (h1 : x ≤ 1000) : shl .i64 x (n : Int) = x * 2 ^ n := by
  refine shl_nat (by omega) ?_ ?_ <;> rcases six h with rfl | rfl | rfl | rfl | rfl | rfl <;> omega
theorem shr_lvl {n : Nat} (h : n < 6) (x : Int) : shr .i64 x (n : Int) = x / 2 ^ n := shr_nat (by omega)

def seg (f p : Nat) (n : Int) : Nat → Nat → List S29
  | _, 0 => []
  | i, m + 1 => (if f ≤ i * p then [⟨n, (i : Int)⟩] else []) ++ seg f p n (i + 1) m
theorem seg_length (f p : Nat) (n : Int) : ∀ (m i : Nat), (seg f p n i m).length ≤ m := by
  intro m
  induction m with
  | zero => intro i; simp [seg]
  | succ m ih =>
    intro i
    have := ih (i + 1)
    simp only [seg, List.length_append]
    split <;> simp <;> omega
theorem seg_skip (f p : Nat) (n : Int) : ∀ (d i m : Nat), (∀ j, i ≤ j → j < i + d → j * p < f) → seg f p n i (d + m) = seg f p n (i + d) m := by
  intro d
  induction d with
  | zero => intro i m _; simp
  | succ d ih =>
    intro i m h
    rw [show d + 1 + m = (d + m) + 1 by omega]
    simp only [seg]
    rw [if_neg (by have := h i (by omega) (by omega); omega), List.nil_append, ih (i + 1) m (fun j h1 h2 => h j (by omega) (by omega))]
    congr 1
    omega
theorem seg_none (f p : Nat) (n : Int) : ∀ (m i : Nat), (∀ j, i ≤ j → j < i + m → j * p < f) → seg f p n i m = [] := by
  intro m i h
  have := seg_skip f p n m i 0 h
  simpa [seg] using this
theorem spec_lvl (f h n : Nat) (hn : n < 6) (hf : f ≤ h) (hh : h ≤ 60) (r : List S29) : ∀ (m i : Nat) (acc : List S29), i + m = h / 2 ^ n → acc.length + m ≤ 1000 →
    Ev (fun k => spec_l8All.l0 k (f : Int) (h : Int) (acc ++ seg f (2 ^ n) n i m) ((n + 1 : Nat) : Int)) r → Ev (fun k => spec_l8All.l1 k (f : Int) (h : Int) acc (n : Int) (i : Int)) r := by
  intro m
  induction m with
  | zero =>
    intro i acc hi ha hr
    refine Ev_succ ?_
    simp only [spec_l8All.l1, wu_lvl hn]
    have hi60 : i ≤ 60 := by rcases six hn with rfl | rfl | rfl | rfl | rfl | rfl <;> omega
    rw [w64 (n := (i : Int) + 1) (by omega) (by omega), shl_lvl hn (by omega) (by omega), w64_succ hn (by omega)]
    refine Ev_t (by omega) (Ev_f ?_ (by simpa [seg] using hr))
    rcases six hn with rfl | rfl | rfl | rfl | rfl | rfl <;> omega
  | succ m ih =>
    intro i acc hi ha hr
    refine Ev_succ ?_
    simp only [spec_l8All.l1, wu_lvl hn]
    have hi60 : i ≤ 60 := by rcases six hn with rfl | rfl | rfl | rfl | rfl | rfl <;> omega
    rw [w64 (n := (i : Int) + 1) (by omega) (by omega), shl_lvl hn (by omega) (by omega), shl_lvl hn (by omega) (by omega)]
    refine Ev_t (by omega) (Ev_t ?_ ?_)
    · rcases six hn with rfl | rfl | rfl | rfl | rfl | rfl <;> omega
    · by_cases c : f ≤ i * 2 ^ n
      · refine Ev_t ?_ (Ev_t (by omega) ?_)
        · rcases six hn with rfl | rfl | rfl | rfl | rfl | rfl <;> omega
        · refine ih (i + 1) _ (by omega) (by simp; omega) ?_
          simpa [seg, c] using hr
      · refine Ev_f ?_ ?_
        · rcases six hn with rfl | rfl | rfl | rfl | rfl | rfl <;> omega
        · refine ih (i + 1) _ (by omega) (by omega) ?_
          simpa [seg, c] using hr
theorem impl_lvl (f h n : Nat) (hn : n < 6) (hf : f ≤ h) (hh : h ≤ 60) (r : List S29) : ∀ (m i : Nat) (acc : List S29), m = h / 2 ^ n - i → i ≤ 60 → f ≤ i * 2 ^ n → acc.length + m ≤ 1000 →
    Ev (fun k => impl_allStrata.l0 k (f : Int) (h : Int) (acc ++ seg f (2 ^ n) n i m) ((n + 1 : Nat) : Int)) r → Ev (fun k => impl_allStrata.l1 k (f : Int) (h : Int) acc (n : Int) (i : Int) (n : Int)) r := by
  intro m
  induction m with
  | zero =>
    intro i acc hi h6 hp ha hr
    refine Ev_succ ?_
    simp only [impl_allStrata.l1]
    rw [w64 (n := (i : Int) + 1) (by omega) (by omega), shl_lvl hn (by omega) (by omega), w64_succ hn (by omega)]
    refine Ev_t (by omega) (Ev_f ?_ (by simpa [seg] using hr))
    rcases six hn with rfl | rfl | rfl | rfl | rfl | rfl <;> omega
  | succ m ih =>
    intro i acc hi h6 hp ha hr
    refine Ev_succ ?_
    simp only [impl_allStrata.l1]
    have hi59 : i + 1 ≤ 60 := by rcases six hn with rfl | rfl | rfl | rfl | rfl | rfl <;> omega
    rw [w64 (n := (i : Int) + 1) (by omega) (by omega), shl_lvl hn (by omega) (by omega)]
    refine Ev_t (by omega) (Ev_t ?_ (Ev_t (by omega) ?_))
    · rcases six hn with rfl | rfl | rfl | rfl | rfl | rfl <;> omega
    · refine ih (i + 1) _ (by omega) hi59 ?_ (by simp; omega) ?_
      · rcases six hn with rfl | rfl | rfl | rfl | rfl | rfl <;> omega
      · simpa [seg, hp] using hr
theorem same_lvls (f h : Nat) (hf : f ≤ h) (hh : h ≤ 60) : ∀ (d n : Nat) (acc : List S29), n + d = 6 → acc.length ≤ 61 * n → (∀ x ∈ acc, 0 ≤ x.f0 ∧ x.f0 < 6 ∧ 0 ≤ x.f1 ∧ x.f1 ≤ 60) →
    ∃ L : List S29, L.length ≤ 400 ∧ (∀ x ∈ L, 0 ≤ x.f0 ∧ x.f0 < 6 ∧ 0 ≤ x.f1 ∧ x.f1 ≤ 60) ∧ Ev (fun k => spec_l8All.l0 k (f : Int) (h : Int) acc (n : Int)) L ∧ Ev (fun k => impl_allStrata.l0 k (f : Int) (h : Int) acc (n : Int)) L := by
  intro d
  induction d with
  | zero =>
    intro n acc hn ha hw
    refine ⟨acc, by omega, hw, Ev_succ ?_, Ev_succ ?_⟩
    · simp only [spec_l8All.l0]; exact Ev_f (by omega) (Ev.now _)
    · simp only [impl_allStrata.l0]; exact Ev_f (by omega) (Ev.now _)
  | succ d ih =>
    intro n acc hn ha hw
    have hn6 : n < 6 := by omega
    have hq : h / 2 ^ n ≤ 60 := Nat.le_trans (Nat.div_le_self _ _) hh
    have hs := seg_length f (2 ^ n) n (h / 2 ^ n) 0
    have hmem : ∀ (m i : Nat), i + m ≤ 61 → ∀ x ∈ seg f (2 ^ n) (n : Int) i m, 0 ≤ x.f0 ∧ x.f0 < 6 ∧ 0 ≤ x.f1 ∧ x.f1 ≤ 60 := by
      intro m
      induction m with
      | zero => intro i _ x hx; simp [seg] at hx
      | succ m ihm =>
        intro i hi x hx
        simp only [seg, List.mem_append] at hx
        rcases hx with hx | hx
        · split at hx
          · rw [List.mem_singleton] at hx
            subst hx
            exact ⟨by simp, by simp; omega, by simp, by simp; omega⟩
          · simp at hx
        · exact ihm (i + 1) (by omega) x hx
    obtain ⟨L, hL, hLw, p, q⟩ := ih (n + 1) (acc ++ seg f (2 ^ n) n 0 (h / 2 ^ n)) (by omega) (by rw [List.length_append]; omega) (fun x hx => (List.mem_append.1 hx).elim (hw x) (hmem _ _ (by omega) x))
    refine ⟨L, hL, hLw, Ev_succ ?_, Ev_succ ?_⟩
    · simp only [spec_l8All.l0]
      exact Ev_t (by omega) (spec_lvl f h n hn6 hf hh L (h / 2 ^ n) 0 acc (by omega) (by omega) p)
    · simp only [impl_allStrata.l0]
      refine Ev_t (by omega) (Ev_t (by omega) ?_)
      have e0 : shr .i64 (wrap64 (wrap64 ((f : Int) + shl .i64 1 (n : Int)) - 1)) (n : Int) = (((f + 2 ^ n - 1) / 2 ^ n : Nat) : Int) := by
        rw [shl_lvl hn6 (by omega) (by omega)]
        rw [w64 (n := (f : Int) + 1 * 2 ^ n) (by rcases six hn6 with rfl | rfl | rfl | rfl | rfl | rfl <;> omega) (by rcases six hn6 with rfl | rfl | rfl | rfl | rfl | rfl <;> omega)]
        rw [w64 (n := (f : Int) + 1 * 2 ^ n - 1) (by rcases six hn6 with rfl | rfl | rfl | rfl | rfl | rfl <;> omega) (by rcases six hn6 with rfl | rfl | rfl | rfl | rfl | rfl <;> omega)]
        rw [shr_lvl hn6]
        rcases six hn6 with rfl | rfl | rfl | rfl | rfl | rfl <;> omega
      rw [e0]
      have e1 : seg f (2 ^ n) (n : Int) 0 (h / 2 ^ n) = seg f (2 ^ n) (n : Int) ((f + 2 ^ n - 1) / 2 ^ n) (h / 2 ^ n - (f + 2 ^ n - 1) / 2 ^ n) := by
        by_cases c : (f + 2 ^ n - 1) / 2 ^ n ≤ h / 2 ^ n
        · have := seg_skip f (2 ^ n) (n : Int) ((f + 2 ^ n - 1) / 2 ^ n) 0 (h / 2 ^ n - (f + 2 ^ n - 1) / 2 ^ n) (fun j _ hj => by
            rcases six hn6 with rfl | rfl | rfl | rfl | rfl | rfl <;> omega)
          rw [Nat.zero_add] at this
          rw [← this]
          congr 1
          omega
        · rw [show h / 2 ^ n - (f + 2 ^ n - 1) / 2 ^ n = 0 by omega]
          rw [seg_none f (2 ^ n) (n : Int) (h / 2 ^ n) 0 (fun j _ hj => by
            rcases six hn6 with rfl | rfl | rfl | rfl | rfl | rfl <;> omega)]
          simp [seg]
      refine impl_lvl f h n hn6 hf hh L _ _ acc rfl ?_ ?_ (by have := Nat.sub_le (h / 2 ^ n) ((f + 2 ^ n - 1) / 2 ^ n); omega) (by rw [← e1]; exact q)
      · rcases six hn6 with rfl | rfl | rfl | rfl | rfl | rfl <;> omega
      · rcases six hn6 with rfl | rfl | rfl | rfl | rfl | rfl <;> omega
theorem same_all (f h : Nat) (hf : f ≤ h) (hh : h ≤ 60) : ∃ L : List S29, L.length ≤ 400 ∧ (∀ x ∈ L, 0 ≤ x.f0 ∧ x.f0 < 6 ∧ 0 ≤ x.f1 ∧ x.f1 ≤ 60) ∧ Ev (fun k => spec_l8All.f k (f : Int) (h : Int)) L ∧ Ev (fun k => impl_allStrata.f k (f : Int) (h : Int)) L :=
  same_lvls f h hf hh 6 0 [] (by omega) (by simp) (by simp)

theorem tail_AllStrata (a0 a1 : Int) (L : List S29) (b : Bool) (hi : Ev (fun k => impl_AllStrata.f k a0 a1) (L, b)) (hl : L.length ≤ 1048576) : Ev (fun k => laws_FnExactAllStrata.j0 k a0 a1 L b L (b != b)) true := by
  obtain ⟨q, l', h0, hm, hh⟩ := marks_markStratumS L hl
  refine Ev_succ ?_
  simp only [laws_FnExactAllStrata.j0]
  refine Ev_f (by simp) (Ev.bind hm (Ev.bind hh (Ev_f (by omega) (Ev_t rfl (Ev.bind hi (Ev.bind (eqStratumS_ev L (by omega)) (Ev_t rfl (Ev_succ ?_))))))))
  simp only [laws_FnExactAllStrata.j1]
  exact Ev_f (by simp) (Ev.bind hh (Ev_f (by omega) (Ev_t rfl (Ev.now _))))
theorem law_AllStrata (a0 a1 : Int) (L : List S29) (b : Bool) (hs : Ev (fun k => spec_AllStrata.f k a0 a1) (L, b)) (hi : Ev (fun k => impl_AllStrata.f k a0 a1) (L, b)) (hl : L.length ≤ 1048576) : Ev (fun k => laws_FnExactAllStrata.f k a0 a1) true := by
  simp only [laws_FnExactAllStrata.f]
  exact Ev.bind hs (Ev.bind hi (Ev.bind (eqStratumS_ev L (by omega)) (Ev_t rfl (tail_AllStrata a0 a1 L b hi hl))))
end OfFnExactAllStrata
open OfFnExactAllStrata
theorem FnExactAllStrata : laws_FnExactAllStrata.Pure := by
  intro a0 a1 _ _
  refine Ev.rounds ?_
  by_cases c : 0 ≤ a0 ∧ a0 ≤ a1 ∧ a1 ≤ 60
  · obtain ⟨f, rfl⟩ := Int.eq_ofNat_of_zero_le c.1
    obtain ⟨h, rfl⟩ := Int.eq_ofNat_of_zero_le (show 0 ≤ a1 by omega)
    obtain ⟨L, hL, _, p, q⟩ := same_all f h (by omega) (by omega)
    refine law_AllStrata _ _ L true ?_ ?_ (by omega)
    · simp only [spec_AllStrata.f, range_eq, Option.bind_some, c, and_self, decide_true, if_true]
      exact Ev.bind p (Ev.now _)
    · simp only [impl_AllStrata.f, history_eq, Option.bind_some, c, and_self, decide_true, if_true]
      exact Ev.bind q (Ev.now _)
  · refine law_AllStrata _ _ [] false ?_ ?_ (by simp)
    · simp only [spec_AllStrata.f, range_eq, Option.bind_some, c, decide_false, Bool.false_eq_true, if_false]
      exact Ev.now _
    · simp only [impl_AllStrata.f, history_eq, Option.bind_some, c, decide_false, Bool.false_eq_true, if_false]
      exact Ev.now _
end Go.Proofs.Ytgeobmfiblgkgaa.Pure
