/-
The pure statement of FnExactCarryRuns: the printed functions of the program and of the reference answer alike for every argument within the bounds that the statement tells.
-/
import Derived.Test.YtdlicabmalljpaaWfFnExactCarryRuns
namespace Go.Proofs.Ytdlicabmalljpaa.Pure
open Go Go.RowKit Go.Proofs.Ytdlicabmalljpaa.PFnExactCarryRuns Go.Proofs.YtdlicabmalljpaaW.PrintWords Go.Proofs.YtdlicabmalljpaaW.PrintLast Go.Proofs.YtdlicabmalljpaaW.PrintMore Go.Proofs.Ytdlicabmalljpaa.Lib
set_option linter.unusedVariables false
set_option linter.unusedSimpArgs false
namespace OfFnExactCarryRuns
theorem list_size0 {s : ByteArray} : s.toList = [] ↔ s.size = 0 := by
  rw [ByteArray.toList_eq]
  constructor
  · intro h
    have : s.data.toList.length = 0 := by rw [h]; rfl
    simpa using this
  · intro h
    exact List.eq_nil_of_length_eq_zero (by simpa using h)
def kd3 (a b : Int) (s : ByteArray) : Int := if a > 0 ∧ b = 0 ∧ s.toList = [] then 1 else if b > 0 ∧ a = 0 ∧ s.toList = [] then 2 else if ¬ s.toList = [] ∧ a = 0 ∧ b = 0 then 3 else 0
def kd (p : S89) : Int := kd3 p.f0 p.f1 p.f2
def okk : Int → List S89 → Bool
  | _, [] => true
  | q, p :: c => (decide (kd p ≠ 0) && decide (kd p ≠ q)) && okk (kd p) c
def src : List S89 → Int
  | [] => 0
  | p :: c => p.f0 + p.f1 + src c
def tgt : List S89 → Int
  | [] => 0
  | p :: c => p.f0 + (p.f2.size : Int) + tgt c
def goodB (c : List S89) : Bool := okk 0 c && (decide (src c ≤ 120) && decide (tgt c ≤ 120))
theorem kd_pos {p : S89} (h : kd p ≠ 0) : 0 ≤ p.f0 ∧ 0 ≤ p.f1 ∧ ((kd p = 1 ∧ 0 < p.f0 ∧ p.f1 = 0 ∧ p.f2.size = 0) ∨ (kd p = 2 ∧ 0 < p.f1 ∧ p.f0 = 0 ∧ p.f2.size = 0) ∨ (kd p = 3 ∧ p.f0 = 0 ∧ p.f1 = 0 ∧ 0 < p.f2.size)) := by
  unfold kd kd3 at *
  simp only [list_size0] at *
  split at h
  · rename_i h1
    rw [if_pos h1]
    exact ⟨by omega, by omega, Or.inl ⟨rfl, h1.1, h1.2.1, h1.2.2⟩⟩
  · rename_i h1
    rw [if_neg h1]
    split at h
    · rename_i h2
      rw [if_pos h2]
      exact ⟨by omega, by omega, Or.inr (Or.inl ⟨rfl, h2.1, h2.2.1, h2.2.2⟩)⟩
    · rename_i h2
      rw [if_neg h2]
      split at h
      · rename_i h3
        rw [if_pos h3]
        exact ⟨by omega, by omega, Or.inr (Or.inr ⟨rfl, h3.2.1, h3.2.2, by omega⟩)⟩
      · exact absurd rfl h
theorem okk_cons {q : Int} {p : S89} {c : List S89} (h : okk q (p :: c) = true) : kd p ≠ 0 ∧ kd p ≠ q ∧ okk (kd p) c = true := by
  simp only [okk, Bool.and_eq_true, decide_eq_true_eq] at h
  exact ⟨h.1.1, h.1.2, h.2⟩
theorem okk_any {q : Int} {c : List S89} (h : okk q c = true) : okk 0 c = true := by
  cases c with
  | nil => rfl
  | cons p c => obtain ⟨h1, h2, h3⟩ := okk_cons h; simp only [okk, Bool.and_eq_true, decide_eq_true_eq]; exact ⟨⟨h1, h1⟩, h3⟩
theorem okk_nonneg : ∀ (c : List S89) (q : Int), okk q c = true → 0 ≤ src c ∧ 0 ≤ tgt c ∧ (c.length : Int) ≤ src c + tgt c := by
  intro c
  induction c with
  | nil => intro q _; simp [src, tgt]
  | cons p c ih =>
    intro q h
    obtain ⟨h1, _, h3⟩ := okk_cons h
    obtain ⟨g0, g1, g2⟩ := ih _ h3
    obtain ⟨k0, k1, k2⟩ := kd_pos h1
    simp only [src, tgt, List.length_cons]
    omega
theorem rd_mid (pre : List S89) (p : S89) (suf : List S89) : rd_T89 (pre ++ p :: suf) (pre.length : Int) = p := by simp [rd_T89]
theorem rd_prev (pre : List S89) (p : S89) (suf : List S89) (h : pre.length < 9000000000000000000) : rd_T89 (pre ++ p :: suf) (wrap64 (((pre ++ [p]).length : Int) - 1)) = p := by
  rw [w64 (by simp only [List.length_append, List.length_cons, List.length_nil]; omega) (by simp only [List.length_append, List.length_cons, List.length_nil]; omega)]
  simp [rd_T89]
theorem append_one (pre : List S89) (p : S89) (suf : List S89) : pre ++ p :: suf = (pre ++ [p]) ++ suf := by simp
theorem len_one (pre : List S89) (p : S89) (h : pre.length < 9000000000000000000) : wrap64 ((pre.length : Int) + 1) = ((pre ++ [p]).length : Int) := by
  rw [w64 (by omega) (by omega)]; simp

theorem l1Kind_j1 (x : Bool) (a b : Int) (s : ByteArray) : Ev (fun k => spec_l1Kind.j1 k x a b s) (if x = true then 2 else if ¬ s.toList = [] ∧ a = 0 ∧ b = 0 then 3 else 0) := by
  refine Ev_succ ?_
  simp only [spec_l1Kind.j1]
  refine ⟨0, fun k _ => ?_⟩
  by_cases h1 : x = true <;> by_cases h2 : a = 0 <;> by_cases h3 : b = 0 <;> by_cases h4 : s.toList = [] <;> simp [h1, h2, h3, h4]
theorem l1Kind_j0 (x : Bool) (a b : Int) (s : ByteArray) : Ev (fun k => spec_l1Kind.j0 k x a b s) (if x = true then 1 else if b > 0 ∧ a = 0 ∧ s.toList = [] then 2 else if ¬ s.toList = [] ∧ a = 0 ∧ b = 0 then 3 else 0) := by
  refine Ev_succ ?_
  simp only [spec_l1Kind.j0]
  refine Ev_ite (fun h1 => by rw [if_pos h1]; exact Ev.now _) (fun h1 => ?_)
  rw [if_neg h1]
  refine Ev_ite (fun h2 => Ev_ite (fun h3 => Ev_eq (l1Kind_j1 _ _ _ _) ?_) (fun h3 => Ev_eq (l1Kind_j1 _ _ _ _) ?_)) (fun h2 => Ev_eq (l1Kind_j1 _ _ _ _) ?_)
  · by_cases h4 : s.toList = [] <;> simp [h2, h3, h4]
  · simp [h3]
  · simp [h2]
theorem l1Kind_ev (a b : Int) (s : ByteArray) : Ev (fun k => spec_l1Kind.f k a b s) (kd3 a b s) := by
  simp only [spec_l1Kind.f, kd3]
  refine Ev_ite (fun h1 => Ev_ite (fun h2 => Ev_eq (l1Kind_j0 _ _ _ _) ?_) (fun h2 => Ev_eq (l1Kind_j0 _ _ _ _) ?_)) (fun h1 => Ev_eq (l1Kind_j0 _ _ _ _) ?_)
  · by_cases h4 : s.toList = [] <;> simp [h1, h2, h4]
  · simp [h2]
  · simp [h1]

theorem kind_j1 (x : Bool) (a b : Int) (s : ByteArray) : Ev (fun k => impl_Part_kind.j1 k x a b s) (if x = true then 2 else if ¬ s.toList = [] ∧ a = 0 ∧ b = 0 then 3 else 0) := by
  refine Ev_succ ?_
  simp only [impl_Part_kind.j1]
  refine ⟨0, fun k _ => ?_⟩
  by_cases h1 : x = true <;> by_cases h2 : a = 0 <;> by_cases h3 : b = 0 <;> by_cases h4 : s.toList = [] <;> simp [h1, h2, h3, h4]
theorem kind_j0 (x : Bool) (a b : Int) (s : ByteArray) : Ev (fun k => impl_Part_kind.j0 k x a b s) (if x = true then 1 else if b > 0 ∧ a = 0 ∧ s.toList = [] then 2 else if ¬ s.toList = [] ∧ a = 0 ∧ b = 0 then 3 else 0) := by
  refine Ev_succ ?_
  simp only [impl_Part_kind.j0]
  refine Ev_ite (fun h1 => by rw [if_pos h1]; exact Ev.now _) (fun h1 => ?_)
  rw [if_neg h1]
  refine Ev_ite (fun h3 => Ev_ite (fun h2 => Ev_eq (kind_j1 _ _ _ _) ?_) (fun h2 => Ev_eq (kind_j1 _ _ _ _) ?_)) (fun h3 => Ev_eq (kind_j1 _ _ _ _) ?_)
  · by_cases h4 : s.toList = [] <;> simp [h2, h3, h4]
  · simp [h2]
  · simp [h3]
theorem kind_ev (a b : Int) (s : ByteArray) : Ev (fun k => impl_Part_kind.f k a b s) (kd3 a b s) := by
  simp only [impl_Part_kind.f, kd3]
  refine Ev_ite (fun h1 => Ev_ite (fun h2 => Ev_eq (kind_j0 _ _ _ _) ?_) (fun h2 => Ev_eq (kind_j0 _ _ _ _) ?_)) (fun h1 => Ev_eq (kind_j0 _ _ _ _) ?_)
  · by_cases h4 : s.toList = [] <;> simp [h1, h2, h4]
  · simp [h2]
  · simp [h1]

theorem specGood_j (l : List S89) (i s t : Int) (b : Bool) (x y : Int) (z : ByteArray) (r : Bool) (hb : b = true → r = false)
    (h1 : b = false → wrap64 (s + wrap64 (x + y)) > 120 → r = false) (h2 : b = false → wrap64 (t + wrap64 (x + (z.size : Int))) > 120 → r = false)
    (h3 : b = false → ¬ wrap64 (s + wrap64 (x + y)) > 120 → ¬ wrap64 (t + wrap64 (x + (z.size : Int))) > 120 → Ev (fun k => spec_GoodChange.l0 k l (wrap64 (s + wrap64 (x + y))) (wrap64 (t + wrap64 (x + (z.size : Int)))) l (l.length : Int) (wrap64 (i + 1))) r) :
    Ev (fun k => spec_GoodChange.j1 k l s t l (l.length : Int) i b x y z) r := by
  refine Ev_succ ?_
  simp only [spec_GoodChange.j1]
  refine Ev_ite (fun h => Ev_eq (Ev.now _) (hb h).symm) (fun h => ?_)
  have hf : b = false := by simpa using h
  exact Ev_ite (fun h4 => Ev_eq (Ev.now _) (h1 hf h4).symm) (fun h4 => Ev_ite (fun h5 => Ev_eq (Ev.now _) (h2 hf h5).symm) (fun h5 => h3 hf h4 h5))
def goodFrom (q s t : Int) (c : List S89) : Bool := okk q c && (decide (s + src c ≤ 120) && decide (t + tgt c ≤ 120))
theorem goodFrom_false {q s t : Int} {p : S89} {c : List S89} (h : okk (kd p) c = true → ¬ (s + (p.f0 + p.f1 + src c) ≤ 120 ∧ t + (p.f0 + (p.f2.size : Int) + tgt c) ≤ 120)) : goodFrom q s t (p :: c) = false := by
  unfold goodFrom
  cases ho : okk q (p :: c) with
  | false => rfl
  | true =>
    obtain ⟨_, _, h3⟩ := okk_cons ho
    have := h h3
    simp only [src, tgt, Bool.true_and]
    by_cases h4 : s + (p.f0 + p.f1 + src c) ≤ 120 <;> by_cases h5 : t + (p.f0 + (p.f2.size : Int) + tgt c) ≤ 120 <;> simp [h4, h5]
    exact this ⟨h4, h5⟩
theorem specGood_loop (l : List S89) (hz : ∀ p ∈ l, p.f2.size ≤ 1048576) (hl : l.length ≤ 1048576) : ∀ (suf pre : List S89), l = pre ++ suf → ∀ q s t : Int, 0 ≤ s → s ≤ 120 → 0 ≤ t → t ≤ 120 → (pre = [] → q = 0) →
    (pre ≠ [] → kd (rd_T89 l (wrap64 ((pre.length : Int) - 1))) = q) → Ev (fun k => spec_GoodChange.l0 k l s t l (l.length : Int) (pre.length : Int)) (goodFrom q s t suf) := by
  intro suf
  induction suf with
  | nil =>
    intro pre he q s t s0 s1 t0 t1 hq hp
    refine Ev_succ ?_
    have hlen : l.length = pre.length := by rw [he]; simp
    simp only [spec_GoodChange.l0]
    refine Ev_f (by omega) (Ev_eq (Ev.now _) ?_)
    simp [goodFrom, okk, src, tgt, s1, t1]
  | cons p suf ih =>
    intro pre he q s t s0 s1 t0 t1 hq hp
    have hlen : l.length = pre.length + (suf.length + 1) := by rw [he]; simp
    have hmem : p ∈ l := by rw [he]; simp
    have hzp := hz p hmem
    have hrd : rd_T89 l (pre.length : Int) = p := by rw [he]; exact rd_mid pre p suf
    have hnext := ih (pre ++ [p]) (by rw [he]; simp) (kd p)
    have hj : ∀ b : Bool, (b = true → goodFrom q s t (p :: suf) = false) → (b = false → kd p ≠ 0 ∧ kd p ≠ q ∧ p.f0 ≤ 120 ∧ p.f1 ≤ 120 ∧ (p.f2.size : Int) ≤ 120) →
        Ev (fun k => spec_GoodChange.j1 k l s t l (l.length : Int) (pre.length : Int) b p.f0 p.f1 p.f2) (goodFrom q s t (p :: suf)) := by
      intro b hb1 hb2
      refine specGood_j l _ s t b _ _ _ _ hb1 ?_ ?_ ?_
      · intro hb h
        obtain ⟨h1, h2, h3, h4, h5⟩ := hb2 hb
        obtain ⟨k0, k1, _⟩ := kd_pos h1
        rw [w64 (n := p.f0 + p.f1) (by omega) (by omega), w64 (n := s + (p.f0 + p.f1)) (by omega) (by omega)] at h
        refine goodFrom_false (fun ho => ?_)
        have := okk_nonneg _ _ ho
        omega
      · intro hb h
        obtain ⟨h1, h2, h3, h4, h5⟩ := hb2 hb
        obtain ⟨k0, k1, _⟩ := kd_pos h1
        rw [w64 (n := p.f0 + (p.f2.size : Int)) (by omega) (by omega), w64 (n := t + (p.f0 + (p.f2.size : Int))) (by omega) (by omega)] at h
        refine goodFrom_false (fun ho => ?_)
        have := okk_nonneg _ _ ho
        omega
      · intro hb ha hc
        obtain ⟨h1, h2, h3, h4, h5⟩ := hb2 hb
        obtain ⟨k0, k1, _⟩ := kd_pos h1
        rw [w64 (n := p.f0 + p.f1) (by omega) (by omega), w64 (n := s + (p.f0 + p.f1)) (by omega) (by omega)] at ha ⊢
        rw [w64 (n := p.f0 + (p.f2.size : Int)) (by omega) (by omega), w64 (n := t + (p.f0 + (p.f2.size : Int))) (by omega) (by omega)] at hc ⊢
        rw [len_one pre p (by omega)]
        have := hnext (s + (p.f0 + p.f1)) (t + (p.f0 + (p.f2.size : Int))) (by omega) (by omega) (by omega) (by omega) (fun h => by simp at h) (fun _ => by rw [he, rd_prev pre p suf (by omega)])
        refine Ev_eq this ?_
        simp [goodFrom, okk, src, tgt, h1, h2, Int.add_assoc]
    have hfin : kd p ≠ 0 → kd p ≠ q → Ev (fun k => if p.f0 > 120 then spec_GoodChange.j1 k l s t l (l.length : Int) (pre.length : Int) true p.f0 p.f1 p.f2 else if p.f1 > 120 then spec_GoodChange.j1 k l s t l (l.length : Int) (pre.length : Int) true p.f0 p.f1 p.f2 else spec_GoodChange.j1 k l s t l (l.length : Int) (pre.length : Int) (decide ((p.f2.size : Int) > 120)) p.f0 p.f1 p.f2) (goodFrom q s t (p :: suf)) := by
      intro h1 h2
      obtain ⟨k0, k1, _⟩ := kd_pos h1
      have big : (p.f0 > 120 ∨ p.f1 > 120 ∨ (p.f2.size : Int) > 120) → goodFrom q s t (p :: suf) = false := by
        intro hbig
        refine goodFrom_false (fun ho => ?_)
        have := okk_nonneg _ _ ho
        omega
      refine Ev_ite (fun h => hj _ (fun _ => big (Or.inl h)) (fun h => by cases h)) (fun h3 => Ev_ite (fun h => hj _ (fun _ => big (Or.inr (Or.inl h))) (fun h => by cases h)) (fun h4 => hj _ (fun h => big (Or.inr (Or.inr (by simpa using h)))) (fun h => ⟨h1, h2, by omega, by omega, by simpa using h⟩)))
    refine Ev_succ ?_
    simp only [spec_GoodChange.l0, hrd]
    refine Ev_t (by omega) (Ev_t (by omega) (Ev_t (by omega) (Ev.bind (l1Kind_ev _ _ _) ?_)))
    refine Ev_ite (fun h => hj _ (fun _ => ?_) (fun h => by cases h)) (fun h1 => Ev_ite (fun h2 => Ev_t ?_ (Ev_t ?_ (Ev.bind (l1Kind_ev _ _ _) (Ev_ite (fun h3 => hj _ (fun _ => ?_) (fun h => by cases h)) (fun h3 => hfin h1 (fun h4 => h3 ?_)))))) (fun h2 => hfin h1 (fun h4 => ?_)))
    · have : kd p = 0 := h
      simp [goodFrom, okk, this]
    · rw [w64 (by omega) (by omega)]; omega
    · rw [w64 (by omega) (by omega)]; omega
    · have h5 : kd (rd_T89 l (wrap64 ((pre.length : Int) - 1))) = kd p := h3
      rw [hp (fun h => by rw [h] at h2; simp at h2)] at h5
      simp [goodFrom, okk, h5]
    · have h5 := hp (fun h => by rw [h] at h2; simp at h2)
      exact h5.trans h4.symm
    · have h5 : pre = [] := List.eq_nil_of_length_eq_zero (by omega)
      rw [hq h5] at h4
      exact h1 h4
theorem specGood_ev (l : List S89) (hz : ∀ p ∈ l, p.f2.size ≤ 1048576) (hl : l.length ≤ 1048576) : Ev (fun k => spec_GoodChange.f k l) (goodB l) := by
  have h := specGood_loop l hz hl l [] rfl 0 0 0 (by omega) (by omega) (by omega) (by omega) (fun _ => rfl) (fun h => absurd rfl h)
  simp only [spec_GoodChange.f]
  refine Ev_eq h ?_
  simp [goodFrom, goodB]

def lensOf (l : List S89) : Int × Int × Bool := if src l ≤ 120 ∧ tgt l ≤ 120 then (src l, tgt l, true) else (0, 0, false)
theorem lengths_loop (l : List S89) (hz : ∀ p ∈ l, p.f2.size ≤ 1048576) (hl : l.length ≤ 1048576) : ∀ (suf pre : List S89), l = pre ++ suf → ∀ q s t : Int, 0 ≤ s → s ≤ 120 → 0 ≤ t → t ≤ 120 → okk q suf = true →
    Ev (fun k => impl_lengths.l0 k s t l (l.length : Int) (pre.length : Int)) (if s + src suf ≤ 120 ∧ t + tgt suf ≤ 120 then (s + src suf, t + tgt suf, true) else (0, 0, false)) := by
  intro suf
  induction suf with
  | nil =>
    intro pre he q s t s0 s1 t0 t1 _
    refine Ev_succ ?_
    have hlen : l.length = pre.length := by rw [he]; simp
    simp only [impl_lengths.l0]
    refine Ev_f (by omega) (Ev_eq (Ev.now _) ?_)
    simp [src, tgt, s1, t1]
  | cons p suf ih =>
    intro pre he q s t s0 s1 t0 t1 hok
    obtain ⟨h1, _, h3⟩ := okk_cons hok
    obtain ⟨k0, k1, _⟩ := kd_pos h1
    obtain ⟨n0, n1, _⟩ := okk_nonneg _ _ h3
    have hlen : l.length = pre.length + (suf.length + 1) := by rw [he]; simp
    have hmem : p ∈ l := by rw [he]; simp
    have hzp := hz p hmem
    have hrd : rd_T89 l (pre.length : Int) = p := by rw [he]; exact rd_mid pre p suf
    have hnext := ih (pre ++ [p]) (by rw [he]; simp) (kd p)
    have hj : ∀ b : Bool, (b = true → p.f0 > 120 ∨ p.f1 > 120) → (b = false → p.f0 ≤ 120 ∧ p.f1 ≤ 120) →
        Ev (fun k => impl_lengths.j1 k s t l (l.length : Int) (pre.length : Int) b p.f0 p.f1 p.f2) (if s + src (p :: suf) ≤ 120 ∧ t + tgt (p :: suf) ≤ 120 then (s + src (p :: suf), t + tgt (p :: suf), true) else (0, 0, false)) := by
      intro b hb1 hb2
      refine Ev_succ ?_
      simp only [impl_lengths.j1]
      simp only [src, tgt]
      refine Ev_ite (fun h => Ev_eq (Ev.now _) ?_) (fun h => ?_)
      · have := hb1 h
        exact (if_neg (by omega)).symm
      · have hb : b = false := by simpa using h
        have := hb2 hb
        rw [w64 (n := p.f0 + p.f1) (by omega) (by omega), w64 (n := s + (p.f0 + p.f1)) (by omega) (by omega), w64 (n := p.f0 + (p.f2.size : Int)) (by omega) (by omega), w64 (n := t + (p.f0 + (p.f2.size : Int))) (by omega) (by omega)]
        refine Ev_ite (fun h => Ev_eq (Ev.now _) (if_neg (by omega)).symm) (fun h4 => Ev_ite (fun h => Ev_eq (Ev.now _) (if_neg (by omega)).symm) (fun h5 => ?_))
        rw [len_one pre p (by omega)]
        refine Ev_eq (hnext (s + (p.f0 + p.f1)) (t + (p.f0 + (p.f2.size : Int))) (by omega) (by omega) (by omega) (by omega) h3) ?_
        simp [Int.add_assoc]
    refine Ev_succ ?_
    simp only [impl_lengths.l0, hrd]
    exact Ev_t (by omega) (Ev_t (by omega) (Ev_t (by omega) (Ev_ite (fun h => hj _ (fun _ => Or.inl h) (fun h => by cases h)) (fun h => hj _ (fun h => Or.inr (by simpa using h)) (fun h6 => ⟨by omega, by simpa using h6⟩)))))
theorem lengths_ev (l : List S89) (hz : ∀ p ∈ l, p.f2.size ≤ 1048576) (hl : l.length ≤ 1048576) (ho : okk 0 l = true) : Ev (fun k => impl_lengths.f k l) (lensOf l) := by
  have h := lengths_loop l hz hl l [] rfl 0 0 0 (by omega) (by omega) (by omega) (by omega) ho
  simp only [impl_lengths.f]
  refine Ev_eq h ?_
  simp [lensOf]

theorem implGood_loop (l : List S89) (hz : ∀ p ∈ l, p.f2.size ≤ 1048576) (hl : l.length ≤ 1048576) : ∀ (suf pre : List S89), l = pre ++ suf → ∀ q : Int, (pre = [] → q = 0) →
    (pre ≠ [] → kd (rd_T89 l (wrap64 ((pre.length : Int) - 1))) = q) → (okk q suf = true → okk 0 l = true) → Ev (fun k => impl_GoodChange.l0 k l l (l.length : Int) (pre.length : Int)) (okk q suf && (decide (src l ≤ 120) && decide (tgt l ≤ 120))) := by
  intro suf
  induction suf with
  | nil =>
    intro pre he q hq hp hok
    refine Ev_succ ?_
    have hlen : l.length = pre.length := by rw [he]; simp
    simp only [impl_GoodChange.l0]
    refine Ev_f (by omega) (Ev.bind (lengths_ev l hz hl (hok rfl)) (Ev_eq (Ev.now _) ?_))
    unfold lensOf
    by_cases h1 : src l ≤ 120 <;> by_cases h2 : tgt l ≤ 120 <;> simp [h1, h2, okk]
  | cons p suf ih =>
    intro pre he q hq hp hok
    have hlen : l.length = pre.length + (suf.length + 1) := by rw [he]; simp
    have hrd : rd_T89 l (pre.length : Int) = p := by rw [he]; exact rd_mid pre p suf
    have hnext := ih (pre ++ [p]) (by rw [he]; simp) (kd p) (fun h => by simp at h) (fun _ => by rw [he, rd_prev pre p suf (by omega)])
    have hgo : kd p ≠ 0 → kd p ≠ q → Ev (fun k => impl_GoodChange.l0 k l l (l.length : Int) (wrap64 ((pre.length : Int) + 1))) (okk q (p :: suf) && (decide (src l ≤ 120) && decide (tgt l ≤ 120))) := by
      intro h1 h2
      rw [len_one pre p (by omega)]
      have e : okk q (p :: suf) = okk (kd p) suf := by simp [okk, h1, h2]
      rw [e]
      exact hnext (fun h => hok (e.trans h))
    refine Ev_succ ?_
    simp only [impl_GoodChange.l0, hrd]
    refine Ev_t (by omega) (Ev_t (by omega) (Ev_t (by omega) (Ev.bind (kind_ev _ _ _) ?_)))
    refine Ev_ite (fun h => Ev_eq (Ev.now _) ?_) (fun h1 => Ev_ite (fun h2 => Ev_t ?_ (Ev_t ?_ (Ev.bind (kind_ev _ _ _) (Ev_ite (fun h3 => Ev_eq (Ev.now _) ?_) (fun h3 => hgo h1 (fun h4 => h3 ?_)))))) (fun h2 => hgo h1 (fun h4 => ?_)))
    · have : kd p = 0 := h
      simp [okk, this]
    · rw [w64 (by omega) (by omega)]; omega
    · rw [w64 (by omega) (by omega)]; omega
    · have h5 : kd (rd_T89 l (wrap64 ((pre.length : Int) - 1))) = kd p := h3
      rw [hp (fun h => by rw [h] at h2; simp at h2)] at h5
      simp [okk, h5]
    · have h5 := hp (fun h => by rw [h] at h2; simp at h2)
      exact h5.trans h4.symm
    · have h5 : pre = [] := List.eq_nil_of_length_eq_zero (by omega)
      rw [hq h5] at h4
      exact h1 h4
theorem implGood_ev (l : List S89) (hz : ∀ p ∈ l, p.f2.size ≤ 1048576) (hl : l.length ≤ 1048576) : Ev (fun k => impl_GoodChange.f k l) (goodB l) := by
  have h := implGood_loop l hz hl l [] rfl 0 (fun _ => rfl) (fun h => absurd rfl h) (fun h => h)
  simp only [impl_GoodChange.f]
  exact Ev_eq h rfl

theorem rd_T84_nat (xs : List S84) (i : Nat) : rd_T84 xs (i : Int) = xs.getD i z84 := by simp [rd_T84]
theorem rd_T89_nat (xs : List S89) (i : Nat) : rd_T89 xs (i : Int) = xs.getD i z89 := by simp [rd_T89]
def im (p : S84) : S89 := ⟨p.f0, p.f1, p.f2⟩
theorem toPartS_ev (l : List S84) (hl : l.length ≤ 1048576) : Ev (fun k => laws_toPartS.f k l) (l.map im) := by
  have h := fill_ev (g := fun k x i => laws_toPartS.l0 k l x i) l z84 im
    (fun x i hx hi hr => Ev_succ (by
      simp only [laws_toPartS.l0, laws_toPart.f, Option.bind_some]
      refine Ev_t (by omega) (Ev_t (by omega) (Ev_t (by omega) ?_))
      rw [w64_succ hi (by omega)]
      simpa [rd_T84_nat, im] using hr))
    (fun x hx => Ev_succ (by simp only [laws_toPartS.l0]; exact Ev_f (by omega) (Ev.now _)))
    (List.replicate l.length z89) (by simp)
  refine Ev.congr (fun k => ?_) h
  simp only [laws_toPartS.f]
  rw [if_pos (by omega), if_pos (by simp; omega)]
  simp
theorem eqPartS_ev (l : List S89) (hl : l.length ≤ 4611686018427387904) : Ev (fun k => laws_eqPartS.f k l l) true := by
  have h := all_ev (g := fun k i => laws_eqPartS.l0 k l l i) (r := true) l.length
    (fun i hi hr => Ev_succ (by
      simp only [laws_eqPartS.l0, laws_eqPart.f, if_true, Option.bind_some]
      refine Ev_t (by omega) (Ev_t (by omega) (Ev_t (by omega) ?_))
      rw [w64_succ hi (by omega)]; exact hr))
    (Ev_succ (by simp only [laws_eqPartS.l0]; exact Ev_f (by omega) (Ev.now _)))
  refine Ev.congr (fun k => ?_) h
  simp only [laws_eqPartS.f]; rw [if_pos trivial]
theorem szPartS_loop (l : List S84) (hw : ∀ p ∈ l, p.f2.size ≤ 9223372036854775807) (hl : l.length ≤ 1048576) : ∀ (m i : Nat) (x : Int), i + m = l.length → 0 ≤ x → x ≤ 1048576 →
    ∃ r, Ev (fun k => laws_szPartS.l0 k l x (i : Int)) r ∧ r ≤ x ∧ (0 ≤ r → ∀ j, i ≤ j → j < l.length → (l.getD j z84).f2.size ≤ 1048576) := by
  intro m
  induction m with
  | zero =>
    intro i x hi h0 h1
    refine ⟨x, Ev_succ ?_, by omega, fun _ j h2 h3 => by omega⟩
    simp only [laws_szPartS.l0]; exact Ev_f (by omega) (Ev.now _)
  | succ m ih =>
    intro i x hi h0 h1
    have hp := hw _ (getD_mem (xs := l) (i := i) z84 (by omega))
    generalize hq : l.getD i z84 = p at hp
    have e : wrap64 (x - (p.f2.size : Int)) = x - (p.f2.size : Int) := w64 (by omega) (by omega)
    by_cases c : x - (p.f2.size : Int) < 0
    · refine ⟨-1, Ev_succ ?_, by omega, fun h => by omega⟩
      simp only [laws_szPartS.l0, laws_szPart.f, rd_T84_nat, hq, e, if_pos c]
      exact Ev_t (by omega) (Ev_t (by omega) (Ev_bind0 rfl (Ev_t (by decide) (Ev.now _))))
    · obtain ⟨r, h2, h3, h4⟩ := ih (i + 1) (x - (p.f2.size : Int)) (by omega) (by omega) (by omega)
      refine ⟨r, Ev_succ ?_, by omega, fun h j h5 h6 => ?_⟩
      · simp only [laws_szPartS.l0, laws_szPart.f, rd_T84_nat, hq, e, if_neg c]
        rw [w64_succ (show i < l.length by omega) (by omega)]
        exact Ev_t (by omega) (Ev_t (by omega) (Ev_bind0 rfl (Ev_f c h2)))
      · by_cases h7 : j = i
        · subst h7; rw [hq]; omega
        · exact h4 h j (by omega) h6
theorem szPartS_ev (l : List S84) (hw : l.length ≤ maxLen ∧ ∀ p ∈ l, p.f2.size ≤ maxLen) (n : Int) (hn : 0 ≤ n) (hn' : n ≤ 1048576) : ∃ r, Ev (fun k => laws_szPartS.f k l n) r ∧ r ≤ n ∧ (0 ≤ r → l.length ≤ 1048576 ∧ ∀ p ∈ l, p.f2.size ≤ 1048576) := by
  have hl0 : (l.length : Int) ≤ 9223372036854775807 := by have := hw.1; simp only [maxLen] at this; omega
  have e : wrap64 (n - (l.length : Int)) = n - (l.length : Int) := w64 (by omega) (by omega)
  simp only [laws_szPartS.f, e]
  by_cases c : n - (l.length : Int) < 0
  · exact ⟨-1, Ev_t c (Ev.now _), by omega, fun h => by omega⟩
  · obtain ⟨r, h1, h2, h3⟩ := szPartS_loop l (fun p hp => by have := hw.2 p hp; simp only [maxLen] at this; exact this) (by omega) l.length 0 (n - (l.length : Int)) (by omega) (by omega) (by omega)
    refine ⟨r, Ev_f c h1, by omega, fun h => ⟨by omega, fun p hp => ?_⟩⟩
    obtain ⟨j, hj, rfl⟩ := List.mem_iff_getElem.1 hp
    have := h3 h j (by omega) hj
    simpa [List.getD, hj] using this
theorem im_wf {l : List S84} (h : ∀ p ∈ l, p.f2.size ≤ 1048576) : ∀ p ∈ l.map im, p.f2.size ≤ 1048576 := by
  intro p hp
  obtain ⟨q, hq, rfl⟩ := List.mem_map.1 hp
  exact h q hq

theorem goodB_ok {l : List S89} (h : goodB l = true) : okk 0 l = true ∧ src l ≤ 120 ∧ tgt l ≤ 120 ∧ 0 ≤ src l ∧ 0 ≤ tgt l ∧ (l.length : Int) ≤ src l + tgt l := by
  simp only [goodB, Bool.and_eq_true, decide_eq_true_eq] at h
  obtain ⟨n0, n1, n2⟩ := okk_nonneg _ _ h.1
  exact ⟨h.1, h.2.1, h.2.2, n0, n1, n2⟩

theorem l1Source_loop (l : List S89) (hl : l.length ≤ 1048576) : ∀ (suf pre : List S89), l = pre ++ suf → ∀ q s : Int, 0 ≤ s → s + src suf ≤ 120 → okk q suf = true →
    Ev (fun k => spec_l1Source.l0 k s l (l.length : Int) (pre.length : Int)) (s + src suf) := by
  intro suf
  induction suf with
  | nil =>
    intro pre he q s s0 s1 _
    refine Ev_succ ?_
    have hlen : l.length = pre.length := by rw [he]; simp
    simp only [spec_l1Source.l0]
    exact Ev_f (by omega) (Ev_eq (Ev.now _) (by simp [src]))
  | cons p suf ih =>
    intro pre he q s s0 s1 hok
    obtain ⟨h1, _, h3⟩ := okk_cons hok
    obtain ⟨k0, k1, _⟩ := kd_pos h1
    obtain ⟨n0, n1, _⟩ := okk_nonneg _ _ h3
    simp only [src] at s1 ⊢
    have hlen : l.length = pre.length + (suf.length + 1) := by rw [he]; simp
    have hrd : rd_T89 l (pre.length : Int) = p := by rw [he]; exact rd_mid pre p suf
    refine Ev_succ ?_
    simp only [spec_l1Source.l0, hrd]
    rw [w64 (n := p.f0 + p.f1) (by omega) (by omega), w64 (n := s + (p.f0 + p.f1)) (by omega) (by omega), len_one pre p (by omega)]
    exact Ev_t (by omega) (Ev_t (by omega) (Ev_t (by omega) (Ev_eq (ih (pre ++ [p]) (by rw [he]; simp) (kd p) (s + (p.f0 + p.f1)) (by omega) (by omega) h3) (by omega))))
theorem l1Source_ev (l : List S89) (hl : l.length ≤ 1048576) (hg : goodB l = true) : Ev (fun k => spec_l1Source.f k l) (src l) := by
  obtain ⟨h1, h2, h3, _⟩ := goodB_ok hg
  have h := l1Source_loop l hl l [] rfl 0 0 (by omega) (by omega) h1
  simp only [spec_l1Source.f]
  exact Ev_eq h (by omega)

def lensG (l : List S89) : Int × Int × Bool := if goodB l = true then (src l, tgt l, true) else (0, 0, false)

theorem implLengths_ev (l : List S89) (hz : ∀ p ∈ l, p.f2.size ≤ 1048576) (hl : l.length ≤ 1048576) : Ev (fun k => impl_LengthsOf.f k l) (lensG l) := by
  simp only [impl_LengthsOf.f, lensG]
  refine Ev.bind (implGood_ev l hz hl) (Ev_ite (fun h => ?_) (fun h => ?_))
  · rw [if_pos h]
    obtain ⟨h1, h2, h3, _⟩ := goodB_ok h
    refine Ev.bind (lengths_ev l hz hl h1) (Ev_eq (Ev.now _) ?_)
    simp [lensOf, h2, h3]
  · rw [if_neg h]; exact Ev.now _

theorem within_eq (a b c : Int) : impl_within.f a b c = some (decide (b ≤ a ∧ a ≤ c)) := by
  simp only [impl_within.f]
  by_cases h : b ≤ a <;> simp [h]

theorem l1In_eq (a b c : Int) : spec_l1In.f a b c = some (decide (b ≤ a ∧ a ≤ c)) := by
  simp only [spec_l1In.f]
  by_cases h : b ≤ a <;> simp [h]

def rsum : List S74 → Int
  | [] => 0
  | p :: c => p.f1 + rsum c
def runsInfo (l : List S74) (a1 a2 : Int) (i : Nat) (x : Int) (r : Bool) : Prop := r = true → (∀ p ∈ l.drop i, 0 ≤ p.f0 ∧ p.f0 ≤ a2 ∧ 1 ≤ p.f1) ∧ x + rsum (l.drop i) = a1
theorem same_GoodRuns_loop (l : List S74) (hl : l.length ≤ 1048576) (a1 a2 : Int) (ha : a1 ≤ 120) : ∀ (m i : Nat) (x : Int), i + m = l.length → 0 ≤ x → x ≤ a1 →
    SameQ (runsInfo l a1 a2 i x) (fun k => spec_GoodRuns.l0 k l a1 a2 x l (l.length : Int) (i : Int)) (fun k => impl_GoodRuns.l0 k l a1 a2 x l (l.length : Int) (i : Int)) := by
  intro m
  induction m with
  | zero =>
    intro i x hi h0 h1
    refine SameQ.succL (SameQ.succR ?_)
    simp only [spec_GoodRuns.l0, impl_GoodRuns.l0]
    refine SameQ.of (Ev_f (by omega) (Ev.now _)) (Ev_f (by omega) (Ev.now _)) (fun h => ?_)
    have hx : x = a1 := by simpa using h
    rw [List.drop_of_length_le (by omega)]
    exact ⟨by simp, by simp [rsum, hx]⟩
  | succ m ih =>
    intro i x hi h0 h1
    refine SameQ.succL (SameQ.succR ?_)
    simp only [spec_GoodRuns.l0, impl_GoodRuns.l0, l1In_eq, within_eq, Option.bind_some, decide_eq_true_eq]
    rw [w64_succ (show i < l.length by omega) (by omega)]
    have hdrop := drop_cons l i z74 (by omega)
    have hrd : rd_T74 l (i : Int) = l.getD i z74 := by simp [rd_T74]
    rw [hrd]
    generalize l.getD i z74 = p at hdrop ⊢
    generalize hq : rd_T74 l (wrap64 ((i : Int) - 1)) = q
    have e1 : wrap64 ((i : Int) - 1) = (i : Int) - 1 := w64 (by omega) (by omega)
    have e2 : wrap64 (a1 - x) = a1 - x := w64 (by omega) (by omega)
    simp only [e1, e2]
    have hj : ∀ b : Bool, (b = true ∨ ¬ (1 ≤ p.f1 ∧ p.f1 ≤ a1 - x)) → (1 ≤ p.f1 ∧ p.f1 ≤ 120 ∨ b = true) → Ev (fun k => impl_GoodRuns.j2 k l a1 a2 x l (l.length : Int) (i : Int) b p.f0 p.f1) false := by
      intro b hb hc
      refine Ev_succ ?_
      simp only [impl_GoodRuns.j2]
      refine Ev_ite (fun _ => Ev.now _) (fun h => ?_)
      have h3 : ¬ (1 ≤ p.f1 ∧ p.f1 ≤ a1 - x) := hb.resolve_left h
      have h4 := hc.resolve_right h
      rw [w64 (n := x + p.f1) (by omega) (by omega)]
      exact Ev_t (by omega) (Ev.now _)
    have hg : ∀ b : Bool, b = false → (0 ≤ p.f0 ∧ p.f0 ≤ a2) → (1 ≤ p.f1 ∧ p.f1 ≤ a1 - x) → SameQ (runsInfo l a1 a2 i x) (fun k => spec_GoodRuns.l0 k l a1 a2 (wrap64 (x + p.f1)) l (l.length : Int) ((i + 1 : Nat) : Int)) (fun k => impl_GoodRuns.j2 k l a1 a2 x l (l.length : Int) (i : Int) b p.f0 p.f1) := by
      intro b hb hc0 hc
      refine SameQ.succR ?_
      subst hb
      simp only [impl_GoodRuns.j2]
      rw [w64_succ (show i < l.length by omega) (by omega), w64 (n := x + p.f1) (by omega) (by omega)]
      obtain ⟨r, h5, h6, h7⟩ := ih (i + 1) (x + p.f1) (by omega) (by omega) (by omega)
      refine ⟨r, h5, Ev_f (by decide) (Ev_f (by omega) h6), fun hr => ?_⟩
      obtain ⟨h8, h9⟩ := h7 hr
      rw [hdrop]
      refine ⟨fun y hy => ?_, by simp only [rsum]; omega⟩
      rcases List.mem_cons.1 hy with rfl | hy
      · exact ⟨hc0.1, hc0.2, hc.1⟩
      · exact h8 y hy
    refine SameQ.iteL (fun _ => SameQ.iteR (fun _ => ?_) (fun h => absurd (show (i : Int) < l.length by omega) h)) (fun h => absurd (show (i : Int) < l.length by omega) h)
    refine SameQ.iteL (fun _ => SameQ.iteR (fun _ => ?_) (fun h => absurd (show (0 : Int) ≤ i by omega) h)) (fun h => absurd (show (0 : Int) ≤ i by omega) h)
    refine SameQ.iteL (fun _ => SameQ.iteR (fun _ => ?_) (fun h => absurd (show (i : Int) < l.length by omega) h)) (fun h => absurd (show (i : Int) < l.length by omega) h)
    by_cases c1 : 0 ≤ p.f0 ∧ p.f0 ≤ a2
    · simp only [if_pos c1]
      by_cases c2 : 1 ≤ p.f1 ∧ p.f1 ≤ a1 - x
      · simp only [if_pos c2, if_pos (show 1 ≤ p.f1 ∧ p.f1 ≤ 120 by omega)]
        by_cases c3 : (i : Int) > 0
        · simp only [if_pos c3, if_pos (show 0 ≤ (i : Int) - 1 by omega), if_pos (show (i : Int) - 1 < (l.length : Int) by omega)]
          by_cases c4 : q.f0 = p.f0
          · simp only [if_pos c4]
            exact SameQ.of (Ev.now _) (hj _ (Or.inl (by simp [c4])) (Or.inr (by simp [c4]))) (fun h => by cases h)
          · simp only [if_neg c4]
            exact hg _ (by simp [c4]) c1 c2
        · simp only [if_neg c3]
          exact hg _ rfl c1 c2
      · simp only [if_neg c2]
        refine ⟨false, Ev.now _, ?_, fun h => by cases h⟩
        by_cases c5 : 1 ≤ p.f1 ∧ p.f1 ≤ 120
        · simp only [if_pos c5]
          by_cases c3 : (i : Int) > 0
          · simp only [if_pos c3, if_pos (show 0 ≤ (i : Int) - 1 by omega), if_pos (show (i : Int) - 1 < (l.length : Int) by omega)]
            exact hj _ (Or.inr c2) (Or.inl c5)
          · simp only [if_neg c3]
            exact hj _ (Or.inr c2) (Or.inl c5)
        · simp only [if_neg c5]
          exact hj _ (Or.inl rfl) (Or.inr rfl)
    · simp only [if_neg c1]
      exact SameQ.of (Ev.now _) (hj _ (Or.inl rfl) (Or.inr rfl)) (fun h => by cases h)
theorem same_GoodRuns (l : List S74) (hl : l.length ≤ 1048576) (a1 a2 : Int) : SameQ (fun r => r = true → (0 ≤ a1 ∧ a1 ≤ 120) ∧ (0 ≤ a2 ∧ a2 ≤ 60) ∧ (∀ p ∈ l, 0 ≤ p.f0 ∧ p.f0 ≤ a2 ∧ 1 ≤ p.f1) ∧ rsum l = a1) (fun k => spec_GoodRuns.f k l a1 a2) (fun k => impl_GoodRuns.f k l a1 a2) := by
  simp only [spec_GoodRuns.f, impl_GoodRuns.f, l1In_eq, within_eq, Option.bind_some, decide_eq_true_eq]
  have hf : ∀ b : Bool, b = true → SameQ (fun r => r = true → (0 ≤ a1 ∧ a1 ≤ 120) ∧ (0 ≤ a2 ∧ a2 ≤ 60) ∧ (∀ p ∈ l, 0 ≤ p.f0 ∧ p.f0 ≤ a2 ∧ 1 ≤ p.f1) ∧ rsum l = a1) (fun k => spec_GoodRuns.j0 k l a1 a2 b) (fun k => impl_GoodRuns.j0 k l a1 a2 b) := by
    intro b hb
    subst hb
    refine SameQ.succL (SameQ.succR ?_)
    simp only [spec_GoodRuns.j0, impl_GoodRuns.j0, if_true]
    exact SameQ.of (Ev.now _) (Ev.now _) (fun h => by cases h)
  by_cases c1 : 0 ≤ a1 ∧ a1 ≤ 120
  · simp only [if_pos c1]
    by_cases c2 : 0 ≤ a2 ∧ a2 ≤ 60
    · simp only [c2, and_self, decide_true, Bool.not_true]
      refine SameQ.succL (SameQ.succR ?_)
      simp only [spec_GoodRuns.j0, impl_GoodRuns.j0, Bool.false_eq_true, if_false]
      refine SameQ.imp (same_GoodRuns_loop l hl a1 a2 c1.2 l.length 0 0 (by omega) (by omega) c1.1) (fun r h hr => ?_)
      obtain ⟨h1, h2⟩ := h hr
      rw [List.drop_zero] at h1 h2
      exact ⟨c1, trivial, h1, by omega⟩
    · exact hf _ (by simp only [c2, decide_false, Bool.not_false])
  · simp only [if_neg c1]
    exact hf _ rfl

def each : List S74 → List Int
  | [] => []
  | p :: c => List.replicate p.f1.toNat p.f0 ++ each c
theorem each_length : ∀ (c : List S74), (∀ p ∈ c, 0 ≤ p.f0 ∧ p.f0 ≤ 60 ∧ 1 ≤ p.f1) → ((each c).length : Int) = rsum c := by
  intro c
  induction c with
  | nil => intro _; simp [each, rsum]
  | cons p c ih =>
    intro h
    have h1 := h p (by simp)
    have h2 := ih (fun q hq => h q (by simp [hq]))
    simp only [each, rsum, List.length_append, List.length_replicate]
    omega

theorem l9Each_inner (l : List S74) (i : Nat) (a b : Int) (r : List Int) : ∀ (m j : Nat) (acc : List Int), (j : Int) + m = b → b ≤ 1000 → acc.length + m ≤ 10000 →
    Ev (fun k => spec_l9Each.l0 k (acc ++ List.replicate m a) l (l.length : Int) (wrap64 ((i : Int) + 1))) r → Ev (fun k => spec_l9Each.l1 k acc (j : Int) l (l.length : Int) (i : Int) a b) r := by
  intro m
  induction m with
  | zero =>
    intro j acc hj hb ha hr
    refine Ev_succ ?_
    simp only [spec_l9Each.l1]
    exact Ev_f (by omega) (by simpa using hr)
  | succ m ih =>
    intro j acc hj hb ha hr
    refine Ev_succ ?_
    simp only [spec_l9Each.l1]
    rw [w64 (n := (j : Int) + 1) (by omega) (by omega)]
    refine Ev_t (by omega) (Ev_t (by omega) (ih (j + 1) (acc ++ [a]) (by omega) hb (by simp; omega) ?_))
    rw [List.append_assoc]
    exact hr
theorem l9Each_loop (l : List S74) (hl : l.length ≤ 1048576) (hw : ∀ p ∈ l, 0 ≤ p.f0 ∧ p.f0 ≤ 60 ∧ 1 ≤ p.f1) (hs : rsum l ≤ 120) : ∀ (m i : Nat) (acc : List Int), i + m = l.length → (acc.length : Int) + rsum (l.drop i) ≤ 120 →
    Ev (fun k => spec_l9Each.l0 k acc l (l.length : Int) (i : Int)) (acc ++ each (l.drop i)) := by
  intro m
  induction m with
  | zero =>
    intro i acc hi ha
    refine Ev_succ ?_
    simp only [spec_l9Each.l0]
    rw [List.drop_of_length_le (by omega)]
    exact Ev_f (by omega) (Ev_eq (Ev.now _) (by simp [each]))
  | succ m ih =>
    intro i acc hi ha
    have hdrop := drop_cons l i z74 (by omega)
    have hrd : rd_T74 l (i : Int) = l.getD i z74 := by simp [rd_T74]
    have hp := hw _ (getD_mem (xs := l) (i := i) z74 (by omega))
    have hrest : 0 ≤ rsum (l.drop (i + 1)) := by
      have := each_length (l.drop (i + 1)) (fun q hq => hw q (List.mem_of_mem_drop hq))
      omega
    refine Ev_succ ?_
    simp only [spec_l9Each.l0, hrd]
    rw [hdrop] at ha ⊢
    generalize l.getD i z74 = p at hp ha ⊢
    simp only [rsum] at ha
    simp only [each]
    refine Ev_t (by omega) (Ev_t (by omega) (Ev_t (by omega) (l9Each_inner l i p.f0 p.f1 _ p.f1.toNat 0 acc (by omega) (by omega) (by omega) ?_)))
    rw [w64_succ (show i < l.length by omega) (by omega)]
    refine Ev_eq (ih (i + 1) (acc ++ List.replicate p.f1.toNat p.f0) (by omega) (by simp only [List.length_append, List.length_replicate]; omega)) ?_
    simp
theorem l9Each_ev (l : List S74) (hl : l.length ≤ 1048576) (hw : ∀ p ∈ l, 0 ≤ p.f0 ∧ p.f0 ≤ 60 ∧ 1 ≤ p.f1) (hs : rsum l ≤ 120) : Ev (fun k => spec_l9Each.f k l) (each l) := by
  have h := l9Each_loop l hl hw hs l.length 0 [] (by omega) (by simpa using hs)
  simp only [spec_l9Each.f]
  exact Ev_eq h (by simp)

theorem revs_inner (l : List S74) (i : Nat) (a b : Int) (r : List Int) : ∀ (m j : Nat) (acc : List Int), (j : Int) + m = b → b ≤ 1000 → acc.length + m ≤ 10000 →
    Ev (fun k => impl_revs.l0 k (acc ++ List.replicate m a) l (l.length : Int) (wrap64 ((i : Int) + 1))) r → Ev (fun k => impl_revs.l1 k acc l (l.length : Int) (i : Int) b (j : Int) a b) r := by
  intro m
  induction m with
  | zero =>
    intro j acc hj hb ha hr
    refine Ev_succ ?_
    simp only [impl_revs.l1]
    exact Ev_f (by omega) (by simpa using hr)
  | succ m ih =>
    intro j acc hj hb ha hr
    refine Ev_succ ?_
    simp only [impl_revs.l1]
    rw [w64 (n := (j : Int) + 1) (by omega) (by omega)]
    refine Ev_t (by omega) (Ev_t (by omega) (ih (j + 1) (acc ++ [a]) (by omega) hb (by simp; omega) ?_))
    rw [List.append_assoc]
    exact hr
theorem revs_loop (l : List S74) (hl : l.length ≤ 1048576) (hw : ∀ p ∈ l, 0 ≤ p.f0 ∧ p.f0 ≤ 60 ∧ 1 ≤ p.f1) (hs : rsum l ≤ 120) : ∀ (m i : Nat) (acc : List Int), i + m = l.length → (acc.length : Int) + rsum (l.drop i) ≤ 120 →
    Ev (fun k => impl_revs.l0 k acc l (l.length : Int) (i : Int)) (acc ++ each (l.drop i)) := by
  intro m
  induction m with
  | zero =>
    intro i acc hi ha
    refine Ev_succ ?_
    simp only [impl_revs.l0]
    rw [List.drop_of_length_le (by omega)]
    exact Ev_f (by omega) (Ev_eq (Ev.now _) (by simp [each]))
  | succ m ih =>
    intro i acc hi ha
    have hdrop := drop_cons l i z74 (by omega)
    have hrd : rd_T74 l (i : Int) = l.getD i z74 := by simp [rd_T74]
    have hp := hw _ (getD_mem (xs := l) (i := i) z74 (by omega))
    have hrest : 0 ≤ rsum (l.drop (i + 1)) := by
      have := each_length (l.drop (i + 1)) (fun q hq => hw q (List.mem_of_mem_drop hq))
      omega
    refine Ev_succ ?_
    simp only [impl_revs.l0, hrd]
    rw [hdrop] at ha ⊢
    generalize l.getD i z74 = p at hp ha ⊢
    simp only [rsum] at ha
    simp only [each]
    refine Ev_t (by omega) (Ev_t (by omega) (Ev_t (by omega) (revs_inner l i p.f0 p.f1 _ p.f1.toNat 0 acc (by omega) (by omega) (by omega) ?_)))
    rw [w64_succ (show i < l.length by omega) (by omega)]
    refine Ev_eq (ih (i + 1) (acc ++ List.replicate p.f1.toNat p.f0) (by omega) (by simp only [List.length_append, List.length_replicate]; omega)) ?_
    simp
theorem revs_ev (l : List S74) (hl : l.length ≤ 1048576) (hw : ∀ p ∈ l, 0 ≤ p.f0 ∧ p.f0 ≤ 60 ∧ 1 ≤ p.f1) (hs : rsum l ≤ 120) : Ev (fun k => impl_revs.f k l) (each l) := by
  have h := revs_loop l hl hw hs l.length 0 [] (by omega) (by simpa using hs)
  simp only [impl_revs.f]
  exact Ev_eq h (by simp)

theorem rd_T74_nat (xs : List S74) (i : Nat) : rd_T74 xs (i : Int) = xs.getD i z74 := by simp [rd_T74]
def addN (R : List S74) (a n : Int) : List S74 := if n = 0 then R else match R.getLast? with
  | some p => if p.f0 = a then R.dropLast ++ [⟨p.f0, p.f1 + n⟩] else R ++ [⟨a, n⟩]
  | none => R ++ [⟨a, n⟩]
theorem addN_zero (R : List S74) (a : Int) : addN R a 0 = R := by simp [addN]
theorem addN_nil {a n : Int} (h : n ≠ 0) : addN [] a n = [⟨a, n⟩] := by simp [addN, h]
theorem addN_eq {R : List S74} {p : S74} {a n : Int} (h : n ≠ 0) (e : p.f0 = a) : addN (R ++ [p]) a n = R ++ [⟨p.f0, p.f1 + n⟩] := by simp [addN, h, e]
theorem addN_ne {R : List S74} {p : S74} {a n : Int} (h : n ≠ 0) (e : ¬ p.f0 = a) : addN (R ++ [p]) a n = (R ++ [p]) ++ [⟨a, n⟩] := by simp [addN, h, e]
theorem addN_add (R : List S74) (a : Int) (m n : Int) (hm : 0 < m) (hn : 0 ≤ n) : addN (addN R a m) a n = addN R a (m + n) := by
  by_cases c : n = 0
  · subst c; rw [addN_zero, Int.add_zero]
  · rcases List.eq_nil_or_concat R with rfl | ⟨S, p, rfl⟩
    · rw [addN_nil (by omega), addN_nil (by omega)]
      exact addN_eq (R := []) (p := ⟨a, m⟩) c rfl
    · rw [List.concat_eq_append]
      by_cases e : p.f0 = a
      · rw [addN_eq (by omega) e, addN_eq c (p := ⟨p.f0, p.f1 + m⟩) e, addN_eq (by omega) e]
        simp [Int.add_assoc]
      · rw [addN_ne (by omega) e, addN_ne (by omega) e]
        exact addN_eq c (p := ⟨a, m⟩) rfl
def push (R : List S74) (a : Int) : List S74 := addN R a 1
theorem push_rep (a : Int) : ∀ (m : Nat) (R : List S74), (List.replicate m a).foldl push R = addN R a (m : Int) := by
  intro m
  induction m with
  | zero => intro R; simp [addN_zero]
  | succ m ih =>
    intro R
    rw [List.replicate_succ, List.foldl_cons, ih]
    show addN (addN R a 1) a (m : Int) = _
    rw [addN_add R a 1 m (by omega) (by omega)]
    congr 1; omega
def pinv (R : List S74) (n : Nat) : Prop := R.length ≤ n ∧ ∀ p ∈ R, 0 ≤ p.f1 ∧ p.f1 ≤ (n : Int)
theorem pinv_add {R : List S74} {n : Nat} (h : pinv R n) (a : Int) (m : Nat) : pinv (addN R a (m : Int)) (n + m) := by
  by_cases c : (m : Int) = 0
  · rw [c, addN_zero]
    exact ⟨by have := h.1; omega, fun p hp => ⟨(h.2 p hp).1, by have := (h.2 p hp).2; omega⟩⟩
  · rcases List.eq_nil_or_concat R with rfl | ⟨S, p, rfl⟩
    · rw [addN_nil c]
      refine ⟨by simp; omega, fun p hp => ?_⟩
      rw [List.mem_singleton.1 hp]
      exact ⟨by show 0 ≤ (m : Int); omega, by show (m : Int) ≤ _; omega⟩
    · rw [List.concat_eq_append] at h ⊢
      obtain ⟨h1, h2⟩ := h
      have h3 := h2 p (by simp)
      simp only [List.length_append, List.length_singleton] at h1
      by_cases e : p.f0 = a
      · rw [addN_eq c e]
        refine ⟨by simp; omega, fun q hq => ?_⟩
        rcases List.mem_append.1 hq with hq | hq
        · have := h2 q (by simp [hq]); omega
        · rw [List.mem_singleton.1 hq]; exact ⟨by show 0 ≤ p.f1 + (m : Int); omega, by show p.f1 + (m : Int) ≤ _; omega⟩
      · rw [addN_ne c e]
        refine ⟨by simp; omega, fun q hq => ?_⟩
        rcases List.mem_append.1 hq with hq | hq
        · have := h2 q hq; omega
        · rw [List.mem_singleton.1 hq]; exact ⟨by show 0 ≤ (m : Int); omega, by show (m : Int) ≤ _; omega⟩
theorem pinv_push {R : List S74} {n : Nat} (h : pinv R n) (a : Int) : pinv (push R a) (n + 1) := pinv_add h a 1
theorem rd_last (S : List S74) (p : S74) (h : S.length ≤ 10000) : wrap64 (((S ++ [p]).length : Int) - 1) = (S.length : Int) ∧ rd_T74 (S ++ [p]) (S.length : Int) = p := by
  refine ⟨?_, ?_⟩
  · simp only [List.length_append, List.length_singleton]; rw [w64 (by omega) (by omega)]; omega
  · rw [rd_T74_nat]; simp
theorem l9Add_eq (R : List S74) (a : Int) (m n : Nat) (h : pinv R n) (hn : n ≤ 10000) (hm : m ≤ 10000) : spec_l9Add.f R a (m : Int) = some (addN R a (m : Int)) := by
  simp only [spec_l9Add.f]
  by_cases c : (m : Int) = 0
  · rw [if_pos c, c, addN_zero]
  · rw [if_neg c]
    have h1 := h.1
    rcases List.eq_nil_or_concat R with rfl | ⟨S, p, rfl⟩
    · rw [addN_nil c, if_neg (by simp), if_pos (by simp)]; simp
    · rw [List.concat_eq_append] at h h1 ⊢
      have h3 := h.2 p (by simp)
      simp only [List.length_append, List.length_singleton] at h1
      obtain ⟨e1, e2⟩ := rd_last S p (by omega)
      rw [e1, e2, if_pos (by simp; try omega), if_pos (by omega), if_pos (by simp; try omega)]
      by_cases e : p.f0 = a
      · rw [if_pos e, addN_eq c e, w64 (by omega) (by omega)]
        simp
      · rw [if_neg e, addN_ne c e, if_pos (by simp; omega)]
theorem runs_loop (xs : List Int) (hl : xs.length ≤ 1000) : ∀ (m i : Nat) (R : List S74), i + m = xs.length → pinv R i → Ev (fun k => impl_runs.l0 k R xs (xs.length : Int) (i : Int)) ((xs.drop i).foldl push R) := by
  intro m
  induction m with
  | zero =>
    intro i R hi hp
    refine Ev_succ ?_
    simp only [impl_runs.l0]
    rw [List.drop_of_length_le (by omega)]
    exact Ev_f (by omega) (Ev.now _)
  | succ m ih =>
    intro i R hi hp
    have hd := drop_cons xs i 0 (by omega)
    have h1 := hp.1
    refine Ev_succ ?_
    simp only [impl_runs.l0, rd_nat]
    rw [hd, List.foldl_cons]
    generalize xs.getD i 0 = a
    have h := ih (i + 1) (push R a) (by omega) (pinv_push hp a)
    rw [w64_succ (show i < xs.length by omega) (by omega)]
    refine Ev_t (by omega) (Ev_t (by omega) (Ev_t (by omega) ?_))
    rcases List.eq_nil_or_concat R with rfl | ⟨S, p, rfl⟩
    · refine Ev_f (by simp) (Ev_t (by simp) ?_)
      have e : push [] a = [⟨a, 1⟩] := addN_nil (by omega)
      rw [e] at h ⊢
      exact h
    · rw [List.concat_eq_append] at h hp h1 ⊢
      have h3 := hp.2 p (by simp)
      simp only [List.length_append, List.length_singleton] at h1
      obtain ⟨e1, e2⟩ := rd_last S p (by omega)
      rw [e1, e2]
      refine Ev_t (by simp; try omega) (Ev_t (by omega) (Ev_t (by simp; try omega) (Ev_ite (fun e => ?_) (fun e => Ev_t (by simp; try omega) ?_))))
      · have e3 : push (S ++ [p]) a = S ++ [⟨p.f0, p.f1 + 1⟩] := addN_eq (by omega) e
        rw [e3] at h
        rw [w64 (by omega) (by omega), e3]
        refine Ev.congr (fun k => ?_) h
        simp
      · have e3 : push (S ++ [p]) a = (S ++ [p]) ++ [⟨a, 1⟩] := addN_ne (by omega) e
        rw [e3] at h ⊢
        exact h
theorem pinv_fold (xs : List Int) : ∀ (R : List S74) (n : Nat), pinv R n → pinv (xs.foldl push R) (n + xs.length) := by
  induction xs with
  | nil => intro R n h; exact h
  | cons a xs ih =>
    intro R n h
    have := ih (push R a) (n + 1) (pinv_push h a)
    rw [List.foldl_cons, List.length_cons]
    rw [show n + (xs.length + 1) = n + 1 + xs.length by omega]; exact this
theorem runs_ev (xs : List Int) (hl : xs.length ≤ 1000) : Ev (fun k => impl_runs.f k xs) (xs.foldl push []) := by
  have h := runs_loop xs hl xs.length 0 [] (by omega) ⟨by simp, by simp⟩
  simp only [impl_runs.f]
  exact h
theorem keep_loop (rev : Int) (xs : List Int) (hxs : xs.length ≤ 1000) (parts : List S89) (j : Nat) (pos : Nat) (keep : Nat) (hk : pos + keep ≤ xs.length) (f1 : Int) (s : ByteArray) (r : List S74) (W : List Int) (hW : (xs.drop pos).take keep = W) : ∀ (m i : Nat) (R : List S74) (n : Nat), i + m = keep → pinv R n → n + m ≤ 1000 →
    Ev (fun k => (spec_l9Add.f ((W.drop i).foldl push R) rev (s.size : Int)).bind fun t => spec_l9Carry.l0 k rev xs t (wrap64 ((pos : Int) + wrap64 ((keep : Int) + f1))) parts (parts.length : Int) (wrap64 ((j : Int) + 1))) r →
    Ev (fun k => spec_l9Carry.l1 k rev xs R (pos : Int) (i : Int) parts (parts.length : Int) (j : Int) (keep : Int) f1 s) r := by
  have hWl : W.length = keep := by rw [← hW, List.length_take, List.length_drop]; omega
  intro m
  induction m with
  | zero =>
    intro i R n hi hp hn h
    refine Ev_succ ?_
    simp only [spec_l9Carry.l1]
    rw [List.drop_of_length_le (by omega)] at h
    exact Ev_f (by omega) h
  | succ m ih =>
    intro i R n hi hp hn h
    refine Ev_succ ?_
    have e1 : wrap64 ((pos : Int) + (i : Int)) = ((pos + i : Nat) : Int) := by rw [w64 (by omega) (by omega)]; omega
    have e2 : wrap64 ((i : Int) + 1) = ((i + 1 : Nat) : Int) := w64_succ (show i < keep by omega) (by omega)
    have e3 : xs.getD (pos + i) 0 = W.getD i 0 := by
      rw [← hW, List.getD_eq_getElem?_getD, List.getD_eq_getElem?_getD, List.getElem?_take]
      rw [if_pos (by omega), List.getElem?_drop]
    have hd := drop_cons W i 0 (by omega)
    have e4 := l9Add_eq R (W.getD i 0) 1 n hp (by omega) (by omega)
    simp only [spec_l9Carry.l1, e1, e2, rd_nat, e3]
    rw [hd, List.foldl_cons] at h
    refine Ev_t (by omega) (Ev_t (by omega) (Ev_t (by omega) (Ev_bind0 e4 ?_)))
    exact ih (i + 1) _ (n + 1) (by omega) (pinv_push hp _) (by omega) h
theorem rep_loop (rev : Int) (xs acc : List Int) (parts : List S89) (j : Nat) (pos : Int) (s : Nat) (hs : s ≤ 1000) (r : List S74) : ∀ (m i : Nat) (acc : List Int), i + m = s → acc.length + m ≤ 10000 →
    Ev (fun k => impl_carryRuns.l0 k rev xs (acc ++ List.replicate m rev) pos parts (parts.length : Int) (wrap64 ((j : Int) + 1))) r →
    Ev (fun k => impl_carryRuns.l1 k rev xs acc pos parts (parts.length : Int) (j : Int) (s : Int) (i : Int)) r := by
  intro m
  induction m with
  | zero =>
    intro i acc hi hn h
    refine Ev_succ ?_
    simp only [impl_carryRuns.l1]
    rw [List.replicate_zero, List.append_nil] at h
    exact Ev_f (by omega) h
  | succ m ih =>
    intro i acc hi hn h
    refine Ev_succ ?_
    simp only [impl_carryRuns.l1]
    rw [w64_succ (show i < s by omega) (by omega)]
    refine Ev_t (by omega) (Ev_t (by omega) (ih (i + 1) (acc ++ [rev]) (by omega) (by simp; omega) ?_))
    rw [List.append_assoc, List.singleton_append, ← List.replicate_succ]
    exact h
theorem carry_loop (rev : Int) (xs : List Int) (hxs : xs.length ≤ 120) (l : List S89) (hl : l.length ≤ 1048576) : ∀ (suf pre : List S89), l = pre ++ suf → ∀ (q : Int) (acc : List Int) (pos : Nat), okk q suf = true → (pos : Int) + src suf = xs.length → (acc.length : Int) + tgt suf ≤ 120 →
    ∃ R : List S74, R.length ≤ 120 ∧ Ev (fun k => spec_l9Carry.l0 k rev xs (acc.foldl push []) (pos : Int) l (l.length : Int) (pre.length : Int)) R ∧ Ev (fun k => impl_carryRuns.l0 k rev xs acc (pos : Int) l (l.length : Int) (pre.length : Int)) R := by
  intro suf
  induction suf with
  | nil =>
    intro pre he q acc pos _ h1 h2
    have hlen : l.length = pre.length := by rw [he]; simp
    simp only [tgt] at h2
    have hp := pinv_fold acc [] 0 ⟨by simp, by simp⟩
    refine ⟨acc.foldl push [], by have := hp.1; omega, Ev_succ ?_, Ev_succ ?_⟩
    · simp only [spec_l9Carry.l0]; exact Ev_f (by omega) (Ev.now _)
    · simp only [impl_carryRuns.l0]; exact Ev_f (by omega) (Ev.bind (runs_ev acc (by omega)) (Ev.now _))
  | cons p suf ih =>
    intro pre he q acc pos hok h1 h2
    obtain ⟨g1, _, g3⟩ := okk_cons hok
    obtain ⟨k0, k1, _⟩ := kd_pos g1
    obtain ⟨n0, n1, _⟩ := okk_nonneg _ _ g3
    simp only [src] at h1
    simp only [tgt] at h2
    have hlen : l.length = pre.length + (suf.length + 1) := by rw [he]; simp
    have hrd : rd_T89 l (pre.length : Int) = p := by rw [he]; exact rd_mid pre p suf
    have hp := pinv_fold acc [] 0 ⟨by simp, by simp⟩
    rw [Nat.zero_add] at hp
    obtain ⟨keep, hkeep⟩ : ∃ n : Nat, p.f0 = (n : Int) := ⟨p.f0.toNat, by omega⟩
    have hW0 : ((xs.drop pos).take keep).length = keep := by rw [List.length_take, List.length_drop]; omega
    generalize hW : (xs.drop pos).take keep = W at hW0
    have e1 : wrap64 ((pos : Int) + p.f0) = ((pos + keep : Nat) : Int) := by rw [w64 (by omega) (by omega)]; omega
    have e2 : wrap64 ((pos : Int) + wrap64 (p.f0 + p.f1)) = ((pos + keep + p.f1.toNat : Nat) : Int) := by rw [w64 (n := p.f0 + p.f1) (by omega) (by omega), w64 (by omega) (by omega)]; omega
    have e3 : ((xs.take ((pos + keep : Nat) : Int).toNat).drop ((pos : Int)).toNat) = W := by
      rw [Int.toNat_natCast, Int.toNat_natCast, List.drop_take, ← hW]; congr 1; omega
    obtain ⟨R, hR, u, v⟩ := ih (pre ++ [p]) (by rw [he]; simp) (kd p) (acc ++ W ++ List.replicate p.f2.size rev) (pos + keep + p.f1.toNat) g3 (by omega) (by simp only [List.length_append, List.length_replicate]; omega)
    have hl1 := len_one pre p (by omega)
    refine ⟨R, hR, Ev_succ ?_, Ev_succ ?_⟩
    · simp only [spec_l9Carry.l0, hrd]
      refine Ev_t (by omega) (Ev_t (by omega) (Ev_t (by omega) ?_))
      rw [hkeep]
      refine keep_loop rev xs (by omega) l pre.length pos keep (by omega) p.f1 p.f2 R W hW keep 0 _ acc.length (by omega) hp (by omega) ?_
      have hp2 := pinv_fold W _ _ hp
      refine Ev_bind0 (l9Add_eq _ rev p.f2.size _ hp2 (by omega) (by omega)) ?_
      rw [List.foldl_append, List.foldl_append, push_rep] at u
      rw [hl1, ← hkeep, e2]
      exact u
    · simp only [impl_carryRuns.l0, hrd, e1, e2, e3, Option.bind_some]
      refine Ev_t (by omega) (Ev_t (by omega) (Ev_t (by omega) (Ev_t (by omega) (Ev_t (by omega) (Ev_t (by omega) (Ev_t (by omega) ?_))))))
      refine rep_loop rev xs [] l pre.length _ p.f2.size (by omega) R p.f2.size 0 (acc ++ W) (by omega) (by simp only [List.length_append]; omega) ?_
      rw [hl1]
      exact v
theorem same_CarryRuns (rs : List S74) (hr : rs.length ≤ 1048576) (l : List S89) (hz : ∀ p ∈ l, p.f2.size ≤ 1048576) (hl : l.length ≤ 1048576) (rev : Int) : ∃ (R : List S74) (b : Bool), R.length ≤ 120 ∧ Ev (fun k => spec_CarryRuns.f k rs l rev) (R, b) ∧ Ev (fun k => impl_CarryRuns.f k rs l rev) (R, b) := by
  simp only [spec_CarryRuns.f, impl_CarryRuns.f, l1In_eq, within_eq, Option.bind_some, decide_eq_true_eq]
  have hs := specGood_ev l hz hl
  have hi := implLengths_ev l hz hl
  cases hg : goodB l with
  | false =>
    rw [hg] at hs
    simp only [lensG, hg, Bool.false_eq_true, if_false] at hi
    exact ⟨[], false, by simp, Ev.bind hs (Ev_f (by decide) (Ev.now _)), Ev.bind hi (Ev_f (by simp) (Ev.now _))⟩
  | true =>
    rw [hg] at hs
    simp only [lensG, hg, if_true] at hi
    have hsrc := l1Source_ev l hl hg
    obtain ⟨g1, g2, g3, g4, g5, _⟩ := goodB_ok hg
    obtain ⟨b, p, q, w⟩ := same_GoodRuns rs hr (src l) 60
    cases b with
    | false => exact ⟨[], false, by simp, Ev.bind hs (Ev_t rfl (Ev.bind hsrc (Ev.bind p (Ev_f (by decide) (Ev.now _))))), Ev.bind hi (Ev_t (by simp) (Ev.bind q (Ev_f (by decide) (Ev.now _))))⟩
    | true =>
      obtain ⟨_, _, w3, w4⟩ := w rfl
      have he := each_length rs w3
      by_cases c : 0 ≤ rev ∧ rev ≤ 60
      · obtain ⟨R, hR, u, v⟩ := carry_loop rev (each rs) (by omega) l hl l [] rfl 0 [] 0 g1 (by omega) (by simp; omega)
        refine ⟨R, true, hR, Ev.bind hs (Ev_t rfl (Ev.bind hsrc (Ev.bind p (Ev_t rfl (Ev_t c (Ev.bind (a := R) ?_ (Ev.now _))))))), Ev.bind hi (Ev_t (by simp) (Ev.bind q (Ev_t rfl (Ev_t c (Ev.bind (a := R) ?_ (Ev.now _))))))⟩
        · simp only [spec_l9Carry.f]
          exact Ev.bind (l9Each_ev rs hr w3 (by omega)) u
        · simp only [impl_carryRuns.f]
          exact Ev.bind (revs_ev rs hr w3 (by omega)) v
      · exact ⟨[], false, by simp, Ev.bind hs (Ev_t rfl (Ev.bind hsrc (Ev.bind p (Ev_t rfl (Ev_f c (Ev.now _)))))), Ev.bind hi (Ev_t (by simp) (Ev.bind q (Ev_t rfl (Ev_f c (Ev.now _)))))⟩

theorem szRunS_val (l : List S76) (hl : l.length ≤ maxLen) (n : Int) (h0 : 0 ≤ n) (h1 : n ≤ 1048576) : ∃ r, laws_szRunS.f l n = some r ∧ r ≤ n ∧ (0 ≤ r → l.length ≤ 1048576) := by
  have hl0 : (l.length : Int) ≤ 9223372036854775807 := by simp only [maxLen] at hl; omega
  simp only [laws_szRunS.f]
  rw [w64 (n := n - (l.length : Int)) (by omega) (by omega)]
  by_cases c : n - (l.length : Int) < 0
  · exact ⟨-1, if_pos c, by omega, fun h => by omega⟩
  · exact ⟨n - (l.length : Int), if_neg c, by omega, fun h => by omega⟩

theorem rd_T76_nat (xs : List S76) (i : Nat) : rd_T76 xs (i : Int) = xs.getD i z76 := by simp [rd_T76]
theorem toRunS_ev (l : List S76) (hl : l.length ≤ 1048576) : Ev (fun k => laws_toRunS.f k l) (l.map fun x => (⟨x.f0, x.f1⟩ : S74)) := by
  have h := fill_ev (g := fun k x i => laws_toRunS.l0 k l x i) l z76 (fun x => (⟨x.f0, x.f1⟩ : S74))
    (fun x i hx hi hr => Ev_succ (by
      simp only [laws_toRunS.l0, laws_toRun.f, Option.bind_some]
      refine Ev_t (by omega) (Ev_t (by omega) (Ev_t (by omega) ?_))
      rw [w64_succ hi (by omega)]
      simpa [rd_T76_nat] using hr))
    (fun x hx => Ev_succ (by simp only [laws_toRunS.l0]; exact Ev_f (by omega) (Ev.now _)))
    (List.replicate l.length z74) (by simp)
  refine Ev.congr (fun k => ?_) h
  simp only [laws_toRunS.f]
  rw [if_pos (by omega), if_pos (by simp; omega)]
  simp

theorem eqRunS_ev (l : List S74) (hl : l.length ≤ 4611686018427387904) : Ev (fun k => laws_eqRunS.f k l l) true := by
  have h := all_ev (g := fun k i => laws_eqRunS.l0 k l l i) (r := true) l.length
    (fun i hi hr => Ev_succ (by
      simp only [laws_eqRunS.l0, laws_eqRun.f, if_true, Option.bind_some]
      refine Ev_t (by omega) (Ev_t (by omega) (Ev_t (by omega) ?_))
      rw [w64_succ hi (by omega)]; exact hr))
    (Ev_succ (by simp only [laws_eqRunS.l0]; exact Ev_f (by omega) (Ev.now _)))
  refine Ev.congr (fun k => ?_) h
  simp only [laws_eqRunS.f]; rw [if_pos trivial]

theorem mark_markRunS (l : List S74) (hl : l.length ≤ 1048576) (n0 : Int) (h0 : 0 ≤ n0) (h1 : n0 ≤ 1000000000000) : Ev (fun k => laws_markRunS.f k l n0) (n0 + 2 * (l.length : Int), (List.range l.length).map fun i : Nat => (⟨n0 + 2 * (i : Int), n0 + 2 * (i : Int) + 1⟩ : S74)) := by
  have h := fills_ev (g := fun k x i => laws_markRunS.l0 k x (n0 + 2 * i) i) l.length (fun i : Nat => (⟨n0 + 2 * (i : Int), n0 + 2 * (i : Int) + 1⟩ : S74)) (fun x => (n0 + 2 * (l.length : Int), x))
      (fun x i hx hi r hr => Ev_succ (by
        simp only [laws_markRunS.l0, Option.bind_some]
        refine Ev_t (by omega) (Ev_t (by omega) ?_)
        have e0 : wrap64 (n0 + 2 * (i : Int) + 1) = n0 + 2 * (i : Int) + 1 := w64 (by omega) (by omega)
        have e1 : wrap64 (n0 + 2 * (i : Int) + 1 + 1) = n0 + 2 * ((i + 1 : Nat) : Int) := by rw [w64 (by omega) (by omega)]; omega
        rw [e0, e1, w64_succ hi (by omega)]
        have e2 : rd_T74 (x.set i (⟨n0 + 2 * (i : Int), (rd_T74 x (i : Int)).f1⟩ : S74)) (i : Int) = ⟨n0 + 2 * (i : Int), (rd_T74 x (i : Int)).f1⟩ := by
          rw [rd_T74_nat]; simp [List.getD, hx, hi]
        simp only [Int.toNat_natCast, e2, List.set_set]
        exact hr))
      (fun x hx => Ev_succ (by simp only [laws_markRunS.l0]; exact Ev_f (by omega) (Ev.now _)))
      l rfl
  refine Ev.congr (fun k => ?_) h
  simp only [laws_markRunS.f, Int.mul_zero, Int.add_zero]

theorem held_heldRunS (n : Nat) (hl : n ≤ 1048576) (n0 : Int) (h0 : 0 ≤ n0) (h1 : n0 ≤ 1000000000000) : Ev (fun k => laws_heldRunS.f k ((List.range n).map fun i : Nat => (⟨n0 + 2 * (i : Int), n0 + 2 * (i : Int) + 1⟩ : S74)) n0) (n0 + 2 * (n : Int)) := by
  have h := all_ev (g := fun k i => laws_heldRunS.l0 k ((List.range n).map fun i : Nat => (⟨n0 + 2 * (i : Int), n0 + 2 * (i : Int) + 1⟩ : S74)) (n0 + 2 * i) i) (r := n0 + 2 * (n : Int)) n
      (fun i hi hr => Ev_succ (by
        simp only [laws_heldRunS.l0, List.length_map, List.length_range]
        have e0 : wrap64 (n0 + 2 * (i : Int) + 1) = n0 + 2 * (i : Int) + 1 := w64 (by omega) (by omega)
        have e1 : wrap64 (n0 + 2 * (i : Int) + 1 + 1) = n0 + 2 * ((i + 1 : Nat) : Int) := by rw [w64 (by omega) (by omega)]; omega
        have e2 : rd_T74 ((List.range n).map fun i : Nat => (⟨n0 + 2 * (i : Int), n0 + 2 * (i : Int) + 1⟩ : S74)) (i : Int) = ⟨n0 + 2 * (i : Int), n0 + 2 * (i : Int) + 1⟩ := by
          rw [rd_T74_nat]; simp [List.getD, hi]
        rw [e0, e1, e2, w64_succ hi (by omega)]
        exact Ev_t (by omega) (Ev_t (by omega) (Ev_t rfl (Ev_t rfl hr)))))
      (Ev_succ (by simp only [laws_heldRunS.l0, List.length_map, List.length_range]; exact Ev_f (by omega) (Ev.now _)))
  refine Ev.congr (fun k => ?_) h
  simp only [laws_heldRunS.f, Int.mul_zero, Int.add_zero]

theorem nums1_size (c : Int) : (strOfNums [c]).size = 1 := rfl
theorem markText_loop : ∀ (d : Nat) (n : Int) (x : ByteArray), 0 ≤ n → n ≤ 9000000000000000000 → n < 10 ^ d → x.size + d ≤ 1000 → ∃ s, Ev (fun k => laws_markText.l0 k n x) s := by
  intro d
  induction d with
  | zero =>
    intro n x h0 h9 h1 h2
    have : n = 0 := by have : (10 : Int) ^ 0 = 1 := rfl; omega
    subst this
    refine ⟨(⟨#[109]⟩ : ByteArray) ++ x, Ev_succ ?_⟩
    simp only [laws_markText.l0]
    exact Ev_f (by omega) (Ev_t (by omega) (Ev.now _))
  | succ d ih =>
    intro n x h0 h9 h1 h2
    by_cases c : n > 0
    · have e1 : Int.tdiv n 10 = n / 10 := Int.tdiv_eq_ediv_of_nonneg h0
      have e2 : wrap64 (Int.tdiv n 10) = n / 10 := by rw [e1, w64 (by omega) (by omega)]
      have h3 : n / 10 < 10 ^ d := by
        rw [Int.pow_succ] at h1
        generalize (10 : Int) ^ d = g at h1 ⊢
        omega
      obtain ⟨s, hs⟩ := ih (n / 10) (strOfNums [wrap64 (48 + Int.tmod n 10) % 256] ++ x) (by omega) (by omega) h3 (by rw [ByteArray.size_append, nums1_size]; omega)
      refine ⟨s, Ev_succ ?_⟩
      simp only [laws_markText.l0, Option.bind_some, e2]
      exact Ev_t c (Ev_t (by rw [nums1_size]; omega) hs)
    · refine ⟨(⟨#[109]⟩ : ByteArray) ++ x, Ev_succ ?_⟩
      simp only [laws_markText.l0]
      exact Ev_f c (Ev_t (by omega) (Ev.now _))
theorem markText_some (n : Int) (h : n ≤ 9000000000000000000) : ∃ s, Ev (fun k => laws_markText.f k n) s := by
  simp only [laws_markText.f]
  by_cases c : n ≤ 0
  · exact ⟨_, Ev_t c (Ev.now _)⟩
  · obtain ⟨s, hs⟩ := markText_loop 19 n (⟨#[]⟩ : ByteArray) (by omega) h (by omega) (by show 0 + 19 ≤ 1000; omega)
    exact ⟨s, Ev_f c hs⟩
open Classical in
noncomputable def mt (n : Int) : ByteArray := if h : n ≤ 9000000000000000000 then (markText_some n h).choose else ⟨#[]⟩
theorem mt_ev (n : Int) (h : n ≤ 9000000000000000000) : Ev (fun k => laws_markText.f k n) (mt n) := by
  unfold mt
  rw [dif_pos h]
  exact (markText_some n h).choose_spec
theorem rd_T89_set (x : List S89) (i : Nat) (v : S89) (h : i < x.length) : rd_T89 (x.set i v) (i : Int) = v := by
  rw [rd_T89_nat]; simp [List.getD, h]
theorem mark_Part (l : List S89) (hl : l.length ≤ 1048576) (n0 : Int) (h0 : 0 ≤ n0) (h1 : n0 ≤ 1000000000000) : ∃ (q : Int) (l' : List S89), n0 ≤ q ∧ q ≤ n0 + 3145728 ∧ Ev (fun k => laws_markPartS.f k l n0) (q, l') := by
  refine ⟨n0 + 3 * (l.length : Int), (List.range l.length).map fun i : Nat => (⟨n0 + 3 * (i : Int), n0 + 3 * (i : Int) + 1, mt (n0 + 3 * (i : Int) + 2)⟩ : S89), by omega, by omega, ?_⟩
  · have h := fills_ev (g := fun k x i => laws_markPartS.l0 k x (n0 + 3 * i) i) l.length (fun i : Nat => (⟨n0 + 3 * (i : Int), n0 + 3 * (i : Int) + 1, mt (n0 + 3 * (i : Int) + 2)⟩ : S89)) (fun x => (n0 + 3 * (l.length : Int), x))
      (fun x i hx hi r hr => Ev_succ (by
        have e0 : wrap64 (n0 + 3 * (i : Int) + 1) = n0 + 3 * (i : Int) + 1 := w64 (by omega) (by omega)
        have e1 : wrap64 (n0 + 3 * (i : Int) + 1 + 1) = n0 + 3 * (i : Int) + 2 := by rw [w64 (by omega) (by omega)]; omega
        have e3 : wrap64 (n0 + 3 * (i : Int) + 2 + 1) = n0 + 3 * ((i + 1 : Nat) : Int) := by rw [w64 (by omega) (by omega)]; omega
        simp only [laws_markPartS.l0, Option.bind_some, Int.toNat_natCast, rd_T89_set x i _ (show i < x.length by omega), List.set_set, e0, e1, e3]
        rw [w64_succ hi (by omega)]
        exact Ev_t (by omega) (Ev_t (by omega) (Ev.bind (mt_ev _ (by omega)) hr))))
      (fun x hx => Ev_succ (by simp only [laws_markPartS.l0]; exact Ev_f (by omega) (Ev.now _)))
      l rfl
    refine Ev.congr (fun k => ?_) h
    simp only [laws_markPartS.f, Int.mul_zero, Int.add_zero]
end OfFnExactCarryRuns
open OfFnExactCarryRuns
theorem FnExactCarryRuns : Stated := by
  intro l0 l1 a w0 w1 _
  refine Ev.rounds ?_
  simp only [laws_FnExactCarryRuns.f]
  obtain ⟨r, h1, h2, h3⟩ := szRunS_val l0 w0.1 1048576 (by omega) (by omega)
  refine Ev_bind0 h1 (Ev_ite (fun _ => Ev.now _) (fun c => ?_))
  have hl0 : l0.length ≤ 1048576 := h3 (by omega)
  obtain ⟨r2, h4, _, h6⟩ := szPartS_ev l1 ⟨w1.1, fun p hp => (w1.2 p hp).2.2⟩ r (by omega) h2
  refine Ev.bind h4 (Ev_ite (fun _ => Ev.now _) (fun c2 => ?_))
  obtain ⟨hl, hz⟩ := h6 (by omega)
  have hz' := im_wf hz
  have hl' : (l1.map im).length ≤ 1048576 := by simpa using hl
  have f1 := toRunS_ev l0 hl0
  have f2 := toPartS_ev l1 hl
  generalize hg : (l0.map fun x => (⟨x.f0, x.f1⟩ : S74)) = g at f1
  have hgl : g.length ≤ 1048576 := by rw [← hg]; simpa using hl0
  obtain ⟨R, b, hR, p, q⟩ := same_CarryRuns g hgl (l1.map im) hz' hl' a
  have e1 := eqRunS_ev g (by omega)
  have e2 := eqPartS_ev (l1.map im) (by omega)
  have e3 := eqRunS_ev R (by omega)
  have m1 := mark_markRunS g hgl 1 (by omega) (by omega)
  obtain ⟨q2, m, hq, _, m2⟩ := mark_Part (l1.map im) hl' (1 + 2 * (g.length : Int)) (by omega) (by omega)
  have m3 := mark_markRunS R (by omega) 1 (by omega) (by omega)
  have m4 := held_heldRunS R.length (by omega) 1 (by omega) (by omega)
  refine Ev.bind f1 (Ev.bind f2 (Ev.bind p (Ev.bind f1 (Ev.bind f2 (Ev.bind q (Ev.bind e3 (Ev_t rfl (Ev_succ ?_))))))))
  simp only [laws_FnExactCarryRuns.j0]
  refine Ev_f (by simp) (Ev.bind f1 (Ev.bind e1 (Ev_t rfl (Ev.bind f2 (Ev.bind e2 (Ev_t rfl (Ev.bind m1 (Ev.bind m2 (Ev_f (by omega) (Ev.bind e3 (Ev_t rfl (Ev_succ ?_))))))))))))
  simp only [laws_FnExactCarryRuns.j1]
  refine Ev_f (by simp) (Ev.bind m3 (Ev.bind m4 (Ev_f (by omega) (Ev_t rfl (Ev.bind f1 (Ev.bind f2 (Ev.bind q (Ev.bind e3 (Ev_t rfl (Ev_succ ?_))))))))))
  simp only [laws_FnExactCarryRuns.j2]
  exact Ev_f (by simp) (Ev.bind m4 (Ev_f (by omega) (Ev_t rfl (Ev.now _))))
end Go.Proofs.Ytdlicabmalljpaa.Pure
