/-
The pure statement of FnExactImageOf: the printed functions of the program and of the reference answer alike for every argument within the bounds that the statement tells.
-/
import Derived.Test.YtebmncdjlmnbnaaWfFnExactImageOf
namespace Go.Proofs.Ytebmncdjlmnbnaa.Pure
open Go Go.RowKit Go.Proofs.Ytebmncdjlmnbnaa.PFnExactImageOf Go.Proofs.YtebmncdjlmnbnaaW.PrintWords Go.Proofs.YtebmncdjlmnbnaaW.PrintLast Go.Proofs.YtebmncdjlmnbnaaW.PrintMore Go.Proofs.Ytebmncdjlmnbnaa.Lib
set_option linter.unusedVariables false
set_option linter.unusedSimpArgs false
namespace OfFnExactImageOf
theorem list_size0 {s : ByteArray} : s.toList = [] ↔ s.size = 0 := by
  rw [ByteArray.toList_eq]
  constructor
  · intro h
    have : s.data.toList.length = 0 := by rw [h]; rfl
    simpa using this
  · intro h
    exact List.eq_nil_of_length_eq_zero (by simpa using h)
def kd3 (a b : Int) (s : ByteArray) : Int := if a > 0 ∧ b = 0 ∧ s.toList = [] then 1 else if b > 0 ∧ a = 0 ∧ s.toList = [] then 2 else if ¬ s.toList = [] ∧ a = 0 ∧ b = 0 then 3 else 0
def kd (p : S74) : Int := kd3 p.f0 p.f1 p.f2
def okk : Int → List S74 → Bool
  | _, [] => true
  | q, p :: c => (decide (kd p ≠ 0) && decide (kd p ≠ q)) && okk (kd p) c
def src : List S74 → Int
  | [] => 0
  | p :: c => p.f0 + p.f1 + src c
def tgt : List S74 → Int
  | [] => 0
  | p :: c => p.f0 + (p.f2.size : Int) + tgt c
def goodB (c : List S74) : Bool := okk 0 c && (decide (src c ≤ 120) && decide (tgt c ≤ 120))
theorem kd_pos {p : S74} (h : kd p ≠ 0) : 0 ≤ p.f0 ∧ 0 ≤ p.f1 ∧ ((kd p = 1 ∧ 0 < p.f0 ∧ p.f1 = 0 ∧ p.f2.size = 0) ∨ (kd p = 2 ∧ 0 < p.f1 ∧ p.f0 = 0 ∧ p.f2.size = 0) ∨ (kd p = 3 ∧ p.f0 = 0 ∧ p.f1 = 0 ∧ 0 < p.f2.size)) := by
  unfold kd kd3 at *
  simp only [list_size0] at *
  split at h
  · rename_i h1
    rw [if_pos h1]
    exact ⟨by omega, by omega, Or.inl ⟨rfl, h1.1, h1.2.1, h1.2.2⟩⟩
  · rename_i h1
    rw [if_neg h1]
    split at h
    · rename_i h2
      rw [if_pos h2]
      exact ⟨by omega, by omega, Or.inr (Or.inl ⟨rfl, h2.1, h2.2.1, h2.2.2⟩)⟩
    · rename_i h2
      rw [if_neg h2]
      split at h
      · rename_i h3
        rw [if_pos h3]
        exact ⟨by omega, by omega, Or.inr (Or.inr ⟨rfl, h3.2.1, h3.2.2, by omega⟩)⟩
      · exact absurd rfl h
theorem okk_cons {q : Int} {p : S74} {c : List S74} (h : okk q (p :: c) = true) : kd p ≠ 0 ∧ kd p ≠ q ∧ okk (kd p) c = true := by
  simp only [okk, Bool.and_eq_true, decide_eq_true_eq] at h
  exact ⟨h.1.1, h.1.2, h.2⟩
theorem okk_any {q : Int} {c : List S74} (h : okk q c = true) : okk 0 c = true := by
  cases c with
  | nil => rfl
  | cons p c => obtain ⟨h1, h2, h3⟩ := okk_cons h; simp only [okk, Bool.and_eq_true, decide_eq_true_eq]; exact ⟨⟨h1, h1⟩, h3⟩
theorem okk_nonneg : ∀ (c : List S74) (q : Int), okk q c = true → 0 ≤ src c ∧ 0 ≤ tgt c ∧ (c.length : Int) ≤ src c + tgt c := by
  intro c
  induction c with
  | nil => intro q _; simp [src, tgt]
  | cons p c ih =>
    intro q h
    obtain ⟨h1, _, h3⟩ := okk_cons h
    obtain ⟨g0, g1, g2⟩ := ih _ h3
    obtain ⟨k0, k1, k2⟩ := kd_pos h1
    simp only [src, tgt, List.length_cons]
    omega
theorem rd_mid (pre : List S74) (p : S74) (suf : List S74) : rd_T74 (pre ++ p :: suf) (pre.length : Int) = p := by simp [rd_T74]
theorem rd_prev (pre : List S74) (p : S74) (suf : List S74) (h : pre.length < 9000000000000000000) : rd_T74 (pre ++ p :: suf) (wrap64 (((pre ++ [p]).length : Int) - 1)) = p := by
  rw [w64 (by simp only [List.length_append, List.length_cons, List.length_nil]; omega) (by simp only [List.length_append, List.length_cons, List.length_nil]; omega)]
  simp [rd_T74]
theorem append_one (pre : List S74) (p : S74) (suf : List S74) : pre ++ p :: suf = (pre ++ [p]) ++ suf := by simp
theorem len_one (pre : List S74) (p : S74) (h : pre.length < 9000000000000000000) : wrap64 ((pre.length : Int) + 1) = ((pre ++ [p]).length : Int) := by
  rw [w64 (by omega) (by omega)]; simp

theorem l1Kind_j1 (x : Bool) (a b : Int) (s : ByteArray) : Ev (fun k => spec_l1Kind.j1 k x a b s) (if x = true then 2 else if ¬ s.toList = [] ∧ a = 0 ∧ b = 0 then 3 else 0) := by
  refine Ev_succ ?_
  simp only [spec_l1Kind.j1]
  refine ⟨0, fun k _ => ?_⟩
  by_cases h1 : x = true <;> by_cases h2 : a = 0 <;> by_cases h3 : b = 0 <;> by_cases h4 : s.toList = [] <;> simp [h1, h2, h3, h4]
theorem l1Kind_j0 (x : Bool) (a b : Int) (s : ByteArray) : Ev (fun k => spec_l1Kind.j0 k x a b s) (if x = true then 1 else if b > 0 ∧ a = 0 ∧ s.toList = [] then 2 else if ¬ s.toList = [] ∧ a = 0 ∧ b = 0 then 3 else 0) := by
  refine Ev_succ ?_
  simp only [spec_l1Kind.j0]
  refine Ev_ite (fun h1 => by rw [if_pos h1]; exact Ev.now _) (fun h1 => ?_)
  rw [if_neg h1]
  refine Ev_ite (fun h2 => Ev_ite (fun h3 => Ev_eq (l1Kind_j1 _ _ _ _) ?_) (fun h3 => Ev_eq (l1Kind_j1 _ _ _ _) ?_)) (fun h2 => Ev_eq (l1Kind_j1 _ _ _ _) ?_)
  · by_cases h4 : s.toList = [] <;> simp [h2, h3, h4]
  · simp [h3]
  · simp [h2]
theorem l1Kind_ev (a b : Int) (s : ByteArray) : Ev (fun k => spec_l1Kind.f k a b s) (kd3 a b s) := by
  simp only [spec_l1Kind.f, kd3]
  refine Ev_ite (fun h1 => Ev_ite (fun h2 => Ev_eq (l1Kind_j0 _ _ _ _) ?_) (fun h2 => Ev_eq (l1Kind_j0 _ _ _ _) ?_)) (fun h1 => Ev_eq (l1Kind_j0 _ _ _ _) ?_)
  · by_cases h4 : s.toList = [] <;> simp [h1, h2, h4]
  · simp [h2]
  · simp [h1]

theorem kind_j1 (x : Bool) (a b : Int) (s : ByteArray) : Ev (fun k => impl_Part_kind.j1 k x a b s) (if x = true then 2 else if ¬ s.toList = [] ∧ a = 0 ∧ b = 0 then 3 else 0) := by
  refine Ev_succ ?_
  simp only [impl_Part_kind.j1]
  refine ⟨0, fun k _ => ?_⟩
  by_cases h1 : x = true <;> by_cases h2 : a = 0 <;> by_cases h3 : b = 0 <;> by_cases h4 : s.toList = [] <;> simp [h1, h2, h3, h4]
theorem kind_j0 (x : Bool) (a b : Int) (s : ByteArray) : Ev (fun k => impl_Part_kind.j0 k x a b s) (if x = true then 1 else if b > 0 ∧ a = 0 ∧ s.toList = [] then 2 else if ¬ s.toList = [] ∧ a = 0 ∧ b = 0 then 3 else 0) := by
  refine Ev_succ ?_
  simp only [impl_Part_kind.j0]
  refine Ev_ite (fun h1 => by rw [if_pos h1]; exact Ev.now _) (fun h1 => ?_)
  rw [if_neg h1]
  refine Ev_ite (fun h3 => Ev_ite (fun h2 => Ev_eq (kind_j1 _ _ _ _) ?_) (fun h2 => Ev_eq (kind_j1 _ _ _ _) ?_)) (fun h3 => Ev_eq (kind_j1 _ _ _ _) ?_)
  · by_cases h4 : s.toList = [] <;> simp [h2, h3, h4]
  · simp [h2]
  · simp [h3]
theorem kind_ev (a b : Int) (s : ByteArray) : Ev (fun k => impl_Part_kind.f k a b s) (kd3 a b s) := by
  simp only [impl_Part_kind.f, kd3]
  refine Ev_ite (fun h1 => Ev_ite (fun h2 => Ev_eq (kind_j0 _ _ _ _) ?_) (fun h2 => Ev_eq (kind_j0 _ _ _ _) ?_)) (fun h1 => Ev_eq (kind_j0 _ _ _ _) ?_)
  · by_cases h4 : s.toList = [] <;> simp [h1, h2, h4]
  · simp [h2]
  · simp [h1]

theorem specGood_j (l : List S74) (i s t : Int) (b : Bool) (x y : Int) (z : ByteArray) (r : Bool) (hb : b = true → r = false)
    (h1 : b = false → wrap64 (s + wrap64 (x + y)) > 120 → r = false) (h2 : b = false → wrap64 (t + wrap64 (x + (z.size : Int))) > 120 → r = false)
    (h3 : b = false → ¬ wrap64 (s + wrap64 (x + y)) > 120 → ¬ wrap64 (t + wrap64 (x + (z.size : Int))) > 120 → Ev (fun k => spec_GoodChange.l0 k l (wrap64 (s + wrap64 (x + y))) (wrap64 (t + wrap64 (x + (z.size : Int)))) l (l.length : Int) (wrap64 (i + 1))) r) :
    Ev (fun k => spec_GoodChange.j1 k l s t l (l.length : Int) i b x y z) r := by
  refine Ev_succ ?_
  simp only [spec_GoodChange.j1]
  refine Ev_ite (fun h => Ev_eq (Ev.now _) (hb h).symm) (fun h => ?_)
  have hf : b = false := by simpa using h
  exact Ev_ite (fun h4 => Ev_eq (Ev.now _) (h1 hf h4).symm) (fun h4 => Ev_ite (fun h5 => Ev_eq (Ev.now _) (h2 hf h5).symm) (fun h5 => h3 hf h4 h5))
def goodFrom (q s t : Int) (c : List S74) : Bool := okk q c && (decide (s + src c ≤ 120) && decide (t + tgt c ≤ 120))
theorem goodFrom_false {q s t : Int} {p : S74} {c : List S74} (h : okk (kd p) c = true → ¬ (s + (p.f0 + p.f1 + src c) ≤ 120 ∧ t + (p.f0 + (p.f2.size : Int) + tgt c) ≤ 120)) : goodFrom q s t (p :: c) = false := by
  unfold goodFrom
  cases ho : okk q (p :: c) with
  | false => rfl
  | true =>
    obtain ⟨_, _, h3⟩ := okk_cons ho
    have := h h3
    simp only [src, tgt, Bool.true_and]
    by_cases h4 : s + (p.f0 + p.f1 + src c) ≤ 120 <;> by_cases h5 : t + (p.f0 + (p.f2.size : Int) + tgt c) ≤ 120 <;> simp [h4, h5]
    exact this ⟨h4, h5⟩
theorem specGood_loop (l : List S74) (hz : ∀ p ∈ l, p.f2.size ≤ 1048576) (hl : l.length ≤ 1048576) : ∀ (suf pre : List S74), l = pre ++ suf → ∀ q s t : Int, 0 ≤ s → s ≤ 120 → 0 ≤ t → t ≤ 120 → (pre = [] → q = 0) →
    (pre ≠ [] → kd (rd_T74 l (wrap64 ((pre.length : Int) - 1))) = q) → Ev (fun k => spec_GoodChange.l0 k l s t l (l.length : Int) (pre.length : Int)) (goodFrom q s t suf) := by
  intro suf
  induction suf with
  | nil =>
    intro pre he q s t s0 s1 t0 t1 hq hp
    refine Ev_succ ?_
    have hlen : l.length = pre.length := by rw [he]; simp
    simp only [spec_GoodChange.l0]
    refine Ev_f (by omega) (Ev_eq (Ev.now _) ?_)
    simp [goodFrom, okk, src, tgt, s1, t1]
  | cons p suf ih =>
    intro pre he q s t s0 s1 t0 t1 hq hp
    have hlen : l.length = pre.length + (suf.length + 1) := by rw [he]; simp
    have hmem : p ∈ l := by rw [he]; simp
    have hzp := hz p hmem
    have hrd : rd_T74 l (pre.length : Int) = p := by rw [he]; exact rd_mid pre p suf
    have hnext := ih (pre ++ [p]) (by rw [he]; simp) (kd p)
    have hj : ∀ b : Bool, (b = true → goodFrom q s t (p :: suf) = false) → (b = false → kd p ≠ 0 ∧ kd p ≠ q ∧ p.f0 ≤ 120 ∧ p.f1 ≤ 120 ∧ (p.f2.size : Int) ≤ 120) →
        Ev (fun k => spec_GoodChange.j1 k l s t l (l.length : Int) (pre.length : Int) b p.f0 p.f1 p.f2) (goodFrom q s t (p :: suf)) := by
      intro b hb1 hb2
      refine specGood_j l _ s t b _ _ _ _ hb1 ?_ ?_ ?_
      · intro hb h
        obtain ⟨h1, h2, h3, h4, h5⟩ := hb2 hb
        obtain ⟨k0, k1, _⟩ := kd_pos h1
        rw [w64 (n := p.f0 + p.f1) (by omega) (by omega), w64 (n := s + (p.f0 + p.f1)) (by omega) (by omega)] at h
        refine goodFrom_false (fun ho => ?_)
        have := okk_nonneg _ _ ho
        omega
      · intro hb h
        obtain ⟨h1, h2, h3, h4, h5⟩ := hb2 hb
        obtain ⟨k0, k1, _⟩ := kd_pos h1
        rw [w64 (n := p.f0 + (p.f2.size : Int)) (by omega) (by omega), w64 (n := t + (p.f0 + (p.f2.size : Int))) (by omega) (by omega)] at h
        refine goodFrom_false (fun ho => ?_)
        have := okk_nonneg _ _ ho
        omega
      · intro hb ha hc
        obtain ⟨h1, h2, h3, h4, h5⟩ := hb2 hb
        obtain ⟨k0, k1, _⟩ := kd_pos h1
        rw [w64 (n := p.f0 + p.f1) (by omega) (by omega), w64 (n := s + (p.f0 + p.f1)) (by omega) (by omega)] at ha ⊢
        rw [w64 (n := p.f0 + (p.f2.size : Int)) (by omega) (by omega), w64 (n := t + (p.f0 + (p.f2.size : Int))) (by omega) (by omega)] at hc ⊢
        rw [len_one pre p (by omega)]
        have := hnext (s + (p.f0 + p.f1)) (t + (p.f0 + (p.f2.size : Int))) (by omega) (by omega) (by omega) (by omega) (fun h => by simp at h) (fun _ => by rw [he, rd_prev pre p suf (by omega)])
        refine Ev_eq this ?_
        simp [goodFrom, okk, src, tgt, h1, h2, Int.add_assoc]
    have hfin : kd p ≠ 0 → kd p ≠ q → Ev (fun k => if p.f0 > 120 then spec_GoodChange.j1 k l s t l (l.length : Int) (pre.length : Int) true p.f0 p.f1 p.f2 else if p.f1 > 120 then spec_GoodChange.j1 k l s t l (l.length : Int) (pre.length : Int) true p.f0 p.f1 p.f2 else spec_GoodChange.j1 k l s t l (l.length : Int) (pre.length : Int) (decide ((p.f2.size : Int) > 120)) p.f0 p.f1 p.f2) (goodFrom q s t (p :: suf)) := by
      intro h1 h2
      obtain ⟨k0, k1, _⟩ := kd_pos h1
      have big : (p.f0 > 120 ∨ p.f1 > 120 ∨ (p.f2.size : Int) > 120) → goodFrom q s t (p :: suf) = false := by
        intro hbig
        refine goodFrom_false (fun ho => ?_)
        have := okk_nonneg _ _ ho
        omega
      refine Ev_ite (fun h => hj _ (fun _ => big (Or.inl h)) (fun h => by cases h)) (fun h3 => Ev_ite (fun h => hj _ (fun _ => big (Or.inr (Or.inl h))) (fun h => by cases h)) (fun h4 => hj _ (fun h => big (Or.inr (Or.inr (by simpa using h)))) (fun h => ⟨h1, h2, by omega, by omega, by simpa using h⟩)))
    refine Ev_succ ?_
    simp only [spec_GoodChange.l0, hrd]
    refine Ev_t (by omega) (Ev_t (by omega) (Ev_t (by omega) (Ev.bind (l1Kind_ev _ _ _) ?_)))
    refine Ev_ite (fun h => hj _ (fun _ => ?_) (fun h => by cases h)) (fun h1 => Ev_ite (fun h2 => Ev_t ?_ (Ev_t ?_ (Ev.bind (l1Kind_ev _ _ _) (Ev_ite (fun h3 => hj _ (fun _ => ?_) (fun h => by cases h)) (fun h3 => hfin h1 (fun h4 => h3 ?_)))))) (fun h2 => hfin h1 (fun h4 => ?_)))
    · have : kd p = 0 := h
      simp [goodFrom, okk, this]
    · rw [w64 (by omega) (by omega)]; omega
    · rw [w64 (by omega) (by omega)]; omega
    · have h5 : kd (rd_T74 l (wrap64 ((pre.length : Int) - 1))) = kd p := h3
      rw [hp (fun h => by rw [h] at h2; simp at h2)] at h5
      simp [goodFrom, okk, h5]
    · have h5 := hp (fun h => by rw [h] at h2; simp at h2)
      exact h5.trans h4.symm
    · have h5 : pre = [] := List.eq_nil_of_length_eq_zero (by omega)
      rw [hq h5] at h4
      exact h1 h4
theorem specGood_ev (l : List S74) (hz : ∀ p ∈ l, p.f2.size ≤ 1048576) (hl : l.length ≤ 1048576) : Ev (fun k => spec_GoodChange.f k l) (goodB l) := by
  have h := specGood_loop l hz hl l [] rfl 0 0 0 (by omega) (by omega) (by omega) (by omega) (fun _ => rfl) (fun h => absurd rfl h)
  simp only [spec_GoodChange.f]
  refine Ev_eq h ?_
  simp [goodFrom, goodB]

def lensOf (l : List S74) : Int × Int × Bool := if src l ≤ 120 ∧ tgt l ≤ 120 then (src l, tgt l, true) else (0, 0, false)
theorem lengths_loop (l : List S74) (hz : ∀ p ∈ l, p.f2.size ≤ 1048576) (hl : l.length ≤ 1048576) : ∀ (suf pre : List S74), l = pre ++ suf → ∀ q s t : Int, 0 ≤ s → s ≤ 120 → 0 ≤ t → t ≤ 120 → okk q suf = true →
    Ev (fun k => impl_lengths.l0 k s t l (l.length : Int) (pre.length : Int)) (if s + src suf ≤ 120 ∧ t + tgt suf ≤ 120 then (s + src suf, t + tgt suf, true) else (0, 0, false)) := by
  intro suf
  induction suf with
  | nil =>
    intro pre he q s t s0 s1 t0 t1 _
    refine Ev_succ ?_
    have hlen : l.length = pre.length := by rw [he]; simp
    simp only [impl_lengths.l0]
    refine Ev_f (by omega) (Ev_eq (Ev.now _) ?_)
    simp [src, tgt, s1, t1]
  | cons p suf ih =>
    intro pre he q s t s0 s1 t0 t1 hok
    obtain ⟨h1, _, h3⟩ := okk_cons hok
    obtain ⟨k0, k1, _⟩ := kd_pos h1
    obtain ⟨n0, n1, _⟩ := okk_nonneg _ _ h3
    have hlen : l.length = pre.length + (suf.length + 1) := by rw [he]; simp
    have hmem : p ∈ l := by rw [he]; simp
    have hzp := hz p hmem
    have hrd : rd_T74 l (pre.length : Int) = p := by rw [he]; exact rd_mid pre p suf
    have hnext := ih (pre ++ [p]) (by rw [he]; simp) (kd p)
    have hj : ∀ b : Bool, (b = true → p.f0 > 120 ∨ p.f1 > 120) → (b = false → p.f0 ≤ 120 ∧ p.f1 ≤ 120) →
        Ev (fun k => impl_lengths.j1 k s t l (l.length : Int) (pre.length : Int) b p.f0 p.f1 p.f2) (if s + src (p :: suf) ≤ 120 ∧ t + tgt (p :: suf) ≤ 120 then (s + src (p :: suf), t + tgt (p :: suf), true) else (0, 0, false)) := by
      intro b hb1 hb2
      refine Ev_succ ?_
      simp only [impl_lengths.j1]
      simp only [src, tgt]
      refine Ev_ite (fun h => Ev_eq (Ev.now _) ?_) (fun h => ?_)
      · have := hb1 h
        exact (if_neg (by omega)).symm
      · have hb : b = false := by simpa using h
        have := hb2 hb
        rw [w64 (n := p.f0 + p.f1) (by omega) (by omega), w64 (n := s + (p.f0 + p.f1)) (by omega) (by omega), w64 (n := p.f0 + (p.f2.size : Int)) (by omega) (by omega), w64 (n := t + (p.f0 + (p.f2.size : Int))) (by omega) (by omega)]
        refine Ev_ite (fun h => Ev_eq (Ev.now _) (if_neg (by omega)).symm) (fun h4 => Ev_ite (fun h => Ev_eq (Ev.now _) (if_neg (by omega)).symm) (fun h5 => ?_))
        rw [len_one pre p (by omega)]
        refine Ev_eq (hnext (s + (p.f0 + p.f1)) (t + (p.f0 + (p.f2.size : Int))) (by omega) (by omega) (by omega) (by omega) h3) ?_
        simp [Int.add_assoc]
    refine Ev_succ ?_
    simp only [impl_lengths.l0, hrd]
    exact Ev_t (by omega) (Ev_t (by omega) (Ev_t (by omega) (Ev_ite (fun h => hj _ (fun _ => Or.inl h) (fun h => by cases h)) (fun h => hj _ (fun h => Or.inr (by simpa using h)) (fun h6 => ⟨by omega, by simpa using h6⟩)))))
theorem lengths_ev (l : List S74) (hz : ∀ p ∈ l, p.f2.size ≤ 1048576) (hl : l.length ≤ 1048576) (ho : okk 0 l = true) : Ev (fun k => impl_lengths.f k l) (lensOf l) := by
  have h := lengths_loop l hz hl l [] rfl 0 0 0 (by omega) (by omega) (by omega) (by omega) ho
  simp only [impl_lengths.f]
  refine Ev_eq h ?_
  simp [lensOf]

theorem implGood_loop (l : List S74) (hz : ∀ p ∈ l, p.f2.size ≤ 1048576) (hl : l.length ≤ 1048576) : ∀ (suf pre : List S74), l = pre ++ suf → ∀ q : Int, (pre = [] → q = 0) →
    (pre ≠ [] → kd (rd_T74 l (wrap64 ((pre.length : Int) - 1))) = q) → (okk q suf = true → okk 0 l = true) → Ev (fun k => impl_GoodChange.l0 k l l (l.length : Int) (pre.length : Int)) (okk q suf && (decide (src l ≤ 120) && decide (tgt l ≤ 120))) := by
  intro suf
  induction suf with
  | nil =>
    intro pre he q hq hp hok
    refine Ev_succ ?_
    have hlen : l.length = pre.length := by rw [he]; simp
    simp only [impl_GoodChange.l0]
    refine Ev_f (by omega) (Ev.bind (lengths_ev l hz hl (hok rfl)) (Ev_eq (Ev.now _) ?_))
    unfold lensOf
    by_cases h1 : src l ≤ 120 <;> by_cases h2 : tgt l ≤ 120 <;> simp [h1, h2, okk]
  | cons p suf ih =>
    intro pre he q hq hp hok
    have hlen : l.length = pre.length + (suf.length + 1) := by rw [he]; simp
    have hrd : rd_T74 l (pre.length : Int) = p := by rw [he]; exact rd_mid pre p suf
    have hnext := ih (pre ++ [p]) (by rw [he]; simp) (kd p) (fun h => by simp at h) (fun _ => by rw [he, rd_prev pre p suf (by omega)])
    have hgo : kd p ≠ 0 → kd p ≠ q → Ev (fun k => impl_GoodChange.l0 k l l (l.length : Int) (wrap64 ((pre.length : Int) + 1))) (okk q (p :: suf) && (decide (src l ≤ 120) && decide (tgt l ≤ 120))) := by
      intro h1 h2
      rw [len_one pre p (by omega)]
      have e : okk q (p :: suf) = okk (kd p) suf := by simp [okk, h1, h2]
      rw [e]
      exact hnext (fun h => hok (e.trans h))
    refine Ev_succ ?_
    simp only [impl_GoodChange.l0, hrd]
    refine Ev_t (by omega) (Ev_t (by omega) (Ev_t (by omega) (Ev.bind (kind_ev _ _ _) ?_)))
    refine Ev_ite (fun h => Ev_eq (Ev.now _) ?_) (fun h1 => Ev_ite (fun h2 => Ev_t ?_ (Ev_t ?_ (Ev.bind (kind_ev _ _ _) (Ev_ite (fun h3 => Ev_eq (Ev.now _) ?_) (fun h3 => hgo h1 (fun h4 => h3 ?_)))))) (fun h2 => hgo h1 (fun h4 => ?_)))
    · have : kd p = 0 := h
      simp [okk, this]
    · rw [w64 (by omega) (by omega)]; omega
    · rw [w64 (by omega) (by omega)]; omega
    · have h5 : kd (rd_T74 l (wrap64 ((pre.length : Int) - 1))) = kd p := h3
      rw [hp (fun h => by rw [h] at h2; simp at h2)] at h5
      simp [okk, h5]
    · have h5 := hp (fun h => by rw [h] at h2; simp at h2)
      exact h5.trans h4.symm
    · have h5 : pre = [] := List.eq_nil_of_length_eq_zero (by omega)
      rw [hq h5] at h4
      exact h1 h4
theorem implGood_ev (l : List S74) (hz : ∀ p ∈ l, p.f2.size ≤ 1048576) (hl : l.length ≤ 1048576) : Ev (fun k => impl_GoodChange.f k l) (goodB l) := by
  have h := implGood_loop l hz hl l [] rfl 0 (fun _ => rfl) (fun h => absurd rfl h) (fun h => h)
  simp only [impl_GoodChange.f]
  exact Ev_eq h rfl

theorem rd_T73_nat (xs : List S73) (i : Nat) : rd_T73 xs (i : Int) = xs.getD i z73 := by simp [rd_T73]
theorem rd_T74_nat (xs : List S74) (i : Nat) : rd_T74 xs (i : Int) = xs.getD i z74 := by simp [rd_T74]
def im (p : S73) : S74 := ⟨p.f0, p.f1, p.f2⟩
theorem toPartS_ev (l : List S73) (hl : l.length ≤ 1048576) : Ev (fun k => laws_toPartS.f k l) (l.map im) := by
  have h := fill_ev (g := fun k x i => laws_toPartS.l0 k l x i) l z73 im
    (fun x i hx hi hr => Ev_succ (by
      simp only [laws_toPartS.l0, laws_toPart.f, Option.bind_some]
      refine Ev_t (by omega) (Ev_t (by omega) (Ev_t (by omega) ?_))
      rw [w64_succ hi (by omega)]
      simpa [rd_T73_nat, im] using hr))
    (fun x hx => Ev_succ (by simp only [laws_toPartS.l0]; exact Ev_f (by omega) (Ev.now _)))
    (List.replicate l.length z74) (by simp)
  refine Ev.congr (fun k => ?_) h
  simp only [laws_toPartS.f]
  rw [if_pos (by omega), if_pos (by simp; omega)]
  simp
theorem eqPartS_ev (l : List S74) (hl : l.length ≤ 4611686018427387904) : Ev (fun k => laws_eqPartS.f k l l) true := by
  have h := all_ev (g := fun k i => laws_eqPartS.l0 k l l i) (r := true) l.length
    (fun i hi hr => Ev_succ (by
      simp only [laws_eqPartS.l0, laws_eqPart.f, if_true, Option.bind_some]
      refine Ev_t (by omega) (Ev_t (by omega) (Ev_t (by omega) ?_))
      rw [w64_succ hi (by omega)]; exact hr))
    (Ev_succ (by simp only [laws_eqPartS.l0]; exact Ev_f (by omega) (Ev.now _)))
  refine Ev.congr (fun k => ?_) h
  simp only [laws_eqPartS.f]; rw [if_pos trivial]
theorem szPartS_loop (l : List S73) (hw : ∀ p ∈ l, p.f2.size ≤ 9223372036854775807) (hl : l.length ≤ 1048576) : ∀ (m i : Nat) (x : Int), i + m = l.length → 0 ≤ x → x ≤ 1048576 →
    ∃ r, Ev (fun k => laws_szPartS.l0 k l x (i : Int)) r ∧ r ≤ x ∧ (0 ≤ r → ∀ j, i ≤ j → j < l.length → (l.getD j z73).f2.size ≤ 1048576) := by
  intro m
  induction m with
  | zero =>
    intro i x hi h0 h1
    refine ⟨x, Ev_succ ?_, by omega, fun _ j h2 h3 => by omega⟩
    simp only [laws_szPartS.l0]; exact Ev_f (by omega) (Ev.now _)
  | succ m ih =>
    intro i x hi h0 h1
    have hp := hw _ (getD_mem (xs := l) (i := i) z73 (by omega))
    generalize hq : l.getD i z73 = p at hp
    have e : wrap64 (x - (p.f2.size : Int)) = x - (p.f2.size : Int) := w64 (by omega) (by omega)
    by_cases c : x - (p.f2.size : Int) < 0
    · refine ⟨-1, Ev_succ ?_, by omega, fun h => by omega⟩
      simp only [laws_szPartS.l0, laws_szPart.f, rd_T73_nat, hq, e, if_pos c]
      exact Ev_t (by omega) (Ev_t (by omega) (Ev_bind0 rfl (Ev_t (by decide) (Ev.now _))))
    · obtain ⟨r, h2, h3, h4⟩ := ih (i + 1) (x - (p.f2.size : Int)) (by omega) (by omega) (by omega)
      refine ⟨r, Ev_succ ?_, by omega, fun h j h5 h6 => ?_⟩
      · simp only [laws_szPartS.l0, laws_szPart.f, rd_T73_nat, hq, e, if_neg c]
        rw [w64_succ (show i < l.length by omega) (by omega)]
        exact Ev_t (by omega) (Ev_t (by omega) (Ev_bind0 rfl (Ev_f c h2)))
      · by_cases h7 : j = i
        · subst h7; rw [hq]; omega
        · exact h4 h j (by omega) h6
theorem szPartS_ev (l : List S73) (hw : l.length ≤ maxLen ∧ ∀ p ∈ l, p.f2.size ≤ maxLen) (n : Int) (hn : 0 ≤ n) (hn' : n ≤ 1048576) : ∃ r, Ev (fun k => laws_szPartS.f k l n) r ∧ r ≤ n ∧ (0 ≤ r → l.length ≤ 1048576 ∧ ∀ p ∈ l, p.f2.size ≤ 1048576) := by
  have hl0 : (l.length : Int) ≤ 9223372036854775807 := by have := hw.1; simp only [maxLen] at this; omega
  have e : wrap64 (n - (l.length : Int)) = n - (l.length : Int) := w64 (by omega) (by omega)
  simp only [laws_szPartS.f, e]
  by_cases c : n - (l.length : Int) < 0
  · exact ⟨-1, Ev_t c (Ev.now _), by omega, fun h => by omega⟩
  · obtain ⟨r, h1, h2, h3⟩ := szPartS_loop l (fun p hp => by have := hw.2 p hp; simp only [maxLen] at this; exact this) (by omega) l.length 0 (n - (l.length : Int)) (by omega) (by omega) (by omega)
    refine ⟨r, Ev_f c h1, by omega, fun h => ⟨by omega, fun p hp => ?_⟩⟩
    obtain ⟨j, hj, rfl⟩ := List.mem_iff_getElem.1 hp
    have := h3 h j (by omega) hj
    simpa [List.getD, hj] using this
theorem im_wf {l : List S73} (h : ∀ p ∈ l, p.f2.size ≤ 1048576) : ∀ p ∈ l.map im, p.f2.size ≤ 1048576 := by
  intro p hp
  obtain ⟨q, hq, rfl⟩ := List.mem_map.1 hp
  exact h q hq

theorem goodB_ok {l : List S74} (h : goodB l = true) : okk 0 l = true ∧ src l ≤ 120 ∧ tgt l ≤ 120 ∧ 0 ≤ src l ∧ 0 ≤ tgt l ∧ (l.length : Int) ≤ src l + tgt l := by
  simp only [goodB, Bool.and_eq_true, decide_eq_true_eq] at h
  obtain ⟨n0, n1, n2⟩ := okk_nonneg _ _ h.1
  exact ⟨h.1, h.2.1, h.2.2, n0, n1, n2⟩

theorem l1Source_loop (l : List S74) (hl : l.length ≤ 1048576) : ∀ (suf pre : List S74), l = pre ++ suf → ∀ q s : Int, 0 ≤ s → s + src suf ≤ 120 → okk q suf = true →
    Ev (fun k => spec_l1Source.l0 k s l (l.length : Int) (pre.length : Int)) (s + src suf) := by
  intro suf
  induction suf with
  | nil =>
    intro pre he q s s0 s1 _
    refine Ev_succ ?_
    have hlen : l.length = pre.length := by rw [he]; simp
    simp only [spec_l1Source.l0]
    exact Ev_f (by omega) (Ev_eq (Ev.now _) (by simp [src]))
  | cons p suf ih =>
    intro pre he q s s0 s1 hok
    obtain ⟨h1, _, h3⟩ := okk_cons hok
    obtain ⟨k0, k1, _⟩ := kd_pos h1
    obtain ⟨n0, n1, _⟩ := okk_nonneg _ _ h3
    simp only [src] at s1 ⊢
    have hlen : l.length = pre.length + (suf.length + 1) := by rw [he]; simp
    have hrd : rd_T74 l (pre.length : Int) = p := by rw [he]; exact rd_mid pre p suf
    refine Ev_succ ?_
    simp only [spec_l1Source.l0, hrd]
    rw [w64 (n := p.f0 + p.f1) (by omega) (by omega), w64 (n := s + (p.f0 + p.f1)) (by omega) (by omega), len_one pre p (by omega)]
    exact Ev_t (by omega) (Ev_t (by omega) (Ev_t (by omega) (Ev_eq (ih (pre ++ [p]) (by rw [he]; simp) (kd p) (s + (p.f0 + p.f1)) (by omega) (by omega) h3) (by omega))))
theorem l1Source_ev (l : List S74) (hl : l.length ≤ 1048576) (hg : goodB l = true) : Ev (fun k => spec_l1Source.f k l) (src l) := by
  obtain ⟨h1, h2, h3, _⟩ := goodB_ok hg
  have h := l1Source_loop l hl l [] rfl 0 0 (by omega) (by omega) h1
  simp only [spec_l1Source.f]
  exact Ev_eq h (by omega)

def lensG (l : List S74) : Int × Int × Bool := if goodB l = true then (src l, tgt l, true) else (0, 0, false)

theorem implLengths_ev (l : List S74) (hz : ∀ p ∈ l, p.f2.size ≤ 1048576) (hl : l.length ≤ 1048576) : Ev (fun k => impl_LengthsOf.f k l) (lensG l) := by
  simp only [impl_LengthsOf.f, lensG]
  refine Ev.bind (implGood_ev l hz hl) (Ev_ite (fun h => ?_) (fun h => ?_))
  · rw [if_pos h]
    obtain ⟨h1, h2, h3, _⟩ := goodB_ok h
    refine Ev.bind (lengths_ev l hz hl h1) (Ev_eq (Ev.now _) ?_)
    simp [lensOf, h2, h3]
  · rw [if_neg h]; exact Ev.now _

theorem within_eq (a b c : Int) : impl_within.f a b c = some (decide (b ≤ a ∧ a ≤ c)) := by
  simp only [impl_within.f]
  by_cases h : b ≤ a <;> simp [h]

theorem l1In_eq (a b c : Int) : spec_l1In.f a b c = some (decide (b ≤ a ∧ a ≤ c)) := by
  simp only [spec_l1In.f]
  by_cases h : b ≤ a <;> simp [h]

def szs : List ByteArray → Nat
  | [] => 0
  | s :: t => s.size + szs t
theorem szs_append : ∀ (x y : List ByteArray), szs (x ++ y) = szs x + szs y := by
  intro x
  induction x with
  | nil => intro y; simp [szs]
  | cons s x ih => intro y; simp only [List.cons_append, szs, ih]; omega
theorem szs_rep : ∀ n : Nat, szs (List.replicate n (⟨#[]⟩ : ByteArray)) = 0 := by
  intro n
  induction n with
  | zero => rfl
  | succ n ih => rw [List.replicate_succ]; simp only [szs, ih]; rfl
theorem last_rd (F : List ByteArray) (s t : ByteArray) (h : F.length ≤ 100000) : wrap64 (((F ++ [s]).length : Int) - 1) = (F.length : Int) ∧ rdOf ByteArray.empty (F ++ [s]) (F.length : Int) = s ∧ (F ++ [s]).set ((F.length : Int)).toNat t = F ++ [t] := by
  refine ⟨?_, ?_, ?_⟩
  · simp only [List.length_append, List.length_singleton]; rw [w64 (by omega) (by omega)]; omega
  · simp [rdOf]
  · simp
theorem open_inner (l : List S74) (j : Nat) (a b : Int) (s : ByteArray) (n : Nat) (hn : n ≤ 1000) (hab : wrap64 (a + b) = (n : Int)) (r : List Bool × List ByteArray) : ∀ (m i : Nat) (bs : List Bool) (ps : List ByteArray), i + m = n → bs.length + m ≤ 100000 → ps.length + m ≤ 100000 →
    Ev (fun k => spec_l1Open.l0 k l (l.length : Int) (wrap64 ((j : Int) + 1)) (bs ++ List.replicate m (decide (a > 0))) (ps ++ List.replicate m (⟨#[]⟩ : ByteArray))) r →
    Ev (fun k => spec_l1Open.l1 k (i : Int) l (l.length : Int) (j : Int) bs ps a b s) r := by
  intro m
  induction m with
  | zero =>
    intro i bs ps hi h1 h2 h
    refine Ev_succ ?_
    simp only [spec_l1Open.l1, hab]
    simp only [List.replicate_zero, List.append_nil] at h
    exact Ev_f (by omega) h
  | succ m ih =>
    intro i bs ps hi h1 h2 h
    refine Ev_succ ?_
    simp only [spec_l1Open.l1, hab]
    rw [w64_succ (show i < n by omega) (by omega)]
    refine Ev_t (by omega) (Ev_t (by omega) (Ev_t (by omega) (ih (i + 1) _ _ (by omega) (by simp; omega) (by simp; omega) ?_)))
    rw [List.append_assoc, List.append_assoc, List.singleton_append, List.singleton_append, ← List.replicate_succ, ← List.replicate_succ]
    exact h
theorem tell_inner (l : List S74) (j : Nat) (a b : Int) (s : ByteArray) (n : Nat) (hn : n ≤ 1000) (r : List Bool × List ByteArray) : ∀ (m i : Nat) (bs : List Bool) (ps : List ByteArray), i + m = n → bs.length + m ≤ 100000 → ps.length + m ≤ 100000 →
    Ev (fun k => impl_tell.l0 k l (l.length : Int) (wrap64 ((j : Int) + 1)) (bs ++ List.replicate m (decide (a > 0))) (ps ++ List.replicate m (⟨#[]⟩ : ByteArray))) r →
    Ev (fun k => impl_tell.l1 k l (l.length : Int) (j : Int) (n : Int) (i : Int) bs ps a b s) r := by
  intro m
  induction m with
  | zero =>
    intro i bs ps hi h1 h2 h
    refine Ev_succ ?_
    simp only [impl_tell.l1]
    simp only [List.replicate_zero, List.append_nil] at h
    exact Ev_f (by omega) h
  | succ m ih =>
    intro i bs ps hi h1 h2 h
    refine Ev_succ ?_
    simp only [impl_tell.l1, Option.bind_some, List.length_singleton]
    rw [w64_succ (show i < n by omega) (by omega)]
    refine Ev_t (by omega) (Ev_t (by omega) (Ev_t (by omega) (ih (i + 1) _ _ (by omega) (by simp; omega) (by simp; omega) ?_)))
    rw [List.append_assoc, List.append_assoc, List.singleton_append, List.singleton_append, ← List.replicate_succ, ← List.replicate_succ]
    exact h
theorem tell_loop (l : List S74) (hl : l.length ≤ 1048576) : ∀ (suf pre : List S74), l = pre ++ suf → ∀ (q : Int) (bs : List Bool) (F : List ByteArray) (s : ByteArray), okk q suf = true → F.length = bs.length → (bs.length : Int) + src suf ≤ 120 → (szs (F ++ [s]) : Int) + tgt suf ≤ 120 →
    ∃ (bs' : List Bool) (ps' : List ByteArray), ps'.length = bs'.length + 1 ∧ (bs'.length : Int) = bs.length + src suf ∧ szs ps' ≤ 120 ∧ Ev (fun k => spec_l1Open.l0 k l (l.length : Int) (pre.length : Int) bs (F ++ [s])) (bs', ps') ∧ Ev (fun k => impl_tell.l0 k l (l.length : Int) (pre.length : Int) bs (F ++ [s])) (bs', ps') := by
  intro suf
  induction suf with
  | nil =>
    intro pre he q bs F s _ hF h1 h2
    have hlen : l.length = pre.length := by rw [he]; simp
    simp only [src] at h1 ⊢
    simp only [tgt] at h2
    refine ⟨bs, F ++ [s], by simp [hF], by omega, by omega, Ev_succ ?_, Ev_succ ?_⟩
    · simp only [spec_l1Open.l0]; exact Ev_f (by omega) (Ev.now _)
    · simp only [impl_tell.l0]; exact Ev_f (by omega) (Ev.now _)
  | cons p suf ih =>
    intro pre he q bs F s hok hF h1 h2
    obtain ⟨g1, _, g3⟩ := okk_cons hok
    obtain ⟨k0, k1, _⟩ := kd_pos g1
    obtain ⟨n0, n1, _⟩ := okk_nonneg _ _ g3
    simp only [src] at h1 ⊢
    simp only [tgt] at h2
    have hlen : l.length = pre.length + (suf.length + 1) := by rw [he]; simp
    have hrd : rd_T74 l (pre.length : Int) = p := by rw [he]; exact rd_mid pre p suf
    obtain ⟨n, hn⟩ : ∃ n : Nat, p.f0 + p.f1 = (n : Int) := ⟨(p.f0 + p.f1).toNat, by omega⟩
    have hs2 : szs (F ++ [s]) = szs F + s.size := by rw [szs_append]; simp [szs]
    have hss : (s ++ p.f2).size = s.size + p.f2.size := by rw [ByteArray.size_append]
    have e1 : wrap64 (p.f0 + p.f1) = (n : Int) := by rw [w64 (by omega) (by omega)]; exact hn
    obtain ⟨L1, L2, L3⟩ := last_rd F s (s ++ p.f2) (by omega)
    have hl1 := len_one pre p (by omega)
    -- the row behind this part ends in a last string again
    obtain ⟨F', s', hF', hl', hz'⟩ : ∃ (F' : List ByteArray) (s' : ByteArray), (F ++ [s ++ p.f2]) ++ List.replicate n (⟨#[]⟩ : ByteArray) = F' ++ [s'] ∧ F'.length = F.length + n ∧ szs (F' ++ [s']) = szs F + s.size + p.f2.size := by
      have hz : szs ((F ++ [s ++ p.f2]) ++ List.replicate n (⟨#[]⟩ : ByteArray)) = szs F + s.size + p.f2.size := by
        rw [szs_append, szs_append, szs_rep]; simp only [szs, hss]; omega
      rcases Nat.eq_zero_or_pos n with h0 | h0
      · subst h0
        exact ⟨F, s ++ p.f2, by simp, by omega, by simpa using hz⟩
      · obtain ⟨m, rfl⟩ : ∃ m, n = m + 1 := ⟨n - 1, by omega⟩
        refine ⟨(F ++ [s ++ p.f2]) ++ List.replicate m (⟨#[]⟩ : ByteArray), ⟨#[]⟩, ?_, by simp only [List.length_append, List.length_replicate, List.length_singleton]; omega, ?_⟩
        · rw [List.replicate_succ', ← List.append_assoc]
        · rw [List.replicate_succ', ← List.append_assoc] at hz; exact hz
    obtain ⟨bs', ps', w1, w2, w3, u, v⟩ := ih (pre ++ [p]) (by rw [he]; simp) (kd p) (bs ++ List.replicate n (decide (p.f0 > 0))) F' s' g3 (by simp; omega) (by simp; omega) (by rw [hz']; omega)
    rw [← hF'] at u v
    refine ⟨bs', ps', w1, by rw [w2]; simp; omega, w3, Ev_succ ?_, Ev_succ ?_⟩
    · simp only [spec_l1Open.l0, hrd, L1, L2, L3]
      refine Ev_t (by omega) (Ev_t (by omega) (Ev_t (by omega) (Ev_t (by omega) (Ev_t (by simp; try omega) (Ev_t (by omega) ?_)))))
      refine open_inner l pre.length p.f0 p.f1 p.f2 n (by omega) e1 _ n 0 _ _ (by omega) (by omega) (by simp; omega) ?_
      rw [hl1]; exact u
    · simp only [impl_tell.l0, hrd, L1, L2, L3, e1]
      refine Ev_t (by omega) (Ev_t (by omega) (Ev_t (by omega) (Ev_t (by omega) (Ev_t (by simp; try omega) (Ev_t (by omega) ?_)))))
      refine tell_inner l pre.length p.f0 p.f1 p.f2 n (by omega) _ n 0 _ _ (by omega) (by omega) (by simp; omega) ?_
      rw [hl1]; exact v
theorem same_tell (l : List S74) (hl : l.length ≤ 1048576) (hg : goodB l = true) : ∃ (bs : List Bool) (ps : List ByteArray), ps.length = bs.length + 1 ∧ (bs.length : Int) = src l ∧ szs ps ≤ 120 ∧ Ev (fun k => spec_l1Open.f k l) (bs, ps) ∧ Ev (fun k => impl_tell.f k l) (bs, ps) := by
  obtain ⟨g1, g2, g3, g4, g5, g6⟩ := goodB_ok hg
  obtain ⟨bs, ps, w1, w2, w3, u, v⟩ := tell_loop l hl l [] rfl 0 [] [] (⟨#[]⟩ : ByteArray) g1 rfl (by simp; omega) (by simp only [List.nil_append, szs]; show ((0 + 0 : Nat) : Int) + tgt l ≤ 120; omega)
  refine ⟨bs, ps, w1, by simpa using w2, w3, ?_, ?_⟩
  · simp only [spec_l1Open.f]; exact u
  · simp only [impl_tell.f]; exact v

theorem image_loop (a : Nat) (b : Bool) (bs : List Bool) (ps : List ByteArray) (h1 : ps.length = bs.length + 1) (h2 : a ≤ bs.length) (h3 : bs.length ≤ 1000) : ∀ (m i : Nat) (x : Int), i + m = a →
    Same (fun k => spec_l1Image.l0 k (a : Int) b x ps (ps.length : Int) (i : Int) bs ps) (fun k => impl_ImageOf.l0 k (a : Int) b x (a : Int) (i : Int) bs ps) := by
  intro m
  induction m with
  | zero =>
    intro i x hi
    refine Same.succL (Same.succR ?_)
    obtain rfl : i = a := by omega
    simp only [spec_l1Image.l0, impl_ImageOf.l0]
    cases b with
    | true => exact Same.of (Ev_t (by omega) (Ev_t (by omega) (Ev_t (by omega) (Ev_t trivial (Ev_t rfl (Ev.now _)))))) (Ev_f (by omega) (Ev_t rfl (Ev_t (by omega) (Ev_t (by omega) (Ev.now _)))))
    | false => exact Same.of (Ev_t (by omega) (Ev_t (by omega) (Ev_t (by omega) (Ev_t trivial (Ev_f (by decide) (Ev.now _)))))) (Ev_f (by omega) (Ev_f (by decide) (Ev.now _)))
  | succ m ih =>
    intro i x hi
    refine Same.succL (Same.succR ?_)
    simp only [spec_l1Image.l0, impl_ImageOf.l0]
    rw [w64_succ (show i < a by omega) (by omega)]
    cases hb : rdOf false bs (i : Int) with
    | true =>
      obtain ⟨r, u, v⟩ := ih (i + 1) (wrap64 (wrap64 (x + ((rdOf ByteArray.empty ps (i : Int)).size : Int)) + 1)) (by omega)
      exact ⟨r, Ev_t (by omega) (Ev_t (by omega) (Ev_t (by omega) (Ev_f (by omega) (Ev_t (by omega) (Ev_t rfl u))))), Ev_t (by omega) (Ev_t (by omega) (Ev_t (by omega) (Ev_t (by omega) (Ev_t rfl v))))⟩
    | false =>
      obtain ⟨r, u, v⟩ := ih (i + 1) (wrap64 (x + ((rdOf ByteArray.empty ps (i : Int)).size : Int))) (by omega)
      exact ⟨r, Ev_t (by omega) (Ev_t (by omega) (Ev_t (by omega) (Ev_f (by omega) (Ev_t (by omega) (Ev_f (by decide) u))))), Ev_t (by omega) (Ev_t (by omega) (Ev_t (by omega) (Ev_t (by omega) (Ev_f (by decide) v))))⟩
theorem same_ImageOf (l : List S74) (hz : ∀ p ∈ l, p.f2.size ≤ 1048576) (hl : l.length ≤ 1048576) (a : Int) (b : Bool) : Same (fun k => spec_ImageOf.f k l a b) (fun k => impl_ImageOf.f k l a b) := by
  simp only [spec_ImageOf.f, impl_ImageOf.f, l1In_eq, within_eq, Option.bind_some, decide_eq_true_eq]
  have hs := specGood_ev l hz hl
  have hi := implLengths_ev l hz hl
  cases hg : goodB l with
  | false =>
    rw [hg] at hs
    simp only [lensG, hg, Bool.false_eq_true, if_false] at hi
    refine ⟨-1, Ev.bind hs (Ev_f (by decide) (Ev.now _)), Ev.bind hi (Ev_f (by simp) (Ev_succ ?_))⟩
    simp only [impl_ImageOf.j0]; exact Ev_t trivial (Ev.now _)
  | true =>
    rw [hg] at hs
    simp only [lensG, hg, if_true] at hi
    have hsrc := l1Source_ev l hl hg
    obtain ⟨g1, g2, g3, g4, g5, _⟩ := goodB_ok hg
    obtain ⟨bs, ps, w1, w2, _, u, v⟩ := same_tell l hl hg
    by_cases c : 0 ≤ a ∧ a ≤ src l
    · obtain ⟨n, rfl⟩ : ∃ n : Nat, a = (n : Int) := ⟨a.toNat, by omega⟩
      obtain ⟨r, p, q⟩ := image_loop n b bs ps w1 (by omega) (by omega) n 0 0 (by omega)
      refine ⟨r, Ev.bind hs (Ev_t rfl (Ev.bind hsrc (Ev_t c (Ev.bind (a := r) ?_ (Ev.now _))))), Ev.bind hi (Ev_t (by simp) (Ev_succ ?_))⟩
      · simp only [spec_l1Image.f]
        exact Ev.bind u p
      · simp only [impl_ImageOf.j0]
        exact Ev_f (by simp [c]) (Ev.bind v q)
    · refine ⟨-1, Ev.bind hs (Ev_t rfl (Ev.bind hsrc (Ev_f c (Ev.now _)))), Ev.bind hi (Ev_t (by simp) (Ev_succ ?_))⟩
      simp only [impl_ImageOf.j0]
      exact Ev_t (by simp [c]) (Ev.now _)
end OfFnExactImageOf
open OfFnExactImageOf
theorem FnExactImageOf : Stated := by
  intro l a b w0 _ _
  refine Ev.rounds ?_
  simp only [laws_FnExactImageOf.f]
  obtain ⟨r, h1, _, h3⟩ := szPartS_ev l ⟨w0.1, fun p hp => (w0.2 p hp).2.2⟩ 1048576 (by omega) (by omega)
  refine Ev.bind h1 (Ev_ite (fun _ => Ev.now _) (fun c => ?_))
  obtain ⟨hl, hz⟩ := h3 (by omega)
  have hz' := im_wf hz
  have hl' : (l.map im).length ≤ 1048576 := by simpa using hl
  have f1 := toPartS_ev l hl
  obtain ⟨n, p, q⟩ := same_ImageOf (l.map im) hz' hl' a b
  have f2 := eqPartS_ev (l.map im) (by omega)
  exact Ev.bind f1 (Ev.bind p (Ev.bind f1 (Ev.bind q (Ev_t rfl (Ev.bind f1 (Ev.bind f2 (Ev_t rfl (Ev.now _))))))))
end Go.Proofs.Ytebmncdjlmnbnaa.Pure
