/-
The pure statement of FnExactNormalOf: the printed functions of the program and of the reference answer alike for every argument within the bounds that the statement tells.
-/
import Derived.Test.YtebmncdjlmnbnaaWfFnExactNormalOf
namespace Go.Proofs.Ytebmncdjlmnbnaa.Pure
open Go Go.RowKit Go.Proofs.Ytebmncdjlmnbnaa.PFnExactNormalOf Go.Proofs.YtebmncdjlmnbnaaW.PrintWords Go.Proofs.YtebmncdjlmnbnaaW.PrintLast Go.Proofs.YtebmncdjlmnbnaaW.PrintMore Go.Proofs.Ytebmncdjlmnbnaa.Lib
set_option linter.unusedVariables false
set_option linter.unusedSimpArgs false
namespace OfFnExactNormalOf
theorem list_size0 {s : ByteArray} : s.toList = [] ↔ s.size = 0 := by
  rw [ByteArray.toList_eq]
  constructor
  · intro h
    have : s.data.toList.length = 0 := by rw [h]; rfl
    simpa using this
  · intro h
    exact List.eq_nil_of_length_eq_zero (by simpa using h)
def kd3 (a b : Int) (s : ByteArray) : Int := if a > 0 ∧ b = 0 ∧ s.toList = [] then 1 else if b > 0 ∧ a = 0 ∧ s.toList = [] then 2 else if ¬ s.toList = [] ∧ a = 0 ∧ b = 0 then 3 else 0
def kd (p : S74) : Int := kd3 p.f0 p.f1 p.f2
def okk : Int → List S74 → Bool
  | _, [] => true
  | q, p :: c => (decide (kd p ≠ 0) && decide (kd p ≠ q)) && okk (kd p) c
def src : List S74 → Int
  | [] => 0
  | p :: c => p.f0 + p.f1 + src c
def tgt : List S74 → Int
  | [] => 0
  | p :: c => p.f0 + (p.f2.size : Int) + tgt c
def goodB (c : List S74) : Bool := okk 0 c && (decide (src c ≤ 120) && decide (tgt c ≤ 120))
theorem kd_pos {p : S74} (h : kd p ≠ 0) : 0 ≤ p.f0 ∧ 0 ≤ p.f1 ∧ ((kd p = 1 ∧ 0 < p.f0 ∧ p.f1 = 0 ∧ p.f2.size = 0) ∨ (kd p = 2 ∧ 0 < p.f1 ∧ p.f0 = 0 ∧ p.f2.size = 0) ∨ (kd p = 3 ∧ p.f0 = 0 ∧ p.f1 = 0 ∧ 0 < p.f2.size)) := by
  unfold kd kd3 at *
  simp only [list_size0] at *
  split at h
  · rename_i h1
    rw [if_pos h1]
    exact ⟨by omega, by omega, Or.inl ⟨rfl, h1.1, h1.2.1, h1.2.2⟩⟩
  · rename_i h1
    rw [if_neg h1]
    split at h
    · rename_i h2
      rw [if_pos h2]
      exact ⟨by omega, by omega, Or.inr (Or.inl ⟨rfl, h2.1, h2.2.1, h2.2.2⟩)⟩
    · rename_i h2
      rw [if_neg h2]
      split at h
      · rename_i h3
        rw [if_pos h3]
        exact ⟨by omega, by omega, Or.inr (Or.inr ⟨rfl, h3.2.1, h3.2.2, by omega⟩)⟩
      · exact absurd rfl h
theorem okk_cons {q : Int} {p : S74} {c : List S74} (h : okk q (p :: c) = true) : kd p ≠ 0 ∧ kd p ≠ q ∧ okk (kd p) c = true := by
  simp only [okk, Bool.and_eq_true, decide_eq_true_eq] at h
  exact ⟨h.1.1, h.1.2, h.2⟩
theorem okk_any {q : Int} {c : List S74} (h : okk q c = true) : okk 0 c = true := by
  cases c with
  | nil => rfl
  | cons p c => obtain ⟨h1, h2, h3⟩ := okk_cons h; simp only [okk, Bool.and_eq_true, decide_eq_true_eq]; exact ⟨⟨h1, h1⟩, h3⟩
theorem okk_nonneg : ∀ (c : List S74) (q : Int), okk q c = true → 0 ≤ src c ∧ 0 ≤ tgt c ∧ (c.length : Int) ≤ src c + tgt c := by
  intro c
  induction c with
  | nil => intro q _; simp [src, tgt]
  | cons p c ih =>
    intro q h
    obtain ⟨h1, _, h3⟩ := okk_cons h
    obtain ⟨g0, g1, g2⟩ := ih _ h3
    obtain ⟨k0, k1, k2⟩ := kd_pos h1
    simp only [src, tgt, List.length_cons]
    omega
theorem rd_mid (pre : List S74) (p : S74) (suf : List S74) : rd_T74 (pre ++ p :: suf) (pre.length : Int) = p := by simp [rd_T74]
theorem rd_prev (pre : List S74) (p : S74) (suf : List S74) (h : pre.length < 9000000000000000000) : rd_T74 (pre ++ p :: suf) (wrap64 (((pre ++ [p]).length : Int) - 1)) = p := by
  rw [w64 (by simp only [List.length_append, List.length_cons, List.length_nil]; omega) (by simp only [List.length_append, List.length_cons, List.length_nil]; omega)]
  simp [rd_T74]
theorem append_one (pre : List S74) (p : S74) (suf : List S74) : pre ++ p :: suf = (pre ++ [p]) ++ suf := by simp
theorem len_one (pre : List S74) (p : S74) (h : pre.length < 9000000000000000000) : wrap64 ((pre.length : Int) + 1) = ((pre ++ [p]).length : Int) := by
  rw [w64 (by omega) (by omega)]; simp

theorem l1In_eq (a b c : Int) : spec_l1In.f a b c = some (decide (b ≤ a ∧ a ≤ c)) := by
  simp only [spec_l1In.f]
  by_cases h : b ≤ a <;> simp [h]

theorem l1Kind_j1 (x : Bool) (a b : Int) (s : ByteArray) : Ev (fun k => spec_l1Kind.j1 k x a b s) (if x = true then 2 else if ¬ s.toList = [] ∧ a = 0 ∧ b = 0 then 3 else 0) := by
  refine Ev_succ ?_
  simp only [spec_l1Kind.j1]
  refine ⟨0, fun k _ => ?_⟩
  by_cases h1 : x = true <;> by_cases h2 : a = 0 <;> by_cases h3 : b = 0 <;> by_cases h4 : s.toList = [] <;> simp [h1, h2, h3, h4]
theorem l1Kind_j0 (x : Bool) (a b : Int) (s : ByteArray) : Ev (fun k => spec_l1Kind.j0 k x a b s) (if x = true then 1 else if b > 0 ∧ a = 0 ∧ s.toList = [] then 2 else if ¬ s.toList = [] ∧ a = 0 ∧ b = 0 then 3 else 0) := by
  refine Ev_succ ?_
  simp only [spec_l1Kind.j0]
  refine Ev_ite (fun h1 => by rw [if_pos h1]; exact Ev.now _) (fun h1 => ?_)
  rw [if_neg h1]
  refine Ev_ite (fun h2 => Ev_ite (fun h3 => Ev_eq (l1Kind_j1 _ _ _ _) ?_) (fun h3 => Ev_eq (l1Kind_j1 _ _ _ _) ?_)) (fun h2 => Ev_eq (l1Kind_j1 _ _ _ _) ?_)
  · by_cases h4 : s.toList = [] <;> simp [h2, h3, h4]
  · simp [h3]
  · simp [h2]
theorem l1Kind_ev (a b : Int) (s : ByteArray) : Ev (fun k => spec_l1Kind.f k a b s) (kd3 a b s) := by
  simp only [spec_l1Kind.f, kd3]
  refine Ev_ite (fun h1 => Ev_ite (fun h2 => Ev_eq (l1Kind_j0 _ _ _ _) ?_) (fun h2 => Ev_eq (l1Kind_j0 _ _ _ _) ?_)) (fun h1 => Ev_eq (l1Kind_j0 _ _ _ _) ?_)
  · by_cases h4 : s.toList = [] <;> simp [h1, h2, h4]
  · simp [h2]
  · simp [h1]

theorem kind_j1 (x : Bool) (a b : Int) (s : ByteArray) : Ev (fun k => impl_Part_kind.j1 k x a b s) (if x = true then 2 else if ¬ s.toList = [] ∧ a = 0 ∧ b = 0 then 3 else 0) := by
  refine Ev_succ ?_
  simp only [impl_Part_kind.j1]
  refine ⟨0, fun k _ => ?_⟩
  by_cases h1 : x = true <;> by_cases h2 : a = 0 <;> by_cases h3 : b = 0 <;> by_cases h4 : s.toList = [] <;> simp [h1, h2, h3, h4]
theorem kind_j0 (x : Bool) (a b : Int) (s : ByteArray) : Ev (fun k => impl_Part_kind.j0 k x a b s) (if x = true then 1 else if b > 0 ∧ a = 0 ∧ s.toList = [] then 2 else if ¬ s.toList = [] ∧ a = 0 ∧ b = 0 then 3 else 0) := by
  refine Ev_succ ?_
  simp only [impl_Part_kind.j0]
  refine Ev_ite (fun h1 => by rw [if_pos h1]; exact Ev.now _) (fun h1 => ?_)
  rw [if_neg h1]
  refine Ev_ite (fun h3 => Ev_ite (fun h2 => Ev_eq (kind_j1 _ _ _ _) ?_) (fun h2 => Ev_eq (kind_j1 _ _ _ _) ?_)) (fun h3 => Ev_eq (kind_j1 _ _ _ _) ?_)
  · by_cases h4 : s.toList = [] <;> simp [h2, h3, h4]
  · simp [h2]
  · simp [h3]
theorem kind_ev (a b : Int) (s : ByteArray) : Ev (fun k => impl_Part_kind.f k a b s) (kd3 a b s) := by
  simp only [impl_Part_kind.f, kd3]
  refine Ev_ite (fun h1 => Ev_ite (fun h2 => Ev_eq (kind_j0 _ _ _ _) ?_) (fun h2 => Ev_eq (kind_j0 _ _ _ _) ?_)) (fun h1 => Ev_eq (kind_j0 _ _ _ _) ?_)
  · by_cases h4 : s.toList = [] <;> simp [h1, h2, h4]
  · simp [h2]
  · simp [h1]

theorem specGood_j (l : List S74) (i s t : Int) (b : Bool) (x y : Int) (z : ByteArray) (r : Bool) (hb : b = true → r = false)
    (h1 : b = false → wrap64 (s + wrap64 (x + y)) > 120 → r = false) (h2 : b = false → wrap64 (t + wrap64 (x + (z.size : Int))) > 120 → r = false)
    (h3 : b = false → ¬ wrap64 (s + wrap64 (x + y)) > 120 → ¬ wrap64 (t + wrap64 (x + (z.size : Int))) > 120 → Ev (fun k => spec_GoodChange.l0 k l (wrap64 (s + wrap64 (x + y))) (wrap64 (t + wrap64 (x + (z.size : Int)))) l (l.length : Int) (wrap64 (i + 1))) r) :
    Ev (fun k => spec_GoodChange.j1 k l s t l (l.length : Int) i b x y z) r := by
  refine Ev_succ ?_
  simp only [spec_GoodChange.j1]
  refine Ev_ite (fun h => Ev_eq (Ev.now _) (hb h).symm) (fun h => ?_)
  have hf : b = false := by simpa using h
  exact Ev_ite (fun h4 => Ev_eq (Ev.now _) (h1 hf h4).symm) (fun h4 => Ev_ite (fun h5 => Ev_eq (Ev.now _) (h2 hf h5).symm) (fun h5 => h3 hf h4 h5))
def goodFrom (q s t : Int) (c : List S74) : Bool := okk q c && (decide (s + src c ≤ 120) && decide (t + tgt c ≤ 120))
theorem goodFrom_false {q s t : Int} {p : S74} {c : List S74} (h : okk (kd p) c = true → ¬ (s + (p.f0 + p.f1 + src c) ≤ 120 ∧ t + (p.f0 + (p.f2.size : Int) + tgt c) ≤ 120)) : goodFrom q s t (p :: c) = false := by
  unfold goodFrom
  cases ho : okk q (p :: c) with
  | false => rfl
  | true =>
    obtain ⟨_, _, h3⟩ := okk_cons ho
    have := h h3
    simp only [src, tgt, Bool.true_and]
    by_cases h4 : s + (p.f0 + p.f1 + src c) ≤ 120 <;> by_cases h5 : t + (p.f0 + (p.f2.size : Int) + tgt c) ≤ 120 <;> simp [h4, h5]
    exact this ⟨h4, h5⟩
theorem specGood_loop (l : List S74) (hz : ∀ p ∈ l, p.f2.size ≤ 1048576) (hl : l.length ≤ 1048576) : ∀ (suf pre : List S74), l = pre ++ suf → ∀ q s t : Int, 0 ≤ s → s ≤ 120 → 0 ≤ t → t ≤ 120 → (pre = [] → q = 0) →
    (pre ≠ [] → kd (rd_T74 l (wrap64 ((pre.length : Int) - 1))) = q) → Ev (fun k => spec_GoodChange.l0 k l s t l (l.length : Int) (pre.length : Int)) (goodFrom q s t suf) := by
  intro suf
  induction suf with
  | nil =>
    intro pre he q s t s0 s1 t0 t1 hq hp
    refine Ev_succ ?_
    have hlen : l.length = pre.length := by rw [he]; simp
    simp only [spec_GoodChange.l0]
    refine Ev_f (by omega) (Ev_eq (Ev.now _) ?_)
    simp [goodFrom, okk, src, tgt, s1, t1]
  | cons p suf ih =>
    intro pre he q s t s0 s1 t0 t1 hq hp
    have hlen : l.length = pre.length + (suf.length + 1) := by rw [he]; simp
    have hmem : p ∈ l := by rw [he]; simp
    have hzp := hz p hmem
    have hrd : rd_T74 l (pre.length : Int) = p := by rw [he]; exact rd_mid pre p suf
    have hnext := ih (pre ++ [p]) (by rw [he]; simp) (kd p)
    have hj : ∀ b : Bool, (b = true → goodFrom q s t (p :: suf) = false) → (b = false → kd p ≠ 0 ∧ kd p ≠ q ∧ p.f0 ≤ 120 ∧ p.f1 ≤ 120 ∧ (p.f2.size : Int) ≤ 120) →
        Ev (fun k => spec_GoodChange.j1 k l s t l (l.length : Int) (pre.length : Int) b p.f0 p.f1 p.f2) (goodFrom q s t (p :: suf)) := by
      intro b hb1 hb2
      refine specGood_j l _ s t b _ _ _ _ hb1 ?_ ?_ ?_
      · intro hb h
        obtain ⟨h1, h2, h3, h4, h5⟩ := hb2 hb
        obtain ⟨k0, k1, _⟩ := kd_pos h1
        rw [w64 (n := p.f0 + p.f1) (by omega) (by omega), w64 (n := s + (p.f0 + p.f1)) (by omega) (by omega)] at h
        refine goodFrom_false (fun ho => ?_)
        have := okk_nonneg _ _ ho
        omega
      · intro hb h
        obtain ⟨h1, h2, h3, h4, h5⟩ := hb2 hb
        obtain ⟨k0, k1, _⟩ := kd_pos h1
        rw [w64 (n := p.f0 + (p.f2.size : Int)) (by omega) (by omega), w64 (n := t + (p.f0 + (p.f2.size : Int))) (by omega) (by omega)] at h
        refine goodFrom_false (fun ho => ?_)
        have := okk_nonneg _ _ ho
        omega
      · intro hb ha hc
        obtain ⟨h1, h2, h3, h4, h5⟩ := hb2 hb
        obtain ⟨k0, k1, _⟩ := kd_pos h1
        rw [w64 (n := p.f0 + p.f1) (by omega) (by omega), w64 (n := s + (p.f0 + p.f1)) (by omega) (by omega)] at ha ⊢
        rw [w64 (n := p.f0 + (p.f2.size : Int)) (by omega) (by omega), w64 (n := t + (p.f0 + (p.f2.size : Int))) (by omega) (by omega)] at hc ⊢
        rw [len_one pre p (by omega)]
        have := hnext (s + (p.f0 + p.f1)) (t + (p.f0 + (p.f2.size : Int))) (by omega) (by omega) (by omega) (by omega) (fun h => by simp at h) (fun _ => by rw [he, rd_prev pre p suf (by omega)])
        refine Ev_eq this ?_
        simp [goodFrom, okk, src, tgt, h1, h2, Int.add_assoc]
    have hfin : kd p ≠ 0 → kd p ≠ q → Ev (fun k => if p.f0 > 120 then spec_GoodChange.j1 k l s t l (l.length : Int) (pre.length : Int) true p.f0 p.f1 p.f2 else if p.f1 > 120 then spec_GoodChange.j1 k l s t l (l.length : Int) (pre.length : Int) true p.f0 p.f1 p.f2 else spec_GoodChange.j1 k l s t l (l.length : Int) (pre.length : Int) (decide ((p.f2.size : Int) > 120)) p.f0 p.f1 p.f2) (goodFrom q s t (p :: suf)) := by
      intro h1 h2
      obtain ⟨k0, k1, _⟩ := kd_pos h1
      have big : (p.f0 > 120 ∨ p.f1 > 120 ∨ (p.f2.size : Int) > 120) → goodFrom q s t (p :: suf) = false := by
        intro hbig
        refine goodFrom_false (fun ho => ?_)
        have := okk_nonneg _ _ ho
        omega
      refine Ev_ite (fun h => hj _ (fun _ => big (Or.inl h)) (fun h => by cases h)) (fun h3 => Ev_ite (fun h => hj _ (fun _ => big (Or.inr (Or.inl h))) (fun h => by cases h)) (fun h4 => hj _ (fun h => big (Or.inr (Or.inr (by simpa using h)))) (fun h => ⟨h1, h2, by omega, by omega, by simpa using h⟩)))
    refine Ev_succ ?_
    simp only [spec_GoodChange.l0, hrd]
    refine Ev_t (by omega) (Ev_t (by omega) (Ev_t (by omega) (Ev.bind (l1Kind_ev _ _ _) ?_)))
    refine Ev_ite (fun h => hj _ (fun _ => ?_) (fun h => by cases h)) (fun h1 => Ev_ite (fun h2 => Ev_t ?_ (Ev_t ?_ (Ev.bind (l1Kind_ev _ _ _) (Ev_ite (fun h3 => hj _ (fun _ => ?_) (fun h => by cases h)) (fun h3 => hfin h1 (fun h4 => h3 ?_)))))) (fun h2 => hfin h1 (fun h4 => ?_)))
    · have : kd p = 0 := h
      simp [goodFrom, okk, this]
    · rw [w64 (by omega) (by omega)]; omega
    · rw [w64 (by omega) (by omega)]; omega
    · have h5 : kd (rd_T74 l (wrap64 ((pre.length : Int) - 1))) = kd p := h3
      rw [hp (fun h => by rw [h] at h2; simp at h2)] at h5
      simp [goodFrom, okk, h5]
    · have h5 := hp (fun h => by rw [h] at h2; simp at h2)
      exact h5.trans h4.symm
    · have h5 : pre = [] := List.eq_nil_of_length_eq_zero (by omega)
      rw [hq h5] at h4
      exact h1 h4
theorem specGood_ev (l : List S74) (hz : ∀ p ∈ l, p.f2.size ≤ 1048576) (hl : l.length ≤ 1048576) : Ev (fun k => spec_GoodChange.f k l) (goodB l) := by
  have h := specGood_loop l hz hl l [] rfl 0 0 0 (by omega) (by omega) (by omega) (by omega) (fun _ => rfl) (fun h => absurd rfl h)
  simp only [spec_GoodChange.f]
  refine Ev_eq h ?_
  simp [goodFrom, goodB]

def lensOf (l : List S74) : Int × Int × Bool := if src l ≤ 120 ∧ tgt l ≤ 120 then (src l, tgt l, true) else (0, 0, false)
theorem lengths_loop (l : List S74) (hz : ∀ p ∈ l, p.f2.size ≤ 1048576) (hl : l.length ≤ 1048576) : ∀ (suf pre : List S74), l = pre ++ suf → ∀ q s t : Int, 0 ≤ s → s ≤ 120 → 0 ≤ t → t ≤ 120 → okk q suf = true →
    Ev (fun k => impl_lengths.l0 k s t l (l.length : Int) (pre.length : Int)) (if s + src suf ≤ 120 ∧ t + tgt suf ≤ 120 then (s + src suf, t + tgt suf, true) else (0, 0, false)) := by
  intro suf
  induction suf with
  | nil =>
    intro pre he q s t s0 s1 t0 t1 _
    refine Ev_succ ?_
    have hlen : l.length = pre.length := by rw [he]; simp
    simp only [impl_lengths.l0]
    refine Ev_f (by omega) (Ev_eq (Ev.now _) ?_)
    simp [src, tgt, s1, t1]
  | cons p suf ih =>
    intro pre he q s t s0 s1 t0 t1 hok
    obtain ⟨h1, _, h3⟩ := okk_cons hok
    obtain ⟨k0, k1, _⟩ := kd_pos h1
    obtain ⟨n0, n1, _⟩ := okk_nonneg _ _ h3
    have hlen : l.length = pre.length + (suf.length + 1) := by rw [he]; simp
    have hmem : p ∈ l := by rw [he]; simp
    have hzp := hz p hmem
    have hrd : rd_T74 l (pre.length : Int) = p := by rw [he]; exact rd_mid pre p suf
    have hnext := ih (pre ++ [p]) (by rw [he]; simp) (kd p)
    have hj : ∀ b : Bool, (b = true → p.f0 > 120 ∨ p.f1 > 120) → (b = false → p.f0 ≤ 120 ∧ p.f1 ≤ 120) →
        Ev (fun k => impl_lengths.j1 k s t l (l.length : Int) (pre.length : Int) b p.f0 p.f1 p.f2) (if s + src (p :: suf) ≤ 120 ∧ t + tgt (p :: suf) ≤ 120 then (s + src (p :: suf), t + tgt (p :: suf), true) else (0, 0, false)) := by
      intro b hb1 hb2
      refine Ev_succ ?_
      simp only [impl_lengths.j1]
      simp only [src, tgt]
      refine Ev_ite (fun h => Ev_eq (Ev.now _) ?_) (fun h => ?_)
      · have := hb1 h
        exact (if_neg (by omega)).symm
      · have hb : b = false := by simpa using h
        have := hb2 hb
        rw [w64 (n := p.f0 + p.f1) (by omega) (by omega), w64 (n := s + (p.f0 + p.f1)) (by omega) (by omega), w64 (n := p.f0 + (p.f2.size : Int)) (by omega) (by omega), w64 (n := t + (p.f0 + (p.f2.size : Int))) (by omega) (by omega)]
        refine Ev_ite (fun h => Ev_eq (Ev.now _) (if_neg (by omega)).symm) (fun h4 => Ev_ite (fun h => Ev_eq (Ev.now _) (if_neg (by omega)).symm) (fun h5 => ?_))
        rw [len_one pre p (by omega)]
        refine Ev_eq (hnext (s + (p.f0 + p.f1)) (t + (p.f0 + (p.f2.size : Int))) (by omega) (by omega) (by omega) (by omega) h3) ?_
        simp [Int.add_assoc]
    refine Ev_succ ?_
    simp only [impl_lengths.l0, hrd]
    exact Ev_t (by omega) (Ev_t (by omega) (Ev_t (by omega) (Ev_ite (fun h => hj _ (fun _ => Or.inl h) (fun h => by cases h)) (fun h => hj _ (fun h => Or.inr (by simpa using h)) (fun h6 => ⟨by omega, by simpa using h6⟩)))))
theorem lengths_ev (l : List S74) (hz : ∀ p ∈ l, p.f2.size ≤ 1048576) (hl : l.length ≤ 1048576) (ho : okk 0 l = true) : Ev (fun k => impl_lengths.f k l) (lensOf l) := by
  have h := lengths_loop l hz hl l [] rfl 0 0 0 (by omega) (by omega) (by omega) (by omega) ho
  simp only [impl_lengths.f]
  refine Ev_eq h ?_
  simp [lensOf]

theorem implGood_loop (l : List S74) (hz : ∀ p ∈ l, p.f2.size ≤ 1048576) (hl : l.length ≤ 1048576) : ∀ (suf pre : List S74), l = pre ++ suf → ∀ q : Int, (pre = [] → q = 0) →
    (pre ≠ [] → kd (rd_T74 l (wrap64 ((pre.length : Int) - 1))) = q) → (okk q suf = true → okk 0 l = true) → Ev (fun k => impl_GoodChange.l0 k l l (l.length : Int) (pre.length : Int)) (okk q suf && (decide (src l ≤ 120) && decide (tgt l ≤ 120))) := by
  intro suf
  induction suf with
  | nil =>
    intro pre he q hq hp hok
    refine Ev_succ ?_
    have hlen : l.length = pre.length := by rw [he]; simp
    simp only [impl_GoodChange.l0]
    refine Ev_f (by omega) (Ev.bind (lengths_ev l hz hl (hok rfl)) (Ev_eq (Ev.now _) ?_))
    unfold lensOf
    by_cases h1 : src l ≤ 120 <;> by_cases h2 : tgt l ≤ 120 <;> simp [h1, h2, okk]
  | cons p suf ih =>
    intro pre he q hq hp hok
    have hlen : l.length = pre.length + (suf.length + 1) := by rw [he]; simp
    have hrd : rd_T74 l (pre.length : Int) = p := by rw [he]; exact rd_mid pre p suf
    have hnext := ih (pre ++ [p]) (by rw [he]; simp) (kd p) (fun h => by simp at h) (fun _ => by rw [he, rd_prev pre p suf (by omega)])
    have hgo : kd p ≠ 0 → kd p ≠ q → Ev (fun k => impl_GoodChange.l0 k l l (l.length : Int) (wrap64 ((pre.length : Int) + 1))) (okk q (p :: suf) && (decide (src l ≤ 120) && decide (tgt l ≤ 120))) := by
      intro h1 h2
      rw [len_one pre p (by omega)]
      have e : okk q (p :: suf) = okk (kd p) suf := by simp [okk, h1, h2]
      rw [e]
      exact hnext (fun h => hok (e.trans h))
    refine Ev_succ ?_
    simp only [impl_GoodChange.l0, hrd]
    refine Ev_t (by omega) (Ev_t (by omega) (Ev_t (by omega) (Ev.bind (kind_ev _ _ _) ?_)))
    refine Ev_ite (fun h => Ev_eq (Ev.now _) ?_) (fun h1 => Ev_ite (fun h2 => Ev_t ?_ (Ev_t ?_ (Ev.bind (kind_ev _ _ _) (Ev_ite (fun h3 => Ev_eq (Ev.now _) ?_) (fun h3 => hgo h1 (fun h4 => h3 ?_)))))) (fun h2 => hgo h1 (fun h4 => ?_)))
    · have : kd p = 0 := h
      simp [okk, this]
    · rw [w64 (by omega) (by omega)]; omega
    · rw [w64 (by omega) (by omega)]; omega
    · have h5 : kd (rd_T74 l (wrap64 ((pre.length : Int) - 1))) = kd p := h3
      rw [hp (fun h => by rw [h] at h2; simp at h2)] at h5
      simp [okk, h5]
    · have h5 := hp (fun h => by rw [h] at h2; simp at h2)
      exact h5.trans h4.symm
    · have h5 : pre = [] := List.eq_nil_of_length_eq_zero (by omega)
      rw [hq h5] at h4
      exact h1 h4
theorem implGood_ev (l : List S74) (hz : ∀ p ∈ l, p.f2.size ≤ 1048576) (hl : l.length ≤ 1048576) : Ev (fun k => impl_GoodChange.f k l) (goodB l) := by
  have h := implGood_loop l hz hl l [] rfl 0 (fun _ => rfl) (fun h => absurd rfl h) (fun h => h)
  simp only [impl_GoodChange.f]
  exact Ev_eq h rfl

theorem rd_T73_nat (xs : List S73) (i : Nat) : rd_T73 xs (i : Int) = xs.getD i z73 := by simp [rd_T73]
theorem rd_T74_nat (xs : List S74) (i : Nat) : rd_T74 xs (i : Int) = xs.getD i z74 := by simp [rd_T74]
def im (p : S73) : S74 := ⟨p.f0, p.f1, p.f2⟩
theorem toPartS_ev (l : List S73) (hl : l.length ≤ 1048576) : Ev (fun k => laws_toPartS.f k l) (l.map im) := by
  have h := fill_ev (g := fun k x i => laws_toPartS.l0 k l x i) l z73 im
    (fun x i hx hi hr => Ev_succ (by
      simp only [laws_toPartS.l0, laws_toPart.f, Option.bind_some]
      refine Ev_t (by omega) (Ev_t (by omega) (Ev_t (by omega) ?_))
      rw [w64_succ hi (by omega)]
      simpa [rd_T73_nat, im] using hr))
    (fun x hx => Ev_succ (by simp only [laws_toPartS.l0]; exact Ev_f (by omega) (Ev.now _)))
    (List.replicate l.length z74) (by simp)
  refine Ev.congr (fun k => ?_) h
  simp only [laws_toPartS.f]
  rw [if_pos (by omega), if_pos (by simp; omega)]
  simp
theorem eqPartS_ev (l : List S74) (hl : l.length ≤ 4611686018427387904) : Ev (fun k => laws_eqPartS.f k l l) true := by
  have h := all_ev (g := fun k i => laws_eqPartS.l0 k l l i) (r := true) l.length
    (fun i hi hr => Ev_succ (by
      simp only [laws_eqPartS.l0, laws_eqPart.f, if_true, Option.bind_some]
      refine Ev_t (by omega) (Ev_t (by omega) (Ev_t (by omega) ?_))
      rw [w64_succ hi (by omega)]; exact hr))
    (Ev_succ (by simp only [laws_eqPartS.l0]; exact Ev_f (by omega) (Ev.now _)))
  refine Ev.congr (fun k => ?_) h
  simp only [laws_eqPartS.f]; rw [if_pos trivial]
theorem szPartS_loop (l : List S73) (hw : ∀ p ∈ l, p.f2.size ≤ 9223372036854775807) (hl : l.length ≤ 1048576) : ∀ (m i : Nat) (x : Int), i + m = l.length → 0 ≤ x → x ≤ 1048576 →
    ∃ r, Ev (fun k => laws_szPartS.l0 k l x (i : Int)) r ∧ r ≤ x ∧ (0 ≤ r → ∀ j, i ≤ j → j < l.length → (l.getD j z73).f2.size ≤ 1048576) := by
  intro m
  induction m with
  | zero =>
    intro i x hi h0 h1
    refine ⟨x, Ev_succ ?_, by omega, fun _ j h2 h3 => by omega⟩
    simp only [laws_szPartS.l0]; exact Ev_f (by omega) (Ev.now _)
  | succ m ih =>
    intro i x hi h0 h1
    have hp := hw _ (getD_mem (xs := l) (i := i) z73 (by omega))
    generalize hq : l.getD i z73 = p at hp
    have e : wrap64 (x - (p.f2.size : Int)) = x - (p.f2.size : Int) := w64 (by omega) (by omega)
    by_cases c : x - (p.f2.size : Int) < 0
    · refine ⟨-1, Ev_succ ?_, by omega, fun h => by omega⟩
      simp only [laws_szPartS.l0, laws_szPart.f, rd_T73_nat, hq, e, if_pos c]
      exact Ev_t (by omega) (Ev_t (by omega) (Ev_bind0 rfl (Ev_t (by decide) (Ev.now _))))
    · obtain ⟨r, h2, h3, h4⟩ := ih (i + 1) (x - (p.f2.size : Int)) (by omega) (by omega) (by omega)
      refine ⟨r, Ev_succ ?_, by omega, fun h j h5 h6 => ?_⟩
      · simp only [laws_szPartS.l0, laws_szPart.f, rd_T73_nat, hq, e, if_neg c]
        rw [w64_succ (show i < l.length by omega) (by omega)]
        exact Ev_t (by omega) (Ev_t (by omega) (Ev_bind0 rfl (Ev_f c h2)))
      · by_cases h7 : j = i
        · subst h7; rw [hq]; omega
        · exact h4 h j (by omega) h6
theorem szPartS_ev (l : List S73) (hw : l.length ≤ maxLen ∧ ∀ p ∈ l, p.f2.size ≤ maxLen) (n : Int) (hn : 0 ≤ n) (hn' : n ≤ 1048576) : ∃ r, Ev (fun k => laws_szPartS.f k l n) r ∧ r ≤ n ∧ (0 ≤ r → l.length ≤ 1048576 ∧ ∀ p ∈ l, p.f2.size ≤ 1048576) := by
  have hl0 : (l.length : Int) ≤ 9223372036854775807 := by have := hw.1; simp only [maxLen] at this; omega
  have e : wrap64 (n - (l.length : Int)) = n - (l.length : Int) := w64 (by omega) (by omega)
  simp only [laws_szPartS.f, e]
  by_cases c : n - (l.length : Int) < 0
  · exact ⟨-1, Ev_t c (Ev.now _), by omega, fun h => by omega⟩
  · obtain ⟨r, h1, h2, h3⟩ := szPartS_loop l (fun p hp => by have := hw.2 p hp; simp only [maxLen] at this; exact this) (by omega) l.length 0 (n - (l.length : Int)) (by omega) (by omega) (by omega)
    refine ⟨r, Ev_f c h1, by omega, fun h => ⟨by omega, fun p hp => ?_⟩⟩
    obtain ⟨j, hj, rfl⟩ := List.mem_iff_getElem.1 hp
    have := h3 h j (by omega) hj
    simpa [List.getD, hj] using this
theorem im_wf {l : List S73} (h : ∀ p ∈ l, p.f2.size ≤ 1048576) : ∀ p ∈ l.map im, p.f2.size ≤ 1048576 := by
  intro p hp
  obtain ⟨q, hq, rfl⟩ := List.mem_map.1 hp
  exact h q hq

theorem nums1_size (c : Int) : (strOfNums [c]).size = 1 := rfl
theorem markText_loop : ∀ (d : Nat) (n : Int) (x : ByteArray), 0 ≤ n → n ≤ 9000000000000000000 → n < 10 ^ d → x.size + d ≤ 1000 → ∃ s, Ev (fun k => laws_markText.l0 k n x) s := by
  intro d
  induction d with
  | zero =>
    intro n x h0 h9 h1 h2
    have : n = 0 := by have : (10 : Int) ^ 0 = 1 := rfl; omega
    subst this
    refine ⟨(⟨#[109]⟩ : ByteArray) ++ x, Ev_succ ?_⟩
    simp only [laws_markText.l0]
    exact Ev_f (by omega) (Ev_t (by omega) (Ev.now _))
  | succ d ih =>
    intro n x h0 h9 h1 h2
    by_cases c : n > 0
    · have e1 : Int.tdiv n 10 = n / 10 := Int.tdiv_eq_ediv_of_nonneg h0
      have e2 : wrap64 (Int.tdiv n 10) = n / 10 := by rw [e1, w64 (by omega) (by omega)]
      have h3 : n / 10 < 10 ^ d := by
        rw [Int.pow_succ] at h1
        generalize (10 : Int) ^ d = g at h1 ⊢
        omega
      obtain ⟨s, hs⟩ := ih (n / 10) (strOfNums [wrap64 (48 + Int.tmod n 10) % 256] ++ x) (by omega) (by omega) h3 (by rw [ByteArray.size_append, nums1_size]; omega)
      refine ⟨s, Ev_succ ?_⟩
      simp only [laws_markText.l0, Option.bind_some, e2]
      exact Ev_t c (Ev_t (by rw [nums1_size]; omega) hs)
    · refine ⟨(⟨#[109]⟩ : ByteArray) ++ x, Ev_succ ?_⟩
      simp only [laws_markText.l0]
      exact Ev_f c (Ev_t (by omega) (Ev.now _))
theorem markText_some (n : Int) (h : n ≤ 9000000000000000000) : ∃ s, Ev (fun k => laws_markText.f k n) s := by
  simp only [laws_markText.f]
  by_cases c : n ≤ 0
  · exact ⟨_, Ev_t c (Ev.now _)⟩
  · obtain ⟨s, hs⟩ := markText_loop 19 n (⟨#[]⟩ : ByteArray) (by omega) h (by omega) (by show 0 + 19 ≤ 1000; omega)
    exact ⟨s, Ev_f c hs⟩
open Classical in
noncomputable def mt (n : Int) : ByteArray := if h : n ≤ 9000000000000000000 then (markText_some n h).choose else ⟨#[]⟩
theorem mt_ev (n : Int) (h : n ≤ 9000000000000000000) : Ev (fun k => laws_markText.f k n) (mt n) := by
  unfold mt
  rw [dif_pos h]
  exact (markText_some n h).choose_spec
theorem rd_T74_set (x : List S74) (i : Nat) (v : S74) (h : i < x.length) : rd_T74 (x.set i v) (i : Int) = v := by
  rw [rd_T74_nat]; simp [List.getD, h]
theorem marks_Part (l : List S74) (hl : l.length ≤ 1048576) (n0 : Int) (h0 : 0 ≤ n0) (h1 : n0 ≤ 1000000000000) : ∃ (q : Int) (l' : List S74), n0 ≤ q ∧ q ≤ n0 + 3145728 ∧ Ev (fun k => laws_markPartS.f k l n0) (q, l') ∧ Ev (fun k => laws_heldPartS.f k l' n0) q := by
  refine ⟨n0 + 3 * (l.length : Int), (List.range l.length).map fun i : Nat => (⟨n0 + 3 * (i : Int), n0 + 3 * (i : Int) + 1, mt (n0 + 3 * (i : Int) + 2)⟩ : S74), by omega, by omega, ?_, ?_⟩
  · have h := fills_ev (g := fun k x i => laws_markPartS.l0 k x (n0 + 3 * i) i) l.length (fun i : Nat => (⟨n0 + 3 * (i : Int), n0 + 3 * (i : Int) + 1, mt (n0 + 3 * (i : Int) + 2)⟩ : S74)) (fun x => (n0 + 3 * (l.length : Int), x))
      (fun x i hx hi r hr => Ev_succ (by
        have e0 : wrap64 (n0 + 3 * (i : Int) + 1) = n0 + 3 * (i : Int) + 1 := w64 (by omega) (by omega)
        have e1 : wrap64 (n0 + 3 * (i : Int) + 1 + 1) = n0 + 3 * (i : Int) + 2 := by rw [w64 (by omega) (by omega)]; omega
        have e3 : wrap64 (n0 + 3 * (i : Int) + 2 + 1) = n0 + 3 * ((i + 1 : Nat) : Int) := by rw [w64 (by omega) (by omega)]; omega
        simp only [laws_markPartS.l0, Option.bind_some, Int.toNat_natCast, rd_T74_set x i _ (show i < x.length by omega), List.set_set, e0, e1, e3]
        rw [w64_succ hi (by omega)]
        exact Ev_t (by omega) (Ev_t (by omega) (Ev.bind (mt_ev _ (by omega)) hr))))
      (fun x hx => Ev_succ (by simp only [laws_markPartS.l0]; exact Ev_f (by omega) (Ev.now _)))
      l rfl
    refine Ev.congr (fun k => ?_) h
    simp only [laws_markPartS.f, Int.mul_zero, Int.add_zero]
  · have h := all_ev (g := fun k i => laws_heldPartS.l0 k ((List.range l.length).map fun i : Nat => (⟨n0 + 3 * (i : Int), n0 + 3 * (i : Int) + 1, mt (n0 + 3 * (i : Int) + 2)⟩ : S74)) (n0 + 3 * i) i) (r := n0 + 3 * (l.length : Int)) l.length
      (fun i hi hr => Ev_succ (by
        have e0 : wrap64 (n0 + 3 * (i : Int) + 1) = n0 + 3 * (i : Int) + 1 := w64 (by omega) (by omega)
        have e1 : wrap64 (n0 + 3 * (i : Int) + 1 + 1) = n0 + 3 * (i : Int) + 2 := by rw [w64 (by omega) (by omega)]; omega
        have e3 : wrap64 (n0 + 3 * (i : Int) + 2 + 1) = n0 + 3 * ((i + 1 : Nat) : Int) := by rw [w64 (by omega) (by omega)]; omega
        have e2 : rd_T74 ((List.range l.length).map fun i : Nat => (⟨n0 + 3 * (i : Int), n0 + 3 * (i : Int) + 1, mt (n0 + 3 * (i : Int) + 2)⟩ : S74)) (i : Int) = ⟨n0 + 3 * (i : Int), n0 + 3 * (i : Int) + 1, mt (n0 + 3 * (i : Int) + 2)⟩ := by
          rw [rd_T74_nat]; simp [List.getD, hi]
        simp only [laws_heldPartS.l0, List.length_map, List.length_range, e2, e0, e1, e3]
        rw [w64_succ hi (by omega)]
        exact Ev_t (by omega) (Ev_t (by omega) (Ev_t trivial (Ev_t trivial (Ev.bind (mt_ev _ (by omega)) (Ev_t rfl hr)))))))
      (Ev_succ (by simp only [laws_heldPartS.l0, List.length_map, List.length_range]; exact Ev_f (by omega) (Ev.now _)))
    refine Ev.congr (fun k => ?_) h
    simp only [laws_heldPartS.f, Int.mul_zero, Int.add_zero]

def tot : List S74 → Nat
  | [] => 0
  | p :: l => p.f2.size + tot l
theorem tot_append : ∀ a b : List S74, tot (a ++ b) = tot a + tot b
  | [], b => by simp [tot]
  | p :: a, b => by simp only [List.cons_append, tot, tot_append a b]; omega
theorem tot_mem : ∀ (l : List S74) (p : S74), p ∈ l → p.f2.size ≤ tot l
  | [], p, h => by simp at h
  | q :: l, p, h => by
    simp only [tot]
    rcases List.mem_cons.1 h with rfl | h
    · omega
    · have := tot_mem l p h; omega
/-- A part that says nothing. -/
def isZ (p : S74) : Bool := (p.f0 == 0 && (p.f1 == 0 && (p.f2.toList == ([] : List UInt8))))
def join (q p : S74) : S74 := ⟨wrap64 (q.f0 + p.f0), wrap64 (q.f1 + p.f1), q.f2 ++ p.f2⟩
/-- A part behind others, as one with the last where they are of one kind. -/
def addM (l : List S74) (p : S74) : List S74 :=
  if isZ p = true then l else match l.getLast? with
    | none => [p]
    | some q => if kd q = kd p then l.dropLast ++ [join q p] else l ++ [p]
theorem addM_nil (p : S74) : addM [] p = if isZ p = true then [] else [p] := by simp [addM]
theorem addM_snoc (l : List S74) (q p : S74) : addM (l ++ [q]) p = if isZ p = true then l ++ [q] else if kd q = kd p then l ++ [join q p] else l ++ [q] ++ [p] := by
  unfold addM
  simp [List.dropLast_concat]
theorem addM_tot (l : List S74) (p : S74) : tot (addM l p) ≤ tot l + p.f2.size ∧ (addM l p).length ≤ l.length + 1 := by
  rcases List.eq_nil_or_concat l with rfl | ⟨pre, q, rfl⟩
  · rw [addM_nil]
    split <;> simp [tot]
  · rw [List.concat_eq_append, addM_snoc]
    split
    · simp [tot_append, tot]
    · split
      · simp only [tot_append, tot, join, ByteArray.size_append, List.length_append, List.length_singleton]; omega
      · simp only [tot_append, tot, List.length_append, List.length_singleton]; omega
theorem snoc_ix (pre : List S74) (q : S74) (h : pre.length < 9000000000000000000) : wrap64 (((pre ++ [q]).length : Int) - 1) = (pre.length : Int) := by
  rw [List.length_append, List.length_singleton, w64 (by omega) (by omega)]; omega
theorem snoc_set (pre : List S74) (q v : S74) : (pre ++ [q]).set pre.length v = pre ++ [v] := by simp
theorem snoc_rd (pre : List S74) (q : S74) : rd_T74 (pre ++ [q]) (pre.length : Int) = q := rd_mid pre q []
theorem specAdd_ev (l : List S74) (p : S74) (hl : l.length ≤ 2000000) (ht : tot l + p.f2.size ≤ 4000000000000) : Ev (fun k => spec_l1Add.f k l p.f0 p.f1 p.f2) (addM l p) := by
  simp only [spec_l1Add.f]
  rcases List.eq_nil_or_concat l with rfl | ⟨pre, q, rfl⟩
  · rw [addM_nil]
    refine Ev_ite (fun h => Ev_eq (Ev.now _) (if_pos h).symm) (fun h => Ev_f (by simp) (Ev_t (by simp) (Ev_eq (Ev.now _) (if_neg h).symm)))
  · rw [List.concat_eq_append] at hl ht ⊢
    rw [addM_snoc]
    simp only [tot_append, tot, List.length_append, List.length_singleton] at hl ht
    refine Ev_ite (fun h => Ev_eq (Ev.now _) (if_pos h).symm) (fun h => ?_)
    rw [snoc_ix pre q (by omega)]
    simp only [snoc_rd, Int.toNat_natCast, snoc_set]
    have hz : ¬ isZ p = true := h
    rw [if_neg hz]
    refine Ev_t (by simp only [List.length_append, List.length_singleton]; omega) (Ev_t (by omega) (Ev_t (by simp only [List.length_append, List.length_singleton]; omega) (Ev.bind (l1Kind_ev _ _ _) (Ev.bind (l1Kind_ev _ _ _) (Ev_ite (fun h2 => ?_) (fun h2 => ?_))))))
    · have h2' : kd q = kd p := h2
      rw [if_pos h2']
      exact Ev_t (by omega) (Ev.now _)
    · have h2' : ¬ kd q = kd p := h2
      rw [if_neg h2']
      exact Ev_t (by simp only [List.length_append, List.length_singleton]; omega) (Ev.now _)
theorem implAdd_ev (l : List S74) (p : S74) (hl : l.length ≤ 2000000) (ht : tot l + p.f2.size ≤ 4000000000000) : Ev (fun k => impl_builder_add.f k l p.f0 p.f1 p.f2) (addM l p) := by
  simp only [impl_builder_add.f]
  rcases List.eq_nil_or_concat l with rfl | ⟨pre, q, rfl⟩
  · rw [addM_nil]
    refine Ev_ite (fun h => Ev_eq (Ev.now _) (if_pos h).symm) (fun h => Ev_f (by simp) (Ev_t (by simp) (Ev_eq (Ev.now _) (if_neg h).symm)))
  · rw [List.concat_eq_append] at hl ht ⊢
    rw [addM_snoc]
    simp only [tot_append, tot, List.length_append, List.length_singleton] at hl ht
    refine Ev_ite (fun h => Ev_eq (Ev.now _) (if_pos h).symm) (fun h => ?_)
    rw [snoc_ix pre q (by omega)]
    simp only [snoc_rd, Int.toNat_natCast, snoc_set, Option.bind_some]
    have hz : ¬ isZ p = true := h
    rw [if_neg hz]
    refine Ev_t (by simp only [List.length_append, List.length_singleton]; omega) (Ev_t (by omega) (Ev_t (by simp only [List.length_append, List.length_singleton]; omega) (Ev.bind (kind_ev _ _ _) (Ev.bind (kind_ev _ _ _) (Ev_ite (fun h2 => ?_) (fun h2 => ?_))))))
    · have h2' : kd q = kd p := h2
      rw [if_pos h2']
      exact Ev_t (by omega) (Ev.now _)
    · have h2' : ¬ kd q = kd p := h2
      rw [if_neg h2']
      exact Ev_t (by simp only [List.length_append, List.length_singleton]; omega) (Ev.now _)

theorem szPartT_loop (l : List S73) (hw : ∀ p ∈ l, p.f2.size ≤ 9223372036854775807) (hl : l.length ≤ 1048576) : ∀ (m i : Nat) (x : Int), i + m = l.length → 0 ≤ x → x ≤ 1048576 →
    ∃ r, Ev (fun k => laws_szPartS.l0 k l x (i : Int)) r ∧ r ≤ x ∧ (0 ≤ r → (tot ((l.drop i).map im) : Int) ≤ x) := by
  intro m
  induction m with
  | zero =>
    intro i x hi h0 h1
    refine ⟨x, Ev_succ ?_, by omega, fun _ => ?_⟩
    · simp only [laws_szPartS.l0]; exact Ev_f (by omega) (Ev.now _)
    · rw [List.drop_of_length_le (by omega)]; simpa [tot] using h0
  | succ m ih =>
    intro i x hi h0 h1
    have hd := drop_cons l i z73 (by omega)
    have hp := hw _ (getD_mem (xs := l) (i := i) z73 (by omega))
    generalize hq : l.getD i z73 = p at hp hd
    have e : wrap64 (x - (p.f2.size : Int)) = x - (p.f2.size : Int) := w64 (by omega) (by omega)
    by_cases c : x - (p.f2.size : Int) < 0
    · refine ⟨-1, Ev_succ ?_, by omega, fun h => by omega⟩
      simp only [laws_szPartS.l0, laws_szPart.f, rd_T73_nat, hq, e, if_pos c]
      exact Ev_t (by omega) (Ev_t (by omega) (Ev_bind0 rfl (Ev_t (by decide) (Ev.now _))))
    · obtain ⟨r, h2, h3, h4⟩ := ih (i + 1) (x - (p.f2.size : Int)) (by omega) (by omega) (by omega)
      refine ⟨r, Ev_succ ?_, by omega, fun h => ?_⟩
      · simp only [laws_szPartS.l0, laws_szPart.f, rd_T73_nat, hq, e, if_neg c]
        rw [w64_succ (show i < l.length by omega) (by omega)]
        exact Ev_t (by omega) (Ev_t (by omega) (Ev_bind0 rfl (Ev_f c h2)))
      · have := h4 h
        rw [hd]
        rw [List.map_cons]
        show ((p.f2.size + tot ((l.drop (i + 1)).map im) : Nat) : Int) ≤ x
        omega
theorem szPartT_ev (l : List S73) (hw : l.length ≤ maxLen ∧ ∀ p ∈ l, p.f2.size ≤ maxLen) (n : Int) (hn : 0 ≤ n) (hn' : n ≤ 1048576) : ∃ r, Ev (fun k => laws_szPartS.f k l n) r ∧ r ≤ n ∧ (0 ≤ r → l.length ≤ 1048576 ∧ tot (l.map im) ≤ 1048576) := by
  have hl0 : (l.length : Int) ≤ 9223372036854775807 := by have := hw.1; simp only [maxLen] at this; omega
  have e : wrap64 (n - (l.length : Int)) = n - (l.length : Int) := w64 (by omega) (by omega)
  simp only [laws_szPartS.f, e]
  by_cases c : n - (l.length : Int) < 0
  · exact ⟨-1, Ev_t c (Ev.now _), by omega, fun h => by omega⟩
  · obtain ⟨r, h1, h2, h3⟩ := szPartT_loop l (fun p hp => by have := hw.2 p hp; simp only [maxLen] at this; exact this) (by omega) l.length 0 (n - (l.length : Int)) (by omega) (by omega) (by omega)
    refine ⟨r, Ev_f c h1, by omega, fun h => ⟨by omega, ?_⟩⟩
    have := h3 h
    rw [List.drop_zero] at this
    omega

def badP (p : S74) : Bool := decide (p.f0 > 120) || (decide (p.f1 > 120) || (!isZ p && decide (kd p = 0)))
def normM : List S74 → List S74 → List S74 × Bool
  | [], out => if goodB out = true then (out, true) else ([], false)
  | p :: suf, out => if badP p = true then ([], false) else normM suf (addM out p)
theorem normM_len : ∀ (suf out : List S74), (normM suf out).1.length ≤ out.length + suf.length
  | [], out => by unfold normM; split <;> simp
  | p :: suf, out => by
    unfold normM
    split
    · simp
    · have h1 := normM_len suf (addM out p)
      have h2 := (addM_tot out p).2
      simp only [List.length_cons]; omega
theorem neg_kind {p : S74} (h : p.f0 < 0 ∨ p.f1 < 0) : kd p = 0 ∧ isZ p = false := by
  constructor
  · unfold kd kd3
    rcases h with h | h
    · rw [if_neg (by omega), if_neg (by omega), if_neg (by omega)]
    · rw [if_neg (by omega), if_neg (by omega), if_neg (by omega)]
  · unfold isZ
    rcases h with h | h
    · have : (p.f0 == 0) = false := beq_eq_false_iff_ne.2 (by omega)
      simp [this]
    · have : (p.f1 == 0) = false := beq_eq_false_iff_ne.2 (by omega)
      simp [this]
theorem notZ (p : S74) : (!(p.f0 == 0) || (!(p.f1 == 0) || (!(p.f2.toList == ([] : List UInt8))))) = !isZ p := by
  simp only [isZ, Bool.not_and]
theorem spec_loop (l : List S74) (hl : l.length ≤ 1048576) : ∀ (suf pre : List S74), l = pre ++ suf → ∀ out : List S74, out.length ≤ pre.length → tot out + tot suf ≤ 1048576 →
    Ev (fun k => spec_NormalOf.l0 k out l (l.length : Int) (pre.length : Int)) (normM suf out) := by
  intro suf
  induction suf with
  | nil =>
    intro pre he out ho ht
    have hlen : l.length = pre.length := by rw [he]; simp
    refine Ev_succ ?_
    simp only [spec_NormalOf.l0, normM]
    simp only [tot] at ht
    refine Ev_f (by omega) (Ev.bind (specGood_ev out (fun p hp => by have := tot_mem out p hp; omega) (by omega)) (Ev_ite (fun h => Ev_eq (Ev.now _) (if_pos h).symm) (fun h => Ev_eq (Ev.now _) (if_neg h).symm)))
  | cons p suf ih =>
    intro pre he out ho ht
    have hlen : l.length = pre.length + (suf.length + 1) := by rw [he]; simp
    have hrd : rd_T74 l (pre.length : Int) = p := by rw [he]; exact rd_mid pre p suf
    simp only [tot] at ht
    obtain ⟨a1, a2⟩ := addM_tot out p
    have hn := ih (pre ++ [p]) (by rw [he]; simp) (addM out p) (by simp; omega) (by omega)
    refine Ev_succ ?_
    simp only [spec_NormalOf.l0, hrd, l1In_eq, Option.bind_some, decide_eq_true_eq, notZ]
    rw [len_one pre p (by omega)]
    refine Ev_t (by omega) (Ev_t (by omega) (Ev_t (by omega) ?_))
    have go : badP p = false → Ev (fun k => (spec_l1Add.f k out p.f0 p.f1 p.f2).bind fun t => spec_NormalOf.l0 k t l (l.length : Int) ((pre ++ [p]).length : Int)) (normM (p :: suf) out) := by
      intro hb
      refine Ev.bind (specAdd_ev out p (by omega) (by omega)) (Ev_eq hn ?_)
      rw [show normM (p :: suf) out = if badP p = true then ([], false) else normM suf (addM out p) from rfl, hb]; rfl
    have stop : badP p = true → Ev (fun _ => some (([] : List S74), false)) (normM (p :: suf) out) := by
      intro hb
      refine Ev_eq (Ev.now _) ?_
      rw [show normM (p :: suf) out = if badP p = true then ([], false) else normM suf (addM out p) from rfl, hb]; rfl
    refine Ev_ite (fun h1 => Ev_ite (fun h2 => Ev.bind (l1Kind_ev _ _ _) (Ev_ite (fun h3 => Ev_ite (fun h4 => stop ?_) (fun h4 => go ?_)) (fun h3 => go ?_))) (fun h2 => stop ?_)) (fun h1 => stop ?_)
    · have h3' : kd p = 0 := h3
      simp only [badP, h3', h4, decide_true, Bool.and_true, Bool.or_true]
    · have h4' : isZ p = true := by simpa using h4
      simp only [badP, h4', Bool.not_true, Bool.false_and, Bool.or_false, Bool.or_eq_false_iff, decide_eq_false_iff_not]
      omega
    · have h3' : ¬ kd p = 0 := h3
      simp only [badP, h3', decide_false, Bool.and_false, Bool.or_false, Bool.or_eq_false_iff, decide_eq_false_iff_not]
      omega
    · by_cases c : p.f1 > 120
      · simp only [badP, c, decide_true, Bool.true_or, Bool.or_true]
      · obtain ⟨k1, k2⟩ := neg_kind (p := p) (Or.inr (by omega))
        simp only [badP, k1, k2, decide_true, Bool.not_false, Bool.and_true, Bool.or_true]
    · by_cases c : p.f0 > 120
      · simp only [badP, c, decide_true, Bool.true_or]
      · obtain ⟨k1, k2⟩ := neg_kind (p := p) (Or.inl (by omega))
        simp only [badP, k1, k2, decide_true, Bool.not_false, Bool.and_true, Bool.or_true]
theorem impl_loop (l : List S74) (hl : l.length ≤ 1048576) : ∀ (suf pre : List S74), l = pre ++ suf → ∀ out : List S74, out.length ≤ pre.length → tot out + tot suf ≤ 1048576 →
    Ev (fun k => impl_NormalOf.l0 k l (l.length : Int) (pre.length : Int) out) (normM suf out) := by
  intro suf
  induction suf with
  | nil =>
    intro pre he out ho ht
    have hlen : l.length = pre.length := by rw [he]; simp
    refine Ev_succ ?_
    simp only [impl_NormalOf.l0, normM]
    simp only [tot] at ht
    refine Ev_f (by omega) (Ev.bind (implGood_ev out (fun p hp => by have := tot_mem out p hp; omega) (by omega)) (Ev_ite (fun h => Ev_eq (Ev.now _) (if_pos h).symm) (fun h => Ev_eq (Ev.now _) (if_neg h).symm)))
  | cons p suf ih =>
    intro pre he out ho ht
    have hlen : l.length = pre.length + (suf.length + 1) := by rw [he]; simp
    have hrd : rd_T74 l (pre.length : Int) = p := by rw [he]; exact rd_mid pre p suf
    simp only [tot] at ht
    obtain ⟨a1, a2⟩ := addM_tot out p
    have hn := ih (pre ++ [p]) (by rw [he]; simp) (addM out p) (by simp; omega) (by omega)
    refine Ev_succ ?_
    simp only [impl_NormalOf.l0, hrd, notZ]
    rw [len_one pre p (by omega)]
    refine Ev_t (by omega) (Ev_t (by omega) (Ev_t (by omega) ?_))
    have go : badP p = false → Ev (fun k => (impl_builder_add.f k out p.f0 p.f1 p.f2).bind fun t => impl_NormalOf.l0 k l (l.length : Int) ((pre ++ [p]).length : Int) t) (normM (p :: suf) out) := by
      intro hb
      refine Ev.bind (implAdd_ev out p (by omega) (by omega)) (Ev_eq hn ?_)
      rw [show normM (p :: suf) out = if badP p = true then ([], false) else normM suf (addM out p) from rfl, hb]; rfl
    have stop : badP p = true → Ev (fun _ => some (([] : List S74), false)) (normM (p :: suf) out) := by
      intro hb
      refine Ev_eq (Ev.now _) ?_
      rw [show normM (p :: suf) out = if badP p = true then ([], false) else normM suf (addM out p) from rfl, hb]; rfl
    refine Ev_ite (fun h1 => Ev.bind (kind_ev _ _ _) (Ev_ite (fun h2 => stop ?_) (fun h2 => Ev_ite (fun h3 => stop ?_) (fun h3 => Ev_ite (fun h4 => stop ?_) (fun h4 => go ?_))))) (fun h1 => Ev_ite (fun h3 => stop ?_) (fun h3 => Ev_ite (fun h4 => stop ?_) (fun h4 => go ?_)))
    · have h2' : kd p = 0 := h2
      simp only [badP, h2', h1, decide_true, Bool.and_true, Bool.or_true]
    · simp only [badP, h3, decide_true, Bool.true_or]
    · simp only [badP, h4, decide_true, Bool.true_or, Bool.or_true]
    · have h2' : ¬ kd p = 0 := h2
      simp only [badP, h2', h3, h4, decide_false, Bool.and_false, Bool.or_false]
    · simp only [badP, h3, decide_true, Bool.true_or]
    · simp only [badP, h4, decide_true, Bool.true_or, Bool.or_true]
    · have h1' : isZ p = true := by simpa using h1
      simp only [badP, h1', h3, h4, decide_false, Bool.not_true, Bool.false_and, Bool.or_false]
theorem same_normal (l : List S74) (hl : l.length ≤ 1048576) (ht : tot l ≤ 1048576) : ∃ (R : List S74) (b : Bool), R.length ≤ 1048576 ∧ Ev (fun k => spec_NormalOf.f k l) (R, b) ∧ Ev (fun k => impl_NormalOf.f k l) (R, b) := by
  simp only [spec_NormalOf.f, impl_NormalOf.f]
  by_cases c : (l.length : Int) > 500
  · exact ⟨[], false, by simp, Ev_t c (Ev.now _), Ev_t c (Ev.now _)⟩
  · have h1 := spec_loop l hl l [] rfl [] (by simp) (by simp only [tot]; omega)
    have h2 := impl_loop l hl l [] rfl [] (by simp) (by simp only [tot]; omega)
    have h3 := normM_len l []
    simp only [List.length_nil] at h3
    exact ⟨(normM l []).1, (normM l []).2, by omega, Ev_f c h1, Ev_f c h2⟩
end OfFnExactNormalOf
open OfFnExactNormalOf
theorem FnExactNormalOf : Stated := by
  intro l w0
  refine Ev.rounds ?_
  simp only [laws_FnExactNormalOf.f]
  obtain ⟨r, h1, _, h3⟩ := szPartT_ev l ⟨w0.1, fun p hp => (w0.2 p hp).2.2⟩ 1048576 (by omega) (by omega)
  refine Ev.bind h1 (Ev_ite (fun _ => Ev.now _) (fun c => ?_))
  obtain ⟨hl, hz⟩ := h3 (by omega)
  have hl' : (l.map im).length ≤ 1048576 := by simpa using hl
  have f1 := toPartS_ev l hl
  obtain ⟨R, b, hR, f2, f3⟩ := same_normal _ hl' hz
  have f4 := eqPartS_ev (l.map im) (by omega)
  have f5 := eqPartS_ev R (by omega)
  obtain ⟨q, m, hq, _, f6, _⟩ := marks_Part (l.map im) hl' 1 (by omega) (by omega)
  obtain ⟨q', m', hq', _, f7, f8⟩ := marks_Part R hR 1 (by omega) (by omega)
  refine Ev.bind f1 (Ev.bind f2 (Ev.bind f1 (Ev.bind f3 (Ev.bind f5 (Ev_t rfl (Ev_succ ?_))))))
  simp only [laws_FnExactNormalOf.j0]
  refine Ev_f (by simp) (Ev.bind f1 (Ev.bind f4 (Ev_t rfl (Ev.bind f6 (Ev_f (by omega) (Ev.bind f5 (Ev_t rfl (Ev_succ ?_))))))))
  simp only [laws_FnExactNormalOf.j1]
  refine Ev_f (by simp) (Ev.bind f7 (Ev.bind f8 (Ev_f (by omega) (Ev_t rfl (Ev.bind f1 (Ev.bind f3 (Ev.bind f5 (Ev_t rfl (Ev_succ ?_)))))))))
  simp only [laws_FnExactNormalOf.j2]
  exact Ev_f (by simp) (Ev.bind f8 (Ev_f (by omega) (Ev_t rfl (Ev.now _))))
end Go.Proofs.Ytebmncdjlmnbnaa.Pure
