/-
The pure statement of FnExactReadChange: the printed functions of the program and of the reference answer alike for every argument within the bounds that the statement tells.
-/
import Derived.Test.YtebmncdjlmnbnaaWfFnExactReadChange
namespace Go.Proofs.Ytebmncdjlmnbnaa.Pure
open Go Go.RowKit Go.Proofs.Ytebmncdjlmnbnaa.PFnExactReadChange Go.Proofs.YtebmncdjlmnbnaaW.PrintWords Go.Proofs.YtebmncdjlmnbnaaW.PrintLast Go.Proofs.YtebmncdjlmnbnaaW.PrintMore Go.Proofs.Ytebmncdjlmnbnaa.Lib
set_option linter.unusedVariables false
set_option linter.unusedSimpArgs false
namespace OfFnExactReadChange
theorem list_size0 {s : ByteArray} : s.toList = [] ↔ s.size = 0 := by
  rw [ByteArray.toList_eq]
  constructor
  · intro h
    have : s.data.toList.length = 0 := by rw [h]; rfl
    simpa using this
  · intro h
    exact List.eq_nil_of_length_eq_zero (by simpa using h)
def kd3 (a b : Int) (s : ByteArray) : Int := if a > 0 ∧ b = 0 ∧ s.toList = [] then 1 else if b > 0 ∧ a = 0 ∧ s.toList = [] then 2 else if ¬ s.toList = [] ∧ a = 0 ∧ b = 0 then 3 else 0
def kd (p : S74) : Int := kd3 p.f0 p.f1 p.f2
def okk : Int → List S74 → Bool
  | _, [] => true
  | q, p :: c => (decide (kd p ≠ 0) && decide (kd p ≠ q)) && okk (kd p) c
def src : List S74 → Int
  | [] => 0
  | p :: c => p.f0 + p.f1 + src c
def tgt : List S74 → Int
  | [] => 0
  | p :: c => p.f0 + (p.f2.size : Int) + tgt c
def goodB (c : List S74) : Bool := okk 0 c && (decide (src c ≤ 120) && decide (tgt c ≤ 120))
theorem kd_pos {p : S74} (h : kd p ≠ 0) : 0 ≤ p.f0 ∧ 0 ≤ p.f1 ∧ ((kd p = 1 ∧ 0 < p.f0 ∧ p.f1 = 0 ∧ p.f2.size = 0) ∨ (kd p = 2 ∧ 0 < p.f1 ∧ p.f0 = 0 ∧ p.f2.size = 0) ∨ (kd p = 3 ∧ p.f0 = 0 ∧ p.f1 = 0 ∧ 0 < p.f2.size)) := by
  unfold kd kd3 at *
  simp only [list_size0] at *
  split at h
  · rename_i h1
    rw [if_pos h1]
    exact ⟨by omega, by omega, Or.inl ⟨rfl, h1.1, h1.2.1, h1.2.2⟩⟩
  · rename_i h1
    rw [if_neg h1]
    split at h
    · rename_i h2
      rw [if_pos h2]
      exact ⟨by omega, by omega, Or.inr (Or.inl ⟨rfl, h2.1, h2.2.1, h2.2.2⟩)⟩
    · rename_i h2
      rw [if_neg h2]
      split at h
      · rename_i h3
        rw [if_pos h3]
        exact ⟨by omega, by omega, Or.inr (Or.inr ⟨rfl, h3.2.1, h3.2.2, by omega⟩)⟩
      · exact absurd rfl h
theorem okk_cons {q : Int} {p : S74} {c : List S74} (h : okk q (p :: c) = true) : kd p ≠ 0 ∧ kd p ≠ q ∧ okk (kd p) c = true := by
  simp only [okk, Bool.and_eq_true, decide_eq_true_eq] at h
  exact ⟨h.1.1, h.1.2, h.2⟩
theorem okk_any {q : Int} {c : List S74} (h : okk q c = true) : okk 0 c = true := by
  cases c with
  | nil => rfl
  | cons p c => obtain ⟨h1, h2, h3⟩ := okk_cons h; simp only [okk, Bool.and_eq_true, decide_eq_true_eq]; exact ⟨⟨h1, h1⟩, h3⟩
theorem okk_nonneg : ∀ (c : List S74) (q : Int), okk q c = true → 0 ≤ src c ∧ 0 ≤ tgt c ∧ (c.length : Int) ≤ src c + tgt c := by
  intro c
  induction c with
  | nil => intro q _; simp [src, tgt]
  | cons p c ih =>
    intro q h
    obtain ⟨h1, _, h3⟩ := okk_cons h
    obtain ⟨g0, g1, g2⟩ := ih _ h3
    obtain ⟨k0, k1, k2⟩ := kd_pos h1
    simp only [src, tgt, List.length_cons]
    omega
theorem rd_mid (pre : List S74) (p : S74) (suf : List S74) : rd_T74 (pre ++ p :: suf) (pre.length : Int) = p := by simp [rd_T74]
theorem rd_prev (pre : List S74) (p : S74) (suf : List S74) (h : pre.length < 9000000000000000000) : rd_T74 (pre ++ p :: suf) (wrap64 (((pre ++ [p]).length : Int) - 1)) = p := by
  rw [w64 (by simp only [List.length_append, List.length_cons, List.length_nil]; omega) (by simp only [List.length_append, List.length_cons, List.length_nil]; omega)]
  simp [rd_T74]
theorem append_one (pre : List S74) (p : S74) (suf : List S74) : pre ++ p :: suf = (pre ++ [p]) ++ suf := by simp
theorem len_one (pre : List S74) (p : S74) (h : pre.length < 9000000000000000000) : wrap64 ((pre.length : Int) + 1) = ((pre ++ [p]).length : Int) := by
  rw [w64 (by omega) (by omega)]; simp

theorem l1Kind_j1 (x : Bool) (a b : Int) (s : ByteArray) : Ev (fun k => spec_l1Kind.j1 k x a b s) (if x = true then 2 else if ¬ s.toList = [] ∧ a = 0 ∧ b = 0 then 3 else 0) := by
  refine Ev_succ ?_
  simp only [spec_l1Kind.j1]
  refine ⟨0, fun k _ => ?_⟩
  by_cases h1 : x = true <;> by_cases h2 : a = 0 <;> by_cases h3 : b = 0 <;> by_cases h4 : s.toList = [] <;> simp [h1, h2, h3, h4]
theorem l1Kind_j0 (x : Bool) (a b : Int) (s : ByteArray) : Ev (fun k => spec_l1Kind.j0 k x a b s) (if x = true then 1 else if b > 0 ∧ a = 0 ∧ s.toList = [] then 2 else if ¬ s.toList = [] ∧ a = 0 ∧ b = 0 then 3 else 0) := by
  refine Ev_succ ?_
  simp only [spec_l1Kind.j0]
  refine Ev_ite (fun h1 => by rw [if_pos h1]; exact Ev.now _) (fun h1 => ?_)
  rw [if_neg h1]
  refine Ev_ite (fun h2 => Ev_ite (fun h3 => Ev_eq (l1Kind_j1 _ _ _ _) ?_) (fun h3 => Ev_eq (l1Kind_j1 _ _ _ _) ?_)) (fun h2 => Ev_eq (l1Kind_j1 _ _ _ _) ?_)
  · by_cases h4 : s.toList = [] <;> simp [h2, h3, h4]
  · simp [h3]
  · simp [h2]
theorem l1Kind_ev (a b : Int) (s : ByteArray) : Ev (fun k => spec_l1Kind.f k a b s) (kd3 a b s) := by
  simp only [spec_l1Kind.f, kd3]
  refine Ev_ite (fun h1 => Ev_ite (fun h2 => Ev_eq (l1Kind_j0 _ _ _ _) ?_) (fun h2 => Ev_eq (l1Kind_j0 _ _ _ _) ?_)) (fun h1 => Ev_eq (l1Kind_j0 _ _ _ _) ?_)
  · by_cases h4 : s.toList = [] <;> simp [h1, h2, h4]
  · simp [h2]
  · simp [h1]

theorem kind_j1 (x : Bool) (a b : Int) (s : ByteArray) : Ev (fun k => impl_Part_kind.j1 k x a b s) (if x = true then 2 else if ¬ s.toList = [] ∧ a = 0 ∧ b = 0 then 3 else 0) := by
  refine Ev_succ ?_
  simp only [impl_Part_kind.j1]
  refine ⟨0, fun k _ => ?_⟩
  by_cases h1 : x = true <;> by_cases h2 : a = 0 <;> by_cases h3 : b = 0 <;> by_cases h4 : s.toList = [] <;> simp [h1, h2, h3, h4]
theorem kind_j0 (x : Bool) (a b : Int) (s : ByteArray) : Ev (fun k => impl_Part_kind.j0 k x a b s) (if x = true then 1 else if b > 0 ∧ a = 0 ∧ s.toList = [] then 2 else if ¬ s.toList = [] ∧ a = 0 ∧ b = 0 then 3 else 0) := by
  refine Ev_succ ?_
  simp only [impl_Part_kind.j0]
  refine Ev_ite (fun h1 => by rw [if_pos h1]; exact Ev.now _) (fun h1 => ?_)
  rw [if_neg h1]
  refine Ev_ite (fun h3 => Ev_ite (fun h2 => Ev_eq (kind_j1 _ _ _ _) ?_) (fun h2 => Ev_eq (kind_j1 _ _ _ _) ?_)) (fun h3 => Ev_eq (kind_j1 _ _ _ _) ?_)
  · by_cases h4 : s.toList = [] <;> simp [h2, h3, h4]
  · simp [h2]
  · simp [h3]
theorem kind_ev (a b : Int) (s : ByteArray) : Ev (fun k => impl_Part_kind.f k a b s) (kd3 a b s) := by
  simp only [impl_Part_kind.f, kd3]
  refine Ev_ite (fun h1 => Ev_ite (fun h2 => Ev_eq (kind_j0 _ _ _ _) ?_) (fun h2 => Ev_eq (kind_j0 _ _ _ _) ?_)) (fun h1 => Ev_eq (kind_j0 _ _ _ _) ?_)
  · by_cases h4 : s.toList = [] <;> simp [h1, h2, h4]
  · simp [h2]
  · simp [h1]

theorem specGood_j (l : List S74) (i s t : Int) (b : Bool) (x y : Int) (z : ByteArray) (r : Bool) (hb : b = true → r = false)
    (h1 : b = false → wrap64 (s + wrap64 (x + y)) > 120 → r = false) (h2 : b = false → wrap64 (t + wrap64 (x + (z.size : Int))) > 120 → r = false)
    (h3 : b = false → ¬ wrap64 (s + wrap64 (x + y)) > 120 → ¬ wrap64 (t + wrap64 (x + (z.size : Int))) > 120 → Ev (fun k => spec_GoodChange.l0 k l (wrap64 (s + wrap64 (x + y))) (wrap64 (t + wrap64 (x + (z.size : Int)))) l (l.length : Int) (wrap64 (i + 1))) r) :
    Ev (fun k => spec_GoodChange.j1 k l s t l (l.length : Int) i b x y z) r := by
  refine Ev_succ ?_
  simp only [spec_GoodChange.j1]
  refine Ev_ite (fun h => Ev_eq (Ev.now _) (hb h).symm) (fun h => ?_)
  have hf : b = false := by simpa using h
  exact Ev_ite (fun h4 => Ev_eq (Ev.now _) (h1 hf h4).symm) (fun h4 => Ev_ite (fun h5 => Ev_eq (Ev.now _) (h2 hf h5).symm) (fun h5 => h3 hf h4 h5))
def goodFrom (q s t : Int) (c : List S74) : Bool := okk q c && (decide (s + src c ≤ 120) && decide (t + tgt c ≤ 120))
theorem goodFrom_false {q s t : Int} {p : S74} {c : List S74} (h : okk (kd p) c = true → ¬ (s + (p.f0 + p.f1 + src c) ≤ 120 ∧ t + (p.f0 + (p.f2.size : Int) + tgt c) ≤ 120)) : goodFrom q s t (p :: c) = false := by
  unfold goodFrom
  cases ho : okk q (p :: c) with
  | false => rfl
  | true =>
    obtain ⟨_, _, h3⟩ := okk_cons ho
    have := h h3
    simp only [src, tgt, Bool.true_and]
    by_cases h4 : s + (p.f0 + p.f1 + src c) ≤ 120 <;> by_cases h5 : t + (p.f0 + (p.f2.size : Int) + tgt c) ≤ 120 <;> simp [h4, h5]
    exact this ⟨h4, h5⟩
theorem specGood_loop (l : List S74) (hz : ∀ p ∈ l, p.f2.size ≤ 1048576) (hl : l.length ≤ 1048576) : ∀ (suf pre : List S74), l = pre ++ suf → ∀ q s t : Int, 0 ≤ s → s ≤ 120 → 0 ≤ t → t ≤ 120 → (pre = [] → q = 0) →
    (pre ≠ [] → kd (rd_T74 l (wrap64 ((pre.length : Int) - 1))) = q) → Ev (fun k => spec_GoodChange.l0 k l s t l (l.length : Int) (pre.length : Int)) (goodFrom q s t suf) := by
  intro suf
  induction suf with
  | nil =>
    intro pre he q s t s0 s1 t0 t1 hq hp
    refine Ev_succ ?_
    have hlen : l.length = pre.length := by rw [he]; simp
    simp only [spec_GoodChange.l0]
    refine Ev_f (by omega) (Ev_eq (Ev.now _) ?_)
    simp [goodFrom, okk, src, tgt, s1, t1]
  | cons p suf ih =>
    intro pre he q s t s0 s1 t0 t1 hq hp
    have hlen : l.length = pre.length + (suf.length + 1) := by rw [he]; simp
    have hmem : p ∈ l := by rw [he]; simp
    have hzp := hz p hmem
    have hrd : rd_T74 l (pre.length : Int) = p := by rw [he]; exact rd_mid pre p suf
    have hnext := ih (pre ++ [p]) (by rw [he]; simp) (kd p)
    have hj : ∀ b : Bool, (b = true → goodFrom q s t (p :: suf) = false) → (b = false → kd p ≠ 0 ∧ kd p ≠ q ∧ p.f0 ≤ 120 ∧ p.f1 ≤ 120 ∧ (p.f2.size : Int) ≤ 120) →
        Ev (fun k => spec_GoodChange.j1 k l s t l (l.length : Int) (pre.length : Int) b p.f0 p.f1 p.f2) (goodFrom q s t (p :: suf)) := by
      intro b hb1 hb2
      refine specGood_j l _ s t b _ _ _ _ hb1 ?_ ?_ ?_
      · intro hb h
        obtain ⟨h1, h2, h3, h4, h5⟩ := hb2 hb
        obtain ⟨k0, k1, _⟩ := kd_pos h1
        rw [w64 (n := p.f0 + p.f1) (by omega) (by omega), w64 (n := s + (p.f0 + p.f1)) (by omega) (by omega)] at h
        refine goodFrom_false (fun ho => ?_)
        have := okk_nonneg _ _ ho
        omega
      · intro hb h
        obtain ⟨h1, h2, h3, h4, h5⟩ := hb2 hb
        obtain ⟨k0, k1, _⟩ := kd_pos h1
        rw [w64 (n := p.f0 + (p.f2.size : Int)) (by omega) (by omega), w64 (n := t + (p.f0 + (p.f2.size : Int))) (by omega) (by omega)] at h
        refine goodFrom_false (fun ho => ?_)
        have := okk_nonneg _ _ ho
        omega
      · intro hb ha hc
        obtain ⟨h1, h2, h3, h4, h5⟩ := hb2 hb
        obtain ⟨k0, k1, _⟩ := kd_pos h1
        rw [w64 (n := p.f0 + p.f1) (by omega) (by omega), w64 (n := s + (p.f0 + p.f1)) (by omega) (by omega)] at ha ⊢
        rw [w64 (n := p.f0 + (p.f2.size : Int)) (by omega) (by omega), w64 (n := t + (p.f0 + (p.f2.size : Int))) (by omega) (by omega)] at hc ⊢
        rw [len_one pre p (by omega)]
        have := hnext (s + (p.f0 + p.f1)) (t + (p.f0 + (p.f2.size : Int))) (by omega) (by omega) (by omega) (by omega) (fun h => by simp at h) (fun _ => by rw [he, rd_prev pre p suf (by omega)])
        refine Ev_eq this ?_
        simp [goodFrom, okk, src, tgt, h1, h2, Int.add_assoc]
    have hfin : kd p ≠ 0 → kd p ≠ q → Ev (fun k => if p.f0 > 120 then spec_GoodChange.j1 k l s t l (l.length : Int) (pre.length : Int) true p.f0 p.f1 p.f2 else if p.f1 > 120 then spec_GoodChange.j1 k l s t l (l.length : Int) (pre.length : Int) true p.f0 p.f1 p.f2 else spec_GoodChange.j1 k l s t l (l.length : Int) (pre.length : Int) (decide ((p.f2.size : Int) > 120)) p.f0 p.f1 p.f2) (goodFrom q s t (p :: suf)) := by
      intro h1 h2
      obtain ⟨k0, k1, _⟩ := kd_pos h1
      have big : (p.f0 > 120 ∨ p.f1 > 120 ∨ (p.f2.size : Int) > 120) → goodFrom q s t (p :: suf) = false := by
        intro hbig
        refine goodFrom_false (fun ho => ?_)
        have := okk_nonneg _ _ ho
        omega
      refine Ev_ite (fun h => hj _ (fun _ => big (Or.inl h)) (fun h => by cases h)) (fun h3 => Ev_ite (fun h => hj _ (fun _ => big (Or.inr (Or.inl h))) (fun h => by cases h)) (fun h4 => hj _ (fun h => big (Or.inr (Or.inr (by simpa using h)))) (fun h => ⟨h1, h2, by omega, by omega, by simpa using h⟩)))
    refine Ev_succ ?_
    simp only [spec_GoodChange.l0, hrd]
    refine Ev_t (by omega) (Ev_t (by omega) (Ev_t (by omega) (Ev.bind (l1Kind_ev _ _ _) ?_)))
    refine Ev_ite (fun h => hj _ (fun _ => ?_) (fun h => by cases h)) (fun h1 => Ev_ite (fun h2 => Ev_t ?_ (Ev_t ?_ (Ev.bind (l1Kind_ev _ _ _) (Ev_ite (fun h3 => hj _ (fun _ => ?_) (fun h => by cases h)) (fun h3 => hfin h1 (fun h4 => h3 ?_)))))) (fun h2 => hfin h1 (fun h4 => ?_)))
    · have : kd p = 0 := h
      simp [goodFrom, okk, this]
    · rw [w64 (by omega) (by omega)]; omega
    · rw [w64 (by omega) (by omega)]; omega
    · have h5 : kd (rd_T74 l (wrap64 ((pre.length : Int) - 1))) = kd p := h3
      rw [hp (fun h => by rw [h] at h2; simp at h2)] at h5
      simp [goodFrom, okk, h5]
    · have h5 := hp (fun h => by rw [h] at h2; simp at h2)
      exact h5.trans h4.symm
    · have h5 : pre = [] := List.eq_nil_of_length_eq_zero (by omega)
      rw [hq h5] at h4
      exact h1 h4
theorem specGood_ev (l : List S74) (hz : ∀ p ∈ l, p.f2.size ≤ 1048576) (hl : l.length ≤ 1048576) : Ev (fun k => spec_GoodChange.f k l) (goodB l) := by
  have h := specGood_loop l hz hl l [] rfl 0 0 0 (by omega) (by omega) (by omega) (by omega) (fun _ => rfl) (fun h => absurd rfl h)
  simp only [spec_GoodChange.f]
  refine Ev_eq h ?_
  simp [goodFrom, goodB]

def lensOf (l : List S74) : Int × Int × Bool := if src l ≤ 120 ∧ tgt l ≤ 120 then (src l, tgt l, true) else (0, 0, false)
theorem lengths_loop (l : List S74) (hz : ∀ p ∈ l, p.f2.size ≤ 1048576) (hl : l.length ≤ 1048576) : ∀ (suf pre : List S74), l = pre ++ suf → ∀ q s t : Int, 0 ≤ s → s ≤ 120 → 0 ≤ t → t ≤ 120 → okk q suf = true →
    Ev (fun k => impl_lengths.l0 k s t l (l.length : Int) (pre.length : Int)) (if s + src suf ≤ 120 ∧ t + tgt suf ≤ 120 then (s + src suf, t + tgt suf, true) else (0, 0, false)) := by
  intro suf
  induction suf with
  | nil =>
    intro pre he q s t s0 s1 t0 t1 _
    refine Ev_succ ?_
    have hlen : l.length = pre.length := by rw [he]; simp
    simp only [impl_lengths.l0]
    refine Ev_f (by omega) (Ev_eq (Ev.now _) ?_)
    simp [src, tgt, s1, t1]
  | cons p suf ih =>
    intro pre he q s t s0 s1 t0 t1 hok
    obtain ⟨h1, _, h3⟩ := okk_cons hok
    obtain ⟨k0, k1, _⟩ := kd_pos h1
    obtain ⟨n0, n1, _⟩ := okk_nonneg _ _ h3
    have hlen : l.length = pre.length + (suf.length + 1) := by rw [he]; simp
    have hmem : p ∈ l := by rw [he]; simp
    have hzp := hz p hmem
    have hrd : rd_T74 l (pre.length : Int) = p := by rw [he]; exact rd_mid pre p suf
    have hnext := ih (pre ++ [p]) (by rw [he]; simp) (kd p)
    have hj : ∀ b : Bool, (b = true → p.f0 > 120 ∨ p.f1 > 120) → (b = false → p.f0 ≤ 120 ∧ p.f1 ≤ 120) →
        Ev (fun k => impl_lengths.j1 k s t l (l.length : Int) (pre.length : Int) b p.f0 p.f1 p.f2) (if s + src (p :: suf) ≤ 120 ∧ t + tgt (p :: suf) ≤ 120 then (s + src (p :: suf), t + tgt (p :: suf), true) else (0, 0, false)) := by
      intro b hb1 hb2
      refine Ev_succ ?_
      simp only [impl_lengths.j1]
      simp only [src, tgt]
      refine Ev_ite (fun h => Ev_eq (Ev.now _) ?_) (fun h => ?_)
      · have := hb1 h
        exact (if_neg (by omega)).symm
      · have hb : b = false := by simpa using h
        have := hb2 hb
        rw [w64 (n := p.f0 + p.f1) (by omega) (by omega), w64 (n := s + (p.f0 + p.f1)) (by omega) (by omega), w64 (n := p.f0 + (p.f2.size : Int)) (by omega) (by omega), w64 (n := t + (p.f0 + (p.f2.size : Int))) (by omega) (by omega)]
        refine Ev_ite (fun h => Ev_eq (Ev.now _) (if_neg (by omega)).symm) (fun h4 => Ev_ite (fun h => Ev_eq (Ev.now _) (if_neg (by omega)).symm) (fun h5 => ?_))
        rw [len_one pre p (by omega)]
        refine Ev_eq (hnext (s + (p.f0 + p.f1)) (t + (p.f0 + (p.f2.size : Int))) (by omega) (by omega) (by omega) (by omega) h3) ?_
        simp [Int.add_assoc]
    refine Ev_succ ?_
    simp only [impl_lengths.l0, hrd]
    exact Ev_t (by omega) (Ev_t (by omega) (Ev_t (by omega) (Ev_ite (fun h => hj _ (fun _ => Or.inl h) (fun h => by cases h)) (fun h => hj _ (fun h => Or.inr (by simpa using h)) (fun h6 => ⟨by omega, by simpa using h6⟩)))))
theorem lengths_ev (l : List S74) (hz : ∀ p ∈ l, p.f2.size ≤ 1048576) (hl : l.length ≤ 1048576) (ho : okk 0 l = true) : Ev (fun k => impl_lengths.f k l) (lensOf l) := by
  have h := lengths_loop l hz hl l [] rfl 0 0 0 (by omega) (by omega) (by omega) (by omega) ho
  simp only [impl_lengths.f]
  refine Ev_eq h ?_
  simp [lensOf]

theorem implGood_loop (l : List S74) (hz : ∀ p ∈ l, p.f2.size ≤ 1048576) (hl : l.length ≤ 1048576) : ∀ (suf pre : List S74), l = pre ++ suf → ∀ q : Int, (pre = [] → q = 0) →
    (pre ≠ [] → kd (rd_T74 l (wrap64 ((pre.length : Int) - 1))) = q) → (okk q suf = true → okk 0 l = true) → Ev (fun k => impl_GoodChange.l0 k l l (l.length : Int) (pre.length : Int)) (okk q suf && (decide (src l ≤ 120) && decide (tgt l ≤ 120))) := by
  intro suf
  induction suf with
  | nil =>
    intro pre he q hq hp hok
    refine Ev_succ ?_
    have hlen : l.length = pre.length := by rw [he]; simp
    simp only [impl_GoodChange.l0]
    refine Ev_f (by omega) (Ev.bind (lengths_ev l hz hl (hok rfl)) (Ev_eq (Ev.now _) ?_))
    unfold lensOf
    by_cases h1 : src l ≤ 120 <;> by_cases h2 : tgt l ≤ 120 <;> simp [h1, h2, okk]
  | cons p suf ih =>
    intro pre he q hq hp hok
    have hlen : l.length = pre.length + (suf.length + 1) := by rw [he]; simp
    have hrd : rd_T74 l (pre.length : Int) = p := by rw [he]; exact rd_mid pre p suf
    have hnext := ih (pre ++ [p]) (by rw [he]; simp) (kd p) (fun h => by simp at h) (fun _ => by rw [he, rd_prev pre p suf (by omega)])
    have hgo : kd p ≠ 0 → kd p ≠ q → Ev (fun k => impl_GoodChange.l0 k l l (l.length : Int) (wrap64 ((pre.length : Int) + 1))) (okk q (p :: suf) && (decide (src l ≤ 120) && decide (tgt l ≤ 120))) := by
      intro h1 h2
      rw [len_one pre p (by omega)]
      have e : okk q (p :: suf) = okk (kd p) suf := by simp [okk, h1, h2]
      rw [e]
      exact hnext (fun h => hok (e.trans h))
    refine Ev_succ ?_
    simp only [impl_GoodChange.l0, hrd]
    refine Ev_t (by omega) (Ev_t (by omega) (Ev_t (by omega) (Ev.bind (kind_ev _ _ _) ?_)))
    refine Ev_ite (fun h => Ev_eq (Ev.now _) ?_) (fun h1 => Ev_ite (fun h2 => Ev_t ?_ (Ev_t ?_ (Ev.bind (kind_ev _ _ _) (Ev_ite (fun h3 => Ev_eq (Ev.now _) ?_) (fun h3 => hgo h1 (fun h4 => h3 ?_)))))) (fun h2 => hgo h1 (fun h4 => ?_)))
    · have : kd p = 0 := h
      simp [okk, this]
    · rw [w64 (by omega) (by omega)]; omega
    · rw [w64 (by omega) (by omega)]; omega
    · have h5 : kd (rd_T74 l (wrap64 ((pre.length : Int) - 1))) = kd p := h3
      rw [hp (fun h => by rw [h] at h2; simp at h2)] at h5
      simp [okk, h5]
    · have h5 := hp (fun h => by rw [h] at h2; simp at h2)
      exact h5.trans h4.symm
    · have h5 : pre = [] := List.eq_nil_of_length_eq_zero (by omega)
      rw [hq h5] at h4
      exact h1 h4
theorem implGood_ev (l : List S74) (hz : ∀ p ∈ l, p.f2.size ≤ 1048576) (hl : l.length ≤ 1048576) : Ev (fun k => impl_GoodChange.f k l) (goodB l) := by
  have h := implGood_loop l hz hl l [] rfl 0 (fun _ => rfl) (fun h => absurd rfl h) (fun h => h)
  simp only [impl_GoodChange.f]
  exact Ev_eq h rfl

theorem goodB_ok {l : List S74} (h : goodB l = true) : okk 0 l = true ∧ src l ≤ 120 ∧ tgt l ≤ 120 ∧ 0 ≤ src l ∧ 0 ≤ tgt l ∧ (l.length : Int) ≤ src l + tgt l := by
  simp only [goodB, Bool.and_eq_true, decide_eq_true_eq] at h
  obtain ⟨n0, n1, n2⟩ := okk_nonneg _ _ h.1
  exact ⟨h.1, h.2.1, h.2.2, n0, n1, n2⟩

theorem toByteS_ev (l : List Int) (hl : l.length ≤ 1048576) : Ev (fun k => laws_toByteS.f k l) l := by
  have h := fill_ev (g := fun k x i => laws_toByteS.l0 k l x i) l 0 (fun x => x)
    (fun x i hx hi hr => Ev_succ (by
      simp only [laws_toByteS.l0]
      refine Ev_t (by omega) (Ev_t (by omega) (Ev_t (by omega) ?_))
      rw [w64_succ hi (by omega)]
      simpa [rd_nat] using hr))
    (fun x hx => Ev_succ (by simp only [laws_toByteS.l0]; exact Ev_f (by omega) (Ev.now _)))
    (List.replicate l.length 0) (by simp)
  rw [map_same] at h
  refine Ev.congr (fun k => ?_) h
  simp only [laws_toByteS.f]
  rw [if_pos (by omega), if_pos (by simp; omega)]
  simp

theorem eqByteS_ev (l : List Int) (hl : l.length ≤ 4611686018427387904) : Ev (fun k => laws_eqByteS.f k l l) true := by
  have h := all_ev (g := fun k i => laws_eqByteS.l0 k l l i) (r := true) l.length
    (fun i hi hr => Ev_succ (by
      simp only [laws_eqByteS.l0]
      refine Ev_t (by omega) (Ev_t (by omega) (Ev_t (by omega) (Ev_t trivial ?_)))
      rw [w64_succ hi (by omega)]; exact hr))
    (Ev_succ (by simp only [laws_eqByteS.l0]; exact Ev_f (by omega) (Ev.now _)))
  refine Ev.congr (fun k => ?_) h
  simp only [laws_eqByteS.f]; rw [if_pos trivial]

theorem marks_Byte1 (l : List Int) (hl : l.length ≤ 1048576) (n0 : Int) (h0 : 0 ≤ n0) (h1 : n0 ≤ 1000000000000) : ∃ (q : Int) (l' : List Int), n0 ≤ q ∧ q ≤ n0 + 1048576 ∧ Ev (fun k => laws_markByteS.f k l n0) (q, l') := by
  refine ⟨n0 + (l.length : Int), (List.range l.length).map fun i : Nat => (n0 + (i : Int)) % 256, by omega, by omega, ?_⟩
  have h := fills_ev (g := fun k x i => laws_markByteS.l0 k x (n0 + i) i) l.length (fun i : Nat => (n0 + (i : Int)) % 256) (fun x => (n0 + (l.length : Int), x))
      (fun x i hx hi r hr => Ev_succ (by
        have e0 : wrap64 (n0 + (i : Int) + 1) = n0 + ((i + 1 : Nat) : Int) := by rw [w64 (by omega) (by omega)]; omega
        simp only [laws_markByteS.l0, Int.toNat_natCast, e0]
        rw [w64_succ hi (by omega)]
        exact Ev_t (by omega) (Ev_t (by omega) hr)))
      (fun x hx => Ev_succ (by simp only [laws_markByteS.l0]; exact Ev_f (by omega) (Ev.now _)))
      l rfl
  refine Ev.congr (fun k => ?_) h
  simp only [laws_markByteS.f, Int.add_zero]

theorem rd_T74_nat (xs : List S74) (i : Nat) : rd_T74 xs (i : Int) = xs.getD i z74 := by simp [rd_T74]
theorem eqPartS_ev (l : List S74) (hl : l.length ≤ 4611686018427387904) : Ev (fun k => laws_eqPartS.f k l l) true := by
  have h := all_ev (g := fun k i => laws_eqPartS.l0 k l l i) (r := true) l.length
    (fun i hi hr => Ev_succ (by
      simp only [laws_eqPartS.l0, laws_eqPart.f, if_true, Option.bind_some]
      refine Ev_t (by omega) (Ev_t (by omega) (Ev_t (by omega) ?_))
      rw [w64_succ hi (by omega)]; exact hr))
    (Ev_succ (by simp only [laws_eqPartS.l0]; exact Ev_f (by omega) (Ev.now _)))
  refine Ev.congr (fun k => ?_) h
  simp only [laws_eqPartS.f]; rw [if_pos trivial]

theorem nums1_size (c : Int) : (strOfNums [c]).size = 1 := rfl
theorem markText_loop : ∀ (d : Nat) (n : Int) (x : ByteArray), 0 ≤ n → n ≤ 9000000000000000000 → n < 10 ^ d → x.size + d ≤ 1000 → ∃ s, Ev (fun k => laws_markText.l0 k n x) s := by
  intro d
  induction d with
  | zero =>
    intro n x h0 h9 h1 h2
    have : n = 0 := by have : (10 : Int) ^ 0 = 1 := rfl; omega
    subst this
    refine ⟨(⟨#[109]⟩ : ByteArray) ++ x, Ev_succ ?_⟩
    simp only [laws_markText.l0]
    exact Ev_f (by omega) (Ev_t (by omega) (Ev.now _))
  | succ d ih =>
    intro n x h0 h9 h1 h2
    by_cases c : n > 0
    · have e1 : Int.tdiv n 10 = n / 10 := Int.tdiv_eq_ediv_of_nonneg h0
      have e2 : wrap64 (Int.tdiv n 10) = n / 10 := by rw [e1, w64 (by omega) (by omega)]
      have h3 : n / 10 < 10 ^ d := by
        rw [Int.pow_succ] at h1
        generalize (10 : Int) ^ d = g at h1 ⊢
        omega
      obtain ⟨s, hs⟩ := ih (n / 10) (strOfNums [wrap64 (48 + Int.tmod n 10) % 256] ++ x) (by omega) (by omega) h3 (by rw [ByteArray.size_append, nums1_size]; omega)
      refine ⟨s, Ev_succ ?_⟩
      simp only [laws_markText.l0, Option.bind_some, e2]
      exact Ev_t c (Ev_t (by rw [nums1_size]; omega) hs)
    · refine ⟨(⟨#[109]⟩ : ByteArray) ++ x, Ev_succ ?_⟩
      simp only [laws_markText.l0]
      exact Ev_f c (Ev_t (by omega) (Ev.now _))
theorem markText_some (n : Int) (h : n ≤ 9000000000000000000) : ∃ s, Ev (fun k => laws_markText.f k n) s := by
  simp only [laws_markText.f]
  by_cases c : n ≤ 0
  · exact ⟨_, Ev_t c (Ev.now _)⟩
  · obtain ⟨s, hs⟩ := markText_loop 19 n (⟨#[]⟩ : ByteArray) (by omega) h (by omega) (by show 0 + 19 ≤ 1000; omega)
    exact ⟨s, Ev_f c hs⟩
open Classical in
noncomputable def mt (n : Int) : ByteArray := if h : n ≤ 9000000000000000000 then (markText_some n h).choose else ⟨#[]⟩
theorem mt_ev (n : Int) (h : n ≤ 9000000000000000000) : Ev (fun k => laws_markText.f k n) (mt n) := by
  unfold mt
  rw [dif_pos h]
  exact (markText_some n h).choose_spec
theorem rd_T74_set (x : List S74) (i : Nat) (v : S74) (h : i < x.length) : rd_T74 (x.set i v) (i : Int) = v := by
  rw [rd_T74_nat]; simp [List.getD, h]
theorem marks_Part (l : List S74) (hl : l.length ≤ 1048576) (n0 : Int) (h0 : 0 ≤ n0) (h1 : n0 ≤ 1000000000000) : ∃ (q : Int) (l' : List S74), n0 ≤ q ∧ q ≤ n0 + 3145728 ∧ Ev (fun k => laws_markPartS.f k l n0) (q, l') ∧ Ev (fun k => laws_heldPartS.f k l' n0) q := by
  refine ⟨n0 + 3 * (l.length : Int), (List.range l.length).map fun i : Nat => (⟨n0 + 3 * (i : Int), n0 + 3 * (i : Int) + 1, mt (n0 + 3 * (i : Int) + 2)⟩ : S74), by omega, by omega, ?_, ?_⟩
  · have h := fills_ev (g := fun k x i => laws_markPartS.l0 k x (n0 + 3 * i) i) l.length (fun i : Nat => (⟨n0 + 3 * (i : Int), n0 + 3 * (i : Int) + 1, mt (n0 + 3 * (i : Int) + 2)⟩ : S74)) (fun x => (n0 + 3 * (l.length : Int), x))
      (fun x i hx hi r hr => Ev_succ (by
        have e0 : wrap64 (n0 + 3 * (i : Int) + 1) = n0 + 3 * (i : Int) + 1 := w64 (by omega) (by omega)
        have e1 : wrap64 (n0 + 3 * (i : Int) + 1 + 1) = n0 + 3 * (i : Int) + 2 := by rw [w64 (by omega) (by omega)]; omega
        have e3 : wrap64 (n0 + 3 * (i : Int) + 2 + 1) = n0 + 3 * ((i + 1 : Nat) : Int) := by rw [w64 (by omega) (by omega)]; omega
        simp only [laws_markPartS.l0, Option.bind_some, Int.toNat_natCast, rd_T74_set x i _ (show i < x.length by omega), List.set_set, e0, e1, e3]
        rw [w64_succ hi (by omega)]
        exact Ev_t (by omega) (Ev_t (by omega) (Ev.bind (mt_ev _ (by omega)) hr))))
      (fun x hx => Ev_succ (by simp only [laws_markPartS.l0]; exact Ev_f (by omega) (Ev.now _)))
      l rfl
    refine Ev.congr (fun k => ?_) h
    simp only [laws_markPartS.f, Int.mul_zero, Int.add_zero]
  · have h := all_ev (g := fun k i => laws_heldPartS.l0 k ((List.range l.length).map fun i : Nat => (⟨n0 + 3 * (i : Int), n0 + 3 * (i : Int) + 1, mt (n0 + 3 * (i : Int) + 2)⟩ : S74)) (n0 + 3 * i) i) (r := n0 + 3 * (l.length : Int)) l.length
      (fun i hi hr => Ev_succ (by
        have e0 : wrap64 (n0 + 3 * (i : Int) + 1) = n0 + 3 * (i : Int) + 1 := w64 (by omega) (by omega)
        have e1 : wrap64 (n0 + 3 * (i : Int) + 1 + 1) = n0 + 3 * (i : Int) + 2 := by rw [w64 (by omega) (by omega)]; omega
        have e3 : wrap64 (n0 + 3 * (i : Int) + 2 + 1) = n0 + 3 * ((i + 1 : Nat) : Int) := by rw [w64 (by omega) (by omega)]; omega
        have e2 : rd_T74 ((List.range l.length).map fun i : Nat => (⟨n0 + 3 * (i : Int), n0 + 3 * (i : Int) + 1, mt (n0 + 3 * (i : Int) + 2)⟩ : S74)) (i : Int) = ⟨n0 + 3 * (i : Int), n0 + 3 * (i : Int) + 1, mt (n0 + 3 * (i : Int) + 2)⟩ := by
          rw [rd_T74_nat]; simp [List.getD, hi]
        simp only [laws_heldPartS.l0, List.length_map, List.length_range, e2, e0, e1, e3]
        rw [w64_succ hi (by omega)]
        exact Ev_t (by omega) (Ev_t (by omega) (Ev_t trivial (Ev_t trivial (Ev.bind (mt_ev _ (by omega)) (Ev_t rfl hr)))))))
      (Ev_succ (by simp only [laws_heldPartS.l0, List.length_map, List.length_range]; exact Ev_f (by omega) (Ev.now _)))
    refine Ev.congr (fun k => ?_) h
    simp only [laws_heldPartS.f, Int.mul_zero, Int.add_zero]

theorem goodB_short {l : List S74} (h : l.length > 500) : goodB l = false := by
  cases hg : goodB l with
  | false => rfl
  | true => have := goodB_ok hg; omega
theorem str_size (l : List Int) : (strOfNums l).size = l.length := by
  unfold strOfNums
  show ((l.map fun n => UInt8.ofNat n.toNat).toArray).size = l.length
  simp
theorem impl_long : ∀ (n : Nat) (rest : List Int) (acc : List S74), rest.length ≤ n → (∀ x ∈ rest, 0 ≤ x ∧ x ≤ 255) → (∀ p ∈ acc, p.f2.size ≤ 1048576) → acc.length + rest.length ≤ 1048576 → acc.length > 500 → Ev (fun k => impl_ReadChange.l0 k rest acc) ([], false) := by
  intro n
  induction n with
  | zero =>
    intro rest acc hn hw hz hl ha
    have : rest = [] := List.eq_nil_of_length_eq_zero (by omega)
    subst this
    refine Ev_succ ?_
    simp only [impl_ReadChange.l0]
    refine Ev_f (by simp) (Ev.bind (implGood_ev acc hz (by omega)) ?_)
    rw [goodB_short ha]
    exact Ev_f (by decide) (Ev.now _)
  | succ n ih =>
    intro rest acc hn hw hz hl ha
    match rest, hn, hw, hl with
    | [], _, _, _ =>
      refine Ev_succ ?_
      simp only [impl_ReadChange.l0]
      refine Ev_f (by simp) (Ev.bind (implGood_ev acc hz (by omega)) ?_)
      rw [goodB_short ha]
      exact Ev_f (by decide) (Ev.now _)
    | [c], _, _, _ =>
      refine Ev_succ ?_
      simp only [impl_ReadChange.l0]
      exact Ev_t (by simp) (Ev_t (by simp) (Ev.now _))
    | c :: m :: rest, hn, hw, hl =>
      have hc := hw c (by simp)
      have hm := hw m (by simp)
      simp only [List.length_cons] at hn hl
      have hw' : ∀ x ∈ rest, 0 ≤ x ∧ x ≤ 255 := fun x hx => hw x (by simp [hx])
      have e0 : rd (c :: m :: rest) 0 = c := by simp [rd]
      have e1 : rd (c :: m :: rest) 1 = m := by simp [rd]
      have e2 : wrap64 m = m := w64 (by omega) (by omega)
      have hz' : ∀ v : S74, v.f2.size ≤ 1048576 → ∀ p ∈ acc ++ [v], p.f2.size ≤ 1048576 := by
        intro v hv p hp
        rcases List.mem_append.1 hp with h | h
        · exact hz p h
        · rw [List.mem_singleton.1 h]; exact hv
      refine Ev_succ ?_
      simp only [impl_ReadChange.l0, e0, e1, e2, List.drop_succ_cons, List.drop_zero, Option.bind_some, List.length_cons]
      refine Ev_t (by omega) (Ev_f (by omega) (Ev_t (by omega) (Ev_t (by omega) (Ev_t (by omega) ?_))))
      refine Ev_ite (fun _ => Ev_t (by omega) (ih _ _ (by omega) hw' (hz' _ (by show (0 : Nat) ≤ 1048576; omega)) (by simp; omega) (by simp; omega))) (fun _ => Ev_ite (fun _ => Ev_t (by omega) (ih _ _ (by omega) hw' (hz' _ (by show (0 : Nat) ≤ 1048576; omega)) (by simp; omega) (by simp; omega))) (fun _ => Ev_ite (fun _ => Ev_ite (fun h => Ev_t (by omega) (Ev_t (by omega) ?_)) (fun _ => Ev.now _)) (fun _ => Ev.now _)))
      refine ih _ _ (by simp; omega) (fun x hx => hw' x (List.mem_of_mem_drop hx)) (hz' _ ?_) (by simp; omega) (by simp; omega)
      show (strOfNums _).size ≤ 1048576
      rw [str_size, List.length_take]; omega
structure At (b : List Int) (i : Nat) (c m : Int) (rest : List Int) : Prop where
  s0 : rd b (i : Int) = c
  s1 : wrap64 ((i : Int) + 1) = ((i + 1 : Nat) : Int)
  s2 : rd b ((i + 1 : Nat) : Int) = m
  s3 : wrap64 ((i : Int) + 2) = ((i + 2 : Nat) : Int)
  e2 : wrap64 m = m
  s4 : wrap64 (wrap64 ((b.length : Int) - (i : Int)) - 2) = (rest.length : Int)
  s5 : wrap64 (((i + 2 : Nat) : Int) + m) = ((i + 2 + m.toNat : Nat) : Int)
  s6 : wrap64 (wrap64 ((i : Int) + m) + 2) = ((i + 2 + m.toNat : Nat) : Int)
  s7 : (b.take (((i + 2 + m.toNat : Nat) : Int)).toNat).drop (((i + 2 : Nat) : Int)).toNat = rest.take m.toNat
  hl : i + (rest.length + 2) = b.length
  hm : 0 ≤ m
theorem At.mk' {b : List Int} {i : Nat} {c m : Int} {rest : List Int} (hd : b.drop i = c :: m :: rest) (hi : i + (rest.length + 2) = b.length) (hb : b.length ≤ 1048576) (hm : 0 ≤ m ∧ m ≤ 255) : At b i c m rest := by
  have hg0 : b[i]? = some c := by have := congrArg (fun l => l[0]?) hd; simpa using this
  have hg1 : b[i + 1]? = some m := by have := congrArg (fun l => l[1]?) hd; simpa using this
  have hd2 : b.drop (i + 2) = rest := by
    have := congrArg (List.drop 2) hd
    rw [List.drop_drop] at this
    simpa using this
  refine ⟨by rw [rd_nat, List.getD_eq_getElem?_getD, hg0]; rfl, w64_succ (show i < b.length by omega) (by omega), by rw [rd_nat, List.getD_eq_getElem?_getD, hg1]; rfl, by rw [w64 (by omega) (by omega)]; omega, w64 (by omega) (by omega), ?_, by rw [w64 (by omega) (by omega)]; omega, ?_, ?_, hi, hm.1⟩
  · rw [w64 (n := (b.length : Int) - (i : Int)) (by omega) (by omega), w64 (by omega) (by omega)]; omega
  · rw [w64 (n := (i : Int) + m) (by omega) (by omega), w64 (by omega) (by omega)]; omega
  · rw [Int.toNat_natCast, Int.toNat_natCast, List.drop_take, hd2]
    congr 1
    omega
section
variable {b : List Int} {i : Nat} {c m : Int} {rest : List Int} {acc : List S74} {r : List S74 × Bool}
theorem spec_1 (h : At b i c m rest) (hc : c = 1) (ha : acc.length ≤ 500) (hr : Ev (fun k => if ((acc ++ [(⟨m, 0, (⟨#[]⟩ : ByteArray)⟩ : S74)]).length : Int) > 500 then some (([] : List S74), false) else spec_ReadChange.l0 k b (acc ++ [(⟨m, 0, (⟨#[]⟩ : ByteArray)⟩ : S74)]) ((i + 2 : Nat) : Int)) r) : Ev (fun k => spec_ReadChange.l0 k b acc (i : Int)) r := by
  have hl := h.hl
  refine Ev_succ ?_
  simp only [spec_ReadChange.l0, h.s0, h.s1, h.s2, h.s3, h.e2, Option.bind_some]
  exact Ev_t (by omega) (Ev_f (by omega) (Ev_t (by omega) (Ev_t (by omega) (Ev_t (by omega) (Ev_t hc (Ev_t (by omega) hr))))))
theorem spec_2 (h : At b i c m rest) (hc : c = 2) (ha : acc.length ≤ 500) (hr : Ev (fun k => if ((acc ++ [(⟨0, m, (⟨#[]⟩ : ByteArray)⟩ : S74)]).length : Int) > 500 then some (([] : List S74), false) else spec_ReadChange.l0 k b (acc ++ [(⟨0, m, (⟨#[]⟩ : ByteArray)⟩ : S74)]) ((i + 2 : Nat) : Int)) r) : Ev (fun k => spec_ReadChange.l0 k b acc (i : Int)) r := by
  have hl := h.hl
  refine Ev_succ ?_
  simp only [spec_ReadChange.l0, h.s0, h.s1, h.s2, h.s3, h.e2, Option.bind_some]
  exact Ev_t (by omega) (Ev_f (by omega) (Ev_t (by omega) (Ev_t (by omega) (Ev_t (by omega) (Ev_f (by omega) (Ev_t hc (Ev_t (by omega) hr)))))))
theorem spec_3 (h : At b i c m rest) (hc : c = 3) (hm : ¬ m > (rest.length : Int)) (ha : acc.length ≤ 500) (hr : Ev (fun k => if ((acc ++ [(⟨0, 0, strOfNums (rest.take m.toNat)⟩ : S74)]).length : Int) > 500 then some (([] : List S74), false) else spec_ReadChange.l0 k b (acc ++ [(⟨0, 0, strOfNums (rest.take m.toNat)⟩ : S74)]) ((i + 2 + m.toNat : Nat) : Int)) r) : Ev (fun k => spec_ReadChange.l0 k b acc (i : Int)) r := by
  have hl := h.hl
  have h0 := h.hm
  refine Ev_succ ?_
  simp only [spec_ReadChange.l0, h.s0, h.s1, h.s2, h.s3, h.e2, h.s4, h.s5, h.s6, h.s7, Option.bind_some]
  exact Ev_t (by omega) (Ev_f (by omega) (Ev_t (by omega) (Ev_t (by omega) (Ev_t (by omega) (Ev_f (by omega) (Ev_f (by omega) (Ev_t hc (Ev_f hm (Ev_t (by omega) (Ev_t (by omega) (Ev_t (by omega) (Ev_t (by omega) hr))))))))))))
theorem spec_4 (h : At b i c m rest) (hc : c = 3) (hm : m > (rest.length : Int)) : Ev (fun k => spec_ReadChange.l0 k b acc (i : Int)) ([], false) := by
  have hl := h.hl
  refine Ev_succ ?_
  simp only [spec_ReadChange.l0, h.s0, h.s1, h.s2, h.s3, h.e2, h.s4, Option.bind_some]
  exact Ev_t (by omega) (Ev_f (by omega) (Ev_t (by omega) (Ev_t (by omega) (Ev_t (by omega) (Ev_f (by omega) (Ev_f (by omega) (Ev_t hc (Ev_t hm (Ev.now _)))))))))
theorem spec_5 (h : At b i c m rest) (h1 : ¬ c = 1) (h2 : ¬ c = 2) (h3 : ¬ c = 3) : Ev (fun k => spec_ReadChange.l0 k b acc (i : Int)) ([], false) := by
  have hl := h.hl
  refine Ev_succ ?_
  simp only [spec_ReadChange.l0, h.s0, h.s1, h.s2, h.s3, h.e2, Option.bind_some]
  exact Ev_t (by omega) (Ev_f (by omega) (Ev_t (by omega) (Ev_t (by omega) (Ev_t (by omega) (Ev_f h1 (Ev_f h2 (Ev_f h3 (Ev.now _))))))))
theorem rd0 (c m : Int) (rest : List Int) : rd (c :: m :: rest) 0 = c := by simp [rd]
theorem rd1 (c m : Int) (rest : List Int) : rd (c :: m :: rest) 1 = m := by simp [rd]
theorem impl_1 (e2 : wrap64 m = m) (hc : c = 1) (ha : acc.length ≤ 500) (hr : Ev (fun k => impl_ReadChange.l0 k rest (acc ++ [(⟨m, 0, (⟨#[]⟩ : ByteArray)⟩ : S74)])) r) : Ev (fun k => impl_ReadChange.l0 k (c :: m :: rest) acc) r := by
  refine Ev_succ ?_
  simp only [impl_ReadChange.l0, rd0, rd1, e2, List.drop_succ_cons, List.drop_zero, Option.bind_some, List.length_cons]
  exact Ev_t (by omega) (Ev_f (by omega) (Ev_t (by omega) (Ev_t (by omega) (Ev_t (by omega) (Ev_t hc (Ev_t (by omega) hr))))))
theorem impl_2 (e2 : wrap64 m = m) (hc : c = 2) (ha : acc.length ≤ 500) (hr : Ev (fun k => impl_ReadChange.l0 k rest (acc ++ [(⟨0, m, (⟨#[]⟩ : ByteArray)⟩ : S74)])) r) : Ev (fun k => impl_ReadChange.l0 k (c :: m :: rest) acc) r := by
  refine Ev_succ ?_
  simp only [impl_ReadChange.l0, rd0, rd1, e2, List.drop_succ_cons, List.drop_zero, Option.bind_some, List.length_cons]
  exact Ev_t (by omega) (Ev_f (by omega) (Ev_t (by omega) (Ev_t (by omega) (Ev_t (by omega) (Ev_f (by omega) (Ev_t hc (Ev_t (by omega) hr)))))))
theorem impl_3 (e2 : wrap64 m = m) (h0 : 0 ≤ m) (hc : c = 3) (hm : ¬ m > (rest.length : Int)) (ha : acc.length ≤ 500) (hr : Ev (fun k => impl_ReadChange.l0 k (rest.drop m.toNat) (acc ++ [(⟨0, 0, strOfNums (rest.take m.toNat)⟩ : S74)])) r) : Ev (fun k => impl_ReadChange.l0 k (c :: m :: rest) acc) r := by
  refine Ev_succ ?_
  simp only [impl_ReadChange.l0, rd0, rd1, e2, List.drop_succ_cons, List.drop_zero, Option.bind_some, List.length_cons]
  exact Ev_t (by omega) (Ev_f (by omega) (Ev_t (by omega) (Ev_t (by omega) (Ev_t (by omega) (Ev_f (by omega) (Ev_f (by omega) (Ev_t hc (Ev_t (by omega) (Ev_t h0 (Ev_t (by omega) hr))))))))))
theorem impl_4 (e2 : wrap64 m = m) (hc : c = 3) (hm : m > (rest.length : Int)) : Ev (fun k => impl_ReadChange.l0 k (c :: m :: rest) acc) ([], false) := by
  refine Ev_succ ?_
  simp only [impl_ReadChange.l0, rd0, rd1, e2, List.drop_succ_cons, List.drop_zero, Option.bind_some, List.length_cons]
  exact Ev_t (by omega) (Ev_f (by omega) (Ev_t (by omega) (Ev_t (by omega) (Ev_t (by omega) (Ev_f (by omega) (Ev_f (by omega) (Ev_t hc (Ev_f (by omega) (Ev.now _)))))))))
theorem impl_5 (e2 : wrap64 m = m) (h1 : ¬ c = 1) (h2 : ¬ c = 2) (h3 : ¬ c = 3) : Ev (fun k => impl_ReadChange.l0 k (c :: m :: rest) acc) ([], false) := by
  refine Ev_succ ?_
  simp only [impl_ReadChange.l0, rd0, rd1, e2, List.drop_succ_cons, List.drop_zero, Option.bind_some, List.length_cons]
  exact Ev_t (by omega) (Ev_f (by omega) (Ev_t (by omega) (Ev_t (by omega) (Ev_t (by omega) (Ev_f h1 (Ev_f h2 (Ev_f h3 (Ev.now _))))))))
end
def RR (b : List Int) (rest : List Int) (acc : List S74) (i : Nat) : Prop := ∃ (R : List S74) (f : Bool), R.length ≤ 500 ∧ Ev (fun k => spec_ReadChange.l0 k b acc (i : Int)) (R, f) ∧ Ev (fun k => impl_ReadChange.l0 k rest acc) (R, f)
theorem read_fin (b : List Int) (hb : b.length ≤ 1048576) (acc : List S74) (i : Nat) (hi : i = b.length) (hz : ∀ p ∈ acc, p.f2.size ≤ 1048576) (ha : acc.length ≤ 500) : RR b [] acc i := by
  have p1 := specGood_ev acc hz (by omega)
  have p2 := implGood_ev acc hz (by omega)
  cases hg : goodB acc with
  | true =>
    rw [hg] at p1 p2
    refine ⟨acc, true, ha, Ev_succ ?_, Ev_succ ?_⟩
    · simp only [spec_ReadChange.l0]; exact Ev_f (by omega) (Ev.bind p1 (Ev.now _))
    · simp only [impl_ReadChange.l0]; exact Ev_f (by simp) (Ev.bind p2 (Ev.now _))
  | false =>
    rw [hg] at p1 p2
    refine ⟨[], false, by simp, Ev_succ ?_, Ev_succ ?_⟩
    · simp only [spec_ReadChange.l0]; exact Ev_f (by omega) (Ev.bind p1 (Ev.now _))
    · simp only [impl_ReadChange.l0]; exact Ev_f (by simp) (Ev.bind p2 (Ev.now _))
theorem read_one (b : List Int) (hb : b.length ≤ 1048576) (acc : List S74) (i : Nat) (c : Int) (hi : i + 1 = b.length) : RR b [c] acc i := by
  refine ⟨[], false, by simp, Ev_succ ?_, Ev_succ ?_⟩
  · simp only [spec_ReadChange.l0]
    rw [w64_succ (show i < b.length by omega) (by omega)]
    exact Ev_t (by omega) (Ev_t (by omega) (Ev.now _))
  · simp only [impl_ReadChange.l0]
    exact Ev_t (by simp) (Ev_t (by simp) (Ev.now _))
theorem read_next (b : List Int) (hb : b.length ≤ 1048576) (acc : List S74) (hz : ∀ p ∈ acc, p.f2.size ≤ 1048576) (ha : acc.length ≤ 500) (v : S74) (j : Nat) (r2 : List Int) (hv : v.f2.size ≤ 1048576) (hj : j + r2.length = b.length) (hij : acc.length + 1 ≤ j) (hw2 : ∀ x ∈ r2, 0 ≤ x ∧ x ≤ 255)
    (ih : (∀ p ∈ acc ++ [v], p.f2.size ≤ 1048576) → (acc ++ [v]).length ≤ 500 → RR b r2 (acc ++ [v]) j) :
    ∃ (R : List S74) (f : Bool), R.length ≤ 500 ∧ Ev (fun k => if ((acc ++ [v]).length : Int) > 500 then some (([] : List S74), false) else spec_ReadChange.l0 k b (acc ++ [v]) (j : Int)) (R, f) ∧ Ev (fun k => impl_ReadChange.l0 k r2 (acc ++ [v])) (R, f) := by
  have hz' : ∀ p ∈ acc ++ [v], p.f2.size ≤ 1048576 := by
    intro p hp
    rcases List.mem_append.1 hp with h | h
    · exact hz p h
    · rw [List.mem_singleton.1 h]; exact hv
  by_cases c5 : (acc ++ [v]).length > 500
  · exact ⟨[], false, by simp, Ev_t (by omega) (Ev.now _), impl_long r2.length r2 _ (Nat.le_refl _) hw2 hz' (by simp only [List.length_append, List.length_cons, List.length_nil]; omega) c5⟩
  · obtain ⟨R, f, h1, h2, h3⟩ := ih hz' (by omega)
    exact ⟨R, f, h1, Ev_f (by omega) h2, h3⟩
theorem read_loop (b : List Int) (hb : b.length ≤ 1048576) (hw : ∀ x ∈ b, 0 ≤ x ∧ x ≤ 255) : ∀ (n : Nat) (rest : List Int) (acc : List S74) (i : Nat), rest.length ≤ n → b.drop i = rest → i + rest.length = b.length → acc.length ≤ i → (∀ p ∈ acc, p.f2.size ≤ 1048576) → acc.length ≤ 500 → RR b rest acc i := by
  intro n
  induction n with
  | zero =>
    intro rest acc i hn hd hi hai hz ha
    have : rest = [] := List.eq_nil_of_length_eq_zero (by omega)
    subst this
    exact read_fin b hb acc i (by simpa using hi) hz ha
  | succ n ih =>
    intro rest acc i hn hd hi hai hz ha
    match rest, hn, hd, hi with
    | [], _, _, hi => exact read_fin b hb acc i (by simpa using hi) hz ha
    | [c], _, _, hi => exact read_one b hb acc i c (by simpa using hi)
    | c :: m :: rest, hn, hd, hi =>
      simp only [List.length_cons] at hn hi
      have hm : 0 ≤ m ∧ m ≤ 255 := hw m (List.mem_of_mem_drop (by rw [hd]; simp))
      have at_ := At.mk' hd (by omega) hb hm
      have hd2 : b.drop (i + 2) = rest := by
        have := congrArg (List.drop 2) hd
        rw [List.drop_drop] at this
        simpa using this
      have hrw : ∀ x ∈ rest, 0 ≤ x ∧ x ≤ 255 := fun x hx => hw x (by rw [← hd2] at hx; exact List.mem_of_mem_drop hx)
      by_cases c1 : c = 1
      · obtain ⟨R, f, h1, h2, h3⟩ := read_next b hb acc hz ha ⟨m, 0, (⟨#[]⟩ : ByteArray)⟩ (i + 2) rest (by show (0 : Nat) ≤ 1048576; omega) (by omega) (by omega) hrw (fun hz' ha' => ih _ _ _ (by omega) hd2 (by omega) (by simp only [List.length_append, List.length_cons, List.length_nil]; omega) hz' ha')
        exact ⟨R, f, h1, spec_1 at_ c1 ha h2, impl_1 at_.e2 c1 ha h3⟩
      · by_cases c2 : c = 2
        · obtain ⟨R, f, h1, h2, h3⟩ := read_next b hb acc hz ha ⟨0, m, (⟨#[]⟩ : ByteArray)⟩ (i + 2) rest (by show (0 : Nat) ≤ 1048576; omega) (by omega) (by omega) hrw (fun hz' ha' => ih _ _ _ (by omega) hd2 (by omega) (by simp only [List.length_append, List.length_cons, List.length_nil]; omega) hz' ha')
          exact ⟨R, f, h1, spec_2 at_ c2 ha h2, impl_2 at_.e2 c2 ha h3⟩
        · by_cases c3 : c = 3
          · by_cases c4 : m > (rest.length : Int)
            · exact ⟨[], false, by simp, spec_4 at_ c3 c4, impl_4 at_.e2 c3 c4⟩
            · obtain ⟨R, f, h1, h2, h3⟩ := read_next b hb acc hz ha ⟨0, 0, strOfNums (rest.take m.toNat)⟩ (i + 2 + m.toNat) (rest.drop m.toNat) (by show (strOfNums _).size ≤ 1048576; rw [str_size, List.length_take]; omega)
                (by rw [List.length_drop]; omega) (by omega) (fun x hx => hrw x (List.mem_of_mem_drop hx)) (fun hz' ha' => ih _ _ _ (by rw [List.length_drop]; omega) (by rw [← hd2, List.drop_drop]) (by rw [List.length_drop]; omega) (by simp only [List.length_append, List.length_cons, List.length_nil]; omega) hz' ha')
              exact ⟨R, f, h1, spec_3 at_ c3 c4 ha h2, impl_3 at_.e2 hm.1 c3 c4 ha h3⟩
          · exact ⟨[], false, by simp, spec_5 at_ c1 c2 c3, impl_5 at_.e2 c1 c2 c3⟩
end OfFnExactReadChange
open OfFnExactReadChange
theorem FnExactReadChange : Stated := by
  intro l w0
  refine Ev.rounds ?_
  simp only [laws_FnExactReadChange.f]
  refine Ev_ite (fun _ => Ev.now _) (fun c0 => ?_)
  have hl : l.length ≤ 1048576 := by omega
  have f1 := toByteS_ev l hl
  obtain ⟨R, b, hR, f2, f3⟩ := read_loop l hl (fun x hx => wf8 (w0.2 x hx)) l.length l [] 0 (Nat.le_refl _) rfl (by omega) (by simp) (by simp) (by simp)
  have f2' : Ev (fun k => spec_ReadChange.f k l) (R, b) := f2
  have f3' : Ev (fun k => impl_ReadChange.f k l) (R, b) := f3
  have f4 := eqByteS_ev l (by omega)
  have f5 := eqPartS_ev R (by omega)
  obtain ⟨q, m, hq, _, f6⟩ := marks_Byte1 l hl 1 (by omega) (by omega)
  obtain ⟨q', m', hq', _, f7, f8⟩ := marks_Part R (by omega) 1 (by omega) (by omega)
  refine Ev.bind f1 (Ev.bind f2' (Ev.bind f1 (Ev.bind f3' (Ev.bind f5 (Ev_t rfl (Ev_succ ?_))))))
  simp only [laws_FnExactReadChange.j0]
  refine Ev_f (by simp) (Ev.bind f1 (Ev.bind f4 (Ev_t rfl (Ev.bind f6 (Ev_f (by omega) (Ev.bind f5 (Ev_t rfl (Ev_succ ?_))))))))
  simp only [laws_FnExactReadChange.j1]
  refine Ev_f (by simp) (Ev.bind f7 (Ev.bind f8 (Ev_f (by omega) (Ev_t rfl (Ev.bind f1 (Ev.bind f3' (Ev.bind f5 (Ev_t rfl (Ev_succ ?_)))))))))
  simp only [laws_FnExactReadChange.j2]
  exact Ev_f (by simp) (Ev.bind f8 (Ev_f (by omega) (Ev_t rfl (Ev.now _))))
end Go.Proofs.Ytebmncdjlmnbnaa.Pure
