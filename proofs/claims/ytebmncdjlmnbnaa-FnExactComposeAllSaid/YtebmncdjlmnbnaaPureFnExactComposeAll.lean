/-
The pure statement of FnExactComposeAll: the printed functions of the program and of the reference answer alike for every argument within the bounds that the statement tells.
-/
import Derived.Test.YtebmncdjlmnbnaaWfFnExactComposeAll
namespace Go.Proofs.Ytebmncdjlmnbnaa.Pure
open Go Go.RowKit Go.Proofs.Ytebmncdjlmnbnaa.PFnExactComposeAll Go.Proofs.YtebmncdjlmnbnaaW.PrintWords Go.Proofs.YtebmncdjlmnbnaaW.PrintLast Go.Proofs.YtebmncdjlmnbnaaW.PrintMore Go.Proofs.Ytebmncdjlmnbnaa.Lib
set_option linter.unusedVariables false
set_option linter.unusedSimpArgs false
namespace OfFnExactComposeAll
theorem within_eq (a b c : Int) : impl_within.f a b c = some (decide (b ≤ a ∧ a ≤ c)) := by
  simp only [impl_within.f]
  by_cases h : b ≤ a <;> simp [h]

theorem l1In_eq (a b c : Int) : spec_l1In.f a b c = some (decide (b ≤ a ∧ a ≤ c)) := by
  simp only [spec_l1In.f]
  by_cases h : b ≤ a <;> simp [h]

theorem list_size0 {s : ByteArray} : s.toList = [] ↔ s.size = 0 := by
  rw [ByteArray.toList_eq]
  constructor
  · intro h
    have : s.data.toList.length = 0 := by rw [h]; rfl
    simpa using this
  · intro h
    exact List.eq_nil_of_length_eq_zero (by simpa using h)
def kd3 (a b : Int) (s : ByteArray) : Int := if a > 0 ∧ b = 0 ∧ s.toList = [] then 1 else if b > 0 ∧ a = 0 ∧ s.toList = [] then 2 else if ¬ s.toList = [] ∧ a = 0 ∧ b = 0 then 3 else 0
def kd (p : S74) : Int := kd3 p.f0 p.f1 p.f2
def okk : Int → List S74 → Bool
  | _, [] => true
  | q, p :: c => (decide (kd p ≠ 0) && decide (kd p ≠ q)) && okk (kd p) c
def src : List S74 → Int
  | [] => 0
  | p :: c => p.f0 + p.f1 + src c
def tgt : List S74 → Int
  | [] => 0
  | p :: c => p.f0 + (p.f2.size : Int) + tgt c
def goodB (c : List S74) : Bool := okk 0 c && (decide (src c ≤ 120) && decide (tgt c ≤ 120))
theorem kd_pos {p : S74} (h : kd p ≠ 0) : 0 ≤ p.f0 ∧ 0 ≤ p.f1 ∧ ((kd p = 1 ∧ 0 < p.f0 ∧ p.f1 = 0 ∧ p.f2.size = 0) ∨ (kd p = 2 ∧ 0 < p.f1 ∧ p.f0 = 0 ∧ p.f2.size = 0) ∨ (kd p = 3 ∧ p.f0 = 0 ∧ p.f1 = 0 ∧ 0 < p.f2.size)) := by
  unfold kd kd3 at *
  simp only [list_size0] at *
  split at h
  · rename_i h1
    rw [if_pos h1]
    exact ⟨by omega, by omega, Or.inl ⟨rfl, h1.1, h1.2.1, h1.2.2⟩⟩
  · rename_i h1
    rw [if_neg h1]
    split at h
    · rename_i h2
      rw [if_pos h2]
      exact ⟨by omega, by omega, Or.inr (Or.inl ⟨rfl, h2.1, h2.2.1, h2.2.2⟩)⟩
    · rename_i h2
      rw [if_neg h2]
      split at h
      · rename_i h3
        rw [if_pos h3]
        exact ⟨by omega, by omega, Or.inr (Or.inr ⟨rfl, h3.2.1, h3.2.2, by omega⟩)⟩
      · exact absurd rfl h
theorem okk_cons {q : Int} {p : S74} {c : List S74} (h : okk q (p :: c) = true) : kd p ≠ 0 ∧ kd p ≠ q ∧ okk (kd p) c = true := by
  simp only [okk, Bool.and_eq_true, decide_eq_true_eq] at h
  exact ⟨h.1.1, h.1.2, h.2⟩
theorem okk_any {q : Int} {c : List S74} (h : okk q c = true) : okk 0 c = true := by
  cases c with
  | nil => rfl
  | cons p c => obtain ⟨h1, h2, h3⟩ := okk_cons h; simp only [okk, Bool.and_eq_true, decide_eq_true_eq]; exact ⟨⟨h1, h1⟩, h3⟩
theorem okk_nonneg : ∀ (c : List S74) (q : Int), okk q c = true → 0 ≤ src c ∧ 0 ≤ tgt c ∧ (c.length : Int) ≤ src c + tgt c := by
  intro c
  induction c with
  | nil => intro q _; simp [src, tgt]
  | cons p c ih =>
    intro q h
    obtain ⟨h1, _, h3⟩ := okk_cons h
    obtain ⟨g0, g1, g2⟩ := ih _ h3
    obtain ⟨k0, k1, k2⟩ := kd_pos h1
    simp only [src, tgt, List.length_cons]
    omega
theorem rd_mid (pre : List S74) (p : S74) (suf : List S74) : rd_T74 (pre ++ p :: suf) (pre.length : Int) = p := by simp [rd_T74]
theorem rd_prev (pre : List S74) (p : S74) (suf : List S74) (h : pre.length < 9000000000000000000) : rd_T74 (pre ++ p :: suf) (wrap64 (((pre ++ [p]).length : Int) - 1)) = p := by
  rw [w64 (by simp only [List.length_append, List.length_cons, List.length_nil]; omega) (by simp only [List.length_append, List.length_cons, List.length_nil]; omega)]
  simp [rd_T74]
theorem append_one (pre : List S74) (p : S74) (suf : List S74) : pre ++ p :: suf = (pre ++ [p]) ++ suf := by simp
theorem len_one (pre : List S74) (p : S74) (h : pre.length < 9000000000000000000) : wrap64 ((pre.length : Int) + 1) = ((pre ++ [p]).length : Int) := by
  rw [w64 (by omega) (by omega)]; simp

theorem l1Kind_j1 (x : Bool) (a b : Int) (s : ByteArray) : Ev (fun k => spec_l1Kind.j1 k x a b s) (if x = true then 2 else if ¬ s.toList = [] ∧ a = 0 ∧ b = 0 then 3 else 0) := by
  refine Ev_succ ?_
  simp only [spec_l1Kind.j1]
  refine ⟨0, fun k _ => ?_⟩
  by_cases h1 : x = true <;> by_cases h2 : a = 0 <;> by_cases h3 : b = 0 <;> by_cases h4 : s.toList = [] <;> simp [h1, h2, h3, h4]
theorem l1Kind_j0 (x : Bool) (a b : Int) (s : ByteArray) : Ev (fun k => spec_l1Kind.j0 k x a b s) (if x = true then 1 else if b > 0 ∧ a = 0 ∧ s.toList = [] then 2 else if ¬ s.toList = [] ∧ a = 0 ∧ b = 0 then 3 else 0) := by
  refine Ev_succ ?_
  simp only [spec_l1Kind.j0]
  refine Ev_ite (fun h1 => by rw [if_pos h1]; exact Ev.now _) (fun h1 => ?_)
  rw [if_neg h1]
  refine Ev_ite (fun h2 => Ev_ite (fun h3 => Ev_eq (l1Kind_j1 _ _ _ _) ?_) (fun h3 => Ev_eq (l1Kind_j1 _ _ _ _) ?_)) (fun h2 => Ev_eq (l1Kind_j1 _ _ _ _) ?_)
  · by_cases h4 : s.toList = [] <;> simp [h2, h3, h4]
  · simp [h3]
  · simp [h2]
theorem l1Kind_ev (a b : Int) (s : ByteArray) : Ev (fun k => spec_l1Kind.f k a b s) (kd3 a b s) := by
  simp only [spec_l1Kind.f, kd3]
  refine Ev_ite (fun h1 => Ev_ite (fun h2 => Ev_eq (l1Kind_j0 _ _ _ _) ?_) (fun h2 => Ev_eq (l1Kind_j0 _ _ _ _) ?_)) (fun h1 => Ev_eq (l1Kind_j0 _ _ _ _) ?_)
  · by_cases h4 : s.toList = [] <;> simp [h1, h2, h4]
  · simp [h2]
  · simp [h1]

theorem kind_j1 (x : Bool) (a b : Int) (s : ByteArray) : Ev (fun k => impl_Part_kind.j1 k x a b s) (if x = true then 2 else if ¬ s.toList = [] ∧ a = 0 ∧ b = 0 then 3 else 0) := by
  refine Ev_succ ?_
  simp only [impl_Part_kind.j1]
  refine ⟨0, fun k _ => ?_⟩
  by_cases h1 : x = true <;> by_cases h2 : a = 0 <;> by_cases h3 : b = 0 <;> by_cases h4 : s.toList = [] <;> simp [h1, h2, h3, h4]
theorem kind_j0 (x : Bool) (a b : Int) (s : ByteArray) : Ev (fun k => impl_Part_kind.j0 k x a b s) (if x = true then 1 else if b > 0 ∧ a = 0 ∧ s.toList = [] then 2 else if ¬ s.toList = [] ∧ a = 0 ∧ b = 0 then 3 else 0) := by
  refine Ev_succ ?_
  simp only [impl_Part_kind.j0]
  refine Ev_ite (fun h1 => by rw [if_pos h1]; exact Ev.now _) (fun h1 => ?_)
  rw [if_neg h1]
  refine Ev_ite (fun h3 => Ev_ite (fun h2 => Ev_eq (kind_j1 _ _ _ _) ?_) (fun h2 => Ev_eq (kind_j1 _ _ _ _) ?_)) (fun h3 => Ev_eq (kind_j1 _ _ _ _) ?_)
  · by_cases h4 : s.toList = [] <;> simp [h2, h3, h4]
  · simp [h2]
  · simp [h3]
theorem kind_ev (a b : Int) (s : ByteArray) : Ev (fun k => impl_Part_kind.f k a b s) (kd3 a b s) := by
  simp only [impl_Part_kind.f, kd3]
  refine Ev_ite (fun h1 => Ev_ite (fun h2 => Ev_eq (kind_j0 _ _ _ _) ?_) (fun h2 => Ev_eq (kind_j0 _ _ _ _) ?_)) (fun h1 => Ev_eq (kind_j0 _ _ _ _) ?_)
  · by_cases h4 : s.toList = [] <;> simp [h1, h2, h4]
  · simp [h2]
  · simp [h1]

theorem specGood_j (l : List S74) (i s t : Int) (b : Bool) (x y : Int) (z : ByteArray) (r : Bool) (hb : b = true → r = false)
    (h1 : b = false → wrap64 (s + wrap64 (x + y)) > 120 → r = false) (h2 : b = false → wrap64 (t + wrap64 (x + (z.size : Int))) > 120 → r = false)
    (h3 : b = false → ¬ wrap64 (s + wrap64 (x + y)) > 120 → ¬ wrap64 (t + wrap64 (x + (z.size : Int))) > 120 → Ev (fun k => spec_GoodChange.l0 k l (wrap64 (s + wrap64 (x + y))) (wrap64 (t + wrap64 (x + (z.size : Int)))) l (l.length : Int) (wrap64 (i + 1))) r) :
    Ev (fun k => spec_GoodChange.j1 k l s t l (l.length : Int) i b x y z) r := by
  refine Ev_succ ?_
  simp only [spec_GoodChange.j1]
  refine Ev_ite (fun h => Ev_eq (Ev.now _) (hb h).symm) (fun h => ?_)
  have hf : b = false := by simpa using h
  exact Ev_ite (fun h4 => Ev_eq (Ev.now _) (h1 hf h4).symm) (fun h4 => Ev_ite (fun h5 => Ev_eq (Ev.now _) (h2 hf h5).symm) (fun h5 => h3 hf h4 h5))
def goodFrom (q s t : Int) (c : List S74) : Bool := okk q c && (decide (s + src c ≤ 120) && decide (t + tgt c ≤ 120))
theorem goodFrom_false {q s t : Int} {p : S74} {c : List S74} (h : okk (kd p) c = true → ¬ (s + (p.f0 + p.f1 + src c) ≤ 120 ∧ t + (p.f0 + (p.f2.size : Int) + tgt c) ≤ 120)) : goodFrom q s t (p :: c) = false := by
  unfold goodFrom
  cases ho : okk q (p :: c) with
  | false => rfl
  | true =>
    obtain ⟨_, _, h3⟩ := okk_cons ho
    have := h h3
    simp only [src, tgt, Bool.true_and]
    by_cases h4 : s + (p.f0 + p.f1 + src c) ≤ 120 <;> by_cases h5 : t + (p.f0 + (p.f2.size : Int) + tgt c) ≤ 120 <;> simp [h4, h5]
    exact this ⟨h4, h5⟩
theorem specGood_loop (l : List S74) (hz : ∀ p ∈ l, p.f2.size ≤ 1048576) (hl : l.length ≤ 1048576) : ∀ (suf pre : List S74), l = pre ++ suf → ∀ q s t : Int, 0 ≤ s → s ≤ 120 → 0 ≤ t → t ≤ 120 → (pre = [] → q = 0) →
    (pre ≠ [] → kd (rd_T74 l (wrap64 ((pre.length : Int) - 1))) = q) → Ev (fun k => spec_GoodChange.l0 k l s t l (l.length : Int) (pre.length : Int)) (goodFrom q s t suf) := by
  intro suf
  induction suf with
  | nil =>
    intro pre he q s t s0 s1 t0 t1 hq hp
    refine Ev_succ ?_
    have hlen : l.length = pre.length := by rw [he]; simp
    simp only [spec_GoodChange.l0]
    refine Ev_f (by omega) (Ev_eq (Ev.now _) ?_)
    simp [goodFrom, okk, src, tgt, s1, t1]
  | cons p suf ih =>
    intro pre he q s t s0 s1 t0 t1 hq hp
    have hlen : l.length = pre.length + (suf.length + 1) := by rw [he]; simp
    have hmem : p ∈ l := by rw [he]; simp
    have hzp := hz p hmem
    have hrd : rd_T74 l (pre.length : Int) = p := by rw [he]; exact rd_mid pre p suf
    have hnext := ih (pre ++ [p]) (by rw [he]; simp) (kd p)
    have hj : ∀ b : Bool, (b = true → goodFrom q s t (p :: suf) = false) → (b = false → kd p ≠ 0 ∧ kd p ≠ q ∧ p.f0 ≤ 120 ∧ p.f1 ≤ 120 ∧ (p.f2.size : Int) ≤ 120) →
        Ev (fun k => spec_GoodChange.j1 k l s t l (l.length : Int) (pre.length : Int) b p.f0 p.f1 p.f2) (goodFrom q s t (p :: suf)) := by
      intro b hb1 hb2
      refine specGood_j l _ s t b _ _ _ _ hb1 ?_ ?_ ?_
      · intro hb h
        obtain ⟨h1, h2, h3, h4, h5⟩ := hb2 hb
        obtain ⟨k0, k1, _⟩ := kd_pos h1
        rw [w64 (n := p.f0 + p.f1) (by omega) (by omega), w64 (n := s + (p.f0 + p.f1)) (by omega) (by omega)] at h
        refine goodFrom_false (fun ho => ?_)
        have := okk_nonneg _ _ ho
        omega
      · intro hb h
        obtain ⟨h1, h2, h3, h4, h5⟩ := hb2 hb
        obtain ⟨k0, k1, _⟩ := kd_pos h1
        rw [w64 (n := p.f0 + (p.f2.size : Int)) (by omega) (by omega), w64 (n := t + (p.f0 + (p.f2.size : Int))) (by omega) (by omega)] at h
        refine goodFrom_false (fun ho => ?_)
        have := okk_nonneg _ _ ho
        omega
      · intro hb ha hc
        obtain ⟨h1, h2, h3, h4, h5⟩ := hb2 hb
        obtain ⟨k0, k1, _⟩ := kd_pos h1
        rw [w64 (n := p.f0 + p.f1) (by omega) (by omega), w64 (n := s + (p.f0 + p.f1)) (by omega) (by omega)] at ha ⊢
        rw [w64 (n := p.f0 + (p.f2.size : Int)) (by omega) (by omega), w64 (n := t + (p.f0 + (p.f2.size : Int))) (by omega) (by omega)] at hc ⊢
        rw [len_one pre p (by omega)]
        have := hnext (s + (p.f0 + p.f1)) (t + (p.f0 + (p.f2.size : Int))) (by omega) (by omega) (by omega) (by omega) (fun h => by simp at h) (fun _ => by rw [he, rd_prev pre p suf (by omega)])
        refine Ev_eq this ?_
        simp [goodFrom, okk, src, tgt, h1, h2, Int.add_assoc]
    have hfin : kd p ≠ 0 → kd p ≠ q → Ev (fun k => if p.f0 > 120 then spec_GoodChange.j1 k l s t l (l.length : Int) (pre.length : Int) true p.f0 p.f1 p.f2 else if p.f1 > 120 then spec_GoodChange.j1 k l s t l (l.length : Int) (pre.length : Int) true p.f0 p.f1 p.f2 else spec_GoodChange.j1 k l s t l (l.length : Int) (pre.length : Int) (decide ((p.f2.size : Int) > 120)) p.f0 p.f1 p.f2) (goodFrom q s t (p :: suf)) := by
      intro h1 h2
      obtain ⟨k0, k1, _⟩ := kd_pos h1
      have big : (p.f0 > 120 ∨ p.f1 > 120 ∨ (p.f2.size : Int) > 120) → goodFrom q s t (p :: suf) = false := by
        intro hbig
        refine goodFrom_false (fun ho => ?_)
        have := okk_nonneg _ _ ho
        omega
      refine Ev_ite (fun h => hj _ (fun _ => big (Or.inl h)) (fun h => by cases h)) (fun h3 => Ev_ite (fun h => hj _ (fun _ => big (Or.inr (Or.inl h))) (fun h => by cases h)) (fun h4 => hj _ (fun h => big (Or.inr (Or.inr (by simpa using h)))) (fun h => ⟨h1, h2, by omega, by omega, by simpa using h⟩)))
    refine Ev_succ ?_
    simp only [spec_GoodChange.l0, hrd]
    refine Ev_t (by omega) (Ev_t (by omega) (Ev_t (by omega) (Ev.bind (l1Kind_ev _ _ _) ?_)))
    refine Ev_ite (fun h => hj _ (fun _ => ?_) (fun h => by cases h)) (fun h1 => Ev_ite (fun h2 => Ev_t ?_ (Ev_t ?_ (Ev.bind (l1Kind_ev _ _ _) (Ev_ite (fun h3 => hj _ (fun _ => ?_) (fun h => by cases h)) (fun h3 => hfin h1 (fun h4 => h3 ?_)))))) (fun h2 => hfin h1 (fun h4 => ?_)))
    · have : kd p = 0 := h
      simp [goodFrom, okk, this]
    · rw [w64 (by omega) (by omega)]; omega
    · rw [w64 (by omega) (by omega)]; omega
    · have h5 : kd (rd_T74 l (wrap64 ((pre.length : Int) - 1))) = kd p := h3
      rw [hp (fun h => by rw [h] at h2; simp at h2)] at h5
      simp [goodFrom, okk, h5]
    · have h5 := hp (fun h => by rw [h] at h2; simp at h2)
      exact h5.trans h4.symm
    · have h5 : pre = [] := List.eq_nil_of_length_eq_zero (by omega)
      rw [hq h5] at h4
      exact h1 h4
theorem specGood_ev (l : List S74) (hz : ∀ p ∈ l, p.f2.size ≤ 1048576) (hl : l.length ≤ 1048576) : Ev (fun k => spec_GoodChange.f k l) (goodB l) := by
  have h := specGood_loop l hz hl l [] rfl 0 0 0 (by omega) (by omega) (by omega) (by omega) (fun _ => rfl) (fun h => absurd rfl h)
  simp only [spec_GoodChange.f]
  refine Ev_eq h ?_
  simp [goodFrom, goodB]

def lensOf (l : List S74) : Int × Int × Bool := if src l ≤ 120 ∧ tgt l ≤ 120 then (src l, tgt l, true) else (0, 0, false)
theorem lengths_loop (l : List S74) (hz : ∀ p ∈ l, p.f2.size ≤ 1048576) (hl : l.length ≤ 1048576) : ∀ (suf pre : List S74), l = pre ++ suf → ∀ q s t : Int, 0 ≤ s → s ≤ 120 → 0 ≤ t → t ≤ 120 → okk q suf = true →
    Ev (fun k => impl_lengths.l0 k s t l (l.length : Int) (pre.length : Int)) (if s + src suf ≤ 120 ∧ t + tgt suf ≤ 120 then (s + src suf, t + tgt suf, true) else (0, 0, false)) := by
  intro suf
  induction suf with
  | nil =>
    intro pre he q s t s0 s1 t0 t1 _
    refine Ev_succ ?_
    have hlen : l.length = pre.length := by rw [he]; simp
    simp only [impl_lengths.l0]
    refine Ev_f (by omega) (Ev_eq (Ev.now _) ?_)
    simp [src, tgt, s1, t1]
  | cons p suf ih =>
    intro pre he q s t s0 s1 t0 t1 hok
    obtain ⟨h1, _, h3⟩ := okk_cons hok
    obtain ⟨k0, k1, _⟩ := kd_pos h1
    obtain ⟨n0, n1, _⟩ := okk_nonneg _ _ h3
    have hlen : l.length = pre.length + (suf.length + 1) := by rw [he]; simp
    have hmem : p ∈ l := by rw [he]; simp
    have hzp := hz p hmem
    have hrd : rd_T74 l (pre.length : Int) = p := by rw [he]; exact rd_mid pre p suf
    have hnext := ih (pre ++ [p]) (by rw [he]; simp) (kd p)
    have hj : ∀ b : Bool, (b = true → p.f0 > 120 ∨ p.f1 > 120) → (b = false → p.f0 ≤ 120 ∧ p.f1 ≤ 120) →
        Ev (fun k => impl_lengths.j1 k s t l (l.length : Int) (pre.length : Int) b p.f0 p.f1 p.f2) (if s + src (p :: suf) ≤ 120 ∧ t + tgt (p :: suf) ≤ 120 then (s + src (p :: suf), t + tgt (p :: suf), true) else (0, 0, false)) := by
      intro b hb1 hb2
      refine Ev_succ ?_
      simp only [impl_lengths.j1]
      simp only [src, tgt]
      refine Ev_ite (fun h => Ev_eq (Ev.now _) ?_) (fun h => ?_)
      · have := hb1 h
        exact (if_neg (by omega)).symm
      · have hb : b = false := by simpa using h
        have := hb2 hb
        rw [w64 (n := p.f0 + p.f1) (by omega) (by omega), w64 (n := s + (p.f0 + p.f1)) (by omega) (by omega), w64 (n := p.f0 + (p.f2.size : Int)) (by omega) (by omega), w64 (n := t + (p.f0 + (p.f2.size : Int))) (by omega) (by omega)]
        refine Ev_ite (fun h => Ev_eq (Ev.now _) (if_neg (by omega)).symm) (fun h4 => Ev_ite (fun h => Ev_eq (Ev.now _) (if_neg (by omega)).symm) (fun h5 => ?_))
        rw [len_one pre p (by omega)]
        refine Ev_eq (hnext (s + (p.f0 + p.f1)) (t + (p.f0 + (p.f2.size : Int))) (by omega) (by omega) (by omega) (by omega) h3) ?_
        simp [Int.add_assoc]
    refine Ev_succ ?_
    simp only [impl_lengths.l0, hrd]
    exact Ev_t (by omega) (Ev_t (by omega) (Ev_t (by omega) (Ev_ite (fun h => hj _ (fun _ => Or.inl h) (fun h => by cases h)) (fun h => hj _ (fun h => Or.inr (by simpa using h)) (fun h6 => ⟨by omega, by simpa using h6⟩)))))
theorem lengths_ev (l : List S74) (hz : ∀ p ∈ l, p.f2.size ≤ 1048576) (hl : l.length ≤ 1048576) (ho : okk 0 l = true) : Ev (fun k => impl_lengths.f k l) (lensOf l) := by
  have h := lengths_loop l hz hl l [] rfl 0 0 0 (by omega) (by omega) (by omega) (by omega) ho
  simp only [impl_lengths.f]
  refine Ev_eq h ?_
  simp [lensOf]

theorem implGood_loop (l : List S74) (hz : ∀ p ∈ l, p.f2.size ≤ 1048576) (hl : l.length ≤ 1048576) : ∀ (suf pre : List S74), l = pre ++ suf → ∀ q : Int, (pre = [] → q = 0) →
    (pre ≠ [] → kd (rd_T74 l (wrap64 ((pre.length : Int) - 1))) = q) → (okk q suf = true → okk 0 l = true) → Ev (fun k => impl_GoodChange.l0 k l l (l.length : Int) (pre.length : Int)) (okk q suf && (decide (src l ≤ 120) && decide (tgt l ≤ 120))) := by
  intro suf
  induction suf with
  | nil =>
    intro pre he q hq hp hok
    refine Ev_succ ?_
    have hlen : l.length = pre.length := by rw [he]; simp
    simp only [impl_GoodChange.l0]
    refine Ev_f (by omega) (Ev.bind (lengths_ev l hz hl (hok rfl)) (Ev_eq (Ev.now _) ?_))
    unfold lensOf
    by_cases h1 : src l ≤ 120 <;> by_cases h2 : tgt l ≤ 120 <;> simp [h1, h2, okk]
  | cons p suf ih =>
    intro pre he q hq hp hok
    have hlen : l.length = pre.length + (suf.length + 1) := by rw [he]; simp
    have hrd : rd_T74 l (pre.length : Int) = p := by rw [he]; exact rd_mid pre p suf
    have hnext := ih (pre ++ [p]) (by rw [he]; simp) (kd p) (fun h => by simp at h) (fun _ => by rw [he, rd_prev pre p suf (by omega)])
    have hgo : kd p ≠ 0 → kd p ≠ q → Ev (fun k => impl_GoodChange.l0 k l l (l.length : Int) (wrap64 ((pre.length : Int) + 1))) (okk q (p :: suf) && (decide (src l ≤ 120) && decide (tgt l ≤ 120))) := by
      intro h1 h2
      rw [len_one pre p (by omega)]
      have e : okk q (p :: suf) = okk (kd p) suf := by simp [okk, h1, h2]
      rw [e]
      exact hnext (fun h => hok (e.trans h))
    refine Ev_succ ?_
    simp only [impl_GoodChange.l0, hrd]
    refine Ev_t (by omega) (Ev_t (by omega) (Ev_t (by omega) (Ev.bind (kind_ev _ _ _) ?_)))
    refine Ev_ite (fun h => Ev_eq (Ev.now _) ?_) (fun h1 => Ev_ite (fun h2 => Ev_t ?_ (Ev_t ?_ (Ev.bind (kind_ev _ _ _) (Ev_ite (fun h3 => Ev_eq (Ev.now _) ?_) (fun h3 => hgo h1 (fun h4 => h3 ?_)))))) (fun h2 => hgo h1 (fun h4 => ?_)))
    · have : kd p = 0 := h
      simp [okk, this]
    · rw [w64 (by omega) (by omega)]; omega
    · rw [w64 (by omega) (by omega)]; omega
    · have h5 : kd (rd_T74 l (wrap64 ((pre.length : Int) - 1))) = kd p := h3
      rw [hp (fun h => by rw [h] at h2; simp at h2)] at h5
      simp [okk, h5]
    · have h5 := hp (fun h => by rw [h] at h2; simp at h2)
      exact h5.trans h4.symm
    · have h5 : pre = [] := List.eq_nil_of_length_eq_zero (by omega)
      rw [hq h5] at h4
      exact h1 h4
theorem implGood_ev (l : List S74) (hz : ∀ p ∈ l, p.f2.size ≤ 1048576) (hl : l.length ≤ 1048576) : Ev (fun k => impl_GoodChange.f k l) (goodB l) := by
  have h := implGood_loop l hz hl l [] rfl 0 (fun _ => rfl) (fun h => absurd rfl h) (fun h => h)
  simp only [impl_GoodChange.f]
  exact Ev_eq h rfl

theorem rd_T73_nat (xs : List S73) (i : Nat) : rd_T73 xs (i : Int) = xs.getD i z73 := by simp [rd_T73]
theorem rd_T74_nat (xs : List S74) (i : Nat) : rd_T74 xs (i : Int) = xs.getD i z74 := by simp [rd_T74]
def im (p : S73) : S74 := ⟨p.f0, p.f1, p.f2⟩
theorem toPartS_ev (l : List S73) (hl : l.length ≤ 1048576) : Ev (fun k => laws_toPartS.f k l) (l.map im) := by
  have h := fill_ev (g := fun k x i => laws_toPartS.l0 k l x i) l z73 im
    (fun x i hx hi hr => Ev_succ (by
      simp only [laws_toPartS.l0, laws_toPart.f, Option.bind_some]
      refine Ev_t (by omega) (Ev_t (by omega) (Ev_t (by omega) ?_))
      rw [w64_succ hi (by omega)]
      simpa [rd_T73_nat, im] using hr))
    (fun x hx => Ev_succ (by simp only [laws_toPartS.l0]; exact Ev_f (by omega) (Ev.now _)))
    (List.replicate l.length z74) (by simp)
  refine Ev.congr (fun k => ?_) h
  simp only [laws_toPartS.f]
  rw [if_pos (by omega), if_pos (by simp; omega)]
  simp
theorem eqPartS_ev (l : List S74) (hl : l.length ≤ 4611686018427387904) : Ev (fun k => laws_eqPartS.f k l l) true := by
  have h := all_ev (g := fun k i => laws_eqPartS.l0 k l l i) (r := true) l.length
    (fun i hi hr => Ev_succ (by
      simp only [laws_eqPartS.l0, laws_eqPart.f, if_true, Option.bind_some]
      refine Ev_t (by omega) (Ev_t (by omega) (Ev_t (by omega) ?_))
      rw [w64_succ hi (by omega)]; exact hr))
    (Ev_succ (by simp only [laws_eqPartS.l0]; exact Ev_f (by omega) (Ev.now _)))
  refine Ev.congr (fun k => ?_) h
  simp only [laws_eqPartS.f]; rw [if_pos trivial]
theorem szPartS_loop (l : List S73) (hw : ∀ p ∈ l, p.f2.size ≤ 9223372036854775807) (hl : l.length ≤ 1048576) : ∀ (m i : Nat) (x : Int), i + m = l.length → 0 ≤ x → x ≤ 1048576 →
    ∃ r, Ev (fun k => laws_szPartS.l0 k l x (i : Int)) r ∧ r ≤ x ∧ (0 ≤ r → ∀ j, i ≤ j → j < l.length → (l.getD j z73).f2.size ≤ 1048576) := by
  intro m
  induction m with
  | zero =>
    intro i x hi h0 h1
    refine ⟨x, Ev_succ ?_, by omega, fun _ j h2 h3 => by omega⟩
    simp only [laws_szPartS.l0]; exact Ev_f (by omega) (Ev.now _)
  | succ m ih =>
    intro i x hi h0 h1
    have hp := hw _ (getD_mem (xs := l) (i := i) z73 (by omega))
    generalize hq : l.getD i z73 = p at hp
    have e : wrap64 (x - (p.f2.size : Int)) = x - (p.f2.size : Int) := w64 (by omega) (by omega)
    by_cases c : x - (p.f2.size : Int) < 0
    · refine ⟨-1, Ev_succ ?_, by omega, fun h => by omega⟩
      simp only [laws_szPartS.l0, laws_szPart.f, rd_T73_nat, hq, e, if_pos c]
      exact Ev_t (by omega) (Ev_t (by omega) (Ev_bind0 rfl (Ev_t (by decide) (Ev.now _))))
    · obtain ⟨r, h2, h3, h4⟩ := ih (i + 1) (x - (p.f2.size : Int)) (by omega) (by omega) (by omega)
      refine ⟨r, Ev_succ ?_, by omega, fun h j h5 h6 => ?_⟩
      · simp only [laws_szPartS.l0, laws_szPart.f, rd_T73_nat, hq, e, if_neg c]
        rw [w64_succ (show i < l.length by omega) (by omega)]
        exact Ev_t (by omega) (Ev_t (by omega) (Ev_bind0 rfl (Ev_f c h2)))
      · by_cases h7 : j = i
        · subst h7; rw [hq]; omega
        · exact h4 h j (by omega) h6
theorem szPartS_ev (l : List S73) (hw : l.length ≤ maxLen ∧ ∀ p ∈ l, p.f2.size ≤ maxLen) (n : Int) (hn : 0 ≤ n) (hn' : n ≤ 1048576) : ∃ r, Ev (fun k => laws_szPartS.f k l n) r ∧ r ≤ n ∧ (0 ≤ r → l.length ≤ 1048576 ∧ ∀ p ∈ l, p.f2.size ≤ 1048576) := by
  have hl0 : (l.length : Int) ≤ 9223372036854775807 := by have := hw.1; simp only [maxLen] at this; omega
  have e : wrap64 (n - (l.length : Int)) = n - (l.length : Int) := w64 (by omega) (by omega)
  simp only [laws_szPartS.f, e]
  by_cases c : n - (l.length : Int) < 0
  · exact ⟨-1, Ev_t c (Ev.now _), by omega, fun h => by omega⟩
  · obtain ⟨r, h1, h2, h3⟩ := szPartS_loop l (fun p hp => by have := hw.2 p hp; simp only [maxLen] at this; exact this) (by omega) l.length 0 (n - (l.length : Int)) (by omega) (by omega) (by omega)
    refine ⟨r, Ev_f c h1, by omega, fun h => ⟨by omega, fun p hp => ?_⟩⟩
    obtain ⟨j, hj, rfl⟩ := List.mem_iff_getElem.1 hp
    have := h3 h j (by omega) hj
    simpa [List.getD, hj] using this
theorem im_wf {l : List S73} (h : ∀ p ∈ l, p.f2.size ≤ 1048576) : ∀ p ∈ l.map im, p.f2.size ≤ 1048576 := by
  intro p hp
  obtain ⟨q, hq, rfl⟩ := List.mem_map.1 hp
  exact h q hq

theorem goodB_ok {l : List S74} (h : goodB l = true) : okk 0 l = true ∧ src l ≤ 120 ∧ tgt l ≤ 120 ∧ 0 ≤ src l ∧ 0 ≤ tgt l ∧ (l.length : Int) ≤ src l + tgt l := by
  simp only [goodB, Bool.and_eq_true, decide_eq_true_eq] at h
  obtain ⟨n0, n1, n2⟩ := okk_nonneg _ _ h.1
  exact ⟨h.1, h.2.1, h.2.2, n0, n1, n2⟩

theorem l1Source_loop (l : List S74) (hl : l.length ≤ 1048576) : ∀ (suf pre : List S74), l = pre ++ suf → ∀ q s : Int, 0 ≤ s → s + src suf ≤ 120 → okk q suf = true →
    Ev (fun k => spec_l1Source.l0 k s l (l.length : Int) (pre.length : Int)) (s + src suf) := by
  intro suf
  induction suf with
  | nil =>
    intro pre he q s s0 s1 _
    refine Ev_succ ?_
    have hlen : l.length = pre.length := by rw [he]; simp
    simp only [spec_l1Source.l0]
    exact Ev_f (by omega) (Ev_eq (Ev.now _) (by simp [src]))
  | cons p suf ih =>
    intro pre he q s s0 s1 hok
    obtain ⟨h1, _, h3⟩ := okk_cons hok
    obtain ⟨k0, k1, _⟩ := kd_pos h1
    obtain ⟨n0, n1, _⟩ := okk_nonneg _ _ h3
    simp only [src] at s1 ⊢
    have hlen : l.length = pre.length + (suf.length + 1) := by rw [he]; simp
    have hrd : rd_T74 l (pre.length : Int) = p := by rw [he]; exact rd_mid pre p suf
    refine Ev_succ ?_
    simp only [spec_l1Source.l0, hrd]
    rw [w64 (n := p.f0 + p.f1) (by omega) (by omega), w64 (n := s + (p.f0 + p.f1)) (by omega) (by omega), len_one pre p (by omega)]
    exact Ev_t (by omega) (Ev_t (by omega) (Ev_t (by omega) (Ev_eq (ih (pre ++ [p]) (by rw [he]; simp) (kd p) (s + (p.f0 + p.f1)) (by omega) (by omega) h3) (by omega))))
theorem l1Source_ev (l : List S74) (hl : l.length ≤ 1048576) (hg : goodB l = true) : Ev (fun k => spec_l1Source.f k l) (src l) := by
  obtain ⟨h1, h2, h3, _⟩ := goodB_ok hg
  have h := l1Source_loop l hl l [] rfl 0 0 (by omega) (by omega) h1
  simp only [spec_l1Source.f]
  exact Ev_eq h (by omega)

theorem l1Target_loop (l : List S74) (hl : l.length ≤ 1048576) : ∀ (suf pre : List S74), l = pre ++ suf → ∀ q s : Int, 0 ≤ s → s + tgt suf ≤ 120 → okk q suf = true →
    Ev (fun k => spec_l1Target.l0 k s l (l.length : Int) (pre.length : Int)) (s + tgt suf) := by
  intro suf
  induction suf with
  | nil =>
    intro pre he q s s0 s1 _
    refine Ev_succ ?_
    have hlen : l.length = pre.length := by rw [he]; simp
    simp only [spec_l1Target.l0]
    exact Ev_f (by omega) (Ev_eq (Ev.now _) (by simp [tgt]))
  | cons p suf ih =>
    intro pre he q s s0 s1 hok
    obtain ⟨h1, _, h3⟩ := okk_cons hok
    obtain ⟨k0, k1, _⟩ := kd_pos h1
    obtain ⟨n0, n1, _⟩ := okk_nonneg _ _ h3
    simp only [tgt] at s1 ⊢
    have hlen : l.length = pre.length + (suf.length + 1) := by rw [he]; simp
    have hrd : rd_T74 l (pre.length : Int) = p := by rw [he]; exact rd_mid pre p suf
    refine Ev_succ ?_
    simp only [spec_l1Target.l0, hrd]
    rw [w64 (n := p.f0 + (p.f2.size : Int)) (by omega) (by omega), w64 (n := s + (p.f0 + (p.f2.size : Int))) (by omega) (by omega), len_one pre p (by omega)]
    exact Ev_t (by omega) (Ev_t (by omega) (Ev_t (by omega) (Ev_eq (ih (pre ++ [p]) (by rw [he]; simp) (kd p) (s + (p.f0 + (p.f2.size : Int))) (by omega) (by omega) h3) (by omega))))
theorem l1Target_ev (l : List S74) (hl : l.length ≤ 1048576) (hg : goodB l = true) : Ev (fun k => spec_l1Target.f k l) (tgt l) := by
  obtain ⟨h1, h2, h3, _⟩ := goodB_ok hg
  have h := l1Target_loop l hl l [] rfl 0 0 (by omega) (by omega) h1
  simp only [spec_l1Target.f]
  exact Ev_eq h (by omega)

def lensG (l : List S74) : Int × Int × Bool := if goodB l = true then (src l, tgt l, true) else (0, 0, false)

theorem implLengths_ev (l : List S74) (hz : ∀ p ∈ l, p.f2.size ≤ 1048576) (hl : l.length ≤ 1048576) : Ev (fun k => impl_LengthsOf.f k l) (lensG l) := by
  simp only [impl_LengthsOf.f, lensG]
  refine Ev.bind (implGood_ev l hz hl) (Ev_ite (fun h => ?_) (fun h => ?_))
  · rw [if_pos h]
    obtain ⟨h1, h2, h3, _⟩ := goodB_ok h
    refine Ev.bind (lengths_ev l hz hl h1) (Ev_eq (Ev.now _) ?_)
    simp [lensOf, h2, h3]
  · rw [if_neg h]; exact Ev.now _

theorem nums1_size (c : Int) : (strOfNums [c]).size = 1 := rfl
theorem markText_loop : ∀ (d : Nat) (n : Int) (x : ByteArray), 0 ≤ n → n ≤ 9000000000000000000 → n < 10 ^ d → x.size + d ≤ 1000 → ∃ s, Ev (fun k => laws_markText.l0 k n x) s := by
  intro d
  induction d with
  | zero =>
    intro n x h0 h9 h1 h2
    have : n = 0 := by have : (10 : Int) ^ 0 = 1 := rfl; omega
    subst this
    refine ⟨(⟨#[109]⟩ : ByteArray) ++ x, Ev_succ ?_⟩
    simp only [laws_markText.l0]
    exact Ev_f (by omega) (Ev_t (by omega) (Ev.now _))
  | succ d ih =>
    intro n x h0 h9 h1 h2
    by_cases c : n > 0
    · have e1 : Int.tdiv n 10 = n / 10 := Int.tdiv_eq_ediv_of_nonneg h0
      have e2 : wrap64 (Int.tdiv n 10) = n / 10 := by rw [e1, w64 (by omega) (by omega)]
      have h3 : n / 10 < 10 ^ d := by
        rw [Int.pow_succ] at h1
        generalize (10 : Int) ^ d = g at h1 ⊢
        omega
      obtain ⟨s, hs⟩ := ih (n / 10) (strOfNums [wrap64 (48 + Int.tmod n 10) % 256] ++ x) (by omega) (by omega) h3 (by rw [ByteArray.size_append, nums1_size]; omega)
      refine ⟨s, Ev_succ ?_⟩
      simp only [laws_markText.l0, Option.bind_some, e2]
      exact Ev_t c (Ev_t (by rw [nums1_size]; omega) hs)
    · refine ⟨(⟨#[109]⟩ : ByteArray) ++ x, Ev_succ ?_⟩
      simp only [laws_markText.l0]
      exact Ev_f c (Ev_t (by omega) (Ev.now _))
theorem markText_some (n : Int) (h : n ≤ 9000000000000000000) : ∃ s, Ev (fun k => laws_markText.f k n) s := by
  simp only [laws_markText.f]
  by_cases c : n ≤ 0
  · exact ⟨_, Ev_t c (Ev.now _)⟩
  · obtain ⟨s, hs⟩ := markText_loop 19 n (⟨#[]⟩ : ByteArray) (by omega) h (by omega) (by show 0 + 19 ≤ 1000; omega)
    exact ⟨s, Ev_f c hs⟩
open Classical in
noncomputable def mt (n : Int) : ByteArray := if h : n ≤ 9000000000000000000 then (markText_some n h).choose else ⟨#[]⟩
theorem mt_ev (n : Int) (h : n ≤ 9000000000000000000) : Ev (fun k => laws_markText.f k n) (mt n) := by
  unfold mt
  rw [dif_pos h]
  exact (markText_some n h).choose_spec
theorem rd_T74_set (x : List S74) (i : Nat) (v : S74) (h : i < x.length) : rd_T74 (x.set i v) (i : Int) = v := by
  rw [rd_T74_nat]; simp [List.getD, h]
theorem marks_Part (l : List S74) (hl : l.length ≤ 1048576) (n0 : Int) (h0 : 0 ≤ n0) (h1 : n0 ≤ 1000000000000) : ∃ (q : Int) (l' : List S74), q = n0 + 3 * (l.length : Int) ∧ Ev (fun k => laws_markPartS.f k l n0) (q, l') ∧ Ev (fun k => laws_heldPartS.f k l' n0) q := by
  refine ⟨n0 + 3 * (l.length : Int), (List.range l.length).map fun i : Nat => (⟨n0 + 3 * (i : Int), n0 + 3 * (i : Int) + 1, mt (n0 + 3 * (i : Int) + 2)⟩ : S74), rfl, ?_, ?_⟩
  · have h := fills_ev (g := fun k x i => laws_markPartS.l0 k x (n0 + 3 * i) i) l.length (fun i : Nat => (⟨n0 + 3 * (i : Int), n0 + 3 * (i : Int) + 1, mt (n0 + 3 * (i : Int) + 2)⟩ : S74)) (fun x => (n0 + 3 * (l.length : Int), x))
      (fun x i hx hi r hr => Ev_succ (by
        have e0 : wrap64 (n0 + 3 * (i : Int) + 1) = n0 + 3 * (i : Int) + 1 := w64 (by omega) (by omega)
        have e1 : wrap64 (n0 + 3 * (i : Int) + 1 + 1) = n0 + 3 * (i : Int) + 2 := by rw [w64 (by omega) (by omega)]; omega
        have e3 : wrap64 (n0 + 3 * (i : Int) + 2 + 1) = n0 + 3 * ((i + 1 : Nat) : Int) := by rw [w64 (by omega) (by omega)]; omega
        simp only [laws_markPartS.l0, Option.bind_some, Int.toNat_natCast, rd_T74_set x i _ (show i < x.length by omega), List.set_set, e0, e1, e3]
        rw [w64_succ hi (by omega)]
        exact Ev_t (by omega) (Ev_t (by omega) (Ev.bind (mt_ev _ (by omega)) hr))))
      (fun x hx => Ev_succ (by simp only [laws_markPartS.l0]; exact Ev_f (by omega) (Ev.now _)))
      l rfl
    refine Ev.congr (fun k => ?_) h
    simp only [laws_markPartS.f, Int.mul_zero, Int.add_zero]
  · have h := all_ev (g := fun k i => laws_heldPartS.l0 k ((List.range l.length).map fun i : Nat => (⟨n0 + 3 * (i : Int), n0 + 3 * (i : Int) + 1, mt (n0 + 3 * (i : Int) + 2)⟩ : S74)) (n0 + 3 * i) i) (r := n0 + 3 * (l.length : Int)) l.length
      (fun i hi hr => Ev_succ (by
        have e0 : wrap64 (n0 + 3 * (i : Int) + 1) = n0 + 3 * (i : Int) + 1 := w64 (by omega) (by omega)
        have e1 : wrap64 (n0 + 3 * (i : Int) + 1 + 1) = n0 + 3 * (i : Int) + 2 := by rw [w64 (by omega) (by omega)]; omega
        have e3 : wrap64 (n0 + 3 * (i : Int) + 2 + 1) = n0 + 3 * ((i + 1 : Nat) : Int) := by rw [w64 (by omega) (by omega)]; omega
        have e2 : rd_T74 ((List.range l.length).map fun i : Nat => (⟨n0 + 3 * (i : Int), n0 + 3 * (i : Int) + 1, mt (n0 + 3 * (i : Int) + 2)⟩ : S74)) (i : Int) = ⟨n0 + 3 * (i : Int), n0 + 3 * (i : Int) + 1, mt (n0 + 3 * (i : Int) + 2)⟩ := by
          rw [rd_T74_nat]; simp [List.getD, hi]
        simp only [laws_heldPartS.l0, List.length_map, List.length_range, e2, e0, e1, e3]
        rw [w64_succ hi (by omega)]
        exact Ev_t (by omega) (Ev_t (by omega) (Ev_t trivial (Ev_t trivial (Ev.bind (mt_ev _ (by omega)) (Ev_t rfl hr)))))))
      (Ev_succ (by simp only [laws_heldPartS.l0, List.length_map, List.length_range]; exact Ev_f (by omega) (Ev.now _)))
    refine Ev.congr (fun k => ?_) h
    simp only [laws_heldPartS.f, Int.mul_zero, Int.add_zero]

def tot : List S74 → Nat
  | [] => 0
  | p :: l => p.f2.size + tot l
theorem tot_append : ∀ a b : List S74, tot (a ++ b) = tot a + tot b
  | [], b => by simp [tot]
  | p :: a, b => by simp only [List.cons_append, tot, tot_append a b]; omega
theorem tot_mem : ∀ (l : List S74) (p : S74), p ∈ l → p.f2.size ≤ tot l
  | [], p, h => by simp at h
  | q :: l, p, h => by
    simp only [tot]
    rcases List.mem_cons.1 h with rfl | h
    · omega
    · have := tot_mem l p h; omega
/-- A part that says nothing. -/
def isZ (p : S74) : Bool := (p.f0 == 0 && (p.f1 == 0 && (p.f2.toList == ([] : List UInt8))))
def join (q p : S74) : S74 := ⟨wrap64 (q.f0 + p.f0), wrap64 (q.f1 + p.f1), q.f2 ++ p.f2⟩
/-- A part behind others, as one with the last where they are of one kind. -/
def addM (l : List S74) (p : S74) : List S74 :=
  if isZ p = true then l else match l.getLast? with
    | none => [p]
    | some q => if kd q = kd p then l.dropLast ++ [join q p] else l ++ [p]
theorem addM_nil (p : S74) : addM [] p = if isZ p = true then [] else [p] := by simp [addM]
theorem addM_snoc (l : List S74) (q p : S74) : addM (l ++ [q]) p = if isZ p = true then l ++ [q] else if kd q = kd p then l ++ [join q p] else l ++ [q] ++ [p] := by
  unfold addM
  simp [List.dropLast_concat]
theorem addM_tot (l : List S74) (p : S74) : tot (addM l p) ≤ tot l + p.f2.size ∧ (addM l p).length ≤ l.length + 1 := by
  rcases List.eq_nil_or_concat l with rfl | ⟨pre, q, rfl⟩
  · rw [addM_nil]
    split <;> simp [tot]
  · rw [List.concat_eq_append, addM_snoc]
    split
    · simp [tot_append, tot]
    · split
      · simp only [tot_append, tot, join, ByteArray.size_append, List.length_append, List.length_singleton]; omega
      · simp only [tot_append, tot, List.length_append, List.length_singleton]; omega
theorem snoc_ix (pre : List S74) (q : S74) (h : pre.length < 9000000000000000000) : wrap64 (((pre ++ [q]).length : Int) - 1) = (pre.length : Int) := by
  rw [List.length_append, List.length_singleton, w64 (by omega) (by omega)]; omega
theorem snoc_set (pre : List S74) (q v : S74) : (pre ++ [q]).set pre.length v = pre ++ [v] := by simp
theorem snoc_rd (pre : List S74) (q : S74) : rd_T74 (pre ++ [q]) (pre.length : Int) = q := rd_mid pre q []
theorem specAdd_ev (l : List S74) (p : S74) (hl : l.length ≤ 2000000) (ht : tot l + p.f2.size ≤ 4000000000000) : Ev (fun k => spec_l1Add.f k l p.f0 p.f1 p.f2) (addM l p) := by
  simp only [spec_l1Add.f]
  rcases List.eq_nil_or_concat l with rfl | ⟨pre, q, rfl⟩
  · rw [addM_nil]
    refine Ev_ite (fun h => Ev_eq (Ev.now _) (if_pos h).symm) (fun h => Ev_f (by simp) (Ev_t (by simp) (Ev_eq (Ev.now _) (if_neg h).symm)))
  · rw [List.concat_eq_append] at hl ht ⊢
    rw [addM_snoc]
    simp only [tot_append, tot, List.length_append, List.length_singleton] at hl ht
    refine Ev_ite (fun h => Ev_eq (Ev.now _) (if_pos h).symm) (fun h => ?_)
    rw [snoc_ix pre q (by omega)]
    simp only [snoc_rd, Int.toNat_natCast, snoc_set]
    have hz : ¬ isZ p = true := h
    rw [if_neg hz]
    refine Ev_t (by simp only [List.length_append, List.length_singleton]; omega) (Ev_t (by omega) (Ev_t (by simp only [List.length_append, List.length_singleton]; omega) (Ev.bind (l1Kind_ev _ _ _) (Ev.bind (l1Kind_ev _ _ _) (Ev_ite (fun h2 => ?_) (fun h2 => ?_))))))
    · have h2' : kd q = kd p := h2
      rw [if_pos h2']
      exact Ev_t (by omega) (Ev.now _)
    · have h2' : ¬ kd q = kd p := h2
      rw [if_neg h2']
      exact Ev_t (by simp only [List.length_append, List.length_singleton]; omega) (Ev.now _)
theorem implAdd_ev (l : List S74) (p : S74) (hl : l.length ≤ 2000000) (ht : tot l + p.f2.size ≤ 4000000000000) : Ev (fun k => impl_builder_add.f k l p.f0 p.f1 p.f2) (addM l p) := by
  simp only [impl_builder_add.f]
  rcases List.eq_nil_or_concat l with rfl | ⟨pre, q, rfl⟩
  · rw [addM_nil]
    refine Ev_ite (fun h => Ev_eq (Ev.now _) (if_pos h).symm) (fun h => Ev_f (by simp) (Ev_t (by simp) (Ev_eq (Ev.now _) (if_neg h).symm)))
  · rw [List.concat_eq_append] at hl ht ⊢
    rw [addM_snoc]
    simp only [tot_append, tot, List.length_append, List.length_singleton] at hl ht
    refine Ev_ite (fun h => Ev_eq (Ev.now _) (if_pos h).symm) (fun h => ?_)
    rw [snoc_ix pre q (by omega)]
    simp only [snoc_rd, Int.toNat_natCast, snoc_set, Option.bind_some]
    have hz : ¬ isZ p = true := h
    rw [if_neg hz]
    refine Ev_t (by simp only [List.length_append, List.length_singleton]; omega) (Ev_t (by omega) (Ev_t (by simp only [List.length_append, List.length_singleton]; omega) (Ev.bind (kind_ev _ _ _) (Ev.bind (kind_ev _ _ _) (Ev_ite (fun h2 => ?_) (fun h2 => ?_))))))
    · have h2' : kd q = kd p := h2
      rw [if_pos h2']
      exact Ev_t (by omega) (Ev.now _)
    · have h2' : ¬ kd q = kd p := h2
      rw [if_neg h2']
      exact Ev_t (by simp only [List.length_append, List.length_singleton]; omega) (Ev.now _)

def szs : List ByteArray → Nat
  | [] => 0
  | s :: t => s.size + szs t
theorem szs_append : ∀ (x y : List ByteArray), szs (x ++ y) = szs x + szs y := by
  intro x
  induction x with
  | nil => intro y; simp [szs]
  | cons s x ih => intro y; simp only [List.cons_append, szs, ih]; omega
theorem szs_rep : ∀ n : Nat, szs (List.replicate n (⟨#[]⟩ : ByteArray)) = 0 := by
  intro n
  induction n with
  | zero => rfl
  | succ n ih => rw [List.replicate_succ]; simp only [szs, ih]; rfl
def cnt : List Bool → Nat
  | [] => 0
  | b :: t => (if b = true then 1 else 0) + cnt t
theorem cnt_append : ∀ (x y : List Bool), cnt (x ++ y) = cnt x + cnt y := by
  intro x
  induction x with
  | nil => intro y; simp [cnt]
  | cons s x ih => intro y; simp only [List.cons_append, cnt, ih]; omega
theorem cnt_rep (b : Bool) : ∀ n : Nat, cnt (List.replicate n b) = if b = true then n else 0 := by
  intro n
  induction n with
  | zero => cases b <;> rfl
  | succ n ih => rw [List.replicate_succ]; simp only [cnt, ih]; cases b <;> simp; omega
theorem last_rd (F : List ByteArray) (s t : ByteArray) (h : F.length ≤ 100000) : wrap64 (((F ++ [s]).length : Int) - 1) = (F.length : Int) ∧ rdOf ByteArray.empty (F ++ [s]) (F.length : Int) = s ∧ (F ++ [s]).set ((F.length : Int)).toNat t = F ++ [t] := by
  refine ⟨?_, ?_, ?_⟩
  · simp only [List.length_append, List.length_singleton]; rw [w64 (by omega) (by omega)]; omega
  · simp [rdOf]
  · simp
theorem open_inner (l : List S74) (j : Nat) (a b : Int) (s : ByteArray) (n : Nat) (hn : n ≤ 1000) (hab : wrap64 (a + b) = (n : Int)) (r : List Bool × List ByteArray) : ∀ (m i : Nat) (bs : List Bool) (ps : List ByteArray), i + m = n → bs.length + m ≤ 100000 → ps.length + m ≤ 100000 →
    Ev (fun k => spec_l1Open.l0 k l (l.length : Int) (wrap64 ((j : Int) + 1)) (bs ++ List.replicate m (decide (a > 0))) (ps ++ List.replicate m (⟨#[]⟩ : ByteArray))) r →
    Ev (fun k => spec_l1Open.l1 k (i : Int) l (l.length : Int) (j : Int) bs ps a b s) r := by
  intro m
  induction m with
  | zero =>
    intro i bs ps hi h1 h2 h
    refine Ev_succ ?_
    simp only [spec_l1Open.l1, hab]
    simp only [List.replicate_zero, List.append_nil] at h
    exact Ev_f (by omega) h
  | succ m ih =>
    intro i bs ps hi h1 h2 h
    refine Ev_succ ?_
    simp only [spec_l1Open.l1, hab]
    rw [w64_succ (show i < n by omega) (by omega)]
    refine Ev_t (by omega) (Ev_t (by omega) (Ev_t (by omega) (ih (i + 1) _ _ (by omega) (by simp; omega) (by simp; omega) ?_)))
    rw [List.append_assoc, List.append_assoc, List.singleton_append, List.singleton_append, ← List.replicate_succ, ← List.replicate_succ]
    exact h
theorem tell_inner (l : List S74) (j : Nat) (a b : Int) (s : ByteArray) (n : Nat) (hn : n ≤ 1000) (r : List Bool × List ByteArray) : ∀ (m i : Nat) (bs : List Bool) (ps : List ByteArray), i + m = n → bs.length + m ≤ 100000 → ps.length + m ≤ 100000 →
    Ev (fun k => impl_tell.l0 k l (l.length : Int) (wrap64 ((j : Int) + 1)) (bs ++ List.replicate m (decide (a > 0))) (ps ++ List.replicate m (⟨#[]⟩ : ByteArray))) r →
    Ev (fun k => impl_tell.l1 k l (l.length : Int) (j : Int) (n : Int) (i : Int) bs ps a b s) r := by
  intro m
  induction m with
  | zero =>
    intro i bs ps hi h1 h2 h
    refine Ev_succ ?_
    simp only [impl_tell.l1]
    simp only [List.replicate_zero, List.append_nil] at h
    exact Ev_f (by omega) h
  | succ m ih =>
    intro i bs ps hi h1 h2 h
    refine Ev_succ ?_
    simp only [impl_tell.l1, Option.bind_some, List.length_singleton]
    rw [w64_succ (show i < n by omega) (by omega)]
    refine Ev_t (by omega) (Ev_t (by omega) (Ev_t (by omega) (ih (i + 1) _ _ (by omega) (by simp; omega) (by simp; omega) ?_)))
    rw [List.append_assoc, List.append_assoc, List.singleton_append, List.singleton_append, ← List.replicate_succ, ← List.replicate_succ]
    exact h
theorem tell_loop (l : List S74) (hl : l.length ≤ 1048576) : ∀ (suf pre : List S74), l = pre ++ suf → ∀ (q : Int) (bs : List Bool) (F : List ByteArray) (s : ByteArray), okk q suf = true → F.length = bs.length → (bs.length : Int) + src suf ≤ 120 → (szs (F ++ [s]) : Int) + tgt suf ≤ 120 →
    ∃ (bs' : List Bool) (ps' : List ByteArray), ps'.length = bs'.length + 1 ∧ (bs'.length : Int) = bs.length + src suf ∧ szs ps' ≤ 120 ∧ (szs ps' : Int) + (cnt bs' : Int) = (szs (F ++ [s]) : Int) + (cnt bs : Int) + tgt suf ∧ Ev (fun k => spec_l1Open.l0 k l (l.length : Int) (pre.length : Int) bs (F ++ [s])) (bs', ps') ∧ Ev (fun k => impl_tell.l0 k l (l.length : Int) (pre.length : Int) bs (F ++ [s])) (bs', ps') := by
  intro suf
  induction suf with
  | nil =>
    intro pre he q bs F s _ hF h1 h2
    have hlen : l.length = pre.length := by rw [he]; simp
    simp only [src] at h1 ⊢
    simp only [tgt] at h2
    refine ⟨bs, F ++ [s], by simp [hF], by omega, by omega, by simp only [tgt]; omega, Ev_succ ?_, Ev_succ ?_⟩
    · simp only [spec_l1Open.l0]; exact Ev_f (by omega) (Ev.now _)
    · simp only [impl_tell.l0]; exact Ev_f (by omega) (Ev.now _)
  | cons p suf ih =>
    intro pre he q bs F s hok hF h1 h2
    obtain ⟨g1, _, g3⟩ := okk_cons hok
    obtain ⟨k0, k1, _⟩ := kd_pos g1
    obtain ⟨n0, n1, _⟩ := okk_nonneg _ _ g3
    simp only [src] at h1 ⊢
    simp only [tgt] at h2
    have hlen : l.length = pre.length + (suf.length + 1) := by rw [he]; simp
    have hrd : rd_T74 l (pre.length : Int) = p := by rw [he]; exact rd_mid pre p suf
    obtain ⟨n, hn⟩ : ∃ n : Nat, p.f0 + p.f1 = (n : Int) := ⟨(p.f0 + p.f1).toNat, by omega⟩
    have hs2 : szs (F ++ [s]) = szs F + s.size := by rw [szs_append]; simp [szs]
    have hss : (s ++ p.f2).size = s.size + p.f2.size := by rw [ByteArray.size_append]
    have e1 : wrap64 (p.f0 + p.f1) = (n : Int) := by rw [w64 (by omega) (by omega)]; exact hn
    obtain ⟨L1, L2, L3⟩ := last_rd F s (s ++ p.f2) (by omega)
    have hl1 := len_one pre p (by omega)
    -- the row behind this part ends in a last string again
    obtain ⟨F', s', hF', hl', hz'⟩ : ∃ (F' : List ByteArray) (s' : ByteArray), (F ++ [s ++ p.f2]) ++ List.replicate n (⟨#[]⟩ : ByteArray) = F' ++ [s'] ∧ F'.length = F.length + n ∧ szs (F' ++ [s']) = szs F + s.size + p.f2.size := by
      have hz : szs ((F ++ [s ++ p.f2]) ++ List.replicate n (⟨#[]⟩ : ByteArray)) = szs F + s.size + p.f2.size := by
        rw [szs_append, szs_append, szs_rep]; simp only [szs, hss]; omega
      rcases Nat.eq_zero_or_pos n with h0 | h0
      · subst h0
        exact ⟨F, s ++ p.f2, by simp, by omega, by simpa using hz⟩
      · obtain ⟨m, rfl⟩ : ∃ m, n = m + 1 := ⟨n - 1, by omega⟩
        refine ⟨(F ++ [s ++ p.f2]) ++ List.replicate m (⟨#[]⟩ : ByteArray), ⟨#[]⟩, ?_, by simp only [List.length_append, List.length_replicate, List.length_singleton]; omega, ?_⟩
        · rw [List.replicate_succ', ← List.append_assoc]
        · rw [List.replicate_succ', ← List.append_assoc] at hz; exact hz
    obtain ⟨bs', ps', w1, w2, w3, w4, u, v⟩ := ih (pre ++ [p]) (by rw [he]; simp) (kd p) (bs ++ List.replicate n (decide (p.f0 > 0))) F' s' g3 (by simp; omega) (by simp; omega) (by rw [hz']; omega)
    rw [← hF'] at u v
    have hc : (cnt (bs ++ List.replicate n (decide (p.f0 > 0))) : Int) = (cnt bs : Int) + p.f0 := by
      rw [cnt_append, cnt_rep]
      simp only [decide_eq_true_eq]
      split
      · rcases (kd_pos g1).2.2 with h | h | h <;> omega
      · omega
    refine ⟨bs', ps', w1, by rw [w2]; simp; omega, w3, by simp only [tgt]; omega, Ev_succ ?_, Ev_succ ?_⟩
    · simp only [spec_l1Open.l0, hrd, L1, L2, L3]
      refine Ev_t (by omega) (Ev_t (by omega) (Ev_t (by omega) (Ev_t (by omega) (Ev_t (by simp; try omega) (Ev_t (by omega) ?_)))))
      refine open_inner l pre.length p.f0 p.f1 p.f2 n (by omega) e1 _ n 0 _ _ (by omega) (by omega) (by simp; omega) ?_
      rw [hl1]; exact u
    · simp only [impl_tell.l0, hrd, L1, L2, L3, e1]
      refine Ev_t (by omega) (Ev_t (by omega) (Ev_t (by omega) (Ev_t (by omega) (Ev_t (by simp; try omega) (Ev_t (by omega) ?_)))))
      refine tell_inner l pre.length p.f0 p.f1 p.f2 n (by omega) _ n 0 _ _ (by omega) (by omega) (by simp; omega) ?_
      rw [hl1]; exact v
theorem same_tell (l : List S74) (hl : l.length ≤ 1048576) (hg : goodB l = true) : ∃ (bs : List Bool) (ps : List ByteArray), ps.length = bs.length + 1 ∧ (bs.length : Int) = src l ∧ szs ps ≤ 120 ∧ (szs ps : Int) + (cnt bs : Int) = tgt l ∧ Ev (fun k => spec_l1Open.f k l) (bs, ps) ∧ Ev (fun k => impl_tell.f k l) (bs, ps) := by
  obtain ⟨g1, g2, g3, g4, g5, g6⟩ := goodB_ok hg
  obtain ⟨bs, ps, w1, w2, w3, w4, u, v⟩ := tell_loop l hl l [] rfl 0 [] [] (⟨#[]⟩ : ByteArray) g1 rfl (by simp; omega) (by simp only [List.nil_append, szs]; show ((0 + 0 : Nat) : Int) + tgt l ≤ 120; omega)
  refine ⟨bs, ps, w1, by simpa using w2, w3, by rw [w4]; show (((0 + 0 : Nat) : Int) + ((0 : Nat) : Int)) + tgt l = tgt l; omega, ?_, ?_⟩
  · simp only [spec_l1Open.f]; exact u
  · simp only [impl_tell.f]; exact v

theorem szs_mem : ∀ (l : List ByteArray) (s : ByteArray), s ∈ l → s.size ≤ szs l
  | [], s, h => by simp at h
  | q :: l, s, h => by
    simp only [szs]
    rcases List.mem_cons.1 h with rfl | h
    · omega
    · have := szs_mem l s h; omega

def lastK (q : Int) : List S74 → Int
  | [] => q
  | p :: c => lastK (kd p) c
theorem lastK_snoc : ∀ (l : List S74) (q : Int) (p : S74), lastK q (l ++ [p]) = kd p := by
  intro l
  induction l with
  | nil => intro q p; rfl
  | cons x l ih => intro q p; exact ih (kd x) p
theorem okk_snoc : ∀ (l : List S74) (q : Int) (p : S74), okk q (l ++ [p]) = true ↔ (okk q l = true ∧ kd p ≠ 0 ∧ kd p ≠ lastK q l) := by
  intro l
  induction l with
  | nil =>
    intro q p
    simp only [List.nil_append, okk, lastK, Bool.and_eq_true, decide_eq_true_eq]
    exact ⟨fun h => ⟨trivial, h.1.1, h.1.2⟩, fun h => ⟨⟨h.2.1, h.2.2⟩, trivial⟩⟩
  | cons x l ih => intro q p; simp only [List.cons_append, okk, lastK, Bool.and_eq_true, decide_eq_true_eq, ih, and_assoc]
theorem src_append : ∀ (a b : List S74), src (a ++ b) = src a + src b := by
  intro a
  induction a with
  | nil => intro b; simp [src]
  | cons p a ih => intro b; simp only [List.cons_append, src, ih]; omega
theorem tgt_append : ∀ (a b : List S74), tgt (a ++ b) = tgt a + tgt b := by
  intro a
  induction a with
  | nil => intro b; simp [tgt]
  | cons p a ih => intro b; simp only [List.cons_append, tgt, ih]; omega
theorem kd_join {q p : S74} (h : kd q = kd p) (hp : kd p ≠ 0) (b0 : q.f0 ≤ 1000000) (b1 : q.f1 ≤ 1000000) (c0 : p.f0 ≤ 1) (c1 : p.f1 ≤ 1) : kd (join q p) = kd q ∧ (join q p).f0 = q.f0 + p.f0 ∧ (join q p).f1 = q.f1 + p.f1 ∧ (join q p).f2.size = q.f2.size + p.f2.size := by
  obtain ⟨k0, k1, k2⟩ := kd_pos (p := q) (by rw [h]; exact hp)
  obtain ⟨l0, l1, l2⟩ := kd_pos hp
  have e0 : (join q p).f0 = q.f0 + p.f0 := by show wrap64 (q.f0 + p.f0) = _; exact w64 (by omega) (by omega)
  have e1 : (join q p).f1 = q.f1 + p.f1 := by show wrap64 (q.f1 + p.f1) = _; exact w64 (by omega) (by omega)
  have e2 : (join q p).f2.size = q.f2.size + p.f2.size := ByteArray.size_append
  refine ⟨?_, e0, e1, e2⟩
  have key : kd (join q p) = kd3 (q.f0 + p.f0) (q.f1 + p.f1) (join q p).f2 := by
    show kd3 (join q p).f0 (join q p).f1 (join q p).f2 = _; rw [e0, e1]
  rw [key]
  simp only [kd3, list_size0, e2]
  rcases k2 with ⟨k, a, b, c⟩ | ⟨k, a, b, c⟩ | ⟨k, a, b, c⟩
  · rcases l2 with ⟨l, d, e, f⟩ | ⟨l, d, e, f⟩ | ⟨l, d, e, f⟩
    · rw [if_pos (by omega), k]
    · exact absurd (h.symm.trans k) (by rw [l]; decide)
    · exact absurd (h.symm.trans k) (by rw [l]; decide)
  · rcases l2 with ⟨l, d, e, f⟩ | ⟨l, d, e, f⟩ | ⟨l, d, e, f⟩
    · exact absurd (h.symm.trans k) (by rw [l]; decide)
    · rw [if_neg (by omega), if_pos (by omega), k]
    · exact absurd (h.symm.trans k) (by rw [l]; decide)
  · rcases l2 with ⟨l, d, e, f⟩ | ⟨l, d, e, f⟩ | ⟨l, d, e, f⟩
    · exact absurd (h.symm.trans k) (by rw [l]; decide)
    · exact absurd (h.symm.trans k) (by rw [l]; decide)
    · rw [if_neg (by omega), if_neg (by omega), if_pos (by omega), k]
theorem addM_good (o : List S74) (p : S74) (ho : okk 0 o = true) (hs : src o ≤ 1000000) (hp : isZ p = true ∨ kd p ≠ 0) (c0 : p.f0 ≤ 1) (c1 : p.f1 ≤ 1) :
    okk 0 (addM o p) = true ∧ src (addM o p) = src o + p.f0 + p.f1 ∧ tgt (addM o p) = tgt o + p.f0 + (p.f2.size : Int) := by
  by_cases hz : isZ p = true
  · have e : addM o p = o := by unfold addM; rw [if_pos hz]
    simp only [isZ, Bool.and_eq_true, beq_iff_eq, list_size0] at hz
    rw [e]
    exact ⟨ho, by omega, by omega⟩
  · have hk := hp.resolve_left hz
    rcases List.eq_nil_or_concat o with rfl | ⟨pre, q, rfl⟩
    · rw [addM_nil, if_neg hz]
      refine ⟨?_, by simp only [src]; omega, by simp only [tgt]; omega⟩
      simp only [okk, Bool.and_true, Bool.and_eq_true, decide_eq_true_eq]; exact ⟨hk, hk⟩
    · rw [List.concat_eq_append] at ho hs ⊢
      rw [addM_snoc, if_neg hz]
      rw [okk_snoc] at ho
      obtain ⟨h1, h2, h3⟩ := ho
      obtain ⟨n0, n1, n2⟩ := okk_nonneg pre 0 h1
      obtain ⟨k0, k1, _⟩ := kd_pos h2
      simp only [src_append, src] at hs
      by_cases hq : kd q = kd p
      · rw [if_pos hq]
        obtain ⟨j0, j1, j2, j3⟩ := kd_join hq hk (by omega) (by omega) c0 c1
        rw [okk_snoc]
        simp only [src_append, tgt_append, src, tgt, j1, j2, j3]
        rw [j0]
        exact ⟨⟨h1, h2, h3⟩, by omega, by omega⟩
      · rw [if_neg hq, okk_snoc, okk_snoc, lastK_snoc]
        simp only [src_append, tgt_append, src, tgt]
        exact ⟨⟨⟨h1, h2, h3⟩, hk, fun e => hq e.symm⟩, by omega, by omega⟩
theorem kd_text {s : ByteArray} : isZ (⟨0, 0, s⟩ : S74) = true ∨ kd (⟨0, 0, s⟩ : S74) ≠ 0 := by
  by_cases h : s.toList = ([] : List UInt8)
  · left; simp [isZ, h]
  · right; unfold kd kd3; simp [h]
theorem take1_szs (ps : List ByteArray) (i : Nat) (h : i < ps.length) : szs (ps.take (i + 1)) = szs (ps.take i) + (rdOf ByteArray.empty ps (i : Int)).size := by
  rw [take_getD_succ ps i ByteArray.empty h, szs_append]; simp only [szs, rdOf, Int.toNat_natCast]; omega
theorem take1_cnt (bs : List Bool) (i : Nat) (h : i < bs.length) : cnt (bs.take (i + 1)) = cnt (bs.take i) + cnt [rdOf false bs (i : Int)] := by
  rw [take_getD_succ bs i false h, cnt_append]; simp only [rdOf, Int.toNat_natCast]
theorem cnt_t : cnt [true] = 1 := rfl
theorem cnt_f : cnt [false] = 0 := rfl
theorem addSkip (o : List S74) (s : ByteArray) (hl : o.length ≤ 100000) (ht : tot o ≤ 100000000) (hs : s.size ≤ 100000000) (hg : okk 0 o = true) (hr : src o ≤ 1000000) : ∃ o1 : List S74, o1.length ≤ o.length + 1 ∧ tot o1 ≤ tot o + s.size ∧ Ev (fun k => spec_l1Add.f k o 0 0 s) o1 ∧ Ev (fun k => impl_builder_add.f k o 0 0 s) o1 ∧ (s.toList = ([] : List UInt8) → o1 = o) ∧ okk 0 o1 = true ∧ src o1 = src o ∧ tgt o1 = tgt o + (s.size : Int) := by
  obtain ⟨g1, g2, g3⟩ := addM_good o ⟨0, 0, s⟩ hg hr kd_text (show (0 : Int) ≤ 1 by decide) (show (0 : Int) ≤ 1 by decide)
  refine ⟨addM o ⟨0, 0, s⟩, (addM_tot o ⟨0, 0, s⟩).2, (addM_tot o ⟨0, 0, s⟩).1, specAdd_ev o ⟨0, 0, s⟩ (by omega) (by show tot o + s.size ≤ 4000000000000; omega), implAdd_ev o ⟨0, 0, s⟩ (by omega) (by show tot o + s.size ≤ 4000000000000; omega), fun h => ?_, g1, by rw [g2]; show src o + 0 + 0 = src o; omega, by rw [g3]; show tgt o + 0 + (s.size : Int) = _; omega⟩
  unfold addM
  rw [if_pos (by simp [isZ, h])]
theorem addOne (o : List S74) (a b : Int) (hl : o.length ≤ 100000) (ht : tot o ≤ 100000000) (hg : okk 0 o = true) (hr : src o ≤ 1000000) (hab : (a = 1 ∧ b = 0) ∨ (a = 0 ∧ b = 1)) : ∃ o1 : List S74, o1.length ≤ o.length + 1 ∧ tot o1 ≤ tot o ∧ Ev (fun k => spec_l1Add.f k o a b (⟨#[]⟩ : ByteArray)) o1 ∧ Ev (fun k => impl_builder_add.f k o a b (⟨#[]⟩ : ByteArray)) o1 ∧ okk 0 o1 = true ∧ src o1 = src o + 1 ∧ tgt o1 = tgt o + a := by
  have e5 : ((⟨#[]⟩ : ByteArray)).size = 0 := rfl
  have hk : kd (⟨a, b, (⟨#[]⟩ : ByteArray)⟩ : S74) ≠ 0 := by
    unfold kd kd3
    rcases hab with ⟨rfl, rfl⟩ | ⟨rfl, rfl⟩
    · simp only [list_size0, e5]; decide
    · simp only [list_size0, e5]; decide
  obtain ⟨g1, g2, g3⟩ := addM_good o ⟨a, b, (⟨#[]⟩ : ByteArray)⟩ hg hr (Or.inr hk) (by show a ≤ 1; omega) (by show b ≤ 1; omega)
  exact ⟨addM o ⟨a, b, ⟨#[]⟩⟩, (addM_tot o ⟨a, b, ⟨#[]⟩⟩).2, by have := (addM_tot o ⟨a, b, (⟨#[]⟩ : ByteArray)⟩).1; simpa [e5] using this, specAdd_ev o ⟨a, b, ⟨#[]⟩⟩ (by omega) (by show tot o + ((⟨#[]⟩ : ByteArray)).size ≤ 4000000000000; omega), implAdd_ev o ⟨a, b, ⟨#[]⟩⟩ (by omega) (by show tot o + ((⟨#[]⟩ : ByteArray)).size ≤ 4000000000000; omega), g1, by rw [g2]; show src o + a + b = _; omega, by rw [g3]; show tgt o + a + (((⟨#[]⟩ : ByteArray)).size : Int) = _; rw [e5]; omega⟩
theorem close_loop (bs : List Bool) (ps : List ByteArray) (h1 : ps.length = bs.length + 1) (hn : bs.length ≤ 120) (hs : ∀ s ∈ ps, s.size ≤ 15000) :
    ∀ (m i : Nat) (out : List S74), i + m = ps.length → out.length ≤ 2 * i → tot out ≤ 15000 * i → okk 0 out = true → (i ≤ bs.length → src out = (i : Int)) → (i = bs.length + 1 → src out = (bs.length : Int)) → tgt out = (szs (ps.take i) : Int) + (cnt (bs.take i) : Int) →
    ∃ R : List S74, R.length ≤ 1000 ∧ okk 0 R = true ∧ src R = (bs.length : Int) ∧ tgt R = (szs ps : Int) + (cnt bs : Int) ∧ Ev (fun k => spec_l1Close.l0 k out ps (ps.length : Int) (i : Int) bs ps) R ∧ Ev (fun k => impl_told_parts.l0 k ps (ps.length : Int) (i : Int) bs ps out) R := by
  intro m
  induction m with
  | zero =>
    intro i out hi ho ht hok hs1 hs2 htg
    have e1 : ps.take i = ps := List.take_of_length_le (by omega)
    have e2 : bs.take i = bs := List.take_of_length_le (by omega)
    rw [e1, e2] at htg
    refine ⟨out, by omega, hok, hs2 (by omega), htg, Ev_succ ?_, Ev_succ ?_⟩
    · simp only [spec_l1Close.l0]; exact Ev_f (by omega) (Ev.now _)
    · simp only [impl_told_parts.l0]; exact Ev_f (by omega) (Ev.now _)
  | succ m ih =>
    intro i out hi ho ht hok hs1 hs2 htg
    have hsr := hs1 (by omega)
    clear hs1 hs2
    have tz := take1_szs ps i (by omega)
    have hss : (rdOf ByteArray.empty ps (i : Int)).size ≤ 15000 := by
      have := hs _ (getD_mem (xs := ps) (i := i) ByteArray.empty (by omega))
      simpa [rdOf] using this
    have hw : wrap64 ((i : Int) + 1) = ((i + 1 : Nat) : Int) := by rw [w64 (by omega) (by omega)]; omega
    generalize szs (ps.take i) = zA at tz htg
    have i0 : 0 ≤ (i : Int) := Int.natCast_nonneg i
    have i1 : (i : Int) < (ps.length : Int) := by omega
    obtain ⟨o1, d1, d2, d3, d4, d5, d6, d7, d8⟩ := addSkip out (rdOf ByteArray.empty ps (i : Int)) (by omega) (by omega) (by omega) hok (by omega)
    -- the impl's arm for an empty text
    have arm : ∀ R : List S74, Ev (fun k => impl_told_parts.j1 k (i : Int) ps (ps.length : Int) (i : Int) bs ps o1) R → Ev (fun k => impl_told_parts.l0 k ps (ps.length : Int) (i : Int) bs ps out) R := by
      intro R h
      refine Ev_succ ?_
      simp only [impl_told_parts.l0]
      refine Ev_t i1 (Ev_t i0 (Ev_t i1 (Ev_ite (fun c => ?_) (fun c => Ev.bind d4 h))))
      rw [← d5 c]; exact h
    by_cases c : i = bs.length
    · have tb : bs.take (i + 1) = bs.take i := by rw [List.take_of_length_le (by omega), List.take_of_length_le (by omega)]
      obtain ⟨R, a1, a2, a3, a4, u, v⟩ := ih (i + 1) o1 (by omega) (by omega) (by omega) d6 (by omega) (fun _ => by omega) (by rw [tb, tz, d8, htg]; omega)
      refine ⟨R, a1, a2, a3, a4, Ev_succ ?_, arm R (Ev_succ ?_)⟩
      · simp only [spec_l1Close.l0, hw]
        exact Ev_t i1 (Ev_t i0 (Ev_t i1 (Ev.bind d3 (Ev_f (by omega) u))))
      · simp only [impl_told_parts.j1, hw]
        exact Ev_t (by omega) v
    · have c1 : (i : Int) < (bs.length : Int) := by omega
      have tb := take1_cnt bs i (by omega)
      cases hb : rdOf false bs (i : Int) with
      | true =>
        rw [hb, cnt_t] at tb
        obtain ⟨o2, e1, e2, e3, e4, e6, e7, e8⟩ := addOne o1 1 0 (by omega) (by omega) d6 (by omega) (Or.inl ⟨rfl, rfl⟩)
        obtain ⟨R, a1, a2, a3, a4, u, v⟩ := ih (i + 1) o2 (by omega) (by omega) (by omega) e6 (fun _ => by omega) (fun _ => by omega) (by rw [tz, tb, e8, d8, htg]; omega)
        refine ⟨R, a1, a2, a3, a4, Ev_succ ?_, arm R (Ev_succ ?_)⟩
        · simp only [spec_l1Close.l0, hw, hb]
          exact Ev_t i1 (Ev_t i0 (Ev_t i1 (Ev.bind d3 (Ev_t c1 (Ev_t trivial (Ev.bind e3 u))))))
        · simp only [impl_told_parts.j1, hw, hb]
          exact Ev_f (by omega) (Ev_t i0 (Ev_t c1 (Ev_t trivial (Ev.bind e4 v))))
      | false =>
        rw [hb, cnt_f] at tb
        obtain ⟨o2, e1, e2, e3, e4, e6, e7, e8⟩ := addOne o1 0 1 (by omega) (by omega) d6 (by omega) (Or.inr ⟨rfl, rfl⟩)
        obtain ⟨R, a1, a2, a3, a4, u, v⟩ := ih (i + 1) o2 (by omega) (by omega) (by omega) e6 (fun _ => by omega) (fun _ => by omega) (by rw [tz, tb, e8, d8, htg]; omega)
        refine ⟨R, a1, a2, a3, a4, Ev_succ ?_, arm R (Ev_succ ?_)⟩
        · simp only [spec_l1Close.l0, hw, hb]
          exact Ev_t i1 (Ev_t i0 (Ev_t i1 (Ev.bind d3 (Ev_t c1 (Ev_f (by decide) (Ev.bind e3 u))))))
        · simp only [impl_told_parts.j1, hw, hb]
          exact Ev_f (by omega) (Ev_t i0 (Ev_t c1 (Ev_f (by decide) (Ev.bind e4 v))))
theorem close_both (bs : List Bool) (ps : List ByteArray) (h1 : ps.length = bs.length + 1) (hn : bs.length ≤ 120) (hs : ∀ s ∈ ps, s.size ≤ 15000) :
    ∃ R : List S74, R.length ≤ 1000 ∧ okk 0 R = true ∧ src R = (bs.length : Int) ∧ tgt R = (szs ps : Int) + (cnt bs : Int) ∧ Ev (fun k => spec_l1Close.f k bs ps) R ∧ Ev (fun k => impl_told_parts.f k bs ps) R := by
  obtain ⟨R, a, a2, a3, a4, u, v⟩ := close_loop bs ps h1 hn hs ps.length 0 [] (by omega) (by simp) (by simp [tot]) rfl (fun _ => rfl) (fun h => by omega) rfl
  exact ⟨R, a, a2, a3, a4, by simp only [spec_l1Close.f]; exact u, by simp only [impl_told_parts.f]; exact v⟩
theorem rdMid {α : Type} (d : α) (D : List α) (t : α) (E : List α) : rdOf d (D ++ t :: E) (D.length : Int) = t := by simp [rdOf]
theorem setMid {α : Type} (D : List α) (t u : α) (E : List α) : (D ++ t :: E).set ((D.length : Int)).toNat u = D ++ u :: E := by simp
def zz (bb : List Bool) (pb : List ByteArray) (at_ : Nat) : Nat := szs (pb.take (at_ + 1)) + cnt (bb.take at_)
theorem zz_succ (bb : List Bool) (pb : List ByteArray) (at_ : Nat) (h2 : pb.length = bb.length + 1) (h : at_ < bb.length) : zz bb pb (at_ + 1) = zz bb pb at_ + cnt [rdOf false bb (at_ : Int)] + (rdOf ByteArray.empty pb ((at_ + 1 : Nat) : Int)).size := by
  unfold zz
  rw [take1_szs pb (at_ + 1) (by omega), take1_cnt bb at_ h]; omega
theorem zz_end (bb : List Bool) (pb : List ByteArray) (h2 : pb.length = bb.length + 1) : zz bb pb bb.length = szs pb + cnt bb := by
  unfold zz
  rw [List.take_of_length_le (by omega), List.take_of_length_le (by omega)]
theorem zz_zero (bb : List Bool) (pb : List ByteArray) (h2 : pb.length = bb.length + 1) : zz bb pb 0 = (rdOf ByteArray.empty pb (0 : Int)).size := by
  have h := take1_szs pb 0 (by omega)
  unfold zz
  rw [h]; simp [szs, cnt]
theorem inner_loop (pa : List ByteArray) (ba bb : List Bool) (pb : List ByteArray) (n : Int) (h2 : pb.length = bb.length + 1) (hm : bb.length ≤ 120) (ht : ∀ s ∈ pb, s.size ≤ 120) (oS : List Bool) (D E : List ByteArray) (hD : D.length ≤ 200) (s : ByteArray) (hs : s.size ≤ 120) :
    ∀ (m j at_ : Nat) (text : ByteArray), j + m = s.size → at_ + m ≤ bb.length → text.size ≤ 120 + 121 * j →
    ∃ text' : ByteArray, text'.size ≤ 15000 ∧ text'.size + zz bb pb at_ = text.size + zz bb pb (at_ + m) ∧
      (∀ r, Ev (fun k => spec_l1Compose.l1 k ((at_ + m : Nat) : Int) (D.length : Int) s (s.size : Int) pa n (D.length : Int) ba pa bb pb oS (D ++ text' :: E)) r → Ev (fun k => spec_l1Compose.l1 k (at_ : Int) (D.length : Int) s (j : Int) pa n (D.length : Int) ba pa bb pb oS (D ++ text :: E)) r) ∧
      (∀ r, Ev (fun k => impl_compose.l1 k ((at_ + m : Nat) : Int) (D.length : Int) s text' pa n (D.length : Int) (s.size : Int) (s.size : Int) ba pa bb pb oS D) r → Ev (fun k => impl_compose.l1 k (at_ : Int) (D.length : Int) s text pa n (D.length : Int) (s.size : Int) (j : Int) ba pa bb pb oS D) r) := by
  intro m
  induction m with
  | zero =>
    intro j at_ text hj ha htx
    obtain rfl : j = s.size := by omega
    exact ⟨text, by omega, rfl, fun r h => h, fun r h => h⟩
  | succ m ih =>
    intro j at_ text hj ha htx
    have wa : wrap64 ((at_ : Int) + 1) = ((at_ + 1 : Nat) : Int) := by rw [w64 (by omega) (by omega)]; omega
    have wj : wrap64 ((j : Int) + 1) = ((j + 1 : Nat) : Int) := by rw [w64 (by omega) (by omega)]; omega
    have hp : (rdOf ByteArray.empty pb ((at_ + 1 : Nat) : Int)).size ≤ 120 := by
      have := ht _ (getD_mem (xs := pb) (i := at_ + 1) ByteArray.empty (by omega))
      simpa [rdOf] using this
    have hz := zz_succ bb pb at_ h2 (by omega)
    generalize hq : rdOf ByteArray.empty pb ((at_ + 1 : Nat) : Int) = q at hp hz
    have hx : (s.extract ((j : Int)).toNat (((j + 1 : Nat) : Int)).toNat).size = 1 := by
      rw [ByteArray.size_extract]; simp only [Int.toNat_natCast]; omega
    generalize hc : s.extract ((j : Int)).toNat (((j + 1 : Nat) : Int)).toNat = c1 at hx
    have j0 : (j : Int) < (s.size : Int) := by omega
    have a0 : 0 ≤ (at_ : Int) := by omega
    have a1 : (at_ : Int) < (bb.length : Int) := by omega
    have a2 : 0 ≤ ((at_ + 1 : Nat) : Int) := by omega
    have a3 : ((at_ + 1 : Nat) : Int) < (pb.length : Int) := by omega
    have g0 : 0 ≤ (D.length : Int) := by omega
    have gl : ∀ t : ByteArray, (D.length : Int) < ((D ++ t :: E).length : Int) := by intro t; simp only [List.length_append, List.length_cons]; omega
    have e0 : ((at_ + 1 + m : Nat) : Int) = ((at_ + (m + 1) : Nat) : Int) := by omega
    cases hb : rdOf false bb (at_ : Int) with
    | true =>
      rw [hb, cnt_t] at hz
      obtain ⟨text', z1, z2, u, v⟩ := ih (j + 1) (at_ + 1) ((text ++ c1) ++ q) (by omega) (by omega) (by simp only [ByteArray.size_append]; omega)
      rw [e0] at u v
      have ea : at_ + 1 + m = at_ + (m + 1) := by omega
      rw [ea] at z2
      simp only [ByteArray.size_append] at z2
      refine ⟨text', z1, by omega, fun r h => Ev_succ ?_, fun r h => Ev_succ ?_⟩
      · have h := u r h
        simp only [spec_l1Compose.l1, wa, wj, hb, rdMid, setMid, hq, hc, Option.bind_some]
        exact Ev_t j0 (Ev_t a0 (Ev_t a1 (Ev_t trivial (Ev_t g0 (Ev_t (gl _) (Ev_t (by omega) (Ev_t (by omega) (Ev_t (by omega) (Ev_t (by omega) (Ev_t a2 (Ev_t a3 (Ev_t (by simp only [ByteArray.size_append]; omega) h))))))))))))
      · have h := v r h
        simp only [impl_compose.l1, wa, wj, hb, hq, hc]
        exact Ev_t j0 (Ev_t a0 (Ev_t a1 (Ev_t trivial (Ev_t (by omega) (Ev_t (by omega) (Ev_t (by omega) (Ev_t (by omega) (Ev_t a2 (Ev_t a3 (Ev_t (by simp only [ByteArray.size_append]; omega) h))))))))))
    | false =>
      rw [hb, cnt_f] at hz
      obtain ⟨text', z1, z2, u, v⟩ := ih (j + 1) (at_ + 1) (text ++ q) (by omega) (by omega) (by simp only [ByteArray.size_append]; omega)
      rw [e0] at u v
      have ea : at_ + 1 + m = at_ + (m + 1) := by omega
      rw [ea] at z2
      simp only [ByteArray.size_append] at z2
      refine ⟨text', z1, by omega, fun r h => Ev_succ ?_, fun r h => Ev_succ ?_⟩
      · have h := u r h
        simp only [spec_l1Compose.l1, wa, wj, hb, rdMid, setMid, hq, hc, Option.bind_some]
        exact Ev_t j0 (Ev_t a0 (Ev_t a1 (Ev_f (by decide) (Ev_t g0 (Ev_t (gl _) (Ev_t a2 (Ev_t a3 (Ev_t (by omega) h))))))))
      · have h := v r h
        simp only [impl_compose.l1, wa, wj, hb, hq, hc]
        exact Ev_t j0 (Ev_t a0 (Ev_t a1 (Ev_f (by decide) (Ev_t a2 (Ev_t a3 (Ev_t (by omega) h))))))
theorem compose_loop (pa : List ByteArray) (ba bb : List Bool) (pb : List ByteArray) (h1 : pa.length = ba.length + 1) (hn : ba.length ≤ 120) (h2 : pb.length = bb.length + 1) (hm : bb.length ≤ 120) (hs : ∀ s ∈ pa, s.size ≤ 120) (ht : ∀ s ∈ pb, s.size ≤ 120) :
    ∀ (sB : List Bool) (sA : List ByteArray) (pB : List Bool) (pA : List ByteArray), ba = pB ++ sB → pa = pA ++ sA → sA.length = sB.length + 1 → ∀ (at_ : Nat) (oS : List Bool) (D : List ByteArray) (behind : ByteArray), D.length = pB.length → oS.length = pB.length → at_ + szs sA + cnt sB = bb.length → (∀ s ∈ D, s.size ≤ 15000) → behind.size ≤ 120 → szs D + cnt oS + behind.size = zz bb pb at_ →
    ∃ R : List S74, R.length ≤ 1000 ∧ okk 0 R = true ∧ src R = (ba.length : Int) ∧ tgt R = (szs pb : Int) + (cnt bb : Int) ∧ Ev (fun k => spec_l1Compose.l0 k (at_ : Int) pa (pa.length : Int) (D.length : Int) ba pa bb pb oS (D ++ behind :: List.replicate sB.length (⟨#[]⟩ : ByteArray))) R ∧ Ev (fun k => impl_compose.l0 k (at_ : Int) behind pa (pa.length : Int) (D.length : Int) ba pa bb pb oS D) R := by
  intro sB
  induction sB with
  | nil =>
    intro sA pB pA eb ea hl at_ oS D behind hD hO hat hDs hbe hzz
    obtain ⟨s, rfl⟩ : ∃ s, sA = [s] := by
      match sA, hl with
      | [s], _ => exact ⟨s, rfl⟩
    have lb : ba.length = pB.length := by rw [eb]; simp
    have la : pa.length = pA.length + 1 := by rw [ea]; simp
    have hrd : rdOf ByteArray.empty pa (D.length : Int) = s := by
      rw [ea, show D.length = pA.length by omega]; exact rdMid _ pA s []
    have hss : s.size ≤ 120 := hs s (by rw [ea]; simp)
    simp only [szs, cnt] at hat
    obtain ⟨t, z1, z2, u, v⟩ := inner_loop pa ba bb pb (pa.length : Int) h2 hm ht oS D (List.replicate 0 (⟨#[]⟩ : ByteArray)) (by omega) s hss s.size 0 at_ behind (by omega) (by omega) (by omega)
    obtain ⟨R, a, g2, g3, g4, cu, cv⟩ := close_both oS (D ++ [t]) (by simp; omega) (by omega) (by
      intro x hx
      rcases List.mem_append.1 hx with h | h
      · exact hDs x h
      · simp only [List.mem_singleton] at h; rw [h]; exact z1)
    have zE := zz_end bb pb h2
    have ez : at_ + s.size = bb.length := by omega
    rw [ez, zE] at z2
    have eD : szs (D ++ [t]) = szs D + t.size := by rw [szs_append]; simp only [szs]; omega
    refine ⟨R, a, g2, by omega, by rw [g4, eD]; omega, Ev_succ ?_, Ev_succ ?_⟩
    · simp only [spec_l1Compose.l0, hrd]
      refine Ev_t (by omega) (Ev_t (by omega) (Ev_t (by omega) (u R (Ev_succ ?_))))
      simp only [spec_l1Compose.l1]
      exact Ev_f (by omega) (Ev_t (by omega) (Ev.bind cu (Ev.now _)))
    · simp only [impl_compose.l0, hrd]
      refine Ev_t (by omega) (Ev_t (by omega) (Ev_t (by omega) (v R (Ev_succ ?_))))
      simp only [impl_compose.l1, Option.bind_some]
      exact Ev_f (by omega) (Ev_t (by omega) (Ev_t (by omega) (Ev.bind cv (Ev.now _))))
  | cons b sB ih =>
    intro sA pB pA eb ea hl at_ oS D behind hD hO hat hDs hbe hzz
    obtain ⟨s, sA', rfl⟩ : ∃ s sA', sA = s :: sA' := by
      match sA, hl with
      | s :: sA', _ => exact ⟨s, sA', rfl⟩
    simp only [List.length_cons] at hl
    have lb : ba.length = pB.length + (sB.length + 1) := by rw [eb]; simp
    have la : pa.length = pA.length + (sA'.length + 1) := by rw [ea]; simp
    have hrd : rdOf ByteArray.empty pa (D.length : Int) = s := by
      rw [ea, show D.length = pA.length by omega]; exact rdMid _ pA s sA'
    have hrb : rdOf false ba (D.length : Int) = b := by
      rw [eb, hD]; exact rdMid _ pB b sB
    have hss : s.size ≤ 120 := hs s (by rw [ea]; simp)
    simp only [szs, cnt] at hat
    obtain ⟨t, z1, z2, u, v⟩ := inner_loop pa ba bb pb (pa.length : Int) h2 hm ht oS D (List.replicate (sB.length + 1) (⟨#[]⟩ : ByteArray)) (by omega) s hss s.size 0 at_ behind (by omega) (by omega) (by omega)
    have hD' : ∀ x ∈ D ++ [t], x.size ≤ 15000 := by
      intro x hx
      rcases List.mem_append.1 hx with h | h
      · exact hDs x h
      · simp only [List.mem_singleton] at h; rw [h]; exact z1
    have wg : wrap64 ((D.length : Int) + 1) = ((D ++ [t]).length : Int) := by rw [w64 (by omega) (by omega)]; simp
    have dl : (D ++ [t]).length = D.length + 1 := by simp
    have eP : ∀ x : ByteArray, D ++ t :: x :: List.replicate sB.length (⟨#[]⟩ : ByteArray) = (D ++ [t]) ++ x :: List.replicate sB.length (⟨#[]⟩ : ByteArray) := by intro x; simp
    have eR : D ++ t :: List.replicate (sB.length + 1) (⟨#[]⟩ : ByteArray) = (D ++ [t]) ++ (⟨#[]⟩ : ByteArray) :: List.replicate sB.length (⟨#[]⟩ : ByteArray) := by rw [List.replicate_succ]; exact eP _
    have g0 : 0 ≤ (D.length : Int) := by omega
    have g1 : (D.length : Int) < (ba.length : Int) := by omega
    have g2 : (D.length : Int) < (pa.length : Int) := by omega
    have eD : szs (D ++ [t]) = szs D + t.size := by rw [szs_append]; simp only [szs]; omega
    cases b with
    | false =>
      simp only [Bool.false_eq_true, if_false] at hat
      obtain ⟨R, a, q2, q3, q4, cu, cv⟩ := ih sA' (pB ++ [false]) (pA ++ [s]) (by rw [eb]; simp) (by rw [ea]; simp) (by omega) (at_ + s.size) (oS ++ [false]) (D ++ [t]) (⟨#[]⟩ : ByteArray) (by simp [hD]) (by simp [hO]) (by omega) hD' (by decide) (by rw [eD, cnt_append, cnt_f]; show szs D + t.size + (cnt oS + 0) + 0 = _; omega)
      refine ⟨R, a, q2, q3, q4, Ev_succ ?_, Ev_succ ?_⟩
      · simp only [spec_l1Compose.l0, hrd]
        refine Ev_t g2 (Ev_t g0 (Ev_t g2 (u R (Ev_succ ?_))))
        simp only [spec_l1Compose.l1, hrb, wg, eR]
        exact Ev_f (by omega) (Ev_f (by omega) (Ev_t g0 (Ev_t g1 (Ev_f (by decide) (Ev_t (by omega) cu)))))
      · simp only [impl_compose.l0, hrd]
        refine Ev_t g2 (Ev_t g0 (Ev_t g2 (v R (Ev_succ ?_))))
        simp only [impl_compose.l1, hrb, wg, Option.bind_some]
        exact Ev_f (by omega) (Ev_t (by omega) (Ev_f (by omega) (Ev_t g0 (Ev_t g1 (Ev_f (by decide) (Ev_t (by omega) cv))))))
    | true =>
      simp only [if_true] at hat
      have wa : wrap64 (((at_ + s.size : Nat) : Int) + 1) = ((at_ + s.size + 1 : Nat) : Int) := by rw [w64 (by omega) (by omega)]; omega
      have hp : (rdOf ByteArray.empty pb ((at_ + s.size + 1 : Nat) : Int)).size ≤ 120 := by
        have := ht _ (getD_mem (xs := pb) (i := at_ + s.size + 1) ByteArray.empty (by omega))
        simp only [rdOf, Int.toNat_natCast]; exact this
      have hz := zz_succ bb pb (at_ + s.size) h2 (by omega)
      obtain ⟨R, a, q2, q3, q4, cu, cv⟩ := ih sA' (pB ++ [true]) (pA ++ [s]) (by rw [eb]; simp) (by rw [ea]; simp) (by omega) (at_ + s.size + 1) (oS ++ [rdOf false bb ((at_ + s.size : Nat) : Int)]) (D ++ [t]) (rdOf ByteArray.empty pb ((at_ + s.size + 1 : Nat) : Int)) (by simp [hD]) (by simp [hO]) (by omega) hD' hp (by rw [eD, cnt_append]; omega)
      have b0 : 0 ≤ ((at_ + s.size : Nat) : Int) := Int.natCast_nonneg _
      have b1 : ((at_ + s.size : Nat) : Int) < (bb.length : Int) := Int.ofNat_lt.2 (by omega)
      have b2 : 0 ≤ ((at_ + s.size + 1 : Nat) : Int) := Int.natCast_nonneg _
      have b3 : ((at_ + s.size + 1 : Nat) : Int) < (pb.length : Int) := Int.ofNat_lt.2 (by omega)
      refine ⟨R, a, q2, q3, q4, Ev_succ ?_, Ev_succ ?_⟩
      · simp only [spec_l1Compose.l0, hrd]
        refine Ev_t g2 (Ev_t g0 (Ev_t g2 (u R (Ev_succ ?_))))
        simp only [spec_l1Compose.l1, hrb, wg, wa, eR, setMid]
        exact Ev_f (by omega) (Ev_f (by omega) (Ev_t g0 (Ev_t g1 (Ev_t trivial (Ev_t b0 (Ev_t b1 (Ev_t (by omega) (Ev_t b2 (Ev_t b3 (Ev_t (by omega) (Ev_t (by simp only [List.length_append, List.length_cons]; omega) cu)))))))))))
      · simp only [impl_compose.l0, hrd]
        refine Ev_t g2 (Ev_t g0 (Ev_t g2 (v R (Ev_succ ?_))))
        simp only [impl_compose.l1, hrb, wg, wa, Option.bind_some]
        exact Ev_f (by omega) (Ev_t (by omega) (Ev_f (by omega) (Ev_t g0 (Ev_t g1 (Ev_t trivial (Ev_t b0 (Ev_t b1 (Ev_t (by omega) (Ev_t b2 (Ev_t b3 cv))))))))))
theorem same_compose (a b : List S74) (ha : a.length ≤ 1048576) (hb : b.length ≤ 1048576) (ga : goodB a = true) (gb : goodB b = true) (he : tgt a = src b) :
    ∃ R : List S74, R.length ≤ 1000 ∧ goodB R = true ∧ tgt R = tgt b ∧ Ev (fun k => spec_l1Compose.f k a b) R ∧ Ev (fun k => impl_compose.f k a b) R := by
  obtain ⟨ba, pa, w1, w2, w3, w4, u1, v1⟩ := same_tell a ha ga
  obtain ⟨bb, pb, y1, y2, y3, y4, u2, v2⟩ := same_tell b hb gb
  obtain ⟨_, g2, g2t, _⟩ := goodB_ok ga
  obtain ⟨_, g3, g3t, _⟩ := goodB_ok gb
  have hb0 : (rdOf ByteArray.empty pb (0 : Int)).size ≤ 120 := by
    have hm := getD_mem (xs := pb) (i := 0) ByteArray.empty (by omega)
    have := szs_mem pb _ hm
    simp only [rdOf, Int.toNat_zero]; omega
  obtain ⟨R, a1, a2, a3, a4, u, v⟩ := compose_loop pa ba bb pb w1 (by omega) y1 (by omega) (fun s hs => by have := szs_mem pa s hs; omega) (fun s hs => by have := szs_mem pb s hs; omega) ba pa [] [] rfl rfl w1 0 [] [] (rdOf ByteArray.empty pb (0 : Int)) rfl rfl (by omega) (by simp) hb0 (by rw [zz_zero bb pb y1]; simp only [szs, cnt]; omega)
  have e1 : (List.replicate ((pa.length : Int)).toNat (⟨#[]⟩ : ByteArray)).set ((0 : Int)).toNat (rdOf ByteArray.empty pb (0 : Int)) = rdOf ByteArray.empty pb (0 : Int) :: List.replicate ba.length (⟨#[]⟩ : ByteArray) := by
    rw [Int.toNat_natCast, w1, List.replicate_succ]; rfl
  have gR : goodB R = true := by
    simp only [goodB, a2, Bool.true_and, Bool.and_eq_true, decide_eq_true_eq]; omega
  refine ⟨R, a1, gR, by omega, ?_, ?_⟩
  · simp only [spec_l1Compose.f]
    refine Ev.bind u1 (Ev.bind u2 (Ev_t (by omega) (Ev_t (by simp only [Int.toNat_natCast]; omega) ?_)))
    simp only [Option.bind_some, e1]
    exact Ev_t (by omega) (Ev_t (by simp only [List.length_replicate, Int.toNat_natCast]; omega) u)
  · simp only [impl_compose.f]
    exact Ev.bind v1 (Ev.bind v2 (Ev_t (by simp only; omega) v))
abbrev CH := S100
theorem rd_CH (xs : List CH) (i : Nat) : rd_T100 xs (i : Int) = xs.getD i z100 := by simp [rd_T100]
theorem rd_CL (xs : List S98) (i : Nat) : rd_T98 xs (i : Int) = xs.getD i z98 := by simp [rd_T98]
def ic (p : S98) : CH := ⟨p.f0.map im⟩
def totP : List S98 → Nat
  | [] => 0
  | p :: l => p.f0.length + totP l
def totQ : List CH → Nat
  | [] => 0
  | p :: l => p.f0.length + totQ l
theorem totPQ : ∀ l : List S98, totQ (l.map ic) = totP l := by
  intro l
  induction l with
  | nil => rfl
  | cons p l ih => simp only [List.map_cons, totQ, totP, ih, ic, List.length_map]
theorem szPartS_len (l : List S73) (hw : l.length ≤ maxLen ∧ ∀ p ∈ l, p.f2.size ≤ maxLen) (n : Int) (hn : 0 ≤ n) (hn' : n ≤ 1048576) : ∃ r, Ev (fun k => laws_szPartS.f k l n) r ∧ r ≤ n ∧ (0 ≤ r → r + (l.length : Int) ≤ n ∧ l.length ≤ 1048576 ∧ ∀ p ∈ l, p.f2.size ≤ 1048576) := by
  have hl0 : (l.length : Int) ≤ 9223372036854775807 := by have := hw.1; simp only [maxLen] at this; omega
  have e : wrap64 (n - (l.length : Int)) = n - (l.length : Int) := w64 (by omega) (by omega)
  simp only [laws_szPartS.f, e]
  by_cases c : n - (l.length : Int) < 0
  · exact ⟨-1, Ev_t c (Ev.now _), by omega, fun h => by omega⟩
  · obtain ⟨r, h1, h2, h3⟩ := szPartS_loop l (fun p hp => by have := hw.2 p hp; simp only [maxLen] at this; exact this) (by omega) l.length 0 (n - (l.length : Int)) (by omega) (by omega) (by omega)
    refine ⟨r, Ev_f c h1, by omega, fun h => ⟨by omega, by omega, fun p hp => ?_⟩⟩
    obtain ⟨j, hj, rfl⟩ := List.mem_iff_getElem.1 hp
    have := h3 h j (by omega) hj
    simpa [List.getD, hj] using this
def okP (p : S98) : Prop := p.f0.length ≤ 1048576 ∧ ∀ q ∈ p.f0, q.f2.size ≤ 1048576
theorem szChange_ev (p : S98) (hw : p.f0.length ≤ maxLen ∧ ∀ q ∈ p.f0, q.f2.size ≤ maxLen) (n : Int) (hn : 0 ≤ n) (hn' : n ≤ 1048576) : ∃ r, Ev (fun k => laws_szChange.f k p.f0 n) r ∧ r ≤ n ∧ (0 ≤ r → r + (p.f0.length : Int) ≤ n ∧ okP p) := by
  obtain ⟨r, h1, h2, h3⟩ := szPartS_len p.f0 hw n hn hn'
  simp only [laws_szChange.f]
  by_cases c : r < 0
  · exact ⟨-1, Ev.bind h1 (Ev_t c (Ev.now _)), by omega, fun h => by omega⟩
  · exact ⟨r, Ev.bind h1 (Ev_f c (Ev.now _)), h2, fun h => ⟨(h3 h).1, (h3 h).2⟩⟩
theorem szChangeS_loop (l : List S98) (hw : ∀ p ∈ l, p.f0.length ≤ maxLen ∧ ∀ q ∈ p.f0, q.f2.size ≤ maxLen) (hl : l.length ≤ 1048576) : ∀ (m i : Nat) (x : Int), i + m = l.length → 0 ≤ x → x ≤ 1048576 →
    ∃ r, Ev (fun k => laws_szChangeS.l0 k l x (i : Int)) r ∧ r ≤ x ∧ (0 ≤ r → r + (totP (l.drop i) : Int) ≤ x ∧ ∀ p ∈ l.drop i, okP p) := by
  intro m
  induction m with
  | zero =>
    intro i x hi h0 h1
    have hd : l.drop i = [] := List.drop_of_length_le (by omega)
    refine ⟨x, Ev_succ ?_, by omega, fun _ => ?_⟩
    · simp only [laws_szChangeS.l0]; exact Ev_f (by omega) (Ev.now _)
    · rw [hd]; exact ⟨by simp [totP], by simp⟩
  | succ m ih =>
    intro i x hi h0 h1
    have hd := drop_cons l i z98 (by omega)
    obtain ⟨r0, e, e1, e2⟩ := szChange_ev _ (hw _ (getD_mem (xs := l) (i := i) z98 (by omega))) x h0 h1
    by_cases c : r0 < 0
    · refine ⟨-1, Ev_succ ?_, by omega, fun h => by omega⟩
      simp only [laws_szChangeS.l0, rd_CL]
      exact Ev_t (by omega) (Ev_t (by omega) (Ev.bind e (Ev_t c (Ev.now _))))
    · obtain ⟨r, h2, h3, h4⟩ := ih (i + 1) r0 (by omega) (by omega) (by omega)
      refine ⟨r, Ev_succ ?_, by omega, fun h => ?_⟩
      · simp only [laws_szChangeS.l0, rd_CL]
        rw [w64_succ (show i < l.length by omega) (by omega)]
        exact Ev_t (by omega) (Ev_t (by omega) (Ev.bind e (Ev_f c h2)))
      · obtain ⟨a1, a2⟩ := e2 (by omega)
        obtain ⟨b1, b2⟩ := h4 h
        rw [hd]
        refine ⟨by simp only [totP]; omega, fun p hp => ?_⟩
        rcases List.mem_cons.1 hp with rfl | hp
        · exact a2
        · exact b2 p hp
theorem szChangeS_ev (l : List S98) (hw : l.length ≤ maxLen ∧ ∀ p ∈ l, p.f0.length ≤ maxLen ∧ ∀ q ∈ p.f0, q.f2.size ≤ maxLen) : ∃ r, Ev (fun k => laws_szChangeS.f k l 1048576) r ∧ (0 ≤ r → l.length ≤ 1048576 ∧ totP l ≤ 1048576 ∧ ∀ p ∈ l, okP p) := by
  have hl0 : (l.length : Int) ≤ 9223372036854775807 := by have := hw.1; simp only [maxLen] at this; omega
  have e : wrap64 (1048576 - (l.length : Int)) = 1048576 - (l.length : Int) := w64 (by omega) (by omega)
  simp only [laws_szChangeS.f, e]
  by_cases c : 1048576 - (l.length : Int) < 0
  · exact ⟨-1, Ev_t c (Ev.now _), fun h => by omega⟩
  · obtain ⟨r, h1, h2, h3⟩ := szChangeS_loop l hw.2 (by omega) l.length 0 (1048576 - (l.length : Int)) (by omega) (by omega) (by omega)
    rw [List.drop_zero] at h3
    exact ⟨r, Ev_f c h1, fun h => ⟨by omega, by have := (h3 h).1; omega, (h3 h).2⟩⟩
theorem toChangeS_ev (l : List S98) (hl : l.length ≤ 1048576) (hz : ∀ p ∈ l, okP p) : Ev (fun k => laws_toChangeS.f k l) (l.map ic) := by
  have h := fill_ev (g := fun k x i => laws_toChangeS.l0 k l x i) l z98 ic
    (fun x i hx hi hr => Ev_succ (by
      simp only [laws_toChangeS.l0, laws_toChange.f, rd_CL]
      refine Ev_t (by omega) (Ev_t (by omega) (Ev.bind (a := (l.getD i z98).f0.map im) (Ev.bind (toPartS_ev _ (hz _ (getD_mem z98 hi)).1) (Ev.now _)) (Ev_t (by omega) ?_)))
      rw [w64_succ hi (by omega)]
      simpa [ic] using hr))
    (fun x hx => Ev_succ (by simp only [laws_toChangeS.l0]; exact Ev_f (by omega) (Ev.now _)))
    (List.replicate l.length z100) (by simp)
  refine Ev.congr (fun k => ?_) h
  simp only [laws_toChangeS.f]
  rw [if_pos (by omega), if_pos (by simp; omega)]
  simp
theorem eqChangeS_ev (l : List CH) (hl : l.length ≤ 1048576) (hz : ∀ p ∈ l, p.f0.length ≤ 1048576) : Ev (fun k => laws_eqChangeS.f k l l) true := by
  have h := all_ev (g := fun k i => laws_eqChangeS.l0 k l l i) (r := true) l.length
    (fun i hi hr => Ev_succ (by
      simp only [laws_eqChangeS.l0, laws_eqChange.f, rd_CH]
      refine Ev_t (by omega) (Ev_t (by omega) (Ev_t (by omega) (Ev.bind (a := true) (Ev.bind (eqPartS_ev _ (by have := hz _ (getD_mem z100 hi); omega)) (Ev_t rfl (Ev.now _))) (Ev_t rfl ?_))))
      rw [w64_succ hi (by omega)]; exact hr))
    (Ev_succ (by simp only [laws_eqChangeS.l0]; exact Ev_f (by omega) (Ev.now _)))
  refine Ev.congr (fun k => ?_) h
  simp only [laws_eqChangeS.f]; rw [if_pos trivial]
theorem markChangeS_loop : ∀ (suf pre : List CH) (n0 : Int), 0 ≤ n0 → n0 + 3 * (totQ suf : Int) ≤ 1000000000000 → (∀ p ∈ suf, p.f0.length ≤ 1048576) → (pre ++ suf).length ≤ 1048576 →
    ∃ (q : Int) (l' : List CH), 0 ≤ q ∧ Ev (fun k => laws_markChangeS.l0 k (pre ++ suf) n0 (pre.length : Int)) (q, l') := by
  intro suf
  induction suf with
  | nil =>
    intro pre n0 h0 _ _ hl
    refine ⟨n0, pre ++ [], h0, Ev_succ ?_⟩
    simp only [laws_markChangeS.l0]
    exact Ev_f (by simp) (Ev.now _)
  | cons c suf ih =>
    intro pre n0 h0 h1 hz hl
    simp only [totQ] at h1
    have hc := hz c (by simp)
    obtain ⟨q0, l0, e, m, _⟩ := marks_Part c.f0 hc n0 h0 (by omega)
    have eL : pre ++ (⟨l0⟩ : CH) :: suf = (pre ++ [(⟨l0⟩ : CH)]) ++ suf := by simp
    simp only [List.length_append, List.length_cons] at hl
    obtain ⟨q, l', hq, h⟩ := ih (pre ++ [⟨l0⟩]) q0 (by omega) (by omega) (fun p hp => hz p (by simp [hp])) (by simp; omega)
    refine ⟨q, l', hq, Ev_succ ?_⟩
    have g : (pre ++ c :: suf).getD pre.length z100 = c := by simp [List.getD]
    have st : (pre ++ c :: suf).set pre.length (⟨l0⟩ : CH) = (pre ++ [(⟨l0⟩ : CH)]) ++ suf := by simp
    have wl : wrap64 ((pre.length : Int) + 1) = ((pre ++ [(⟨l0⟩ : CH)]).length : Int) := by rw [w64 (by omega) (by omega)]; simp
    simp only [laws_markChangeS.l0, Int.toNat_natCast, g, st, wl]
    exact Ev_t (by simp only [List.length_append, List.length_cons]; omega) (Ev_t (by omega) (Ev.bind m (by simp only [st, wl]; exact h)))
theorem markChangeS_ev (l : List CH) (hl : l.length ≤ 1048576) (ht : totQ l ≤ 1048576) (hz : ∀ p ∈ l, p.f0.length ≤ 1048576) : ∃ (q : Int) (l' : List CH), 0 ≤ q ∧ Ev (fun k => laws_markChangeS.f k l 1) (q, l') := by
  obtain ⟨q, l', h0, h⟩ := markChangeS_loop l [] 1 (by omega) (by omega) hz (by simpa using hl)
  exact ⟨q, l', h0, by simp only [laws_markChangeS.f]; exact h⟩
def okAll : Int → List CH → Bool
  | _, [] => true
  | n, c :: r => goodB c.f0 && (decide (src c.f0 = n) && okAll (tgt c.f0) r)
def okQ (p : CH) : Prop := p.f0.length ≤ 1048576 ∧ ∀ q ∈ p.f0, q.f2.size ≤ 1048576
theorem chained_ev (l : List CH) (hl : l.length ≤ 1048576) : ∀ (suf pre : List CH) (n : Int), l = pre ++ suf → (∀ p ∈ suf, okQ p) → Ev (fun k => impl_chained.l0 k n l (l.length : Int) (pre.length : Int)) (okAll n suf) := by
  intro suf
  induction suf with
  | nil =>
    intro pre n e _
    refine Ev_succ ?_
    simp only [impl_chained.l0]
    exact Ev_f (by rw [e]; simp) (Ev.now _)
  | cons c suf ih =>
    intro pre n e hz
    have hc := hz c (by simp)
    have hlen : l.length = pre.length + (suf.length + 1) := by rw [e]; simp
    have g : rd_T100 l (pre.length : Int) = c := by rw [rd_CH, e]; simp [List.getD]
    have I := ih (pre ++ [c]) (tgt c.f0) (by rw [e]; simp) (fun p hp => hz p (by simp [hp]))
    have wl : wrap64 ((pre.length : Int) + 1) = ((pre ++ [c]).length : Int) := by rw [w64 (by omega) (by omega)]; simp
    have L := implLengths_ev c.f0 hc.2 hc.1
    refine Ev_succ ?_
    simp only [impl_chained.l0, g, wl]
    refine Ev_t (by omega) (Ev_t (by omega) (Ev_t (by omega) (Ev.bind L ?_)))
    simp only [okAll]
    cases hg : goodB c.f0 with
    | false => simp only [lensG, hg, Bool.false_eq_true, if_false]; exact Ev_eq (Ev.now _) rfl
    | true =>
      simp only [lensG, hg, if_true, Bool.true_and]
      exact Ev_ite (fun h => Ev_eq I (by rw [decide_eq_true h, Bool.true_and])) (fun h => Ev_eq (Ev.now _) (by rw [decide_eq_false h, Bool.false_and]))
theorem tail_ev (l : List CH) (c0 : CH) (rest : List CH) (el : l = c0 :: rest) (hl : l.length ≤ 1048576) : ∀ (suf pre : List CH) (out : List S74), rest = pre ++ suf → (∀ p ∈ suf, okQ p) → out.length ≤ 1048576 → goodB out = true →
    (okAll (tgt out) suf = true → ∃ R : List S74, R.length ≤ 1048576 ∧ Ev (fun k => spec_ComposeAll.l0 k out l (l.length : Int) ((pre.length + 1 : Nat) : Int)) (R, true) ∧ Ev (fun k => impl_composed.l0 k out rest (rest.length : Int) (pre.length : Int)) R) ∧
    (okAll (tgt out) suf = false → Ev (fun k => spec_ComposeAll.l0 k out l (l.length : Int) ((pre.length + 1 : Nat) : Int)) ([], false)) := by
  intro suf
  induction suf with
  | nil =>
    intro pre out e _ ho hg
    refine ⟨fun _ => ⟨out, ho, Ev_succ ?_, Ev_succ ?_⟩, fun h => by simp [okAll] at h⟩
    · simp only [spec_ComposeAll.l0]
      exact Ev_f (by rw [el, e]; simp) (Ev.now _)
    · simp only [impl_composed.l0, Option.bind_some, List.nil_append, List.length_nil]
      exact Ev_f (by rw [e]; simp) (Ev_t (by omega) (Ev.now _))
  | cons c suf ih =>
    intro pre out e hz ho hg
    have hc := hz c (by simp)
    have hlen : rest.length = pre.length + (suf.length + 1) := by rw [e]; simp
    have hlen2 : l.length = rest.length + 1 := by rw [el]; simp
    have g1 : rd_T100 l ((pre.length + 1 : Nat) : Int) = c := by rw [rd_CH, el, e]; simp [List.getD]
    have g2 : rd_T100 rest (pre.length : Int) = c := by rw [rd_CH, e]; simp [List.getD]
    have wl1 : wrap64 (((pre.length + 1 : Nat) : Int) + 1) = (((pre ++ [c]).length + 1 : Nat) : Int) := by rw [w64 (by omega) (by omega)]; simp
    have wl2 : wrap64 ((pre.length : Int) + 1) = ((pre ++ [c]).length : Int) := by rw [w64 (by omega) (by omega)]; simp
    have bad : ∀ b : Bool, b = true → Ev (fun k => spec_ComposeAll.j1 k out ((pre.length + 1 : Nat) : Int) l (l.length : Int) ((pre.length + 1 : Nat) : Int) b c.f0) ([], false) := fun b hb => Ev_succ (by simp only [spec_ComposeAll.j1]; exact Ev_t hb (Ev.now _))
    have G := specGood_ev c.f0 hc.2 hc.1
    have T1 := l1Target_ev out ho hg
    simp only [okAll]
    cases hgc : goodB c.f0 with
    | false =>
      rw [hgc] at G
      refine ⟨fun h => by simp at h, fun _ => Ev_succ ?_⟩
      simp only [spec_ComposeAll.l0, g1]
      exact Ev_t (by omega) (Ev_t (by omega) (Ev_t (by omega) (Ev.bind G (Ev_f (by decide) (bad true rfl)))))
    | true =>
      rw [hgc] at G
      have S1 := l1Source_ev c.f0 hc.1 hgc
      by_cases h : src c.f0 = tgt out
      · obtain ⟨R0, a1, a2, a3, u, v⟩ := same_compose out c.f0 ho hc.1 hg hgc h.symm
        obtain ⟨I1, I2⟩ := ih (pre ++ [c]) R0 (by rw [e]; simp) (fun p hp => hz p (by simp [hp])) (by omega) a2
        rw [a3] at I1 I2
        have stepS : ∀ r, Ev (fun k => spec_ComposeAll.l0 k R0 l (l.length : Int) (((pre ++ [c]).length + 1 : Nat) : Int)) r → Ev (fun k => spec_ComposeAll.l0 k out l (l.length : Int) ((pre.length + 1 : Nat) : Int)) r := by
          intro r hr
          refine Ev_succ ?_
          simp only [spec_ComposeAll.l0, g1]
          refine Ev_t (by omega) (Ev_t (by omega) (Ev_t (by omega) (Ev.bind G (Ev_t rfl (Ev_t (by omega) (Ev.bind T1 (Ev.bind S1 (Ev_succ ?_))))))))
          simp only [spec_ComposeAll.j1, wl1]
          exact Ev_f (by simp [h]) (Ev_f (by omega) (Ev.bind u hr))
        rw [decide_eq_true h]
        simp only [Bool.true_and]
        refine ⟨fun hA => ?_, fun hA => stepS _ (I2 hA)⟩
        obtain ⟨R, r1, r2, r3⟩ := I1 hA
        refine ⟨R, r1, stepS _ r2, Ev_succ ?_⟩
        simp only [impl_composed.l0, g2, wl2]
        exact Ev_t (by omega) (Ev_t (by omega) (Ev_t (by omega) (Ev.bind v r3)))
      · rw [decide_eq_false h]
        refine ⟨fun hA => by simp at hA, fun _ => Ev_succ ?_⟩
        simp only [spec_ComposeAll.l0, g1]
        exact Ev_t (by omega) (Ev_t (by omega) (Ev_t (by omega) (Ev.bind G (Ev_t rfl (Ev_t (by omega) (Ev.bind T1 (Ev.bind S1 (bad _ (by simp only [bne_iff_ne]; exact fun e => h e.symm)))))))))
theorem same_All (l : List CH) (hl : l.length ≤ 1048576) (hz : ∀ p ∈ l, okQ p) : ∃ (R : List S74) (c : Bool), R.length ≤ 1048576 ∧ Ev (fun k => spec_ComposeAll.f k l) (R, c) ∧ Ev (fun k => impl_ComposeAll.f k l) (R, c) := by
  simp only [spec_ComposeAll.f, impl_ComposeAll.f, l1In_eq, within_eq, Option.bind_some, decide_eq_true_eq]
  by_cases c64 : (1 : Int) ≤ (l.length : Int) ∧ (l.length : Int) ≤ 64
  · cases l with
    | nil => simp at c64
    | cons c0 rest =>
      have hc := hz c0 (by simp)
      have hlen2 : (c0 :: rest).length = rest.length + 1 := by simp
      have g0 : rd_T100 (c0 :: rest) 0 = c0 := by simp [rd_T100]
      have G := specGood_ev c0.f0 hc.2 hc.1
      have L := implLengths_ev c0.f0 hc.2 hc.1
      have C := chained_ev (c0 :: rest) hl (c0 :: rest) [] (src c0.f0) rfl hz
      obtain ⟨T1, T2⟩ := tail_ev (c0 :: rest) c0 rest rfl hl rest [] c0.f0 rfl (fun p hp => hz p (by simp [hp])) hc.1
        |> fun f => (⟨fun hg h => (f hg).1 h, fun hg h => (f hg).2 h⟩ : (goodB c0.f0 = true → okAll (tgt c0.f0) rest = true → _) ∧ (goodB c0.f0 = true → okAll (tgt c0.f0) rest = false → _))
      cases hg : goodB c0.f0 with
      | false =>
        rw [hg] at G
        simp only [lensG, hg, Bool.false_eq_true, if_false] at L
        refine ⟨[], false, by simp, Ev_t c64 (Ev_succ ?_), Ev_t c64 (Ev_t (by omega) ?_)⟩
        · simp only [spec_ComposeAll.l0, g0]
          refine Ev_t (by omega) (Ev_t (by omega) (Ev_t (by omega) (Ev.bind G (Ev_f (by decide) (Ev_succ ?_)))))
          simp only [spec_ComposeAll.j1]
          exact Ev_t trivial (Ev.now _)
        · rw [g0]
          exact Ev.bind L (Ev_f (by simp) (Ev.now _))
      | true =>
        rw [hg] at G
        simp only [lensG, hg, if_true] at L
        simp only [okAll, hg, Bool.true_and, decide_true] at C
        have step0 : ∀ r, Ev (fun k => spec_ComposeAll.l0 k c0.f0 (c0 :: rest) ((c0 :: rest).length : Int) ((([] : List CH).length + 1 : Nat) : Int)) r → Ev (fun k => spec_ComposeAll.l0 k [] (c0 :: rest) ((c0 :: rest).length : Int) 0) r := by
          intro r hr
          have wl : wrap64 ((0 : Int) + 1) = ((([] : List CH).length + 1 : Nat) : Int) := by rw [w64 (by omega) (by omega)]; rfl
          refine Ev_succ ?_
          simp only [spec_ComposeAll.l0, g0]
          refine Ev_t (by omega) (Ev_t (by omega) (Ev_t (by omega) (Ev.bind G (Ev_t rfl (Ev_f (by omega) (Ev_succ ?_))))))
          simp only [spec_ComposeAll.j1, wl, List.nil_append, List.length_nil]
          exact Ev_f (by decide) (Ev_t trivial (Ev_t (by have := hc.1; omega) hr))
        cases hA : okAll (tgt c0.f0) rest with
        | false =>
          rw [hA] at C
          refine ⟨[], false, by simp, Ev_t c64 (step0 _ (T2 hg hA)), Ev_t c64 (Ev_t (by omega) ?_)⟩
          rw [g0]
          refine Ev.bind L (Ev_t rfl (Ev.bind (a := false) ?_ (Ev_f (by decide) (Ev.now _))))
          simp only [impl_chained.f]; exact C
        | true =>
          rw [hA] at C
          obtain ⟨R, r1, r2, r3⟩ := T1 hg hA
          refine ⟨R, true, r1, Ev_t c64 (step0 _ r2), Ev_t c64 (Ev_t (by omega) ?_)⟩
          rw [g0]
          refine Ev.bind L (Ev_t rfl (Ev.bind (a := true) ?_ (Ev_t rfl (Ev.bind (a := R) ?_ (Ev.now _)))))
          · simp only [impl_chained.f]; exact C
          · simp only [impl_composed.f, g0, Option.bind_some]
            exact Ev_t (by omega) (Ev_t (by omega) r3)
  · exact ⟨[], false, by simp, Ev_f c64 (Ev.now _), Ev_f c64 (Ev.now _)⟩
end OfFnExactComposeAll
open OfFnExactComposeAll
theorem FnExactComposeAll : Stated := by
  intro l wl
  refine Ev.rounds ?_
  simp only [laws_FnExactComposeAll.f]
  obtain ⟨r, h1, h3⟩ := szChangeS_ev l ⟨wl.1, fun p hp => ⟨(wl.2 p hp).1, fun q hq => ((wl.2 p hp).2 q hq).2.2⟩⟩
  refine Ev.bind h1 (Ev_ite (fun _ => Ev.now _) (fun c => ?_))
  obtain ⟨hl, ht, hz⟩ := h3 (by omega)
  have f1 := toChangeS_ev l hl hz
  have hl' : (l.map ic).length ≤ 1048576 := by simpa using hl
  have hz' : ∀ p ∈ l.map ic, okQ p := by
    intro p hp
    obtain ⟨q, hq, rfl⟩ := List.mem_map.1 hp
    exact ⟨by simp only [ic, List.length_map]; exact (hz q hq).1, im_wf (hz q hq).2⟩
  have ht' : totQ (l.map ic) ≤ 1048576 := by rw [totPQ]; exact ht
  generalize l.map ic = xs at f1 hl' hz' ht'
  obtain ⟨R, e, hR, g1, g2⟩ := same_All xs hl' hz'
  have q1 := eqChangeS_ev xs hl' (fun p hp => (hz' p hp).1)
  have q3 := eqPartS_ev R (by omega)
  obtain ⟨m1, l1, b1, k1⟩ := markChangeS_ev xs hl' ht' (fun p hp => (hz' p hp).1)
  obtain ⟨m3, l3, b4, k3, k4⟩ := marks_Part R hR 1 (by omega) (by omega)
  refine Ev.bind f1 (Ev.bind g1 (Ev.bind f1 (Ev.bind g2 (Ev.bind q3 (Ev_t rfl (Ev_succ ?_))))))
  simp only [laws_FnExactComposeAll.j0]
  refine Ev_f (by simp) (Ev.bind f1 (Ev.bind q1 (Ev_t rfl (Ev.bind k1 (Ev_f (by simp only; omega) (Ev.bind q3 (Ev_t rfl (Ev_succ ?_))))))))
  simp only [laws_FnExactComposeAll.j1]
  refine Ev_f (by simp) (Ev.bind k3 (Ev.bind k4 (Ev_f (by omega) (Ev_t rfl (Ev.bind f1 (Ev.bind g2 (Ev.bind q3 (Ev_t rfl (Ev_succ ?_)))))))))
  simp only [laws_FnExactComposeAll.j2]
  exact Ev_f (by simp) (Ev.bind k4 (Ev_f (by omega) (Ev_t rfl (Ev.now _))))
end Go.Proofs.Ytebmncdjlmnbnaa.Pure
