/-
The pure statement of FnExactTextAt: the printed functions of the program and of the reference answer alike for every argument within the bounds that the statement tells.
-/
import Derived.Test.YtdlicabmalljpaaWfFnExactTextAt
namespace Go.Proofs.Ytdlicabmalljpaa.Pure
open Go Go.RowKit Go.Proofs.Ytdlicabmalljpaa.PFnExactTextAt Go.Proofs.YtdlicabmalljpaaW.PrintWords Go.Proofs.YtdlicabmalljpaaW.PrintLast Go.Proofs.YtdlicabmalljpaaW.PrintMore Go.Proofs.Ytdlicabmalljpaa.Lib
set_option linter.unusedVariables false
set_option linter.unusedSimpArgs false
namespace OfFnExactTextAt
theorem list_size0 {s : ByteArray} : s.toList = [] ↔ s.size = 0 := by
  rw [ByteArray.toList_eq]
  constructor
  · intro h
    have : s.data.toList.length = 0 := by rw [h]; rfl
    simpa using this
  · intro h
    exact List.eq_nil_of_length_eq_zero (by simpa using h)
def kd3 (a b : Int) (s : ByteArray) : Int := if a > 0 ∧ b = 0 ∧ s.toList = [] then 1 else if b > 0 ∧ a = 0 ∧ s.toList = [] then 2 else if ¬ s.toList = [] ∧ a = 0 ∧ b = 0 then 3 else 0
def kd (p : S89) : Int := kd3 p.f0 p.f1 p.f2
def okk : Int → List S89 → Bool
  | _, [] => true
  | q, p :: c => (decide (kd p ≠ 0) && decide (kd p ≠ q)) && okk (kd p) c
def src : List S89 → Int
  | [] => 0
  | p :: c => p.f0 + p.f1 + src c
def tgt : List S89 → Int
  | [] => 0
  | p :: c => p.f0 + (p.f2.size : Int) + tgt c
def goodB (c : List S89) : Bool := okk 0 c && (decide (src c ≤ 120) && decide (tgt c ≤ 120))
theorem kd_pos {p : S89} (h : kd p ≠ 0) : 0 ≤ p.f0 ∧ 0 ≤ p.f1 ∧ ((kd p = 1 ∧ 0 < p.f0 ∧ p.f1 = 0 ∧ p.f2.size = 0) ∨ (kd p = 2 ∧ 0 < p.f1 ∧ p.f0 = 0 ∧ p.f2.size = 0) ∨ (kd p = 3 ∧ p.f0 = 0 ∧ p.f1 = 0 ∧ 0 < p.f2.size)) := by
  unfold kd kd3 at *
  simp only [list_size0] at *
  split at h
  · rename_i h1
    rw [if_pos h1]
    exact ⟨by omega, by omega, Or.inl ⟨rfl, h1.1, h1.2.1, h1.2.2⟩⟩
  · rename_i h1
    rw [if_neg h1]
    split at h
    · rename_i h2
      rw [if_pos h2]
      exact ⟨by omega, by omega, Or.inr (Or.inl ⟨rfl, h2.1, h2.2.1, h2.2.2⟩)⟩
    · rename_i h2
      rw [if_neg h2]
      split at h
      · rename_i h3
        rw [if_pos h3]
        exact ⟨by omega, by omega, Or.inr (Or.inr ⟨rfl, h3.2.1, h3.2.2, by omega⟩)⟩
      · exact absurd rfl h
theorem okk_cons {q : Int} {p : S89} {c : List S89} (h : okk q (p :: c) = true) : kd p ≠ 0 ∧ kd p ≠ q ∧ okk (kd p) c = true := by
  simp only [okk, Bool.and_eq_true, decide_eq_true_eq] at h
  exact ⟨h.1.1, h.1.2, h.2⟩
theorem okk_any {q : Int} {c : List S89} (h : okk q c = true) : okk 0 c = true := by
  cases c with
  | nil => rfl
  | cons p c => obtain ⟨h1, h2, h3⟩ := okk_cons h; simp only [okk, Bool.and_eq_true, decide_eq_true_eq]; exact ⟨⟨h1, h1⟩, h3⟩
theorem okk_nonneg : ∀ (c : List S89) (q : Int), okk q c = true → 0 ≤ src c ∧ 0 ≤ tgt c ∧ (c.length : Int) ≤ src c + tgt c := by
  intro c
  induction c with
  | nil => intro q _; simp [src, tgt]
  | cons p c ih =>
    intro q h
    obtain ⟨h1, _, h3⟩ := okk_cons h
    obtain ⟨g0, g1, g2⟩ := ih _ h3
    obtain ⟨k0, k1, k2⟩ := kd_pos h1
    simp only [src, tgt, List.length_cons]
    omega
theorem rd_mid (pre : List S89) (p : S89) (suf : List S89) : rd_T89 (pre ++ p :: suf) (pre.length : Int) = p := by simp [rd_T89]
theorem rd_prev (pre : List S89) (p : S89) (suf : List S89) (h : pre.length < 9000000000000000000) : rd_T89 (pre ++ p :: suf) (wrap64 (((pre ++ [p]).length : Int) - 1)) = p := by
  rw [w64 (by simp only [List.length_append, List.length_cons, List.length_nil]; omega) (by simp only [List.length_append, List.length_cons, List.length_nil]; omega)]
  simp [rd_T89]
theorem append_one (pre : List S89) (p : S89) (suf : List S89) : pre ++ p :: suf = (pre ++ [p]) ++ suf := by simp
theorem len_one (pre : List S89) (p : S89) (h : pre.length < 9000000000000000000) : wrap64 ((pre.length : Int) + 1) = ((pre ++ [p]).length : Int) := by
  rw [w64 (by omega) (by omega)]; simp

theorem l1Kind_j1 (x : Bool) (a b : Int) (s : ByteArray) : Ev (fun k => spec_l1Kind.j1 k x a b s) (if x = true then 2 else if ¬ s.toList = [] ∧ a = 0 ∧ b = 0 then 3 else 0) := by
  refine Ev_succ ?_
  simp only [spec_l1Kind.j1]
  refine ⟨0, fun k _ => ?_⟩
  by_cases h1 : x = true <;> by_cases h2 : a = 0 <;> by_cases h3 : b = 0 <;> by_cases h4 : s.toList = [] <;> simp [h1, h2, h3, h4]
theorem l1Kind_j0 (x : Bool) (a b : Int) (s : ByteArray) : Ev (fun k => spec_l1Kind.j0 k x a b s) (if x = true then 1 else if b > 0 ∧ a = 0 ∧ s.toList = [] then 2 else if ¬ s.toList = [] ∧ a = 0 ∧ b = 0 then 3 else 0) := by
  refine Ev_succ ?_
  simp only [spec_l1Kind.j0]
  refine Ev_ite (fun h1 => by rw [if_pos h1]; exact Ev.now _) (fun h1 => ?_)
  rw [if_neg h1]
  refine Ev_ite (fun h2 => Ev_ite (fun h3 => Ev_eq (l1Kind_j1 _ _ _ _) ?_) (fun h3 => Ev_eq (l1Kind_j1 _ _ _ _) ?_)) (fun h2 => Ev_eq (l1Kind_j1 _ _ _ _) ?_)
  · by_cases h4 : s.toList = [] <;> simp [h2, h3, h4]
  · simp [h3]
  · simp [h2]
theorem l1Kind_ev (a b : Int) (s : ByteArray) : Ev (fun k => spec_l1Kind.f k a b s) (kd3 a b s) := by
  simp only [spec_l1Kind.f, kd3]
  refine Ev_ite (fun h1 => Ev_ite (fun h2 => Ev_eq (l1Kind_j0 _ _ _ _) ?_) (fun h2 => Ev_eq (l1Kind_j0 _ _ _ _) ?_)) (fun h1 => Ev_eq (l1Kind_j0 _ _ _ _) ?_)
  · by_cases h4 : s.toList = [] <;> simp [h1, h2, h4]
  · simp [h2]
  · simp [h1]

theorem kind_j1 (x : Bool) (a b : Int) (s : ByteArray) : Ev (fun k => impl_Part_kind.j1 k x a b s) (if x = true then 2 else if ¬ s.toList = [] ∧ a = 0 ∧ b = 0 then 3 else 0) := by
  refine Ev_succ ?_
  simp only [impl_Part_kind.j1]
  refine ⟨0, fun k _ => ?_⟩
  by_cases h1 : x = true <;> by_cases h2 : a = 0 <;> by_cases h3 : b = 0 <;> by_cases h4 : s.toList = [] <;> simp [h1, h2, h3, h4]
theorem kind_j0 (x : Bool) (a b : Int) (s : ByteArray) : Ev (fun k => impl_Part_kind.j0 k x a b s) (if x = true then 1 else if b > 0 ∧ a = 0 ∧ s.toList = [] then 2 else if ¬ s.toList = [] ∧ a = 0 ∧ b = 0 then 3 else 0) := by
  refine Ev_succ ?_
  simp only [impl_Part_kind.j0]
  refine Ev_ite (fun h1 => by rw [if_pos h1]; exact Ev.now _) (fun h1 => ?_)
  rw [if_neg h1]
  refine Ev_ite (fun h3 => Ev_ite (fun h2 => Ev_eq (kind_j1 _ _ _ _) ?_) (fun h2 => Ev_eq (kind_j1 _ _ _ _) ?_)) (fun h3 => Ev_eq (kind_j1 _ _ _ _) ?_)
  · by_cases h4 : s.toList = [] <;> simp [h2, h3, h4]
  · simp [h2]
  · simp [h3]
theorem kind_ev (a b : Int) (s : ByteArray) : Ev (fun k => impl_Part_kind.f k a b s) (kd3 a b s) := by
  simp only [impl_Part_kind.f, kd3]
  refine Ev_ite (fun h1 => Ev_ite (fun h2 => Ev_eq (kind_j0 _ _ _ _) ?_) (fun h2 => Ev_eq (kind_j0 _ _ _ _) ?_)) (fun h1 => Ev_eq (kind_j0 _ _ _ _) ?_)
  · by_cases h4 : s.toList = [] <;> simp [h1, h2, h4]
  · simp [h2]
  · simp [h1]

theorem specGood_j (l : List S89) (i s t : Int) (b : Bool) (x y : Int) (z : ByteArray) (r : Bool) (hb : b = true → r = false)
    (h1 : b = false → wrap64 (s + wrap64 (x + y)) > 120 → r = false) (h2 : b = false → wrap64 (t + wrap64 (x + (z.size : Int))) > 120 → r = false)
    (h3 : b = false → ¬ wrap64 (s + wrap64 (x + y)) > 120 → ¬ wrap64 (t + wrap64 (x + (z.size : Int))) > 120 → Ev (fun k => spec_GoodChange.l0 k l (wrap64 (s + wrap64 (x + y))) (wrap64 (t + wrap64 (x + (z.size : Int)))) l (l.length : Int) (wrap64 (i + 1))) r) :
    Ev (fun k => spec_GoodChange.j1 k l s t l (l.length : Int) i b x y z) r := by
  refine Ev_succ ?_
  simp only [spec_GoodChange.j1]
  refine Ev_ite (fun h => Ev_eq (Ev.now _) (hb h).symm) (fun h => ?_)
  have hf : b = false := by simpa using h
  exact Ev_ite (fun h4 => Ev_eq (Ev.now _) (h1 hf h4).symm) (fun h4 => Ev_ite (fun h5 => Ev_eq (Ev.now _) (h2 hf h5).symm) (fun h5 => h3 hf h4 h5))
def goodFrom (q s t : Int) (c : List S89) : Bool := okk q c && (decide (s + src c ≤ 120) && decide (t + tgt c ≤ 120))
theorem goodFrom_false {q s t : Int} {p : S89} {c : List S89} (h : okk (kd p) c = true → ¬ (s + (p.f0 + p.f1 + src c) ≤ 120 ∧ t + (p.f0 + (p.f2.size : Int) + tgt c) ≤ 120)) : goodFrom q s t (p :: c) = false := by
  unfold goodFrom
  cases ho : okk q (p :: c) with
  | false => rfl
  | true =>
    obtain ⟨_, _, h3⟩ := okk_cons ho
    have := h h3
    simp only [src, tgt, Bool.true_and]
    by_cases h4 : s + (p.f0 + p.f1 + src c) ≤ 120 <;> by_cases h5 : t + (p.f0 + (p.f2.size : Int) + tgt c) ≤ 120 <;> simp [h4, h5]
    exact this ⟨h4, h5⟩
theorem specGood_loop (l : List S89) (hz : ∀ p ∈ l, p.f2.size ≤ 1048576) (hl : l.length ≤ 1048576) : ∀ (suf pre : List S89), l = pre ++ suf → ∀ q s t : Int, 0 ≤ s → s ≤ 120 → 0 ≤ t → t ≤ 120 → (pre = [] → q = 0) →
    (pre ≠ [] → kd (rd_T89 l (wrap64 ((pre.length : Int) - 1))) = q) → Ev (fun k => spec_GoodChange.l0 k l s t l (l.length : Int) (pre.length : Int)) (goodFrom q s t suf) := by
  intro suf
  induction suf with
  | nil =>
    intro pre he q s t s0 s1 t0 t1 hq hp
    refine Ev_succ ?_
    have hlen : l.length = pre.length := by rw [he]; simp
    simp only [spec_GoodChange.l0]
    refine Ev_f (by omega) (Ev_eq (Ev.now _) ?_)
    simp [goodFrom, okk, src, tgt, s1, t1]
  | cons p suf ih =>
    intro pre he q s t s0 s1 t0 t1 hq hp
    have hlen : l.length = pre.length + (suf.length + 1) := by rw [he]; simp
    have hmem : p ∈ l := by rw [he]; simp
    have hzp := hz p hmem
    have hrd : rd_T89 l (pre.length : Int) = p := by rw [he]; exact rd_mid pre p suf
    have hnext := ih (pre ++ [p]) (by rw [he]; simp) (kd p)
    have hj : ∀ b : Bool, (b = true → goodFrom q s t (p :: suf) = false) → (b = false → kd p ≠ 0 ∧ kd p ≠ q ∧ p.f0 ≤ 120 ∧ p.f1 ≤ 120 ∧ (p.f2.size : Int) ≤ 120) →
        Ev (fun k => spec_GoodChange.j1 k l s t l (l.length : Int) (pre.length : Int) b p.f0 p.f1 p.f2) (goodFrom q s t (p :: suf)) := by
      intro b hb1 hb2
      refine specGood_j l _ s t b _ _ _ _ hb1 ?_ ?_ ?_
      · intro hb h
        obtain ⟨h1, h2, h3, h4, h5⟩ := hb2 hb
        obtain ⟨k0, k1, _⟩ := kd_pos h1
        rw [w64 (n := p.f0 + p.f1) (by omega) (by omega), w64 (n := s + (p.f0 + p.f1)) (by omega) (by omega)] at h
        refine goodFrom_false (fun ho => ?_)
        have := okk_nonneg _ _ ho
        omega
      · intro hb h
        obtain ⟨h1, h2, h3, h4, h5⟩ := hb2 hb
        obtain ⟨k0, k1, _⟩ := kd_pos h1
        rw [w64 (n := p.f0 + (p.f2.size : Int)) (by omega) (by omega), w64 (n := t + (p.f0 + (p.f2.size : Int))) (by omega) (by omega)] at h
        refine goodFrom_false (fun ho => ?_)
        have := okk_nonneg _ _ ho
        omega
      · intro hb ha hc
        obtain ⟨h1, h2, h3, h4, h5⟩ := hb2 hb
        obtain ⟨k0, k1, _⟩ := kd_pos h1
        rw [w64 (n := p.f0 + p.f1) (by omega) (by omega), w64 (n := s + (p.f0 + p.f1)) (by omega) (by omega)] at ha ⊢
        rw [w64 (n := p.f0 + (p.f2.size : Int)) (by omega) (by omega), w64 (n := t + (p.f0 + (p.f2.size : Int))) (by omega) (by omega)] at hc ⊢
        rw [len_one pre p (by omega)]
        have := hnext (s + (p.f0 + p.f1)) (t + (p.f0 + (p.f2.size : Int))) (by omega) (by omega) (by omega) (by omega) (fun h => by simp at h) (fun _ => by rw [he, rd_prev pre p suf (by omega)])
        refine Ev_eq this ?_
        simp [goodFrom, okk, src, tgt, h1, h2, Int.add_assoc]
    have hfin : kd p ≠ 0 → kd p ≠ q → Ev (fun k => if p.f0 > 120 then spec_GoodChange.j1 k l s t l (l.length : Int) (pre.length : Int) true p.f0 p.f1 p.f2 else if p.f1 > 120 then spec_GoodChange.j1 k l s t l (l.length : Int) (pre.length : Int) true p.f0 p.f1 p.f2 else spec_GoodChange.j1 k l s t l (l.length : Int) (pre.length : Int) (decide ((p.f2.size : Int) > 120)) p.f0 p.f1 p.f2) (goodFrom q s t (p :: suf)) := by
      intro h1 h2
      obtain ⟨k0, k1, _⟩ := kd_pos h1
      have big : (p.f0 > 120 ∨ p.f1 > 120 ∨ (p.f2.size : Int) > 120) → goodFrom q s t (p :: suf) = false := by
        intro hbig
        refine goodFrom_false (fun ho => ?_)
        have := okk_nonneg _ _ ho
        omega
      refine Ev_ite (fun h => hj _ (fun _ => big (Or.inl h)) (fun h => by cases h)) (fun h3 => Ev_ite (fun h => hj _ (fun _ => big (Or.inr (Or.inl h))) (fun h => by cases h)) (fun h4 => hj _ (fun h => big (Or.inr (Or.inr (by simpa using h)))) (fun h => ⟨h1, h2, by omega, by omega, by simpa using h⟩)))
    refine Ev_succ ?_
    simp only [spec_GoodChange.l0, hrd]
    refine Ev_t (by omega) (Ev_t (by omega) (Ev_t (by omega) (Ev.bind (l1Kind_ev _ _ _) ?_)))
    refine Ev_ite (fun h => hj _ (fun _ => ?_) (fun h => by cases h)) (fun h1 => Ev_ite (fun h2 => Ev_t ?_ (Ev_t ?_ (Ev.bind (l1Kind_ev _ _ _) (Ev_ite (fun h3 => hj _ (fun _ => ?_) (fun h => by cases h)) (fun h3 => hfin h1 (fun h4 => h3 ?_)))))) (fun h2 => hfin h1 (fun h4 => ?_)))
    · have : kd p = 0 := h
      simp [goodFrom, okk, this]
    · rw [w64 (by omega) (by omega)]; omega
    · rw [w64 (by omega) (by omega)]; omega
    · have h5 : kd (rd_T89 l (wrap64 ((pre.length : Int) - 1))) = kd p := h3
      rw [hp (fun h => by rw [h] at h2; simp at h2)] at h5
      simp [goodFrom, okk, h5]
    · have h5 := hp (fun h => by rw [h] at h2; simp at h2)
      exact h5.trans h4.symm
    · have h5 : pre = [] := List.eq_nil_of_length_eq_zero (by omega)
      rw [hq h5] at h4
      exact h1 h4
theorem specGood_ev (l : List S89) (hz : ∀ p ∈ l, p.f2.size ≤ 1048576) (hl : l.length ≤ 1048576) : Ev (fun k => spec_GoodChange.f k l) (goodB l) := by
  have h := specGood_loop l hz hl l [] rfl 0 0 0 (by omega) (by omega) (by omega) (by omega) (fun _ => rfl) (fun h => absurd rfl h)
  simp only [spec_GoodChange.f]
  refine Ev_eq h ?_
  simp [goodFrom, goodB]

def lensOf (l : List S89) : Int × Int × Bool := if src l ≤ 120 ∧ tgt l ≤ 120 then (src l, tgt l, true) else (0, 0, false)
theorem lengths_loop (l : List S89) (hz : ∀ p ∈ l, p.f2.size ≤ 1048576) (hl : l.length ≤ 1048576) : ∀ (suf pre : List S89), l = pre ++ suf → ∀ q s t : Int, 0 ≤ s → s ≤ 120 → 0 ≤ t → t ≤ 120 → okk q suf = true →
    Ev (fun k => impl_lengths.l0 k s t l (l.length : Int) (pre.length : Int)) (if s + src suf ≤ 120 ∧ t + tgt suf ≤ 120 then (s + src suf, t + tgt suf, true) else (0, 0, false)) := by
  intro suf
  induction suf with
  | nil =>
    intro pre he q s t s0 s1 t0 t1 _
    refine Ev_succ ?_
    have hlen : l.length = pre.length := by rw [he]; simp
    simp only [impl_lengths.l0]
    refine Ev_f (by omega) (Ev_eq (Ev.now _) ?_)
    simp [src, tgt, s1, t1]
  | cons p suf ih =>
    intro pre he q s t s0 s1 t0 t1 hok
    obtain ⟨h1, _, h3⟩ := okk_cons hok
    obtain ⟨k0, k1, _⟩ := kd_pos h1
    obtain ⟨n0, n1, _⟩ := okk_nonneg _ _ h3
    have hlen : l.length = pre.length + (suf.length + 1) := by rw [he]; simp
    have hmem : p ∈ l := by rw [he]; simp
    have hzp := hz p hmem
    have hrd : rd_T89 l (pre.length : Int) = p := by rw [he]; exact rd_mid pre p suf
    have hnext := ih (pre ++ [p]) (by rw [he]; simp) (kd p)
    have hj : ∀ b : Bool, (b = true → p.f0 > 120 ∨ p.f1 > 120) → (b = false → p.f0 ≤ 120 ∧ p.f1 ≤ 120) →
        Ev (fun k => impl_lengths.j1 k s t l (l.length : Int) (pre.length : Int) b p.f0 p.f1 p.f2) (if s + src (p :: suf) ≤ 120 ∧ t + tgt (p :: suf) ≤ 120 then (s + src (p :: suf), t + tgt (p :: suf), true) else (0, 0, false)) := by
      intro b hb1 hb2
      refine Ev_succ ?_
      simp only [impl_lengths.j1]
      simp only [src, tgt]
      refine Ev_ite (fun h => Ev_eq (Ev.now _) ?_) (fun h => ?_)
      · have := hb1 h
        exact (if_neg (by omega)).symm
      · have hb : b = false := by simpa using h
        have := hb2 hb
        rw [w64 (n := p.f0 + p.f1) (by omega) (by omega), w64 (n := s + (p.f0 + p.f1)) (by omega) (by omega), w64 (n := p.f0 + (p.f2.size : Int)) (by omega) (by omega), w64 (n := t + (p.f0 + (p.f2.size : Int))) (by omega) (by omega)]
        refine Ev_ite (fun h => Ev_eq (Ev.now _) (if_neg (by omega)).symm) (fun h4 => Ev_ite (fun h => Ev_eq (Ev.now _) (if_neg (by omega)).symm) (fun h5 => ?_))
        rw [len_one pre p (by omega)]
        refine Ev_eq (hnext (s + (p.f0 + p.f1)) (t + (p.f0 + (p.f2.size : Int))) (by omega) (by omega) (by omega) (by omega) h3) ?_
        simp [Int.add_assoc]
    refine Ev_succ ?_
    simp only [impl_lengths.l0, hrd]
    exact Ev_t (by omega) (Ev_t (by omega) (Ev_t (by omega) (Ev_ite (fun h => hj _ (fun _ => Or.inl h) (fun h => by cases h)) (fun h => hj _ (fun h => Or.inr (by simpa using h)) (fun h6 => ⟨by omega, by simpa using h6⟩)))))
theorem lengths_ev (l : List S89) (hz : ∀ p ∈ l, p.f2.size ≤ 1048576) (hl : l.length ≤ 1048576) (ho : okk 0 l = true) : Ev (fun k => impl_lengths.f k l) (lensOf l) := by
  have h := lengths_loop l hz hl l [] rfl 0 0 0 (by omega) (by omega) (by omega) (by omega) ho
  simp only [impl_lengths.f]
  refine Ev_eq h ?_
  simp [lensOf]

theorem implGood_loop (l : List S89) (hz : ∀ p ∈ l, p.f2.size ≤ 1048576) (hl : l.length ≤ 1048576) : ∀ (suf pre : List S89), l = pre ++ suf → ∀ q : Int, (pre = [] → q = 0) →
    (pre ≠ [] → kd (rd_T89 l (wrap64 ((pre.length : Int) - 1))) = q) → (okk q suf = true → okk 0 l = true) → Ev (fun k => impl_GoodChange.l0 k l l (l.length : Int) (pre.length : Int)) (okk q suf && (decide (src l ≤ 120) && decide (tgt l ≤ 120))) := by
  intro suf
  induction suf with
  | nil =>
    intro pre he q hq hp hok
    refine Ev_succ ?_
    have hlen : l.length = pre.length := by rw [he]; simp
    simp only [impl_GoodChange.l0]
    refine Ev_f (by omega) (Ev.bind (lengths_ev l hz hl (hok rfl)) (Ev_eq (Ev.now _) ?_))
    unfold lensOf
    by_cases h1 : src l ≤ 120 <;> by_cases h2 : tgt l ≤ 120 <;> simp [h1, h2, okk]
  | cons p suf ih =>
    intro pre he q hq hp hok
    have hlen : l.length = pre.length + (suf.length + 1) := by rw [he]; simp
    have hrd : rd_T89 l (pre.length : Int) = p := by rw [he]; exact rd_mid pre p suf
    have hnext := ih (pre ++ [p]) (by rw [he]; simp) (kd p) (fun h => by simp at h) (fun _ => by rw [he, rd_prev pre p suf (by omega)])
    have hgo : kd p ≠ 0 → kd p ≠ q → Ev (fun k => impl_GoodChange.l0 k l l (l.length : Int) (wrap64 ((pre.length : Int) + 1))) (okk q (p :: suf) && (decide (src l ≤ 120) && decide (tgt l ≤ 120))) := by
      intro h1 h2
      rw [len_one pre p (by omega)]
      have e : okk q (p :: suf) = okk (kd p) suf := by simp [okk, h1, h2]
      rw [e]
      exact hnext (fun h => hok (e.trans h))
    refine Ev_succ ?_
    simp only [impl_GoodChange.l0, hrd]
    refine Ev_t (by omega) (Ev_t (by omega) (Ev_t (by omega) (Ev.bind (kind_ev _ _ _) ?_)))
    refine Ev_ite (fun h => Ev_eq (Ev.now _) ?_) (fun h1 => Ev_ite (fun h2 => Ev_t ?_ (Ev_t ?_ (Ev.bind (kind_ev _ _ _) (Ev_ite (fun h3 => Ev_eq (Ev.now _) ?_) (fun h3 => hgo h1 (fun h4 => h3 ?_)))))) (fun h2 => hgo h1 (fun h4 => ?_)))
    · have : kd p = 0 := h
      simp [okk, this]
    · rw [w64 (by omega) (by omega)]; omega
    · rw [w64 (by omega) (by omega)]; omega
    · have h5 : kd (rd_T89 l (wrap64 ((pre.length : Int) - 1))) = kd p := h3
      rw [hp (fun h => by rw [h] at h2; simp at h2)] at h5
      simp [okk, h5]
    · have h5 := hp (fun h => by rw [h] at h2; simp at h2)
      exact h5.trans h4.symm
    · have h5 : pre = [] := List.eq_nil_of_length_eq_zero (by omega)
      rw [hq h5] at h4
      exact h1 h4
theorem implGood_ev (l : List S89) (hz : ∀ p ∈ l, p.f2.size ≤ 1048576) (hl : l.length ≤ 1048576) : Ev (fun k => impl_GoodChange.f k l) (goodB l) := by
  have h := implGood_loop l hz hl l [] rfl 0 (fun _ => rfl) (fun h => absurd rfl h) (fun h => h)
  simp only [impl_GoodChange.f]
  exact Ev_eq h rfl

theorem rd_T84_nat (xs : List S84) (i : Nat) : rd_T84 xs (i : Int) = xs.getD i z84 := by simp [rd_T84]
theorem rd_T89_nat (xs : List S89) (i : Nat) : rd_T89 xs (i : Int) = xs.getD i z89 := by simp [rd_T89]
def im (p : S84) : S89 := ⟨p.f0, p.f1, p.f2⟩
theorem toPartS_ev (l : List S84) (hl : l.length ≤ 1048576) : Ev (fun k => laws_toPartS.f k l) (l.map im) := by
  have h := fill_ev (g := fun k x i => laws_toPartS.l0 k l x i) l z84 im
    (fun x i hx hi hr => Ev_succ (by
      simp only [laws_toPartS.l0, laws_toPart.f, Option.bind_some]
      refine Ev_t (by omega) (Ev_t (by omega) (Ev_t (by omega) ?_))
      rw [w64_succ hi (by omega)]
      simpa [rd_T84_nat, im] using hr))
    (fun x hx => Ev_succ (by simp only [laws_toPartS.l0]; exact Ev_f (by omega) (Ev.now _)))
    (List.replicate l.length z89) (by simp)
  refine Ev.congr (fun k => ?_) h
  simp only [laws_toPartS.f]
  rw [if_pos (by omega), if_pos (by simp; omega)]
  simp
theorem eqPartS_ev (l : List S89) (hl : l.length ≤ 4611686018427387904) : Ev (fun k => laws_eqPartS.f k l l) true := by
  have h := all_ev (g := fun k i => laws_eqPartS.l0 k l l i) (r := true) l.length
    (fun i hi hr => Ev_succ (by
      simp only [laws_eqPartS.l0, laws_eqPart.f, if_true, Option.bind_some]
      refine Ev_t (by omega) (Ev_t (by omega) (Ev_t (by omega) ?_))
      rw [w64_succ hi (by omega)]; exact hr))
    (Ev_succ (by simp only [laws_eqPartS.l0]; exact Ev_f (by omega) (Ev.now _)))
  refine Ev.congr (fun k => ?_) h
  simp only [laws_eqPartS.f]; rw [if_pos trivial]
theorem szPartS_loop (l : List S84) (hw : ∀ p ∈ l, p.f2.size ≤ 9223372036854775807) (hl : l.length ≤ 1048576) : ∀ (m i : Nat) (x : Int), i + m = l.length → 0 ≤ x → x ≤ 1048576 →
    ∃ r, Ev (fun k => laws_szPartS.l0 k l x (i : Int)) r ∧ r ≤ x ∧ (0 ≤ r → ∀ j, i ≤ j → j < l.length → (l.getD j z84).f2.size ≤ 1048576) := by
  intro m
  induction m with
  | zero =>
    intro i x hi h0 h1
    refine ⟨x, Ev_succ ?_, by omega, fun _ j h2 h3 => by omega⟩
    simp only [laws_szPartS.l0]; exact Ev_f (by omega) (Ev.now _)
  | succ m ih =>
    intro i x hi h0 h1
    have hp := hw _ (getD_mem (xs := l) (i := i) z84 (by omega))
    generalize hq : l.getD i z84 = p at hp
    have e : wrap64 (x - (p.f2.size : Int)) = x - (p.f2.size : Int) := w64 (by omega) (by omega)
    by_cases c : x - (p.f2.size : Int) < 0
    · refine ⟨-1, Ev_succ ?_, by omega, fun h => by omega⟩
      simp only [laws_szPartS.l0, laws_szPart.f, rd_T84_nat, hq, e, if_pos c]
      exact Ev_t (by omega) (Ev_t (by omega) (Ev_bind0 rfl (Ev_t (by decide) (Ev.now _))))
    · obtain ⟨r, h2, h3, h4⟩ := ih (i + 1) (x - (p.f2.size : Int)) (by omega) (by omega) (by omega)
      refine ⟨r, Ev_succ ?_, by omega, fun h j h5 h6 => ?_⟩
      · simp only [laws_szPartS.l0, laws_szPart.f, rd_T84_nat, hq, e, if_neg c]
        rw [w64_succ (show i < l.length by omega) (by omega)]
        exact Ev_t (by omega) (Ev_t (by omega) (Ev_bind0 rfl (Ev_f c h2)))
      · by_cases h7 : j = i
        · subst h7; rw [hq]; omega
        · exact h4 h j (by omega) h6
theorem szPartS_ev (l : List S84) (hw : l.length ≤ maxLen ∧ ∀ p ∈ l, p.f2.size ≤ maxLen) (n : Int) (hn : 0 ≤ n) (hn' : n ≤ 1048576) : ∃ r, Ev (fun k => laws_szPartS.f k l n) r ∧ r ≤ n ∧ (0 ≤ r → l.length ≤ 1048576 ∧ ∀ p ∈ l, p.f2.size ≤ 1048576) := by
  have hl0 : (l.length : Int) ≤ 9223372036854775807 := by have := hw.1; simp only [maxLen] at this; omega
  have e : wrap64 (n - (l.length : Int)) = n - (l.length : Int) := w64 (by omega) (by omega)
  simp only [laws_szPartS.f, e]
  by_cases c : n - (l.length : Int) < 0
  · exact ⟨-1, Ev_t c (Ev.now _), by omega, fun h => by omega⟩
  · obtain ⟨r, h1, h2, h3⟩ := szPartS_loop l (fun p hp => by have := hw.2 p hp; simp only [maxLen] at this; exact this) (by omega) l.length 0 (n - (l.length : Int)) (by omega) (by omega) (by omega)
    refine ⟨r, Ev_f c h1, by omega, fun h => ⟨by omega, fun p hp => ?_⟩⟩
    obtain ⟨j, hj, rfl⟩ := List.mem_iff_getElem.1 hp
    have := h3 h j (by omega) hj
    simpa [List.getD, hj] using this
theorem im_wf {l : List S84} (h : ∀ p ∈ l, p.f2.size ≤ 1048576) : ∀ p ∈ l.map im, p.f2.size ≤ 1048576 := by
  intro p hp
  obtain ⟨q, hq, rfl⟩ := List.mem_map.1 hp
  exact h q hq

theorem goodB_ok {l : List S89} (h : goodB l = true) : okk 0 l = true ∧ src l ≤ 120 ∧ tgt l ≤ 120 ∧ 0 ≤ src l ∧ 0 ≤ tgt l ∧ (l.length : Int) ≤ src l + tgt l := by
  simp only [goodB, Bool.and_eq_true, decide_eq_true_eq] at h
  obtain ⟨n0, n1, n2⟩ := okk_nonneg _ _ h.1
  exact ⟨h.1, h.2.1, h.2.2, n0, n1, n2⟩

theorem l1Source_loop (l : List S89) (hl : l.length ≤ 1048576) : ∀ (suf pre : List S89), l = pre ++ suf → ∀ q s : Int, 0 ≤ s → s + src suf ≤ 120 → okk q suf = true →
    Ev (fun k => spec_l1Source.l0 k s l (l.length : Int) (pre.length : Int)) (s + src suf) := by
  intro suf
  induction suf with
  | nil =>
    intro pre he q s s0 s1 _
    refine Ev_succ ?_
    have hlen : l.length = pre.length := by rw [he]; simp
    simp only [spec_l1Source.l0]
    exact Ev_f (by omega) (Ev_eq (Ev.now _) (by simp [src]))
  | cons p suf ih =>
    intro pre he q s s0 s1 hok
    obtain ⟨h1, _, h3⟩ := okk_cons hok
    obtain ⟨k0, k1, _⟩ := kd_pos h1
    obtain ⟨n0, n1, _⟩ := okk_nonneg _ _ h3
    simp only [src] at s1 ⊢
    have hlen : l.length = pre.length + (suf.length + 1) := by rw [he]; simp
    have hrd : rd_T89 l (pre.length : Int) = p := by rw [he]; exact rd_mid pre p suf
    refine Ev_succ ?_
    simp only [spec_l1Source.l0, hrd]
    rw [w64 (n := p.f0 + p.f1) (by omega) (by omega), w64 (n := s + (p.f0 + p.f1)) (by omega) (by omega), len_one pre p (by omega)]
    exact Ev_t (by omega) (Ev_t (by omega) (Ev_t (by omega) (Ev_eq (ih (pre ++ [p]) (by rw [he]; simp) (kd p) (s + (p.f0 + p.f1)) (by omega) (by omega) h3) (by omega))))
theorem l1Source_ev (l : List S89) (hl : l.length ≤ 1048576) (hg : goodB l = true) : Ev (fun k => spec_l1Source.f k l) (src l) := by
  obtain ⟨h1, h2, h3, _⟩ := goodB_ok hg
  have h := l1Source_loop l hl l [] rfl 0 0 (by omega) (by omega) h1
  simp only [spec_l1Source.f]
  exact Ev_eq h (by omega)

theorem l1Target_loop (l : List S89) (hl : l.length ≤ 1048576) : ∀ (suf pre : List S89), l = pre ++ suf → ∀ q s : Int, 0 ≤ s → s + tgt suf ≤ 120 → okk q suf = true →
    Ev (fun k => spec_l1Target.l0 k s l (l.length : Int) (pre.length : Int)) (s + tgt suf) := by
  intro suf
  induction suf with
  | nil =>
    intro pre he q s s0 s1 _
    refine Ev_succ ?_
    have hlen : l.length = pre.length := by rw [he]; simp
    simp only [spec_l1Target.l0]
    exact Ev_f (by omega) (Ev_eq (Ev.now _) (by simp [tgt]))
  | cons p suf ih =>
    intro pre he q s s0 s1 hok
    obtain ⟨h1, _, h3⟩ := okk_cons hok
    obtain ⟨k0, k1, _⟩ := kd_pos h1
    obtain ⟨n0, n1, _⟩ := okk_nonneg _ _ h3
    simp only [tgt] at s1 ⊢
    have hlen : l.length = pre.length + (suf.length + 1) := by rw [he]; simp
    have hrd : rd_T89 l (pre.length : Int) = p := by rw [he]; exact rd_mid pre p suf
    refine Ev_succ ?_
    simp only [spec_l1Target.l0, hrd]
    rw [w64 (n := p.f0 + (p.f2.size : Int)) (by omega) (by omega), w64 (n := s + (p.f0 + (p.f2.size : Int))) (by omega) (by omega), len_one pre p (by omega)]
    exact Ev_t (by omega) (Ev_t (by omega) (Ev_t (by omega) (Ev_eq (ih (pre ++ [p]) (by rw [he]; simp) (kd p) (s + (p.f0 + (p.f2.size : Int))) (by omega) (by omega) h3) (by omega))))
theorem l1Target_ev (l : List S89) (hl : l.length ≤ 1048576) (hg : goodB l = true) : Ev (fun k => spec_l1Target.f k l) (tgt l) := by
  obtain ⟨h1, h2, h3, _⟩ := goodB_ok hg
  have h := l1Target_loop l hl l [] rfl 0 0 (by omega) (by omega) h1
  simp only [spec_l1Target.f]
  exact Ev_eq h (by omega)

def lensG (l : List S89) : Int × Int × Bool := if goodB l = true then (src l, tgt l, true) else (0, 0, false)

theorem implLengths_ev (l : List S89) (hz : ∀ p ∈ l, p.f2.size ≤ 1048576) (hl : l.length ≤ 1048576) : Ev (fun k => impl_LengthsOf.f k l) (lensG l) := by
  simp only [impl_LengthsOf.f, lensG]
  refine Ev.bind (implGood_ev l hz hl) (Ev_ite (fun h => ?_) (fun h => ?_))
  · rw [if_pos h]
    obtain ⟨h1, h2, h3, _⟩ := goodB_ok h
    refine Ev.bind (lengths_ev l hz hl h1) (Ev_eq (Ev.now _) ?_)
    simp [lensOf, h2, h3]
  · rw [if_neg h]; exact Ev.now _

theorem ext_size {t : ByteArray} {a b : Nat} (hb : b ≤ t.size) : (t.extract a b).size = b - a := by
  rw [ByteArray.size_extract]; omega
theorem app_size (a b : ByteArray) : (a ++ b).size = a.size + b.size := ByteArray.size_append

theorem apply_loop (t : ByteArray) (ht : t.size ≤ 120) (l : List S89) (hl : l.length ≤ 1048576) : ∀ (suf pre : List S89), l = pre ++ suf → ∀ (q : Int) (out : ByteArray) (i : Int), okk q suf = true → 0 ≤ i → i + src suf = t.size → (out.size : Int) + tgt suf ≤ 120 →
    ∃ R : ByteArray, (R.size : Int) = out.size + tgt suf ∧ Ev (fun k => spec_ApplyChange.l0 k t out i l (l.length : Int) (pre.length : Int)) (R, true) ∧ Ev (fun k => impl_apply.l0 k t out i l (l.length : Int) (pre.length : Int)) R := by
  intro suf
  induction suf with
  | nil =>
    intro pre he q out i _ _ _ _
    have hlen : l.length = pre.length := by rw [he]; simp
    refine ⟨out, by simp [tgt], Ev_succ ?_, Ev_succ ?_⟩
    · simp only [spec_ApplyChange.l0]; exact Ev_f (by omega) (Ev.now _)
    · simp only [impl_apply.l0]; exact Ev_f (by omega) (Ev.now _)
  | cons p suf ih =>
    intro pre he q out i hok h0 h1 h2
    obtain ⟨g1, _, g3⟩ := okk_cons hok
    obtain ⟨k0, k1, _⟩ := kd_pos g1
    obtain ⟨n0, n1, _⟩ := okk_nonneg _ _ g3
    simp only [src] at h1
    simp only [tgt] at h2
    have hlen : l.length = pre.length + (suf.length + 1) := by rw [he]; simp
    have hrd : rd_T89 l (pre.length : Int) = p := by rw [he]; exact rd_mid pre p suf
    have e1 : wrap64 (i + p.f0) = i + p.f0 := w64 (by omega) (by omega)
    have e2 : wrap64 (i + wrap64 (p.f0 + p.f1)) = i + (p.f0 + p.f1) := by rw [w64 (n := p.f0 + p.f1) (by omega) (by omega), w64 (by omega) (by omega)]
    have e3 : (t.extract i.toNat (i + p.f0).toNat).size = p.f0.toNat := by rw [ext_size (by omega)]; omega
    have e4 : ((t.extract i.toNat (i + p.f0).toNat) ++ p.f2).size = p.f0.toNat + p.f2.size := by rw [app_size, e3]
    obtain ⟨R, hR, u, v⟩ := ih (pre ++ [p]) (by rw [he]; simp) (kd p) (out ++ ((t.extract i.toNat (i + p.f0).toNat) ++ p.f2)) (i + (p.f0 + p.f1)) g3 (by omega) (by omega) (by rw [app_size, e4]; omega)
    refine ⟨R, by rw [hR, app_size, e4]; simp only [tgt]; omega, Ev_succ ?_, Ev_succ ?_⟩
    · simp only [spec_ApplyChange.l0, hrd, e1, e2]
      rw [len_one pre p (by omega)]
      exact Ev_t (by omega) (Ev_t (by omega) (Ev_t (by omega) (Ev_t h0 (Ev_t (by omega) (Ev_t (by omega) (Ev_t (by rw [e3]; omega) (Ev_t (by rw [e4]; omega) u)))))))
    · simp only [impl_apply.l0, hrd, e1, e2]
      rw [len_one pre p (by omega)]
      exact Ev_t (by omega) (Ev_t (by omega) (Ev_t (by omega) (Ev_t h0 (Ev_t (by omega) (Ev_t (by omega) (Ev_t (by rw [e3]; omega) (Ev_t (by rw [e4]; omega) v)))))))
theorem apply_good (t : ByteArray) (l : List S89) (hz : ∀ p ∈ l, p.f2.size ≤ 1048576) (hl : l.length ≤ 1048576) (hg : goodB l = true) (hs : src l = (t.size : Int)) :
    ∃ R : ByteArray, (R.size : Int) = tgt l ∧ Ev (fun k => spec_ApplyChange.f k t l) (R, true) ∧ Ev (fun k => impl_apply.f k t l) R := by
  obtain ⟨g1, g2, g3, _⟩ := goodB_ok hg
  obtain ⟨R, hR, u, v⟩ := apply_loop t (by omega) l hl l [] rfl 0 (⟨#[]⟩ : ByteArray) 0 g1 (by omega) (by omega) (by show ((0 : Nat) : Int) + tgt l ≤ 120; omega)
  have p := specGood_ev l hz hl
  rw [hg] at p
  refine ⟨R, by rw [hR]; show ((0 : Nat) : Int) + tgt l = tgt l; omega, ?_, ?_⟩
  · simp only [spec_ApplyChange.f]
    refine Ev.bind p (Ev_t rfl (Ev.bind (l1Source_ev l hl hg) (Ev_succ ?_)))
    simp only [spec_ApplyChange.j0]; exact Ev_f (by simp [hs]) u
  · simp only [impl_apply.f]; exact v

theorem rd_T76_nat (xs : List S76) (i : Nat) : rd_T76 xs (i : Int) = xs.getD i z76 := by simp [rd_T76]
theorem toRunS_ev (l : List S76) (hl : l.length ≤ 1048576) : Ev (fun k => laws_toRunS.f k l) (l.map fun x => (⟨x.f0, x.f1⟩ : S74)) := by
  have h := fill_ev (g := fun k x i => laws_toRunS.l0 k l x i) l z76 (fun x => (⟨x.f0, x.f1⟩ : S74))
    (fun x i hx hi hr => Ev_succ (by
      simp only [laws_toRunS.l0, laws_toRun.f, Option.bind_some]
      refine Ev_t (by omega) (Ev_t (by omega) (Ev_t (by omega) ?_))
      rw [w64_succ hi (by omega)]
      simpa [rd_T76_nat] using hr))
    (fun x hx => Ev_succ (by simp only [laws_toRunS.l0]; exact Ev_f (by omega) (Ev.now _)))
    (List.replicate l.length z74) (by simp)
  refine Ev.congr (fun k => ?_) h
  simp only [laws_toRunS.f]
  rw [if_pos (by omega), if_pos (by simp; omega)]
  simp

theorem eqRunS_ev (l : List S74) (hl : l.length ≤ 4611686018427387904) : Ev (fun k => laws_eqRunS.f k l l) true := by
  have h := all_ev (g := fun k i => laws_eqRunS.l0 k l l i) (r := true) l.length
    (fun i hi hr => Ev_succ (by
      simp only [laws_eqRunS.l0, laws_eqRun.f, if_true, Option.bind_some]
      refine Ev_t (by omega) (Ev_t (by omega) (Ev_t (by omega) ?_))
      rw [w64_succ hi (by omega)]; exact hr))
    (Ev_succ (by simp only [laws_eqRunS.l0]; exact Ev_f (by omega) (Ev.now _)))
  refine Ev.congr (fun k => ?_) h
  simp only [laws_eqRunS.f]; rw [if_pos trivial]

theorem within_eq (a b c : Int) : impl_within.f a b c = some (decide (b ≤ a ∧ a ≤ c)) := by
  simp only [impl_within.f]
  by_cases h : b ≤ a <;> simp [h]

theorem l1In_eq (a b c : Int) : spec_l1In.f a b c = some (decide (b ≤ a ∧ a ≤ c)) := by
  simp only [spec_l1In.f]
  by_cases h : b ≤ a <;> simp [h]

theorem szRunS_val (l : List S76) (hl : l.length ≤ maxLen) (n : Int) (h0 : 0 ≤ n) (h1 : n ≤ 1048576) : ∃ r, laws_szRunS.f l n = some r ∧ r ≤ n ∧ (0 ≤ r → l.length ≤ 1048576) := by
  have hl0 : (l.length : Int) ≤ 9223372036854775807 := by simp only [maxLen] at hl; omega
  simp only [laws_szRunS.f]
  rw [w64 (n := n - (l.length : Int)) (by omega) (by omega)]
  by_cases c : n - (l.length : Int) < 0
  · exact ⟨-1, if_pos c, by omega, fun h => by omega⟩
  · exact ⟨n - (l.length : Int), if_neg c, by omega, fun h => by omega⟩

def rsum : List S74 → Int
  | [] => 0
  | p :: c => p.f1 + rsum c
def runsInfo (l : List S74) (a1 a2 : Int) (i : Nat) (x : Int) (r : Bool) : Prop := r = true → (∀ p ∈ l.drop i, 0 ≤ p.f0 ∧ p.f0 ≤ a2 ∧ 1 ≤ p.f1) ∧ x + rsum (l.drop i) = a1
theorem same_GoodRuns_loop (l : List S74) (hl : l.length ≤ 1048576) (a1 a2 : Int) (ha : a1 ≤ 120) : ∀ (m i : Nat) (x : Int), i + m = l.length → 0 ≤ x → x ≤ a1 →
    SameQ (runsInfo l a1 a2 i x) (fun k => spec_GoodRuns.l0 k l a1 a2 x l (l.length : Int) (i : Int)) (fun k => impl_GoodRuns.l0 k l a1 a2 x l (l.length : Int) (i : Int)) := by
  intro m
  induction m with
  | zero =>
    intro i x hi h0 h1
    refine SameQ.succL (SameQ.succR ?_)
    simp only [spec_GoodRuns.l0, impl_GoodRuns.l0]
    refine SameQ.of (Ev_f (by omega) (Ev.now _)) (Ev_f (by omega) (Ev.now _)) (fun h => ?_)
    have hx : x = a1 := by simpa using h
    rw [List.drop_of_length_le (by omega)]
    exact ⟨by simp, by simp [rsum, hx]⟩
  | succ m ih =>
    intro i x hi h0 h1
    refine SameQ.succL (SameQ.succR ?_)
    simp only [spec_GoodRuns.l0, impl_GoodRuns.l0, l1In_eq, within_eq, Option.bind_some, decide_eq_true_eq]
    rw [w64_succ (show i < l.length by omega) (by omega)]
    have hdrop := drop_cons l i z74 (by omega)
    have hrd : rd_T74 l (i : Int) = l.getD i z74 := by simp [rd_T74]
    rw [hrd]
    generalize l.getD i z74 = p at hdrop ⊢
    generalize hq : rd_T74 l (wrap64 ((i : Int) - 1)) = q
    have e1 : wrap64 ((i : Int) - 1) = (i : Int) - 1 := w64 (by omega) (by omega)
    have e2 : wrap64 (a1 - x) = a1 - x := w64 (by omega) (by omega)
    simp only [e1, e2]
    have hj : ∀ b : Bool, (b = true ∨ ¬ (1 ≤ p.f1 ∧ p.f1 ≤ a1 - x)) → (1 ≤ p.f1 ∧ p.f1 ≤ 120 ∨ b = true) → Ev (fun k => impl_GoodRuns.j2 k l a1 a2 x l (l.length : Int) (i : Int) b p.f0 p.f1) false := by
      intro b hb hc
      refine Ev_succ ?_
      simp only [impl_GoodRuns.j2]
      refine Ev_ite (fun _ => Ev.now _) (fun h => ?_)
      have h3 : ¬ (1 ≤ p.f1 ∧ p.f1 ≤ a1 - x) := hb.resolve_left h
      have h4 := hc.resolve_right h
      rw [w64 (n := x + p.f1) (by omega) (by omega)]
      exact Ev_t (by omega) (Ev.now _)
    have hg : ∀ b : Bool, b = false → (0 ≤ p.f0 ∧ p.f0 ≤ a2) → (1 ≤ p.f1 ∧ p.f1 ≤ a1 - x) → SameQ (runsInfo l a1 a2 i x) (fun k => spec_GoodRuns.l0 k l a1 a2 (wrap64 (x + p.f1)) l (l.length : Int) ((i + 1 : Nat) : Int)) (fun k => impl_GoodRuns.j2 k l a1 a2 x l (l.length : Int) (i : Int) b p.f0 p.f1) := by
      intro b hb hc0 hc
      refine SameQ.succR ?_
      subst hb
      simp only [impl_GoodRuns.j2]
      rw [w64_succ (show i < l.length by omega) (by omega), w64 (n := x + p.f1) (by omega) (by omega)]
      obtain ⟨r, h5, h6, h7⟩ := ih (i + 1) (x + p.f1) (by omega) (by omega) (by omega)
      refine ⟨r, h5, Ev_f (by decide) (Ev_f (by omega) h6), fun hr => ?_⟩
      obtain ⟨h8, h9⟩ := h7 hr
      rw [hdrop]
      refine ⟨fun y hy => ?_, by simp only [rsum]; omega⟩
      rcases List.mem_cons.1 hy with rfl | hy
      · exact ⟨hc0.1, hc0.2, hc.1⟩
      · exact h8 y hy
    refine SameQ.iteL (fun _ => SameQ.iteR (fun _ => ?_) (fun h => absurd (show (i : Int) < l.length by omega) h)) (fun h => absurd (show (i : Int) < l.length by omega) h)
    refine SameQ.iteL (fun _ => SameQ.iteR (fun _ => ?_) (fun h => absurd (show (0 : Int) ≤ i by omega) h)) (fun h => absurd (show (0 : Int) ≤ i by omega) h)
    refine SameQ.iteL (fun _ => SameQ.iteR (fun _ => ?_) (fun h => absurd (show (i : Int) < l.length by omega) h)) (fun h => absurd (show (i : Int) < l.length by omega) h)
    by_cases c1 : 0 ≤ p.f0 ∧ p.f0 ≤ a2
    · simp only [if_pos c1]
      by_cases c2 : 1 ≤ p.f1 ∧ p.f1 ≤ a1 - x
      · simp only [if_pos c2, if_pos (show 1 ≤ p.f1 ∧ p.f1 ≤ 120 by omega)]
        by_cases c3 : (i : Int) > 0
        · simp only [if_pos c3, if_pos (show 0 ≤ (i : Int) - 1 by omega), if_pos (show (i : Int) - 1 < (l.length : Int) by omega)]
          by_cases c4 : q.f0 = p.f0
          · simp only [if_pos c4]
            exact SameQ.of (Ev.now _) (hj _ (Or.inl (by simp [c4])) (Or.inr (by simp [c4]))) (fun h => by cases h)
          · simp only [if_neg c4]
            exact hg _ (by simp [c4]) c1 c2
        · simp only [if_neg c3]
          exact hg _ rfl c1 c2
      · simp only [if_neg c2]
        refine ⟨false, Ev.now _, ?_, fun h => by cases h⟩
        by_cases c5 : 1 ≤ p.f1 ∧ p.f1 ≤ 120
        · simp only [if_pos c5]
          by_cases c3 : (i : Int) > 0
          · simp only [if_pos c3, if_pos (show 0 ≤ (i : Int) - 1 by omega), if_pos (show (i : Int) - 1 < (l.length : Int) by omega)]
            exact hj _ (Or.inr c2) (Or.inl c5)
          · simp only [if_neg c3]
            exact hj _ (Or.inr c2) (Or.inl c5)
        · simp only [if_neg c5]
          exact hj _ (Or.inl rfl) (Or.inr rfl)
    · simp only [if_neg c1]
      exact SameQ.of (Ev.now _) (hj _ (Or.inl rfl) (Or.inr rfl)) (fun h => by cases h)
theorem same_GoodRuns (l : List S74) (hl : l.length ≤ 1048576) (a1 a2 : Int) : SameQ (fun r => r = true → (0 ≤ a1 ∧ a1 ≤ 120) ∧ (0 ≤ a2 ∧ a2 ≤ 60) ∧ (∀ p ∈ l, 0 ≤ p.f0 ∧ p.f0 ≤ a2 ∧ 1 ≤ p.f1) ∧ rsum l = a1) (fun k => spec_GoodRuns.f k l a1 a2) (fun k => impl_GoodRuns.f k l a1 a2) := by
  simp only [spec_GoodRuns.f, impl_GoodRuns.f, l1In_eq, within_eq, Option.bind_some, decide_eq_true_eq]
  have hf : ∀ b : Bool, b = true → SameQ (fun r => r = true → (0 ≤ a1 ∧ a1 ≤ 120) ∧ (0 ≤ a2 ∧ a2 ≤ 60) ∧ (∀ p ∈ l, 0 ≤ p.f0 ∧ p.f0 ≤ a2 ∧ 1 ≤ p.f1) ∧ rsum l = a1) (fun k => spec_GoodRuns.j0 k l a1 a2 b) (fun k => impl_GoodRuns.j0 k l a1 a2 b) := by
    intro b hb
    subst hb
    refine SameQ.succL (SameQ.succR ?_)
    simp only [spec_GoodRuns.j0, impl_GoodRuns.j0, if_true]
    exact SameQ.of (Ev.now _) (Ev.now _) (fun h => by cases h)
  by_cases c1 : 0 ≤ a1 ∧ a1 ≤ 120
  · simp only [if_pos c1]
    by_cases c2 : 0 ≤ a2 ∧ a2 ≤ 60
    · simp only [c2, and_self, decide_true, Bool.not_true]
      refine SameQ.succL (SameQ.succR ?_)
      simp only [spec_GoodRuns.j0, impl_GoodRuns.j0, Bool.false_eq_true, if_false]
      refine SameQ.imp (same_GoodRuns_loop l hl a1 a2 c1.2 l.length 0 0 (by omega) (by omega) c1.1) (fun r h hr => ?_)
      obtain ⟨h1, h2⟩ := h hr
      rw [List.drop_zero] at h1 h2
      exact ⟨c1, trivial, h1, by omega⟩
    · exact hf _ (by simp only [c2, decide_false, Bool.not_false])
  · simp only [if_neg c1]
    exact hf _ rfl

def imr (x : S76) : S74 := ⟨x.f0, x.f1⟩
def imc (c : S108) : S112 := ⟨c.f0.map im⟩
theorem rd_T108_nat (xs : List S108) (i : Nat) : rd_T108 xs (i : Int) = xs.getD i z108 := by simp [rd_T108]
theorem rd_T112_nat (xs : List S112) (i : Nat) : rd_T112 xs (i : Int) = xs.getD i z112 := by simp [rd_T112]
def szOK (l : List S108) : Prop := ∀ c ∈ l, c.f0.length ≤ 1048576 ∧ ∀ p ∈ c.f0, p.f2.size ≤ 1048576
theorem toChangeS_ev (l : List S108) (hl : l.length ≤ 1048576) (hz : szOK l) : Ev (fun k => laws_toChangeS.f k l) (l.map imc) := by
  have h := fill_ev (g := fun k x i => laws_toChangeS.l0 k l x i) l z108 imc
    (fun x i hx hi hr => Ev_succ (by
      simp only [laws_toChangeS.l0, laws_toChange.f, rd_T108_nat]
      have hc := (hz _ (getD_mem (xs := l) (i := i) z108 hi)).1
      refine Ev_t (by omega) (Ev_t (by omega) (Ev.bind (Ev.bind (toPartS_ev _ hc) (Ev.now _)) (Ev_t (by omega) ?_)))
      rw [w64_succ hi (by omega)]
      simpa [imc] using hr))
    (fun x hx => Ev_succ (by simp only [laws_toChangeS.l0]; exact Ev_f (by omega) (Ev.now _)))
    (List.replicate l.length z112) (by simp)
  refine Ev.congr (fun k => ?_) h
  simp only [laws_toChangeS.f]
  rw [if_pos (by omega), if_pos (by simp; omega)]
  simp
theorem szChangeS_loop (l : List S108) (hw : ∀ c ∈ l, c.f0.length ≤ maxLen ∧ ∀ p ∈ c.f0, p.f2.size ≤ maxLen) (hl : l.length ≤ 1048576) : ∀ (m i : Nat) (x : Int), i + m = l.length → 0 ≤ x → x ≤ 1048576 →
    ∃ r, Ev (fun k => laws_szChangeS.l0 k l x (i : Int)) r ∧ r ≤ x ∧ (0 ≤ r → ∀ j, i ≤ j → j < l.length → (l.getD j z108).f0.length ≤ 1048576 ∧ ∀ p ∈ (l.getD j z108).f0, p.f2.size ≤ 1048576) := by
  intro m
  induction m with
  | zero =>
    intro i x hi h0 h1
    refine ⟨x, Ev_succ ?_, by omega, fun _ j h2 h3 => by omega⟩
    simp only [laws_szChangeS.l0]; exact Ev_f (by omega) (Ev.now _)
  | succ m ih =>
    intro i x hi h0 h1
    have hp := hw _ (getD_mem (xs := l) (i := i) z108 (by omega))
    generalize hq : l.getD i z108 = c at hp
    obtain ⟨r, h2, h3, h4⟩ := szPartS_ev c.f0 hp x h0 h1
    by_cases c1 : r < 0
    · refine ⟨-1, Ev_succ ?_, by omega, fun h => by omega⟩
      simp only [laws_szChangeS.l0, laws_szChange.f, rd_T108_nat, hq]
      exact Ev_t (by omega) (Ev_t (by omega) (Ev.bind (a := -1) (Ev.bind h2 (Ev_t c1 (Ev.now _))) (Ev_t (by decide) (Ev.now _))))
    · obtain ⟨r2, h5, h6, h7⟩ := ih (i + 1) r (by omega) (by omega) (by omega)
      refine ⟨r2, Ev_succ ?_, by omega, fun h j h8 h9 => ?_⟩
      · simp only [laws_szChangeS.l0, laws_szChange.f, rd_T108_nat, hq]
        rw [w64_succ (show i < l.length by omega) (by omega)]
        exact Ev_t (by omega) (Ev_t (by omega) (Ev.bind (Ev.bind h2 (Ev_f c1 (Ev.now _))) (Ev_f c1 h5)))
      · by_cases h10 : j = i
        · subst h10; rw [hq]; exact h4 (by omega)
        · exact h7 h j (by omega) h9
theorem szChangeS_ev (l : List S108) (hw : l.length ≤ maxLen ∧ ∀ c ∈ l, c.f0.length ≤ maxLen ∧ ∀ p ∈ c.f0, p.f2.size ≤ maxLen) (n : Int) (hn : 0 ≤ n) (hn' : n ≤ 1048576) : ∃ r, Ev (fun k => laws_szChangeS.f k l n) r ∧ r ≤ n ∧ (0 ≤ r → l.length ≤ 1048576 ∧ szOK l) := by
  have hl0 : (l.length : Int) ≤ 9223372036854775807 := by have := hw.1; simp only [maxLen] at this; omega
  have e : wrap64 (n - (l.length : Int)) = n - (l.length : Int) := w64 (by omega) (by omega)
  simp only [laws_szChangeS.f, e]
  by_cases c : n - (l.length : Int) < 0
  · exact ⟨-1, Ev_t c (Ev.now _), by omega, fun h => by omega⟩
  · obtain ⟨r, h1, h2, h3⟩ := szChangeS_loop l hw.2 (by omega) l.length 0 (n - (l.length : Int)) (by omega) (by omega) (by omega)
    refine ⟨r, Ev_f c h1, by omega, fun h => ⟨by omega, fun p hp => ?_⟩⟩
    obtain ⟨j, hj, rfl⟩ := List.mem_iff_getElem.1 hp
    have := h3 h j (by omega) hj
    simpa [List.getD, hj] using this
theorem eqChangeS_ev (l : List S112) (hl : l.length ≤ 4611686018427387904) (hz : ∀ c ∈ l, c.f0.length ≤ 1048576) : Ev (fun k => laws_eqChangeS.f k l l) true := by
  have h := all_ev (g := fun k i => laws_eqChangeS.l0 k l l i) (r := true) l.length
    (fun i hi hr => Ev_succ (by
      have hc := hz _ (getD_mem (xs := l) (i := i) z112 hi)
      simp only [laws_eqChangeS.l0, laws_eqChange.f, rd_T112_nat]
      refine Ev_t (by omega) (Ev_t (by omega) (Ev_t (by omega) (Ev.bind (a := true) (Ev.bind (eqPartS_ev _ (by omega)) (Ev.now _)) (Ev_t rfl ?_))))
      rw [w64_succ hi (by omega)]; exact hr))
    (Ev_succ (by simp only [laws_eqChangeS.l0]; exact Ev_f (by omega) (Ev.now _)))
  refine Ev.congr (fun k => ?_) h
  simp only [laws_eqChangeS.f]; rw [if_pos trivial]
theorem szHistory_ev (a : Int) (t : ByteArray) (rs : List S76) (cs : List S108) (wt : t.size ≤ maxLen) (wr : rs.length ≤ maxLen) (hw : cs.length ≤ maxLen ∧ ∀ c ∈ cs, c.f0.length ≤ maxLen ∧ ∀ p ∈ c.f0, p.f2.size ≤ maxLen) :
    ∃ r, Ev (fun k => laws_szHistory.f k a t rs cs 1048576) r ∧ (0 ≤ r → t.size ≤ 1048576 ∧ rs.length ≤ 1048576 ∧ cs.length ≤ 1048576 ∧ szOK cs) := by
  have ht : (t.size : Int) ≤ 9223372036854775807 := by simp only [maxLen] at wt; omega
  have e : wrap64 (1048576 - (t.size : Int)) = 1048576 - (t.size : Int) := w64 (by omega) (by omega)
  simp only [laws_szHistory.f, e]
  by_cases c : 1048576 - (t.size : Int) < 0
  · exact ⟨-1, Ev_t c (Ev.now _), fun h => by omega⟩
  · obtain ⟨r1, h1, h2, h3⟩ := szRunS_val rs wr (1048576 - (t.size : Int)) (by omega) (by omega)
    by_cases c1 : r1 < 0
    · exact ⟨-1, Ev_f c (Ev_bind0 h1 (Ev_t c1 (Ev.now _))), fun h => by omega⟩
    · obtain ⟨r2, h4, h5, h6⟩ := szChangeS_ev cs hw r1 (by omega) (by omega)
      by_cases c2 : r2 < 0
      · exact ⟨-1, Ev_f c (Ev_bind0 h1 (Ev_f c1 (Ev.bind h4 (Ev_t c2 (Ev.now _))))), fun h => by omega⟩
      · exact ⟨r2, Ev_f c (Ev_bind0 h1 (Ev_f c1 (Ev.bind h4 (Ev_f c2 (Ev.now _))))), fun h => ⟨by omega, h3 (by omega), (h6 h).1, (h6 h).2⟩⟩
theorem toHistory_ev (a : Int) (t : ByteArray) (rs : List S76) (cs : List S108) (hr : rs.length ≤ 1048576) (hc : cs.length ≤ 1048576) (hz : szOK cs) : Ev (fun k => laws_toHistory.f k a t rs cs) (a, t, rs.map imr, cs.map imc) := by
  simp only [laws_toHistory.f]
  have h := toRunS_ev rs hr
  exact Ev.bind h (Ev.bind (toChangeS_ev cs hc hz) (Ev.now _))
theorem eqHistory_ev (a : Int) (t : ByteArray) (rs : List S74) (cs : List S112) (hr : rs.length ≤ 1048576) (hc : cs.length ≤ 1048576) (hz : ∀ c ∈ cs, c.f0.length ≤ 1048576) : Ev (fun k => laws_eqHistory.f k a t rs cs a t rs cs) true := by
  simp only [laws_eqHistory.f]
  exact Ev_t trivial (Ev_t trivial (Ev.bind (eqRunS_ev rs (by omega)) (Ev_t rfl (Ev.bind (eqChangeS_ev cs (by omega) hz) (Ev.now _)))))
theorem imc_ok {l : List S108} (h : szOK l) : ∀ c ∈ l.map imc, c.f0.length ≤ 1048576 ∧ ∀ p ∈ c.f0, p.f2.size ≤ 1048576 := by
  intro c hc
  obtain ⟨d, hd, rfl⟩ := List.mem_map.1 hc
  exact ⟨by simpa [imc] using (h d hd).1, im_wf (h d hd).2⟩
def chainB : Int → List S112 → Bool
  | _, [] => true
  | n, c :: l => goodB c.f0 && decide (src c.f0 = n) && chainB (tgt c.f0) l
theorem specChain (l : List S112) (hl : l.length ≤ 1048576) (hz : ∀ c ∈ l, c.f0.length ≤ 1048576 ∧ ∀ p ∈ c.f0, p.f2.size ≤ 1048576) : ∀ (m i : Nat) (n : Int), i + m = l.length →
    Ev (fun k => spec_GoodHistory.l0 k n l (l.length : Int) (i : Int)) (chainB n (l.drop i)) := by
  intro m
  induction m with
  | zero =>
    intro i n hi
    refine Ev_succ ?_
    simp only [spec_GoodHistory.l0]
    rw [List.drop_of_length_le (by omega)]
    exact Ev_f (by omega) (Ev.now _)
  | succ m ih =>
    intro i n hi
    have hd := drop_cons l i z112 (by omega)
    have hc := hz _ (getD_mem (xs := l) (i := i) z112 (by omega))
    refine Ev_succ ?_
    simp only [spec_GoodHistory.l0, rd_T112_nat]
    rw [hd]
    generalize l.getD i z112 = c at hc ⊢
    rw [w64_succ (show i < l.length by omega) (by omega)]
    refine Ev_t (by omega) (Ev_t (by omega) (Ev_t (by omega) (Ev.bind (specGood_ev c.f0 hc.2 hc.1) ?_)))
    cases hg : goodB c.f0 with
    | false => exact Ev_f (by decide) (Ev_eq (Ev.now _) (by simp [chainB, hg]))
    | true =>
      refine Ev_t rfl (Ev.bind (l1Source_ev c.f0 hc.1 hg) (Ev_ite (fun h => Ev.bind (l1Target_ev c.f0 hc.1 hg) (Ev_eq (ih (i + 1) _ (by omega)) (by simp [chainB, hg, h]))) (fun h => Ev_eq (Ev.now _) (by simp [chainB, h]))))
theorem implChain (l : List S112) (hl : l.length ≤ 1048576) (hz : ∀ c ∈ l, c.f0.length ≤ 1048576 ∧ ∀ p ∈ c.f0, p.f2.size ≤ 1048576) : ∀ (m i : Nat) (n : Int), i + m = l.length →
    Ev (fun k => impl_chained.l0 k n l (l.length : Int) (i : Int)) (chainB n (l.drop i)) := by
  intro m
  induction m with
  | zero =>
    intro i n hi
    refine Ev_succ ?_
    simp only [impl_chained.l0]
    rw [List.drop_of_length_le (by omega)]
    exact Ev_f (by omega) (Ev.now _)
  | succ m ih =>
    intro i n hi
    have hd := drop_cons l i z112 (by omega)
    have hc := hz _ (getD_mem (xs := l) (i := i) z112 (by omega))
    refine Ev_succ ?_
    simp only [impl_chained.l0, rd_T112_nat]
    rw [hd]
    generalize l.getD i z112 = c at hc ⊢
    rw [w64_succ (show i < l.length by omega) (by omega)]
    refine Ev_t (by omega) (Ev_t (by omega) (Ev_t (by omega) (Ev.bind (implLengths_ev c.f0 hc.2 hc.1) ?_)))
    unfold lensG
    cases hg : goodB c.f0 with
    | false => exact Ev_f (by simp) (Ev_eq (Ev.now _) (by simp [chainB, hg]))
    | true =>
      refine Ev_t rfl (Ev_ite (fun h => Ev_eq (ih (i + 1) _ (by omega)) ?_) (fun h => Ev_eq (Ev.now _) ?_))
      · have h' : src c.f0 = n := h
        simp [chainB, hg, h']
      · have h' : ¬ src c.f0 = n := h
        simp [chainB, h']
theorem same_GoodHistory (a : Int) (t : ByteArray) (rs : List S74) (cs : List S112) (ht : t.size ≤ 1048576) (hr : rs.length ≤ 1048576) (hc : cs.length ≤ 1048576) (hz : ∀ c ∈ cs, c.f0.length ≤ 1048576 ∧ ∀ p ∈ c.f0, p.f2.size ≤ 1048576) :
    SameQ (fun r => r = true → (0 ≤ a ∧ a ≤ 60) ∧ t.size ≤ 120 ∧ (cs.length : Int) ≤ 60 - a ∧ chainB (t.size : Int) cs = true) (fun k => spec_GoodHistory.f k a t rs cs) (fun k => impl_GoodHistory.f k a t rs cs) := by
  have bad : ∀ b : Bool, b = true → Ev (fun k => spec_GoodHistory.j0 k b a t rs cs) false := by
    intro b hb
    subst hb
    refine Ev_succ ?_
    simp only [spec_GoodHistory.j0, if_true]
    exact Ev.now _
  simp only [spec_GoodHistory.f, impl_GoodHistory.f, l1In_eq, within_eq, Option.bind_some, decide_eq_true_eq]
  by_cases c1 : 0 ≤ a ∧ a ≤ 60
  · by_cases c2 : (t.size : Int) > 120
    · exact ⟨false, Ev_t c1 (Ev_t c2 (bad _ rfl)), Ev_t c1 (Ev_f (by omega) (Ev.now _)), fun h => by cases h⟩
    · obtain ⟨b, p, q, w⟩ := same_GoodRuns rs hr (t.size : Int) a
      cases b with
      | false => exact ⟨false, Ev_t c1 (Ev_f c2 (Ev.bind p (Ev_f (by decide) (bad _ rfl)))), Ev_t c1 (Ev_t (by omega) (Ev.bind q (Ev_f (by decide) (Ev.now _)))), fun h => by cases h⟩
      | true =>
        have e : wrap64 (60 - a) = 60 - a := w64 (by omega) (by omega)
        by_cases c3 : (cs.length : Int) > 60 - a
        · exact ⟨false, Ev_t c1 (Ev_f c2 (Ev.bind p (Ev_t rfl (bad _ (by rw [e]; simpa using c3))))), Ev_t c1 (Ev_t (by omega) (Ev.bind q (Ev_t rfl (Ev_f (by rw [e]; omega) (Ev.now _))))), fun h => by cases h⟩
        · have hs := specChain cs hc hz cs.length 0 (t.size : Int) (by omega)
          have hi := implChain cs hc hz cs.length 0 (t.size : Int) (by omega)
          rw [List.drop_zero] at hs hi
          refine ⟨chainB (t.size : Int) cs, Ev_t c1 (Ev_f c2 (Ev.bind p (Ev_t rfl (Ev_succ ?_)))), Ev_t c1 (Ev_t (by omega) (Ev.bind q (Ev_t rfl (Ev_t (by rw [e]; omega) ?_)))), fun h => ⟨c1, by omega, by omega, h⟩⟩
          · simp only [spec_GoodHistory.j0]
            exact Ev_f (by rw [e]; simpa using c3) hs
          · have hi' : Ev (fun k => impl_chained.f k (t.size : Int) cs) (chainB (t.size : Int) cs) := hi
            exact Ev.bind hi' (Ev.now _)
  · exact ⟨false, Ev_f c1 (bad _ rfl), Ev_f c1 (Ev.now _), fun h => by cases h⟩

theorem chain_take : ∀ (l : List S112) (n : Int) (m : Nat), chainB n l = true → chainB n (l.take m) = true := by
  intro l
  induction l with
  | nil => intro n m _; simp [chainB]
  | cons c l ih =>
    intro n m h
    cases m with
    | zero => simp [chainB]
    | succ m =>
      simp only [chainB, Bool.and_eq_true] at h
      simp only [List.take_succ_cons, chainB, Bool.and_eq_true]
      exact ⟨h.1, ih _ m h.2⟩
theorem text_loop (l : List S112) (hl : l.length ≤ 1048576) (hz : ∀ c ∈ l, c.f0.length ≤ 1048576 ∧ ∀ p ∈ c.f0, p.f2.size ≤ 1048576) : ∀ (m i : Nat) (t : ByteArray), i + m = l.length → chainB (t.size : Int) (l.drop i) = true →
    ∃ R : ByteArray, Ev (fun k => spec_l10Text.l0 k t l (l.length : Int) (i : Int)) R ∧ Ev (fun k => impl_History_text.l0 k t l (l.length : Int) (i : Int)) R := by
  intro m
  induction m with
  | zero =>
    intro i t hi _
    refine ⟨t, Ev_succ ?_, Ev_succ ?_⟩
    · simp only [spec_l10Text.l0]; exact Ev_f (by omega) (Ev.now _)
    · simp only [impl_History_text.l0]; exact Ev_f (by omega) (Ev.now _)
  | succ m ih =>
    intro i t hi hc
    have hd := drop_cons l i z112 (by omega)
    have hm := hz _ (getD_mem (xs := l) (i := i) z112 (by omega))
    have hrd := rd_T112_nat l i
    rw [hd] at hc
    generalize l.getD i z112 = c at hm hc hrd
    simp only [chainB, Bool.and_eq_true, decide_eq_true_eq] at hc
    obtain ⟨R, hR, u, v⟩ := apply_good t c.f0 hm.2 hm.1 hc.1.1 hc.1.2
    obtain ⟨R2, u2, v2⟩ := ih (i + 1) R (by omega) (by rw [hR]; exact hc.2)
    refine ⟨R2, Ev_succ ?_, Ev_succ ?_⟩
    · simp only [spec_l10Text.l0, hrd]
      rw [w64_succ (show i < l.length by omega) (by omega)]
      exact Ev_t (by omega) (Ev_t (by omega) (Ev_t (by omega) (Ev.bind u u2)))
    · simp only [impl_History_text.l0, hrd]
      rw [w64_succ (show i < l.length by omega) (by omega)]
      exact Ev_t (by omega) (Ev_t (by omega) (Ev_t (by omega) (Ev.bind v v2)))
theorem same_TextAt (a : Int) (t : ByteArray) (rs : List S74) (cs : List S112) (x : Int) (ht : t.size ≤ 1048576) (hr : rs.length ≤ 1048576) (hc : cs.length ≤ 1048576) (hz : ∀ c ∈ cs, c.f0.length ≤ 1048576 ∧ ∀ p ∈ c.f0, p.f2.size ≤ 1048576) :
    Same (fun k => spec_TextAt.f k a t rs cs x) (fun k => impl_TextAt.f k a t rs cs x) := by
  obtain ⟨b, p, q, w⟩ := same_GoodHistory a t rs cs ht hr hc hz
  simp only [spec_TextAt.f, impl_TextAt.f, spec_l10Range.f, impl_History_code.f, l1In_eq, spec_l10Head.f, impl_History_head.f, Option.bind_some, decide_eq_true_eq]
  cases b with
  | false => exact ⟨((⟨#[]⟩ : ByteArray), 1), Ev.bind (Ev.bind p (Ev_f (by decide) (Ev.now _))) (Ev_f (by decide) (Ev.now _)), Ev.bind (Ev.bind q (Ev_f (by decide) (Ev.now _))) (Ev_f (by decide) (Ev.now _))⟩
  | true =>
    obtain ⟨w1, w2, w3, w4⟩ := w rfl
    have e : wrap64 (a + (cs.length : Int)) = a + (cs.length : Int) := w64 (by omega) (by omega)
    by_cases c1 : a ≤ x ∧ x ≤ a + (cs.length : Int)
    · have e2 : wrap64 (x - a) = x - a := w64 (by omega) (by omega)
      obtain ⟨R, u, v⟩ := text_loop (cs.take (x - a).toNat) (by rw [List.length_take]; omega) (fun c hc' => hz c (List.mem_of_mem_take hc')) (cs.take (x - a).toNat).length 0 t (by omega) (by rw [List.drop_zero]; exact chain_take _ _ _ w4)
      refine ⟨(R, 0), Ev.bind (Ev.bind p (Ev_t rfl (Ev_t ⟨c1.1, Int.le_refl _⟩ (Ev_f (by rw [e]; omega) (Ev.now _))))) (Ev_t rfl (Ev.bind (a := R) ?_ (Ev.now _))), Ev.bind (Ev.bind q (Ev_t rfl (Ev_f (by omega) (Ev_f (by omega) (Ev_f (by rw [e]; omega) (Ev.now _)))))) (Ev_t rfl (Ev.bind (a := R) ?_ (Ev.now _)))⟩
      · simp only [spec_l10Text.f, e2, Option.bind_some]
        exact Ev_t (by omega) (Ev_t (by omega) u)
      · simp only [impl_History_text.f, e2, Option.bind_some]
        exact Ev_t (by omega) (Ev_t (by omega) v)
    · refine ⟨((⟨#[]⟩ : ByteArray), 2), Ev.bind (a := 2) (Ev.bind p (Ev_t rfl (Ev_ite (fun h => Ev_t (by rw [e]; omega) (Ev.now _)) (fun _ => Ev.now _)))) (Ev_f (by decide) (Ev.now _)), Ev.bind (a := 2) (Ev.bind q (Ev_t rfl (Ev_ite (fun _ => Ev.now _) (fun h => Ev_f (by omega) (Ev_t (by rw [e]; omega) (Ev.now _)))))) (Ev_f (by decide) (Ev.now _))⟩
end OfFnExactTextAt
open OfFnExactTextAt
theorem FnExactTextAt : Stated := by
  intro a t rs cs x _ wt wr wc _
  refine Ev.rounds ?_
  simp only [laws_FnExactTextAt.f]
  obtain ⟨r, h1, h2⟩ := szHistory_ev a t rs cs wt wr.1 ⟨wc.1, fun c hc => ⟨(wc.2 c hc).1, fun p hp => ((wc.2 c hc).2 p hp).2.2⟩⟩
  refine Ev.bind h1 (Ev_ite (fun _ => Ev.now _) (fun c => ?_))
  obtain ⟨g1, g2, g3, g4⟩ := h2 (by omega)
  have f1 := toHistory_ev a t rs cs g2 g3 g4
  have hz := imc_ok g4
  obtain ⟨⟨R, n⟩, p, q⟩ := same_TextAt a t (rs.map imr) (cs.map imc) x g1 (by simpa using g2) (by simpa using g3) hz
  have f2 := eqHistory_ev a t (rs.map imr) (cs.map imc) (by simpa using g2) (by simpa using g3) (fun c hc => (hz c hc).1)
  refine Ev.bind f1 (Ev.bind p (Ev.bind f1 (Ev.bind q (Ev_t rfl (Ev_succ ?_)))))
  simp only [laws_FnExactTextAt.j0]
  exact Ev_f (by simp) (Ev.bind f1 (Ev.bind f2 (Ev.now _)))
end Go.Proofs.Ytdlicabmalljpaa.Pure
