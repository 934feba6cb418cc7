/-
The pure statement of FnCovers: the printed functions of the program and of the reference answer alike for every argument within the bounds that the statement tells.
-/
import Derived.Test.YtolpglcjpknmnaaWfFnCovers
namespace Go.Proofs.Ytolpglcjpknmnaa.Pure
open Go Go.RowKit Go.Proofs.Ytolpglcjpknmnaa.PFnCovers Go.Proofs.YtolpglcjpknmnaaW.PrintWords Go.Proofs.YtolpglcjpknmnaaW.PrintLast Go.Proofs.YtolpglcjpknmnaaW.PrintMore Go.Proofs.Ytolpglcjpknmnaa.Lib
set_option linter.unusedVariables false
set_option linter.unusedSimpArgs false
namespace OfFnCovers
theorem l1In_eq (a b c : Int) : spec_l1In.f a b c = some (decide (b ≤ a ∧ a ≤ c)) := by
  simp only [spec_l1In.f]
  by_cases h : b ≤ a <;> simp [h]

theorem range_eq (a b : Int) : spec_l8Range.f a b = some (decide (0 ≤ a ∧ a ≤ b ∧ b ≤ 60)) := by
  simp only [spec_l8Range.f, l1In_eq, Option.bind_some]
  by_cases h : 0 ≤ a <;> by_cases h' : a ≤ b <;> simp [h, h']
theorem history_eq (a b : Int) : impl_isHistory.f a b = some (decide (0 ≤ a ∧ a ≤ b ∧ b ≤ 60)) := by
  simp only [impl_isHistory.f]
  by_cases h : 0 ≤ a <;> by_cases h' : a ≤ b <;> simp [h, h']
theorem six {n : Nat} (h : n < 6) : n = 0 ∨ n = 1 ∨ n = 2 ∨ n = 3 ∨ n = 4 ∨ n = 5 := by omega
theorem wu_lvl {n : Nat} (h : n < 6) : IntKind.u64.wrap (n : Int) = (n : Int) := wu64 (by omega) (by omega)
theorem shl_lvl {n : Nat} (h : n < 6) {x : Int} (h0 : 0 ≤ x) (h1 : x ≤ 1000) : shl .i64 x (n : Int) = x * 2 ^ n := by
  refine shl_nat (by omega) ?_ ?_ <;> rcases six h with rfl | rfl | rfl | rfl | rfl | rfl <;> omega
theorem shr_lvl {n : Nat} (h : n < 6) (x : Int) : shr .i64 x (n : Int) = x / 2 ^ n := shr_nat (by omega)

/-- The level of the next stratum of a cover. -/
def lvl : Nat → Nat → Nat → Nat
  | 0, _, _ => 0
  | n + 1, f, t => if f % 2 ^ (n + 1) = 0 ∧ f + 2 ^ (n + 1) ≤ t then n + 1 else lvl n f t
/-- A cover: levels and indices. -/
def cov : Nat → Nat → Nat → List (Nat × Nat)
  | 0, _, _ => []
  | d + 1, f, t => if f < t then (lvl 5 f t, f / 2 ^ lvl 5 f t) :: cov d (f + 2 ^ lvl 5 f t) t else []
def st (p : Nat × Nat) : S30 := ⟨(p.1 : Int), (p.2 : Int)⟩
theorem cov_most : ((List.range 61).all fun f => (List.range 61).all fun t => decide ((cov 60 f t).length ≤ 10 + (t - f) / 32)) = true := by decide +kernel
theorem lvl_le : ∀ (n f t : Nat), f < t → lvl n f t ≤ n ∧ f % 2 ^ lvl n f t = 0 ∧ f + 2 ^ lvl n f t ≤ t := by
  intro n
  induction n with
  | zero =>
    intro f t h
    refine ⟨Nat.le_refl _, ?_, ?_⟩
    · simp [lvl, Nat.mod_one]
    · simp only [lvl, Nat.pow_zero]; omega
  | succ n ih =>
    intro f t h
    simp only [lvl]
    split
    · rename_i c; exact ⟨Nat.le_refl _, c⟩
    · have := ih f t h; exact ⟨by omega, this.2⟩
/-- Side by side from at to t. -/
def Ch (t : Nat) : Nat → List (Nat × Nat) → Prop
  | at_, [] => at_ = t
  | at_, (n, i) :: r => n < 6 ∧ i * 2 ^ n = at_ ∧ at_ + 2 ^ n ≤ t ∧ Ch t (at_ + 2 ^ n) r
theorem cov_ch (t : Nat) : ∀ (d f : Nat), t - f ≤ d → f ≤ t → Ch t f (cov d f t) := by
  intro d
  induction d with
  | zero => intro f hd hf; simp only [cov, Ch]; omega
  | succ d ih =>
    intro f hd hf
    simp only [cov]
    split
    · rename_i c
      obtain ⟨h1, h2, h3⟩ := lvl_le 5 f t c
      have hp := Nat.two_pow_pos (lvl 5 f t)
      refine ⟨by omega, ?_, h3, ih _ (by omega) h3⟩
      exact Nat.div_mul_cancel (Nat.dvd_of_mod_eq_zero h2)
    · rename_i c; simp only [Ch]; omega
theorem cov_len (t : Nat) : ∀ (d f : Nat), (cov d f t).length ≤ d := by
  intro d
  induction d with
  | zero => intro f; simp [cov]
  | succ d ih =>
    intro f
    simp only [cov]
    split
    · simp only [List.length_cons]; have := ih (f + 2 ^ lvl 5 f t); omega
    · simp
theorem cov_step (n f t p : Nat) (hn : n + 1 < 6) (hp : 2 ^ (n + 1) = p) (h1 : 0 < p) (h2 : p ≤ 32) (hf : f < t) (ht : t ≤ 60) (acc : List S30) (ha : acc.length ≤ 60) (L0 L1 : List S30)
    (p0 : Ev (fun k => spec_l8Cover.l1 k (f : Int) (t : Int) acc (n : Int)) L0) (q0 : Ev (fun k => impl_cover.l1 k (t : Int) acc (f : Int) (n : Int)) L0)
    (p1 : Ev (fun k => spec_l8Cover.l0 k ((f + p : Nat) : Int) (t : Int) (acc ++ [st (n + 1, f / p)])) L1) (q1 : Ev (fun k => impl_cover.l0 k (t : Int) (acc ++ [st (n + 1, f / p)]) ((f + p : Nat) : Int)) L1) :
    Ev (fun k => spec_l8Cover.l1 k (f : Int) (t : Int) acc ((n + 1 : Nat) : Int)) (if f % p = 0 ∧ f + p ≤ t then L1 else L0) ∧ Ev (fun k => impl_cover.l1 k (t : Int) acc (f : Int) ((n + 1 : Nat) : Int)) (if f % p = 0 ∧ f + p ≤ t then L1 else L0) := by
  have e4 : shr .i64 (f : Int) ((n + 1 : Nat) : Int) = ((f / p : Nat) : Int) := by rw [shr_lvl hn, ← hp]; exact ((Int.natCast_ediv f (2 ^ (n + 1))).trans (by rw [Int.natCast_pow]; rfl)).symm
  have e0 : shl .i64 1 ((n + 1 : Nat) : Int) = (p : Int) := by rw [shl_lvl hn (by decide) (by decide), Int.one_mul, ← hp, Int.natCast_pow]; rfl
  have e2 : wrap64 (((n + 1 : Nat) : Int) - 1) = (n : Int) := by rw [w64 (by omega) (by omega)]; omega
  have e7 : Int.tmod (f : Int) (p : Int) = ((f % p : Nat) : Int) := by rw [Int.tmod_eq_emod_of_nonneg (Int.natCast_nonneg _)]; exact (Int.natCast_emod _ _).symm
  have e1 : wrap64 ((f : Int) + (p : Int)) = ((f + p : Nat) : Int) := by rw [w64 (by omega) (by omega)]; omega
  clear hp
  generalize f % p = m at *
  generalize f / p = q at *
  simp only [st] at p1 q1
  constructor
  · refine Ev_succ ?_
    simp only [spec_l8Cover.l1, wu_lvl hn, e0, e1, e2, e4, e7]
    refine Ev_t (by omega) (Ev_f (by omega) ?_)
    by_cases c : m = 0
    · refine Ev_t (by omega) ?_
      by_cases c2 : f + p ≤ t
      · rw [if_pos ⟨c, c2⟩]; exact Ev_f (by omega) (Ev_t (by omega) p1)
      · rw [if_neg (fun h => c2 h.2)]; exact Ev_t (by omega) p0
    · rw [if_neg (fun h => c h.1)]; exact Ev_f (by omega) p0
  · refine Ev_succ ?_
    simp only [impl_cover.l1, e0, e1, e2, e4, e7]
    refine Ev_t (by omega) (Ev_f (by omega) ?_)
    by_cases c : m = 0
    · refine Ev_t (by omega) ?_
      by_cases c2 : f + p ≤ t
      · rw [if_pos ⟨c, c2⟩]; exact Ev_f (by omega) (Ev_t (by omega) q1)
      · rw [if_neg (fun h => c2 h.2)]; exact Ev_t (by omega) q0
    · rw [if_neg (fun h => c h.1)]; exact Ev_f (by omega) q0
theorem cov_ev (t : Nat) (ht : t ≤ 60) : ∀ (d f : Nat) (acc : List S30), t - f ≤ d → d ≤ 60 → acc.length + d ≤ 60 →
    Ev (fun k => spec_l8Cover.l0 k (f : Int) (t : Int) acc) (acc ++ (cov d f t).map st) ∧ Ev (fun k => impl_cover.l0 k (t : Int) acc (f : Int)) (acc ++ (cov d f t).map st) := by
  intro d
  induction d with
  | zero =>
    intro f acc hd h6 ha
    simp only [cov, List.map_nil, List.append_nil]
    refine ⟨Ev_succ ?_, Ev_succ ?_⟩
    · simp only [spec_l8Cover.l0]; exact Ev_f (by omega) (Ev.now _)
    · simp only [impl_cover.l0]; exact Ev_f (by omega) (Ev.now _)
  | succ d ih =>
    intro f acc hd h6 ha
    by_cases hlt : f < t
    · have inner : ∀ n : Nat, n < 6 →
          Ev (fun k => spec_l8Cover.l1 k (f : Int) (t : Int) acc (n : Int)) (acc ++ st (lvl n f t, f / 2 ^ lvl n f t) :: (cov d (f + 2 ^ lvl n f t) t).map st) ∧
          Ev (fun k => impl_cover.l1 k (t : Int) acc (f : Int) (n : Int)) (acc ++ st (lvl n f t, f / 2 ^ lvl n f t) :: (cov d (f + 2 ^ lvl n f t) t).map st) := by
        intro n
        induction n with
        | zero =>
          intro hn
          have e0 : shl .i64 1 ((0 : Nat) : Int) = 1 := by rw [shl_lvl hn (by omega) (by omega)]; rfl
          have e4 : shr .i64 (f : Int) ((0 : Nat) : Int) = ((f / 2 ^ 0 : Nat) : Int) := by rw [shr_lvl hn]; simp
          obtain ⟨p, q⟩ := ih (f + 1) (acc ++ [st (0, f / 2 ^ 0)]) (by omega) (by omega) (by simp; omega)
          rw [List.append_assoc, List.singleton_append] at p q
          have e1 : wrap64 ((f : Int) + 1) = ((f + 1 : Nat) : Int) := w64_succ hlt (by omega)
          have e3 : Int.tmod (f : Int) 1 = 0 := Int.tmod_one _
          refine ⟨Ev_succ ?_, Ev_succ ?_⟩
          · simp only [spec_l8Cover.l1, wu_lvl hn, e0, e1, e4]
            exact Ev_t (by omega) (Ev_f (by omega) (Ev_t e3 (Ev_f (by omega) (Ev_t (by omega) p))))
          · simp only [impl_cover.l1, e0, e1, e4]
            exact Ev_t (by omega) (Ev_f (by omega) (Ev_t e3 (Ev_f (by omega) (Ev_t (by omega) q))))
        | succ n ihn =>
          intro hn
          obtain ⟨p0, q0⟩ := ihn (by omega)
          have e6 : 2 ^ (n + 1) ≤ 32 := by rcases six hn with h | h | h | h | h | h <;> rw [h] <;> decide
          have e5 : 0 < 2 ^ (n + 1) := Nat.two_pow_pos _
          obtain ⟨p1, q1⟩ : _ ∧ _ := ih (f + 2 ^ (n + 1)) (acc ++ [st (n + 1, f / 2 ^ (n + 1))]) (by omega) (by omega) (by simp; omega)
          rw [List.append_assoc, List.singleton_append] at p1 q1
          have hs := cov_step n f t (2 ^ (n + 1)) hn rfl e5 e6 hlt ht acc (by omega) _ _ p0 q0 p1 q1
          have el : lvl (n + 1) f t = if f % 2 ^ (n + 1) = 0 ∧ f + 2 ^ (n + 1) ≤ t then n + 1 else lvl n f t := rfl
          rw [el]
          by_cases c : f % 2 ^ (n + 1) = 0 ∧ f + 2 ^ (n + 1) ≤ t
          · rw [if_pos c] at hs ⊢; exact hs
          · rw [if_neg c] at hs ⊢; exact hs
      obtain ⟨p, q⟩ := inner 5 (by omega)
      have ec : cov (d + 1) f t = (lvl 5 f t, f / 2 ^ lvl 5 f t) :: cov d (f + 2 ^ lvl 5 f t) t := by simp only [cov]; rw [if_pos hlt]
      rw [ec, List.map_cons]
      refine ⟨Ev_succ ?_, Ev_succ ?_⟩
      · simp only [spec_l8Cover.l0]; exact Ev_t (by omega) p
      · simp only [impl_cover.l0]; exact Ev_t (by omega) q
    · have ec : cov (d + 1) f t = [] := by simp only [cov]; rw [if_neg hlt]
      rw [ec, List.map_nil, List.append_nil]
      refine ⟨Ev_succ ?_, Ev_succ ?_⟩
      · simp only [spec_l8Cover.l0]; exact Ev_f (by omega) (Ev.now _)
      · simp only [impl_cover.l0]; exact Ev_f (by omega) (Ev.now _)
/-! all strata: each that lies within is there -/
theorem all_lvl (f h n : Nat) (hn : n < 6) (hf : f ≤ h) (hh : h ≤ 60) (good : List S30 → Prop) : ∀ (m i : Nat) (acc : List S30), m = h / 2 ^ n - i → i ≤ 60 → f ≤ i * 2 ^ n → acc.length + m ≤ 1000 →
    (∀ acc' : List S30, acc'.length ≤ acc.length + m → (∀ x ∈ acc, x ∈ acc') → (∀ j, i ≤ j → j < h / 2 ^ n → st (n, j) ∈ acc') → ∃ r, good r ∧ Ev (fun k => impl_allStrata.l0 k (f : Int) (h : Int) acc' ((n + 1 : Nat) : Int)) r) →
    ∃ r, good r ∧ Ev (fun k => impl_allStrata.l1 k (f : Int) (h : Int) acc (n : Int) (i : Int) (n : Int)) r := by
  intro m
  induction m with
  | zero =>
    intro i acc hi h6 hp ha hr
    obtain ⟨r, g, e⟩ := hr acc (by omega) (fun _ hx => hx) (fun j h1 h2 => by omega)
    refine ⟨r, g, Ev_succ ?_⟩
    simp only [impl_allStrata.l1]
    rw [w64 (n := (i : Int) + 1) (by omega) (by omega), shl_lvl hn (by omega) (by omega), w64_succ hn (by omega)]
    refine Ev_t (by omega) (Ev_f ?_ e)
    rcases six hn with rfl | rfl | rfl | rfl | rfl | rfl <;> omega
  | succ m ih =>
    intro i acc hi h6 hp ha hr
    have hi59 : i + 1 ≤ 60 := by rcases six hn with rfl | rfl | rfl | rfl | rfl | rfl <;> omega
    obtain ⟨r, g, e⟩ := ih (i + 1) (acc ++ [st (n, i)]) (by omega) hi59 (by rcases six hn with rfl | rfl | rfl | rfl | rfl | rfl <;> omega) (by simp; omega) (fun acc' h1 h2 h3 => hr acc' (by simp at h1; omega) (fun x hx => h2 x (by simp [hx])) (fun j h4 h5 => by
      by_cases hj : j = i
      · subst hj; exact h2 _ (by simp)
      · exact h3 j (by omega) h5))
    refine ⟨r, g, Ev_succ ?_⟩
    simp only [impl_allStrata.l1]
    rw [w64 (n := (i : Int) + 1) (by omega) (by omega), shl_lvl hn (by omega) (by omega)]
    refine Ev_t (by omega) (Ev_t ?_ (Ev_t (by omega) e))
    rcases six hn with rfl | rfl | rfl | rfl | rfl | rfl <;> omega
theorem all_lvls (f h : Nat) (hf : f ≤ h) (hh : h ≤ 60) : ∀ (d n : Nat) (acc : List S30), n + d = 6 → acc.length ≤ 61 * n → (∀ n' j, n' < n → f ≤ j * 2 ^ n' → (j + 1) * 2 ^ n' ≤ h → st (n', j) ∈ acc) →
    ∃ L : List S30, (L.length ≤ 366 ∧ ∀ n' j, n' < 6 → f ≤ j * 2 ^ n' → (j + 1) * 2 ^ n' ≤ h → st (n', j) ∈ L) ∧ Ev (fun k => impl_allStrata.l0 k (f : Int) (h : Int) acc (n : Int)) L := by
  intro d
  induction d with
  | zero =>
    intro n acc hn ha hw
    obtain rfl : n = 6 := by omega
    refine ⟨acc, ⟨by omega, hw⟩, Ev_succ ?_⟩
    simp only [impl_allStrata.l0]
    exact Ev_f (by omega) (Ev.now _)
  | succ d ih =>
    intro n acc hn ha hw
    have hn6 : n < 6 := by omega
    have e0 : shr .i64 (wrap64 (wrap64 ((f : Int) + shl .i64 1 (n : Int)) - 1)) (n : Int) = (((f + 2 ^ n - 1) / 2 ^ n : Nat) : Int) := by
      rw [shl_lvl hn6 (by omega) (by omega)]
      rw [w64 (n := (f : Int) + 1 * 2 ^ n) (by rcases six hn6 with rfl | rfl | rfl | rfl | rfl | rfl <;> omega) (by rcases six hn6 with rfl | rfl | rfl | rfl | rfl | rfl <;> omega)]
      rw [w64 (n := (f : Int) + 1 * 2 ^ n - 1) (by rcases six hn6 with rfl | rfl | rfl | rfl | rfl | rfl <;> omega) (by rcases six hn6 with rfl | rfl | rfl | rfl | rfl | rfl <;> omega)]
      rw [shr_lvl hn6]
      rcases six hn6 with rfl | rfl | rfl | rfl | rfl | rfl <;> omega
    have hq : h / 2 ^ n ≤ 60 := Nat.le_trans (Nat.div_le_self _ _) hh
    have hm' : h / 2 ^ n - (f + 2 ^ n - 1) / 2 ^ n ≤ 60 := Nat.le_trans (Nat.sub_le _ _) hq
    obtain ⟨L, g, e⟩ := all_lvl f h n hn6 hf hh (fun L => L.length ≤ 366 ∧ ∀ n' j, n' < 6 → f ≤ j * 2 ^ n' → (j + 1) * 2 ^ n' ≤ h → st (n', j) ∈ L) (h / 2 ^ n - (f + 2 ^ n - 1) / 2 ^ n) ((f + 2 ^ n - 1) / 2 ^ n) acc rfl
      (by rcases six hn6 with rfl | rfl | rfl | rfl | rfl | rfl <;> omega) (by rcases six hn6 with rfl | rfl | rfl | rfl | rfl | rfl <;> omega) (by omega)
      (fun acc' h1 h2 h3 => ih (n + 1) acc' (by omega) (by omega) (fun n' j g1 g2 g3 => by
        by_cases c : n' = n
        · subst c
          refine h3 j ?_ ?_
          · rcases six hn6 with rfl | rfl | rfl | rfl | rfl | rfl <;> omega
          · rcases six hn6 with rfl | rfl | rfl | rfl | rfl | rfl <;> omega
        · exact h2 _ (hw n' j (by omega) g2 g3)))
    refine ⟨L, g, Ev_succ ?_⟩
    simp only [impl_allStrata.l0]
    refine Ev_t (by omega) (Ev_t (by omega) ?_)
    rw [e0]
    exact e
/-! the law's loops -/
theorem found_ev (x5 x6 : Int) (x7 all : List S30) (x13 : Int) (x62 : List S30) (x63 x64 : Int) (s : S30) (hall : all.length ≤ 366) (r : Bool)
    (hr : Ev (fun k => laws_FnCovers.l1 k x5 x6 x7 all x13 true x62 x63 x64 all (all.length : Int) (all.length : Int) s.f0 s.f1) r) : ∀ (m i : Nat) (b : Bool), i + m = all.length → (b = true ∨ s ∈ all.drop i) →
    Ev (fun k => laws_FnCovers.l1 k x5 x6 x7 all x13 b x62 x63 x64 all (all.length : Int) (i : Int) s.f0 s.f1) r := by
  intro m
  induction m with
  | zero =>
    intro i b hi hb
    have : all.drop i = [] := List.drop_of_length_le (by omega)
    rw [this] at hb
    have hb' : b = true := hb.elim id (fun h => by simp at h)
    subst hb'
    obtain rfl : i = all.length := by omega
    exact hr
  | succ m ih =>
    intro i b hi hb
    have hdrop := drop_cons all i z30 (by omega)
    have hrd : rd_T30 all (i : Int) = all.getD i z30 := by simp [rd_T30]
    rw [hdrop] at hb
    refine Ev_succ ?_
    simp only [laws_FnCovers.l1, hrd]
    rw [w64_succ (show i < all.length by omega) (by omega)]
    generalize all.getD i z30 = y at hb
    refine Ev_t (by omega) (Ev_t (by omega) (Ev_t (by omega) ?_))
    cases b with
    | true => exact Ev_t rfl (ih (i + 1) true (by omega) (.inl rfl))
    | false =>
      refine Ev_f (by decide) (ih (i + 1) _ (by omega) ?_)
      rcases hb with hb | hb
      · cases hb
      · rcases List.mem_cons.1 hb with rfl | hb
        · left; simp
        · right; exact hb
theorem law_loop (f h : Nat) (from_ to_ : Nat) (hf : f ≤ from_) (hto : to_ ≤ h) (hh : h ≤ 60) (hft : from_ ≤ to_) (L : List S30) (hlen : L.length ≤ 10 + (to_ - from_) / 32) (all : List S30) (hall : all.length ≤ 366) (hmem : ∀ n j, n < 6 → f ≤ j * 2 ^ n → (j + 1) * 2 ^ n ≤ h → st (n, j) ∈ all) : ∀ (P : List (Nat × Nat)) (i at_ : Nat), L.drop i = P.map st → i + P.length = L.length → f ≤ at_ → Ch to_ at_ P →
    Ev (fun k => laws_FnCovers.l0 k (from_ : Int) (to_ : Int) L all (at_ : Int) L (L.length : Int) (i : Int)) true := by
  intro P
  induction P with
  | nil =>
    intro i at_ hd hi hat hc
    obtain rfl : at_ = to_ := hc
    refine Ev_succ ?_
    simp only [laws_FnCovers.l0]
    refine Ev_f (by simp at hi; omega) ?_
    simp only [impl_MostFetched.f, history_eq, Option.bind_some]
    rw [show decide (0 ≤ (from_ : Int) ∧ (from_ : Int) ≤ (at_ : Int) ∧ (at_ : Int) ≤ 60) = true from decide_eq_true (by omega)]
    simp only [if_true, Option.bind_some]
    rw [w64 (n := (at_ : Int) - (from_ : Int)) (by omega) (by omega), w64 (by omega) (by omega)]
    refine Ev_eq (Ev.now _) ?_
    simp only [decide_eq_true_eq]
    omega
  | cons p P ih =>
    intro i at_ hd hi hat hc
    obtain ⟨n, j⟩ := p
    obtain ⟨h1, h2, h3, h4⟩ := hc
    simp only [List.length_cons] at hi
    have hdrop := drop_cons L i z30 (by omega)
    have hrd : rd_T30 L (i : Int) = L.getD i z30 := by simp [rd_T30]
    rw [hdrop, List.map_cons] at hd
    injection hd with hd1 hd2
    have hp : 0 < 2 ^ n := Nat.two_pow_pos n
    have h5 : (j + 1) * 2 ^ n ≤ h := by rw [Nat.succ_mul]; omega
    have hm := hmem n j h1 (by omega) h5
    have hj : j ≤ 60 := by have := Nat.le_mul_of_pos_right j hp; omega
    have hj' : (j : Int) ≤ 1000 := by clear hm h2 h5 hp h4 ih; omega
    have hi' : i + 1 + P.length = L.length := by rw [Nat.add_assoc, Nat.add_comm 1]; exact hi
    have hiL : i < L.length := by clear hm h2 h5 hp h4 ih h3; omega
    have hL9 : L.length ≤ 9223372036854775807 := by clear hm h2 h5 hp h4 ih h3; omega
    have eA : shl .i64 (j : Int) (n : Int) = (at_ : Int) := by rw [shl_lvl h1 (Int.natCast_nonneg _) hj', ← h2, Int.natCast_mul, Int.natCast_pow]; rfl
    have eB : wrap64 ((at_ : Int) + shl .i64 1 (n : Int)) = ((at_ + 2 ^ n : Nat) : Int) := by
      rw [shl_lvl h1 (by decide) (by decide), Int.one_mul, show ((2 : Int) ^ n) = ((2 ^ n : Nat) : Int) from (Int.natCast_pow 2 n).symm]
      have h6 : at_ + 2 ^ n ≤ 60 := Nat.le_trans h3 (Nat.le_trans hto hh)
      clear hm h2 h5 hp h4 ih h3 hd2 hd1
      generalize 2 ^ n = q at *
      rw [w64 (by omega) (by omega)]
      exact (Int.natCast_add _ _).symm
    have eC := w64_succ hiL hL9
    have eD : wrap64 ((i : Int) + 1) = ((i + 1 : Nat) : Int) := eC
    have hf9 : f ≤ at_ + 2 ^ n := Nat.le_trans hat (Nat.le_add_right _ _)
    have hr := ih (i + 1) (at_ + 2 ^ n) hd2 hi' hf9 h4
    clear ih hd2 hi' hf9 h4 h2 h3 h5 hp
    refine Ev_succ ?_
    simp only [laws_FnCovers.l0, hrd, hd1]
    refine Ev_t (Int.ofNat_lt.mpr hiL) (Ev_t (Int.natCast_nonneg _) (Ev_t (Int.ofNat_lt.mpr hiL) ?_))
    refine found_ev _ _ _ all _ _ _ _ (st (n, j)) hall true ?_ all.length 0 false (Nat.zero_add _) (.inr hm)
    refine Ev_succ ?_
    simp only [laws_FnCovers.l1]
    refine Ev_f (Int.lt_irrefl _) (Ev_t trivial ?_)
    simp only [st, wu_lvl h1]
    rw [eA, eB, eD]
    exact Ev_t (Int.natCast_nonneg _) (Ev_t rfl hr)
theorem u64_rng (x : Int) : 0 ≤ IntKind.u64.wrap x ∧ IntKind.u64.wrap x < 18446744073709551616 := by
  unfold IntKind.wrap
  simp [IntKind.signed, IntKind.bits]
  omega
theorem and255 (x : Int) (h0 : 0 ≤ x) (h1 : x < 18446744073709551616) : 0 ≤ Go.bits .and .u64 x 255 ∧ Go.bits .and .u64 x 255 ≤ 255 := by
  obtain ⟨n, rfl⟩ := Int.eq_ofNat_of_zero_le h0
  have h := Go.bits_and_u64_nat n 255 (by omega) (by omega)
  have h2 : n &&& 255 ≤ 255 := Nat.and_le_right
  rw [show ((255 : Int)) = ((255 : Nat) : Int) from rfl, h]
  omega
theorem next_ev (l : List Int) (hw : ∀ x ∈ l, 0 ≤ x ∧ x ≤ 255) (hl : l.length ≤ 1048576) (a s : Int) (h0 : 0 ≤ a) (h1 : a ≤ 1000) : ∃ r a' s', spec_l1Cur_next.f l a s = some (r, a', s') ∧ 0 ≤ r ∧ r ≤ 255 ∧ a' = a + 1 := by
  have hrd : ∀ i : Int, 0 ≤ i → i < l.length → 0 ≤ rd l i ∧ rd l i ≤ 255 := fun i g0 g1 => by
    obtain ⟨n, rfl⟩ := Int.eq_ofNat_of_zero_le g0
    rw [rd_nat]
    rw [List.getD_eq_getElem?_getD, List.getElem?_eq_getElem (show n < l.length by omega)]
    exact hw _ (List.getElem_mem _)
  have hand : ∀ y : Int, 0 ≤ wrap64 (Go.bits .and .u64 (IntKind.u64.wrap y / 1099511627776) 255) ∧ wrap64 (Go.bits .and .u64 (IntKind.u64.wrap y / 1099511627776) 255) ≤ 255 := fun y => by
    have h2 := u64_rng y
    have h3 := and255 (IntKind.u64.wrap y / 1099511627776) (by omega) (by omega)
    rw [w64 (by omega) (by omega)]
    exact h3
  simp only [spec_l1Cur_next.f]
  rw [w64 (n := a + 1) (by omega) (by omega)]
  by_cases c1 : a < (l.length : Int)
  · rw [if_pos c1, if_pos h0]
    have h2 := hrd a h0 c1
    by_cases c2 : a + 1 ≤ (l.length : Int)
    · rw [if_pos c2]
      rw [w64 (n := rd l a) (by omega) (by omega)]
      exact ⟨_, _, _, rfl, h2.1, h2.2, rfl⟩
    · rw [if_neg c2]
      exact ⟨_, _, _, rfl, (hand _).1, (hand _).2, rfl⟩
  · rw [if_neg c1]
    by_cases c2 : a + 1 ≤ (l.length : Int)
    · rw [if_pos c2]
      exact ⟨_, _, _, rfl, by omega, by omega, rfl⟩
    · rw [if_neg c2]
      exact ⟨_, _, _, rfl, (hand _).1, (hand _).2, rfl⟩
theorem pick_ev (l : List Int) (hw : ∀ x ∈ l, 0 ≤ x ∧ x ≤ 255) (hl : l.length ≤ 1048576) (a s n : Int) (h0 : 0 ≤ a) (h1 : a ≤ 900) (hn : 1 ≤ n) : ∃ r a' s', spec_l1Cur_pick.f l a s n = some (r, a', s') ∧ 0 ≤ r ∧ r < n ∧ a ≤ a' ∧ a' ≤ a + 2 := by
  simp only [spec_l1Cur_pick.f]
  by_cases c1 : n ≤ 1
  · rw [if_pos c1]; exact ⟨_, _, _, rfl, by omega, by omega, by omega, by omega⟩
  rw [if_neg c1]
  obtain ⟨r, a', s', e, g0, g1, g2⟩ := next_ev l hw hl a s h0 (by omega)
  rw [e]
  simp only [Option.bind_some]
  by_cases c2 : n > 200
  · rw [if_pos c2]
    obtain ⟨r2, a2, s2, e2, k0, k1, k2⟩ := next_ev l hw hl a' s' (by omega) (by omega)
    rw [e2]
    simp only [Option.bind_some]
    rw [if_neg (by omega), w64 (n := r * 256) (by omega) (by omega), w64 (n := r * 256 + r2) (by omega) (by omega), Int.tmod_eq_emod_of_nonneg (by omega)]
    exact ⟨_, _, _, rfl, Int.emod_nonneg _ (by omega), Int.emod_lt_of_pos _ (by omega), by omega, by omega⟩
  · rw [if_neg c2, if_neg (by omega), Int.tmod_eq_emod_of_nonneg (by omega)]
    exact ⟨_, _, _, rfl, Int.emod_nonneg _ (by omega), Int.emod_lt_of_pos _ (by omega), by omega, by omega⟩
theorem one_ev (l : List Int) (hw : ∀ x ∈ l, 0 ≤ x ∧ x ≤ 255) (hl : l.length ≤ 1048576) (a s n : Int) (h0 : 0 ≤ a) (h1 : a ≤ 900) (hn : 1 ≤ n) : ∃ r a' s', spec_l1Cur_one.f l a s n = some (r, a', s') ∧ a ≤ a' ∧ a' ≤ a + 2 := by
  obtain ⟨r, a', s', e, _, _, g2, g3⟩ := pick_ev l hw hl a s n h0 h1 hn
  simp only [spec_l1Cur_one.f]
  rw [e]
  exact ⟨_, _, _, rfl, g2, g3⟩
theorem among_ev (l : List Int) (hw : ∀ x ∈ l, 0 ≤ x ∧ x ≤ 255) (hl : l.length ≤ 1048576) (a s : Int) (g : List Int) (h0 : 0 ≤ a) (h1 : a ≤ 900) (hn : 1 ≤ g.length) : ∃ r a' s', spec_l1Cur_among.f l a s g = some (r, a', s') ∧ a ≤ a' ∧ a' ≤ a + 2 := by
  obtain ⟨r, a', s', e, g0, g1, g2, g3⟩ := pick_ev l hw hl a s (g.length : Int) h0 h1 (by omega)
  simp only [spec_l1Cur_among.f]
  rw [e]
  simp only [Option.bind_some]
  rw [if_pos g0, if_pos g1]
  exact ⟨_, _, _, rfl, g2, g3⟩
theorem revision_ev (l : List Int) (hw : ∀ x ∈ l, 0 ≤ x ∧ x ≤ 255) (hl : l.length ≤ 1048576) (a s : Int) (h0 : 0 ≤ a) (h1 : a ≤ 800) : ∃ r a' s', spec_l1Cur_revision.f l a s = some (r, a', s') ∧ a ≤ a' ∧ a' ≤ a + 4 := by
  simp only [spec_l1Cur_revision.f]
  obtain ⟨r, a', s', e, g2, g3⟩ := one_ev l hw hl a s 20 h0 (by omega) (by omega)
  rw [e]
  simp only [Option.bind_some]
  cases r with
  | true =>
    rw [if_pos rfl]
    obtain ⟨r2, a2, s2, e2, k2, k3⟩ := among_ev l hw hl a' s' [(-1), 0, 32, 60, 61, 9223372036854775807] (by omega) (by omega) (by simp)
    rw [e2]
    simp only [Option.bind_some]
    exact ⟨_, _, _, rfl, by omega, by omega⟩
  | false =>
    rw [if_neg (by decide)]
    obtain ⟨r2, a2, s2, e2, _, _, k2, k3⟩ := pick_ev l hw hl a' s' 61 (by omega) (by omega) (by omega)
    rw [e2]
    simp only [Option.bind_some]
    exact ⟨_, _, _, rfl, by omega, by omega⟩
theorem rangeOf_ev (l : List Int) (hw : ∀ x ∈ l, 0 ≤ x ∧ x ≤ 255) (hl : l.length ≤ 1048576) (a s : Int) (h0 : 0 ≤ a) (h1 : a ≤ 700) : ∃ r r2 a' s', spec_l1Cur_rangeOf.f l a s = some (r, r2, a', s') ∧ a ≤ a' ∧ a' ≤ a + 10 := by
  simp only [spec_l1Cur_rangeOf.f]
  obtain ⟨r, a', s', e, g2, g3⟩ := revision_ev l hw hl a s h0 (by omega)
  rw [e]
  simp only [Option.bind_some]
  obtain ⟨r2, a2, s2, e2, k2, k3⟩ := revision_ev l hw hl a' s' (by omega) (by omega)
  rw [e2]
  simp only [Option.bind_some]
  by_cases c : r > r2
  · rw [if_pos c]
    obtain ⟨r3, a3, s3, e3, m2, m3⟩ := one_ev l hw hl a2 s2 12 (by omega) (by omega) (by omega)
    rw [e3]
    simp only [Option.bind_some]
    cases r3 with
    | true => exact ⟨_, _, _, _, rfl, by omega, by omega⟩
    | false => exact ⟨_, _, _, _, rfl, by omega, by omega⟩
  · rw [if_neg c]
    exact ⟨_, _, _, _, rfl, by omega, by omega⟩
theorem draw_cover (l : List Int) (hl : l.length ≤ 1048576) (hw : ∀ x ∈ l, 0 ≤ x ∧ x ≤ 255) : ∃ r, spec_DrawCoverOf.f l = some r := by
  simp only [spec_DrawCoverOf.f]
  obtain ⟨f, h, a, s, e, g2, g3⟩ := rangeOf_ev l hw hl 0 0 (by omega) (by omega)
  rw [e]
  simp only [Option.bind_some]
  obtain ⟨p1, a1, s1, e1, _, _, k2, k3⟩ := pick_ev l hw hl a s 9 (by omega) (by omega) (by omega)
  rw [e1]
  simp only [Option.bind_some]
  obtain ⟨p2, a2, s2, e2, _, _, m2, m3⟩ := pick_ev l hw hl a1 s1 9 (by omega) (by omega) (by omega)
  rw [e2]
  simp only [Option.bind_some]
  by_cases c : wrap64 (f + p1) > wrap64 (h - p2)
  · rw [if_pos c]
    obtain ⟨r3, a3, s3, e3, _, _⟩ := one_ev l hw hl a2 s2 6 (by omega) (by omega) (by omega)
    rw [e3]
    simp only [Option.bind_some]
    cases r3 with
    | true => exact ⟨_, rfl⟩
    | false => exact ⟨_, rfl⟩
  · rw [if_neg c]
    exact ⟨_, rfl⟩
end OfFnCovers
open OfFnCovers
theorem FnCovers : Stated := by
  intro l w0
  refine Ev.rounds ?_
  simp only [laws_FnCovers.f]
  refine Ev_ite (fun _ => Ev.now _) (fun hl => ?_)
  obtain ⟨⟨a0, a1, a2, a3⟩, hd⟩ := draw_cover l (by omega) (fun x hx => wf8 (w0.2 x hx))
  rw [hd]
  simp only [Option.bind_some]
  by_cases c : (0 ≤ a0 ∧ a0 ≤ a1 ∧ a1 ≤ 60) ∧ a0 ≤ a2 ∧ a2 ≤ a3 ∧ a3 ≤ a1
  · obtain ⟨f, rfl⟩ := Int.eq_ofNat_of_zero_le (show 0 ≤ a0 by omega)
    obtain ⟨h, rfl⟩ := Int.eq_ofNat_of_zero_le (show 0 ≤ a1 by omega)
    obtain ⟨b, rfl⟩ := Int.eq_ofNat_of_zero_le (show 0 ≤ a2 by omega)
    obtain ⟨t, rfl⟩ := Int.eq_ofNat_of_zero_le (show 0 ≤ a3 by omega)
    obtain ⟨p, q⟩ := cov_ev t (by omega) 60 b [] (by omega) (by omega) (by simp)
    rw [List.nil_append] at p q
    have hlen : (cov 60 b t).length ≤ 10 + (t - b) / 32 := by
      have h1 := List.all_eq_true.1 cov_most b (List.mem_range.2 (by omega))
      have h2 := List.all_eq_true.1 h1 t (List.mem_range.2 (by omega))
      exact of_decide_eq_true h2
    have e1 : Ev (fun k => impl_CoverOf.f k (f : Int) (h : Int) (b : Int) (t : Int)) ((cov 60 b t).map st, true) := by
      simp only [impl_CoverOf.f, impl_cover.f, history_eq, Option.bind_some, c.1, and_self, decide_true, if_true]
      exact Ev_f (by omega) (Ev_f (by omega) (Ev_f (by omega) (Ev.bind q (Ev.now _))))
    have e2 : Ev (fun k => spec_CoverOf.f k (f : Int) (h : Int) (b : Int) (t : Int)) ((cov 60 b t).map st, true) := by
      simp only [spec_CoverOf.f, spec_l8Cover.f, range_eq, l1In_eq, Option.bind_some, c.1, and_self, decide_true, if_true, show (f : Int) ≤ (b : Int) ∧ (b : Int) ≤ (t : Int) from ⟨c.2.1, c.2.2.1⟩]
      exact Ev_f (by omega) (Ev.bind p (Ev.now _))
    obtain ⟨A, ⟨hA, hm⟩, e3⟩ := all_lvls f h (by omega) (by omega) 6 0 [] (by omega) (by simp) (fun n' j g => by omega)
    have e4 : Ev (fun k => impl_AllStrata.f k (f : Int) (h : Int)) (A, true) := by
      simp only [impl_AllStrata.f, impl_allStrata.f, history_eq, Option.bind_some, c.1, and_self, decide_true, if_true]
      exact Ev.bind e3 (Ev.now _)
    refine Ev.bind e1 (Ev.bind e2 (Ev_f (by simp) (Ev_t rfl (Ev.bind e4 ?_))))
    exact law_loop f h b t (by omega) (by omega) (by omega) (by omega) _ (by simpa using hlen) A hA hm (cov 60 b t) 0 b rfl (by simp) (by omega) (cov_ch t 60 b (by omega) (by omega))
  · have e1 : Ev (fun k => impl_CoverOf.f k a0 a1 a2 a3) (([] : List S30), false) := by
      simp only [impl_CoverOf.f, history_eq, Option.bind_some, decide_eq_true_eq]
      refine Ev_ite (fun h1 => Ev_ite (fun _ => Ev.now _) (fun h2 => Ev_ite (fun _ => Ev.now _) (fun h3 => Ev_t (by omega) (Ev.now _)))) (fun _ => Ev.now _)
    have e2 : Ev (fun k => spec_CoverOf.f k a0 a1 a2 a3) (([] : List S30), false) := by
      simp only [spec_CoverOf.f, range_eq, l1In_eq, Option.bind_some, decide_eq_true_eq]
      refine Ev_ite (fun h1 => Ev_ite (fun h2 => Ev_t (by omega) (Ev.now _)) (fun _ => Ev.now _)) (fun _ => Ev.now _)
    refine Ev.bind e1 (Ev.bind e2 (Ev_f (by simp) (Ev_f (by decide) (Ev_eq (Ev.now _) ?_))))
    simp
end Go.Proofs.Ytolpglcjpknmnaa.Pure
