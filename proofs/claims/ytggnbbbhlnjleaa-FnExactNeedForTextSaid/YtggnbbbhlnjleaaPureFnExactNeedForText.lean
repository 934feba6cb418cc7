/-
The pure statement of FnExactNeedForText: the printed functions of the program and of the reference answer alike for every argument within the bounds that the statement tells.
-/
import Derived.Test.YtggnbbbhlnjleaaWfFnExactNeedForText
namespace Go.Proofs.Ytggnbbbhlnjleaa.Pure
open Go Go.RowKit Go.Proofs.Ytggnbbbhlnjleaa.PFnExactNeedForText Go.Proofs.YtggnbbbhlnjleaaW.PrintWords Go.Proofs.YtggnbbbhlnjleaaW.PrintLast Go.Proofs.YtggnbbbhlnjleaaW.PrintMore Go.Proofs.Ytggnbbbhlnjleaa.Lib
set_option linter.unusedVariables false
set_option linter.unusedSimpArgs false
namespace OfFnExactNeedForText
theorem within_eq (a b c : Int) : impl_within.f a b c = some (decide (b ≤ a ∧ a ≤ c)) := by
  simp only [impl_within.f]
  by_cases h : b ≤ a <;> simp [h]

theorem l1In_eq (a b c : Int) : spec_l1In.f a b c = some (decide (b ≤ a ∧ a ≤ c)) := by
  simp only [spec_l1In.f]
  by_cases h : b ≤ a <;> simp [h]

theorem toByteS_ev (l : List Int) (hl : l.length ≤ 1048576) : Ev (fun k => laws_toByteS.f k l) l := by
  have h := fill_ev (g := fun k x i => laws_toByteS.l0 k l x i) l 0 (fun x => x)
    (fun x i hx hi hr => Ev_succ (by
      simp only [laws_toByteS.l0]
      refine Ev_t (by omega) (Ev_t (by omega) (Ev_t (by omega) ?_))
      rw [w64_succ hi (by omega)]
      simpa [rd_nat] using hr))
    (fun x hx => Ev_succ (by simp only [laws_toByteS.l0]; exact Ev_f (by omega) (Ev.now _)))
    (List.replicate l.length 0) (by simp)
  rw [map_same] at h
  refine Ev.congr (fun k => ?_) h
  simp only [laws_toByteS.f]
  rw [if_pos (by omega), if_pos (by simp; omega)]
  simp

theorem eqByteS_ev (l : List Int) (hl : l.length ≤ 4611686018427387904) : Ev (fun k => laws_eqByteS.f k l l) true := by
  have h := all_ev (g := fun k i => laws_eqByteS.l0 k l l i) (r := true) l.length
    (fun i hi hr => Ev_succ (by
      simp only [laws_eqByteS.l0]
      refine Ev_t (by omega) (Ev_t (by omega) (Ev_t (by omega) (Ev_t trivial ?_)))
      rw [w64_succ hi (by omega)]; exact hr))
    (Ev_succ (by simp only [laws_eqByteS.l0]; exact Ev_f (by omega) (Ev.now _)))
  refine Ev.congr (fun k => ?_) h
  simp only [laws_eqByteS.f]; rw [if_pos trivial]

theorem toIntS_ev (l : List Int) (hl : l.length ≤ 1048576) : Ev (fun k => laws_toIntS.f k l) l := by
  have h := fill_ev (g := fun k x i => laws_toIntS.l0 k l x i) l 0 (fun x => x)
    (fun x i hx hi hr => Ev_succ (by
      simp only [laws_toIntS.l0]
      refine Ev_t (by omega) (Ev_t (by omega) (Ev_t (by omega) ?_))
      rw [w64_succ hi (by omega)]
      simpa [rd_nat] using hr))
    (fun x hx => Ev_succ (by simp only [laws_toIntS.l0]; exact Ev_f (by omega) (Ev.now _)))
    (List.replicate l.length 0) (by simp)
  rw [map_same] at h
  refine Ev.congr (fun k => ?_) h
  simp only [laws_toIntS.f]
  rw [if_pos (by omega), if_pos (by simp; omega)]
  simp

theorem eqIntS_ev (l : List Int) (hl : l.length ≤ 4611686018427387904) : Ev (fun k => laws_eqIntS.f k l l) true := by
  have h := all_ev (g := fun k i => laws_eqIntS.l0 k l l i) (r := true) l.length
    (fun i hi hr => Ev_succ (by
      simp only [laws_eqIntS.l0]
      refine Ev_t (by omega) (Ev_t (by omega) (Ev_t (by omega) (Ev_t trivial ?_)))
      rw [w64_succ hi (by omega)]; exact hr))
    (Ev_succ (by simp only [laws_eqIntS.l0]; exact Ev_f (by omega) (Ev.now _)))
  refine Ev.congr (fun k => ?_) h
  simp only [laws_eqIntS.f]; rw [if_pos trivial]

theorem rd_L_nat (xs : List (List Int)) (i : Nat) : rd_L1 xs (i : Int) = xs.getD i [] := by simp [rd_L1]
theorem szByteS_val (l : List Int) (hl : l.length ≤ maxLen) (n : Int) (h0 : 0 ≤ n) (h1 : n ≤ 1048576) : ∃ r, laws_szByteS.f l n = some r ∧ r ≤ n ∧ (0 ≤ r → l.length ≤ 1048576) := by
  have hl0 : (l.length : Int) ≤ 9223372036854775807 := by simp only [maxLen] at hl; omega
  simp only [laws_szByteS.f]
  rw [w64 (n := n - (l.length : Int)) (by omega) (by omega)]
  by_cases c : n - (l.length : Int) < 0
  · exact ⟨-1, if_pos c, by omega, fun h => by omega⟩
  · exact ⟨n - (l.length : Int), if_neg c, by omega, fun h => by omega⟩
theorem szByteSS_loop (l : List (List Int)) (hw : ∀ p ∈ l, p.length ≤ maxLen) (hl : l.length ≤ 1048576) : ∀ (m i : Nat) (x : Int), i + m = l.length → 0 ≤ x → x ≤ 1048576 →
    ∃ r, Ev (fun k => laws_szByteSS.l0 k l x (i : Int)) r ∧ r ≤ x ∧ (0 ≤ r → ∀ j, i ≤ j → j < l.length → (l.getD j []).length ≤ 1048576) := by
  intro m
  induction m with
  | zero =>
    intro i x hi h0 h1
    refine ⟨x, Ev_succ ?_, by omega, fun _ j h2 h3 => by omega⟩
    simp only [laws_szByteSS.l0]; exact Ev_f (by omega) (Ev.now _)
  | succ m ih =>
    intro i x hi h0 h1
    have hp := hw _ (getD_mem (xs := l) (i := i) [] (by omega))
    obtain ⟨r0, e, e1, e2⟩ := szByteS_val _ hp x h0 h1
    by_cases c : r0 < 0
    · refine ⟨-1, Ev_succ ?_, by omega, fun h => by omega⟩
      simp only [laws_szByteSS.l0, rd_L_nat]
      exact Ev_t (by omega) (Ev_t (by omega) (Ev_bind0 e (Ev_t c (Ev.now _))))
    · obtain ⟨r, h2, h3, h4⟩ := ih (i + 1) r0 (by omega) (by omega) (by omega)
      refine ⟨r, Ev_succ ?_, by omega, fun h j h5 h6 => ?_⟩
      · simp only [laws_szByteSS.l0, rd_L_nat]
        rw [w64_succ (show i < l.length by omega) (by omega)]
        exact Ev_t (by omega) (Ev_t (by omega) (Ev_bind0 e (Ev_f c h2)))
      · by_cases h7 : j = i
        · subst h7; exact e2 (by omega)
        · exact h4 h j (by omega) h6
theorem szByteSS_ev (l : List (List Int)) (hw : l.length ≤ maxLen ∧ ∀ p ∈ l, p.length ≤ maxLen) (n : Int) (hn : 0 ≤ n) (hn' : n ≤ 1048576) : ∃ r, Ev (fun k => laws_szByteSS.f k l n) r ∧ r ≤ n ∧ (0 ≤ r → l.length ≤ 1048576 ∧ ∀ p ∈ l, p.length ≤ 1048576) := by
  have hl0 : (l.length : Int) ≤ 9223372036854775807 := by have := hw.1; simp only [maxLen] at this; omega
  have e : wrap64 (n - (l.length : Int)) = n - (l.length : Int) := w64 (by omega) (by omega)
  simp only [laws_szByteSS.f, e]
  by_cases c : n - (l.length : Int) < 0
  · exact ⟨-1, Ev_t c (Ev.now _), by omega, fun h => by omega⟩
  · obtain ⟨r, h1, h2, h3⟩ := szByteSS_loop l hw.2 (by omega) l.length 0 (n - (l.length : Int)) (by omega) (by omega) (by omega)
    refine ⟨r, Ev_f c h1, by omega, fun h => ⟨by omega, fun p hp => ?_⟩⟩
    obtain ⟨j, hj, rfl⟩ := List.mem_iff_getElem.1 hp
    have := h3 h j (by omega) hj
    simpa [List.getD, hj] using this
theorem toByteSS_ev (l : List (List Int)) (hl : l.length ≤ 1048576) (hz : ∀ p ∈ l, p.length ≤ 1048576) : Ev (fun k => laws_toByteSS.f k l) l := by
  have h := fill_ev (g := fun k x i => laws_toByteSS.l0 k l x i) l [] (fun x => x)
    (fun x i hx hi hr => Ev_succ (by
      simp only [laws_toByteSS.l0, rd_L_nat]
      refine Ev_t (by omega) (Ev_t (by omega) (Ev.bind (toByteS_ev _ (hz _ (getD_mem [] hi))) (Ev_t (by omega) ?_)))
      rw [w64_succ hi (by omega)]
      simpa using hr))
    (fun x hx => Ev_succ (by simp only [laws_toByteSS.l0]; exact Ev_f (by omega) (Ev.now _)))
    (List.replicate l.length []) (by simp)
  rw [map_same] at h
  refine Ev.congr (fun k => ?_) h
  simp only [laws_toByteSS.f]
  rw [if_pos (by omega), if_pos (by simp; omega)]
  simp
theorem eqByteSS_ev (l : List (List Int)) (hl : l.length ≤ 1048576) (hz : ∀ p ∈ l, p.length ≤ 1048576) : Ev (fun k => laws_eqByteSS.f k l l) true := by
  have h := all_ev (g := fun k i => laws_eqByteSS.l0 k l l i) (r := true) l.length
    (fun i hi hr => Ev_succ (by
      simp only [laws_eqByteSS.l0, rd_L_nat]
      refine Ev_t (by omega) (Ev_t (by omega) (Ev_t (by omega) (Ev.bind (eqByteS_ev _ (by have := hz _ (getD_mem [] hi); omega)) (Ev_t rfl ?_))))
      rw [w64_succ hi (by omega)]; exact hr))
    (Ev_succ (by simp only [laws_eqByteSS.l0]; exact Ev_f (by omega) (Ev.now _)))
  refine Ev.congr (fun k => ?_) h
  simp only [laws_eqByteSS.f]; rw [if_pos trivial]

def blocksB (l : List (List Int)) : Bool := decide (40 ≤ l.length ∧ l.length ≤ 160) && l.all (fun b => decide (b.length = 128))
theorem indexFunc_loop (l : List (List Int)) (hl : l.length ≤ 1048576) : ∀ (m i : Nat), i + m = l.length → ∃ r : Int, Ev (fun k => slices_IndexFunc_byte_byte_86.l0 k l (l.length : Int) (i : Int)) r ∧ (0 ≤ r ↔ ¬ ((l.drop i).all (fun b => decide (b.length = 128)) = true)) := by
  intro m
  induction m with
  | zero =>
    intro i hi
    refine ⟨-1, Ev_succ ?_, ?_⟩
    · simp only [slices_IndexFunc_byte_byte_86.l0]; exact Ev_f (by omega) (Ev.now _)
    · rw [List.drop_of_length_le (by omega)]; simp
  | succ m ih =>
    intro i hi
    have hd := drop_cons l i [] (by omega)
    obtain ⟨r, h1, h2⟩ := ih (i + 1) (by omega)
    by_cases c : (l.getD i []).length = 128
    · refine ⟨r, Ev_succ ?_, ?_⟩
      · simp only [slices_IndexFunc_byte_byte_86.l0, rd_L_nat, impl_areBlocks_1.f, Option.bind_some]
        rw [w64_succ (show i < l.length by omega) (by omega)]
        exact Ev_t (by omega) (Ev_t (by omega) (Ev_t (by omega) (Ev_f (by rw [c]; decide) h1)))
      · rw [hd, h2, List.all_cons, c]; simp
    · refine ⟨(i : Int), Ev_succ ?_, ?_⟩
      · simp only [slices_IndexFunc_byte_byte_86.l0, rd_L_nat, impl_areBlocks_1.f, Option.bind_some]
        exact Ev_t (by omega) (Ev_t (by omega) (Ev_t (by omega) (Ev_t (by simp only [bne_iff_ne]; omega) (Ev.now _))))
      · rw [hd, List.all_cons]; simp only [c, decide_false, Bool.false_and, Bool.false_eq_true, not_false_eq_true, iff_true]; omega
theorem areBlocks_ev (l : List (List Int)) (hl : l.length ≤ 1048576) : Ev (fun k => impl_areBlocks.f k l) (blocksB l) := by
  simp only [impl_areBlocks.f, within_eq, Option.bind_some, decide_eq_true_eq]
  by_cases c : (40 : Int) ≤ (l.length : Int) ∧ (l.length : Int) ≤ 160
  · obtain ⟨r, h1, h2⟩ := indexFunc_loop l hl l.length 0 (by omega)
    refine Ev_t c (Ev.bind (a := decide (r ≥ 0)) ?_ (Ev_eq (Ev.now _) ?_))
    · simp only [slices_ContainsFunc_byte_byte_73.f, slices_IndexFunc_byte_byte_86.f]
      exact Ev.bind h1 (Ev.now _)
    · rw [List.drop_zero] at h2
      have c' : 40 ≤ l.length ∧ l.length ≤ 160 := by omega
      simp only [blocksB, c', and_self, decide_true, Bool.true_and]
      cases hh : l.all (fun b => decide (b.length = 128)) with
      | true => simp only [hh, not_true, iff_false] at h2; simp; omega
      | false => simp only [hh] at h2; have : 0 ≤ r := h2.2 (by simp); simp [this]
  · refine Ev_f c (Ev_eq (Ev.now _) ?_)
    have c' : ¬ (40 ≤ l.length ∧ l.length ≤ 160) := by omega
    simp only [blocksB, c', decide_false, Bool.false_and]

theorem tdiv8 (k : Nat) (h : k < 4611686018427387904) : wrap64 (Int.tdiv (k : Int) 8) = ((k / 8 : Nat) : Int) := by
  rw [Int.tdiv_eq_ediv_of_nonneg (by omega), w64 (by omega) (by omega)]; omega
theorem tmod8 (k : Nat) : Int.tmod (k : Int) 8 = ((k % 8 : Nat) : Int) := by
  rw [Int.tmod_eq_emod_of_nonneg (by omega)]; omega
def usedB (b : List Int) (k : Nat) : Bool := (Go.bits .and .u8 (shr .u8 (b.getD (k / 8) 0) ((k % 8 : Nat) : Int)) 1) == 1
theorem implUsed_eq (l : List (List Int)) (b g t : List Int) (k : Nat) (hk : k < 160) (hb : b.length = 20) : impl_Space_used.f l b g t (k : Int) = some (usedB b k) := by
  simp only [impl_Space_used.f, tdiv8 k (by omega), tmod8, rd_nat]
  rw [if_pos (by omega), if_pos (by omega), if_pos (by omega)]; rfl
theorem specUsed_eq (b : List Int) (k : Nat) (hk : k < 160) (hb : b.length = 20) : spec_l5Used.f b (k : Int) = some (usedB b k) := by
  simp only [spec_l5Used.f, tdiv8 k (by omega), tmod8, rd_nat]
  rw [wu64 (by omega) (by omega), if_pos (by omega), if_pos (by omega), if_pos (by omega)]; rfl
def inB (n : Nat) (b : List Int) (x : Int) : Bool := decide (33 ≤ x ∧ x ≤ (n : Int) - 1) && usedB b x.toNat
def listP (n : Nat) (b : List Int) (l : List Int) (j : Nat) : Bool := inB n b (l.getD j 0) && (decide (j = 0) || decide (l.getD (j - 1) 0 < l.getD j 0))
def listB (n : Nat) (b : List Int) (l : List Int) : Bool := (List.range l.length).all (listP n b l)
def bitP (n : Nat) (b : List Int) (k : Nat) : Bool := if k < 33 then (if usedB b k = true then !decide (n ≤ k) else false) else (if n ≤ k then !usedB b k else true)
def goodB (l : List (List Int)) (b g t : List Int) : Bool := blocksB l && (decide (b.length = 20) && ((List.range 160).all (bitP l.length b) && (listB l.length b g && listB l.length b t)))
theorem scan_ev {g : Nat → Int → Option Bool} (n : Nat) (p : Nat → Bool) (R : Bool)
    (ht : ∀ i, i < n → p i = true → ∀ r, Ev (fun k => g k ((i + 1 : Nat) : Int)) r → Ev (fun k => g k (i : Int)) r)
    (hf : ∀ i, i < n → p i = false → Ev (fun k => g k (i : Int)) false)
    (he : Ev (fun k => g k (n : Int)) R) : Ev (fun k => g k 0) ((List.range n).all p && R) := by
  have key : ∀ m i, i + m = n → Ev (fun k => g k (i : Int)) ((List.range' i m).all p && R) := by
    intro m
    induction m with
    | zero =>
      intro i hi
      obtain rfl : i = n := by omega
      simpa using he
    | succ m ih =>
      intro i hi
      rw [List.range'_succ, List.all_cons]
      cases hp : p i with
      | true => rw [Bool.true_and]; exact ht i (by omega) hp _ (ih (i + 1) (by omega))
      | false => rw [Bool.false_and, Bool.false_and]; exact hf i (by omega) hp
  have := key n 0 (by omega)
  rwa [← List.range_eq_range'] at this

theorem rd_M_nat (xs : List (List Int)) (i : Nat) : rd_L3 xs (i : Int) = xs.getD i [] := by simp [rd_L3]
theorem implIsBlock_eq (l : List (List Int)) (b g t : List Int) (hl : l.length ≤ 160) (hl0 : 0 < l.length) (hb : b.length = 20) (x : Int) : impl_Space_isBlock.f l b g t x = some (inB l.length b x) := by
  simp only [impl_Space_isBlock.f, within_eq, Option.bind_some, decide_eq_true_eq]
  rw [w64 (n := (l.length : Int) - 1) (by omega) (by omega)]
  by_cases c : 33 ≤ x ∧ x ≤ (l.length : Int) - 1
  · rw [if_pos c]
    have hx : x = (x.toNat : Int) := by omega
    have := implUsed_eq l b g t x.toNat (by omega) hb
    rw [← hx] at this
    rw [this, Option.bind_some]
    simp only [inB, c, and_self, decide_true, Bool.true_and]
  · rw [if_neg c]; simp only [inB, c, decide_false, Bool.false_and]
theorem implAreUsed_ev (l : List (List Int)) (b g t : List Int) (hl : l.length ≤ 160) (hl0 : 0 < l.length) (hb : b.length = 20) (x : List Int) (hx : x.length ≤ 1048576) : Ev (fun k => impl_Space_areUsed.f k l b g t x) (listB l.length b x) := by
  have h := scan_ev (g := fun k i => impl_Space_areUsed.l0 k x x (x.length : Int) i l b g t) x.length (listP l.length b x) true
    (fun i hi hp r hr => Ev_succ (by
      simp only [impl_Space_areUsed.l0, rd_nat, implIsBlock_eq l b g t hl hl0 hb, Option.bind_some]
      simp only [listP, Bool.and_eq_true, Bool.or_eq_true, decide_eq_true_eq] at hp
      rw [w64_succ hi (by omega)]
      refine Ev_t (by omega) (Ev_t (by omega) (Ev_t (by omega) (Ev_t hp.1 (Ev_ite (fun h0 => ?_) (fun h0 => hr)))))
      have e : wrap64 ((i : Int) - 1) = ((i - 1 : Nat) : Int) := by rw [w64 (by omega) (by omega)]; omega
      simp only [e, rd_nat]
      exact Ev_t (by omega) (Ev_t (by omega) (Ev_f (by omega) hr))))
    (fun i hi hp => Ev_succ (by
      simp only [impl_Space_areUsed.l0, rd_nat, implIsBlock_eq l b g t hl hl0 hb, Option.bind_some]
      refine Ev_t (by omega) (Ev_t (by omega) (Ev_t (by omega) ?_))
      cases h1 : inB l.length b (x.getD i 0) with
      | false => exact Ev_f (by decide) (Ev.now _)
      | true =>
        simp only [listP, h1, Bool.true_and, Bool.or_eq_false_iff, decide_eq_false_iff_not] at hp
        have e : wrap64 ((i : Int) - 1) = ((i - 1 : Nat) : Int) := by rw [w64 (by omega) (by omega)]; omega
        simp only [e, rd_nat]
        exact Ev_t trivial (Ev_t (by omega) (Ev_t (by omega) (Ev_t (by omega) (Ev_t (by omega) (Ev.now _)))))))
    (Ev_succ (by simp only [impl_Space_areUsed.l0]; exact Ev_f (by omega) (Ev.now _)))
  rw [Bool.and_true] at h
  simp only [impl_Space_areUsed.f]
  exact h
theorem implGoodSpace_ev (l : List (List Int)) (b g t : List Int) (hl : l.length ≤ 1048576) (hg : g.length ≤ 1048576) (ht : t.length ≤ 1048576) : Ev (fun k => impl_GoodSpace.f k l b g t) (goodB l b g t) := by
  simp only [impl_GoodSpace.f]
  refine Ev.bind (areBlocks_ev l hl) ?_
  cases hb : blocksB l with
  | false =>
    refine Ev_f (by decide) (Ev_succ ?_)
    simp only [impl_GoodSpace.j0, goodB, hb, Bool.false_and]
    exact Ev_t trivial (Ev.now _)
  | true =>
    have hn : 40 ≤ l.length ∧ l.length ≤ 160 := by simp only [blocksB, Bool.and_eq_true, decide_eq_true_eq] at hb; exact hb.1
    refine Ev_t rfl (Ev_succ ?_)
    simp only [impl_GoodSpace.j0]
    refine Ev_ite (fun c => Ev_eq (Ev.now _) ?_) (fun c => ?_)
    · have c' : ¬ b.length = 20 := by simp only [bne_iff_ne] at c; omega
      simp only [goodB, hb, c', decide_false, Bool.false_and, Bool.and_false]
    · have c' : b.length = 20 := by simp only [bne_iff_ne, ne_eq, Decidable.not_not] at c; omega
      have h := scan_ev (g := fun k i => impl_GoodSpace.l0 k i l b g t) 160 (bitP l.length b) (listB l.length b g && listB l.length b t)
        (fun i hi hp r hr => Ev_succ (by
          simp only [impl_GoodSpace.l0, implUsed_eq l b g t i hi c', Option.bind_some]
          rw [w64_succ hi (by omega)]
          simp only [bitP] at hp
          refine Ev_t (by omega) (Ev_ite (fun h33 => ?_) (fun h33 => ?_))
          · rw [if_pos (by omega)] at hp
            cases hu : usedB b i with
            | false => rw [hu] at hp; simp at hp
            | true =>
              rw [hu, if_pos rfl] at hp
              exact Ev_t rfl (Ev_f (by simp at hp; omega) hr)
          · rw [if_neg (by omega)] at hp
            refine Ev_ite (fun hx => ?_) (fun hx => hr)
            rw [if_pos (by omega)] at hp
            exact Ev_f (by simpa using hp) hr))
        (fun i hi hp => Ev_succ (by
          simp only [impl_GoodSpace.l0, implUsed_eq l b g t i hi c', Option.bind_some]
          simp only [bitP] at hp
          refine Ev_t (by omega) (Ev_ite (fun h33 => ?_) (fun h33 => ?_))
          · rw [if_pos (by omega)] at hp
            cases hu : usedB b i with
            | false => exact Ev_f (by decide) (Ev.now _)
            | true =>
              rw [hu, if_pos rfl] at hp
              exact Ev_t rfl (Ev_t (by simp at hp; omega) (Ev.now _))
          · rw [if_neg (by omega)] at hp
            by_cases hx : l.length ≤ i
            · rw [if_pos hx] at hp
              exact Ev_t (by omega) (Ev_t (by simpa using hp) (Ev.now _))
            · rw [if_neg hx] at hp; exact absurd hp (by decide)))
        (Ev_succ (by
          simp only [impl_GoodSpace.l0]
          refine Ev_f (by omega) (Ev.bind (implAreUsed_ev l b g t hn.2 (by omega) c' g hg) ?_)
          cases hx : listB l.length b g with
          | false => exact Ev_f (by decide) (Ev.now _)
          | true => exact Ev_t rfl (Ev.bind (implAreUsed_ev l b g t hn.2 (by omega) c' t ht) (Ev.now _))))
      refine Ev_eq h ?_
      simp only [goodB, hb, c', decide_true, Bool.true_and]
theorem specList_ev (l : List (List Int)) (b g t : List Int) (hn : 40 ≤ l.length ∧ l.length ≤ 160) (hb : b.length = 20) (y : List (List Int)) (j : Nat) (R : Bool) (x : List Int) (hx : x.length ≤ 1048576)
    (hR : Ev (fun k => spec_GoodSpace.l2 k (l.length : Int) y (y.length : Int) ((j + 1 : Nat) : Int) l b g t) R) (hj : j < 2) :
    Ev (fun k => spec_GoodSpace.l3 k (l.length : Int) x y (y.length : Int) (j : Int) x (x.length : Int) 0 l b g t) (listB l.length b x && R) := by
  have hin : ∀ z : Int, ¬ (33 ≤ z ∧ z ≤ (l.length : Int) - 1) → inB l.length b z = false := fun z c => by simp only [inB, c, decide_false, Bool.false_and]
  have hin' : ∀ z : Int, (33 ≤ z ∧ z ≤ (l.length : Int) - 1) → spec_l5Used.f b z = some (inB l.length b z) := fun z c => by
    have hz : z = (z.toNat : Int) := by omega
    have := specUsed_eq b z.toNat (by omega) hb
    rw [← hz] at this
    rw [this]; simp only [inB, c, and_self, decide_true, Bool.true_and]
  refine scan_ev (g := fun k i => spec_GoodSpace.l3 k (l.length : Int) x y (y.length : Int) (j : Int) x (x.length : Int) i l b g t) x.length (listP l.length b x) R
    (fun i hi hp r hr => Ev_succ (by
      simp only [spec_GoodSpace.l3, rd_nat, l1In_eq, Option.bind_some, decide_eq_true_eq]
      rw [w64 (n := (l.length : Int) - 1) (by omega) (by omega)]
      simp only [listP, Bool.and_eq_true, Bool.or_eq_true, decide_eq_true_eq] at hp
      rw [w64_succ hi (by omega)]
      have c : 33 ≤ x.getD i 0 ∧ x.getD i 0 ≤ (l.length : Int) - 1 := by
        by_cases c : 33 ≤ x.getD i 0 ∧ x.getD i 0 ≤ (l.length : Int) - 1
        · exact c
        · rw [hin _ c] at hp; exact absurd hp.1 (by decide)
      refine Ev_t (by omega) (Ev_t (by omega) (Ev_t (by omega) (Ev_t c (Ev_bind0 (hin' _ c) (Ev_t hp.1 (Ev_ite (fun h0 => ?_) (fun h0 => hr)))))))
      have e : wrap64 ((i : Int) - 1) = ((i - 1 : Nat) : Int) := by rw [w64 (by omega) (by omega)]; omega
      simp only [e, rd_nat]
      exact Ev_t (by omega) (Ev_t (by omega) (Ev_f (by omega) hr))))
    (fun i hi hp => Ev_succ (by
      simp only [spec_GoodSpace.l3, rd_nat, l1In_eq, Option.bind_some, decide_eq_true_eq]
      rw [w64 (n := (l.length : Int) - 1) (by omega) (by omega)]
      refine Ev_t (by omega) (Ev_t (by omega) (Ev_t (by omega) (Ev_ite (fun c => ?_) (fun c => Ev.now _))))
      refine Ev_bind0 (hin' _ c) ?_
      cases h1 : inB l.length b (x.getD i 0) with
      | false => exact Ev_f (by decide) (Ev.now _)
      | true =>
        simp only [listP, h1, Bool.true_and, Bool.or_eq_false_iff, decide_eq_false_iff_not] at hp
        have e : wrap64 ((i : Int) - 1) = ((i - 1 : Nat) : Int) := by rw [w64 (by omega) (by omega)]; omega
        simp only [e, rd_nat]
        exact Ev_t trivial (Ev_t (by omega) (Ev_t (by omega) (Ev_t (by omega) (Ev_t (by omega) (Ev.now _)))))))
    (Ev_succ (by
      simp only [spec_GoodSpace.l3]
      rw [w64_succ hj (by omega)]
      exact Ev_f (by omega) hR))
theorem specGoodSpace_ev (l : List (List Int)) (b g t : List Int) (hl : l.length ≤ 1048576) (hg : g.length ≤ 1048576) (ht : t.length ≤ 1048576) : Ev (fun k => spec_GoodSpace.f k l b g t) (goodB l b g t) := by
  simp only [spec_GoodSpace.f, l1In_eq, Option.bind_some, decide_eq_true_eq]
  by_cases c1 : (40 : Int) ≤ (l.length : Int) ∧ (l.length : Int) ≤ 160
  · have hn : 40 ≤ l.length ∧ l.length ≤ 160 := by omega
    refine Ev_t c1 (Ev_succ ?_)
    simp only [spec_GoodSpace.j0]
    refine Ev_ite (fun c => Ev_eq (Ev.now _) ?_) (fun c => ?_)
    · have c' : ¬ b.length = 20 := by simp only [bne_iff_ne] at c; omega
      simp only [goodB, c', decide_false, Bool.false_and, Bool.and_false]
    · have c' : b.length = 20 := by simp only [bne_iff_ne, ne_eq, Decidable.not_not] at c; omega
      have hL : Ev (fun k => spec_GoodSpace.l2 k (l.length : Int) [g, t] (([g, t] : List (List Int)).length : Int) 0 l b g t) (listB l.length b g && (listB l.length b t && true)) := by
        have e2 : Ev (fun k => spec_GoodSpace.l2 k (l.length : Int) [g, t] (([g, t] : List (List Int)).length : Int) ((2 : Nat) : Int) l b g t) true := Ev_succ (by
          simp only [spec_GoodSpace.l2]; exact Ev_f (by simp) (Ev.now _))
        have e1 : Ev (fun k => spec_GoodSpace.l2 k (l.length : Int) [g, t] (([g, t] : List (List Int)).length : Int) ((1 : Nat) : Int) l b g t) (listB l.length b t && true) := Ev_succ (by
          simp only [spec_GoodSpace.l2, rd_M_nat]
          exact Ev_t (by simp) (Ev_t (by omega) (Ev_t (by simp) (specList_ev l b g t hn c' [g, t] 1 true t ht e2 (by omega)))))
        exact Ev_succ (by
          have z : (0 : Int) = ((0 : Nat) : Int) := rfl
          rw [z]
          simp only [spec_GoodSpace.l2, rd_M_nat]
          exact Ev_t (by simp) (Ev_t (by omega) (Ev_t (by simp) (specList_ev l b g t hn c' [g, t] 0 _ g hg e1 (by omega)))))
      have hB : Ev (fun k => spec_GoodSpace.l1 k (l.length : Int) 0 l b g t) ((List.range 160).all (bitP l.length b) && (listB l.length b g && (listB l.length b t && true))) :=
        scan_ev (g := fun k i => spec_GoodSpace.l1 k (l.length : Int) i l b g t) 160 (bitP l.length b) _
          (fun i hi hp r hr => Ev_succ (by
            simp only [spec_GoodSpace.l1, specUsed_eq b i hi c', Option.bind_some]
            rw [w64_succ hi (by omega)]
            simp only [bitP] at hp
            refine Ev_t (by omega) (Ev_ite (fun h33 => ?_) (fun h33 => ?_))
            · rw [if_pos (by omega)] at hp
              cases hu : usedB b i with
              | false => rw [hu] at hp; simp at hp
              | true =>
                rw [hu, if_pos rfl] at hp
                exact Ev_t rfl (Ev_f (by simp at hp; omega) hr)
            · rw [if_neg (by omega)] at hp
              refine Ev_ite (fun hx => ?_) (fun hx => hr)
              rw [if_pos (by omega)] at hp
              exact Ev_f (by simpa using hp) hr))
          (fun i hi hp => Ev_succ (by
            simp only [spec_GoodSpace.l1, specUsed_eq b i hi c', Option.bind_some]
            simp only [bitP] at hp
            refine Ev_t (by omega) (Ev_ite (fun h33 => ?_) (fun h33 => ?_))
            · rw [if_pos (by omega)] at hp
              cases hu : usedB b i with
              | false => exact Ev_f (by decide) (Ev.now _)
              | true =>
                rw [hu, if_pos rfl] at hp
                exact Ev_t rfl (Ev_t (by simp at hp; omega) (Ev.now _))
            · rw [if_neg (by omega)] at hp
              by_cases hx : l.length ≤ i
              · rw [if_pos hx] at hp
                exact Ev_t (by omega) (Ev_t (by simpa using hp) (Ev.now _))
              · rw [if_neg hx] at hp; exact absurd hp (by decide)))
          (Ev_succ (by
            simp only [spec_GoodSpace.l1]
            exact Ev_f (by omega) (Ev_bind0 rfl hL)))
      have hA := scan_ev (g := fun k i => spec_GoodSpace.l0 k (l.length : Int) l (l.length : Int) i l b g t) l.length (fun i => decide ((l.getD i []).length = 128)) _
          (fun i hi hp r hr => Ev_succ (by
            simp only [spec_GoodSpace.l0, rd_L_nat]
            rw [w64_succ hi (by omega)]
            simp only [decide_eq_true_eq] at hp
            exact Ev_t (by omega) (Ev_t (by omega) (Ev_t (by omega) (Ev_t (by omega) hr)))))
          (fun i hi hp => Ev_succ (by
            simp only [spec_GoodSpace.l0, rd_L_nat]
            simp only [decide_eq_false_iff_not] at hp
            exact Ev_t (by omega) (Ev_t (by omega) (Ev_t (by omega) (Ev_f (by omega) (Ev.now _))))))
          (Ev_succ (by
            simp only [spec_GoodSpace.l0]
            exact Ev_f (by omega) hB))
      refine Ev_eq hA ?_
      have e : (List.range l.length).all (fun i => decide ((l.getD i []).length = 128)) = l.all (fun b => decide (b.length = 128)) := by
        rw [Bool.eq_iff_iff]
        simp only [List.all_eq_true, List.mem_range, decide_eq_true_eq]
        constructor
        · intro h x hx
          obtain ⟨j, hj, rfl⟩ := List.mem_iff_getElem.1 hx
          have := h j hj
          simpa [List.getD, hj] using this
        · intro h j hj
          exact h _ (getD_mem [] hj)
      rw [e]
      simp only [goodB, blocksB, hn, c', and_self, decide_true, Bool.true_and, Bool.and_true]
  · refine Ev_f c1 (Ev_succ ?_)
    have c' : ¬ (40 ≤ l.length ∧ l.length ≤ 160) := by omega
    simp only [spec_GoodSpace.j0, goodB, blocksB, c', decide_false, Bool.false_and]
    exact Ev_t trivial (Ev.now _)
structure GoodS (l : List (List Int)) (b g t : List Int) : Prop where
  lo : 40 ≤ l.length
  hi : l.length ≤ 160
  bits : b.length = 20
  rows : ∀ p ∈ l, p.length = 128
  gone : listB l.length b g = true
  touched : listB l.length b t = true
theorem goodB_facts {l : List (List Int)} {b g t : List Int} (h : goodB l b g t = true) : GoodS l b g t := by
  simp only [goodB, blocksB, Bool.and_eq_true, decide_eq_true_eq, List.all_eq_true] at h
  obtain ⟨⟨⟨h1, h2⟩, h3⟩, h4, h5, h6, h7⟩ := h
  exact ⟨h1, h2, h4, h3, h6, h7⟩

theorem szIntS_val (l : List Int) (hl : l.length ≤ maxLen) (n : Int) (h0 : 0 ≤ n) (h1 : n ≤ 1048576) : ∃ r, laws_szIntS.f l n = some r ∧ r ≤ n ∧ (0 ≤ r → l.length ≤ 1048576) := by
  have hl0 : (l.length : Int) ≤ 9223372036854775807 := by simp only [maxLen] at hl; omega
  simp only [laws_szIntS.f]
  rw [w64 (n := n - (l.length : Int)) (by omega) (by omega)]
  by_cases c : n - (l.length : Int) < 0
  · exact ⟨-1, if_pos c, by omega, fun h => by omega⟩
  · exact ⟨n - (l.length : Int), if_neg c, by omega, fun h => by omega⟩
structure SpaceSz (l : List (List Int)) (b g t : List Int) : Prop where
  hl : l.length ≤ 1048576
  hz : ∀ p ∈ l, p.length ≤ 1048576
  hb : b.length ≤ 1048576
  hg : g.length ≤ 1048576
  ht : t.length ≤ 1048576
theorem szSpace_ev (l : List (List Int)) (b g t : List Int) (hw : l.length ≤ maxLen ∧ ∀ p ∈ l, p.length ≤ maxLen) (hb : b.length ≤ maxLen) (hg : g.length ≤ maxLen) (ht : t.length ≤ maxLen) (n : Int) (hn : 0 ≤ n) (hn' : n ≤ 1048576) :
    ∃ r, Ev (fun k => laws_szSpace.f k l b g t n) r ∧ r ≤ n ∧ (0 ≤ r → SpaceSz l b g t) := by
  obtain ⟨r1, h1, h2, h3⟩ := szByteSS_ev l hw n hn hn'
  simp only [laws_szSpace.f]
  by_cases c : r1 < 0
  · exact ⟨-1, Ev.bind h1 (Ev_t c (Ev.now _)), by omega, fun h => by omega⟩
  obtain ⟨r2, k1, k2, k3⟩ := szByteS_val b hb r1 (by omega) (by omega)
  by_cases c2 : r2 < 0
  · exact ⟨-1, Ev.bind h1 (Ev_f c (Ev_bind0 k1 (Ev_t c2 (Ev.now _)))), by omega, fun h => by omega⟩
  obtain ⟨r3, m1, m2, m3⟩ := szIntS_val g hg r2 (by omega) (by omega)
  by_cases c3 : r3 < 0
  · exact ⟨-1, Ev.bind h1 (Ev_f c (Ev_bind0 k1 (Ev_f c2 (Ev_bind0 m1 (Ev_t c3 (Ev.now _)))))), by omega, fun h => by omega⟩
  obtain ⟨r4, q1, q2, q3⟩ := szIntS_val t ht r3 (by omega) (by omega)
  by_cases c4 : r4 < 0
  · exact ⟨-1, Ev.bind h1 (Ev_f c (Ev_bind0 k1 (Ev_f c2 (Ev_bind0 m1 (Ev_f c3 (Ev_bind0 q1 (Ev_t c4 (Ev.now _)))))))), by omega, fun h => by omega⟩
  · exact ⟨r4, Ev.bind h1 (Ev_f c (Ev_bind0 k1 (Ev_f c2 (Ev_bind0 m1 (Ev_f c3 (Ev_bind0 q1 (Ev_f c4 (Ev.now _)))))))), by omega, fun h => ⟨(h3 (by omega)).1, (h3 (by omega)).2, k3 (by omega), m3 (by omega), q3 (by omega)⟩⟩
theorem toSpace_ev (l : List (List Int)) (b g t : List Int) (s : SpaceSz l b g t) : Ev (fun k => laws_toSpace.f k l b g t) (l, b, g, t) := by
  simp only [laws_toSpace.f]
  exact Ev.bind (toByteSS_ev l s.hl s.hz) (Ev.bind (toByteS_ev b s.hb) (Ev.bind (toIntS_ev g s.hg) (Ev.bind (toIntS_ev t s.ht) (Ev.now _))))
theorem eqSpace_ev (l : List (List Int)) (b g t : List Int) (s : SpaceSz l b g t) : Ev (fun k => laws_eqSpace.f k l b g t l b g t) true := by
  simp only [laws_eqSpace.f]
  exact Ev.bind (eqByteSS_ev l s.hl s.hz) (Ev_t rfl (Ev.bind (eqByteS_ev b (by have := s.hb; omega)) (Ev_t rfl (Ev.bind (eqIntS_ev g (by have := s.hg; omega)) (Ev_t rfl (Ev.bind (eqIntS_ev t (by have := s.ht; omega)) (Ev_t rfl (Ev.now _))))))))

theorem or8 {x y : Int} (hx : 0 ≤ x) (hx' : x ≤ 255) (hy : 0 ≤ y) (hy' : y ≤ 255) : Go.bits .or .i64 (x * 256) y = x * 256 + y :=
  Go.bits_join .i64 62 (by decide) (fun n h0 h1 => by have : n < 4611686018427387904 := h1; exact (IntKind.wrap_i64 n).trans (by omega)) 8 (x * 256) y (by omega) (by omega) (by show x * 256 < 4611686018427387904; omega) hy (by show y < 256; omega) (by show y < 4611686018427387904; omega)

theorem scanT_ev {g : Nat → Int → Option Bool} (n : Nat) (p : Nat → Bool)
    (ht : ∀ i, i < n → p i = true → ∀ r, Ev (fun k => g k ((i + 1 : Nat) : Int)) r → Ev (fun k => g k (i : Int)) r)
    (hf : ∀ i, i < n → p i = false → Ev (fun k => g k (i : Int)) true)
    (he : Ev (fun k => g k (n : Int)) false) : Ev (fun k => g k 0) (!((List.range n).all p)) := by
  have key : ∀ m i, i + m = n → Ev (fun k => g k (i : Int)) (!((List.range' i m).all p)) := by
    intro m
    induction m with
    | zero =>
      intro i hi
      obtain rfl : i = n := by omega
      simpa using he
    | succ m ih =>
      intro i hi
      rw [List.range'_succ, List.all_cons]
      cases hp : p i with
      | true => rw [Bool.true_and]; exact ht i (by omega) hp _ (ih (i + 1) (by omega))
      | false => rw [Bool.false_and]; exact hf i (by omega) hp
  have := key n 0 (by omega)
  rwa [← List.range_eq_range'] at this
theorem find_ev {g : Nat → Int → Option Int} (n : Nat) (p : Nat → Bool)
    (ht : ∀ i, i < n → p i = true → ∀ r, Ev (fun k => g k ((i + 1 : Nat) : Int)) r → Ev (fun k => g k (i : Int)) r)
    (hf : ∀ i, i < n → p i = false → Ev (fun k => g k (i : Int)) (i : Int))
    (he : Ev (fun k => g k (n : Int)) (-1)) : ∃ r, Ev (fun k => g k 0) r ∧ decide (r ≥ 0) = (!((List.range n).all p)) := by
  have key : ∀ m i, i + m = n → ∃ r, Ev (fun k => g k (i : Int)) r ∧ decide (r ≥ 0) = (!((List.range' i m).all p)) := by
    intro m
    induction m with
    | zero =>
      intro i hi
      obtain rfl : i = n := by omega
      exact ⟨-1, he, by simp⟩
    | succ m ih =>
      intro i hi
      rw [List.range'_succ, List.all_cons]
      cases hp : p i with
      | true =>
        obtain ⟨r, h1, h2⟩ := ih (i + 1) (by omega)
        rw [Bool.true_and]
        exact ⟨r, ht i (by omega) hp _ h1, h2⟩
      | false => rw [Bool.false_and]; exact ⟨i, hf i (by omega) hp, by simp⟩
  have := key n 0 (by omega)
  rwa [← List.range_eq_range'] at this

def noneIs (l : List Int) (x : Int) : Bool := (List.range l.length).all (fun i => decide (¬ l.getD i 0 = x))
theorem specHas_ev (l : List Int) (hl : l.length ≤ 1048576) (x : Int) : Ev (fun k => spec_l5Has.f k l x) (!noneIs l x) := by
  simp only [spec_l5Has.f]
  refine scanT_ev (g := fun k i => spec_l5Has.l0 k x l (l.length : Int) i) l.length _
    (fun i hi hp r hr => Ev_succ (by
      simp only [spec_l5Has.l0, rd_nat]
      rw [w64_succ hi (by omega)]
      simp only [decide_eq_true_eq] at hp
      exact Ev_t (by omega) (Ev_t (by omega) (Ev_t (by omega) (Ev_f hp hr)))))
    (fun i hi hp => Ev_succ (by
      simp only [spec_l5Has.l0, rd_nat]
      simp only [decide_eq_false_iff_not, Decidable.not_not] at hp
      exact Ev_t (by omega) (Ev_t (by omega) (Ev_t (by omega) (Ev_t hp (Ev.now _))))))
    (Ev_succ (by simp only [spec_l5Has.l0]; exact Ev_f (by omega) (Ev.now _)))
theorem implHas_ev (l : List Int) (hl : l.length ≤ 1048576) (x : Int) : Ev (fun k => slices_Contains_int_int.f k l x) (!noneIs l x) := by
  obtain ⟨r, h1, h2⟩ := find_ev (g := fun k i => slices_Index_int_int.l0 k l x (l.length : Int) i) l.length (fun i => decide (¬ l.getD i 0 = x))
    (fun i hi hp r hr => Ev_succ (by
      simp only [slices_Index_int_int.l0, rd_nat]
      rw [w64_succ hi (by omega)]
      simp only [decide_eq_true_eq] at hp
      exact Ev_t (by omega) (Ev_t (by omega) (Ev_t (by omega) (Ev_f (fun e => hp e.symm) hr)))))
    (fun i hi hp => Ev_succ (by
      simp only [slices_Index_int_int.l0, rd_nat]
      simp only [decide_eq_false_iff_not, Decidable.not_not] at hp
      exact Ev_t (by omega) (Ev_t (by omega) (Ev_t (by omega) (Ev_t hp.symm (Ev.now _))))))
    (Ev_succ (by simp only [slices_Index_int_int.l0]; exact Ev_f (by omega) (Ev.now _)))
  simp only [slices_Contains_int_int.f, slices_Index_int_int.f]
  exact Ev.bind h1 (Ev_eq (Ev.now _) h2)
def liveB (n : Nat) (b g : List Int) (x : Int) : Bool := inB n b x && noneIs g x
theorem specLive_ev (l : List (List Int)) (b g t : List Int) (s : GoodS l b g t) (hg : g.length ≤ 1048576) (x : Int) : Ev (fun k => spec_l5Live.f k l b g t x) (liveB l.length b g x) := by
  have hn := s.hi; have hn' := s.lo
  simp only [spec_l5Live.f, l1In_eq, Option.bind_some, decide_eq_true_eq]
  rw [w64 (n := (l.length : Int) - 1) (by omega) (by omega)]
  refine Ev_ite (fun c => ?_) (fun c => Ev_eq (Ev.now _) (by simp only [liveB, inB, c, decide_false, Bool.false_and]))
  have hz : x = (x.toNat : Int) := by omega
  have hu := specUsed_eq b x.toNat (by omega) s.bits
  rw [← hz] at hu
  refine Ev_bind0 hu (Ev_ite (fun h => ?_) (fun h => Ev_eq (Ev.now _) (by simp only [liveB, inB, h, Bool.and_false, Bool.false_and])))
  exact Ev.bind (specHas_ev g hg x) (Ev_eq (Ev.now _) (by simp only [liveB, inB, c, h, and_self, decide_true, Bool.true_and, Bool.not_not]))
theorem implHere_ev (l : List (List Int)) (b g t : List Int) (s : GoodS l b g t) (hg : g.length ≤ 1048576) (x : Int) : Ev (fun k => impl_Space_isHere.f k l b g t x) (liveB l.length b g x) := by
  simp only [impl_Space_isHere.f, implIsBlock_eq l b g t s.hi (by have := s.lo; omega) s.bits, Option.bind_some]
  refine Ev_ite (fun h => ?_) (fun h => Ev_eq (Ev.now _) (by simp only [liveB, h, Bool.false_and]))
  exact Ev.bind (implHas_ev g hg x) (Ev_eq (Ev.now _) (by simp only [liveB, h, Bool.true_and, Bool.not_not]))
theorem live_facts {n : Nat} {b g : List Int} {x : Int} (h : liveB n b g x = true) : 33 ≤ x ∧ x ≤ (n : Int) - 1 := by
  simp only [liveB, inB, Bool.and_eq_true, decide_eq_true_eq] at h
  exact h.1.1

theorem ext_size {t : ByteArray} {a b : Nat} (hb : b ≤ t.size) : (t.extract a b).size = b - a := by
  rw [ByteArray.size_extract]; omega
theorem app_size (a b : ByteArray) : (a ++ b).size = a.size + b.size := ByteArray.size_append

theorem str_size (l : List Int) : (strOfNums l).size = l.length := by
  unfold strOfNums
  show ((l.map fun n => UInt8.ofNat n.toNat).toArray).size = l.length
  simp
theorem rd_P_nat (xs : List S80) (i : Nat) : rd_T80 xs (i : Int) = xs.getD i z80 := by simp [rd_T80]
def zeroB (xs : List Int) : Bool := (List.range xs.length).all (fun i => decide (xs.getD i 0 = 0))
structure RowOk (row : List Int) : Prop where
  len : row.length = 128
  byte : ∀ y ∈ row, 0 ≤ y ∧ y ≤ 255
theorem RowOk.at {row : List Int} (h : RowOk row) (i : Nat) (hi : i < 128) : 0 ≤ row.getD i 0 ∧ row.getD i 0 ≤ 255 := h.byte _ (getD_mem 0 (by rw [h.len]; exact hi))
structure SpOk (l : List (List Int)) (b g t : List Int) : Prop where
  s : GoodS l b g t
  hg : g.length ≤ 1048576
  hby : ∀ r ∈ l, ∀ y ∈ r, 0 ≤ y ∧ y ≤ 255
theorem SpOk.row {l : List (List Int)} {b g t : List Int} (z : SpOk l b g t) (p : Nat) (hp : p < l.length) : RowOk (l.getD p []) := ⟨z.s.rows _ (getD_mem [] hp), z.hby _ (getD_mem [] hp)⟩
theorem specRest_ev (row : List Int) (a : Nat) (ha : a ≤ row.length) (hr : row.length ≤ 1048576) : Ev (fun k => spec_l7Rest.f k row (a : Int)) (zeroB (row.drop a)) := by
  simp only [spec_l7Rest.f, Int.toNat_natCast]
  have hd : (row.drop a).length ≤ 1048576 := by simp; omega
  refine Ev_t (by omega) (Ev_t (by omega) ?_)
  have h := scan_ev (g := fun k i => spec_l7Rest.l0 k (row.drop a) ((row.drop a).length : Int) i) (row.drop a).length (fun i => decide ((row.drop a).getD i 0 = 0)) true
    (fun i hi hp r hr => Ev_succ (by
      simp only [spec_l7Rest.l0, rd_nat]
      rw [w64_succ hi (by omega)]
      simp only [decide_eq_true_eq] at hp
      exact Ev_t (by omega) (Ev_t (by omega) (Ev_t (by omega) (Ev_t hp hr)))))
    (fun i hi hp => Ev_succ (by
      simp only [spec_l7Rest.l0, rd_nat]
      simp only [decide_eq_false_iff_not] at hp
      exact Ev_t (by omega) (Ev_t (by omega) (Ev_t (by omega) (Ev_f hp (Ev.now _))))))
    (Ev_succ (by simp only [spec_l7Rest.l0]; exact Ev_f (by omega) (Ev.now _)))
  rw [Bool.and_true] at h
  exact h
theorem implTailS_ev (xs : List Int) (hd : xs.length ≤ 1048576) : Ev (fun k => slices_ContainsFunc_byte_byte_78.f k xs ()) (!zeroB xs) := by
  obtain ⟨r, h1, h2⟩ := find_ev (g := fun k i => slices_IndexFunc_byte_byte_78.l0 k xs (xs.length : Int) i) xs.length (fun i => decide (xs.getD i 0 = 0))
    (fun i hi hp r hr => Ev_succ (by
      simp only [slices_IndexFunc_byte_byte_78.l0, rd_nat, impl_Space_pieces_1.f, Option.bind_some]
      rw [w64_succ hi (by omega)]
      simp only [decide_eq_true_eq] at hp
      exact Ev_t (by omega) (Ev_t (by omega) (Ev_t (by omega) (Ev_f (by rw [hp]; decide) hr)))))
    (fun i hi hp => Ev_succ (by
      simp only [slices_IndexFunc_byte_byte_78.l0, rd_nat, impl_Space_pieces_1.f, Option.bind_some]
      simp only [decide_eq_false_iff_not] at hp
      exact Ev_t (by omega) (Ev_t (by omega) (Ev_t (by omega) (Ev_t (by simpa using hp) (Ev.now _))))))
    (Ev_succ (by simp only [slices_IndexFunc_byte_byte_78.l0]; exact Ev_f (by omega) (Ev.now _)))
  simp only [slices_ContainsFunc_byte_byte_78.f, slices_IndexFunc_byte_byte_78.f]
  exact Ev.bind h1 (Ev_eq (Ev.now _) h2)

theorem implTailI_ev (xs : List Int) (hd : xs.length ≤ 1048576) : Ev (fun k => slices_ContainsFunc_byte_byte_87.f k xs ()) (!zeroB xs) := by
  obtain ⟨r, h1, h2⟩ := find_ev (g := fun k i => slices_IndexFunc_byte_byte_87.l0 k xs (xs.length : Int) i) xs.length (fun i => decide (xs.getD i 0 = 0))
    (fun i hi hp r hr => Ev_succ (by
      simp only [slices_IndexFunc_byte_byte_87.l0, rd_nat, impl_Space_piece_1.f, Option.bind_some]
      rw [w64_succ hi (by omega)]
      simp only [decide_eq_true_eq] at hp
      exact Ev_t (by omega) (Ev_t (by omega) (Ev_t (by omega) (Ev_f (by rw [hp]; decide) hr)))))
    (fun i hi hp => Ev_succ (by
      simp only [slices_IndexFunc_byte_byte_87.l0, rd_nat, impl_Space_piece_1.f, Option.bind_some]
      simp only [decide_eq_false_iff_not] at hp
      exact Ev_t (by omega) (Ev_t (by omega) (Ev_t (by omega) (Ev_t (by simpa using hp) (Ev.now _))))))
    (Ev_succ (by simp only [slices_IndexFunc_byte_byte_87.l0]; exact Ev_f (by omega) (Ev.now _)))
  simp only [slices_ContainsFunc_byte_byte_87.f, slices_IndexFunc_byte_byte_87.f]
  exact Ev.bind h1 (Ev_eq (Ev.now _) h2)

def num3 (row : List Int) (i : Nat) : Int := row.getD (2 + 2 * i) 0 * 256 + row.getD (3 + 2 * i) 0
def many (row : List Int) : Nat := (row.getD 2 0).toNat
def rowOf (l : List (List Int)) (x : Int) : List Int := l.getD x.toNat []
def pieceOk (l : List (List Int)) (b g : List Int) (x : Int) : Bool := liveB l.length b g x && (decide ((rowOf l x).getD 0 0 = 83) && (decide (1 ≤ (rowOf l x).getD 1 0 ∧ (rowOf l x).getD 1 0 ≤ 250) && (decide (1 ≤ (rowOf l x).getD 2 0 ∧ (rowOf l x).getD 2 0 ≤ 40) && zeroB ((rowOf l x).drop (3 + many (rowOf l x))))))
def txt (l : List (List Int)) (x : Int) : ByteArray := strOfNums (((rowOf l x).take (3 + many (rowOf l x))).drop 3)
def mkP (l : List (List Int)) (x : Int) : S80 := ⟨x, (rowOf l x).getD 1 0, txt l x⟩
theorem piece_facts {l : List (List Int)} {b g t : List Int} (z : SpOk l b g t) {x : Int} (h : liveB l.length b g x = true) : ∃ p : Nat, x = (p : Int) ∧ p < l.length ∧ RowOk (rowOf l x) ∧ rowOf l x = l.getD p [] := by
  have hf := live_facts h
  refine ⟨x.toNat, by omega, by omega, ?_, rfl⟩
  exact z.row x.toNat (by omega)
theorem txt_len {l : List (List Int)} {x : Int} (hr : RowOk (rowOf l x)) (h : 1 ≤ (rowOf l x).getD 2 0 ∧ (rowOf l x).getD 2 0 ≤ 40) : (txt l x).size = many (rowOf l x) := by
  have := hr.len
  simp only [txt, str_size, List.length_drop, List.length_take]
  simp only [many]
  omega
theorem piece_parts {l : List (List Int)} {b g : List Int} {x : Int} (h : pieceOk l b g x = true) : liveB l.length b g x = true ∧ (rowOf l x).getD 0 0 = 83 ∧ (1 ≤ (rowOf l x).getD 1 0 ∧ (rowOf l x).getD 1 0 ≤ 250) ∧ (1 ≤ (rowOf l x).getD 2 0 ∧ (rowOf l x).getD 2 0 ≤ 40) ∧ zeroB ((rowOf l x).drop (3 + many (rowOf l x))) = true := by
  simpa only [pieceOk, Bool.and_eq_true, decide_eq_true_eq] using h
theorem txt_size {l : List (List Int)} {b g t : List Int} (z : SpOk l b g t) {x : Int} (h : pieceOk l b g x = true) : (txt l x).size ≤ 40 := by
  obtain ⟨h1, _, _, h4, _⟩ := piece_parts h
  obtain ⟨p, _, _, hr, _⟩ := piece_facts z h1
  rw [txt_len hr h4]
  simp only [many]; omega
theorem w3 (row : List Int) (h : 0 ≤ row.getD 2 0 ∧ row.getD 2 0 ≤ 255) : wrap64 (3 + wrap64 (row.getD 2 0)) = ((3 + many row : Nat) : Int) := by
  rw [w64 (n := row.getD 2 0) (by omega) (by omega), w64 (by omega) (by omega)]; simp only [many]; omega
theorem specPiece_eq {l : List (List Int)} {b g t : List Int} (z : SpOk l b g t) {x : Int} (h : pieceOk l b g x = true) : spec_l7Piece.f l b g t x = some (txt l x) := by
  obtain ⟨h1, _, _, h4, _⟩ := piece_parts h
  obtain ⟨p, rfl, hp, hr, he⟩ := piece_facts z h1
  have hl := hr.len
  have h2 := hr.at 2 (by omega)
  simp only [txt]
  rw [he] at hl h2 h4 ⊢
  have r2 : rd (l.getD p []) 2 = (l.getD p []).getD 2 0 := rd_nat _ 2
  simp only [spec_l7Piece.f, rd_L_nat, r2, w3 _ h2, Int.toNat_natCast]
  have hm : many (l.getD p []) ≤ 40 := by simp only [many]; omega
  rw [if_pos (by omega), if_pos (by omega), if_pos (by omega), if_pos (by omega), if_pos (by omega)]
theorem implPiece_ev {l : List (List Int)} {b g t : List Int} (z : SpOk l b g t) (x : Int) : Ev (fun k => impl_Space_piece.f k l b g t x) (if pieceOk l b g x = true then (x, (rowOf l x).getD 1 0, txt l x, true) else (0, 0, (⟨#[]⟩ : ByteArray), false)) := by
  have fl : pieceOk l b g x = false → ((0 : Int), (0 : Int), (⟨#[]⟩ : ByteArray), false) = (if pieceOk l b g x = true then (x, (rowOf l x).getD 1 0, txt l x, true) else (0, 0, (⟨#[]⟩ : ByteArray), false)) := fun h => by rw [h, if_neg (by decide)]
  simp only [impl_Space_piece.f]
  refine Ev.bind (implHere_ev l b g t z.s z.hg x) ?_
  cases hl : liveB l.length b g x with
  | false =>
    refine Ev_f (by decide) (Ev_succ ?_)
    simp only [impl_Space_piece.j0]
    exact Ev_t trivial (Ev_eq (Ev.now _) (fl (by simp only [pieceOk, hl, Bool.false_and])))
  | true =>
    obtain ⟨p, rfl, hp, hr, he⟩ := piece_facts z hl
    have hlen := hr.len
    have h1 := hr.at 1 (by omega); have h2 := hr.at 2 (by omega)
    simp only [pieceOk, hl, Bool.true_and, txt] at fl ⊢
    rw [he] at hlen h1 h2 fl ⊢
    have r0 : rd (l.getD p []) 0 = (l.getD p []).getD 0 0 := rd_nat _ 0
    have r1 : rd (l.getD p []) 1 = (l.getD p []).getD 1 0 := rd_nat _ 1
    have r2 : rd (l.getD p []) 2 = (l.getD p []).getD 2 0 := rd_nat _ 2
    simp only [rd_L_nat, r0]
    refine Ev_t (by trivial) (Ev_t (by omega) (Ev_t (by omega) (Ev_t (by omega) (Ev_succ ?_))))
    simp only [impl_Space_piece.j0, rd_L_nat, r1, r2, within_eq, Option.bind_some, decide_eq_true_eq]
    have hw := w3 _ h2
    generalize l.getD p [] = row at *
    rw [w64 (n := row.getD 1 0) (by omega) (by omega)]
    refine Ev_ite (fun c => Ev_eq (Ev.now _) (fl ?_)) (fun c => ?_)
    · have c' : ¬ row.getD 0 0 = 83 := by simpa using c
      simp only [c', decide_false, Bool.false_and]
    have c' : row.getD 0 0 = 83 := by simpa using c
    refine Ev_t (by omega) (Ev_t (by omega) (Ev_t (by omega) (Ev_t (by omega) (Ev_ite (fun d => ?_) (fun d => Ev_eq (Ev.now _) (fl ?_))))))
    · simp only [hw, Int.toNat_natCast]
      rw [w64 (n := row.getD 2 0) (by omega) (by omega)]
      refine Ev_ite (fun e => ?_) (fun e => Ev_eq (Ev.now _) (fl ?_))
      · have hm : many row ≤ 40 := by simp only [many]; omega
        refine Ev_t (by omega) (Ev_t (by omega) (Ev.bind (implTailI_ev (row.drop (3 + many row)) (by simp; omega)) (Ev_ite (fun f => Ev_eq (Ev.now _) (fl ?_)) (fun f => Ev_t (by omega) (Ev_eq (Ev.now _) ?_)))))
        · have f' : zeroB (row.drop (3 + many row)) = false := by simpa using f
          simp only [f', Bool.and_false]
        · have f' : zeroB (row.drop (3 + many row)) = true := by simpa using f
          simp only [c', d, e, f', and_self, decide_true, Bool.and_true, if_true]
      · simp only [e, decide_false, Bool.false_and, Bool.and_false]
    · simp only [d, decide_false, Bool.false_and, Bool.and_false]
theorem implHasP_ev (l : List (List Int)) (so : List Int) (hs : so.length ≤ 1048576) (x st : Int) (tx : ByteArray) : Ev (fun k => slices_ContainsFunc_impl_piece_81.f k (so.map (mkP l)) x st tx) (!noneIs so x) := by
  have hm : (so.map (mkP l)).length = so.length := by simp
  obtain ⟨r, h1, h2⟩ := find_ev (g := fun k i => slices_IndexFunc_impl_piece_81.l0 k (so.map (mkP l)) ((so.map (mkP l)).length : Int) i x st tx) so.length (fun i => decide (¬ so.getD i 0 = x))
    (fun i hi hp r hr => Ev_succ (by
      have e : rd_T80 (so.map (mkP l)) (i : Int) = mkP l (so.getD i 0) := by rw [rd_P_nat]; simp [List.getD, hi]
      simp only [slices_IndexFunc_impl_piece_81.l0, e, mkP, impl_Space_pieces_2.f, Option.bind_some]
      rw [w64_succ hi (by omega)]
      simp only [decide_eq_true_eq] at hp
      exact Ev_t (by omega) (Ev_t (by omega) (Ev_t (by omega) (Ev_f (by simpa using hp) hr)))))
    (fun i hi hp => Ev_succ (by
      have e : rd_T80 (so.map (mkP l)) (i : Int) = mkP l (so.getD i 0) := by rw [rd_P_nat]; simp [List.getD, hi]
      simp only [slices_IndexFunc_impl_piece_81.l0, e, mkP, impl_Space_pieces_2.f, Option.bind_some]
      simp only [decide_eq_false_iff_not, Decidable.not_not] at hp
      exact Ev_t (by omega) (Ev_t (by omega) (Ev_t (by omega) (Ev_t (by simpa using hp) (Ev.now _))))))
    (Ev_succ (by simp only [slices_IndexFunc_impl_piece_81.l0]; exact Ev_f (by omega) (Ev.now _)))
  simp only [slices_ContainsFunc_impl_piece_81.f, slices_IndexFunc_impl_piece_81.f]
  exact Ev.bind h1 (Ev_eq (Ev.now _) h2)
theorem wa (i : Nat) (h : i ≤ 3) : wrap64 (2 + wrap64 (2 * (i : Int))) = ((2 + 2 * i : Nat) : Int) := by rw [w64 (n := 2 * (i : Int)) (by omega) (by omega), w64 (by omega) (by omega)]; omega
theorem wb (i : Nat) (h : i ≤ 3) : wrap64 (3 + wrap64 (2 * (i : Int))) = ((3 + 2 * i : Nat) : Int) := by rw [w64 (n := 2 * (i : Int)) (by omega) (by omega), w64 (by omega) (by omega)]; omega
theorem wnum (row : List Int) (hr : RowOk row) (i : Nat) (hi : i ≤ 3) : wrap64 (wrap64 (wrap64 (row.getD (2 + 2 * i) 0) * 256) + wrap64 (row.getD (3 + 2 * i) 0)) = num3 row i := by
  have h1 := hr.at (2 + 2 * i) (by omega); have h2 := hr.at (3 + 2 * i) (by omega)
  rw [w64 (n := row.getD (2 + 2 * i) 0) (by omega) (by omega), w64 (n := row.getD (3 + 2 * i) 0) (by omega) (by omega), w64 (n := row.getD (2 + 2 * i) 0 * 256) (by omega) (by omega), w64 (by omega) (by omega)]; rfl
theorem implNum3_eq (row : List Int) (hr : RowOk row) (i : Nat) (hi : i ≤ 3) : impl_numberAt.f row (wrap64 (2 + wrap64 (2 * (i : Int)))) = some (num3 row i) := by
  have h1 := hr.at (2 + 2 * i) (by omega); have h2 := hr.at (3 + 2 * i) (by omega); have hl := hr.len
  simp only [impl_numberAt.f, wa i hi]
  have e : wrap64 (((2 + 2 * i : Nat) : Int) + 1) = ((3 + 2 * i : Nat) : Int) := by rw [w64 (by omega) (by omega)]; omega
  rw [e, if_pos (by omega), if_pos (by omega), if_pos (by omega), if_pos (by omega)]
  simp only [rd_nat]
  rw [w64 (n := row.getD (2 + 2 * i) 0) (by omega) (by omega), w64 (n := row.getD (3 + 2 * i) 0) (by omega) (by omega), w64 (n := row.getD (2 + 2 * i) 0 * 256) (by omega) (by omega), or8 h1.1 h1.2 h2.1 h2.2]
  rfl
def stepP (l : List (List Int)) (b g : List Int) (row : List Int) (n i : Nat) (so : List Int) : Bool := pieceOk l b g (num3 row i) && (noneIs so (num3 row i) && (!decide (i + 1 < n) || decide (many (rowOf l (num3 row i)) = 40)))
set_option maxHeartbeats 4000000 in
theorem specStepP {l : List (List Int)} {b g t : List Int} (z : SpOk l b g t) (row : List Int) (hr : RowOk row) (n : Nat) (hn : n ≤ 3) (i : Nat) (hi : i < n) (so : List Int) (hs : so.length = i) (R : List Int × Bool)
    (hR : stepP l b g row n i so = true → Ev (fun k => spec_l7Pieces.l0 k row (n : Int) (so ++ [num3 row i]) ((i + 1 : Nat) : Int) l b g t) R)
    (hF : stepP l b g row n i so = false → R = ([], false)) : Ev (fun k => spec_l7Pieces.l0 k row (n : Int) so (i : Int) l b g t) R := by
  have hrl := hr.len
  refine Ev_succ ?_
  simp only [spec_l7Pieces.l0, wa i (by omega), wb i (by omega), rd_nat, wnum row hr i (by omega)]
  refine Ev_t (by omega) (Ev_t (by omega) (Ev_t (by omega) (Ev_t (by omega) (Ev_t (by omega) (Ev.bind (specLive_ev l b g t z.s z.hg (num3 row i)) ?_)))))
  have hfl : ∀ c : Bool, c = true → stepP l b g row n i so = false → Ev (fun k => spec_l7Pieces.j2 k row (n : Int) so (i : Int) (num3 row i) c l b g t) R := fun c hc h => Ev_succ (by simp only [spec_l7Pieces.j2]; exact Ev_t hc (Ev_eq (Ev.now _) (hF h).symm))
  cases hl : liveB l.length b g (num3 row i) with
  | false => exact Ev_f (by decide) (hfl _ rfl (by simp only [stepP, pieceOk, hl, Bool.false_and]))
  | true =>
    refine Ev_t rfl (Ev.bind (specHas_ev so (by omega) (num3 row i)) ?_)
    cases hh : noneIs so (num3 row i) with
    | false => exact hfl _ rfl (by simp only [stepP, hh, Bool.false_and, Bool.and_false])
    | true =>
      obtain ⟨p, hx, hp, hpr, he⟩ := piece_facts z hl
      simp only [stepP, hh, Bool.true_and, pieceOk, hl] at hR hF
      refine Ev_succ ?_
      rw [he] at hR hF hpr
      simp only [hx] at hR hF ⊢
      simp only [spec_l7Pieces.j2, rd_L_nat]
      have hlen := hpr.len
      have h1 := hpr.at 1 (by omega); have h2 := hpr.at 2 (by omega)
      have r0 : rd (l.getD p []) 0 = (l.getD p []).getD 0 0 := rd_nat _ 0
      have r1 : rd (l.getD p []) 1 = (l.getD p []).getD 1 0 := rd_nat _ 1
      have r2 : rd (l.getD p []) 2 = (l.getD p []).getD 2 0 := rd_nat _ 2
      have hw := w3 _ h2
      have hml : (3 + many (l.getD p [])) ≤ (l.getD p []).length ∨ ¬ (1 ≤ (l.getD p []).getD 2 0 ∧ (l.getD p []).getD 2 0 ≤ 40) := by
        by_cases c : 1 ≤ (l.getD p []).getD 2 0 ∧ (l.getD p []).getD 2 0 ≤ 40
        · left; simp only [many]; omega
        · right; exact c
      have hmv : ((many (l.getD p []) : Nat) : Int) = (l.getD p []).getD 2 0 := by simp only [many]; omega
      simp only [r0, r1, r2, hw, l1In_eq, Option.bind_some, decide_eq_true_eq]
      rw [w64 (n := (l.getD p []).getD 1 0) (by omega) (by omega), w64 (n := (l.getD p []).getD 2 0) (by omega) (by omega), w64 (n := (n : Int) - 1) (by omega) (by omega)]
      clear hx he
      generalize l.getD p [] = q at *
      rw [w64_succ (n := 3) (i := i) (by omega) (by omega)]
      have fin : (q.getD 0 0 = 83) → (1 ≤ q.getD 1 0 ∧ q.getD 1 0 ≤ 250) → (1 ≤ q.getD 2 0 ∧ q.getD 2 0 ≤ 40) → (¬ i + 1 < n ∨ many q = 40) → Ev (fun k => (spec_l7Rest.f k q ((3 + many q : Nat) : Int)).bind fun t_ => if t_ = true then (if so.length < 17592186044416 then spec_l7Pieces.l0 k row (n : Int) (so ++ [(p : Int)]) ((i + 1 : Nat) : Int) l b g t else none) else some ([], false)) R := by
        intro c0 c1 c2 c3
        have c3' : (!decide (i + 1 < n) || decide (many q = 40)) = true := by simpa using c3
        refine Ev.bind (specRest_ev q (3 + many q) (by rcases hml with h | h; exact h; exact absurd c2 h) (by omega)) (Ev_ite (fun c4 => Ev_t (by omega) (hR ?_)) (fun c4 => Ev_eq (Ev.now _) (hF ?_).symm))
        · simp only [c0, c1, c2, c4, c3', and_self, decide_true, Bool.and_true]
        · have c4' : zeroB (q.drop (3 + many q)) = false := by simpa using c4
          simp only [c4', Bool.and_false, Bool.false_and]
      refine Ev_f (by decide) (Ev_t (by omega) (Ev_t (by omega) (Ev_t (by omega) (Ev_t (by omega) ?_))))
      refine Ev_ite (fun c0 => ?_) (fun c0 => Ev_eq (Ev.now _) (hF (by simp only [c0, decide_false, Bool.false_and])).symm)
      refine Ev_t (by omega) (Ev_ite (fun c1 => ?_) (fun c1 => Ev_eq (Ev.now _) (hF (by simp only [c1, decide_false, Bool.false_and, Bool.and_false])).symm))
      refine Ev_ite (fun c2 => ?_) (fun c2 => Ev_eq (Ev.now _) (hF (by simp only [c2, decide_false, Bool.false_and, Bool.and_false])).symm)
      refine Ev_ite (fun c3 => Ev_ite (fun c5 => fin c0 c1 c2 (by omega)) (fun c5 => Ev_eq (Ev.now _) (hF ?_).symm)) (fun c3 => fin c0 c1 c2 (by omega))
      have d1 : i + 1 < n := by omega
      have d2 : ¬ many q = 40 := by omega
      simp only [d1, d2, decide_true, decide_false, Bool.not_true, Bool.or_false, Bool.and_false]
set_option maxHeartbeats 4000000 in
theorem loopP {l : List (List Int)} {b g t : List Int} (z : SpOk l b g t) (row : List Int) (hr : RowOk row) (n : Nat) (hn : n ≤ 3) : ∀ (m i : Nat) (so : List Int), i + m = n → so.length = i → (∀ x ∈ so, pieceOk l b g x = true) →
    ∃ (r : List Int) (ok : Bool), Ev (fun k => spec_l7Pieces.l0 k row (n : Int) so (i : Int) l b g t) (r, ok && zeroB (row.drop (2 + 2 * n))) ∧ Ev (fun k => impl_Space_pieces.l0 k row (n : Int) (so.map (mkP l)) (n : Int) (i : Int) l b g t) (if ok = true then r.map (mkP l) else [], ok) ∧ (ok = true → r.length ≤ 3 ∧ ∀ x ∈ r, pieceOk l b g x = true) := by
  have hrl := hr.len
  intro m
  induction m with
  | zero =>
    intro i so hi hs hp
    obtain rfl : i = n := by omega
    refine ⟨so, true, Ev_succ ?_, Ev_succ ?_, fun _ => ⟨by omega, hp⟩⟩
    · simp only [spec_l7Pieces.l0, wa i (by omega)]
      exact Ev_f (by omega) (Ev.bind (specRest_ev row (2 + 2 * i) (by omega) (by omega)) (Ev_eq (Ev.now _) (by rw [Bool.true_and])))
    · simp only [impl_Space_pieces.l0]
      exact Ev_f (by omega) (Ev_eq (Ev.now _) (by simp))
  | succ m ih =>
    intro i so hi hs hp
    have hi' : i < n := by omega
    have iS : ∀ (R : List S80 × Bool), (stepP l b g row n i so = true → Ev (fun k => impl_Space_pieces.l0 k row (n : Int) ((so ++ [num3 row i]).map (mkP l)) (n : Int) ((i + 1 : Nat) : Int) l b g t) R) → (stepP l b g row n i so = false → R = ([], false)) → Ev (fun k => impl_Space_pieces.l0 k row (n : Int) (so.map (mkP l)) (n : Int) (i : Int) l b g t) R := by
      intro R hR hF
      refine Ev_succ ?_
      simp only [impl_Space_pieces.l0, implNum3_eq row hr i (by omega), Option.bind_some]
      rw [w64_succ (n := 3) (i := i) (by omega) (by omega)]
      refine Ev_t (by omega) (Ev.bind (implPiece_ev z (num3 row i)) ?_)
      cases hk : pieceOk l b g (num3 row i) with
      | false =>
        rw [if_neg (by decide)]
        exact Ev_f (by decide) (Ev_eq (Ev.now _) (hF (by simp only [stepP, hk, Bool.false_and])).symm)
      | true =>
        rw [if_pos rfl]
        obtain ⟨h1, _, _, h4, _⟩ := piece_parts hk
        obtain ⟨p, hx, hpl, hpr, he⟩ := piece_facts z h1
        have htl := txt_len hpr h4
        have hm : (so.map (mkP l)).length = so.length := by simp
        have e : so.map (mkP l) ++ [(⟨num3 row i, (rowOf l (num3 row i)).getD 1 0, txt l (num3 row i)⟩ : S80)] = (so ++ [num3 row i]).map (mkP l) := by simp [mkP]
        have fin : (¬ i + 1 < n ∨ many (rowOf l (num3 row i)) = 40) → Ev (fun k => (slices_ContainsFunc_impl_piece_81.f k (so.map (mkP l)) (num3 row i) ((rowOf l (num3 row i)).getD 1 0) (txt l (num3 row i))).bind fun t_ => if t_ = true then some ([], false) else (if (so.map (mkP l)).length < 4398046511104 then impl_Space_pieces.l0 k row (n : Int) (so.map (mkP l) ++ [(⟨num3 row i, (rowOf l (num3 row i)).getD 1 0, txt l (num3 row i)⟩ : S80)]) (n : Int) ((i + 1 : Nat) : Int) l b g t else none)) R := by
          intro c3
          have c3' : (!decide (i + 1 < n) || decide (many (rowOf l (num3 row i)) = 40)) = true := by simpa using c3
          refine Ev.bind (implHasP_ev l so (by omega) _ _ _) ?_
          cases hh : noneIs so (num3 row i) with
          | false => exact Ev_t rfl (Ev_eq (Ev.now _) (hF (by simp only [stepP, hh, Bool.false_and, Bool.and_false])).symm)
          | true =>
            rw [e]
            exact Ev_f (by decide) (Ev_t (by omega) (hR (by simp only [stepP, hk, hh, c3', Bool.and_self])))
        refine Ev_t rfl (Ev_ite (fun c3 => Ev_ite (fun c5 => Ev_eq (Ev.now _) (hF ?_).symm) (fun c5 => fin (Or.inr ?_))) (fun c3 => fin (Or.inl (by omega))))
        · have d1 : i + 1 < n := by omega
          have d2 : ¬ many (rowOf l (num3 row i)) = 40 := by simp only at c5; omega
          simp only [stepP, d1, d2, decide_true, decide_false, Bool.not_true, Bool.or_false, Bool.and_false]
        · have : many (rowOf l (num3 row i)) ≤ 40 := by simp only [many]; omega
          simp only at c5; omega
    cases hst : stepP l b g row n i so with
    | false =>
      refine ⟨[], false, ?_, ?_, fun h => by cases h⟩
      · exact specStepP z row hr n hn i hi' so hs _ (fun h => by rw [hst] at h; cases h) (fun _ => by rw [Bool.false_and])
      · exact iS _ (fun h => by rw [hst] at h; cases h) (fun _ => by rw [if_neg (by decide)])
    | true =>
      have hok : pieceOk l b g (num3 row i) = true := by simp only [stepP, Bool.and_eq_true] at hst; exact hst.1
      obtain ⟨r, ok, g1, g2, g3⟩ := ih (i + 1) (so ++ [num3 row i]) (by omega) (by simp; omega) (fun x hx => by
        rcases List.mem_append.1 hx with h | h
        · exact hp x h
        · rw [List.mem_singleton] at h; rw [h]; exact hok)
      exact ⟨r, ok, specStepP z row hr n hn i hi' so hs _ (fun _ => g1) (fun h => by rw [hst] at h; cases h), iS _ (fun _ => g2) (fun h => by rw [hst] at h; cases h), g3⟩
theorem samePieces (l : List (List Int)) (b g t : List Int) (z : SpOk l b g t) (a : Int) : ∃ (so : List Int) (io : List S80) (ok : Bool), Ev (fun k => spec_l7Pieces.f k l b g t a) (so, ok) ∧ Ev (fun k => impl_Space_pieces.f k l b g t a) (io, ok) ∧ (ok = true → so.length ≤ 3 ∧ (∀ x ∈ so, pieceOk l b g x = true) ∧ io = so.map (mkP l)) := by
  have fS : ∀ c : Bool, c = true → Ev (fun k => spec_l7Pieces.j0 k a c l b g t) ([], false) := fun c hc => Ev_succ (by simp only [spec_l7Pieces.j0]; exact Ev_t hc (Ev.now _))
  have fI : ∀ c : Bool, c = true → Ev (fun k => impl_Space_pieces.j0 k a c l b g t) ([], false) := fun c hc => Ev_succ (by simp only [impl_Space_pieces.j0]; exact Ev_t hc (Ev.now _))
  have e1 := specLive_ev l b g t z.s z.hg a
  have e2 := implHere_ev l b g t z.s z.hg a
  simp only [spec_l7Pieces.f, impl_Space_pieces.f]
  cases hl : liveB l.length b g a with
  | false =>
    rw [hl] at e1 e2
    exact ⟨[], [], false, Ev.bind e1 (Ev_f (by decide) (fS _ rfl)), Ev.bind e2 (Ev_f (by decide) (fI _ rfl)), fun h => by cases h⟩
  | true =>
    rw [hl] at e1 e2
    obtain ⟨p, rfl, hp, hr, he⟩ := piece_facts z hl
    rw [he] at hr
    have hlen := hr.len
    have h1 := hr.at 1 (by omega)
    have r0 : rd (l.getD p []) 0 = (l.getD p []).getD 0 0 := rd_nat _ 0
    have r1 : rd (l.getD p []) 1 = (l.getD p []).getD 1 0 := rd_nat _ 1
    simp only [rd_L_nat, r0, r1]
    by_cases c0 : (l.getD p []).getD 0 0 = 84
    · have cb : ((l.getD p []).getD 0 0 != 84) = false := by rw [c0]; decide
      by_cases c1 : (l.getD p []).getD 1 0 > 3
      · refine ⟨[], [], false, Ev.bind e1 (Ev_t rfl (Ev_t (by omega) (Ev_t (by omega) (Ev_t (by omega) (Ev_t c0 (Ev_t (by omega) (fS _ (by simpa using c1)))))))), Ev.bind e2 (Ev_t rfl (Ev_t (by omega) (Ev_t (by omega) (Ev_t (by omega) (Ev_succ ?_))))), fun h => by cases h⟩
        simp only [impl_Space_pieces.j0, rd_L_nat, r1, cb]
        rw [w64 (n := (l.getD p []).getD 1 0) (by omega) (by omega)]
        refine Ev_f (by decide) (Ev_t (by omega) (Ev_t (by omega) (Ev_t (by omega) (Ev_t c1 (Ev_succ ?_)))))
        simp only [impl_Space_pieces.j1]
        exact Ev_t trivial (Ev.now _)
      · obtain ⟨n, hn⟩ : ∃ n : Nat, (l.getD p []).getD 1 0 = (n : Int) := ⟨((l.getD p []).getD 1 0).toNat, by omega⟩
        have hn3 : n ≤ 3 := by omega
        obtain ⟨r, ok, g1, g2, g3⟩ := loopP z (l.getD p []) hr n hn3 n 0 [] (by omega) rfl (fun x hx => by cases hx)
        have cd : decide ((l.getD p []).getD 1 0 > 3) = false := by simpa using c1
        have s1 : Ev (fun k => spec_l7Pieces.j0 k (p : Int) (decide ((l.getD p []).getD 1 0 > 3)) l b g t) (r, ok && zeroB ((l.getD p []).drop (2 + 2 * n))) := by
          refine Ev_succ ?_
          simp only [spec_l7Pieces.j0, rd_L_nat, r1, cd]
          rw [w64 (n := (l.getD p []).getD 1 0) (by omega) (by omega), hn]
          exact Ev_f (by decide) (Ev_t (by omega) (Ev_t (by omega) (Ev_t (by omega) g1)))
        have s2 : Ev (fun k => impl_Space_pieces.j0 k (p : Int) ((l.getD p []).getD 0 0 != 84) l b g t) (if zeroB ((l.getD p []).drop (2 + 2 * n)) = true then (if ok = true then r.map (mkP l) else [], ok) else ([], false)) := by
          refine Ev_succ ?_
          simp only [impl_Space_pieces.j0, rd_L_nat, r1, cb]
          rw [w64 (n := (l.getD p []).getD 1 0) (by omega) (by omega), hn]
          simp only [wa n hn3, Int.toNat_natCast]
          refine Ev_f (by decide) (Ev_t (by omega) (Ev_t (by omega) (Ev_t (by omega) (Ev_f (by omega) (Ev_t (by omega) (Ev_t (by omega) (Ev.bind (implTailS_ev ((l.getD p []).drop (2 + 2 * n)) (by rw [List.length_drop]; omega)) (Ev_succ ?_))))))))
          simp only [impl_Space_pieces.j1]
          cases hz : zeroB ((l.getD p []).drop (2 + 2 * n)) with
          | false => exact Ev_t (by decide) (Ev_eq (Ev.now _) (by rw [if_neg (by decide)]))
          | true => rw [if_pos rfl]; exact Ev_f (by decide) g2
        refine ⟨r, (if zeroB ((l.getD p []).drop (2 + 2 * n)) = true then (if ok = true then r.map (mkP l) else []) else []), ok && zeroB ((l.getD p []).drop (2 + 2 * n)), Ev.bind e1 (Ev_t rfl (Ev_t (by omega) (Ev_t (by omega) (Ev_t (by omega) (Ev_t c0 (Ev_t (by omega) s1)))))), Ev.bind e2 (Ev_t rfl (Ev_t (by omega) (Ev_t (by omega) (Ev_t (by omega) (Ev_eq s2 ?_))))), fun h => ?_⟩
        · cases zeroB ((l.getD p []).drop (2 + 2 * n)) <;> cases ok <;> rfl
        · simp only [Bool.and_eq_true] at h
          obtain ⟨k1, k2⟩ := g3 h.1
          exact ⟨k1, k2, by rw [if_pos h.2, if_pos h.1]⟩
    · have cb : ((l.getD p []).getD 0 0 != 84) = true := by simpa using c0
      exact ⟨[], [], false, Ev.bind e1 (Ev_t rfl (Ev_t (by omega) (Ev_t (by omega) (Ev_t (by omega) (Ev_f c0 (fS _ rfl)))))), Ev.bind e2 (Ev_t rfl (Ev_t (by omega) (Ev_t (by omega) (Ev_t (by omega) (fI _ cb))))), fun h => by cases h⟩

theorem list_size0 {s : ByteArray} : s.toList = [] ↔ s.size = 0 := by
  rw [ByteArray.toList_eq]
  constructor
  · intro h
    have : s.data.toList.length = 0 := by rw [h]; rfl
    simpa using this
  · intro h
    exact List.eq_nil_of_length_eq_zero (by simpa using h)
theorem ext_all (x : ByteArray) : x.extract 0 x.size = x := by simp
theorem sameCut : ∀ (n : Nat) (x : ByteArray) (acc : List ByteArray), x.size ≤ n * 40 → acc.length + n ≤ 1000000 →
    ∃ r : List ByteArray, r.length ≤ acc.length + n ∧ Ev (fun k => spec_l7Cut.l0 k x acc) r ∧ Ev (fun k => impl_cut.l0 k x acc) r := by
  intro n
  induction n with
  | zero =>
    intro x acc hx ha
    have h0 : x.toList = [] := list_size0.2 (by omega)
    refine ⟨acc, by omega, Ev_succ ?_, Ev_succ ?_⟩
    · simp only [spec_l7Cut.l0]
      exact Ev_f (by omega) (Ev_t h0 (Ev.now _))
    · simp only [impl_cut.l0]
      exact Ev_t h0 (Ev.now _)
  | succ n ih =>
    intro x acc hx ha
    by_cases h0 : x.size = 0
    · have h0' : x.toList = [] := list_size0.2 h0
      refine ⟨acc, by omega, Ev_succ ?_, Ev_succ ?_⟩
      · simp only [spec_l7Cut.l0]
        exact Ev_f (by omega) (Ev_t h0' (Ev.now _))
      · simp only [impl_cut.l0]
        exact Ev_t h0' (Ev.now _)
    · have h0' : ¬ x.toList = [] := fun h => h0 (list_size0.1 h)
      by_cases h1 : x.size > 40
      · have hm : mn 40 (x.size : Int) = 40 := by unfold mn; omega
        have hs : (x.extract 40 x.size).size = x.size - 40 := ext_size (Nat.le_refl _)
        obtain ⟨r, g1, g2, g3⟩ := ih (x.extract 40 x.size) (acc ++ [x.extract 0 40]) (by omega) (by simp; omega)
        refine ⟨r, by simp at g1; omega, Ev_succ ?_, Ev_succ ?_⟩
        · simp only [spec_l7Cut.l0]
          exact Ev_t (by omega) (Ev_t (by omega) (Ev_t (by omega) (Ev_t (by omega) g2)))
        · simp only [impl_cut.l0, hm]
          exact Ev_f h0' (Ev_t (by omega) (Ev_t (by omega) (Ev_t (by omega) g3)))
      · have hm : mn 40 (x.size : Int) = (x.size : Int) := by unfold mn; omega
        have he : (x.extract x.size x.size).toList = [] := list_size0.2 (by rw [ext_size (Nat.le_refl _)]; omega)
        refine ⟨acc ++ [x], by simp, Ev_succ ?_, Ev_succ ?_⟩
        · simp only [spec_l7Cut.l0]
          exact Ev_f (by omega) (Ev_f h0' (Ev_t (by omega) (Ev.now _)))
        · simp only [impl_cut.l0, hm, Int.toNat_natCast, ext_all]
          refine Ev_f h0' (Ev_t (by omega) (Ev_t (by omega) (Ev_t (by omega) (Ev_succ ?_))))
          simp only [impl_cut.l0]
          exact Ev_t he (Ev.now _)
def flagB (l : List (List Int)) (so : List Int) (cs : List ByteArray) (k : Nat) : Bool := decide (k < so.length) && (decide ((txt l (so.getD k 0)).toList = (cs.getD k ByteArray.empty).toList) && decide ((rowOf l (so.getD k 0)).getD 1 0 < 250))
def spK (l : List (List Int)) (so : List Int) (cs : List ByteArray) (k : Nat) : Int := if flagB l so cs k = true then so.getD k 0 else 0
def imK (l : List (List Int)) (so : List Int) (cs : List ByteArray) (k : Nat) : S80 := if flagB l so cs k = true then mkP l (so.getD k 0) else ⟨0, 0, cs.getD k ByteArray.empty⟩
theorem rdS_nat (xs : List ByteArray) (i : Nat) : rdOf ByteArray.empty xs (i : Int) = xs.getD i ByteArray.empty := by simp [rdOf]
theorem rdB_nat (xs : List Bool) (i : Nat) : rdOf false xs (i : Int) = xs.getD i false := by simp [rdOf]
theorem specShare_ev {l : List (List Int)} {b g t : List Int} (z : SpOk l b g t) (so : List Int) (hs : so.length ≤ 3) (hok : ∀ x ∈ so, pieceOk l b g x = true) (cs : List ByteArray) (hc : cs.length ≤ 1000000) :
    ∀ m i, i + m = cs.length → Ev (fun k => spec_l7Shared.l0 k so ((List.range i).map (spK l so cs)) cs (cs.length : Int) ((i : Nat) : Int) l b g t) ((List.range cs.length).map (spK l so cs)) := by
  intro m
  induction m with
  | zero =>
    intro i hi
    obtain rfl : i = cs.length := by omega
    exact Ev_succ (by simp only [spec_l7Shared.l0]; exact Ev_f (by omega) (Ev.now _))
  | succ m ih =>
    intro i hi
    have h := ih (i + 1) (by omega)
    rw [List.range_succ, List.map_append, List.map_singleton] at h
    have hl : ((List.range i).map (spK l so cs)).length = i := by simp
    refine Ev_succ ?_
    simp only [spec_l7Shared.l0, rd_nat, rdS_nat]
    rw [w64_succ (n := cs.length) (i := i) (by omega) (by omega)]
    refine Ev_t (by omega) (Ev_t (by omega) (Ev_t (by omega) (Ev_ite (fun c0 => ?_) (fun c0 => ?_))))
    · have hx := hok _ (getD_mem 0 (show i < so.length by omega))
      obtain ⟨h1, _, _, _, _⟩ := piece_parts hx
      obtain ⟨p, he, hp, hr, hq⟩ := piece_facts z h1
      have hlen := hr.len
      have r1 : rd (rowOf l (so.getD i 0)) 1 = (rowOf l (so.getD i 0)).getD 1 0 := rd_nat _ 1
      have hL : rd_L1 l (so.getD i 0) = rowOf l (so.getD i 0) := by rw [hq, he]; exact rd_L_nat l p
      refine Ev_bind0 (specPiece_eq z hx) ?_
      simp only [hL, r1]
      refine Ev_ite (fun c1 => Ev_t (by omega) (Ev_t (by omega) (Ev_t (by omega) (Ev_ite (fun c2 => Ev_t (by omega) ?_) (fun c2 => Ev_t (by omega) ?_))))) (fun c1 => Ev_t (by omega) ?_)
      · have e : spK l so cs i = so.getD i 0 := if_pos (by simp only [flagB, c1, c2, show i < so.length by omega, decide_true, Bool.and_true])
        rw [e] at h; exact h
      · have e : spK l so cs i = 0 := if_neg (by simp only [flagB, c2, decide_false, Bool.and_false]; decide)
        rw [e] at h; exact h
      · have e : spK l so cs i = 0 := if_neg (by simp only [flagB, c1, decide_false, Bool.false_and, Bool.and_false]; decide)
        rw [e] at h; exact h
    · have e : spK l so cs i = 0 := if_neg (by simp only [flagB, show ¬ i < so.length by omega, decide_false, Bool.false_and]; decide)
      rw [e] at h; exact Ev_t (by omega) h
theorem implShare_ev (l : List (List Int)) (so : List Int) (hs : so.length ≤ 3) (cs : List ByteArray) (hc : cs.length ≤ 1000000) :
    ∀ m i, i + m = cs.length → Ev (fun k => impl_Space_shared.l0 k (so.map (mkP l)) ((List.range i).map (imK l so cs)) ((List.range i).map (flagB l so cs)) cs (cs.length : Int) ((i : Nat) : Int)) ((List.range cs.length).map (imK l so cs), (List.range cs.length).map (flagB l so cs), true) := by
  have hm : (so.map (mkP l)).length = so.length := by simp
  intro m
  induction m with
  | zero =>
    intro i hi
    obtain rfl : i = cs.length := by omega
    exact Ev_succ (by simp only [impl_Space_shared.l0]; exact Ev_f (by omega) (Ev.now _))
  | succ m ih =>
    intro i hi
    have h := ih (i + 1) (by omega)
    rw [List.range_succ, List.map_append, List.map_append, List.map_singleton, List.map_singleton] at h
    have hl : ((List.range i).map (imK l so cs)).length = i := by simp
    have hl2 : ((List.range i).map (flagB l so cs)).length = i := by simp
    refine Ev_succ ?_
    simp only [impl_Space_shared.l0, rdS_nat, rd_P_nat]
    rw [w64_succ (n := cs.length) (i := i) (by omega) (by omega)]
    have fin : flagB l so cs i = false → Ev (fun k => if ((List.range i).map (imK l so cs)).length < 4398046511104 then (if ((List.range i).map (flagB l so cs)).length < 140737488355328 then impl_Space_shared.l0 k (so.map (mkP l)) ((List.range i).map (imK l so cs) ++ [(⟨0, 0, cs.getD i ByteArray.empty⟩ : S80)]) ((List.range i).map (flagB l so cs) ++ [false]) cs (cs.length : Int) ((i + 1 : Nat) : Int) else none) else none) ((List.range cs.length).map (imK l so cs), (List.range cs.length).map (flagB l so cs), true) := by
      intro hf
      have e : imK l so cs i = ⟨0, 0, cs.getD i ByteArray.empty⟩ := if_neg (by rw [hf]; decide)
      rw [e, hf] at h
      exact Ev_t (by omega) (Ev_t (by omega) h)
    refine Ev_t (by omega) (Ev_t (by omega) (Ev_t (by omega) (Ev_ite (fun c0 => ?_) (fun c0 => ?_))))
    · have e0 : (so.map (mkP l)).getD i z80 = mkP l (so.getD i 0) := by simp [List.getD, show i < so.length by omega]
      simp only [e0]
      refine Ev_ite (fun c1 => Ev_ite (fun c2 => ?_) (fun c2 => fin ?_)) (fun c1 => fin ?_)
      · have c1' : (txt l (so.getD i 0)).toList = (cs.getD i ByteArray.empty).toList := c1
        have c2' : (rowOf l (so.getD i 0)).getD 1 0 < 250 := c2
        have hf : flagB l so cs i = true := by simp only [flagB, c1', c2', show i < so.length by omega, decide_true, Bool.and_true]
        have e : imK l so cs i = mkP l (so.getD i 0) := if_pos hf
        rw [e, hf] at h
        exact Ev_t (by omega) (Ev_t (by omega) h)
      · have c2' : ¬ (rowOf l (so.getD i 0)).getD 1 0 < 250 := c2
        simp only [flagB, c2', decide_false, Bool.and_false]
      · have c1' : ¬ (txt l (so.getD i 0)).toList = (cs.getD i ByteArray.empty).toList := c1
        simp only [flagB, c1', decide_false, Bool.false_and, Bool.and_false]
    · exact fin (by simp only [flagB, show ¬ i < so.length by omega, decide_false, Bool.false_and])
def cnt (f : Nat → Bool) : Nat → Nat
  | 0 => 0
  | n + 1 => if f n = true then cnt f n else cnt f n + 1
theorem cnt_le (f : Nat → Bool) : ∀ n, cnt f n ≤ n := by
  intro n
  induction n with
  | zero => simp [cnt]
  | succ n ih => simp only [cnt]; split <;> omega
theorem specCount_ev (l : List (List Int)) (b g : List Int) (so : List Int) (hok : ∀ x ∈ so, pieceOk l b g x = true) (cs : List ByteArray) (hc : cs.length ≤ 1000000) :
    ∀ m i, i + m = cs.length → Ev (fun k => spec_l7NeedText.l0 k (1 + (cnt (flagB l so cs) i : Int)) ((List.range cs.length).map (spK l so cs)) (cs.length : Int) ((i : Nat) : Int)) (1 + (cnt (flagB l so cs) cs.length : Int)) := by
  intro m
  induction m with
  | zero =>
    intro i hi
    obtain rfl : i = cs.length := by omega
    exact Ev_succ (by simp only [spec_l7NeedText.l0]; exact Ev_f (by omega) (Ev.now _))
  | succ m ih =>
    intro i hi
    have h := ih (i + 1) (by omega)
    have hn := cnt_le (flagB l so cs) i
    have hL : ((List.range cs.length).map (spK l so cs)).length = cs.length := by simp
    have e0 : ((List.range cs.length).map (spK l so cs)).getD i 0 = spK l so cs i := by simp [List.getD, List.getElem?_map, List.getElem?_range (show i < cs.length by omega)]
    have ec : cnt (flagB l so cs) (i + 1) = if flagB l so cs i = true then cnt (flagB l so cs) i else cnt (flagB l so cs) i + 1 := rfl
    rw [ec] at h
    refine Ev_succ ?_
    simp only [spec_l7NeedText.l0, rd_nat, e0]
    rw [w64_succ (n := cs.length) (i := i) (by omega) (by omega)]
    refine Ev_t (by omega) (Ev_t (by omega) (Ev_t (by omega) ?_))
    cases hf : flagB l so cs i with
    | true =>
      rw [hf, if_pos rfl] at h
      have e1 : spK l so cs i = so.getD i 0 := if_pos hf
      have hi' : i < so.length := by simp only [flagB, Bool.and_eq_true, decide_eq_true_eq] at hf; exact hf.1
      have hlv := live_facts (piece_parts (hok _ (getD_mem 0 hi'))).1
      rw [e1]
      exact Ev_f (by omega) h
    | false =>
      rw [hf, if_neg (by decide)] at h
      have e1 : spK l so cs i = 0 := if_neg (by rw [hf]; decide)
      rw [e1, w64 (by omega) (by omega)]
      have e2 : 1 + (cnt (flagB l so cs) i : Int) + 1 = 1 + ((cnt (flagB l so cs) i + 1 : Nat) : Int) := by omega
      rw [e2]
      exact Ev_t rfl h
theorem implCount_ev (f : Nat → Bool) (n : Nat) (hc : n ≤ 1000000) :
    ∀ m i, i + m = n → Ev (fun k => impl_Space_needText.l0 k (1 + (cnt f i : Int)) ((List.range n).map f) (n : Int) ((i : Nat) : Int)) (1 + (cnt f n : Int)) := by
  intro m
  induction m with
  | zero =>
    intro i hi
    obtain rfl : i = n := by omega
    exact Ev_succ (by simp only [impl_Space_needText.l0]; exact Ev_f (by omega) (Ev.now _))
  | succ m ih =>
    intro i hi
    have h := ih (i + 1) (by omega)
    have hn := cnt_le f i
    have hL : ((List.range n).map f).length = n := by simp
    have e0 : ((List.range n).map f).getD i false = f i := by simp [List.getD, List.getElem?_map, List.getElem?_range (show i < n by omega)]
    have ec : cnt f (i + 1) = if f i = true then cnt f i else cnt f i + 1 := rfl
    rw [ec] at h
    refine Ev_succ ?_
    simp only [impl_Space_needText.l0, rdB_nat, e0]
    rw [w64_succ (n := n) (i := i) (by omega) (by omega)]
    refine Ev_t (by omega) (Ev_t (by omega) (Ev_t (by omega) ?_))
    cases hf : f i with
    | true => rw [hf, if_pos rfl] at h; exact Ev_t rfl h
    | false =>
      rw [hf, if_neg (by decide)] at h
      rw [w64 (by omega) (by omega)]
      have e2 : 1 + (cnt f i : Int) + 1 = 1 + ((cnt f i + 1 : Nat) : Int) := by omega
      rw [e2]
      exact Ev_f (by decide) h
theorem same_NeedForText (l : List (List Int)) (b g t : List Int) (z : SpaceSz l b g t) (hby : ∀ r ∈ l, ∀ y ∈ r, 0 ≤ y ∧ y ≤ 255) (x : ByteArray) (a : Int) : ∃ R : Int × Bool, Ev (fun k => spec_NeedForText.f k l b g t x a) R ∧ Ev (fun k => impl_NeedForText.f k l b g t x a) R := by
  simp only [spec_NeedForText.f, impl_NeedForText.f, spec_l7Near.f, impl_canLay.f]
  have e1 := specGoodSpace_ev l b g t z.hl z.hg z.ht
  have e2 := implGoodSpace_ev l b g t z.hl z.hg z.ht
  cases hgd : goodB l b g t with
  | false =>
    rw [hgd] at e1 e2
    exact ⟨(0, false), Ev.bind (Ev.bind e1 (Ev_f (by decide) (Ev.now _))) (Ev_f (by decide) (Ev.now _)), Ev.bind (Ev.bind e2 (Ev_f (by decide) (Ev.now _))) (Ev_f (by decide) (Ev.now _))⟩
  | true =>
    rw [hgd] at e1 e2
    have zz : SpOk l b g t := ⟨goodB_facts hgd, z.hg, hby⟩
    by_cases hx : (x.size : Int) > 120
    · exact ⟨(0, false), Ev.bind (Ev.bind e1 (Ev_t rfl (Ev_t hx (Ev.now _)))) (Ev_f (by decide) (Ev.now _)), Ev.bind (Ev.bind e2 (Ev_t rfl (Ev_t hx (Ev.now _)))) (Ev_f (by decide) (Ev.now _))⟩
    obtain ⟨so, io, ok, h3, h4, h5⟩ := samePieces l b g t zz a
    obtain ⟨cs, c1, c2, c3⟩ := sameCut 3 x [] (by omega) (by simp)
    have cl : cs.length ≤ 1000000 := by simp at c1; omega
    -- the two answers, out of the pieces that are there
    have main : ∀ ps : List Int, ps.length ≤ 3 → (∀ y ∈ ps, pieceOk l b g y = true) →
        Ev (fun k => spec_l7Shared.j0 k x ps l b g t) ((List.range cs.length).map (spK l ps cs)) ∧
        Ev (fun k => impl_Space_shared.j0 k x (ps.map (mkP l))) ((List.range cs.length).map (imK l ps cs), (List.range cs.length).map (flagB l ps cs), true) ∧
        Ev (fun k => spec_l7NeedText.l0 k 1 ((List.range cs.length).map (spK l ps cs)) (((List.range cs.length).map (spK l ps cs)).length : Int) 0) (1 + (cnt (flagB l ps cs) cs.length : Int)) ∧
        Ev (fun k => impl_Space_needText.l0 k 1 ((List.range cs.length).map (flagB l ps cs)) (((List.range cs.length).map (flagB l ps cs)).length : Int) 0) (1 + (cnt (flagB l ps cs) cs.length : Int)) := by
      intro ps hp hq
      have i1 := specShare_ev zz ps hp hq cs cl cs.length 0 (by omega)
      have i2 := implShare_ev l ps hp cs cl cs.length 0 (by omega)
      have i3 := specCount_ev l b g ps hq cs cl cs.length 0 (by omega)
      have i4 := implCount_ev (flagB l ps cs) cs.length cl cs.length 0 (by omega)
      refine ⟨Ev_succ ?_, Ev_succ ?_, ?_, ?_⟩
      · simp only [spec_l7Shared.j0, spec_l7Cut.f]; exact Ev.bind c2 i1
      · simp only [impl_Space_shared.j0, impl_cut.f]; exact Ev.bind c3 i2
      · rw [List.length_map, List.length_range]; exact i3
      · rw [List.length_map, List.length_range]; exact i4
    by_cases h0 : a = 0
    · obtain ⟨j1, j2, j3, j4⟩ := main [] (by simp) (fun y hy => by cases hy)
      have s1 : Ev (fun k => spec_l7Shared.f k l b g t x a) ((List.range cs.length).map (spK l [] cs)) := by simp only [spec_l7Shared.f]; exact Ev_t h0 j1
      have s2 : Ev (fun k => impl_Space_shared.f k l b g t x a) ((List.range cs.length).map (imK l [] cs), (List.range cs.length).map (flagB l [] cs), true) := by simp only [impl_Space_shared.f]; exact Ev_t h0 j2
      refine ⟨(1 + (cnt (flagB l [] cs) cs.length : Int), true), Ev.bind (a := true) (Ev.bind e1 (Ev_t rfl (Ev_f hx (Ev.bind h3 (Ev_t h0 (Ev.now _)))))) (Ev_t rfl (Ev.bind ?_ (Ev.now _))), Ev.bind (a := true) (Ev.bind e2 (Ev_t rfl (Ev_f hx (Ev.bind s2 (Ev.now _))))) (Ev_t rfl (Ev.bind ?_ (Ev.now _)))⟩
      · simp only [spec_l7NeedText.f]; exact Ev.bind s1 j3
      · simp only [impl_Space_needText.f]; exact Ev.bind s2 j4
    · cases ok with
      | false =>
        have s2 : Ev (fun k => impl_Space_shared.f k l b g t x a) ([], [], false) := by simp only [impl_Space_shared.f]; exact Ev_f h0 (Ev.bind h4 (Ev_f (by simp) (Ev.now _)))
        exact ⟨(0, false), Ev.bind (a := false) (Ev.bind e1 (Ev_t rfl (Ev_f hx (Ev.bind h3 (Ev_f h0 (Ev.now _)))))) (Ev_f (by decide) (Ev.now _)), Ev.bind (a := false) (Ev.bind e2 (Ev_t rfl (Ev_f hx (Ev.bind s2 (Ev.now _))))) (Ev_f (by decide) (Ev.now _))⟩
      | true =>
        obtain ⟨hl, hk, rfl⟩ := h5 rfl
        obtain ⟨j1, j2, j3, j4⟩ := main so hl hk
        have s1 : Ev (fun k => spec_l7Shared.f k l b g t x a) ((List.range cs.length).map (spK l so cs)) := by simp only [spec_l7Shared.f]; exact Ev_f h0 (Ev.bind h3 j1)
        have s2 : Ev (fun k => impl_Space_shared.f k l b g t x a) ((List.range cs.length).map (imK l so cs), (List.range cs.length).map (flagB l so cs), true) := by simp only [impl_Space_shared.f]; exact Ev_f h0 (Ev.bind h4 (Ev_t rfl j2))
        refine ⟨(1 + (cnt (flagB l so cs) cs.length : Int), true), Ev.bind (a := true) (Ev.bind e1 (Ev_t rfl (Ev_f hx (Ev.bind h3 (Ev_f h0 (Ev.now _)))))) (Ev_t rfl (Ev.bind ?_ (Ev.now _))), Ev.bind (a := true) (Ev.bind e2 (Ev_t rfl (Ev_f hx (Ev.bind s2 (Ev.now _))))) (Ev_t rfl (Ev.bind ?_ (Ev.now _)))⟩
        · simp only [spec_l7NeedText.f]; exact Ev.bind s1 j3
        · simp only [impl_Space_needText.f]; exact Ev.bind s2 j4
end OfFnExactNeedForText
open OfFnExactNeedForText
theorem FnExactNeedForText : Stated := by
  intro l b g t x a wl wb wg wt wx wa
  refine Ev.rounds ?_
  simp only [laws_FnExactNeedForText.f]
  refine Ev_ite (fun _ => Ev.now _) (fun cx => ?_)
  obtain ⟨r, h1, _, h3⟩ := szSpace_ev l b g t ⟨wl.1, fun p hp => (wl.2 p hp).1⟩ wb.1 wg.1 wt.1 1048576 (by omega) (by omega)
  refine Ev.bind h1 (Ev_ite (fun _ => Ev.now _) (fun c => ?_))
  have s := h3 (by omega)
  have hby : ∀ r ∈ l, ∀ y ∈ r, 0 ≤ y ∧ y ≤ 255 := fun r hr y hy => wf8 ((wl.2 r hr).2 y hy)
  have f1 := toSpace_ev l b g t s
  obtain ⟨⟨v, o⟩, p, q⟩ := same_NeedForText l b g t s hby x a
  refine Ev.bind f1 (Ev.bind p (Ev.bind f1 (Ev.bind q (Ev_t rfl (Ev_succ ?_)))))
  simp only [laws_FnExactNeedForText.j0]
  exact Ev_f (by simp) (Ev.bind f1 (Ev.bind (eqSpace_ev l b g t s) (Ev_t rfl (Ev.now _))))
end Go.Proofs.Ytggnbbbhlnjleaa.Pure
