/-
The pure statement of FnExactDropRecord: the printed functions of the program and of the reference answer alike for every argument within the bounds that the statement tells.
-/
import Derived.Test.YtggnbbbhlnjleaaWfFnExactDropRecord
namespace Go.Proofs.Ytggnbbbhlnjleaa.Pure
open Go Go.RowKit Go.Proofs.Ytggnbbbhlnjleaa.PFnExactDropRecord Go.Proofs.YtggnbbbhlnjleaaW.PrintWords Go.Proofs.YtggnbbbhlnjleaaW.PrintLast Go.Proofs.YtggnbbbhlnjleaaW.PrintMore Go.Proofs.Ytggnbbbhlnjleaa.Lib
set_option linter.unusedVariables false
set_option linter.unusedSimpArgs false
namespace OfFnExactDropRecord
theorem within_eq (a b c : Int) : impl_within.f a b c = some (decide (b ≤ a ∧ a ≤ c)) := by
  simp only [impl_within.f]
  by_cases h : b ≤ a <;> simp [h]

theorem l1In_eq (a b c : Int) : spec_l1In.f a b c = some (decide (b ≤ a ∧ a ≤ c)) := by
  simp only [spec_l1In.f]
  by_cases h : b ≤ a <;> simp [h]

theorem toByteS_ev (l : List Int) (hl : l.length ≤ 1048576) : Ev (fun k => laws_toByteS.f k l) l := by
  have h := fill_ev (g := fun k x i => laws_toByteS.l0 k l x i) l 0 (fun x => x)
    (fun x i hx hi hr => Ev_succ (by
      simp only [laws_toByteS.l0]
      refine Ev_t (by omega) (Ev_t (by omega) (Ev_t (by omega) ?_))
      rw [w64_succ hi (by omega)]
      simpa [rd_nat] using hr))
    (fun x hx => Ev_succ (by simp only [laws_toByteS.l0]; exact Ev_f (by omega) (Ev.now _)))
    (List.replicate l.length 0) (by simp)
  rw [map_same] at h
  refine Ev.congr (fun k => ?_) h
  simp only [laws_toByteS.f]
  rw [if_pos (by omega), if_pos (by simp; omega)]
  simp

theorem eqByteS_ev (l : List Int) (hl : l.length ≤ 4611686018427387904) : Ev (fun k => laws_eqByteS.f k l l) true := by
  have h := all_ev (g := fun k i => laws_eqByteS.l0 k l l i) (r := true) l.length
    (fun i hi hr => Ev_succ (by
      simp only [laws_eqByteS.l0]
      refine Ev_t (by omega) (Ev_t (by omega) (Ev_t (by omega) (Ev_t trivial ?_)))
      rw [w64_succ hi (by omega)]; exact hr))
    (Ev_succ (by simp only [laws_eqByteS.l0]; exact Ev_f (by omega) (Ev.now _)))
  refine Ev.congr (fun k => ?_) h
  simp only [laws_eqByteS.f]; rw [if_pos trivial]

theorem toIntS_ev (l : List Int) (hl : l.length ≤ 1048576) : Ev (fun k => laws_toIntS.f k l) l := by
  have h := fill_ev (g := fun k x i => laws_toIntS.l0 k l x i) l 0 (fun x => x)
    (fun x i hx hi hr => Ev_succ (by
      simp only [laws_toIntS.l0]
      refine Ev_t (by omega) (Ev_t (by omega) (Ev_t (by omega) ?_))
      rw [w64_succ hi (by omega)]
      simpa [rd_nat] using hr))
    (fun x hx => Ev_succ (by simp only [laws_toIntS.l0]; exact Ev_f (by omega) (Ev.now _)))
    (List.replicate l.length 0) (by simp)
  rw [map_same] at h
  refine Ev.congr (fun k => ?_) h
  simp only [laws_toIntS.f]
  rw [if_pos (by omega), if_pos (by simp; omega)]
  simp

theorem eqIntS_ev (l : List Int) (hl : l.length ≤ 4611686018427387904) : Ev (fun k => laws_eqIntS.f k l l) true := by
  have h := all_ev (g := fun k i => laws_eqIntS.l0 k l l i) (r := true) l.length
    (fun i hi hr => Ev_succ (by
      simp only [laws_eqIntS.l0]
      refine Ev_t (by omega) (Ev_t (by omega) (Ev_t (by omega) (Ev_t trivial ?_)))
      rw [w64_succ hi (by omega)]; exact hr))
    (Ev_succ (by simp only [laws_eqIntS.l0]; exact Ev_f (by omega) (Ev.now _)))
  refine Ev.congr (fun k => ?_) h
  simp only [laws_eqIntS.f]; rw [if_pos trivial]

theorem rd_L_nat (xs : List (List Int)) (i : Nat) : rd_L1 xs (i : Int) = xs.getD i [] := by simp [rd_L1]
theorem szByteS_val (l : List Int) (hl : l.length ≤ maxLen) (n : Int) (h0 : 0 ≤ n) (h1 : n ≤ 1048576) : ∃ r, laws_szByteS.f l n = some r ∧ r ≤ n ∧ (0 ≤ r → l.length ≤ 1048576) := by
  have hl0 : (l.length : Int) ≤ 9223372036854775807 := by simp only [maxLen] at hl; omega
  simp only [laws_szByteS.f]
  rw [w64 (n := n - (l.length : Int)) (by omega) (by omega)]
  by_cases c : n - (l.length : Int) < 0
  · exact ⟨-1, if_pos c, by omega, fun h => by omega⟩
  · exact ⟨n - (l.length : Int), if_neg c, by omega, fun h => by omega⟩
theorem szByteSS_loop (l : List (List Int)) (hw : ∀ p ∈ l, p.length ≤ maxLen) (hl : l.length ≤ 1048576) : ∀ (m i : Nat) (x : Int), i + m = l.length → 0 ≤ x → x ≤ 1048576 →
    ∃ r, Ev (fun k => laws_szByteSS.l0 k l x (i : Int)) r ∧ r ≤ x ∧ (0 ≤ r → ∀ j, i ≤ j → j < l.length → (l.getD j []).length ≤ 1048576) := by
  intro m
  induction m with
  | zero =>
    intro i x hi h0 h1
    refine ⟨x, Ev_succ ?_, by omega, fun _ j h2 h3 => by omega⟩
    simp only [laws_szByteSS.l0]; exact Ev_f (by omega) (Ev.now _)
  | succ m ih =>
    intro i x hi h0 h1
    have hp := hw _ (getD_mem (xs := l) (i := i) [] (by omega))
    obtain ⟨r0, e, e1, e2⟩ := szByteS_val _ hp x h0 h1
    by_cases c : r0 < 0
    · refine ⟨-1, Ev_succ ?_, by omega, fun h => by omega⟩
      simp only [laws_szByteSS.l0, rd_L_nat]
      exact Ev_t (by omega) (Ev_t (by omega) (Ev_bind0 e (Ev_t c (Ev.now _))))
    · obtain ⟨r, h2, h3, h4⟩ := ih (i + 1) r0 (by omega) (by omega) (by omega)
      refine ⟨r, Ev_succ ?_, by omega, fun h j h5 h6 => ?_⟩
      · simp only [laws_szByteSS.l0, rd_L_nat]
        rw [w64_succ (show i < l.length by omega) (by omega)]
        exact Ev_t (by omega) (Ev_t (by omega) (Ev_bind0 e (Ev_f c h2)))
      · by_cases h7 : j = i
        · subst h7; exact e2 (by omega)
        · exact h4 h j (by omega) h6
theorem szByteSS_ev (l : List (List Int)) (hw : l.length ≤ maxLen ∧ ∀ p ∈ l, p.length ≤ maxLen) (n : Int) (hn : 0 ≤ n) (hn' : n ≤ 1048576) : ∃ r, Ev (fun k => laws_szByteSS.f k l n) r ∧ r ≤ n ∧ (0 ≤ r → l.length ≤ 1048576 ∧ ∀ p ∈ l, p.length ≤ 1048576) := by
  have hl0 : (l.length : Int) ≤ 9223372036854775807 := by have := hw.1; simp only [maxLen] at this; omega
  have e : wrap64 (n - (l.length : Int)) = n - (l.length : Int) := w64 (by omega) (by omega)
  simp only [laws_szByteSS.f, e]
  by_cases c : n - (l.length : Int) < 0
  · exact ⟨-1, Ev_t c (Ev.now _), by omega, fun h => by omega⟩
  · obtain ⟨r, h1, h2, h3⟩ := szByteSS_loop l hw.2 (by omega) l.length 0 (n - (l.length : Int)) (by omega) (by omega) (by omega)
    refine ⟨r, Ev_f c h1, by omega, fun h => ⟨by omega, fun p hp => ?_⟩⟩
    obtain ⟨j, hj, rfl⟩ := List.mem_iff_getElem.1 hp
    have := h3 h j (by omega) hj
    simpa [List.getD, hj] using this
theorem toByteSS_ev (l : List (List Int)) (hl : l.length ≤ 1048576) (hz : ∀ p ∈ l, p.length ≤ 1048576) : Ev (fun k => laws_toByteSS.f k l) l := by
  have h := fill_ev (g := fun k x i => laws_toByteSS.l0 k l x i) l [] (fun x => x)
    (fun x i hx hi hr => Ev_succ (by
      simp only [laws_toByteSS.l0, rd_L_nat]
      refine Ev_t (by omega) (Ev_t (by omega) (Ev.bind (toByteS_ev _ (hz _ (getD_mem [] hi))) (Ev_t (by omega) ?_)))
      rw [w64_succ hi (by omega)]
      simpa using hr))
    (fun x hx => Ev_succ (by simp only [laws_toByteSS.l0]; exact Ev_f (by omega) (Ev.now _)))
    (List.replicate l.length []) (by simp)
  rw [map_same] at h
  refine Ev.congr (fun k => ?_) h
  simp only [laws_toByteSS.f]
  rw [if_pos (by omega), if_pos (by simp; omega)]
  simp
theorem eqByteSS_ev (l : List (List Int)) (hl : l.length ≤ 1048576) (hz : ∀ p ∈ l, p.length ≤ 1048576) : Ev (fun k => laws_eqByteSS.f k l l) true := by
  have h := all_ev (g := fun k i => laws_eqByteSS.l0 k l l i) (r := true) l.length
    (fun i hi hr => Ev_succ (by
      simp only [laws_eqByteSS.l0, rd_L_nat]
      refine Ev_t (by omega) (Ev_t (by omega) (Ev_t (by omega) (Ev.bind (eqByteS_ev _ (by have := hz _ (getD_mem [] hi); omega)) (Ev_t rfl ?_))))
      rw [w64_succ hi (by omega)]; exact hr))
    (Ev_succ (by simp only [laws_eqByteSS.l0]; exact Ev_f (by omega) (Ev.now _)))
  refine Ev.congr (fun k => ?_) h
  simp only [laws_eqByteSS.f]; rw [if_pos trivial]

def blocksB (l : List (List Int)) : Bool := decide (40 ≤ l.length ∧ l.length ≤ 160) && l.all (fun b => decide (b.length = 128))
theorem indexFunc_loop (l : List (List Int)) (hl : l.length ≤ 1048576) : ∀ (m i : Nat), i + m = l.length → ∃ r : Int, Ev (fun k => slices_IndexFunc_byte_byte_86.l0 k l (l.length : Int) (i : Int)) r ∧ (0 ≤ r ↔ ¬ ((l.drop i).all (fun b => decide (b.length = 128)) = true)) := by
  intro m
  induction m with
  | zero =>
    intro i hi
    refine ⟨-1, Ev_succ ?_, ?_⟩
    · simp only [slices_IndexFunc_byte_byte_86.l0]; exact Ev_f (by omega) (Ev.now _)
    · rw [List.drop_of_length_le (by omega)]; simp
  | succ m ih =>
    intro i hi
    have hd := drop_cons l i [] (by omega)
    obtain ⟨r, h1, h2⟩ := ih (i + 1) (by omega)
    by_cases c : (l.getD i []).length = 128
    · refine ⟨r, Ev_succ ?_, ?_⟩
      · simp only [slices_IndexFunc_byte_byte_86.l0, rd_L_nat, impl_areBlocks_1.f, Option.bind_some]
        rw [w64_succ (show i < l.length by omega) (by omega)]
        exact Ev_t (by omega) (Ev_t (by omega) (Ev_t (by omega) (Ev_f (by rw [c]; decide) h1)))
      · rw [hd, h2, List.all_cons, c]; simp
    · refine ⟨(i : Int), Ev_succ ?_, ?_⟩
      · simp only [slices_IndexFunc_byte_byte_86.l0, rd_L_nat, impl_areBlocks_1.f, Option.bind_some]
        exact Ev_t (by omega) (Ev_t (by omega) (Ev_t (by omega) (Ev_t (by simp only [bne_iff_ne]; omega) (Ev.now _))))
      · rw [hd, List.all_cons]; simp only [c, decide_false, Bool.false_and, Bool.false_eq_true, not_false_eq_true, iff_true]; omega
theorem areBlocks_ev (l : List (List Int)) (hl : l.length ≤ 1048576) : Ev (fun k => impl_areBlocks.f k l) (blocksB l) := by
  simp only [impl_areBlocks.f, within_eq, Option.bind_some, decide_eq_true_eq]
  by_cases c : (40 : Int) ≤ (l.length : Int) ∧ (l.length : Int) ≤ 160
  · obtain ⟨r, h1, h2⟩ := indexFunc_loop l hl l.length 0 (by omega)
    refine Ev_t c (Ev.bind (a := decide (r ≥ 0)) ?_ (Ev_eq (Ev.now _) ?_))
    · simp only [slices_ContainsFunc_byte_byte_73.f, slices_IndexFunc_byte_byte_86.f]
      exact Ev.bind h1 (Ev.now _)
    · rw [List.drop_zero] at h2
      have c' : 40 ≤ l.length ∧ l.length ≤ 160 := by omega
      simp only [blocksB, c', and_self, decide_true, Bool.true_and]
      cases hh : l.all (fun b => decide (b.length = 128)) with
      | true => simp only [hh, not_true, iff_false] at h2; simp; omega
      | false => simp only [hh] at h2; have : 0 ≤ r := h2.2 (by simp); simp [this]
  · refine Ev_f c (Ev_eq (Ev.now _) ?_)
    have c' : ¬ (40 ≤ l.length ∧ l.length ≤ 160) := by omega
    simp only [blocksB, c', decide_false, Bool.false_and]

theorem tdiv8 (k : Nat) (h : k < 4611686018427387904) : wrap64 (Int.tdiv (k : Int) 8) = ((k / 8 : Nat) : Int) := by
  rw [Int.tdiv_eq_ediv_of_nonneg (by omega), w64 (by omega) (by omega)]; omega
theorem tmod8 (k : Nat) : Int.tmod (k : Int) 8 = ((k % 8 : Nat) : Int) := by
  rw [Int.tmod_eq_emod_of_nonneg (by omega)]; omega
def usedB (b : List Int) (k : Nat) : Bool := (Go.bits .and .u8 (shr .u8 (b.getD (k / 8) 0) ((k % 8 : Nat) : Int)) 1) == 1
theorem implUsed_eq (l : List (List Int)) (b g t : List Int) (k : Nat) (hk : k < 160) (hb : b.length = 20) : impl_Space_used.f l b g t (k : Int) = some (usedB b k) := by
  simp only [impl_Space_used.f, tdiv8 k (by omega), tmod8, rd_nat]
  rw [if_pos (by omega), if_pos (by omega), if_pos (by omega)]; rfl
theorem specUsed_eq (b : List Int) (k : Nat) (hk : k < 160) (hb : b.length = 20) : spec_l5Used.f b (k : Int) = some (usedB b k) := by
  simp only [spec_l5Used.f, tdiv8 k (by omega), tmod8, rd_nat]
  rw [wu64 (by omega) (by omega), if_pos (by omega), if_pos (by omega), if_pos (by omega)]; rfl
def inB (n : Nat) (b : List Int) (x : Int) : Bool := decide (33 ≤ x ∧ x ≤ (n : Int) - 1) && usedB b x.toNat
def listP (n : Nat) (b : List Int) (l : List Int) (j : Nat) : Bool := inB n b (l.getD j 0) && (decide (j = 0) || decide (l.getD (j - 1) 0 < l.getD j 0))
def listB (n : Nat) (b : List Int) (l : List Int) : Bool := (List.range l.length).all (listP n b l)
def bitP (n : Nat) (b : List Int) (k : Nat) : Bool := if k < 33 then (if usedB b k = true then !decide (n ≤ k) else false) else (if n ≤ k then !usedB b k else true)
def goodB (l : List (List Int)) (b g t : List Int) : Bool := blocksB l && (decide (b.length = 20) && ((List.range 160).all (bitP l.length b) && (listB l.length b g && listB l.length b t)))
theorem scan_ev {g : Nat → Int → Option Bool} (n : Nat) (p : Nat → Bool) (R : Bool)
    (ht : ∀ i, i < n → p i = true → ∀ r, Ev (fun k => g k ((i + 1 : Nat) : Int)) r → Ev (fun k => g k (i : Int)) r)
    (hf : ∀ i, i < n → p i = false → Ev (fun k => g k (i : Int)) false)
    (he : Ev (fun k => g k (n : Int)) R) : Ev (fun k => g k 0) ((List.range n).all p && R) := by
  have key : ∀ m i, i + m = n → Ev (fun k => g k (i : Int)) ((List.range' i m).all p && R) := by
    intro m
    induction m with
    | zero =>
      intro i hi
      obtain rfl : i = n := by omega
      simpa using he
    | succ m ih =>
      intro i hi
      rw [List.range'_succ, List.all_cons]
      cases hp : p i with
      | true => rw [Bool.true_and]; exact ht i (by omega) hp _ (ih (i + 1) (by omega))
      | false => rw [Bool.false_and, Bool.false_and]; exact hf i (by omega) hp
  have := key n 0 (by omega)
  rwa [← List.range_eq_range'] at this

theorem rd_M_nat (xs : List (List Int)) (i : Nat) : rd_L3 xs (i : Int) = xs.getD i [] := by simp [rd_L3]
theorem implIsBlock_eq (l : List (List Int)) (b g t : List Int) (hl : l.length ≤ 160) (hl0 : 0 < l.length) (hb : b.length = 20) (x : Int) : impl_Space_isBlock.f l b g t x = some (inB l.length b x) := by
  simp only [impl_Space_isBlock.f, within_eq, Option.bind_some, decide_eq_true_eq]
  rw [w64 (n := (l.length : Int) - 1) (by omega) (by omega)]
  by_cases c : 33 ≤ x ∧ x ≤ (l.length : Int) - 1
  · rw [if_pos c]
    have hx : x = (x.toNat : Int) := by omega
    have := implUsed_eq l b g t x.toNat (by omega) hb
    rw [← hx] at this
    rw [this, Option.bind_some]
    simp only [inB, c, and_self, decide_true, Bool.true_and]
  · rw [if_neg c]; simp only [inB, c, decide_false, Bool.false_and]
theorem implAreUsed_ev (l : List (List Int)) (b g t : List Int) (hl : l.length ≤ 160) (hl0 : 0 < l.length) (hb : b.length = 20) (x : List Int) (hx : x.length ≤ 1048576) : Ev (fun k => impl_Space_areUsed.f k l b g t x) (listB l.length b x) := by
  have h := scan_ev (g := fun k i => impl_Space_areUsed.l0 k x x (x.length : Int) i l b g t) x.length (listP l.length b x) true
    (fun i hi hp r hr => Ev_succ (by
      simp only [impl_Space_areUsed.l0, rd_nat, implIsBlock_eq l b g t hl hl0 hb, Option.bind_some]
      simp only [listP, Bool.and_eq_true, Bool.or_eq_true, decide_eq_true_eq] at hp
      rw [w64_succ hi (by omega)]
      refine Ev_t (by omega) (Ev_t (by omega) (Ev_t (by omega) (Ev_t hp.1 (Ev_ite (fun h0 => ?_) (fun h0 => hr)))))
      have e : wrap64 ((i : Int) - 1) = ((i - 1 : Nat) : Int) := by rw [w64 (by omega) (by omega)]; omega
      simp only [e, rd_nat]
      exact Ev_t (by omega) (Ev_t (by omega) (Ev_f (by omega) hr))))
    (fun i hi hp => Ev_succ (by
      simp only [impl_Space_areUsed.l0, rd_nat, implIsBlock_eq l b g t hl hl0 hb, Option.bind_some]
      refine Ev_t (by omega) (Ev_t (by omega) (Ev_t (by omega) ?_))
      cases h1 : inB l.length b (x.getD i 0) with
      | false => exact Ev_f (by decide) (Ev.now _)
      | true =>
        simp only [listP, h1, Bool.true_and, Bool.or_eq_false_iff, decide_eq_false_iff_not] at hp
        have e : wrap64 ((i : Int) - 1) = ((i - 1 : Nat) : Int) := by rw [w64 (by omega) (by omega)]; omega
        simp only [e, rd_nat]
        exact Ev_t trivial (Ev_t (by omega) (Ev_t (by omega) (Ev_t (by omega) (Ev_t (by omega) (Ev.now _)))))))
    (Ev_succ (by simp only [impl_Space_areUsed.l0]; exact Ev_f (by omega) (Ev.now _)))
  rw [Bool.and_true] at h
  simp only [impl_Space_areUsed.f]
  exact h
theorem implGoodSpace_ev (l : List (List Int)) (b g t : List Int) (hl : l.length ≤ 1048576) (hg : g.length ≤ 1048576) (ht : t.length ≤ 1048576) : Ev (fun k => impl_GoodSpace.f k l b g t) (goodB l b g t) := by
  simp only [impl_GoodSpace.f]
  refine Ev.bind (areBlocks_ev l hl) ?_
  cases hb : blocksB l with
  | false =>
    refine Ev_f (by decide) (Ev_succ ?_)
    simp only [impl_GoodSpace.j0, goodB, hb, Bool.false_and]
    exact Ev_t trivial (Ev.now _)
  | true =>
    have hn : 40 ≤ l.length ∧ l.length ≤ 160 := by simp only [blocksB, Bool.and_eq_true, decide_eq_true_eq] at hb; exact hb.1
    refine Ev_t rfl (Ev_succ ?_)
    simp only [impl_GoodSpace.j0]
    refine Ev_ite (fun c => Ev_eq (Ev.now _) ?_) (fun c => ?_)
    · have c' : ¬ b.length = 20 := by simp only [bne_iff_ne] at c; omega
      simp only [goodB, hb, c', decide_false, Bool.false_and, Bool.and_false]
    · have c' : b.length = 20 := by simp only [bne_iff_ne, ne_eq, Decidable.not_not] at c; omega
      have h := scan_ev (g := fun k i => impl_GoodSpace.l0 k i l b g t) 160 (bitP l.length b) (listB l.length b g && listB l.length b t)
        (fun i hi hp r hr => Ev_succ (by
          simp only [impl_GoodSpace.l0, implUsed_eq l b g t i hi c', Option.bind_some]
          rw [w64_succ hi (by omega)]
          simp only [bitP] at hp
          refine Ev_t (by omega) (Ev_ite (fun h33 => ?_) (fun h33 => ?_))
          · rw [if_pos (by omega)] at hp
            cases hu : usedB b i with
            | false => rw [hu] at hp; simp at hp
            | true =>
              rw [hu, if_pos rfl] at hp
              exact Ev_t rfl (Ev_f (by simp at hp; omega) hr)
          · rw [if_neg (by omega)] at hp
            refine Ev_ite (fun hx => ?_) (fun hx => hr)
            rw [if_pos (by omega)] at hp
            exact Ev_f (by simpa using hp) hr))
        (fun i hi hp => Ev_succ (by
          simp only [impl_GoodSpace.l0, implUsed_eq l b g t i hi c', Option.bind_some]
          simp only [bitP] at hp
          refine Ev_t (by omega) (Ev_ite (fun h33 => ?_) (fun h33 => ?_))
          · rw [if_pos (by omega)] at hp
            cases hu : usedB b i with
            | false => exact Ev_f (by decide) (Ev.now _)
            | true =>
              rw [hu, if_pos rfl] at hp
              exact Ev_t rfl (Ev_t (by simp at hp; omega) (Ev.now _))
          · rw [if_neg (by omega)] at hp
            by_cases hx : l.length ≤ i
            · rw [if_pos hx] at hp
              exact Ev_t (by omega) (Ev_t (by simpa using hp) (Ev.now _))
            · rw [if_neg hx] at hp; exact absurd hp (by decide)))
        (Ev_succ (by
          simp only [impl_GoodSpace.l0]
          refine Ev_f (by omega) (Ev.bind (implAreUsed_ev l b g t hn.2 (by omega) c' g hg) ?_)
          cases hx : listB l.length b g with
          | false => exact Ev_f (by decide) (Ev.now _)
          | true => exact Ev_t rfl (Ev.bind (implAreUsed_ev l b g t hn.2 (by omega) c' t ht) (Ev.now _))))
      refine Ev_eq h ?_
      simp only [goodB, hb, c', decide_true, Bool.true_and]
theorem specList_ev (l : List (List Int)) (b g t : List Int) (hn : 40 ≤ l.length ∧ l.length ≤ 160) (hb : b.length = 20) (y : List (List Int)) (j : Nat) (R : Bool) (x : List Int) (hx : x.length ≤ 1048576)
    (hR : Ev (fun k => spec_GoodSpace.l2 k (l.length : Int) y (y.length : Int) ((j + 1 : Nat) : Int) l b g t) R) (hj : j < 2) :
    Ev (fun k => spec_GoodSpace.l3 k (l.length : Int) x y (y.length : Int) (j : Int) x (x.length : Int) 0 l b g t) (listB l.length b x && R) := by
  have hin : ∀ z : Int, ¬ (33 ≤ z ∧ z ≤ (l.length : Int) - 1) → inB l.length b z = false := fun z c => by simp only [inB, c, decide_false, Bool.false_and]
  have hin' : ∀ z : Int, (33 ≤ z ∧ z ≤ (l.length : Int) - 1) → spec_l5Used.f b z = some (inB l.length b z) := fun z c => by
    have hz : z = (z.toNat : Int) := by omega
    have := specUsed_eq b z.toNat (by omega) hb
    rw [← hz] at this
    rw [this]; simp only [inB, c, and_self, decide_true, Bool.true_and]
  refine scan_ev (g := fun k i => spec_GoodSpace.l3 k (l.length : Int) x y (y.length : Int) (j : Int) x (x.length : Int) i l b g t) x.length (listP l.length b x) R
    (fun i hi hp r hr => Ev_succ (by
      simp only [spec_GoodSpace.l3, rd_nat, l1In_eq, Option.bind_some, decide_eq_true_eq]
      rw [w64 (n := (l.length : Int) - 1) (by omega) (by omega)]
      simp only [listP, Bool.and_eq_true, Bool.or_eq_true, decide_eq_true_eq] at hp
      rw [w64_succ hi (by omega)]
      have c : 33 ≤ x.getD i 0 ∧ x.getD i 0 ≤ (l.length : Int) - 1 := by
        by_cases c : 33 ≤ x.getD i 0 ∧ x.getD i 0 ≤ (l.length : Int) - 1
        · exact c
        · rw [hin _ c] at hp; exact absurd hp.1 (by decide)
      refine Ev_t (by omega) (Ev_t (by omega) (Ev_t (by omega) (Ev_t c (Ev_bind0 (hin' _ c) (Ev_t hp.1 (Ev_ite (fun h0 => ?_) (fun h0 => hr)))))))
      have e : wrap64 ((i : Int) - 1) = ((i - 1 : Nat) : Int) := by rw [w64 (by omega) (by omega)]; omega
      simp only [e, rd_nat]
      exact Ev_t (by omega) (Ev_t (by omega) (Ev_f (by omega) hr))))
    (fun i hi hp => Ev_succ (by
      simp only [spec_GoodSpace.l3, rd_nat, l1In_eq, Option.bind_some, decide_eq_true_eq]
      rw [w64 (n := (l.length : Int) - 1) (by omega) (by omega)]
      refine Ev_t (by omega) (Ev_t (by omega) (Ev_t (by omega) (Ev_ite (fun c => ?_) (fun c => Ev.now _))))
      refine Ev_bind0 (hin' _ c) ?_
      cases h1 : inB l.length b (x.getD i 0) with
      | false => exact Ev_f (by decide) (Ev.now _)
      | true =>
        simp only [listP, h1, Bool.true_and, Bool.or_eq_false_iff, decide_eq_false_iff_not] at hp
        have e : wrap64 ((i : Int) - 1) = ((i - 1 : Nat) : Int) := by rw [w64 (by omega) (by omega)]; omega
        simp only [e, rd_nat]
        exact Ev_t trivial (Ev_t (by omega) (Ev_t (by omega) (Ev_t (by omega) (Ev_t (by omega) (Ev.now _)))))))
    (Ev_succ (by
      simp only [spec_GoodSpace.l3]
      rw [w64_succ hj (by omega)]
      exact Ev_f (by omega) hR))
theorem specGoodSpace_ev (l : List (List Int)) (b g t : List Int) (hl : l.length ≤ 1048576) (hg : g.length ≤ 1048576) (ht : t.length ≤ 1048576) : Ev (fun k => spec_GoodSpace.f k l b g t) (goodB l b g t) := by
  simp only [spec_GoodSpace.f, l1In_eq, Option.bind_some, decide_eq_true_eq]
  by_cases c1 : (40 : Int) ≤ (l.length : Int) ∧ (l.length : Int) ≤ 160
  · have hn : 40 ≤ l.length ∧ l.length ≤ 160 := by omega
    refine Ev_t c1 (Ev_succ ?_)
    simp only [spec_GoodSpace.j0]
    refine Ev_ite (fun c => Ev_eq (Ev.now _) ?_) (fun c => ?_)
    · have c' : ¬ b.length = 20 := by simp only [bne_iff_ne] at c; omega
      simp only [goodB, c', decide_false, Bool.false_and, Bool.and_false]
    · have c' : b.length = 20 := by simp only [bne_iff_ne, ne_eq, Decidable.not_not] at c; omega
      have hL : Ev (fun k => spec_GoodSpace.l2 k (l.length : Int) [g, t] (([g, t] : List (List Int)).length : Int) 0 l b g t) (listB l.length b g && (listB l.length b t && true)) := by
        have e2 : Ev (fun k => spec_GoodSpace.l2 k (l.length : Int) [g, t] (([g, t] : List (List Int)).length : Int) ((2 : Nat) : Int) l b g t) true := Ev_succ (by
          simp only [spec_GoodSpace.l2]; exact Ev_f (by simp) (Ev.now _))
        have e1 : Ev (fun k => spec_GoodSpace.l2 k (l.length : Int) [g, t] (([g, t] : List (List Int)).length : Int) ((1 : Nat) : Int) l b g t) (listB l.length b t && true) := Ev_succ (by
          simp only [spec_GoodSpace.l2, rd_M_nat]
          exact Ev_t (by simp) (Ev_t (by omega) (Ev_t (by simp) (specList_ev l b g t hn c' [g, t] 1 true t ht e2 (by omega)))))
        exact Ev_succ (by
          have z : (0 : Int) = ((0 : Nat) : Int) := rfl
          rw [z]
          simp only [spec_GoodSpace.l2, rd_M_nat]
          exact Ev_t (by simp) (Ev_t (by omega) (Ev_t (by simp) (specList_ev l b g t hn c' [g, t] 0 _ g hg e1 (by omega)))))
      have hB : Ev (fun k => spec_GoodSpace.l1 k (l.length : Int) 0 l b g t) ((List.range 160).all (bitP l.length b) && (listB l.length b g && (listB l.length b t && true))) :=
        scan_ev (g := fun k i => spec_GoodSpace.l1 k (l.length : Int) i l b g t) 160 (bitP l.length b) _
          (fun i hi hp r hr => Ev_succ (by
            simp only [spec_GoodSpace.l1, specUsed_eq b i hi c', Option.bind_some]
            rw [w64_succ hi (by omega)]
            simp only [bitP] at hp
            refine Ev_t (by omega) (Ev_ite (fun h33 => ?_) (fun h33 => ?_))
            · rw [if_pos (by omega)] at hp
              cases hu : usedB b i with
              | false => rw [hu] at hp; simp at hp
              | true =>
                rw [hu, if_pos rfl] at hp
                exact Ev_t rfl (Ev_f (by simp at hp; omega) hr)
            · rw [if_neg (by omega)] at hp
              refine Ev_ite (fun hx => ?_) (fun hx => hr)
              rw [if_pos (by omega)] at hp
              exact Ev_f (by simpa using hp) hr))
          (fun i hi hp => Ev_succ (by
            simp only [spec_GoodSpace.l1, specUsed_eq b i hi c', Option.bind_some]
            simp only [bitP] at hp
            refine Ev_t (by omega) (Ev_ite (fun h33 => ?_) (fun h33 => ?_))
            · rw [if_pos (by omega)] at hp
              cases hu : usedB b i with
              | false => exact Ev_f (by decide) (Ev.now _)
              | true =>
                rw [hu, if_pos rfl] at hp
                exact Ev_t rfl (Ev_t (by simp at hp; omega) (Ev.now _))
            · rw [if_neg (by omega)] at hp
              by_cases hx : l.length ≤ i
              · rw [if_pos hx] at hp
                exact Ev_t (by omega) (Ev_t (by simpa using hp) (Ev.now _))
              · rw [if_neg hx] at hp; exact absurd hp (by decide)))
          (Ev_succ (by
            simp only [spec_GoodSpace.l1]
            exact Ev_f (by omega) (Ev_bind0 rfl hL)))
      have hA := scan_ev (g := fun k i => spec_GoodSpace.l0 k (l.length : Int) l (l.length : Int) i l b g t) l.length (fun i => decide ((l.getD i []).length = 128)) _
          (fun i hi hp r hr => Ev_succ (by
            simp only [spec_GoodSpace.l0, rd_L_nat]
            rw [w64_succ hi (by omega)]
            simp only [decide_eq_true_eq] at hp
            exact Ev_t (by omega) (Ev_t (by omega) (Ev_t (by omega) (Ev_t (by omega) hr)))))
          (fun i hi hp => Ev_succ (by
            simp only [spec_GoodSpace.l0, rd_L_nat]
            simp only [decide_eq_false_iff_not] at hp
            exact Ev_t (by omega) (Ev_t (by omega) (Ev_t (by omega) (Ev_f (by omega) (Ev.now _))))))
          (Ev_succ (by
            simp only [spec_GoodSpace.l0]
            exact Ev_f (by omega) hB))
      refine Ev_eq hA ?_
      have e : (List.range l.length).all (fun i => decide ((l.getD i []).length = 128)) = l.all (fun b => decide (b.length = 128)) := by
        rw [Bool.eq_iff_iff]
        simp only [List.all_eq_true, List.mem_range, decide_eq_true_eq]
        constructor
        · intro h x hx
          obtain ⟨j, hj, rfl⟩ := List.mem_iff_getElem.1 hx
          have := h j hj
          simpa [List.getD, hj] using this
        · intro h j hj
          exact h _ (getD_mem [] hj)
      rw [e]
      simp only [goodB, blocksB, hn, c', and_self, decide_true, Bool.true_and, Bool.and_true]
  · refine Ev_f c1 (Ev_succ ?_)
    have c' : ¬ (40 ≤ l.length ∧ l.length ≤ 160) := by omega
    simp only [spec_GoodSpace.j0, goodB, blocksB, c', decide_false, Bool.false_and]
    exact Ev_t trivial (Ev.now _)
structure GoodS (l : List (List Int)) (b g t : List Int) : Prop where
  lo : 40 ≤ l.length
  hi : l.length ≤ 160
  bits : b.length = 20
  rows : ∀ p ∈ l, p.length = 128
  gone : listB l.length b g = true
  touched : listB l.length b t = true
theorem goodB_facts {l : List (List Int)} {b g t : List Int} (h : goodB l b g t = true) : GoodS l b g t := by
  simp only [goodB, blocksB, Bool.and_eq_true, decide_eq_true_eq, List.all_eq_true] at h
  obtain ⟨⟨⟨h1, h2⟩, h3⟩, h4, h5, h6, h7⟩ := h
  exact ⟨h1, h2, h4, h3, h6, h7⟩

theorem szIntS_val (l : List Int) (hl : l.length ≤ maxLen) (n : Int) (h0 : 0 ≤ n) (h1 : n ≤ 1048576) : ∃ r, laws_szIntS.f l n = some r ∧ r ≤ n ∧ (0 ≤ r → l.length ≤ 1048576) := by
  have hl0 : (l.length : Int) ≤ 9223372036854775807 := by simp only [maxLen] at hl; omega
  simp only [laws_szIntS.f]
  rw [w64 (n := n - (l.length : Int)) (by omega) (by omega)]
  by_cases c : n - (l.length : Int) < 0
  · exact ⟨-1, if_pos c, by omega, fun h => by omega⟩
  · exact ⟨n - (l.length : Int), if_neg c, by omega, fun h => by omega⟩
structure SpaceSz (l : List (List Int)) (b g t : List Int) : Prop where
  hl : l.length ≤ 1048576
  hz : ∀ p ∈ l, p.length ≤ 1048576
  hb : b.length ≤ 1048576
  hg : g.length ≤ 1048576
  ht : t.length ≤ 1048576
theorem szSpace_ev (l : List (List Int)) (b g t : List Int) (hw : l.length ≤ maxLen ∧ ∀ p ∈ l, p.length ≤ maxLen) (hb : b.length ≤ maxLen) (hg : g.length ≤ maxLen) (ht : t.length ≤ maxLen) (n : Int) (hn : 0 ≤ n) (hn' : n ≤ 1048576) :
    ∃ r, Ev (fun k => laws_szSpace.f k l b g t n) r ∧ r ≤ n ∧ (0 ≤ r → SpaceSz l b g t) := by
  obtain ⟨r1, h1, h2, h3⟩ := szByteSS_ev l hw n hn hn'
  simp only [laws_szSpace.f]
  by_cases c : r1 < 0
  · exact ⟨-1, Ev.bind h1 (Ev_t c (Ev.now _)), by omega, fun h => by omega⟩
  obtain ⟨r2, k1, k2, k3⟩ := szByteS_val b hb r1 (by omega) (by omega)
  by_cases c2 : r2 < 0
  · exact ⟨-1, Ev.bind h1 (Ev_f c (Ev_bind0 k1 (Ev_t c2 (Ev.now _)))), by omega, fun h => by omega⟩
  obtain ⟨r3, m1, m2, m3⟩ := szIntS_val g hg r2 (by omega) (by omega)
  by_cases c3 : r3 < 0
  · exact ⟨-1, Ev.bind h1 (Ev_f c (Ev_bind0 k1 (Ev_f c2 (Ev_bind0 m1 (Ev_t c3 (Ev.now _)))))), by omega, fun h => by omega⟩
  obtain ⟨r4, q1, q2, q3⟩ := szIntS_val t ht r3 (by omega) (by omega)
  by_cases c4 : r4 < 0
  · exact ⟨-1, Ev.bind h1 (Ev_f c (Ev_bind0 k1 (Ev_f c2 (Ev_bind0 m1 (Ev_f c3 (Ev_bind0 q1 (Ev_t c4 (Ev.now _)))))))), by omega, fun h => by omega⟩
  · exact ⟨r4, Ev.bind h1 (Ev_f c (Ev_bind0 k1 (Ev_f c2 (Ev_bind0 m1 (Ev_f c3 (Ev_bind0 q1 (Ev_f c4 (Ev.now _)))))))), by omega, fun h => ⟨(h3 (by omega)).1, (h3 (by omega)).2, k3 (by omega), m3 (by omega), q3 (by omega)⟩⟩
theorem toSpace_ev (l : List (List Int)) (b g t : List Int) (s : SpaceSz l b g t) : Ev (fun k => laws_toSpace.f k l b g t) (l, b, g, t) := by
  simp only [laws_toSpace.f]
  exact Ev.bind (toByteSS_ev l s.hl s.hz) (Ev.bind (toByteS_ev b s.hb) (Ev.bind (toIntS_ev g s.hg) (Ev.bind (toIntS_ev t s.ht) (Ev.now _))))
theorem eqSpace_ev (l : List (List Int)) (b g t : List Int) (s : SpaceSz l b g t) : Ev (fun k => laws_eqSpace.f k l b g t l b g t) true := by
  simp only [laws_eqSpace.f]
  exact Ev.bind (eqByteSS_ev l s.hl s.hz) (Ev_t rfl (Ev.bind (eqByteS_ev b (by have := s.hb; omega)) (Ev_t rfl (Ev.bind (eqIntS_ev g (by have := s.hg; omega)) (Ev_t rfl (Ev.bind (eqIntS_ev t (by have := s.ht; omega)) (Ev_t rfl (Ev.now _))))))))

theorem or8 {x y : Int} (hx : 0 ≤ x) (hx' : x ≤ 255) (hy : 0 ≤ y) (hy' : y ≤ 255) : Go.bits .or .i64 (x * 256) y = x * 256 + y :=
  Go.bits_join .i64 62 (by decide) (fun n h0 h1 => by have : n < 4611686018427387904 := h1; exact (IntKind.wrap_i64 n).trans (by omega)) 8 (x * 256) y (by omega) (by omega) (by show x * 256 < 4611686018427387904; omega) hy (by show y < 256; omega) (by show y < 4611686018427387904; omega)

theorem scanT_ev {g : Nat → Int → Option Bool} (n : Nat) (p : Nat → Bool)
    (ht : ∀ i, i < n → p i = true → ∀ r, Ev (fun k => g k ((i + 1 : Nat) : Int)) r → Ev (fun k => g k (i : Int)) r)
    (hf : ∀ i, i < n → p i = false → Ev (fun k => g k (i : Int)) true)
    (he : Ev (fun k => g k (n : Int)) false) : Ev (fun k => g k 0) (!((List.range n).all p)) := by
  have key : ∀ m i, i + m = n → Ev (fun k => g k (i : Int)) (!((List.range' i m).all p)) := by
    intro m
    induction m with
    | zero =>
      intro i hi
      obtain rfl : i = n := by omega
      simpa using he
    | succ m ih =>
      intro i hi
      rw [List.range'_succ, List.all_cons]
      cases hp : p i with
      | true => rw [Bool.true_and]; exact ht i (by omega) hp _ (ih (i + 1) (by omega))
      | false => rw [Bool.false_and]; exact hf i (by omega) hp
  have := key n 0 (by omega)
  rwa [← List.range_eq_range'] at this
theorem find_ev {g : Nat → Int → Option Int} (n : Nat) (p : Nat → Bool)
    (ht : ∀ i, i < n → p i = true → ∀ r, Ev (fun k => g k ((i + 1 : Nat) : Int)) r → Ev (fun k => g k (i : Int)) r)
    (hf : ∀ i, i < n → p i = false → Ev (fun k => g k (i : Int)) (i : Int))
    (he : Ev (fun k => g k (n : Int)) (-1)) : ∃ r, Ev (fun k => g k 0) r ∧ decide (r ≥ 0) = (!((List.range n).all p)) := by
  have key : ∀ m i, i + m = n → ∃ r, Ev (fun k => g k (i : Int)) r ∧ decide (r ≥ 0) = (!((List.range' i m).all p)) := by
    intro m
    induction m with
    | zero =>
      intro i hi
      obtain rfl : i = n := by omega
      exact ⟨-1, he, by simp⟩
    | succ m ih =>
      intro i hi
      rw [List.range'_succ, List.all_cons]
      cases hp : p i with
      | true =>
        obtain ⟨r, h1, h2⟩ := ih (i + 1) (by omega)
        rw [Bool.true_and]
        exact ⟨r, ht i (by omega) hp _ h1, h2⟩
      | false => rw [Bool.false_and]; exact ⟨i, hf i (by omega) hp, by simp⟩
  have := key n 0 (by omega)
  rwa [← List.range_eq_range'] at this

def noneIs (l : List Int) (x : Int) : Bool := (List.range l.length).all (fun i => decide (¬ l.getD i 0 = x))
theorem specHas_ev (l : List Int) (hl : l.length ≤ 1048576) (x : Int) : Ev (fun k => spec_l5Has.f k l x) (!noneIs l x) := by
  simp only [spec_l5Has.f]
  refine scanT_ev (g := fun k i => spec_l5Has.l0 k x l (l.length : Int) i) l.length _
    (fun i hi hp r hr => Ev_succ (by
      simp only [spec_l5Has.l0, rd_nat]
      rw [w64_succ hi (by omega)]
      simp only [decide_eq_true_eq] at hp
      exact Ev_t (by omega) (Ev_t (by omega) (Ev_t (by omega) (Ev_f hp hr)))))
    (fun i hi hp => Ev_succ (by
      simp only [spec_l5Has.l0, rd_nat]
      simp only [decide_eq_false_iff_not, Decidable.not_not] at hp
      exact Ev_t (by omega) (Ev_t (by omega) (Ev_t (by omega) (Ev_t hp (Ev.now _))))))
    (Ev_succ (by simp only [spec_l5Has.l0]; exact Ev_f (by omega) (Ev.now _)))
theorem implHas_ev (l : List Int) (hl : l.length ≤ 1048576) (x : Int) : Ev (fun k => slices_Contains_int_int.f k l x) (!noneIs l x) := by
  obtain ⟨r, h1, h2⟩ := find_ev (g := fun k i => slices_Index_int_int.l0 k l x (l.length : Int) i) l.length (fun i => decide (¬ l.getD i 0 = x))
    (fun i hi hp r hr => Ev_succ (by
      simp only [slices_Index_int_int.l0, rd_nat]
      rw [w64_succ hi (by omega)]
      simp only [decide_eq_true_eq] at hp
      exact Ev_t (by omega) (Ev_t (by omega) (Ev_t (by omega) (Ev_f (fun e => hp e.symm) hr)))))
    (fun i hi hp => Ev_succ (by
      simp only [slices_Index_int_int.l0, rd_nat]
      simp only [decide_eq_false_iff_not, Decidable.not_not] at hp
      exact Ev_t (by omega) (Ev_t (by omega) (Ev_t (by omega) (Ev_t hp.symm (Ev.now _))))))
    (Ev_succ (by simp only [slices_Index_int_int.l0]; exact Ev_f (by omega) (Ev.now _)))
  simp only [slices_Contains_int_int.f, slices_Index_int_int.f]
  exact Ev.bind h1 (Ev_eq (Ev.now _) h2)
def liveB (n : Nat) (b g : List Int) (x : Int) : Bool := inB n b x && noneIs g x
theorem specLive_ev (l : List (List Int)) (b g t : List Int) (s : GoodS l b g t) (hg : g.length ≤ 1048576) (x : Int) : Ev (fun k => spec_l5Live.f k l b g t x) (liveB l.length b g x) := by
  have hn := s.hi; have hn' := s.lo
  simp only [spec_l5Live.f, l1In_eq, Option.bind_some, decide_eq_true_eq]
  rw [w64 (n := (l.length : Int) - 1) (by omega) (by omega)]
  refine Ev_ite (fun c => ?_) (fun c => Ev_eq (Ev.now _) (by simp only [liveB, inB, c, decide_false, Bool.false_and]))
  have hz : x = (x.toNat : Int) := by omega
  have hu := specUsed_eq b x.toNat (by omega) s.bits
  rw [← hz] at hu
  refine Ev_bind0 hu (Ev_ite (fun h => ?_) (fun h => Ev_eq (Ev.now _) (by simp only [liveB, inB, h, Bool.and_false, Bool.false_and])))
  exact Ev.bind (specHas_ev g hg x) (Ev_eq (Ev.now _) (by simp only [liveB, inB, c, h, and_self, decide_true, Bool.true_and, Bool.not_not]))
theorem implHere_ev (l : List (List Int)) (b g t : List Int) (s : GoodS l b g t) (hg : g.length ≤ 1048576) (x : Int) : Ev (fun k => impl_Space_isHere.f k l b g t x) (liveB l.length b g x) := by
  simp only [impl_Space_isHere.f, implIsBlock_eq l b g t s.hi (by have := s.lo; omega) s.bits, Option.bind_some]
  refine Ev_ite (fun h => ?_) (fun h => Ev_eq (Ev.now _) (by simp only [liveB, h, Bool.false_and]))
  exact Ev.bind (implHas_ev g hg x) (Ev_eq (Ev.now _) (by simp only [liveB, h, Bool.true_and, Bool.not_not]))
theorem live_facts {n : Nat} {b g : List Int} {x : Int} (h : liveB n b g x = true) : 33 ≤ x ∧ x ≤ (n : Int) - 1 := by
  simp only [liveB, inB, Bool.and_eq_true, decide_eq_true_eq] at h
  exact h.1.1

def restB (row : List Int) (a : Nat) : Bool := (List.range (row.drop a).length).all (fun i => decide ((row.drop a).getD i 0 = 0))
theorem specRest_ev (row : List Int) (a : Nat) (ha : a ≤ row.length) (hr : row.length ≤ 1048576) : Ev (fun k => spec_l7Rest.f k row (a : Int)) (restB row a) := by
  simp only [spec_l7Rest.f, Int.toNat_natCast]
  have hd : (row.drop a).length ≤ 1048576 := by simp; omega
  refine Ev_t (by omega) (Ev_t (by omega) ?_)
  have h := scan_ev (g := fun k i => spec_l7Rest.l0 k (row.drop a) ((row.drop a).length : Int) i) (row.drop a).length (fun i => decide ((row.drop a).getD i 0 = 0)) true
    (fun i hi hp r hr => Ev_succ (by
      simp only [spec_l7Rest.l0, rd_nat]
      rw [w64_succ hi (by omega)]
      simp only [decide_eq_true_eq] at hp
      exact Ev_t (by omega) (Ev_t (by omega) (Ev_t (by omega) (Ev_t hp hr)))))
    (fun i hi hp => Ev_succ (by
      simp only [spec_l7Rest.l0, rd_nat]
      simp only [decide_eq_false_iff_not] at hp
      exact Ev_t (by omega) (Ev_t (by omega) (Ev_t (by omega) (Ev_f hp (Ev.now _))))))
    (Ev_succ (by simp only [spec_l7Rest.l0]; exact Ev_f (by omega) (Ev.now _)))
  rw [Bool.and_true] at h
  exact h
theorem implRest_ev (xs : List Int) (hd : xs.length ≤ 1048576) : Ev (fun k => slices_ContainsFunc_byte_byte_64.f k xs ()) (!((List.range xs.length).all (fun i => decide (xs.getD i 0 = 0)))) := by
  obtain ⟨r, h1, h2⟩ := find_ev (g := fun k i => slices_IndexFunc_byte_byte_77.l0 k xs (xs.length : Int) i) xs.length (fun i => decide (xs.getD i 0 = 0))
    (fun i hi hp r hr => Ev_succ (by
      simp only [slices_IndexFunc_byte_byte_77.l0, rd_nat, impl_Space_record_1.f, Option.bind_some]
      rw [w64_succ hi (by omega)]
      simp only [decide_eq_true_eq] at hp
      exact Ev_t (by omega) (Ev_t (by omega) (Ev_t (by omega) (Ev_f (by rw [hp]; decide) hr)))))
    (fun i hi hp => Ev_succ (by
      simp only [slices_IndexFunc_byte_byte_77.l0, rd_nat, impl_Space_record_1.f, Option.bind_some]
      simp only [decide_eq_false_iff_not] at hp
      exact Ev_t (by omega) (Ev_t (by omega) (Ev_t (by omega) (Ev_t (by simpa using hp) (Ev.now _))))))
    (Ev_succ (by simp only [slices_IndexFunc_byte_byte_77.l0]; exact Ev_f (by omega) (Ev.now _)))
  simp only [slices_ContainsFunc_byte_byte_64.f, slices_IndexFunc_byte_byte_77.f]
  exact Ev.bind h1 (Ev_eq (Ev.now _) h2)
theorem data_len {row : List Int} (hl : row.length = 128) (n : Nat) : ((row.take (4 + n)).drop 4).length ≤ 128 := by rw [List.length_drop, List.length_take]; omega
def failR : List Int × List Int × Bool := ([], [], false)
def okB (row : List Int) (n nx c : Nat) : Bool := decide (row.getD 0 0 = 82) && (decide (n ≤ 124) && (decide (nx = 0 ∨ n = 124) && (decide (¬ (n = 0 ∧ 0 < c)) && restB row (4 + n))))
def nextN (row : List Int) : Nat := (row.getD 1 0 * 256 + row.getD 2 0).toNat
def dataN (row : List Int) (n : Nat) : List Int := (row.take (4 + n)).drop 4
structure RowOk (row : List Int) : Prop where
  len : row.length = 128
  byte : ∀ y ∈ row, 0 ≤ y ∧ y ≤ 255
theorem RowOk.at {row : List Int} (h : RowOk row) (i : Nat) (hi : i < 128) : 0 ≤ row.getD i 0 ∧ row.getD i 0 ≤ 255 := h.byte _ (getD_mem 0 (by rw [h.len]; exact hi))
set_option maxHeartbeats 4000000 in
theorem specStep_ev (l : List (List Int)) (b g t : List Int) (p : Nat) (hp : p < l.length) (hr : RowOk (l.getD p [])) (xs ys : List Int) (hx : xs.length ≤ 1048576) (hy : ys.length ≤ 1048576) (R : List Int × List Int × Bool) (n : Nat) (hn : (n : Int) = (l.getD p []).getD 3 0)
    (hR : okB (l.getD p []) n (nextN (l.getD p [])) ys.length = true → Ev (fun k => spec_l7Record.l0 k (nextN (l.getD p []) : Int) (xs ++ dataN (l.getD p []) n) (ys ++ [(p : Int)]) l b g t) R)
    (hF : okB (l.getD p []) n (nextN (l.getD p [])) ys.length = false → R = failR) :
    Ev (fun k => spec_l7Record.j1 k (p : Int) xs ys false l b g t) R := by
  refine Ev_succ ?_
  simp only [spec_l7Record.j1, rd_L_nat]
  generalize l.getD p [] = row at *
  have h0 := hr.at 0 (by omega); have h1 := hr.at 1 (by omega); have h2 := hr.at 2 (by omega); have h3 := hr.at 3 (by omega); have hl := hr.len
  have r0 : rd row 0 = row.getD 0 0 := rd_nat row 0
  have r1 : rd row 1 = row.getD 1 0 := rd_nat row 1
  have r2 : rd row 2 = row.getD 2 0 := rd_nat row 2
  have r3 : rd row 3 = row.getD 3 0 := rd_nat row 3
  have hnx : wrap64 (wrap64 (wrap64 (row.getD 1 0) * 256) + wrap64 (row.getD 2 0)) = (nextN row : Int) := by
    rw [w64 (n := row.getD 1 0) (by omega) (by omega), w64 (n := row.getD 2 0) (by omega) (by omega), w64 (n := row.getD 1 0 * 256) (by omega) (by omega), w64 (by omega) (by omega)]
    simp only [nextN]; omega
  have hw3 : wrap64 (row.getD 3 0) = (n : Int) := by rw [w64 (by omega) (by omega)]; exact hn.symm
  have hw4 : wrap64 (4 + (n : Int)) = ((4 + n : Nat) : Int) := by rw [w64 (by omega) (by omega)]; omega
  simp only [r0, r1, r2, r3, hnx, hw3, hw4, Int.toNat_natCast]
  simp only [dataN] at hR
  clear r0 r1 r2 r3 hnx hw3 hn h0 h1 h2 h3 hr
  have hj : ∀ c : Bool, (c = true → okB row n (nextN row) ys.length = false) → (c = false → n ≤ 124 ∧ okB row n (nextN row) ys.length = true) → Ev (fun k => spec_l7Record.j2 k (p : Int) xs ys row (nextN row : Int) (n : Int) c l b g t) R := by
    intro c hc hc'
    refine Ev_succ ?_
    simp only [spec_l7Record.j2, hw4, Int.toNat_natCast]
    cases c with
    | true => exact Ev_t rfl (Ev_eq (Ev.now _) (hF (hc rfl)).symm)
    | false =>
      have e1 := (hc' rfl).1
      have hlen := data_len hl n
      exact Ev_f (by decide) (Ev_t (by omega) (Ev_t (by omega) (Ev_t (by omega) (Ev_t (by omega) (hR (hc' rfl).2)))))
  clear hw4
  have hrest : (row.getD 0 0 = 82) → n ≤ 124 → (nextN row = 0 ∨ n = 124) → ¬ (n = 0 ∧ 0 < ys.length) → Ev (fun k => (spec_l7Rest.f k row ((4 + n : Nat) : Int)).bind fun t_ => spec_l7Record.j2 k (p : Int) xs ys row (nextN row : Int) (n : Int) (!t_) l b g t) R := by
    intro e0 e1 e2 e3
    have hok : okB row n (nextN row) ys.length = restB row (4 + n) := by simp only [okB, e0, e1, e2, e3, decide_true, Bool.true_and, not_false_eq_true]
    exact Ev.bind (specRest_ev row (4 + n) (by omega) (by omega)) (hj _ (fun h => by rw [hok]; simpa using h) (fun h => ⟨e1, by rw [hok]; simpa using h⟩))
  refine Ev_f (by decide) (Ev_t (by omega) (Ev_t (by omega) (Ev_t (by omega) (Ev_t (by omega) (Ev_t (by omega) (Ev_t (by omega) ?_))))))
  refine Ev_ite (fun e0 => ?_) (fun e0 => hj _ (fun _ => by simp only [okB, e0, decide_false, Bool.false_and]) (fun h => by cases h))
  refine Ev_ite (fun e1 => hj _ (fun _ => ?_) (fun h => by cases h)) (fun e1 => ?_)
  · have : ¬ n ≤ 124 := by omega
    simp only [okB, this, decide_false, Bool.false_and, Bool.and_false]
  have e1' : n ≤ 124 := by omega
  have hz : (n = 0 ∧ 0 < ys.length) → okB row n (nextN row) ys.length = false := fun this => by simp only [okB, this, and_self, not_true_eq_false, decide_false, Bool.false_and, Bool.and_false]
  refine Ev_ite (fun e2 => ?_) (fun e2 => ?_)
  · exact Ev_ite (fun e3 => Ev_ite (fun e4 => hj _ (fun _ => hz (by omega)) (fun h => by cases h)) (fun e4 => hrest e0 e1' (by omega) (by omega))) (fun e3 => hrest e0 e1' (by omega) (by omega))
  · refine Ev_ite (fun e3 => ?_) (fun e3 => hj _ (fun _ => ?_) (fun h => by cases h))
    · exact Ev_ite (fun e4 => Ev_ite (fun e5 => hj _ (fun _ => hz (by omega)) (fun h => by cases h)) (fun e5 => hrest e0 e1' (by omega) (by omega))) (fun e4 => hrest e0 e1' (by omega) (by omega))
    · have : ¬ (nextN row = 0 ∨ n = 124) := by omega
      simp only [okB, this, decide_false, Bool.false_and, Bool.and_false]
theorem implNumber_ev (row : List Int) (hr : RowOk row) : impl_numberAt.f row 1 = some (nextN row : Int) := by
  have h1 := hr.at 1 (by omega); have h2 := hr.at 2 (by omega); have hl := hr.len
  have r1 : rd row 1 = row.getD 1 0 := rd_nat row 1
  have r2 : rd row 2 = row.getD 2 0 := rd_nat row 2
  simp only [impl_numberAt.f]
  rw [w64 (n := (1 : Int) + 1) (by omega) (by omega)]
  rw [if_pos (by omega), if_pos (by omega), if_pos (by omega), if_pos (by omega)]
  have e : (1 : Int) + 1 = 2 := rfl
  rw [e, r1, r2, w64 (n := row.getD 1 0) (by omega) (by omega), w64 (n := row.getD 2 0) (by omega) (by omega), w64 (n := row.getD 1 0 * 256) (by omega) (by omega), or8 h1.1 h1.2 h2.1 h2.2]
  simp only [nextN]
  congr 1; omega
set_option maxHeartbeats 4000000 in
theorem implStep_ev (l : List (List Int)) (b g t : List Int) (p : Nat) (hp : p < l.length) (hr : RowOk (l.getD p [])) (xs ys : List Int) (hx : xs.length ≤ 1048576) (hy : ys.length ≤ 1048576) (R : List Int × List Int × Bool) (n : Nat) (hn : (n : Int) = (l.getD p []).getD 3 0)
    (hR : okB (l.getD p []) n (nextN (l.getD p [])) ys.length = true → Ev (fun k => if (nextN (l.getD p []) : Int) = 0 then some (xs ++ dataN (l.getD p []) n, ys ++ [(p : Int)], true) else impl_Space_record.l0 k (nextN (l.getD p []) : Int) (xs ++ dataN (l.getD p []) n) (ys ++ [(p : Int)]) l b g t) R)
    (hF : okB (l.getD p []) n (nextN (l.getD p [])) ys.length = false → R = failR) :
    Ev (fun k => impl_Space_record.j1 k (p : Int) xs ys false l b g t) R := by
  refine Ev_succ ?_
  simp only [impl_Space_record.j1, rd_L_nat]
  generalize l.getD p [] = row at *
  have h0 := hr.at 0 (by omega); have h3 := hr.at 3 (by omega); have hl := hr.len
  have r0 : rd row 0 = row.getD 0 0 := rd_nat row 0
  have r3 : rd row 3 = row.getD 3 0 := rd_nat row 3
  have hw3 : wrap64 (row.getD 3 0) = (n : Int) := by rw [w64 (by omega) (by omega)]; exact hn.symm
  have hw4 : wrap64 (4 + (n : Int)) = ((4 + n : Nat) : Int) := by rw [w64 (by omega) (by omega)]; omega
  simp only [r0, r3, hw3, hw4, Int.toNat_natCast, implNumber_ev row hr, Option.bind_some]
  simp only [dataN] at hR
  clear r0 r3 hw3 hn h0 h3 hr
  have hj : ∀ c : Bool, (c = true → okB row n (nextN row) ys.length = false) → (c = false → n ≤ 124 ∧ okB row n (nextN row) ys.length = true) → Ev (fun k => impl_Space_record.j2 k (p : Int) xs ys row (nextN row : Int) (n : Int) c l b g t) R := by
    intro c hc hc'
    refine Ev_succ ?_
    simp only [impl_Space_record.j2, hw4, Int.toNat_natCast]
    cases c with
    | true => exact Ev_t rfl (Ev_eq (Ev.now _) (hF (hc rfl)).symm)
    | false =>
      have e1 := (hc' rfl).1
      have hlen := data_len hl n
      exact Ev_f (by decide) (Ev_t (by omega) (Ev_t (by omega) (Ev_t (by omega) (Ev_bind0 rfl (Ev_t (by omega) (Ev_bind0 rfl (hR (hc' rfl).2)))))))
  have hrest : (row.getD 0 0 = 82) → n ≤ 124 → (nextN row = 0 ∨ n = 124) → ¬ (n = 0 ∧ 0 < ys.length) → Ev (fun k => if (0 : Int) ≤ ((4 + n : Nat) : Int) then (if ((4 + n : Nat) : Int) ≤ (row.length : Int) then ((slices_ContainsFunc_byte_byte_64.f k (row.drop (4 + n)) ()).bind fun t_ => impl_Space_record.j2 k (p : Int) xs ys row (nextN row : Int) (n : Int) t_ l b g t) else none) else none) R := by
    intro e0 e1 e2 e3
    have hok : okB row n (nextN row) ys.length = restB row (4 + n) := by simp only [okB, e0, e1, e2, e3, decide_true, Bool.true_and, not_false_eq_true]
    refine Ev_t (by omega) (Ev_t (by omega) (Ev.bind (implRest_ev (row.drop (4 + n)) (by simp; omega)) (hj _ (fun h => ?_) (fun h => ⟨e1, ?_⟩))))
    · rw [hok]; simpa [restB] using h
    · rw [hok]; simpa [restB] using h
  refine Ev_f (by decide) (Ev_t (by omega) (Ev_t (by omega) (Ev_t (by omega) (Ev_t (by omega) ?_))))
  refine Ev_ite (fun e0 => ?_) (fun e0 => hj _ (fun _ => by simp only [okB, e0, decide_false, Bool.false_and]) (fun h => by cases h))
  refine Ev_ite (fun e1 => hj _ (fun _ => ?_) (fun h => by cases h)) (fun e1 => ?_)
  · have : ¬ n ≤ 124 := by omega
    simp only [okB, this, decide_false, Bool.false_and, Bool.and_false]
  have e1' : n ≤ 124 := by omega
  have hz : (n = 0 ∧ 0 < ys.length) → okB row n (nextN row) ys.length = false := fun this => by simp only [okB, this, and_self, not_true_eq_false, decide_false, Bool.false_and, Bool.and_false]
  refine Ev_ite (fun e2 => ?_) (fun e2 => ?_)
  · exact Ev_ite (fun e3 => Ev_ite (fun e4 => hrest e0 e1' (by omega) (by omega)) (fun e4 => hj _ (fun _ => hz (by omega)) (fun h => by cases h))) (fun e3 => hrest e0 e1' (by omega) (by omega))
  · refine Ev_ite (fun e3 => hj _ (fun _ => ?_) (fun h => by cases h)) (fun e3 => ?_)
    · have : ¬ (nextN row = 0 ∨ n = 124) := by omega
      simp only [okB, this, decide_false, Bool.false_and, Bool.and_false]
    · exact Ev_ite (fun e3 => Ev_ite (fun e4 => hrest e0 e1' (by omega) (by omega)) (fun e4 => hj _ (fun _ => hz (by omega)) (fun h => by cases h))) (fun e3 => hrest e0 e1' (by omega) (by omega))
theorem same_record (l : List (List Int)) (b g t : List Int) (s : GoodS l b g t) (hg : g.length ≤ 1048576) (hby : ∀ r ∈ l, ∀ y ∈ r, 0 ≤ y ∧ y ≤ 255) : ∀ (m : Nat) (at_ : Int) (xs ys : List Int), ys.length + m = 9 → xs.length ≤ 128 * ys.length → ¬ at_ = 0 →
    SameQ (fun R => R.1.length ≤ 1280 ∧ R.2.1.length ≤ 10 ∧ (R.2.2 = false → R = failR)) (fun k => spec_l7Record.l0 k at_ xs ys l b g t) (fun k => impl_Space_record.l0 k at_ xs ys l b g t) := by
  intro m
  induction m with
  | zero =>
    intro at_ xs ys hm hx h0
    have hfS : ∀ c : Bool, c = true → Ev (fun k => spec_l7Record.j1 k at_ xs ys c l b g t) failR := fun c hc => Ev_succ (by simp only [spec_l7Record.j1]; exact Ev_t hc (Ev.now _))
    have hfI : ∀ c : Bool, c = true → Ev (fun k => impl_Space_record.j1 k at_ xs ys c l b g t) failR := fun c hc => Ev_succ (by simp only [impl_Space_record.j1]; exact Ev_t hc (Ev.now _))
    have h9 : ((ys.length : Int) == 9) = true := by simp; omega
    refine SameQ.of (r := failR) (Ev_succ ?_) (Ev_succ ?_) ⟨by simp [failR], by simp [failR], fun _ => rfl⟩
    · simp only [spec_l7Record.l0]
      exact Ev_f h0 (Ev.bind (specLive_ev l b g t s hg at_) (Ev_ite (fun _ => Ev.bind (specHas_ev ys (by omega) at_) (Ev_ite (fun _ => hfS _ rfl) (fun _ => hfS _ h9))) (fun _ => hfS _ rfl)))
    · simp only [impl_Space_record.l0]
      exact Ev.bind (implHere_ev l b g t s hg at_) (Ev_ite (fun _ => Ev.bind (implHas_ev ys (by omega) at_) (Ev_ite (fun _ => hfI _ rfl) (fun _ => hfI _ h9))) (fun _ => hfI _ rfl))
  | succ m ih =>
    intro at_ xs ys hm hx h0
    have hfS : ∀ c : Bool, c = true → Ev (fun k => spec_l7Record.j1 k at_ xs ys c l b g t) failR := fun c hc => Ev_succ (by simp only [spec_l7Record.j1]; exact Ev_t hc (Ev.now _))
    have hfI : ∀ c : Bool, c = true → Ev (fun k => impl_Space_record.j1 k at_ xs ys c l b g t) failR := fun c hc => Ev_succ (by simp only [impl_Space_record.j1]; exact Ev_t hc (Ev.now _))
    have qF : failR.1.length ≤ 1280 ∧ failR.2.1.length ≤ 10 ∧ (failR.2.2 = false → failR = failR) := ⟨by simp [failR], by simp [failR], fun _ => rfl⟩
    have h9 : ((ys.length : Int) == 9) = false := by simp; omega
    cases hl : liveB l.length b g at_ with
    | false =>
      refine SameQ.of (r := failR) (Ev_succ ?_) (Ev_succ ?_) qF
      · simp only [spec_l7Record.l0]
        refine Ev_f h0 (Ev.bind (specLive_ev l b g t s hg at_) ?_)
        rw [hl]; exact Ev_f (by decide) (hfS _ rfl)
      · simp only [impl_Space_record.l0]
        refine Ev.bind (implHere_ev l b g t s hg at_) ?_
        rw [hl]; exact Ev_f (by decide) (hfI _ rfl)
    | true =>
      have hr := live_facts hl
      obtain ⟨p, rfl⟩ : ∃ p : Nat, at_ = (p : Int) := ⟨at_.toNat, by omega⟩
      have hp : p < l.length := by omega
      cases hh : noneIs ys (p : Int) with
      | false =>
        refine SameQ.of (r := failR) (Ev_succ ?_) (Ev_succ ?_) qF
        · simp only [spec_l7Record.l0]
          refine Ev_f h0 (Ev.bind (specLive_ev l b g t s hg p) ?_)
          rw [hl]; refine Ev_t rfl (Ev.bind (specHas_ev ys (by omega) p) ?_)
          rw [hh]; exact Ev_t rfl (hfS _ rfl)
        · simp only [impl_Space_record.l0]
          refine Ev.bind (implHere_ev l b g t s hg p) ?_
          rw [hl]; refine Ev_t rfl (Ev.bind (implHas_ev ys (by omega) p) ?_)
          rw [hh]; exact Ev_t rfl (hfI _ rfl)
      | true =>
        have hm' : l.getD p [] ∈ l := getD_mem [] hp
        have row : RowOk (l.getD p []) := ⟨s.rows _ hm', hby _ hm'⟩
        have h3 := row.at 3 (by omega)
        obtain ⟨n, hn⟩ : ∃ n : Nat, (n : Int) = (l.getD p []).getD 3 0 := ⟨((l.getD p []).getD 3 0).toNat, by omega⟩
        have hS : ∀ R, Ev (fun k => spec_l7Record.j1 k (p : Int) xs ys false l b g t) R → Ev (fun k => spec_l7Record.l0 k (p : Int) xs ys l b g t) R := fun R e => Ev_succ (by
          simp only [spec_l7Record.l0]
          refine Ev_f h0 (Ev.bind (specLive_ev l b g t s hg p) ?_)
          rw [hl]; refine Ev_t rfl (Ev.bind (specHas_ev ys (by omega) p) ?_)
          rw [hh, h9]; exact Ev_f (by decide) e)
        have hI : ∀ R, Ev (fun k => impl_Space_record.j1 k (p : Int) xs ys false l b g t) R → Ev (fun k => impl_Space_record.l0 k (p : Int) xs ys l b g t) R := fun R e => Ev_succ (by
          simp only [impl_Space_record.l0]
          refine Ev.bind (implHere_ev l b g t s hg p) ?_
          rw [hl]; refine Ev_t rfl (Ev.bind (implHas_ev ys (by omega) p) ?_)
          rw [hh, h9]; exact Ev_f (by decide) e)
        have hdl : (dataN (l.getD p []) n).length ≤ 128 := by have := row.len; simp only [dataN, List.length_drop, List.length_take]; omega
        cases ho : okB (l.getD p []) n (nextN (l.getD p [])) ys.length with
        | false =>
          exact SameQ.of (r := failR) (hS _ (specStep_ev l b g t p hp row xs ys (by omega) (by omega) _ n hn (fun h => by rw [ho] at h; cases h) (fun _ => rfl))) (hI _ (implStep_ev l b g t p hp row xs ys (by omega) (by omega) _ n hn (fun h => by rw [ho] at h; cases h) (fun _ => rfl))) qF
        | true =>
          by_cases hz : nextN (l.getD p []) = 0
          · refine SameQ.of (r := (xs ++ dataN (l.getD p []) n, ys ++ [(p : Int)], true)) (hS _ (specStep_ev l b g t p hp row xs ys (by omega) (by omega) _ n hn (fun _ => ?_) (fun h => by rw [ho] at h; cases h))) (hI _ (implStep_ev l b g t p hp row xs ys (by omega) (by omega) _ n hn (fun _ => ?_) (fun h => by rw [ho] at h; cases h))) ⟨?_, ?_, fun h => by cases h⟩
            · refine Ev_succ ?_
              simp only [spec_l7Record.l0]
              exact Ev_t (by omega) (Ev_eq (Ev.now _) (by simp))
            · exact Ev_t (by omega) (Ev.now _)
            · simp only [List.length_append]; omega
            · simp only [List.length_append, List.length_singleton]; omega
          · obtain ⟨R, e1, e2, q⟩ := ih (nextN (l.getD p []) : Int) (xs ++ dataN (l.getD p []) n) (ys ++ [(p : Int)]) (by simp only [List.length_append, List.length_singleton]; omega) (by simp only [List.length_append, List.length_singleton]; omega) (by omega)
            exact SameQ.of (r := R) (hS _ (specStep_ev l b g t p hp row xs ys (by omega) (by omega) _ n hn (fun _ => e1) (fun h => by rw [ho] at h; cases h))) (hI _ (implStep_ev l b g t p hp row xs ys (by omega) (by omega) _ n hn (fun _ => Ev_f (by omega) e2) (fun h => by rw [ho] at h; cases h))) q
theorem same_RecordAt (l : List (List Int)) (b g t : List Int) (z : SpaceSz l b g t) (hby : ∀ r ∈ l, ∀ y ∈ r, 0 ≤ y ∧ y ≤ 255) (a : Int) :
    SameQ (fun R => R.1.length ≤ 1280 ∧ R.2.1.length ≤ 10) (fun k => spec_RecordAt.f k l b g t a) (fun k => impl_RecordAt.f k l b g t a) := by
  simp only [spec_RecordAt.f, impl_RecordAt.f]
  have qF : failR.1.length ≤ 1280 ∧ failR.2.1.length ≤ 10 := ⟨by simp [failR], by simp [failR]⟩
  cases hgd : goodB l b g t with
  | false =>
    have e1 := specGoodSpace_ev l b g t z.hl z.hg z.ht
    have e2 := implGoodSpace_ev l b g t z.hl z.hg z.ht
    rw [hgd] at e1 e2
    exact SameQ.of (r := failR) (Ev.bind e1 (Ev_f (by decide) (Ev.now _))) (Ev.bind e2 (Ev_f (by decide) (Ev.now _))) qF
  | true =>
    have e1 := specGoodSpace_ev l b g t z.hl z.hg z.ht
    have e2 := implGoodSpace_ev l b g t z.hl z.hg z.ht
    rw [hgd] at e1 e2
    have s := goodB_facts hgd
    simp only [spec_l7Record.f, impl_Space_record.f]
    by_cases h0 : a = 0
    · subst h0
      have hl : liveB l.length b g 0 = false := by simp [liveB, inB]
      refine SameQ.of (r := failR) (Ev.bind e1 (Ev_t rfl (Ev.bind (a := failR) (Ev_succ ?_) (Ev_f (by decide) (Ev.now _))))) (Ev.bind e2 (Ev_t rfl (Ev.bind (a := failR) (Ev_succ ?_) (Ev.now _)))) qF
      · simp only [spec_l7Record.l0]
        exact Ev_t trivial (Ev_eq (Ev.now _) (by simp [failR]))
      · simp only [impl_Space_record.l0]
        refine Ev.bind (implHere_ev l b g t s z.hg 0) ?_
        rw [hl]
        exact Ev_f (by decide) (Ev_succ (by simp only [impl_Space_record.j1]; exact Ev_t trivial (Ev.now _)))
    · obtain ⟨R, p, q, h1, h2, h3⟩ := same_record l b g t s z.hg hby 9 a [] [] (by simp) (by simp) h0
      refine SameQ.of (r := R) (Ev.bind e1 (Ev_t rfl (Ev.bind p (Ev_ite (fun h => Ev_eq (Ev.now _) ?_) (fun h => Ev_eq (Ev.now _) ?_))))) (Ev.bind e2 (Ev_t rfl (Ev.bind q (Ev_eq (Ev.now _) rfl)))) ⟨h1, h2⟩
      · obtain ⟨R1, R2, R3⟩ := R; simp only at h; rw [h]
      · rw [h3 (by simpa using h)]; rfl

def cutL (g : List Int) (x : Int) (k : Nat) : Prop := k ≤ g.length ∧ (∀ i, i < k → g.getD i 0 < x) ∧ (k < g.length → x ≤ g.getD k 0)
theorem cutL_one {g : List Int} {x : Int} {k k' : Nat} (h : cutL g x k) (h' : cutL g x k') : k = k' := by
  rcases Nat.lt_trichotomy k k' with c | c | c
  · have h1 := h'.2.1 k c; have h2 := h.2.2 (by have := h'.1; omega); omega
  · exact c
  · have h1 := h.2.1 k' c; have h2 := h'.2.2 (by have := h.1; omega); omega
def putAt (g : List Int) (x : Int) (k : Nat) : List Int := if k < g.length ∧ g.getD k 0 = x then g else g.take k ++ [x] ++ g.drop k
theorem putAt_len (g : List Int) (x : Int) (k : Nat) (hk : k ≤ g.length) : (putAt g x k).length ≤ g.length + 1 := by
  unfold putAt; split
  · omega
  · simp only [List.length_append, List.length_take, List.length_drop, List.length_cons, List.length_nil]; omega
theorem specPut_ev (g : List Int) (x : Int) (hg : g.length ≤ 1048577) : ∃ k, cutL g x k ∧ Ev (fun n => spec_l5Put.f n g x) (putAt g x k) := by
  have key : ∀ (m i : Nat), i + m = g.length → (∀ j, j < i → g.getD j 0 < x) → ∃ k, cutL g x k ∧ Ev (fun n => spec_l5Put.l0 n g x (i : Int)) (putAt g x k) := by
    intro m
    induction m with
    | zero =>
      intro i hi hj
      refine ⟨i, ⟨by omega, hj, fun h => by omega⟩, Ev_succ ?_⟩
      simp only [spec_l5Put.l0, Option.bind_some, Int.toNat_natCast]
      refine Ev_f (by omega) (Ev_t (by omega) (Ev_t (by omega) ?_))
      exact Ev_t (by simp only [List.length_nil, List.length_take]; omega) (Ev_t (by simp only [List.nil_append, List.length_take]; omega) (Ev_t (by simp only [List.nil_append, List.length_append, List.length_take, List.length_drop, List.length_cons, List.length_nil]; omega) (Ev_eq (Ev.now _) (by unfold putAt; rw [if_neg (by omega), List.nil_append]))))
    | succ m ih =>
      intro i hi hj
      by_cases c : g.getD i 0 < x
      · obtain ⟨k, h1, h2⟩ := ih (i + 1) (by omega) (fun j h => by
          rcases Nat.lt_or_ge j i with h' | h'
          · exact hj j h'
          · have : j = i := by omega
            subst this; exact c)
        refine ⟨k, h1, Ev_succ ?_⟩
        simp only [spec_l5Put.l0, rd_nat]
        rw [w64_succ (show i < g.length by omega) (by omega)]
        exact Ev_t (by omega) (Ev_t (by omega) (Ev_t c h2))
      · refine ⟨i, ⟨by omega, hj, fun _ => by omega⟩, Ev_succ ?_⟩
        simp only [spec_l5Put.l0, rd_nat, Option.bind_some, Int.toNat_natCast]
        refine Ev_t (by omega) (Ev_t (by omega) (Ev_f c (Ev_ite (fun e => Ev_eq (Ev.now _) (by unfold putAt; rw [if_pos ⟨by omega, e⟩])) (fun e => ?_))))
        exact Ev_t (by omega) (Ev_t (by simp only [List.length_nil, List.length_take]; omega) (Ev_t (by simp only [List.nil_append, List.length_take]; omega) (Ev_t (by simp only [List.nil_append, List.length_append, List.length_take, List.length_drop, List.length_cons, List.length_nil]; omega) (Ev_eq (Ev.now _) (by unfold putAt; rw [if_neg (fun h => e h.2), List.nil_append])))))
  obtain ⟨k, h1, h2⟩ := key g.length 0 (by omega) (fun j h => by omega)
  exact ⟨k, h1, h2⟩
def Rising (g : List Int) : Prop := ∀ i j, i < j → j < g.length → g.getD i 0 < g.getD j 0
theorem less_int (a b : Int) : cmp_Less_int.f a b = some (decide (a < b)) := by simp [cmp_Less_int.f, cmp_isNaN_int.f]
theorem search_ev (g : List Int) (x : Int) (hg : g.length ≤ 1048577) (hs : Rising g) : ∃ k, cutL g x k ∧ Ev (fun n => slices_BinarySearch_int_int.f n g x) ((k : Int), decide (k < g.length ∧ g.getD k 0 = x)) := by
  have key : ∀ (m i j : Nat), j - i = m → i ≤ j → j ≤ g.length → (∀ a, a < i → g.getD a 0 < x) → (∀ a, j ≤ a → a < g.length → x ≤ g.getD a 0) → ∃ k, cutL g x k ∧ Ev (fun n => slices_BinarySearch_int_int.l0 n g x (g.length : Int) (i : Int) (j : Int)) ((k : Int), decide (k < g.length ∧ g.getD k 0 = x)) := by
    intro m
    induction m using Nat.strongRecOn with
    | ind m ih =>
      intro i j hm hij hj ha hb
      by_cases c : i < j
      · have hh : wrap64 ((IntKind.u64.wrap (wrap64 ((i : Int) + (j : Int)))) / 2) = (((i + j) / 2 : Nat) : Int) := by
          rw [w64 (n := (i : Int) + (j : Int)) (by omega) (by omega), wu64 (by omega) (by omega), w64 (by omega) (by omega)]
          omega
        generalize hq : (i + j) / 2 = h at hh
        have h1 : i ≤ h := by omega
        have h2 : h < j := by omega
        by_cases c2 : g.getD h 0 < x
        · obtain ⟨k, p, q⟩ := ih (j - (h + 1)) (by omega) (h + 1) j rfl (by omega) hj (fun a hlt => by
            rcases Nat.lt_or_ge a h with h' | h'
            · have := hs a h h' (by omega); omega
            · have : a = h := by omega
              subst this; exact c2) hb
          refine ⟨k, p, Ev_succ ?_⟩
          simp only [slices_BinarySearch_int_int.l0]
          rw [hh, w64_succ (show h < g.length by omega) (by omega)]
          simp only [rd_nat, less_int, Option.bind_some]
          exact Ev_t (by omega) (Ev_t (by omega) (Ev_t (by omega) (Ev_t (by simpa using c2) q)))
        · obtain ⟨k, p, q⟩ := ih (h - i) (by omega) i h rfl (by omega) (by omega) ha (fun a h3 h4 => by
            rcases Nat.lt_or_ge h a with h' | h'
            · have := hs h a h' h4; omega
            · have : a = h := by omega
              subst this; omega)
          refine ⟨k, p, Ev_succ ?_⟩
          simp only [slices_BinarySearch_int_int.l0]
          rw [hh]
          simp only [rd_nat, less_int, Option.bind_some]
          exact Ev_t (by omega) (Ev_t (by omega) (Ev_t (by omega) (Ev_f (by simpa using c2) q)))
      · have e : i = j := by omega
        subst e
        refine ⟨i, ⟨hj, ha, fun h => hb i (Nat.le_refl _) h⟩, Ev_succ ?_⟩
        simp only [slices_BinarySearch_int_int.l0, rd_nat, slices_isNaN_int.f, Option.bind_some]
        refine Ev_f (by omega) (Ev_ite (fun h => ?_) (fun h => Ev_eq (Ev.now _) (by simp; omega)))
        refine Ev_t (by omega) (Ev_t h (Ev_ite (fun e => Ev_eq (Ev.now _) (by rw [decide_eq_true (⟨by omega, e⟩ : i < g.length ∧ g.getD i 0 = x)])) (fun e => Ev_f (by simp) (Ev_eq (Ev.now _) (by rw [decide_eq_false (fun h' : i < g.length ∧ g.getD i 0 = x => e h'.2)])))))
  obtain ⟨k, h1, h2⟩ := key g.length 0 g.length (by omega) (by omega) (Nat.le_refl _) (fun a h => by omega) (fun a h h' => by omega)
  exact ⟨k, h1, h2⟩
theorem insert_ev (g : List Int) (x : Int) (hg : g.length ≤ 1048577) (hs : Rising g) : ∃ k, cutL g x k ∧ Ev (fun n => impl_insert.f n g x) (putAt g x k) := by
  obtain ⟨k, h1, h2⟩ := search_ev g x hg hs
  refine ⟨k, h1, ?_⟩
  simp only [impl_insert.f]
  refine Ev.bind h2 (Ev_ite (fun c => Ev_eq (Ev.now _) ?_) (fun c => ?_))
  · simp only [decide_eq_true_eq] at c
    unfold putAt; rw [if_pos c]
  · simp only [decide_eq_true_eq] at c
    have hk := h1.1
    refine Ev_bind0 (a := g.take k ++ [x] ++ g.drop k) ?_ (Ev_eq (Ev.now _) (by unfold putAt; rw [if_neg c]))
    simp only [slices_Insert_int_int.f, Int.toNat_natCast]
    rw [if_pos (by simp), if_pos (by omega), if_pos (by omega), if_pos (by simp; omega)]
theorem samePut (g : List Int) (x : Int) (hg : g.length ≤ 1048577) (hs : Rising g) : ∃ r : List Int, r.length ≤ g.length + 1 ∧ Ev (fun n => spec_l5Put.f n g x) r ∧ Ev (fun n => impl_insert.f n g x) r := by
  obtain ⟨k, h1, h2⟩ := specPut_ev g x hg
  obtain ⟨k', h3, h4⟩ := insert_ev g x hg hs
  have e := cutL_one h1 h3
  subst e
  exact ⟨_, putAt_len g x k h1.1, h2, h4⟩

theorem markB (l : List Int) (hl : l.length ≤ 1048576) (n0 : Int) (h0 : 0 ≤ n0) (h1 : n0 ≤ 4000000000000000000) : Ev (fun k => laws_markByteS.f k l n0) (n0 + (l.length : Int), (List.range l.length).map fun i : Nat => (n0 + (i : Int)) % 256) := by
  have h := fills_ev (g := fun k x i => laws_markByteS.l0 k x (n0 + i) i) l.length (fun i : Nat => (n0 + (i : Int)) % 256) (fun x => (n0 + (l.length : Int), x))
      (fun x i hx hi r hr => Ev_succ (by
        have e0 : wrap64 (n0 + (i : Int) + 1) = n0 + ((i + 1 : Nat) : Int) := by rw [w64 (by omega) (by omega)]; omega
        simp only [laws_markByteS.l0, Int.toNat_natCast, e0]
        rw [w64_succ hi (by omega)]
        exact Ev_t (by omega) (Ev_t (by omega) hr)))
      (fun x hx => Ev_succ (by simp only [laws_markByteS.l0]; exact Ev_f (by omega) (Ev.now _)))
      l rfl
  refine Ev.congr (fun k => ?_) h
  simp only [laws_markByteS.f, Int.add_zero]

theorem heldB (n : Nat) (hl : n ≤ 1048576) (n0 : Int) (h0 : 0 ≤ n0) (h1 : n0 ≤ 4000000000000000000) : Ev (fun k => laws_heldByteS.f k ((List.range n).map fun i : Nat => (n0 + (i : Int)) % 256) n0) (n0 + (n : Int)) := by
  have h := all_ev (g := fun k i => laws_heldByteS.l0 k ((List.range n).map fun i : Nat => (n0 + (i : Int)) % 256) (n0 + i) i) (r := n0 + (n : Int)) n
      (fun i hi hr => Ev_succ (by
        simp only [laws_heldByteS.l0, List.length_map, List.length_range]
        have e1 : wrap64 (n0 + (i : Int) + 1) = n0 + ((i + 1 : Nat) : Int) := by rw [w64 (by omega) (by omega)]; omega
        have e2 : rd ((List.range n).map fun i : Nat => (n0 + (i : Int)) % 256) (i : Int) = (n0 + (i : Int)) % 256 := by
          rw [rd_nat]; simp [List.getD, hi]
        rw [e1, e2, w64_succ hi (by omega)]
        exact Ev_t (by omega) (Ev_t (by omega) (Ev_t rfl hr))))
      (Ev_succ (by simp only [laws_heldByteS.l0, List.length_map, List.length_range]; exact Ev_f (by omega) (Ev.now _)))
  refine Ev.congr (fun k => ?_) h
  simp only [laws_heldByteS.f, Int.add_zero]

theorem markI (l : List Int) (hl : l.length ≤ 1048576) (n0 : Int) (h0 : 0 ≤ n0) (h1 : n0 ≤ 4000000000000000000) : Ev (fun k => laws_markIntS.f k l n0) (n0 + (l.length : Int), (List.range l.length).map fun i : Nat => n0 + (i : Int)) := by
  have h := fills_ev (g := fun k x i => laws_markIntS.l0 k x (n0 + i) i) l.length (fun i : Nat => n0 + (i : Int)) (fun x => (n0 + (l.length : Int), x))
      (fun x i hx hi r hr => Ev_succ (by
        have e0 : wrap64 (n0 + (i : Int) + 1) = n0 + ((i + 1 : Nat) : Int) := by rw [w64 (by omega) (by omega)]; omega
        simp only [laws_markIntS.l0, Int.toNat_natCast, e0]
        rw [w64_succ hi (by omega)]
        exact Ev_t (by omega) (Ev_t (by omega) hr)))
      (fun x hx => Ev_succ (by simp only [laws_markIntS.l0]; exact Ev_f (by omega) (Ev.now _)))
      l rfl
  refine Ev.congr (fun k => ?_) h
  simp only [laws_markIntS.f, Int.add_zero]

theorem heldI (n : Nat) (hl : n ≤ 1048576) (n0 : Int) (h0 : 0 ≤ n0) (h1 : n0 ≤ 4000000000000000000) : Ev (fun k => laws_heldIntS.f k ((List.range n).map fun i : Nat => n0 + (i : Int)) n0) (n0 + (n : Int)) := by
  have h := all_ev (g := fun k i => laws_heldIntS.l0 k ((List.range n).map fun i : Nat => n0 + (i : Int)) (n0 + i) i) (r := n0 + (n : Int)) n
      (fun i hi hr => Ev_succ (by
        simp only [laws_heldIntS.l0, List.length_map, List.length_range]
        have e1 : wrap64 (n0 + (i : Int) + 1) = n0 + ((i + 1 : Nat) : Int) := by rw [w64 (by omega) (by omega)]; omega
        have e2 : rd ((List.range n).map fun i : Nat => n0 + (i : Int)) (i : Int) = n0 + (i : Int) := by
          rw [rd_nat]; simp [List.getD, hi]
        rw [e1, e2, w64_succ hi (by omega)]
        exact Ev_t (by omega) (Ev_t (by omega) (Ev_t rfl hr))))
      (Ev_succ (by simp only [laws_heldIntS.l0, List.length_map, List.length_range]; exact Ev_f (by omega) (Ev.now _)))
  refine Ev.congr (fun k => ?_) h
  simp only [laws_heldIntS.f, Int.add_zero]

def mkS : List (List Int) → Int → List (List Int) × Int
  | [], n => ([], n)
  | p :: l, n => (((List.range p.length).map fun i : Nat => (n + (i : Int)) % 256) :: (mkS l (n + (p.length : Int))).1, (mkS l (n + (p.length : Int))).2)
theorem mkS_le : ∀ (l : List (List Int)) (n : Int), n ≤ (mkS l n).2 ∧ (mkS l n).1.length = l.length
  | [], n => by simp [mkS]
  | p :: l, n => by
    have := mkS_le l (n + (p.length : Int))
    simp only [mkS, List.length_cons]
    omega
theorem getD_mid (pre : List (List Int)) (p : List Int) (l : List (List Int)) : (pre ++ p :: l).getD pre.length [] = p := by simp
theorem set_mid (pre : List (List Int)) (p q : List Int) (l : List (List Int)) : (pre ++ p :: l).set pre.length q = (pre ++ [q]) ++ l := by simp
theorem markSS_mk : ∀ (suf pre : List (List Int)) (n0 : Int), (pre ++ suf).length ≤ 1048576 → (∀ p ∈ suf, p.length ≤ 1048576) → 0 ≤ n0 → n0 + (suf.length : Int) * 1048576 ≤ 4000000000000000000 →
    Ev (fun k => laws_markByteSS.l0 k (pre ++ suf) n0 (pre.length : Int)) ((mkS suf n0).2, pre ++ (mkS suf n0).1) := by
  intro suf
  induction suf with
  | nil =>
    intro pre n0 hl _ h0 h1
    refine Ev_succ ?_
    simp only [laws_markByteSS.l0]
    exact Ev_f (by simp) (Ev.now _)
  | cons p l ih =>
    intro pre n0 hl hp h0 h1
    have hq := hp p (by simp)
    simp only [List.length_append, List.length_cons] at hl h1
    have e := ih (pre ++ [(List.range p.length).map fun i : Nat => (n0 + (i : Int)) % 256]) (n0 + (p.length : Int)) (by simp; omega) (fun q hm => hp q (by simp [hm])) (by omega) (by omega)
    refine Ev_succ ?_
    simp only [laws_markByteSS.l0, Int.toNat_natCast, getD_mid]
    rw [w64_succ (show pre.length < pre.length + 1 by omega) (by omega)]
    refine Ev_t (by simp; omega) (Ev_t (by omega) (Ev.bind (markB p hq n0 h0 (by omega)) ?_))
    simp only [set_mid]
    simp only [List.length_append, List.length_singleton] at e
    exact Ev_eq e (by simp [mkS])
theorem heldSS_mk : ∀ (suf pre : List (List Int)) (n0 : Int), (pre ++ suf).length ≤ 1048576 → (∀ p ∈ suf, p.length ≤ 1048576) → 0 ≤ n0 → n0 + (suf.length : Int) * 1048576 ≤ 4000000000000000000 →
    Ev (fun k => laws_heldByteSS.l0 k (pre ++ (mkS suf n0).1) n0 (pre.length : Int)) (mkS suf n0).2 := by
  intro suf
  induction suf with
  | nil =>
    intro pre n0 hl _ h0 h1
    refine Ev_succ ?_
    simp only [laws_heldByteSS.l0]
    exact Ev_f (by simp [mkS]) (Ev.now _)
  | cons p l ih =>
    intro pre n0 hl hp h0 h1
    have hq := hp p (by simp)
    simp only [List.length_append, List.length_cons] at hl h1
    have e := ih (pre ++ [(List.range p.length).map fun i : Nat => (n0 + (i : Int)) % 256]) (n0 + (p.length : Int)) (by simp; omega) (fun q hm => hp q (by simp [hm])) (by omega) (by omega)
    refine Ev_succ ?_
    simp only [laws_heldByteSS.l0, rd_L_nat, mkS, getD_mid]
    rw [w64_succ (show pre.length < pre.length + 1 by omega) (by omega)]
    refine Ev_t (by simp; omega) (Ev_t (by omega) (Ev.bind (heldB p.length hq n0 h0 (by omega)) (Ev_f (by omega) ?_)))
    simp only [List.length_append, List.length_singleton, List.append_assoc, List.singleton_append] at e
    exact e

theorem mkS_hi : ∀ (l : List (List Int)) (n : Int), (∀ p ∈ l, p.length ≤ 1048576) → (mkS l n).2 ≤ n + (l.length : Int) * 1048576
  | [], n, _ => by simp [mkS]
  | p :: l, n, h => by
    have h1 := mkS_hi l (n + (p.length : Int)) (fun q hq => h q (by simp [hq]))
    have h2 := h p (by simp)
    simp only [mkS, List.length_cons]
    omega

theorem listB_at {n : Nat} {b g : List Int} (h : listB n b g = true) {i : Nat} (hi : i < g.length) : (33 ≤ g.getD i 0 ∧ g.getD i 0 ≤ (n : Int) - 1) ∧ (i = 0 ∨ g.getD (i - 1) 0 < g.getD i 0) := by
  simp only [listB, List.all_eq_true] at h
  have h2 := h i (List.mem_range.2 hi)
  simp only [listP, inB, Bool.and_eq_true, Bool.or_eq_true, decide_eq_true_eq] at h2
  exact ⟨h2.1.1, h2.2⟩
theorem listB_rise {n : Nat} {b g : List Int} (h : listB n b g = true) {i : Nat} (hi : i + 1 < g.length) : g.getD i 0 < g.getD (i + 1) 0 := by
  have h2 := (listB_at h hi).2
  simpa using h2
theorem listB_ge {n : Nat} {b g : List Int} (h : listB n b g = true) : ∀ i : Nat, i < g.length → 33 + (i : Int) ≤ g.getD i 0
  | 0, hi => by have := (listB_at h hi).1; omega
  | i + 1, hi => by have := listB_ge h i (by omega); have := listB_rise h hi; omega
theorem listB_len {n : Nat} {b g : List Int} (h : listB n b g = true) (hn : n ≤ 160) : g.length ≤ 127 := by
  rcases Nat.eq_zero_or_pos g.length with c | c
  · omega
  · have h1 := listB_ge h (g.length - 1) (by omega)
    have h2 := (listB_at h (show g.length - 1 < g.length by omega)).1
    omega
theorem rising_of (n : Nat) (b g : List Int) (h : listB n b g = true) : Rising g := by
  have h0 : ∀ i, i + 1 < g.length → g.getD i 0 < g.getD (i + 1) 0 := fun i hi => listB_rise h hi
  intro i j hij hj
  induction j with
  | zero => omega
  | succ j ih =>
    rcases Nat.lt_or_ge i j with c | c
    · exact Int.lt_trans (ih c (by omega)) (h0 j hj)
    · have : i = j := by omega
      subst this; exact h0 i hj
theorem clone8_ev (l : List Int) (hl : l.length ≤ 1048577) : slices_Clone_byte_byte.f l = some l := by
  simp only [slices_Clone_byte_byte.f, Option.bind_some]
  rw [if_pos (by simp; omega)]; rfl
theorem clone64_ev (l : List Int) (hl : l.length ≤ 1048577) : slices_Clone_int_int.f l = some l := by
  simp only [slices_Clone_int_int.f, Option.bind_some]
  rw [if_pos (by simp; omega)]; rfl
theorem copyBs_ev (l : List (List Int)) (hl : l.length ≤ 1048576) (hz : ∀ p ∈ l, p.length ≤ 1048576) : Ev (fun k => impl_copyBlocks.f k l) l := by
  have key : ∀ (m i : Nat), i + m = l.length → Ev (fun k => impl_copyBlocks.l0 k (l.take i) l (l.length : Int) (i : Int)) l := by
    intro m
    induction m with
    | zero => intro i hi; refine Ev_succ ?_; simp only [impl_copyBlocks.l0]; exact Ev_f (by omega) (Ev_eq (Ev.now _) (by rw [List.take_of_length_le (by omega)]))
    | succ m ih =>
      intro i hi
      have hm := hz _ (getD_mem (xs := l) (i := i) [] (by omega))
      refine Ev_succ ?_
      simp only [impl_copyBlocks.l0, rd_L_nat]
      rw [w64_succ (show i < l.length by omega) (by omega)]
      have e := ih (i + 1) (by omega)
      rw [take_getD_succ l i [] (by omega)] at e
      exact Ev_t (by omega) (Ev_t (by omega) (Ev_t (by omega) (Ev_bind0 (clone8_ev _ (by omega)) (Ev_t (by simp only [List.length_take]; omega) e))))
  have h := key l.length 0 (by omega)
  simp only [impl_copyBlocks.f]
  exact h
theorem copiedS_ev (l : List (List Int)) (b g t : List Int) (s : SpaceSz l b g t) : Ev (fun k => impl_Space_copied.f k l b g t) (l, b, g, t) := by
  have hb := s.hb; have hg := s.hg; have ht := s.ht
  simp only [impl_Space_copied.f]
  exact Ev.bind (copyBs_ev l s.hl s.hz) (Ev_bind0 (clone8_ev b (by omega)) (Ev_bind0 (clone64_ev g (by omega)) (Ev_bind0 (clone64_ev t (by omega)) (Ev.now _))))
theorem ownS_ev (l : List (List Int)) (b g t : List Int) (s : SpaceSz l b g t) : Ev (fun k => spec_l5Own.f k l b g t) (l, b, g, t) := by
  have hb := s.hb; have hg := s.hg; have ht := s.ht
  have key : ∀ (m i : Nat), i + m = l.length → Ev (fun k => spec_l5Own.l0 k (l.take i) l (l.length : Int) (i : Int) l b g t) (l, b, g, t) := by
    intro m
    induction m with
    | zero =>
      intro i hi; refine Ev_succ ?_
      simp only [spec_l5Own.l0, Option.bind_some, List.nil_append]
      exact Ev_f (by omega) (Ev_t (by simp only [List.length_nil]; omega) (Ev_t (by simp only [List.length_nil]; omega) (Ev_t (by simp only [List.length_nil]; omega) (Ev_eq (Ev.now _) (by rw [List.take_of_length_le (by omega)])))))
    | succ m ih =>
      intro i hi
      have hm := s.hz _ (getD_mem (xs := l) (i := i) [] (by omega))
      refine Ev_succ ?_
      simp only [spec_l5Own.l0, rd_L_nat, Option.bind_some, List.nil_append]
      rw [w64_succ (show i < l.length by omega) (by have := s.hl; omega)]
      have e := ih (i + 1) (by omega)
      rw [take_getD_succ l i [] (by omega)] at e
      exact Ev_t (by omega) (Ev_t (by omega) (Ev_t (by omega) (Ev_t (by simp only [List.length_nil]; omega) (Ev_t (by have := s.hl; simp only [List.length_take]; omega) e))))
  have h := key l.length 0 (by omega)
  simp only [spec_l5Own.f]
  exact h
theorem markSpace4 (l : List (List Int)) (b g t : List Int) (z : SpaceSz l b g t) : ∃ (n : Int) (r0 : List (List Int)) (r1 r2 r3 : List Int), (0 ≤ n ∧ n ≤ 4000000000000) ∧ Ev (fun k => laws_markSpace.f k l b g t 1) (n, r0, r1, r2, r3) ∧ Ev (fun k => laws_heldSpace.f k r0 r1 r2 r3 1) n := by
  have hl := z.hl; have hb := z.hb; have hg := z.hg; have ht := z.ht
  have e := markSS_mk l [] 1 (by simpa using hl) z.hz (by omega) (by omega)
  have h := heldSS_mk l [] 1 (by simpa using hl) z.hz (by omega) (by omega)
  have hn := (mkS_le l 1).1
  have hi := mkS_hi l 1 z.hz
  generalize hm : (mkS l 1).2 = n1 at e h hn hi
  have e2 := markB b hb n1 (by omega) (by omega)
  have h2 := heldB b.length hb n1 (by omega) (by omega)
  have e3 := markI g hg (n1 + (b.length : Int)) (by omega) (by omega)
  have h3 := heldI g.length hg (n1 + (b.length : Int)) (by omega) (by omega)
  have e4 := markI t ht (n1 + (b.length : Int) + (g.length : Int)) (by omega) (by omega)
  have h4 := heldI t.length ht (n1 + (b.length : Int) + (g.length : Int)) (by omega) (by omega)
  refine ⟨n1 + (b.length : Int) + (g.length : Int) + (t.length : Int), (mkS l 1).1, (List.range b.length).map (fun i : Nat => (n1 + (i : Int)) % 256), (List.range g.length).map (fun i : Nat => n1 + (b.length : Int) + (i : Int)), (List.range t.length).map (fun i : Nat => n1 + (b.length : Int) + (g.length : Int) + (i : Int)), ⟨by omega, by omega⟩, ?_, ?_⟩
  · simp only [laws_markSpace.f, laws_markByteSS.f]
    exact Ev.bind e (Ev.bind e2 (Ev.bind e3 (Ev.bind e4 (Ev.now _))))
  · simp only [laws_heldSpace.f, laws_heldByteSS.f]
    exact Ev.bind h (Ev_f (by omega) (Ev.bind h2 (Ev_f (by omega) (Ev.bind h3 (Ev_f (by omega) (Ev.bind h4 (Ev_f (by omega) (Ev.now _))))))))

theorem mid_getD (g : List Int) (x : Int) (k : Nat) (hk : k ≤ g.length) (i : Nat) : (g.take k ++ [x] ++ g.drop k).getD i 0 = if i < k then g.getD i 0 else if i = k then x else g.getD (i - 1) 0 := by
  have ht : (g.take k).length = k := by simp; omega
  simp only [List.getD_eq_getElem?_getD, List.append_assoc]
  by_cases h : i < k
  · rw [if_pos h, List.getElem?_append_left (by omega), List.getElem?_take, if_pos h]
  · rw [if_neg h, List.getElem?_append_right (by omega), ht]
    by_cases h2 : i = k
    · rw [if_pos h2]; subst h2; simp
    · rw [if_neg h2]
      obtain ⟨m, rfl⟩ : ∃ m, i = k + 1 + m := ⟨i - (k + 1), by omega⟩
      have e : k + 1 + m - k = m + 1 := by omega
      have e2 : k + 1 + m - 1 = k + m := by omega
      rw [e, e2]; simp
theorem putAt_rising (g : List Int) (x : Int) (k : Nat) (h : cutL g x k) (hs : Rising g) : Rising (putAt g x k) := by
  unfold putAt
  by_cases hc : k < g.length ∧ g.getD k 0 = x
  · rw [if_pos hc]; exact hs
  · rw [if_neg hc]
    obtain ⟨hk, h1, h2⟩ := h
    intro i j hij hj
    have hl : (g.take k ++ [x] ++ g.drop k).length = g.length + 1 := by simp; omega
    rw [hl] at hj
    rw [mid_getD g x k hk, mid_getD g x k hk]
    by_cases a : j < k
    · rw [if_pos (by omega), if_pos a]; exact hs i j hij (by omega)
    · rw [if_neg a]
      by_cases b : j = k
      · rw [if_pos b, if_pos (by omega)]; exact h1 i (by omega)
      · rw [if_neg b]
        by_cases c : i < k
        · rw [if_pos c]; exact hs i (j - 1) (by omega) (by omega)
        · rw [if_neg c]
          by_cases d : i = k
          · rw [if_pos d]
            have q := h2 (by omega)
            have q2 : ¬ g.getD k 0 = x := fun e => hc ⟨by omega, e⟩
            by_cases e : j - 1 = k
            · rw [e]; omega
            · have := hs k (j - 1) (by omega) (by omega); omega
          · rw [if_neg d]; exact hs (i - 1) (j - 1) (by omega) (by omega)
theorem samePut2 (g : List Int) (x : Int) (hg : g.length ≤ 1048577) (hs : Rising g) : ∃ r : List Int, r.length ≤ g.length + 1 ∧ Rising r ∧ Ev (fun n => spec_l5Put.f n g x) r ∧ Ev (fun n => impl_insert.f n g x) r := by
  obtain ⟨k, c, p⟩ := specPut_ev g x hg
  obtain ⟨k', c', q⟩ := insert_ev g x hg hs
  have e := cutL_one c c'; subst e
  exact ⟨_, putAt_len g x k c.1, putAt_rising g x k c hs, p, q⟩
theorem samePuts (l : List (List Int)) (b t ys : List Int) (hy : ys.length ≤ 1000) : ∀ (suf pre g : List Int), ys = pre ++ suf → Rising g → g.length + suf.length ≤ 1048577 →
    ∃ r : List Int, r.length ≤ g.length + suf.length ∧ Ev (fun n => spec_DropRecord.l0 n ys (ys.length : Int) (pre.length : Int) l b g t) (l, b, r, t, true) ∧ Ev (fun n => impl_Space_giveAll.l0 n ys (ys.length : Int) (pre.length : Int) l b g t) (l, b, r, t) := by
  intro suf
  induction suf with
  | nil =>
    intro pre g hp hs hg
    have hl : ys.length = pre.length := by rw [hp]; simp
    refine ⟨g, by simp, Ev_succ ?_, Ev_succ ?_⟩
    · simp only [spec_DropRecord.l0]; exact Ev_f (by omega) (Ev.now _)
    · simp only [impl_Space_giveAll.l0]; exact Ev_f (by omega) (Ev.now _)
  | cons x suf ih =>
    intro pre g hp hs hg
    simp only [List.length_cons] at hg
    have hl : ys.length = pre.length + suf.length + 1 := by rw [hp]; simp; omega
    have hx : ys.getD pre.length 0 = x := by rw [hp]; simp
    obtain ⟨r, hr, rs, p, q⟩ := samePut2 g x (by omega) hs
    obtain ⟨r', hr', e1, e2⟩ := ih (pre ++ [x]) r (by rw [hp]; simp) rs (by omega)
    simp only [List.length_append, List.length_singleton] at e1 e2
    refine ⟨r', by simp only [List.length_cons]; omega, Ev_succ ?_, Ev_succ ?_⟩
    · simp only [spec_DropRecord.l0, rd_nat, hx]
      rw [w64_succ (show pre.length < ys.length by omega) (by omega)]
      exact Ev_t (by omega) (Ev_t (by omega) (Ev_t (by omega) (Ev.bind p e1)))
    · simp only [impl_Space_giveAll.l0, rd_nat, hx, impl_Space_give.f]
      rw [w64_succ (show pre.length < ys.length by omega) (by omega)]
      exact Ev_t (by omega) (Ev_t (by omega) (Ev_t (by omega) (Ev.bind (Ev.bind q (Ev.now _)) e2)))
theorem sz_nil : SpaceSz [] [] [] [] := ⟨by simp, by simp, by simp, by simp, by simp⟩
theorem same_drop (l : List (List Int)) (b g t : List Int) (s : SpaceSz l b g t) (hby : ∀ r ∈ l, ∀ y ∈ r, 0 ≤ y ∧ y ≤ 255) (a : Int) :
    ∃ (L : List (List Int)) (B G T : List Int) (c : Bool), SpaceSz L B G T ∧ Ev (fun k => spec_DropRecord.f k l b g t a) (L, B, G, T, c) ∧ Ev (fun k => impl_DropRecord.f k l b g t a) (L, B, G, T, c) := by
  simp only [spec_DropRecord.f, impl_DropRecord.f]
  cases hgd : goodB l b g t with
  | false =>
    have e1 := specGoodSpace_ev l b g t s.hl s.hg s.ht
    have e2 := implGoodSpace_ev l b g t s.hl s.hg s.ht
    rw [hgd] at e1 e2
    have r1 : Ev (fun k => spec_RecordAt.f k l b g t a) failR := by simp only [spec_RecordAt.f]; exact Ev.bind e1 (Ev_f (by decide) (Ev.now _))
    have r2 : Ev (fun k => impl_RecordAt.f k l b g t a) failR := by simp only [impl_RecordAt.f]; exact Ev.bind e2 (Ev_f (by decide) (Ev.now _))
    exact ⟨[], [], [], [], false, sz_nil, Ev.bind r1 (Ev_f (by decide) (Ev.now _)), Ev.bind r2 (Ev_f (by decide) (Ev.now _))⟩
  | true =>
    have f := goodB_facts hgd
    have hgl := listB_len f.gone f.hi
    obtain ⟨⟨x, y, o⟩, p, q, q1, q2⟩ := same_RecordAt l b g t s hby a
    simp only at q1 q2
    cases o with
    | false => exact ⟨[], [], [], [], false, sz_nil, Ev.bind p (Ev_f (fun h => by cases h) (Ev.now _)), Ev.bind q (Ev_f (fun h => by cases h) (Ev.now _))⟩
    | true =>
      obtain ⟨r, hr, e1, e2⟩ := samePuts l b t y (by omega) y [] g rfl (rising_of _ b g f.gone) (by omega)
      refine ⟨l, b, r, t, true, ⟨s.hl, s.hz, s.hb, by omega, s.ht⟩, Ev.bind p (Ev_t rfl (Ev.bind (ownS_ev l b g t s) e1)), Ev.bind q (Ev_t rfl (Ev.bind (copiedS_ev l b g t s) ?_))⟩
      simp only [impl_Space_giveAll.f]
      exact Ev.bind e2 (Ev.now _)
end OfFnExactDropRecord
open OfFnExactDropRecord
theorem FnExactDropRecord : Stated := by
  intro l b g t a wl wb wg wt wa
  refine Ev.rounds ?_
  simp only [laws_FnExactDropRecord.f]
  obtain ⟨r, h1, _, h3⟩ := szSpace_ev l b g t ⟨wl.1, fun p hp => (wl.2 p hp).1⟩ wb.1 wg.1 wt.1 1048576 (by omega) (by omega)
  refine Ev.bind h1 (Ev_ite (fun _ => Ev.now _) (fun c => ?_))
  have s := h3 (by omega)
  have f1 := toSpace_ev l b g t s
  obtain ⟨L, B, G, T, cc, z, p, q⟩ := same_drop l b g t s (fun r hr y hy => wf8 ((wl.2 r hr).2 y hy)) a
  have ee := eqSpace_ev L B G T z
  obtain ⟨m, _, _, _, _, ⟨m0, _⟩, em, _⟩ := markSpace4 l b g t s
  obtain ⟨n, r0, r1, r2, r3, ⟨n0, _⟩, em2, eh⟩ := markSpace4 L B G T z
  refine Ev.bind f1 (Ev.bind p (Ev.bind f1 (Ev.bind q (Ev.bind ee (Ev_t rfl (Ev_succ ?_))))))
  simp only [laws_FnExactDropRecord.j0]
  refine Ev_f (by simp) (Ev.bind f1 (Ev.bind (eqSpace_ev l b g t s) (Ev_t rfl (Ev.bind em (Ev_f (by simp only; omega) (Ev.bind ee (Ev_t rfl (Ev_succ ?_))))))))
  simp only [laws_FnExactDropRecord.j1]
  refine Ev_f (by simp) (Ev.bind em2 (Ev.bind eh (Ev_f (by omega) (Ev_t rfl (Ev.bind f1 (Ev.bind q (Ev.bind ee (Ev_t rfl (Ev_succ ?_)))))))))
  simp only [laws_FnExactDropRecord.j2]
  exact Ev_f (by simp) (Ev.bind eh (Ev_f (by omega) (Ev_t rfl (Ev.now _))))
end Go.Proofs.Ytggnbbbhlnjleaa.Pure
