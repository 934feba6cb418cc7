/-
The pure statement of FnExactCloseSpace: the printed functions of the program and of the reference answer alike for every argument within the bounds that the statement tells.
-/
import Derived.Test.YtlphbpaojcdjaaaWfFnExactCloseSpace
namespace Go.Proofs.Ytlphbpaojcdjaaa.Pure
open Go Go.RowKit Go.Proofs.Ytlphbpaojcdjaaa.PFnExactCloseSpace Go.Proofs.YtlphbpaojcdjaaaW.PrintWords Go.Proofs.YtlphbpaojcdjaaaW.PrintLast Go.Proofs.YtlphbpaojcdjaaaW.PrintMore Go.Proofs.Ytlphbpaojcdjaaa.Lib
set_option linter.unusedVariables false
set_option linter.unusedSimpArgs false
namespace OfFnExactCloseSpace
theorem within_eq (a b c : Int) : impl_within.f a b c = some (decide (b ≤ a ∧ a ≤ c)) := by
  simp only [impl_within.f]
  by_cases h : b ≤ a <;> simp [h]

theorem l1In_eq (a b c : Int) : spec_l1In.f a b c = some (decide (b ≤ a ∧ a ≤ c)) := by
  simp only [spec_l1In.f]
  by_cases h : b ≤ a <;> simp [h]

theorem toByteS_ev (l : List Int) (hl : l.length ≤ 1048576) : Ev (fun k => laws_toByteS.f k l) l := by
  have h := fill_ev (g := fun k x i => laws_toByteS.l0 k l x i) l 0 (fun x => x)
    (fun x i hx hi hr => Ev_succ (by
      simp only [laws_toByteS.l0]
      refine Ev_t (by omega) (Ev_t (by omega) (Ev_t (by omega) ?_))
      rw [w64_succ hi (by omega)]
      simpa [rd_nat] using hr))
    (fun x hx => Ev_succ (by simp only [laws_toByteS.l0]; exact Ev_f (by omega) (Ev.now _)))
    (List.replicate l.length 0) (by simp)
  rw [map_same] at h
  refine Ev.congr (fun k => ?_) h
  simp only [laws_toByteS.f]
  rw [if_pos (by omega), if_pos (by simp; omega)]
  simp

theorem eqByteS_ev (l : List Int) (hl : l.length ≤ 4611686018427387904) : Ev (fun k => laws_eqByteS.f k l l) true := by
  have h := all_ev (g := fun k i => laws_eqByteS.l0 k l l i) (r := true) l.length
    (fun i hi hr => Ev_succ (by
      simp only [laws_eqByteS.l0]
      refine Ev_t (by omega) (Ev_t (by omega) (Ev_t (by omega) (Ev_t trivial ?_)))
      rw [w64_succ hi (by omega)]; exact hr))
    (Ev_succ (by simp only [laws_eqByteS.l0]; exact Ev_f (by omega) (Ev.now _)))
  refine Ev.congr (fun k => ?_) h
  simp only [laws_eqByteS.f]; rw [if_pos trivial]

theorem toIntS_ev (l : List Int) (hl : l.length ≤ 1048576) : Ev (fun k => laws_toIntS.f k l) l := by
  have h := fill_ev (g := fun k x i => laws_toIntS.l0 k l x i) l 0 (fun x => x)
    (fun x i hx hi hr => Ev_succ (by
      simp only [laws_toIntS.l0]
      refine Ev_t (by omega) (Ev_t (by omega) (Ev_t (by omega) ?_))
      rw [w64_succ hi (by omega)]
      simpa [rd_nat] using hr))
    (fun x hx => Ev_succ (by simp only [laws_toIntS.l0]; exact Ev_f (by omega) (Ev.now _)))
    (List.replicate l.length 0) (by simp)
  rw [map_same] at h
  refine Ev.congr (fun k => ?_) h
  simp only [laws_toIntS.f]
  rw [if_pos (by omega), if_pos (by simp; omega)]
  simp

theorem eqIntS_ev (l : List Int) (hl : l.length ≤ 4611686018427387904) : Ev (fun k => laws_eqIntS.f k l l) true := by
  have h := all_ev (g := fun k i => laws_eqIntS.l0 k l l i) (r := true) l.length
    (fun i hi hr => Ev_succ (by
      simp only [laws_eqIntS.l0]
      refine Ev_t (by omega) (Ev_t (by omega) (Ev_t (by omega) (Ev_t trivial ?_)))
      rw [w64_succ hi (by omega)]; exact hr))
    (Ev_succ (by simp only [laws_eqIntS.l0]; exact Ev_f (by omega) (Ev.now _)))
  refine Ev.congr (fun k => ?_) h
  simp only [laws_eqIntS.f]; rw [if_pos trivial]

theorem rd_L_nat (xs : List (List Int)) (i : Nat) : rd_L1 xs (i : Int) = xs.getD i [] := by simp [rd_L1]
theorem szByteS_val (l : List Int) (hl : l.length ≤ maxLen) (n : Int) (h0 : 0 ≤ n) (h1 : n ≤ 1048576) : ∃ r, laws_szByteS.f l n = some r ∧ r ≤ n ∧ (0 ≤ r → l.length ≤ 1048576) := by
  have hl0 : (l.length : Int) ≤ 9223372036854775807 := by simp only [maxLen] at hl; omega
  simp only [laws_szByteS.f]
  rw [w64 (n := n - (l.length : Int)) (by omega) (by omega)]
  by_cases c : n - (l.length : Int) < 0
  · exact ⟨-1, if_pos c, by omega, fun h => by omega⟩
  · exact ⟨n - (l.length : Int), if_neg c, by omega, fun h => by omega⟩
theorem szByteSS_loop (l : List (List Int)) (hw : ∀ p ∈ l, p.length ≤ maxLen) (hl : l.length ≤ 1048576) : ∀ (m i : Nat) (x : Int), i + m = l.length → 0 ≤ x → x ≤ 1048576 →
    ∃ r, Ev (fun k => laws_szByteSS.l0 k l x (i : Int)) r ∧ r ≤ x ∧ (0 ≤ r → ∀ j, i ≤ j → j < l.length → (l.getD j []).length ≤ 1048576) := by
  intro m
  induction m with
  | zero =>
    intro i x hi h0 h1
    refine ⟨x, Ev_succ ?_, by omega, fun _ j h2 h3 => by omega⟩
    simp only [laws_szByteSS.l0]; exact Ev_f (by omega) (Ev.now _)
  | succ m ih =>
    intro i x hi h0 h1
    have hp := hw _ (getD_mem (xs := l) (i := i) [] (by omega))
    obtain ⟨r0, e, e1, e2⟩ := szByteS_val _ hp x h0 h1
    by_cases c : r0 < 0
    · refine ⟨-1, Ev_succ ?_, by omega, fun h => by omega⟩
      simp only [laws_szByteSS.l0, rd_L_nat]
      exact Ev_t (by omega) (Ev_t (by omega) (Ev_bind0 e (Ev_t c (Ev.now _))))
    · obtain ⟨r, h2, h3, h4⟩ := ih (i + 1) r0 (by omega) (by omega) (by omega)
      refine ⟨r, Ev_succ ?_, by omega, fun h j h5 h6 => ?_⟩
      · simp only [laws_szByteSS.l0, rd_L_nat]
        rw [w64_succ (show i < l.length by omega) (by omega)]
        exact Ev_t (by omega) (Ev_t (by omega) (Ev_bind0 e (Ev_f c h2)))
      · by_cases h7 : j = i
        · subst h7; exact e2 (by omega)
        · exact h4 h j (by omega) h6
theorem szByteSS_ev (l : List (List Int)) (hw : l.length ≤ maxLen ∧ ∀ p ∈ l, p.length ≤ maxLen) (n : Int) (hn : 0 ≤ n) (hn' : n ≤ 1048576) : ∃ r, Ev (fun k => laws_szByteSS.f k l n) r ∧ r ≤ n ∧ (0 ≤ r → l.length ≤ 1048576 ∧ ∀ p ∈ l, p.length ≤ 1048576) := by
  have hl0 : (l.length : Int) ≤ 9223372036854775807 := by have := hw.1; simp only [maxLen] at this; omega
  have e : wrap64 (n - (l.length : Int)) = n - (l.length : Int) := w64 (by omega) (by omega)
  simp only [laws_szByteSS.f, e]
  by_cases c : n - (l.length : Int) < 0
  · exact ⟨-1, Ev_t c (Ev.now _), by omega, fun h => by omega⟩
  · obtain ⟨r, h1, h2, h3⟩ := szByteSS_loop l hw.2 (by omega) l.length 0 (n - (l.length : Int)) (by omega) (by omega) (by omega)
    refine ⟨r, Ev_f c h1, by omega, fun h => ⟨by omega, fun p hp => ?_⟩⟩
    obtain ⟨j, hj, rfl⟩ := List.mem_iff_getElem.1 hp
    have := h3 h j (by omega) hj
    simpa [List.getD, hj] using this
theorem toByteSS_ev (l : List (List Int)) (hl : l.length ≤ 1048576) (hz : ∀ p ∈ l, p.length ≤ 1048576) : Ev (fun k => laws_toByteSS.f k l) l := by
  have h := fill_ev (g := fun k x i => laws_toByteSS.l0 k l x i) l [] (fun x => x)
    (fun x i hx hi hr => Ev_succ (by
      simp only [laws_toByteSS.l0, rd_L_nat]
      refine Ev_t (by omega) (Ev_t (by omega) (Ev.bind (toByteS_ev _ (hz _ (getD_mem [] hi))) (Ev_t (by omega) ?_)))
      rw [w64_succ hi (by omega)]
      simpa using hr))
    (fun x hx => Ev_succ (by simp only [laws_toByteSS.l0]; exact Ev_f (by omega) (Ev.now _)))
    (List.replicate l.length []) (by simp)
  rw [map_same] at h
  refine Ev.congr (fun k => ?_) h
  simp only [laws_toByteSS.f]
  rw [if_pos (by omega), if_pos (by simp; omega)]
  simp
theorem eqByteSS_ev (l : List (List Int)) (hl : l.length ≤ 1048576) (hz : ∀ p ∈ l, p.length ≤ 1048576) : Ev (fun k => laws_eqByteSS.f k l l) true := by
  have h := all_ev (g := fun k i => laws_eqByteSS.l0 k l l i) (r := true) l.length
    (fun i hi hr => Ev_succ (by
      simp only [laws_eqByteSS.l0, rd_L_nat]
      refine Ev_t (by omega) (Ev_t (by omega) (Ev_t (by omega) (Ev.bind (eqByteS_ev _ (by have := hz _ (getD_mem [] hi); omega)) (Ev_t rfl ?_))))
      rw [w64_succ hi (by omega)]; exact hr))
    (Ev_succ (by simp only [laws_eqByteSS.l0]; exact Ev_f (by omega) (Ev.now _)))
  refine Ev.congr (fun k => ?_) h
  simp only [laws_eqByteSS.f]; rw [if_pos trivial]

def blocksB (l : List (List Int)) : Bool := decide (40 ≤ l.length ∧ l.length ≤ 160) && l.all (fun b => decide (b.length = 128))
theorem indexFunc_loop (l : List (List Int)) (hl : l.length ≤ 1048576) : ∀ (m i : Nat), i + m = l.length → ∃ r : Int, Ev (fun k => slices_IndexFunc_byte_byte.l0 k l (l.length : Int) (i : Int)) r ∧ (0 ≤ r ↔ ¬ ((l.drop i).all (fun b => decide (b.length = 128)) = true)) := by
  intro m
  induction m with
  | zero =>
    intro i hi
    refine ⟨-1, Ev_succ ?_, ?_⟩
    · simp only [slices_IndexFunc_byte_byte.l0]; exact Ev_f (by omega) (Ev.now _)
    · rw [List.drop_of_length_le (by omega)]; simp
  | succ m ih =>
    intro i hi
    have hd := drop_cons l i [] (by omega)
    obtain ⟨r, h1, h2⟩ := ih (i + 1) (by omega)
    by_cases c : (l.getD i []).length = 128
    · refine ⟨r, Ev_succ ?_, ?_⟩
      · simp only [slices_IndexFunc_byte_byte.l0, rd_L_nat, impl_areBlocks_1.f, Option.bind_some]
        rw [w64_succ (show i < l.length by omega) (by omega)]
        exact Ev_t (by omega) (Ev_t (by omega) (Ev_t (by omega) (Ev_f (by rw [c]; decide) h1)))
      · rw [hd, h2, List.all_cons, c]; simp
    · refine ⟨(i : Int), Ev_succ ?_, ?_⟩
      · simp only [slices_IndexFunc_byte_byte.l0, rd_L_nat, impl_areBlocks_1.f, Option.bind_some]
        exact Ev_t (by omega) (Ev_t (by omega) (Ev_t (by omega) (Ev_t (by simp only [bne_iff_ne]; omega) (Ev.now _))))
      · rw [hd, List.all_cons]; simp only [c, decide_false, Bool.false_and, Bool.false_eq_true, not_false_eq_true, iff_true]; omega
theorem areBlocks_ev (l : List (List Int)) (hl : l.length ≤ 1048576) : Ev (fun k => impl_areBlocks.f k l) (blocksB l) := by
  simp only [impl_areBlocks.f, within_eq, Option.bind_some, decide_eq_true_eq]
  by_cases c : (40 : Int) ≤ (l.length : Int) ∧ (l.length : Int) ≤ 160
  · obtain ⟨r, h1, h2⟩ := indexFunc_loop l hl l.length 0 (by omega)
    refine Ev_t c (Ev.bind (a := decide (r ≥ 0)) ?_ (Ev_eq (Ev.now _) ?_))
    · simp only [slices_ContainsFunc_byte_byte.f, slices_IndexFunc_byte_byte.f]
      exact Ev.bind h1 (Ev.now _)
    · rw [List.drop_zero] at h2
      have c' : 40 ≤ l.length ∧ l.length ≤ 160 := by omega
      simp only [blocksB, c', and_self, decide_true, Bool.true_and]
      cases hh : l.all (fun b => decide (b.length = 128)) with
      | true => simp only [hh, not_true, iff_false] at h2; simp; omega
      | false => simp only [hh] at h2; have : 0 ≤ r := h2.2 (by simp); simp [this]
  · refine Ev_f c (Ev_eq (Ev.now _) ?_)
    have c' : ¬ (40 ≤ l.length ∧ l.length ≤ 160) := by omega
    simp only [blocksB, c', decide_false, Bool.false_and]

theorem tdiv8 (k : Nat) (h : k < 4611686018427387904) : wrap64 (Int.tdiv (k : Int) 8) = ((k / 8 : Nat) : Int) := by
  rw [Int.tdiv_eq_ediv_of_nonneg (by omega), w64 (by omega) (by omega)]; omega
theorem tmod8 (k : Nat) : Int.tmod (k : Int) 8 = ((k % 8 : Nat) : Int) := by
  rw [Int.tmod_eq_emod_of_nonneg (by omega)]; omega
def usedB (b : List Int) (k : Nat) : Bool := (Go.bits .and .u8 (shr .u8 (b.getD (k / 8) 0) ((k % 8 : Nat) : Int)) 1) == 1
theorem implUsed_eq (l : List (List Int)) (b g t : List Int) (k : Nat) (hk : k < 160) (hb : b.length = 20) : impl_Space_used.f l b g t (k : Int) = some (usedB b k) := by
  simp only [impl_Space_used.f, tdiv8 k (by omega), tmod8, rd_nat]
  rw [if_pos (by omega), if_pos (by omega), if_pos (by omega)]; rfl
theorem specUsed_eq (b : List Int) (k : Nat) (hk : k < 160) (hb : b.length = 20) : spec_l5Used.f b (k : Int) = some (usedB b k) := by
  simp only [spec_l5Used.f, tdiv8 k (by omega), tmod8, rd_nat]
  rw [wu64 (by omega) (by omega), if_pos (by omega), if_pos (by omega), if_pos (by omega)]; rfl
def inB (n : Nat) (b : List Int) (x : Int) : Bool := decide (33 ≤ x ∧ x ≤ (n : Int) - 1) && usedB b x.toNat
def listP (n : Nat) (b : List Int) (l : List Int) (j : Nat) : Bool := inB n b (l.getD j 0) && (decide (j = 0) || decide (l.getD (j - 1) 0 < l.getD j 0))
def listB (n : Nat) (b : List Int) (l : List Int) : Bool := (List.range l.length).all (listP n b l)
def bitP (n : Nat) (b : List Int) (k : Nat) : Bool := if k < 33 then (if usedB b k = true then !decide (n ≤ k) else false) else (if n ≤ k then !usedB b k else true)
def goodB (l : List (List Int)) (b g t : List Int) : Bool := blocksB l && (decide (b.length = 20) && ((List.range 160).all (bitP l.length b) && (listB l.length b g && listB l.length b t)))
theorem scan_ev {g : Nat → Int → Option Bool} (n : Nat) (p : Nat → Bool) (R : Bool)
    (ht : ∀ i, i < n → p i = true → ∀ r, Ev (fun k => g k ((i + 1 : Nat) : Int)) r → Ev (fun k => g k (i : Int)) r)
    (hf : ∀ i, i < n → p i = false → Ev (fun k => g k (i : Int)) false)
    (he : Ev (fun k => g k (n : Int)) R) : Ev (fun k => g k 0) ((List.range n).all p && R) := by
  have key : ∀ m i, i + m = n → Ev (fun k => g k (i : Int)) ((List.range' i m).all p && R) := by
    intro m
    induction m with
    | zero =>
      intro i hi
      obtain rfl : i = n := by omega
      simpa using he
    | succ m ih =>
      intro i hi
      rw [List.range'_succ, List.all_cons]
      cases hp : p i with
      | true => rw [Bool.true_and]; exact ht i (by omega) hp _ (ih (i + 1) (by omega))
      | false => rw [Bool.false_and, Bool.false_and]; exact hf i (by omega) hp
  have := key n 0 (by omega)
  rwa [← List.range_eq_range'] at this

theorem rd_M_nat (xs : List (List Int)) (i : Nat) : rd_L1 xs (i : Int) = xs.getD i [] := by simp [rd_L1]
theorem implIsBlock_eq (l : List (List Int)) (b g t : List Int) (hl : l.length ≤ 160) (hl0 : 0 < l.length) (hb : b.length = 20) (x : Int) : impl_Space_isBlock.f l b g t x = some (inB l.length b x) := by
  simp only [impl_Space_isBlock.f, within_eq, Option.bind_some, decide_eq_true_eq]
  rw [w64 (n := (l.length : Int) - 1) (by omega) (by omega)]
  by_cases c : 33 ≤ x ∧ x ≤ (l.length : Int) - 1
  · rw [if_pos c]
    have hx : x = (x.toNat : Int) := by omega
    have := implUsed_eq l b g t x.toNat (by omega) hb
    rw [← hx] at this
    rw [this, Option.bind_some]
    simp only [inB, c, and_self, decide_true, Bool.true_and]
  · rw [if_neg c]; simp only [inB, c, decide_false, Bool.false_and]
theorem implAreUsed_ev (l : List (List Int)) (b g t : List Int) (hl : l.length ≤ 160) (hl0 : 0 < l.length) (hb : b.length = 20) (x : List Int) (hx : x.length ≤ 1048576) : Ev (fun k => impl_Space_areUsed.f k l b g t x) (listB l.length b x) := by
  have h := scan_ev (g := fun k i => impl_Space_areUsed.l0 k x x (x.length : Int) i l b g t) x.length (listP l.length b x) true
    (fun i hi hp r hr => Ev_succ (by
      simp only [impl_Space_areUsed.l0, rd_nat, implIsBlock_eq l b g t hl hl0 hb, Option.bind_some]
      simp only [listP, Bool.and_eq_true, Bool.or_eq_true, decide_eq_true_eq] at hp
      rw [w64_succ hi (by omega)]
      refine Ev_t (by omega) (Ev_t (by omega) (Ev_t (by omega) (Ev_t hp.1 (Ev_ite (fun h0 => ?_) (fun h0 => hr)))))
      have e : wrap64 ((i : Int) - 1) = ((i - 1 : Nat) : Int) := by rw [w64 (by omega) (by omega)]; omega
      simp only [e, rd_nat]
      exact Ev_t (by omega) (Ev_t (by omega) (Ev_f (by omega) hr))))
    (fun i hi hp => Ev_succ (by
      simp only [impl_Space_areUsed.l0, rd_nat, implIsBlock_eq l b g t hl hl0 hb, Option.bind_some]
      refine Ev_t (by omega) (Ev_t (by omega) (Ev_t (by omega) ?_))
      cases h1 : inB l.length b (x.getD i 0) with
      | false => exact Ev_f (by decide) (Ev.now _)
      | true =>
        simp only [listP, h1, Bool.true_and, Bool.or_eq_false_iff, decide_eq_false_iff_not] at hp
        have e : wrap64 ((i : Int) - 1) = ((i - 1 : Nat) : Int) := by rw [w64 (by omega) (by omega)]; omega
        simp only [e, rd_nat]
        exact Ev_t trivial (Ev_t (by omega) (Ev_t (by omega) (Ev_t (by omega) (Ev_t (by omega) (Ev.now _)))))))
    (Ev_succ (by simp only [impl_Space_areUsed.l0]; exact Ev_f (by omega) (Ev.now _)))
  rw [Bool.and_true] at h
  simp only [impl_Space_areUsed.f]
  exact h
theorem implGoodSpace_ev (l : List (List Int)) (b g t : List Int) (hl : l.length ≤ 1048576) (hg : g.length ≤ 1048576) (ht : t.length ≤ 1048576) : Ev (fun k => impl_GoodSpace.f k l b g t) (goodB l b g t) := by
  simp only [impl_GoodSpace.f]
  refine Ev.bind (areBlocks_ev l hl) ?_
  cases hb : blocksB l with
  | false =>
    refine Ev_f (by decide) (Ev_succ ?_)
    simp only [impl_GoodSpace.j0, goodB, hb, Bool.false_and]
    exact Ev_t trivial (Ev.now _)
  | true =>
    have hn : 40 ≤ l.length ∧ l.length ≤ 160 := by simp only [blocksB, Bool.and_eq_true, decide_eq_true_eq] at hb; exact hb.1
    refine Ev_t rfl (Ev_succ ?_)
    simp only [impl_GoodSpace.j0]
    refine Ev_ite (fun c => Ev_eq (Ev.now _) ?_) (fun c => ?_)
    · have c' : ¬ b.length = 20 := by simp only [bne_iff_ne] at c; omega
      simp only [goodB, hb, c', decide_false, Bool.false_and, Bool.and_false]
    · have c' : b.length = 20 := by simp only [bne_iff_ne, ne_eq, Decidable.not_not] at c; omega
      have h := scan_ev (g := fun k i => impl_GoodSpace.l0 k i l b g t) 160 (bitP l.length b) (listB l.length b g && listB l.length b t)
        (fun i hi hp r hr => Ev_succ (by
          simp only [impl_GoodSpace.l0, implUsed_eq l b g t i hi c', Option.bind_some]
          rw [w64_succ hi (by omega)]
          simp only [bitP] at hp
          refine Ev_t (by omega) (Ev_ite (fun h33 => ?_) (fun h33 => ?_))
          · rw [if_pos (by omega)] at hp
            cases hu : usedB b i with
            | false => rw [hu] at hp; simp at hp
            | true =>
              rw [hu, if_pos rfl] at hp
              exact Ev_t rfl (Ev_f (by simp at hp; omega) hr)
          · rw [if_neg (by omega)] at hp
            refine Ev_ite (fun hx => ?_) (fun hx => hr)
            rw [if_pos (by omega)] at hp
            exact Ev_f (by simpa using hp) hr))
        (fun i hi hp => Ev_succ (by
          simp only [impl_GoodSpace.l0, implUsed_eq l b g t i hi c', Option.bind_some]
          simp only [bitP] at hp
          refine Ev_t (by omega) (Ev_ite (fun h33 => ?_) (fun h33 => ?_))
          · rw [if_pos (by omega)] at hp
            cases hu : usedB b i with
            | false => exact Ev_f (by decide) (Ev.now _)
            | true =>
              rw [hu, if_pos rfl] at hp
              exact Ev_t rfl (Ev_t (by simp at hp; omega) (Ev.now _))
          · rw [if_neg (by omega)] at hp
            by_cases hx : l.length ≤ i
            · rw [if_pos hx] at hp
              exact Ev_t (by omega) (Ev_t (by simpa using hp) (Ev.now _))
            · rw [if_neg hx] at hp; exact absurd hp (by decide)))
        (Ev_succ (by
          simp only [impl_GoodSpace.l0]
          refine Ev_f (by omega) (Ev.bind (implAreUsed_ev l b g t hn.2 (by omega) c' g hg) ?_)
          cases hx : listB l.length b g with
          | false => exact Ev_f (by decide) (Ev.now _)
          | true => exact Ev_t rfl (Ev.bind (implAreUsed_ev l b g t hn.2 (by omega) c' t ht) (Ev.now _))))
      refine Ev_eq h ?_
      simp only [goodB, hb, c', decide_true, Bool.true_and]
theorem specList_ev (l : List (List Int)) (b g t : List Int) (hn : 40 ≤ l.length ∧ l.length ≤ 160) (hb : b.length = 20) (y : List (List Int)) (j : Nat) (R : Bool) (x : List Int) (hx : x.length ≤ 1048576)
    (hR : Ev (fun k => spec_GoodSpace.l2 k (l.length : Int) y (y.length : Int) ((j + 1 : Nat) : Int) l b g t) R) (hj : j < 2) :
    Ev (fun k => spec_GoodSpace.l3 k (l.length : Int) x y (y.length : Int) (j : Int) x (x.length : Int) 0 l b g t) (listB l.length b x && R) := by
  have hin : ∀ z : Int, ¬ (33 ≤ z ∧ z ≤ (l.length : Int) - 1) → inB l.length b z = false := fun z c => by simp only [inB, c, decide_false, Bool.false_and]
  have hin' : ∀ z : Int, (33 ≤ z ∧ z ≤ (l.length : Int) - 1) → spec_l5Used.f b z = some (inB l.length b z) := fun z c => by
    have hz : z = (z.toNat : Int) := by omega
    have := specUsed_eq b z.toNat (by omega) hb
    rw [← hz] at this
    rw [this]; simp only [inB, c, and_self, decide_true, Bool.true_and]
  refine scan_ev (g := fun k i => spec_GoodSpace.l3 k (l.length : Int) x y (y.length : Int) (j : Int) x (x.length : Int) i l b g t) x.length (listP l.length b x) R
    (fun i hi hp r hr => Ev_succ (by
      simp only [spec_GoodSpace.l3, rd_nat, l1In_eq, Option.bind_some, decide_eq_true_eq]
      rw [w64 (n := (l.length : Int) - 1) (by omega) (by omega)]
      simp only [listP, Bool.and_eq_true, Bool.or_eq_true, decide_eq_true_eq] at hp
      rw [w64_succ hi (by omega)]
      have c : 33 ≤ x.getD i 0 ∧ x.getD i 0 ≤ (l.length : Int) - 1 := by
        by_cases c : 33 ≤ x.getD i 0 ∧ x.getD i 0 ≤ (l.length : Int) - 1
        · exact c
        · rw [hin _ c] at hp; exact absurd hp.1 (by decide)
      refine Ev_t (by omega) (Ev_t (by omega) (Ev_t (by omega) (Ev_t c (Ev_bind0 (hin' _ c) (Ev_t hp.1 (Ev_ite (fun h0 => ?_) (fun h0 => hr)))))))
      have e : wrap64 ((i : Int) - 1) = ((i - 1 : Nat) : Int) := by rw [w64 (by omega) (by omega)]; omega
      simp only [e, rd_nat]
      exact Ev_t (by omega) (Ev_t (by omega) (Ev_f (by omega) hr))))
    (fun i hi hp => Ev_succ (by
      simp only [spec_GoodSpace.l3, rd_nat, l1In_eq, Option.bind_some, decide_eq_true_eq]
      rw [w64 (n := (l.length : Int) - 1) (by omega) (by omega)]
      refine Ev_t (by omega) (Ev_t (by omega) (Ev_t (by omega) (Ev_ite (fun c => ?_) (fun c => Ev.now _))))
      refine Ev_bind0 (hin' _ c) ?_
      cases h1 : inB l.length b (x.getD i 0) with
      | false => exact Ev_f (by decide) (Ev.now _)
      | true =>
        simp only [listP, h1, Bool.true_and, Bool.or_eq_false_iff, decide_eq_false_iff_not] at hp
        have e : wrap64 ((i : Int) - 1) = ((i - 1 : Nat) : Int) := by rw [w64 (by omega) (by omega)]; omega
        simp only [e, rd_nat]
        exact Ev_t trivial (Ev_t (by omega) (Ev_t (by omega) (Ev_t (by omega) (Ev_t (by omega) (Ev.now _)))))))
    (Ev_succ (by
      simp only [spec_GoodSpace.l3]
      rw [w64_succ hj (by omega)]
      exact Ev_f (by omega) hR))
theorem specGoodSpace_ev (l : List (List Int)) (b g t : List Int) (hl : l.length ≤ 1048576) (hg : g.length ≤ 1048576) (ht : t.length ≤ 1048576) : Ev (fun k => spec_GoodSpace.f k l b g t) (goodB l b g t) := by
  simp only [spec_GoodSpace.f, l1In_eq, Option.bind_some, decide_eq_true_eq]
  by_cases c1 : (40 : Int) ≤ (l.length : Int) ∧ (l.length : Int) ≤ 160
  · have hn : 40 ≤ l.length ∧ l.length ≤ 160 := by omega
    refine Ev_t c1 (Ev_succ ?_)
    simp only [spec_GoodSpace.j0]
    refine Ev_ite (fun c => Ev_eq (Ev.now _) ?_) (fun c => ?_)
    · have c' : ¬ b.length = 20 := by simp only [bne_iff_ne] at c; omega
      simp only [goodB, c', decide_false, Bool.false_and, Bool.and_false]
    · have c' : b.length = 20 := by simp only [bne_iff_ne, ne_eq, Decidable.not_not] at c; omega
      have hL : Ev (fun k => spec_GoodSpace.l2 k (l.length : Int) [g, t] (([g, t] : List (List Int)).length : Int) 0 l b g t) (listB l.length b g && (listB l.length b t && true)) := by
        have e2 : Ev (fun k => spec_GoodSpace.l2 k (l.length : Int) [g, t] (([g, t] : List (List Int)).length : Int) ((2 : Nat) : Int) l b g t) true := Ev_succ (by
          simp only [spec_GoodSpace.l2]; exact Ev_f (by simp) (Ev.now _))
        have e1 : Ev (fun k => spec_GoodSpace.l2 k (l.length : Int) [g, t] (([g, t] : List (List Int)).length : Int) ((1 : Nat) : Int) l b g t) (listB l.length b t && true) := Ev_succ (by
          simp only [spec_GoodSpace.l2, rd_M_nat]
          exact Ev_t (by simp) (Ev_t (by omega) (Ev_t (by simp) (specList_ev l b g t hn c' [g, t] 1 true t ht e2 (by omega)))))
        exact Ev_succ (by
          have z : (0 : Int) = ((0 : Nat) : Int) := rfl
          rw [z]
          simp only [spec_GoodSpace.l2, rd_M_nat]
          exact Ev_t (by simp) (Ev_t (by omega) (Ev_t (by simp) (specList_ev l b g t hn c' [g, t] 0 _ g hg e1 (by omega)))))
      have hB : Ev (fun k => spec_GoodSpace.l1 k (l.length : Int) 0 l b g t) ((List.range 160).all (bitP l.length b) && (listB l.length b g && (listB l.length b t && true))) :=
        scan_ev (g := fun k i => spec_GoodSpace.l1 k (l.length : Int) i l b g t) 160 (bitP l.length b) _
          (fun i hi hp r hr => Ev_succ (by
            simp only [spec_GoodSpace.l1, specUsed_eq b i hi c', Option.bind_some]
            rw [w64_succ hi (by omega)]
            simp only [bitP] at hp
            refine Ev_t (by omega) (Ev_ite (fun h33 => ?_) (fun h33 => ?_))
            · rw [if_pos (by omega)] at hp
              cases hu : usedB b i with
              | false => rw [hu] at hp; simp at hp
              | true =>
                rw [hu, if_pos rfl] at hp
                exact Ev_t rfl (Ev_f (by simp at hp; omega) hr)
            · rw [if_neg (by omega)] at hp
              refine Ev_ite (fun hx => ?_) (fun hx => hr)
              rw [if_pos (by omega)] at hp
              exact Ev_f (by simpa using hp) hr))
          (fun i hi hp => Ev_succ (by
            simp only [spec_GoodSpace.l1, specUsed_eq b i hi c', Option.bind_some]
            simp only [bitP] at hp
            refine Ev_t (by omega) (Ev_ite (fun h33 => ?_) (fun h33 => ?_))
            · rw [if_pos (by omega)] at hp
              cases hu : usedB b i with
              | false => exact Ev_f (by decide) (Ev.now _)
              | true =>
                rw [hu, if_pos rfl] at hp
                exact Ev_t rfl (Ev_t (by simp at hp; omega) (Ev.now _))
            · rw [if_neg (by omega)] at hp
              by_cases hx : l.length ≤ i
              · rw [if_pos hx] at hp
                exact Ev_t (by omega) (Ev_t (by simpa using hp) (Ev.now _))
              · rw [if_neg hx] at hp; exact absurd hp (by decide)))
          (Ev_succ (by
            simp only [spec_GoodSpace.l1]
            exact Ev_f (by omega) (Ev_bind0 rfl hL)))
      have hA := scan_ev (g := fun k i => spec_GoodSpace.l0 k (l.length : Int) l (l.length : Int) i l b g t) l.length (fun i => decide ((l.getD i []).length = 128)) _
          (fun i hi hp r hr => Ev_succ (by
            simp only [spec_GoodSpace.l0, rd_L_nat]
            rw [w64_succ hi (by omega)]
            simp only [decide_eq_true_eq] at hp
            exact Ev_t (by omega) (Ev_t (by omega) (Ev_t (by omega) (Ev_t (by omega) hr)))))
          (fun i hi hp => Ev_succ (by
            simp only [spec_GoodSpace.l0, rd_L_nat]
            simp only [decide_eq_false_iff_not] at hp
            exact Ev_t (by omega) (Ev_t (by omega) (Ev_t (by omega) (Ev_f (by omega) (Ev.now _))))))
          (Ev_succ (by
            simp only [spec_GoodSpace.l0]
            exact Ev_f (by omega) hB))
      refine Ev_eq hA ?_
      have e : (List.range l.length).all (fun i => decide ((l.getD i []).length = 128)) = l.all (fun b => decide (b.length = 128)) := by
        rw [Bool.eq_iff_iff]
        simp only [List.all_eq_true, List.mem_range, decide_eq_true_eq]
        constructor
        · intro h x hx
          obtain ⟨j, hj, rfl⟩ := List.mem_iff_getElem.1 hx
          have := h j hj
          simpa [List.getD, hj] using this
        · intro h j hj
          exact h _ (getD_mem [] hj)
      rw [e]
      simp only [goodB, blocksB, hn, c', and_self, decide_true, Bool.true_and, Bool.and_true]
  · refine Ev_f c1 (Ev_succ ?_)
    have c' : ¬ (40 ≤ l.length ∧ l.length ≤ 160) := by omega
    simp only [spec_GoodSpace.j0, goodB, blocksB, c', decide_false, Bool.false_and]
    exact Ev_t trivial (Ev.now _)
structure GoodS (l : List (List Int)) (b g t : List Int) : Prop where
  lo : 40 ≤ l.length
  hi : l.length ≤ 160
  bits : b.length = 20
  rows : ∀ p ∈ l, p.length = 128
  gone : listB l.length b g = true
  touched : listB l.length b t = true
theorem goodB_facts {l : List (List Int)} {b g t : List Int} (h : goodB l b g t = true) : GoodS l b g t := by
  simp only [goodB, blocksB, Bool.and_eq_true, decide_eq_true_eq, List.all_eq_true] at h
  obtain ⟨⟨⟨h1, h2⟩, h3⟩, h4, h5, h6, h7⟩ := h
  exact ⟨h1, h2, h4, h3, h6, h7⟩

theorem szIntS_val (l : List Int) (hl : l.length ≤ maxLen) (n : Int) (h0 : 0 ≤ n) (h1 : n ≤ 1048576) : ∃ r, laws_szIntS.f l n = some r ∧ r ≤ n ∧ (0 ≤ r → l.length ≤ 1048576) := by
  have hl0 : (l.length : Int) ≤ 9223372036854775807 := by simp only [maxLen] at hl; omega
  simp only [laws_szIntS.f]
  rw [w64 (n := n - (l.length : Int)) (by omega) (by omega)]
  by_cases c : n - (l.length : Int) < 0
  · exact ⟨-1, if_pos c, by omega, fun h => by omega⟩
  · exact ⟨n - (l.length : Int), if_neg c, by omega, fun h => by omega⟩
structure SpaceSz (l : List (List Int)) (b g t : List Int) : Prop where
  hl : l.length ≤ 1048576
  hz : ∀ p ∈ l, p.length ≤ 1048576
  hb : b.length ≤ 1048576
  hg : g.length ≤ 1048576
  ht : t.length ≤ 1048576
theorem szSpace_ev (l : List (List Int)) (b g t : List Int) (hw : l.length ≤ maxLen ∧ ∀ p ∈ l, p.length ≤ maxLen) (hb : b.length ≤ maxLen) (hg : g.length ≤ maxLen) (ht : t.length ≤ maxLen) (n : Int) (hn : 0 ≤ n) (hn' : n ≤ 1048576) :
    ∃ r, Ev (fun k => laws_szSpace.f k l b g t n) r ∧ r ≤ n ∧ (0 ≤ r → SpaceSz l b g t) := by
  obtain ⟨r1, h1, h2, h3⟩ := szByteSS_ev l hw n hn hn'
  simp only [laws_szSpace.f]
  by_cases c : r1 < 0
  · exact ⟨-1, Ev.bind h1 (Ev_t c (Ev.now _)), by omega, fun h => by omega⟩
  obtain ⟨r2, k1, k2, k3⟩ := szByteS_val b hb r1 (by omega) (by omega)
  by_cases c2 : r2 < 0
  · exact ⟨-1, Ev.bind h1 (Ev_f c (Ev_bind0 k1 (Ev_t c2 (Ev.now _)))), by omega, fun h => by omega⟩
  obtain ⟨r3, m1, m2, m3⟩ := szIntS_val g hg r2 (by omega) (by omega)
  by_cases c3 : r3 < 0
  · exact ⟨-1, Ev.bind h1 (Ev_f c (Ev_bind0 k1 (Ev_f c2 (Ev_bind0 m1 (Ev_t c3 (Ev.now _)))))), by omega, fun h => by omega⟩
  obtain ⟨r4, q1, q2, q3⟩ := szIntS_val t ht r3 (by omega) (by omega)
  by_cases c4 : r4 < 0
  · exact ⟨-1, Ev.bind h1 (Ev_f c (Ev_bind0 k1 (Ev_f c2 (Ev_bind0 m1 (Ev_f c3 (Ev_bind0 q1 (Ev_t c4 (Ev.now _)))))))), by omega, fun h => by omega⟩
  · exact ⟨r4, Ev.bind h1 (Ev_f c (Ev_bind0 k1 (Ev_f c2 (Ev_bind0 m1 (Ev_f c3 (Ev_bind0 q1 (Ev_f c4 (Ev.now _)))))))), by omega, fun h => ⟨(h3 (by omega)).1, (h3 (by omega)).2, k3 (by omega), m3 (by omega), q3 (by omega)⟩⟩
theorem toSpace_ev (l : List (List Int)) (b g t : List Int) (s : SpaceSz l b g t) : Ev (fun k => laws_toSpace.f k l b g t) (l, b, g, t) := by
  simp only [laws_toSpace.f]
  exact Ev.bind (toByteSS_ev l s.hl s.hz) (Ev.bind (toByteS_ev b s.hb) (Ev.bind (toIntS_ev g s.hg) (Ev.bind (toIntS_ev t s.ht) (Ev.now _))))
theorem eqSpace_ev (l : List (List Int)) (b g t : List Int) (s : SpaceSz l b g t) : Ev (fun k => laws_eqSpace.f k l b g t l b g t) true := by
  simp only [laws_eqSpace.f]
  exact Ev.bind (eqByteSS_ev l s.hl s.hz) (Ev_t rfl (Ev.bind (eqByteS_ev b (by have := s.hb; omega)) (Ev_t rfl (Ev.bind (eqIntS_ev g (by have := s.hg; omega)) (Ev_t rfl (Ev.bind (eqIntS_ev t (by have := s.ht; omega)) (Ev_t rfl (Ev.now _))))))))

theorem scanT_ev {g : Nat → Int → Option Bool} (n : Nat) (p : Nat → Bool)
    (ht : ∀ i, i < n → p i = true → ∀ r, Ev (fun k => g k ((i + 1 : Nat) : Int)) r → Ev (fun k => g k (i : Int)) r)
    (hf : ∀ i, i < n → p i = false → Ev (fun k => g k (i : Int)) true)
    (he : Ev (fun k => g k (n : Int)) false) : Ev (fun k => g k 0) (!((List.range n).all p)) := by
  have key : ∀ m i, i + m = n → Ev (fun k => g k (i : Int)) (!((List.range' i m).all p)) := by
    intro m
    induction m with
    | zero =>
      intro i hi
      obtain rfl : i = n := by omega
      simpa using he
    | succ m ih =>
      intro i hi
      rw [List.range'_succ, List.all_cons]
      cases hp : p i with
      | true => rw [Bool.true_and]; exact ht i (by omega) hp _ (ih (i + 1) (by omega))
      | false => rw [Bool.false_and]; exact hf i (by omega) hp
  have := key n 0 (by omega)
  rwa [← List.range_eq_range'] at this
theorem find_ev {g : Nat → Int → Option Int} (n : Nat) (p : Nat → Bool)
    (ht : ∀ i, i < n → p i = true → ∀ r, Ev (fun k => g k ((i + 1 : Nat) : Int)) r → Ev (fun k => g k (i : Int)) r)
    (hf : ∀ i, i < n → p i = false → Ev (fun k => g k (i : Int)) (i : Int))
    (he : Ev (fun k => g k (n : Int)) (-1)) : ∃ r, Ev (fun k => g k 0) r ∧ decide (r ≥ 0) = (!((List.range n).all p)) := by
  have key : ∀ m i, i + m = n → ∃ r, Ev (fun k => g k (i : Int)) r ∧ decide (r ≥ 0) = (!((List.range' i m).all p)) := by
    intro m
    induction m with
    | zero =>
      intro i hi
      obtain rfl : i = n := by omega
      exact ⟨-1, he, by simp⟩
    | succ m ih =>
      intro i hi
      rw [List.range'_succ, List.all_cons]
      cases hp : p i with
      | true =>
        obtain ⟨r, h1, h2⟩ := ih (i + 1) (by omega)
        rw [Bool.true_and]
        exact ⟨r, ht i (by omega) hp _ h1, h2⟩
      | false => rw [Bool.false_and]; exact ⟨i, hf i (by omega) hp, by simp⟩
  have := key n 0 (by omega)
  rwa [← List.range_eq_range'] at this

def noneIs (l : List Int) (x : Int) : Bool := (List.range l.length).all (fun i => decide (¬ l.getD i 0 = x))
theorem specHas_ev (l : List Int) (hl : l.length ≤ 1048576) (x : Int) : Ev (fun k => spec_l5Has.f k l x) (!noneIs l x) := by
  simp only [spec_l5Has.f]
  refine scanT_ev (g := fun k i => spec_l5Has.l0 k x l (l.length : Int) i) l.length _
    (fun i hi hp r hr => Ev_succ (by
      simp only [spec_l5Has.l0, rd_nat]
      rw [w64_succ hi (by omega)]
      simp only [decide_eq_true_eq] at hp
      exact Ev_t (by omega) (Ev_t (by omega) (Ev_t (by omega) (Ev_f hp hr)))))
    (fun i hi hp => Ev_succ (by
      simp only [spec_l5Has.l0, rd_nat]
      simp only [decide_eq_false_iff_not, Decidable.not_not] at hp
      exact Ev_t (by omega) (Ev_t (by omega) (Ev_t (by omega) (Ev_t hp (Ev.now _))))))
    (Ev_succ (by simp only [spec_l5Has.l0]; exact Ev_f (by omega) (Ev.now _)))
theorem implHas_ev (l : List Int) (hl : l.length ≤ 1048576) (x : Int) : Ev (fun k => slices_Contains_int_int.f k l x) (!noneIs l x) := by
  obtain ⟨r, h1, h2⟩ := find_ev (g := fun k i => slices_Index_int_int.l0 k l x (l.length : Int) i) l.length (fun i => decide (¬ l.getD i 0 = x))
    (fun i hi hp r hr => Ev_succ (by
      simp only [slices_Index_int_int.l0, rd_nat]
      rw [w64_succ hi (by omega)]
      simp only [decide_eq_true_eq] at hp
      exact Ev_t (by omega) (Ev_t (by omega) (Ev_t (by omega) (Ev_f (fun e => hp e.symm) hr)))))
    (fun i hi hp => Ev_succ (by
      simp only [slices_Index_int_int.l0, rd_nat]
      simp only [decide_eq_false_iff_not, Decidable.not_not] at hp
      exact Ev_t (by omega) (Ev_t (by omega) (Ev_t (by omega) (Ev_t hp.symm (Ev.now _))))))
    (Ev_succ (by simp only [slices_Index_int_int.l0]; exact Ev_f (by omega) (Ev.now _)))
  simp only [slices_Contains_int_int.f, slices_Index_int_int.f]
  exact Ev.bind h1 (Ev_eq (Ev.now _) h2)

theorem rd_T91_nat (xs : List S91) (i : Nat) : rd_T91 xs (i : Int) = xs.getD i z91 := by simp [rd_T91]
theorem eqWriteS_ev (l : List S91) (hl : l.length ≤ 1048576) (hz : ∀ p ∈ l, p.f1.length ≤ 1048576) : Ev (fun k => laws_eqWriteS.f k l l) true := by
  have h := all_ev (g := fun k i => laws_eqWriteS.l0 k l l i) (r := true) l.length
    (fun i hi hr => Ev_succ (by
      simp only [laws_eqWriteS.l0, laws_eqWrite.f, rd_T91_nat, if_true]
      refine Ev_t (by omega) (Ev_t (by omega) (Ev_t (by omega) (Ev.bind (a := true) (Ev.bind (eqByteS_ev _ (by have := hz _ (getD_mem z91 hi); omega)) (Ev_t rfl (Ev.now _))) (Ev_t rfl ?_))))
      rw [w64_succ hi (by omega)]; exact hr))
    (Ev_succ (by simp only [laws_eqWriteS.l0]; exact Ev_f (by omega) (Ev.now _)))
  refine Ev.congr (fun k => ?_) h
  simp only [laws_eqWriteS.f]; rw [if_pos trivial]

theorem markB (l : List Int) (hl : l.length ≤ 1048576) (n0 : Int) (h0 : 0 ≤ n0) (h1 : n0 ≤ 4000000000000000000) : Ev (fun k => laws_markByteS.f k l n0) (n0 + (l.length : Int), (List.range l.length).map fun i : Nat => (n0 + (i : Int)) % 256) := by
  have h := fills_ev (g := fun k x i => laws_markByteS.l0 k x (n0 + i) i) l.length (fun i : Nat => (n0 + (i : Int)) % 256) (fun x => (n0 + (l.length : Int), x))
      (fun x i hx hi r hr => Ev_succ (by
        have e0 : wrap64 (n0 + (i : Int) + 1) = n0 + ((i + 1 : Nat) : Int) := by rw [w64 (by omega) (by omega)]; omega
        simp only [laws_markByteS.l0, Int.toNat_natCast, e0]
        rw [w64_succ hi (by omega)]
        exact Ev_t (by omega) (Ev_t (by omega) hr)))
      (fun x hx => Ev_succ (by simp only [laws_markByteS.l0]; exact Ev_f (by omega) (Ev.now _)))
      l rfl
  refine Ev.congr (fun k => ?_) h
  simp only [laws_markByteS.f, Int.add_zero]

theorem heldB (n : Nat) (hl : n ≤ 1048576) (n0 : Int) (h0 : 0 ≤ n0) (h1 : n0 ≤ 4000000000000000000) : Ev (fun k => laws_heldByteS.f k ((List.range n).map fun i : Nat => (n0 + (i : Int)) % 256) n0) (n0 + (n : Int)) := by
  have h := all_ev (g := fun k i => laws_heldByteS.l0 k ((List.range n).map fun i : Nat => (n0 + (i : Int)) % 256) (n0 + i) i) (r := n0 + (n : Int)) n
      (fun i hi hr => Ev_succ (by
        simp only [laws_heldByteS.l0, List.length_map, List.length_range]
        have e1 : wrap64 (n0 + (i : Int) + 1) = n0 + ((i + 1 : Nat) : Int) := by rw [w64 (by omega) (by omega)]; omega
        have e2 : rd ((List.range n).map fun i : Nat => (n0 + (i : Int)) % 256) (i : Int) = (n0 + (i : Int)) % 256 := by
          rw [rd_nat]; simp [List.getD, hi]
        rw [e1, e2, w64_succ hi (by omega)]
        exact Ev_t (by omega) (Ev_t (by omega) (Ev_t rfl hr))))
      (Ev_succ (by simp only [laws_heldByteS.l0, List.length_map, List.length_range]; exact Ev_f (by omega) (Ev.now _)))
  refine Ev.congr (fun k => ?_) h
  simp only [laws_heldByteS.f, Int.add_zero]

theorem markI (l : List Int) (hl : l.length ≤ 1048576) (n0 : Int) (h0 : 0 ≤ n0) (h1 : n0 ≤ 4000000000000000000) : Ev (fun k => laws_markIntS.f k l n0) (n0 + (l.length : Int), (List.range l.length).map fun i : Nat => n0 + (i : Int)) := by
  have h := fills_ev (g := fun k x i => laws_markIntS.l0 k x (n0 + i) i) l.length (fun i : Nat => n0 + (i : Int)) (fun x => (n0 + (l.length : Int), x))
      (fun x i hx hi r hr => Ev_succ (by
        have e0 : wrap64 (n0 + (i : Int) + 1) = n0 + ((i + 1 : Nat) : Int) := by rw [w64 (by omega) (by omega)]; omega
        simp only [laws_markIntS.l0, Int.toNat_natCast, e0]
        rw [w64_succ hi (by omega)]
        exact Ev_t (by omega) (Ev_t (by omega) hr)))
      (fun x hx => Ev_succ (by simp only [laws_markIntS.l0]; exact Ev_f (by omega) (Ev.now _)))
      l rfl
  refine Ev.congr (fun k => ?_) h
  simp only [laws_markIntS.f, Int.add_zero]

def mkS : List (List Int) → Int → List (List Int) × Int
  | [], n => ([], n)
  | p :: l, n => (((List.range p.length).map fun i : Nat => (n + (i : Int)) % 256) :: (mkS l (n + (p.length : Int))).1, (mkS l (n + (p.length : Int))).2)
theorem mkS_le : ∀ (l : List (List Int)) (n : Int), n ≤ (mkS l n).2 ∧ (mkS l n).1.length = l.length
  | [], n => by simp [mkS]
  | p :: l, n => by
    have := mkS_le l (n + (p.length : Int))
    simp only [mkS, List.length_cons]
    omega
theorem getD_mid (pre : List (List Int)) (p : List Int) (l : List (List Int)) : (pre ++ p :: l).getD pre.length [] = p := by simp
theorem set_mid (pre : List (List Int)) (p q : List Int) (l : List (List Int)) : (pre ++ p :: l).set pre.length q = (pre ++ [q]) ++ l := by simp
theorem markSS_mk : ∀ (suf pre : List (List Int)) (n0 : Int), (pre ++ suf).length ≤ 1048576 → (∀ p ∈ suf, p.length ≤ 1048576) → 0 ≤ n0 → n0 + (suf.length : Int) * 1048576 ≤ 4000000000000000000 →
    Ev (fun k => laws_markByteSS.l0 k (pre ++ suf) n0 (pre.length : Int)) ((mkS suf n0).2, pre ++ (mkS suf n0).1) := by
  intro suf
  induction suf with
  | nil =>
    intro pre n0 hl _ h0 h1
    refine Ev_succ ?_
    simp only [laws_markByteSS.l0]
    exact Ev_f (by simp) (Ev.now _)
  | cons p l ih =>
    intro pre n0 hl hp h0 h1
    have hq := hp p (by simp)
    simp only [List.length_append, List.length_cons] at hl h1
    have e := ih (pre ++ [(List.range p.length).map fun i : Nat => (n0 + (i : Int)) % 256]) (n0 + (p.length : Int)) (by simp; omega) (fun q hm => hp q (by simp [hm])) (by omega) (by omega)
    refine Ev_succ ?_
    simp only [laws_markByteSS.l0, Int.toNat_natCast, getD_mid]
    rw [w64_succ (show pre.length < pre.length + 1 by omega) (by omega)]
    refine Ev_t (by simp; omega) (Ev_t (by omega) (Ev.bind (markB p hq n0 h0 (by omega)) ?_))
    simp only [set_mid]
    simp only [List.length_append, List.length_singleton] at e
    exact Ev_eq e (by simp [mkS])

theorem mkS_hi : ∀ (l : List (List Int)) (n : Int), (∀ p ∈ l, p.length ≤ 1048576) → (mkS l n).2 ≤ n + (l.length : Int) * 1048576
  | [], n, _ => by simp [mkS]
  | p :: l, n, h => by
    have h1 := mkS_hi l (n + (p.length : Int)) (fun q hq => h q (by simp [hq]))
    have h2 := h p (by simp)
    simp only [mkS, List.length_cons]
    omega

def mkW : List S91 → Int → List S91 × Int
  | [], n => ([], n)
  | p :: l, n => (⟨n, (List.range p.f1.length).map fun i : Nat => (n + 1 + (i : Int)) % 256⟩ :: (mkW l (n + 1 + (p.f1.length : Int))).1, (mkW l (n + 1 + (p.f1.length : Int))).2)
theorem mkW_le : ∀ (l : List S91) (n : Int), n ≤ (mkW l n).2 ∧ (mkW l n).1.length = l.length
  | [], n => by simp [mkW]
  | p :: l, n => by
    have := mkW_le l (n + 1 + (p.f1.length : Int))
    simp only [mkW, List.length_cons]
    omega
theorem mkW_hi : ∀ (l : List S91) (n : Int), (∀ p ∈ l, p.f1.length ≤ 1048576) → (mkW l n).2 ≤ n + (l.length : Int) * 1048577
  | [], n, _ => by simp [mkW]
  | p :: l, n, h => by
    have h1 := mkW_hi l (n + 1 + (p.f1.length : Int)) (fun q hq => h q (by simp [hq]))
    have h2 := h p (by simp)
    simp only [mkW, List.length_cons]
    omega
theorem getD_midW (pre : List S91) (p : S91) (l : List S91) : (pre ++ p :: l).getD pre.length z91 = p := by simp
theorem set_midW (pre : List S91) (p q : S91) (l : List S91) : (pre ++ p :: l).set pre.length q = (pre ++ [q]) ++ l := by simp
theorem markW_mk : ∀ (suf pre : List S91) (n0 : Int), (pre ++ suf).length ≤ 1048576 → (∀ p ∈ suf, p.f1.length ≤ 1048576) → 0 ≤ n0 → n0 + (suf.length : Int) * 1048577 ≤ 4000000000000000000 →
    Ev (fun k => laws_markWriteS.l0 k (pre ++ suf) n0 (pre.length : Int)) ((mkW suf n0).2, pre ++ (mkW suf n0).1) := by
  intro suf
  induction suf with
  | nil =>
    intro pre n0 hl _ h0 h1
    refine Ev_succ ?_
    simp only [laws_markWriteS.l0]
    exact Ev_f (by simp) (Ev.now _)
  | cons p l ih =>
    intro pre n0 hl hp h0 h1
    have hq := hp p (by simp)
    simp only [List.length_append, List.length_cons] at hl h1
    have e := ih (pre ++ [⟨n0, (List.range p.f1.length).map fun i : Nat => (n0 + 1 + (i : Int)) % 256⟩]) (n0 + 1 + (p.f1.length : Int)) (by simp; omega) (fun q hm => hp q (by simp [hm])) (by omega) (by omega)
    refine Ev_succ ?_
    simp only [laws_markWriteS.l0, Int.toNat_natCast, getD_midW]
    rw [w64_succ (show pre.length < pre.length + 1 by omega) (by omega), w64 (n := n0 + 1) (by omega) (by omega)]
    refine Ev_t (by simp; omega) (Ev_t (by omega) (Ev.bind (markB p.f1 hq (n0 + 1) (by omega) (by omega)) ?_))
    simp only [set_midW]
    simp only [List.length_append, List.length_singleton] at e
    exact Ev_eq e (by simp [mkW])
theorem heldW_mk : ∀ (suf pre : List S91) (n0 : Int), (pre ++ suf).length ≤ 1048576 → (∀ p ∈ suf, p.f1.length ≤ 1048576) → 0 ≤ n0 → n0 + (suf.length : Int) * 1048577 ≤ 4000000000000000000 →
    Ev (fun k => laws_heldWriteS.l0 k (pre ++ (mkW suf n0).1) n0 (pre.length : Int)) (mkW suf n0).2 := by
  intro suf
  induction suf with
  | nil =>
    intro pre n0 hl _ h0 h1
    refine Ev_succ ?_
    simp only [laws_heldWriteS.l0]
    exact Ev_f (by simp [mkW]) (Ev.now _)
  | cons p l ih =>
    intro pre n0 hl hp h0 h1
    have hq := hp p (by simp)
    simp only [List.length_append, List.length_cons] at hl h1
    have e := ih (pre ++ [⟨n0, (List.range p.f1.length).map fun i : Nat => (n0 + 1 + (i : Int)) % 256⟩]) (n0 + 1 + (p.f1.length : Int)) (by simp; omega) (fun q hm => hp q (by simp [hm])) (by omega) (by omega)
    refine Ev_succ ?_
    simp only [laws_heldWriteS.l0, rd_T91_nat, mkW, getD_midW]
    rw [w64_succ (show pre.length < pre.length + 1 by omega) (by omega), w64 (n := n0 + 1) (by omega) (by omega)]
    refine Ev_t (by simp; omega) (Ev_t (by omega) (Ev_t trivial (Ev.bind (heldB p.f1.length hq (n0 + 1) (by omega) (by omega)) (Ev_f (by omega) ?_))))
    simp only [List.length_append, List.length_singleton, List.append_assoc, List.singleton_append] at e
    exact e
theorem markW4 (l : List S91) (hl : l.length ≤ 1048576) (hz : ∀ p ∈ l, p.f1.length ≤ 1048576) (n0 : Int) (h0 : 0 ≤ n0) (h1 : n0 ≤ 4000000000000) : ∃ (n : Int) (r : List S91), (0 ≤ n ∧ n ≤ n0 + (l.length : Int) * 1048577) ∧ Ev (fun k => laws_markWriteS.f k l n0) (n, r) ∧ Ev (fun k => laws_heldWriteS.f k r n0) n := by
  have hn := (mkW_le l n0).1
  have hi := mkW_hi l n0 hz
  refine ⟨(mkW l n0).2, (mkW l n0).1, ⟨by omega, hi⟩, ?_, ?_⟩
  · simp only [laws_markWriteS.f]
    exact markW_mk l [] n0 (by simpa using hl) hz h0 (by omega)
  · simp only [laws_heldWriteS.f]
    exact heldW_mk l [] n0 (by simpa using hl) hz h0 (by omega)

theorem list_at {n : Nat} {b g : List Int} (h : listB n b g = true) {x : Int} (hx : x ∈ g) : 33 ≤ x ∧ x ≤ (n : Int) - 1 := by
  obtain ⟨i, hi, rfl⟩ := List.mem_iff_getElem.1 hx
  simp only [listB, List.all_eq_true, List.mem_range] at h
  have h2 := h i hi
  simp only [listP, inB, Bool.and_eq_true, decide_eq_true_eq] at h2
  have e : g.getD i 0 = g[i] := by simp [List.getD_eq_getElem?_getD, List.getElem?_eq_getElem hi]
  rw [e] at h2
  exact h2.1.1
theorem list_rise {n : Nat} {b g : List Int} (h : listB n b g = true) : ∀ i : Nat, i < g.length → 33 + (i : Int) ≤ g.getD i 0 := by
  simp only [listB, List.all_eq_true, List.mem_range] at h
  intro i
  induction i with
  | zero =>
    intro hi
    have h2 := h 0 hi
    simp only [listP, inB, Bool.and_eq_true, decide_eq_true_eq] at h2
    have := h2.1.1.1
    omega
  | succ i ih =>
    intro hi
    have h2 := h (i + 1) hi
    have h3 := ih (by omega)
    simp only [listP, Bool.and_eq_true, Bool.or_eq_true, decide_eq_true_eq, Nat.add_sub_cancel] at h2
    have := h2.2
    omega
theorem list_short {n : Nat} {b g : List Int} (h : listB n b g = true) (hn : n ≤ 160) : g.length ≤ 127 := by
  by_cases c : g.length ≤ 127
  · exact c
  · have h1 := list_rise h 127 (by omega)
    have h2 := list_at h (x := g.getD 127 0) (getD_mem 0 (by omega))
    omega
def clr (b : List Int) (x : Nat) : List Int := b.set (x / 8) (Go.bits .andNot .u8 (b.getD (x / 8) 0) (shl .u8 1 ((x % 8 : Nat) : Int)))
def clrAll : List Int → List Int → List Int
  | b, [] => b
  | b, x :: l => clrAll (clr b x.toNat) l
theorem clr_len (b : List Int) (x : Nat) : (clr b x).length = b.length := by simp [clr]
theorem clrAll_len : ∀ (l b : List Int), (clrAll b l).length = b.length
  | [], _ => rfl
  | x :: l, b => by rw [clrAll, clrAll_len l, clr_len]
theorem clr_app (b z : List Int) (x : Nat) (h : x / 8 < b.length) : clr (b ++ z) x = clr b x ++ z := by
  simp only [clr]
  rw [List.set_append_left _ _ h]
  congr 2
  simp [List.getD_eq_getElem?_getD, List.getElem?_append_left h]
theorem clrAll_app (z : List Int) : ∀ (l b : List Int), b.length = 20 → (∀ x ∈ l, 0 ≤ x ∧ x ≤ 159) → clrAll (b ++ z) l = clrAll b l ++ z
  | [], _, _, _ => rfl
  | x :: l, b, hb, h => by
    have hx := h x (by simp)
    rw [clrAll, clrAll, clr_app b z x.toNat (by omega), clrAll_app z l (clr b x.toNat) (by rw [clr_len, hb]) (fun y hy => h y (by simp [hy]))]
theorem specClr_eq (c : List Int) (x : Nat) (hx : x ≤ 159) (hc : c.length = 128) : spec_l5Set.f c (x : Int) false = some (clr c x) := by
  simp only [spec_l5Set.f, tdiv8 x (by omega), tmod8, rd_nat, Int.toNat_natCast]
  rw [wu64 (by omega) (by omega), if_neg (by decide), if_pos (by omega), if_pos (by omega), if_pos (by omega)]; rfl
def addL (l : List (List Int)) (g : List Int) : List Int → List S91
  | [] => []
  | x :: t => if noneIs g x = true then ⟨x, l.getD x.toNat []⟩ :: addL l g t else addL l g t
theorem addL_len (l : List (List Int)) (g : List Int) : ∀ t : List Int, (addL l g t).length ≤ t.length
  | [] => by simp [addL]
  | x :: t => by
    have := addL_len l g t
    simp only [addL]; split <;> simp only [List.length_cons] <;> omega
theorem addL_rows (l : List (List Int)) (g : List Int) (h : ∀ p ∈ l, p.length = 128) : ∀ t : List Int, (∀ x ∈ t, 0 ≤ x ∧ x ≤ (l.length : Int) - 1) → ∀ p ∈ addL l g t, p.f1.length = 128
  | [], _, p, hp => by simp [addL] at hp
  | x :: t, ht, p, hp => by
    have hx := ht x (by simp)
    have hi := addL_rows l g h t (fun y hy => ht y (by simp [hy])) p
    simp only [addL] at hp
    split at hp
    · rcases List.mem_cons.1 hp with rfl | hp
      · exact h _ (getD_mem [] (by omega))
      · exact hi hp
    · exact hi hp
theorem specL1_ev (l : List (List Int)) (b g t : List Int) (s : GoodS l b g t) (hg : g.length ≤ 127) (ht : t.length ≤ 127) : ∀ (suf pre : List Int) (acc : List S91), t = pre ++ suf → acc.length + suf.length ≤ 1000 → Ev (fun k => spec_l5Close.l1 k acc t (t.length : Int) (pre.length : Int) l b g t) (acc ++ addL l g suf) := by
  intro suf
  induction suf with
  | nil =>
    intro pre acc hp _
    have hl : t.length = pre.length := by rw [hp]; simp
    refine Ev_succ ?_
    simp only [spec_l5Close.l1]; exact Ev_f (by omega) (Ev_eq (Ev.now _) (by simp [addL]))
  | cons x suf ih =>
    intro pre acc hp ha
    simp only [List.length_cons] at ha
    have hl : t.length = pre.length + suf.length + 1 := by rw [hp]; simp; omega
    have hx : t.getD pre.length 0 = x := by rw [hp]; simp
    have hb := list_at s.touched (x := x) (by rw [hp]; simp)
    have hi := s.hi
    obtain ⟨q, rfl⟩ : ∃ q : Nat, x = (q : Int) := ⟨x.toNat, by omega⟩
    have hr : (l.getD q []).length = 128 := s.rows _ (getD_mem [] (by omega))
    refine Ev_succ ?_
    simp only [spec_l5Close.l1, rd_nat, hx, rd_L_nat, Option.bind_some, List.nil_append, List.length_nil]
    rw [w64_succ (show pre.length < t.length by omega) (by omega)]
    refine Ev_t (by omega) (Ev_t (by omega) (Ev_t (by omega) (Ev.bind (specHas_ev g (by omega) (q : Int)) ?_)))
    cases hn : noneIs g (q : Int) with
    | false =>
      have e := ih (pre ++ [(q : Int)]) acc (by rw [hp]; simp) (by omega)
      simp only [List.length_append, List.length_singleton] at e
      exact Ev_t rfl (Ev_eq e (by simp [addL, hn]))
    | true =>
      have e := ih (pre ++ [(q : Int)]) (acc ++ [⟨(q : Int), l.getD q []⟩]) (by rw [hp]; simp) (by simp; omega)
      simp only [List.length_append, List.length_singleton] at e
      exact Ev_f (by decide) (Ev_t (by omega) (Ev_t (by omega) (Ev_t (by omega) (Ev_t (by omega) (Ev_eq e (by simp [addL, hn]))))))
theorem implL1_ev (l : List (List Int)) (b g t : List Int) (s : GoodS l b g t) (hg : g.length ≤ 127) (ht : t.length ≤ 127) : ∀ (suf pre : List Int) (acc : List S91), t = pre ++ suf → acc.length + suf.length ≤ 1000 → Ev (fun k => impl_Space_close.l1 k acc t (t.length : Int) (pre.length : Int) l b g t) (acc ++ addL l g suf, decide (((acc ++ addL l g suf).length : Int) ≤ 30)) := by
  intro suf
  induction suf with
  | nil =>
    intro pre acc hp _
    have hl : t.length = pre.length := by rw [hp]; simp
    refine Ev_succ ?_
    simp only [impl_Space_close.l1]; exact Ev_f (by omega) (Ev_eq (Ev.now _) (by simp [addL]))
  | cons x suf ih =>
    intro pre acc hp ha
    simp only [List.length_cons] at ha
    have hl : t.length = pre.length + suf.length + 1 := by rw [hp]; simp; omega
    have hx : t.getD pre.length 0 = x := by rw [hp]; simp
    have hb := list_at s.touched (x := x) (by rw [hp]; simp)
    have hi := s.hi
    obtain ⟨q, rfl⟩ : ∃ q : Nat, x = (q : Int) := ⟨x.toNat, by omega⟩
    have hr : (l.getD q []).length = 128 := s.rows _ (getD_mem [] (by omega))
    have hc : slices_Clone_byte_byte.f (l.getD q []) = some (l.getD q []) := by
      simp only [slices_Clone_byte_byte.f, Option.bind_some]
      rw [if_pos (by simp only [List.length_nil]; omega)]; rfl
    refine Ev_succ ?_
    simp only [impl_Space_close.l1, rd_nat, hx, rd_L_nat, hc, Option.bind_some]
    rw [w64_succ (show pre.length < t.length by omega) (by omega)]
    refine Ev_t (by omega) (Ev_t (by omega) (Ev_t (by omega) (Ev.bind (implHas_ev g (by omega) (q : Int)) ?_)))
    cases hn : noneIs g (q : Int) with
    | false =>
      have e := ih (pre ++ [(q : Int)]) acc (by rw [hp]; simp) (by omega)
      simp only [List.length_append, List.length_singleton] at e
      exact Ev_t rfl (Ev_eq e (by simp [addL, hn]))
    | true =>
      have e := ih (pre ++ [(q : Int)]) (acc ++ [⟨(q : Int), l.getD q []⟩]) (by rw [hp]; simp) (by simp; omega)
      rw [show (pre ++ [(q : Int)]).length = pre.length + 1 by simp] at e
      exact Ev_f (by decide) (Ev_t (by omega) (Ev_t (by omega) (Ev_t (by omega) (Ev_eq e (by simp [addL, hn])))))
theorem specL0_ev (l : List (List Int)) (b g t x1 : List Int) (s : GoodS l b g t) (hx1 : x1.length = 128) (hg : g.length ≤ 127) (ht : t.length ≤ 127) : ∀ (suf pre c : List Int), g = pre ++ suf → c.length = 128 → Ev (fun k => spec_l5Close.l0 k x1 c g (g.length : Int) (pre.length : Int) l b g t) ([⟨0, x1⟩, ⟨1, clrAll c suf⟩] ++ addL l g t) := by
  intro suf
  induction suf with
  | nil =>
    intro pre c hp hc
    have hl : g.length = pre.length := by rw [hp]; simp
    have e := specL1_ev l b g t s hg ht t [] [⟨0, x1⟩, ⟨1, c⟩] rfl (by simp; omega)
    refine Ev_succ ?_
    simp only [spec_l5Close.l0, Option.bind_some, List.nil_append, List.length_nil]
    exact Ev_f (by omega) (Ev_t (by omega) e)
  | cons x suf ih =>
    intro pre c hp hc
    have hl : g.length = pre.length + suf.length + 1 := by rw [hp]; simp; omega
    have hx : g.getD pre.length 0 = x := by rw [hp]; simp
    have hb := list_at s.gone (x := x) (by rw [hp]; simp)
    have hi := s.hi
    obtain ⟨q, rfl⟩ : ∃ q : Nat, x = (q : Int) := ⟨x.toNat, by omega⟩
    have e := ih (pre ++ [(q : Int)]) (clr c q) (by rw [hp]; simp) (by rw [clr_len, hc])
    rw [show (pre ++ [(q : Int)]).length = pre.length + 1 by simp] at e
    refine Ev_succ ?_
    simp only [spec_l5Close.l0, rd_nat, hx, specClr_eq c q (by omega) hc, Option.bind_some]
    rw [w64_succ (show pre.length < g.length by omega) (by omega)]
    exact Ev_t (by omega) (Ev_t (by omega) (Ev_t (by omega) e))
theorem implL0_ev (l : List (List Int)) (b g t x1 : List Int) (s : GoodS l b g t) (hx1 : x1.length = 128) (hg : g.length ≤ 127) (ht : t.length ≤ 127) : ∀ (suf pre c : List Int), g = pre ++ suf → c.length = 20 →
    Ev (fun k => impl_Space_close.l0 k x1 c g (g.length : Int) (pre.length : Int) l b g t) ([⟨0, x1⟩, ⟨1, clrAll c suf ++ List.replicate 108 0⟩] ++ addL l g t, decide ((([⟨0, x1⟩, ⟨1, clrAll c suf ++ List.replicate 108 0⟩] ++ addL l g t : List S91).length : Int) ≤ 30)) := by
  intro suf
  induction suf with
  | nil =>
    intro pre c hp hc
    have hl : g.length = pre.length := by rw [hp]; simp
    have e := implL1_ev l b g t s hg ht t [] [⟨0, x1⟩, ⟨1, c ++ List.replicate 108 0⟩] rfl (by simp; omega)
    have h1 : slices_Clone_byte_byte.f x1 = some x1 := by
      simp only [slices_Clone_byte_byte.f, Option.bind_some]
      rw [if_pos (by simp only [List.length_nil]; omega)]; rfl
    have h2 : impl_padded.f c 128 = some (c ++ List.replicate 108 0) := by
      simp only [impl_padded.f, hc]
      have e2 : wrap64 (128 - ((20 : Nat) : Int)) = 108 := by rw [w64 (by omega) (by omega)]; omega
      rw [e2, if_pos (by omega), if_pos (by decide)]; rfl
    refine Ev_succ ?_
    simp only [impl_Space_close.l0, h1, h2, Option.bind_some]
    exact Ev_f (by omega) e
  | cons x suf ih =>
    intro pre c hp hc
    have hl : g.length = pre.length + suf.length + 1 := by rw [hp]; simp; omega
    have hx : g.getD pre.length 0 = x := by rw [hp]; simp
    have hb := list_at s.gone (x := x) (by rw [hp]; simp)
    have hi := s.hi
    obtain ⟨q, rfl⟩ : ∃ q : Nat, x = (q : Int) := ⟨x.toNat, by omega⟩
    have e := ih (pre ++ [(q : Int)]) (clr c q) (by rw [hp]; simp) (by rw [clr_len, hc])
    rw [show (pre ++ [(q : Int)]).length = pre.length + 1 by simp] at e
    refine Ev_succ ?_
    simp only [impl_Space_close.l0, rd_nat, hx, tdiv8 q (by omega), tmod8, Int.toNat_natCast]
    rw [w64_succ (show pre.length < g.length by omega) (by omega)]
    exact Ev_t (by omega) (Ev_t (by omega) (Ev_t (by omega) (Ev_t (by omega) (Ev_t (by omega) (Ev_t (by omega) e)))))
theorem same_close (l : List (List Int)) (b g t : List Int) (z : SpaceSz l b g t) (x1 : List Int) :
    SameQ (fun R => R.1.length ≤ 1000 ∧ ∀ p ∈ R.1, p.f1.length ≤ 1048576) (fun k => spec_CloseSpace.f k l b g t x1) (fun k => impl_CloseSpace.f k l b g t x1) := by
  simp only [spec_CloseSpace.f, impl_CloseSpace.f]
  have s1 := specGoodSpace_ev l b g t z.hl z.hg z.ht
  have i1 := implGoodSpace_ev l b g t z.hl z.hg z.ht
  have badS : ∀ c : Bool, c = true → Ev (fun k => spec_CloseSpace.j0 k x1 c l b g t) (([] : List S91), false) := fun c hc => Ev_succ (by simp only [spec_CloseSpace.j0]; exact Ev_t hc (Ev.now _))
  have badI : ∀ c : Bool, c = true → Ev (fun k => impl_CloseSpace.j0 k x1 c l b g t) (([] : List S91), false) := fun c hc => Ev_succ (by simp only [impl_CloseSpace.j0]; exact Ev_t hc (Ev.now _))
  have q0 : (([] : List S91), false).1.length ≤ 1000 ∧ ∀ p ∈ (([] : List S91), false).1, p.f1.length ≤ 1048576 := ⟨by simp, by simp⟩
  cases hd : goodB l b g t with
  | false =>
    rw [hd] at s1 i1
    exact SameQ.of (r := ([], false)) (Ev.bind s1 (Ev_f (by decide) (badS _ rfl))) (Ev.bind i1 (Ev_f (by decide) (badI _ rfl))) q0
  | true =>
    rw [hd] at s1 i1
    have f := goodB_facts hd
    have hi := f.hi
    have hg := list_short f.gone f.hi
    have ht := list_short f.touched f.hi
    by_cases hx : x1.length = 128
    · have hc : ((x1.length : Int) != 128) = false := by simp; omega
      rw [hc]
      have hcp : cpL (List.replicate 128 (0 : Int)) b = b ++ List.replicate 108 0 := by
        unfold cpL
        rw [List.length_replicate, List.take_of_length_le (by rw [f.bits]; omega), f.bits]; simp
      have hca : clrAll (b ++ List.replicate 108 0) g = clrAll b g ++ List.replicate 108 0 := clrAll_app _ g b f.bits (fun y hy => by have := list_at f.gone hy; omega)
      have e1 := specL0_ev l b g t x1 f hx hg ht g [] (b ++ List.replicate 108 0) rfl (by rw [List.length_append, f.bits]; simp)
      have e2 := implL0_ev l b g t x1 f hx hg ht g [] b rfl f.bits
      rw [hca] at e1
      have hlen := addL_len l g t
      have hrow := addL_rows l g f.rows t (fun y hy => by have := list_at f.touched hy; omega)
      have hcl : (clrAll b g ++ List.replicate 108 (0 : Int)).length = 128 := by rw [List.length_append, clrAll_len, f.bits]; simp
      generalize clrAll b g ++ List.replicate 108 (0 : Int) = C at *
      have hR : ([⟨0, x1⟩, ⟨1, C⟩] ++ addL l g t : List S91).length ≤ 1000 ∧ ∀ p ∈ ([⟨0, x1⟩, ⟨1, C⟩] ++ addL l g t : List S91), p.f1.length ≤ 1048576 := by
        refine ⟨by simp; omega, fun p hp => ?_⟩
        rcases List.mem_append.1 hp with hp | hp
        · simp only [List.mem_cons, List.not_mem_nil, or_false] at hp
          rcases hp with rfl | rfl
          · show x1.length ≤ _; omega
          · show C.length ≤ _; omega
        · have := hrow p hp; omega
      generalize ([⟨0, x1⟩, ⟨1, C⟩] ++ addL l g t : List S91) = O at *
      have sp : Ev (fun k => spec_l5Close.f k l b g t x1) O := by
        simp only [spec_l5Close.f, hcp]
        exact Ev_t (by decide) e1
      have ip : Ev (fun k => impl_Space_close.f k l b g t x1) (O, decide ((O.length : Int) ≤ 30)) := by
        have h1 : slices_Clone_byte_byte.f b = some b := by
          simp only [slices_Clone_byte_byte.f, Option.bind_some]
          rw [if_pos (by have := f.bits; simp only [List.length_nil]; omega)]; rfl
        simp only [impl_Space_close.f, h1, Option.bind_some]
        exact e2
      by_cases ho : (O.length : Int) ≤ 30
      · refine SameQ.of (r := (O, true)) (Ev.bind s1 (Ev_t rfl (Ev_succ ?_))) (Ev.bind i1 (Ev_t rfl (Ev_succ ?_))) hR
        · simp only [spec_CloseSpace.j0]
          exact Ev_f (by decide) (Ev.bind sp (Ev_f (by omega) (Ev.now _)))
        · simp only [impl_CloseSpace.j0]
          exact Ev_f (by decide) (Ev.bind ip (Ev_t (by simpa using ho) (Ev.now _)))
      · refine SameQ.of (r := ([], false)) (Ev.bind s1 (Ev_t rfl (Ev_succ ?_))) (Ev.bind i1 (Ev_t rfl (Ev_succ ?_))) q0
        · simp only [spec_CloseSpace.j0]
          exact Ev_f (by decide) (Ev.bind sp (Ev_t (by omega) (Ev.now _)))
        · simp only [impl_CloseSpace.j0]
          exact Ev_f (by decide) (Ev.bind ip (Ev_f (by simpa using ho) (Ev.now _)))
    · have hc : ((x1.length : Int) != 128) = true := by simp; omega
      rw [hc]
      exact SameQ.of (r := ([], false)) (Ev.bind s1 (Ev_t rfl (badS _ rfl))) (Ev.bind i1 (Ev_t rfl (badI _ rfl))) q0
theorem markSpaceN (l : List (List Int)) (b g t : List Int) (z : SpaceSz l b g t) : ∃ (n : Int) (r0 : List (List Int)) (r1 r2 r3 : List Int), (0 ≤ n ∧ n ≤ 4000000000000) ∧ Ev (fun k => laws_markSpace.f k l b g t 1) (n, r0, r1, r2, r3) := by
  have hl := z.hl; have hb := z.hb; have hg := z.hg; have ht := z.ht
  have e := markSS_mk l [] 1 (by simpa using hl) z.hz (by omega) (by omega)
  have hn := (mkS_le l 1).1
  have hi := mkS_hi l 1 z.hz
  generalize hm : (mkS l 1).2 = n1 at e hn hi
  have e2 := markB b hb n1 (by omega) (by omega)
  have e3 := markI g hg (n1 + (b.length : Int)) (by omega) (by omega)
  have e4 := markI t ht (n1 + (b.length : Int) + (g.length : Int)) (by omega) (by omega)
  refine ⟨n1 + (b.length : Int) + (g.length : Int) + (t.length : Int), (mkS l 1).1, (List.range b.length).map (fun i : Nat => (n1 + (i : Int)) % 256), (List.range g.length).map (fun i : Nat => n1 + (b.length : Int) + (i : Int)), (List.range t.length).map (fun i : Nat => n1 + (b.length : Int) + (g.length : Int) + (i : Int)), ⟨by omega, by omega⟩, ?_⟩
  simp only [laws_markSpace.f, laws_markByteSS.f]
  exact Ev.bind e (Ev.bind e2 (Ev.bind e3 (Ev.bind e4 (Ev.now _))))
end OfFnExactCloseSpace
open OfFnExactCloseSpace
theorem FnExactCloseSpace : Stated := by
  intro l b g t d wl wb wg wt wd
  refine Ev.rounds ?_
  simp only [laws_FnExactCloseSpace.f]
  refine Ev_ite (fun _ => Ev.now _) (fun cd => ?_)
  have hd : d.length ≤ 1048576 := by omega
  obtain ⟨r, h1, _, h3⟩ := szSpace_ev l b g t ⟨wl.1, fun p hp => (wl.2 p hp).1⟩ wb.1 wg.1 wt.1 1048576 (by omega) (by omega)
  refine Ev.bind h1 (Ev_ite (fun _ => Ev.now _) (fun c => ?_))
  have s := h3 (by omega)
  have f1 := toSpace_ev l b g t s
  have f2 := toByteS_ev d hd
  obtain ⟨⟨x, o2⟩, p, q, hx, hxz⟩ := same_close l b g t s d
  simp only at hx hxz
  have ee := eqWriteS_ev x (by omega) hxz
  obtain ⟨m, _, _, _, _, ⟨m0, m1⟩, em⟩ := markSpaceN l b g t s
  have mb := markB d hd m m0 (by omega)
  obtain ⟨n3, rx, ⟨n30, n31⟩, mx, hxh⟩ := markW4 x (by omega) hxz 1 (by omega) (by omega)
  refine Ev.bind f1 (Ev.bind f2 (Ev.bind p (Ev.bind f1 (Ev.bind f2 (Ev.bind q (Ev.bind ee (Ev_t rfl (Ev_succ ?_))))))))
  simp only [laws_FnExactCloseSpace.j0]
  refine Ev_f (by simp) (Ev.bind f1 (Ev.bind (eqSpace_ev l b g t s) (Ev_t rfl (Ev.bind f2 (Ev.bind (eqByteS_ev d (by omega)) (Ev_t rfl (Ev.bind em (Ev.bind mb (Ev_f (by simp only; omega) (Ev.bind ee (Ev_t rfl (Ev_succ ?_))))))))))))
  simp only [laws_FnExactCloseSpace.j1]
  refine Ev_f (by simp) (Ev.bind mx (Ev.bind hxh (Ev_f (by omega) (Ev_t rfl (Ev.bind f1 (Ev.bind f2 (Ev.bind q (Ev.bind ee (Ev_t rfl (Ev_succ ?_))))))))))
  simp only [laws_FnExactCloseSpace.j2]
  exact Ev_f (by simp) (Ev.bind hxh (Ev_f (by omega) (Ev_t rfl (Ev.now _))))
end Go.Proofs.Ytlphbpaojcdjaaa.Pure
