/-
The pure statement of FnExactNeedForKeys: the printed functions of the program and of the reference answer alike for every argument within the bounds that the statement tells.
-/
import Derived.Test.YtcdlookokffkeaaWfFnExactNeedForKeys
namespace Go.Proofs.Ytcdlookokffkeaa.Pure
open Go Go.RowKit Go.Proofs.Ytcdlookokffkeaa.PFnExactNeedForKeys Go.Proofs.YtcdlookokffkeaaW.PrintWords Go.Proofs.YtcdlookokffkeaaW.PrintLast Go.Proofs.YtcdlookokffkeaaW.PrintMore Go.Proofs.Ytcdlookokffkeaa.Lib
set_option linter.unusedVariables false
set_option linter.unusedSimpArgs false
namespace OfFnExactNeedForKeys
theorem within_eq (a b c : Int) : impl_within.f a b c = some (decide (b ≤ a ∧ a ≤ c)) := by
  simp only [impl_within.f]
  by_cases h : b ≤ a <;> simp [h]

theorem l1In_eq (a b c : Int) : spec_l1In.f a b c = some (decide (b ≤ a ∧ a ≤ c)) := by
  simp only [spec_l1In.f]
  by_cases h : b ≤ a <;> simp [h]

theorem toByteS_ev (l : List Int) (hl : l.length ≤ 1048576) : Ev (fun k => laws_toByteS.f k l) l := by
  have h := fill_ev (g := fun k x i => laws_toByteS.l0 k l x i) l 0 (fun x => x)
    (fun x i hx hi hr => Ev_succ (by
      simp only [laws_toByteS.l0]
      refine Ev_t (by omega) (Ev_t (by omega) (Ev_t (by omega) ?_))
      rw [w64_succ hi (by omega)]
      simpa [rd_nat] using hr))
    (fun x hx => Ev_succ (by simp only [laws_toByteS.l0]; exact Ev_f (by omega) (Ev.now _)))
    (List.replicate l.length 0) (by simp)
  rw [map_same] at h
  refine Ev.congr (fun k => ?_) h
  simp only [laws_toByteS.f]
  rw [if_pos (by omega), if_pos (by simp; omega)]
  simp

theorem eqByteS_ev (l : List Int) (hl : l.length ≤ 4611686018427387904) : Ev (fun k => laws_eqByteS.f k l l) true := by
  have h := all_ev (g := fun k i => laws_eqByteS.l0 k l l i) (r := true) l.length
    (fun i hi hr => Ev_succ (by
      simp only [laws_eqByteS.l0]
      refine Ev_t (by omega) (Ev_t (by omega) (Ev_t (by omega) (Ev_t trivial ?_)))
      rw [w64_succ hi (by omega)]; exact hr))
    (Ev_succ (by simp only [laws_eqByteS.l0]; exact Ev_f (by omega) (Ev.now _)))
  refine Ev.congr (fun k => ?_) h
  simp only [laws_eqByteS.f]; rw [if_pos trivial]

theorem toIntS_ev (l : List Int) (hl : l.length ≤ 1048576) : Ev (fun k => laws_toIntS.f k l) l := by
  have h := fill_ev (g := fun k x i => laws_toIntS.l0 k l x i) l 0 (fun x => x)
    (fun x i hx hi hr => Ev_succ (by
      simp only [laws_toIntS.l0]
      refine Ev_t (by omega) (Ev_t (by omega) (Ev_t (by omega) ?_))
      rw [w64_succ hi (by omega)]
      simpa [rd_nat] using hr))
    (fun x hx => Ev_succ (by simp only [laws_toIntS.l0]; exact Ev_f (by omega) (Ev.now _)))
    (List.replicate l.length 0) (by simp)
  rw [map_same] at h
  refine Ev.congr (fun k => ?_) h
  simp only [laws_toIntS.f]
  rw [if_pos (by omega), if_pos (by simp; omega)]
  simp

theorem eqIntS_ev (l : List Int) (hl : l.length ≤ 4611686018427387904) : Ev (fun k => laws_eqIntS.f k l l) true := by
  have h := all_ev (g := fun k i => laws_eqIntS.l0 k l l i) (r := true) l.length
    (fun i hi hr => Ev_succ (by
      simp only [laws_eqIntS.l0]
      refine Ev_t (by omega) (Ev_t (by omega) (Ev_t (by omega) (Ev_t trivial ?_)))
      rw [w64_succ hi (by omega)]; exact hr))
    (Ev_succ (by simp only [laws_eqIntS.l0]; exact Ev_f (by omega) (Ev.now _)))
  refine Ev.congr (fun k => ?_) h
  simp only [laws_eqIntS.f]; rw [if_pos trivial]

theorem rd_L_nat (xs : List (List Int)) (i : Nat) : rd_L1 xs (i : Int) = xs.getD i [] := by simp [rd_L1]
theorem szByteS_val (l : List Int) (hl : l.length ≤ maxLen) (n : Int) (h0 : 0 ≤ n) (h1 : n ≤ 1048576) : ∃ r, laws_szByteS.f l n = some r ∧ r ≤ n ∧ (0 ≤ r → l.length ≤ 1048576) := by
  have hl0 : (l.length : Int) ≤ 9223372036854775807 := by simp only [maxLen] at hl; omega
  simp only [laws_szByteS.f]
  rw [w64 (n := n - (l.length : Int)) (by omega) (by omega)]
  by_cases c : n - (l.length : Int) < 0
  · exact ⟨-1, if_pos c, by omega, fun h => by omega⟩
  · exact ⟨n - (l.length : Int), if_neg c, by omega, fun h => by omega⟩
theorem szByteSS_loop (l : List (List Int)) (hw : ∀ p ∈ l, p.length ≤ maxLen) (hl : l.length ≤ 1048576) : ∀ (m i : Nat) (x : Int), i + m = l.length → 0 ≤ x → x ≤ 1048576 →
    ∃ r, Ev (fun k => laws_szByteSS.l0 k l x (i : Int)) r ∧ r ≤ x ∧ (0 ≤ r → ∀ j, i ≤ j → j < l.length → (l.getD j []).length ≤ 1048576) := by
  intro m
  induction m with
  | zero =>
    intro i x hi h0 h1
    refine ⟨x, Ev_succ ?_, by omega, fun _ j h2 h3 => by omega⟩
    simp only [laws_szByteSS.l0]; exact Ev_f (by omega) (Ev.now _)
  | succ m ih =>
    intro i x hi h0 h1
    have hp := hw _ (getD_mem (xs := l) (i := i) [] (by omega))
    obtain ⟨r0, e, e1, e2⟩ := szByteS_val _ hp x h0 h1
    by_cases c : r0 < 0
    · refine ⟨-1, Ev_succ ?_, by omega, fun h => by omega⟩
      simp only [laws_szByteSS.l0, rd_L_nat]
      exact Ev_t (by omega) (Ev_t (by omega) (Ev_bind0 e (Ev_t c (Ev.now _))))
    · obtain ⟨r, h2, h3, h4⟩ := ih (i + 1) r0 (by omega) (by omega) (by omega)
      refine ⟨r, Ev_succ ?_, by omega, fun h j h5 h6 => ?_⟩
      · simp only [laws_szByteSS.l0, rd_L_nat]
        rw [w64_succ (show i < l.length by omega) (by omega)]
        exact Ev_t (by omega) (Ev_t (by omega) (Ev_bind0 e (Ev_f c h2)))
      · by_cases h7 : j = i
        · subst h7; exact e2 (by omega)
        · exact h4 h j (by omega) h6
theorem szByteSS_ev (l : List (List Int)) (hw : l.length ≤ maxLen ∧ ∀ p ∈ l, p.length ≤ maxLen) (n : Int) (hn : 0 ≤ n) (hn' : n ≤ 1048576) : ∃ r, Ev (fun k => laws_szByteSS.f k l n) r ∧ r ≤ n ∧ (0 ≤ r → l.length ≤ 1048576 ∧ ∀ p ∈ l, p.length ≤ 1048576) := by
  have hl0 : (l.length : Int) ≤ 9223372036854775807 := by have := hw.1; simp only [maxLen] at this; omega
  have e : wrap64 (n - (l.length : Int)) = n - (l.length : Int) := w64 (by omega) (by omega)
  simp only [laws_szByteSS.f, e]
  by_cases c : n - (l.length : Int) < 0
  · exact ⟨-1, Ev_t c (Ev.now _), by omega, fun h => by omega⟩
  · obtain ⟨r, h1, h2, h3⟩ := szByteSS_loop l hw.2 (by omega) l.length 0 (n - (l.length : Int)) (by omega) (by omega) (by omega)
    refine ⟨r, Ev_f c h1, by omega, fun h => ⟨by omega, fun p hp => ?_⟩⟩
    obtain ⟨j, hj, rfl⟩ := List.mem_iff_getElem.1 hp
    have := h3 h j (by omega) hj
    simpa [List.getD, hj] using this
theorem toByteSS_ev (l : List (List Int)) (hl : l.length ≤ 1048576) (hz : ∀ p ∈ l, p.length ≤ 1048576) : Ev (fun k => laws_toByteSS.f k l) l := by
  have h := fill_ev (g := fun k x i => laws_toByteSS.l0 k l x i) l [] (fun x => x)
    (fun x i hx hi hr => Ev_succ (by
      simp only [laws_toByteSS.l0, rd_L_nat]
      refine Ev_t (by omega) (Ev_t (by omega) (Ev.bind (toByteS_ev _ (hz _ (getD_mem [] hi))) (Ev_t (by omega) ?_)))
      rw [w64_succ hi (by omega)]
      simpa using hr))
    (fun x hx => Ev_succ (by simp only [laws_toByteSS.l0]; exact Ev_f (by omega) (Ev.now _)))
    (List.replicate l.length []) (by simp)
  rw [map_same] at h
  refine Ev.congr (fun k => ?_) h
  simp only [laws_toByteSS.f]
  rw [if_pos (by omega), if_pos (by simp; omega)]
  simp
theorem eqByteSS_ev (l : List (List Int)) (hl : l.length ≤ 1048576) (hz : ∀ p ∈ l, p.length ≤ 1048576) : Ev (fun k => laws_eqByteSS.f k l l) true := by
  have h := all_ev (g := fun k i => laws_eqByteSS.l0 k l l i) (r := true) l.length
    (fun i hi hr => Ev_succ (by
      simp only [laws_eqByteSS.l0, rd_L_nat]
      refine Ev_t (by omega) (Ev_t (by omega) (Ev_t (by omega) (Ev.bind (eqByteS_ev _ (by have := hz _ (getD_mem [] hi); omega)) (Ev_t rfl ?_))))
      rw [w64_succ hi (by omega)]; exact hr))
    (Ev_succ (by simp only [laws_eqByteSS.l0]; exact Ev_f (by omega) (Ev.now _)))
  refine Ev.congr (fun k => ?_) h
  simp only [laws_eqByteSS.f]; rw [if_pos trivial]

def blocksB (l : List (List Int)) : Bool := decide (40 ≤ l.length ∧ l.length ≤ 160) && l.all (fun b => decide (b.length = 128))
theorem indexFunc_loop (l : List (List Int)) (hl : l.length ≤ 1048576) : ∀ (m i : Nat), i + m = l.length → ∃ r : Int, Ev (fun k => slices_IndexFunc_byte_byte_91.l0 k l (l.length : Int) (i : Int)) r ∧ (0 ≤ r ↔ ¬ ((l.drop i).all (fun b => decide (b.length = 128)) = true)) := by
  intro m
  induction m with
  | zero =>
    intro i hi
    refine ⟨-1, Ev_succ ?_, ?_⟩
    · simp only [slices_IndexFunc_byte_byte_91.l0]; exact Ev_f (by omega) (Ev.now _)
    · rw [List.drop_of_length_le (by omega)]; simp
  | succ m ih =>
    intro i hi
    have hd := drop_cons l i [] (by omega)
    obtain ⟨r, h1, h2⟩ := ih (i + 1) (by omega)
    by_cases c : (l.getD i []).length = 128
    · refine ⟨r, Ev_succ ?_, ?_⟩
      · simp only [slices_IndexFunc_byte_byte_91.l0, rd_L_nat, impl_areBlocks_1.f, Option.bind_some]
        rw [w64_succ (show i < l.length by omega) (by omega)]
        exact Ev_t (by omega) (Ev_t (by omega) (Ev_t (by omega) (Ev_f (by rw [c]; decide) h1)))
      · rw [hd, h2, List.all_cons, c]; simp
    · refine ⟨(i : Int), Ev_succ ?_, ?_⟩
      · simp only [slices_IndexFunc_byte_byte_91.l0, rd_L_nat, impl_areBlocks_1.f, Option.bind_some]
        exact Ev_t (by omega) (Ev_t (by omega) (Ev_t (by omega) (Ev_t (by simp only [bne_iff_ne]; omega) (Ev.now _))))
      · rw [hd, List.all_cons]; simp only [c, decide_false, Bool.false_and, Bool.false_eq_true, not_false_eq_true, iff_true]; omega
theorem areBlocks_ev (l : List (List Int)) (hl : l.length ≤ 1048576) : Ev (fun k => impl_areBlocks.f k l) (blocksB l) := by
  simp only [impl_areBlocks.f, within_eq, Option.bind_some, decide_eq_true_eq]
  by_cases c : (40 : Int) ≤ (l.length : Int) ∧ (l.length : Int) ≤ 160
  · obtain ⟨r, h1, h2⟩ := indexFunc_loop l hl l.length 0 (by omega)
    refine Ev_t c (Ev.bind (a := decide (r ≥ 0)) ?_ (Ev_eq (Ev.now _) ?_))
    · simp only [slices_ContainsFunc_byte_byte_78.f, slices_IndexFunc_byte_byte_91.f]
      exact Ev.bind h1 (Ev.now _)
    · rw [List.drop_zero] at h2
      have c' : 40 ≤ l.length ∧ l.length ≤ 160 := by omega
      simp only [blocksB, c', and_self, decide_true, Bool.true_and]
      cases hh : l.all (fun b => decide (b.length = 128)) with
      | true => simp only [hh, not_true, iff_false] at h2; simp; omega
      | false => simp only [hh] at h2; have : 0 ≤ r := h2.2 (by simp); simp [this]
  · refine Ev_f c (Ev_eq (Ev.now _) ?_)
    have c' : ¬ (40 ≤ l.length ∧ l.length ≤ 160) := by omega
    simp only [blocksB, c', decide_false, Bool.false_and]

theorem tdiv8 (k : Nat) (h : k < 4611686018427387904) : wrap64 (Int.tdiv (k : Int) 8) = ((k / 8 : Nat) : Int) := by
  rw [Int.tdiv_eq_ediv_of_nonneg (by omega), w64 (by omega) (by omega)]; omega
theorem tmod8 (k : Nat) : Int.tmod (k : Int) 8 = ((k % 8 : Nat) : Int) := by
  rw [Int.tmod_eq_emod_of_nonneg (by omega)]; omega
def usedB (b : List Int) (k : Nat) : Bool := (Go.bits .and .u8 (shr .u8 (b.getD (k / 8) 0) ((k % 8 : Nat) : Int)) 1) == 1
theorem implUsed_eq (l : List (List Int)) (b g t : List Int) (k : Nat) (hk : k < 160) (hb : b.length = 20) : impl_Space_used.f l b g t (k : Int) = some (usedB b k) := by
  simp only [impl_Space_used.f, tdiv8 k (by omega), tmod8, rd_nat]
  rw [if_pos (by omega), if_pos (by omega), if_pos (by omega)]; rfl
theorem specUsed_eq (b : List Int) (k : Nat) (hk : k < 160) (hb : b.length = 20) : spec_l5Used.f b (k : Int) = some (usedB b k) := by
  simp only [spec_l5Used.f, tdiv8 k (by omega), tmod8, rd_nat]
  rw [wu64 (by omega) (by omega), if_pos (by omega), if_pos (by omega), if_pos (by omega)]; rfl
def inB (n : Nat) (b : List Int) (x : Int) : Bool := decide (33 ≤ x ∧ x ≤ (n : Int) - 1) && usedB b x.toNat
def listP (n : Nat) (b : List Int) (l : List Int) (j : Nat) : Bool := inB n b (l.getD j 0) && (decide (j = 0) || decide (l.getD (j - 1) 0 < l.getD j 0))
def listB (n : Nat) (b : List Int) (l : List Int) : Bool := (List.range l.length).all (listP n b l)
def bitP (n : Nat) (b : List Int) (k : Nat) : Bool := if k < 33 then (if usedB b k = true then !decide (n ≤ k) else false) else (if n ≤ k then !usedB b k else true)
def goodB (l : List (List Int)) (b g t : List Int) : Bool := blocksB l && (decide (b.length = 20) && ((List.range 160).all (bitP l.length b) && (listB l.length b g && listB l.length b t)))
theorem scan_ev {g : Nat → Int → Option Bool} (n : Nat) (p : Nat → Bool) (R : Bool)
    (ht : ∀ i, i < n → p i = true → ∀ r, Ev (fun k => g k ((i + 1 : Nat) : Int)) r → Ev (fun k => g k (i : Int)) r)
    (hf : ∀ i, i < n → p i = false → Ev (fun k => g k (i : Int)) false)
    (he : Ev (fun k => g k (n : Int)) R) : Ev (fun k => g k 0) ((List.range n).all p && R) := by
  have key : ∀ m i, i + m = n → Ev (fun k => g k (i : Int)) ((List.range' i m).all p && R) := by
    intro m
    induction m with
    | zero =>
      intro i hi
      obtain rfl : i = n := by omega
      simpa using he
    | succ m ih =>
      intro i hi
      rw [List.range'_succ, List.all_cons]
      cases hp : p i with
      | true => rw [Bool.true_and]; exact ht i (by omega) hp _ (ih (i + 1) (by omega))
      | false => rw [Bool.false_and, Bool.false_and]; exact hf i (by omega) hp
  have := key n 0 (by omega)
  rwa [← List.range_eq_range'] at this

theorem rd_M_nat (xs : List (List Int)) (i : Nat) : rd_L5 xs (i : Int) = xs.getD i [] := by simp [rd_L5]
theorem implIsBlock_eq (l : List (List Int)) (b g t : List Int) (hl : l.length ≤ 160) (hl0 : 0 < l.length) (hb : b.length = 20) (x : Int) : impl_Space_isBlock.f l b g t x = some (inB l.length b x) := by
  simp only [impl_Space_isBlock.f, within_eq, Option.bind_some, decide_eq_true_eq]
  rw [w64 (n := (l.length : Int) - 1) (by omega) (by omega)]
  by_cases c : 33 ≤ x ∧ x ≤ (l.length : Int) - 1
  · rw [if_pos c]
    have hx : x = (x.toNat : Int) := by omega
    have := implUsed_eq l b g t x.toNat (by omega) hb
    rw [← hx] at this
    rw [this, Option.bind_some]
    simp only [inB, c, and_self, decide_true, Bool.true_and]
  · rw [if_neg c]; simp only [inB, c, decide_false, Bool.false_and]
theorem implAreUsed_ev (l : List (List Int)) (b g t : List Int) (hl : l.length ≤ 160) (hl0 : 0 < l.length) (hb : b.length = 20) (x : List Int) (hx : x.length ≤ 1048576) : Ev (fun k => impl_Space_areUsed.f k l b g t x) (listB l.length b x) := by
  have h := scan_ev (g := fun k i => impl_Space_areUsed.l0 k x x (x.length : Int) i l b g t) x.length (listP l.length b x) true
    (fun i hi hp r hr => Ev_succ (by
      simp only [impl_Space_areUsed.l0, rd_nat, implIsBlock_eq l b g t hl hl0 hb, Option.bind_some]
      simp only [listP, Bool.and_eq_true, Bool.or_eq_true, decide_eq_true_eq] at hp
      rw [w64_succ hi (by omega)]
      refine Ev_t (by omega) (Ev_t (by omega) (Ev_t (by omega) (Ev_t hp.1 (Ev_ite (fun h0 => ?_) (fun h0 => hr)))))
      have e : wrap64 ((i : Int) - 1) = ((i - 1 : Nat) : Int) := by rw [w64 (by omega) (by omega)]; omega
      simp only [e, rd_nat]
      exact Ev_t (by omega) (Ev_t (by omega) (Ev_f (by omega) hr))))
    (fun i hi hp => Ev_succ (by
      simp only [impl_Space_areUsed.l0, rd_nat, implIsBlock_eq l b g t hl hl0 hb, Option.bind_some]
      refine Ev_t (by omega) (Ev_t (by omega) (Ev_t (by omega) ?_))
      cases h1 : inB l.length b (x.getD i 0) with
      | false => exact Ev_f (by decide) (Ev.now _)
      | true =>
        simp only [listP, h1, Bool.true_and, Bool.or_eq_false_iff, decide_eq_false_iff_not] at hp
        have e : wrap64 ((i : Int) - 1) = ((i - 1 : Nat) : Int) := by rw [w64 (by omega) (by omega)]; omega
        simp only [e, rd_nat]
        exact Ev_t trivial (Ev_t (by omega) (Ev_t (by omega) (Ev_t (by omega) (Ev_t (by omega) (Ev.now _)))))))
    (Ev_succ (by simp only [impl_Space_areUsed.l0]; exact Ev_f (by omega) (Ev.now _)))
  rw [Bool.and_true] at h
  simp only [impl_Space_areUsed.f]
  exact h
theorem implGoodSpace_ev (l : List (List Int)) (b g t : List Int) (hl : l.length ≤ 1048576) (hg : g.length ≤ 1048576) (ht : t.length ≤ 1048576) : Ev (fun k => impl_GoodSpace.f k l b g t) (goodB l b g t) := by
  simp only [impl_GoodSpace.f]
  refine Ev.bind (areBlocks_ev l hl) ?_
  cases hb : blocksB l with
  | false =>
    refine Ev_f (by decide) (Ev_succ ?_)
    simp only [impl_GoodSpace.j0, goodB, hb, Bool.false_and]
    exact Ev_t trivial (Ev.now _)
  | true =>
    have hn : 40 ≤ l.length ∧ l.length ≤ 160 := by simp only [blocksB, Bool.and_eq_true, decide_eq_true_eq] at hb; exact hb.1
    refine Ev_t rfl (Ev_succ ?_)
    simp only [impl_GoodSpace.j0]
    refine Ev_ite (fun c => Ev_eq (Ev.now _) ?_) (fun c => ?_)
    · have c' : ¬ b.length = 20 := by simp only [bne_iff_ne] at c; omega
      simp only [goodB, hb, c', decide_false, Bool.false_and, Bool.and_false]
    · have c' : b.length = 20 := by simp only [bne_iff_ne, ne_eq, Decidable.not_not] at c; omega
      have h := scan_ev (g := fun k i => impl_GoodSpace.l0 k i l b g t) 160 (bitP l.length b) (listB l.length b g && listB l.length b t)
        (fun i hi hp r hr => Ev_succ (by
          simp only [impl_GoodSpace.l0, implUsed_eq l b g t i hi c', Option.bind_some]
          rw [w64_succ hi (by omega)]
          simp only [bitP] at hp
          refine Ev_t (by omega) (Ev_ite (fun h33 => ?_) (fun h33 => ?_))
          · rw [if_pos (by omega)] at hp
            cases hu : usedB b i with
            | false => rw [hu] at hp; simp at hp
            | true =>
              rw [hu, if_pos rfl] at hp
              exact Ev_t rfl (Ev_f (by simp at hp; omega) hr)
          · rw [if_neg (by omega)] at hp
            refine Ev_ite (fun hx => ?_) (fun hx => hr)
            rw [if_pos (by omega)] at hp
            exact Ev_f (by simpa using hp) hr))
        (fun i hi hp => Ev_succ (by
          simp only [impl_GoodSpace.l0, implUsed_eq l b g t i hi c', Option.bind_some]
          simp only [bitP] at hp
          refine Ev_t (by omega) (Ev_ite (fun h33 => ?_) (fun h33 => ?_))
          · rw [if_pos (by omega)] at hp
            cases hu : usedB b i with
            | false => exact Ev_f (by decide) (Ev.now _)
            | true =>
              rw [hu, if_pos rfl] at hp
              exact Ev_t rfl (Ev_t (by simp at hp; omega) (Ev.now _))
          · rw [if_neg (by omega)] at hp
            by_cases hx : l.length ≤ i
            · rw [if_pos hx] at hp
              exact Ev_t (by omega) (Ev_t (by simpa using hp) (Ev.now _))
            · rw [if_neg hx] at hp; exact absurd hp (by decide)))
        (Ev_succ (by
          simp only [impl_GoodSpace.l0]
          refine Ev_f (by omega) (Ev.bind (implAreUsed_ev l b g t hn.2 (by omega) c' g hg) ?_)
          cases hx : listB l.length b g with
          | false => exact Ev_f (by decide) (Ev.now _)
          | true => exact Ev_t rfl (Ev.bind (implAreUsed_ev l b g t hn.2 (by omega) c' t ht) (Ev.now _))))
      refine Ev_eq h ?_
      simp only [goodB, hb, c', decide_true, Bool.true_and]
theorem specList_ev (l : List (List Int)) (b g t : List Int) (hn : 40 ≤ l.length ∧ l.length ≤ 160) (hb : b.length = 20) (y : List (List Int)) (j : Nat) (R : Bool) (x : List Int) (hx : x.length ≤ 1048576)
    (hR : Ev (fun k => spec_GoodSpace.l2 k (l.length : Int) y (y.length : Int) ((j + 1 : Nat) : Int) l b g t) R) (hj : j < 2) :
    Ev (fun k => spec_GoodSpace.l3 k (l.length : Int) x y (y.length : Int) (j : Int) x (x.length : Int) 0 l b g t) (listB l.length b x && R) := by
  have hin : ∀ z : Int, ¬ (33 ≤ z ∧ z ≤ (l.length : Int) - 1) → inB l.length b z = false := fun z c => by simp only [inB, c, decide_false, Bool.false_and]
  have hin' : ∀ z : Int, (33 ≤ z ∧ z ≤ (l.length : Int) - 1) → spec_l5Used.f b z = some (inB l.length b z) := fun z c => by
    have hz : z = (z.toNat : Int) := by omega
    have := specUsed_eq b z.toNat (by omega) hb
    rw [← hz] at this
    rw [this]; simp only [inB, c, and_self, decide_true, Bool.true_and]
  refine scan_ev (g := fun k i => spec_GoodSpace.l3 k (l.length : Int) x y (y.length : Int) (j : Int) x (x.length : Int) i l b g t) x.length (listP l.length b x) R
    (fun i hi hp r hr => Ev_succ (by
      simp only [spec_GoodSpace.l3, rd_nat, l1In_eq, Option.bind_some, decide_eq_true_eq]
      rw [w64 (n := (l.length : Int) - 1) (by omega) (by omega)]
      simp only [listP, Bool.and_eq_true, Bool.or_eq_true, decide_eq_true_eq] at hp
      rw [w64_succ hi (by omega)]
      have c : 33 ≤ x.getD i 0 ∧ x.getD i 0 ≤ (l.length : Int) - 1 := by
        by_cases c : 33 ≤ x.getD i 0 ∧ x.getD i 0 ≤ (l.length : Int) - 1
        · exact c
        · rw [hin _ c] at hp; exact absurd hp.1 (by decide)
      refine Ev_t (by omega) (Ev_t (by omega) (Ev_t (by omega) (Ev_t c (Ev_bind0 (hin' _ c) (Ev_t hp.1 (Ev_ite (fun h0 => ?_) (fun h0 => hr)))))))
      have e : wrap64 ((i : Int) - 1) = ((i - 1 : Nat) : Int) := by rw [w64 (by omega) (by omega)]; omega
      simp only [e, rd_nat]
      exact Ev_t (by omega) (Ev_t (by omega) (Ev_f (by omega) hr))))
    (fun i hi hp => Ev_succ (by
      simp only [spec_GoodSpace.l3, rd_nat, l1In_eq, Option.bind_some, decide_eq_true_eq]
      rw [w64 (n := (l.length : Int) - 1) (by omega) (by omega)]
      refine Ev_t (by omega) (Ev_t (by omega) (Ev_t (by omega) (Ev_ite (fun c => ?_) (fun c => Ev.now _))))
      refine Ev_bind0 (hin' _ c) ?_
      cases h1 : inB l.length b (x.getD i 0) with
      | false => exact Ev_f (by decide) (Ev.now _)
      | true =>
        simp only [listP, h1, Bool.true_and, Bool.or_eq_false_iff, decide_eq_false_iff_not] at hp
        have e : wrap64 ((i : Int) - 1) = ((i - 1 : Nat) : Int) := by rw [w64 (by omega) (by omega)]; omega
        simp only [e, rd_nat]
        exact Ev_t trivial (Ev_t (by omega) (Ev_t (by omega) (Ev_t (by omega) (Ev_t (by omega) (Ev.now _)))))))
    (Ev_succ (by
      simp only [spec_GoodSpace.l3]
      rw [w64_succ hj (by omega)]
      exact Ev_f (by omega) hR))
theorem specGoodSpace_ev (l : List (List Int)) (b g t : List Int) (hl : l.length ≤ 1048576) (hg : g.length ≤ 1048576) (ht : t.length ≤ 1048576) : Ev (fun k => spec_GoodSpace.f k l b g t) (goodB l b g t) := by
  simp only [spec_GoodSpace.f, l1In_eq, Option.bind_some, decide_eq_true_eq]
  by_cases c1 : (40 : Int) ≤ (l.length : Int) ∧ (l.length : Int) ≤ 160
  · have hn : 40 ≤ l.length ∧ l.length ≤ 160 := by omega
    refine Ev_t c1 (Ev_succ ?_)
    simp only [spec_GoodSpace.j0]
    refine Ev_ite (fun c => Ev_eq (Ev.now _) ?_) (fun c => ?_)
    · have c' : ¬ b.length = 20 := by simp only [bne_iff_ne] at c; omega
      simp only [goodB, c', decide_false, Bool.false_and, Bool.and_false]
    · have c' : b.length = 20 := by simp only [bne_iff_ne, ne_eq, Decidable.not_not] at c; omega
      have hL : Ev (fun k => spec_GoodSpace.l2 k (l.length : Int) [g, t] (([g, t] : List (List Int)).length : Int) 0 l b g t) (listB l.length b g && (listB l.length b t && true)) := by
        have e2 : Ev (fun k => spec_GoodSpace.l2 k (l.length : Int) [g, t] (([g, t] : List (List Int)).length : Int) ((2 : Nat) : Int) l b g t) true := Ev_succ (by
          simp only [spec_GoodSpace.l2]; exact Ev_f (by simp) (Ev.now _))
        have e1 : Ev (fun k => spec_GoodSpace.l2 k (l.length : Int) [g, t] (([g, t] : List (List Int)).length : Int) ((1 : Nat) : Int) l b g t) (listB l.length b t && true) := Ev_succ (by
          simp only [spec_GoodSpace.l2, rd_M_nat]
          exact Ev_t (by simp) (Ev_t (by omega) (Ev_t (by simp) (specList_ev l b g t hn c' [g, t] 1 true t ht e2 (by omega)))))
        exact Ev_succ (by
          have z : (0 : Int) = ((0 : Nat) : Int) := rfl
          rw [z]
          simp only [spec_GoodSpace.l2, rd_M_nat]
          exact Ev_t (by simp) (Ev_t (by omega) (Ev_t (by simp) (specList_ev l b g t hn c' [g, t] 0 _ g hg e1 (by omega)))))
      have hB : Ev (fun k => spec_GoodSpace.l1 k (l.length : Int) 0 l b g t) ((List.range 160).all (bitP l.length b) && (listB l.length b g && (listB l.length b t && true))) :=
        scan_ev (g := fun k i => spec_GoodSpace.l1 k (l.length : Int) i l b g t) 160 (bitP l.length b) _
          (fun i hi hp r hr => Ev_succ (by
            simp only [spec_GoodSpace.l1, specUsed_eq b i hi c', Option.bind_some]
            rw [w64_succ hi (by omega)]
            simp only [bitP] at hp
            refine Ev_t (by omega) (Ev_ite (fun h33 => ?_) (fun h33 => ?_))
            · rw [if_pos (by omega)] at hp
              cases hu : usedB b i with
              | false => rw [hu] at hp; simp at hp
              | true =>
                rw [hu, if_pos rfl] at hp
                exact Ev_t rfl (Ev_f (by simp at hp; omega) hr)
            · rw [if_neg (by omega)] at hp
              refine Ev_ite (fun hx => ?_) (fun hx => hr)
              rw [if_pos (by omega)] at hp
              exact Ev_f (by simpa using hp) hr))
          (fun i hi hp => Ev_succ (by
            simp only [spec_GoodSpace.l1, specUsed_eq b i hi c', Option.bind_some]
            simp only [bitP] at hp
            refine Ev_t (by omega) (Ev_ite (fun h33 => ?_) (fun h33 => ?_))
            · rw [if_pos (by omega)] at hp
              cases hu : usedB b i with
              | false => exact Ev_f (by decide) (Ev.now _)
              | true =>
                rw [hu, if_pos rfl] at hp
                exact Ev_t rfl (Ev_t (by simp at hp; omega) (Ev.now _))
            · rw [if_neg (by omega)] at hp
              by_cases hx : l.length ≤ i
              · rw [if_pos hx] at hp
                exact Ev_t (by omega) (Ev_t (by simpa using hp) (Ev.now _))
              · rw [if_neg hx] at hp; exact absurd hp (by decide)))
          (Ev_succ (by
            simp only [spec_GoodSpace.l1]
            exact Ev_f (by omega) (Ev_bind0 rfl hL)))
      have hA := scan_ev (g := fun k i => spec_GoodSpace.l0 k (l.length : Int) l (l.length : Int) i l b g t) l.length (fun i => decide ((l.getD i []).length = 128)) _
          (fun i hi hp r hr => Ev_succ (by
            simp only [spec_GoodSpace.l0, rd_L_nat]
            rw [w64_succ hi (by omega)]
            simp only [decide_eq_true_eq] at hp
            exact Ev_t (by omega) (Ev_t (by omega) (Ev_t (by omega) (Ev_t (by omega) hr)))))
          (fun i hi hp => Ev_succ (by
            simp only [spec_GoodSpace.l0, rd_L_nat]
            simp only [decide_eq_false_iff_not] at hp
            exact Ev_t (by omega) (Ev_t (by omega) (Ev_t (by omega) (Ev_f (by omega) (Ev.now _))))))
          (Ev_succ (by
            simp only [spec_GoodSpace.l0]
            exact Ev_f (by omega) hB))
      refine Ev_eq hA ?_
      have e : (List.range l.length).all (fun i => decide ((l.getD i []).length = 128)) = l.all (fun b => decide (b.length = 128)) := by
        rw [Bool.eq_iff_iff]
        simp only [List.all_eq_true, List.mem_range, decide_eq_true_eq]
        constructor
        · intro h x hx
          obtain ⟨j, hj, rfl⟩ := List.mem_iff_getElem.1 hx
          have := h j hj
          simpa [List.getD, hj] using this
        · intro h j hj
          exact h _ (getD_mem [] hj)
      rw [e]
      simp only [goodB, blocksB, hn, c', and_self, decide_true, Bool.true_and, Bool.and_true]
  · refine Ev_f c1 (Ev_succ ?_)
    have c' : ¬ (40 ≤ l.length ∧ l.length ≤ 160) := by omega
    simp only [spec_GoodSpace.j0, goodB, blocksB, c', decide_false, Bool.false_and]
    exact Ev_t trivial (Ev.now _)
structure GoodS (l : List (List Int)) (b g t : List Int) : Prop where
  lo : 40 ≤ l.length
  hi : l.length ≤ 160
  bits : b.length = 20
  rows : ∀ p ∈ l, p.length = 128
  gone : listB l.length b g = true
  touched : listB l.length b t = true
theorem goodB_facts {l : List (List Int)} {b g t : List Int} (h : goodB l b g t = true) : GoodS l b g t := by
  simp only [goodB, blocksB, Bool.and_eq_true, decide_eq_true_eq, List.all_eq_true] at h
  obtain ⟨⟨⟨h1, h2⟩, h3⟩, h4, h5, h6, h7⟩ := h
  exact ⟨h1, h2, h4, h3, h6, h7⟩

theorem szIntS_val (l : List Int) (hl : l.length ≤ maxLen) (n : Int) (h0 : 0 ≤ n) (h1 : n ≤ 1048576) : ∃ r, laws_szIntS.f l n = some r ∧ r ≤ n ∧ (0 ≤ r → l.length ≤ 1048576) := by
  have hl0 : (l.length : Int) ≤ 9223372036854775807 := by simp only [maxLen] at hl; omega
  simp only [laws_szIntS.f]
  rw [w64 (n := n - (l.length : Int)) (by omega) (by omega)]
  by_cases c : n - (l.length : Int) < 0
  · exact ⟨-1, if_pos c, by omega, fun h => by omega⟩
  · exact ⟨n - (l.length : Int), if_neg c, by omega, fun h => by omega⟩
structure SpaceSz (l : List (List Int)) (b g t : List Int) : Prop where
  hl : l.length ≤ 1048576
  hz : ∀ p ∈ l, p.length ≤ 1048576
  hb : b.length ≤ 1048576
  hg : g.length ≤ 1048576
  ht : t.length ≤ 1048576
theorem szSpace_ev (l : List (List Int)) (b g t : List Int) (hw : l.length ≤ maxLen ∧ ∀ p ∈ l, p.length ≤ maxLen) (hb : b.length ≤ maxLen) (hg : g.length ≤ maxLen) (ht : t.length ≤ maxLen) (n : Int) (hn : 0 ≤ n) (hn' : n ≤ 1048576) :
    ∃ r, Ev (fun k => laws_szSpace.f k l b g t n) r ∧ r ≤ n ∧ (0 ≤ r → SpaceSz l b g t) := by
  obtain ⟨r1, h1, h2, h3⟩ := szByteSS_ev l hw n hn hn'
  simp only [laws_szSpace.f]
  by_cases c : r1 < 0
  · exact ⟨-1, Ev.bind h1 (Ev_t c (Ev.now _)), by omega, fun h => by omega⟩
  obtain ⟨r2, k1, k2, k3⟩ := szByteS_val b hb r1 (by omega) (by omega)
  by_cases c2 : r2 < 0
  · exact ⟨-1, Ev.bind h1 (Ev_f c (Ev_bind0 k1 (Ev_t c2 (Ev.now _)))), by omega, fun h => by omega⟩
  obtain ⟨r3, m1, m2, m3⟩ := szIntS_val g hg r2 (by omega) (by omega)
  by_cases c3 : r3 < 0
  · exact ⟨-1, Ev.bind h1 (Ev_f c (Ev_bind0 k1 (Ev_f c2 (Ev_bind0 m1 (Ev_t c3 (Ev.now _)))))), by omega, fun h => by omega⟩
  obtain ⟨r4, q1, q2, q3⟩ := szIntS_val t ht r3 (by omega) (by omega)
  by_cases c4 : r4 < 0
  · exact ⟨-1, Ev.bind h1 (Ev_f c (Ev_bind0 k1 (Ev_f c2 (Ev_bind0 m1 (Ev_f c3 (Ev_bind0 q1 (Ev_t c4 (Ev.now _)))))))), by omega, fun h => by omega⟩
  · exact ⟨r4, Ev.bind h1 (Ev_f c (Ev_bind0 k1 (Ev_f c2 (Ev_bind0 m1 (Ev_f c3 (Ev_bind0 q1 (Ev_f c4 (Ev.now _)))))))), by omega, fun h => ⟨(h3 (by omega)).1, (h3 (by omega)).2, k3 (by omega), m3 (by omega), q3 (by omega)⟩⟩
theorem toSpace_ev (l : List (List Int)) (b g t : List Int) (s : SpaceSz l b g t) : Ev (fun k => laws_toSpace.f k l b g t) (l, b, g, t) := by
  simp only [laws_toSpace.f]
  exact Ev.bind (toByteSS_ev l s.hl s.hz) (Ev.bind (toByteS_ev b s.hb) (Ev.bind (toIntS_ev g s.hg) (Ev.bind (toIntS_ev t s.ht) (Ev.now _))))
theorem eqSpace_ev (l : List (List Int)) (b g t : List Int) (s : SpaceSz l b g t) : Ev (fun k => laws_eqSpace.f k l b g t l b g t) true := by
  simp only [laws_eqSpace.f]
  exact Ev.bind (eqByteSS_ev l s.hl s.hz) (Ev_t rfl (Ev.bind (eqByteS_ev b (by have := s.hb; omega)) (Ev_t rfl (Ev.bind (eqIntS_ev g (by have := s.hg; omega)) (Ev_t rfl (Ev.bind (eqIntS_ev t (by have := s.ht; omega)) (Ev_t rfl (Ev.now _))))))))

theorem or8 {x y : Int} (hx : 0 ≤ x) (hx' : x ≤ 255) (hy : 0 ≤ y) (hy' : y ≤ 255) : Go.bits .or .i64 (x * 256) y = x * 256 + y :=
  Go.bits_join .i64 62 (by decide) (fun n h0 h1 => by have : n < 4611686018427387904 := h1; exact (IntKind.wrap_i64 n).trans (by omega)) 8 (x * 256) y (by omega) (by omega) (by show x * 256 < 4611686018427387904; omega) hy (by show y < 256; omega) (by show y < 4611686018427387904; omega)

theorem scanT_ev {g : Nat → Int → Option Bool} (n : Nat) (p : Nat → Bool)
    (ht : ∀ i, i < n → p i = true → ∀ r, Ev (fun k => g k ((i + 1 : Nat) : Int)) r → Ev (fun k => g k (i : Int)) r)
    (hf : ∀ i, i < n → p i = false → Ev (fun k => g k (i : Int)) true)
    (he : Ev (fun k => g k (n : Int)) false) : Ev (fun k => g k 0) (!((List.range n).all p)) := by
  have key : ∀ m i, i + m = n → Ev (fun k => g k (i : Int)) (!((List.range' i m).all p)) := by
    intro m
    induction m with
    | zero =>
      intro i hi
      obtain rfl : i = n := by omega
      simpa using he
    | succ m ih =>
      intro i hi
      rw [List.range'_succ, List.all_cons]
      cases hp : p i with
      | true => rw [Bool.true_and]; exact ht i (by omega) hp _ (ih (i + 1) (by omega))
      | false => rw [Bool.false_and]; exact hf i (by omega) hp
  have := key n 0 (by omega)
  rwa [← List.range_eq_range'] at this
theorem find_ev {g : Nat → Int → Option Int} (n : Nat) (p : Nat → Bool)
    (ht : ∀ i, i < n → p i = true → ∀ r, Ev (fun k => g k ((i + 1 : Nat) : Int)) r → Ev (fun k => g k (i : Int)) r)
    (hf : ∀ i, i < n → p i = false → Ev (fun k => g k (i : Int)) (i : Int))
    (he : Ev (fun k => g k (n : Int)) (-1)) : ∃ r, Ev (fun k => g k 0) r ∧ decide (r ≥ 0) = (!((List.range n).all p)) := by
  have key : ∀ m i, i + m = n → ∃ r, Ev (fun k => g k (i : Int)) r ∧ decide (r ≥ 0) = (!((List.range' i m).all p)) := by
    intro m
    induction m with
    | zero =>
      intro i hi
      obtain rfl : i = n := by omega
      exact ⟨-1, he, by simp⟩
    | succ m ih =>
      intro i hi
      rw [List.range'_succ, List.all_cons]
      cases hp : p i with
      | true =>
        obtain ⟨r, h1, h2⟩ := ih (i + 1) (by omega)
        rw [Bool.true_and]
        exact ⟨r, ht i (by omega) hp _ h1, h2⟩
      | false => rw [Bool.false_and]; exact ⟨i, hf i (by omega) hp, by simp⟩
  have := key n 0 (by omega)
  rwa [← List.range_eq_range'] at this

def noneIs (l : List Int) (x : Int) : Bool := (List.range l.length).all (fun i => decide (¬ l.getD i 0 = x))
theorem specHas_ev (l : List Int) (hl : l.length ≤ 1048576) (x : Int) : Ev (fun k => spec_l5Has.f k l x) (!noneIs l x) := by
  simp only [spec_l5Has.f]
  refine scanT_ev (g := fun k i => spec_l5Has.l0 k x l (l.length : Int) i) l.length _
    (fun i hi hp r hr => Ev_succ (by
      simp only [spec_l5Has.l0, rd_nat]
      rw [w64_succ hi (by omega)]
      simp only [decide_eq_true_eq] at hp
      exact Ev_t (by omega) (Ev_t (by omega) (Ev_t (by omega) (Ev_f hp hr)))))
    (fun i hi hp => Ev_succ (by
      simp only [spec_l5Has.l0, rd_nat]
      simp only [decide_eq_false_iff_not, Decidable.not_not] at hp
      exact Ev_t (by omega) (Ev_t (by omega) (Ev_t (by omega) (Ev_t hp (Ev.now _))))))
    (Ev_succ (by simp only [spec_l5Has.l0]; exact Ev_f (by omega) (Ev.now _)))
theorem implHas_ev (l : List Int) (hl : l.length ≤ 1048576) (x : Int) : Ev (fun k => slices_Contains_int_int.f k l x) (!noneIs l x) := by
  obtain ⟨r, h1, h2⟩ := find_ev (g := fun k i => slices_Index_int_int.l0 k l x (l.length : Int) i) l.length (fun i => decide (¬ l.getD i 0 = x))
    (fun i hi hp r hr => Ev_succ (by
      simp only [slices_Index_int_int.l0, rd_nat]
      rw [w64_succ hi (by omega)]
      simp only [decide_eq_true_eq] at hp
      exact Ev_t (by omega) (Ev_t (by omega) (Ev_t (by omega) (Ev_f (fun e => hp e.symm) hr)))))
    (fun i hi hp => Ev_succ (by
      simp only [slices_Index_int_int.l0, rd_nat]
      simp only [decide_eq_false_iff_not, Decidable.not_not] at hp
      exact Ev_t (by omega) (Ev_t (by omega) (Ev_t (by omega) (Ev_t hp.symm (Ev.now _))))))
    (Ev_succ (by simp only [slices_Index_int_int.l0]; exact Ev_f (by omega) (Ev.now _)))
  simp only [slices_Contains_int_int.f, slices_Index_int_int.f]
  exact Ev.bind h1 (Ev_eq (Ev.now _) h2)
def liveB (n : Nat) (b g : List Int) (x : Int) : Bool := inB n b x && noneIs g x
theorem specLive_ev (l : List (List Int)) (b g t : List Int) (s : GoodS l b g t) (hg : g.length ≤ 1048576) (x : Int) : Ev (fun k => spec_l5Live.f k l b g t x) (liveB l.length b g x) := by
  have hn := s.hi; have hn' := s.lo
  simp only [spec_l5Live.f, l1In_eq, Option.bind_some, decide_eq_true_eq]
  rw [w64 (n := (l.length : Int) - 1) (by omega) (by omega)]
  refine Ev_ite (fun c => ?_) (fun c => Ev_eq (Ev.now _) (by simp only [liveB, inB, c, decide_false, Bool.false_and]))
  have hz : x = (x.toNat : Int) := by omega
  have hu := specUsed_eq b x.toNat (by omega) s.bits
  rw [← hz] at hu
  refine Ev_bind0 hu (Ev_ite (fun h => ?_) (fun h => Ev_eq (Ev.now _) (by simp only [liveB, inB, h, Bool.and_false, Bool.false_and])))
  exact Ev.bind (specHas_ev g hg x) (Ev_eq (Ev.now _) (by simp only [liveB, inB, c, h, and_self, decide_true, Bool.true_and, Bool.not_not]))
theorem implHere_ev (l : List (List Int)) (b g t : List Int) (s : GoodS l b g t) (hg : g.length ≤ 1048576) (x : Int) : Ev (fun k => impl_Space_isHere.f k l b g t x) (liveB l.length b g x) := by
  simp only [impl_Space_isHere.f, implIsBlock_eq l b g t s.hi (by have := s.lo; omega) s.bits, Option.bind_some]
  refine Ev_ite (fun h => ?_) (fun h => Ev_eq (Ev.now _) (by simp only [liveB, h, Bool.false_and]))
  exact Ev.bind (implHas_ev g hg x) (Ev_eq (Ev.now _) (by simp only [liveB, h, Bool.true_and, Bool.not_not]))
theorem live_facts {n : Nat} {b g : List Int} {x : Int} (h : liveB n b g x = true) : 33 ≤ x ∧ x ≤ (n : Int) - 1 := by
  simp only [liveB, inB, Bool.and_eq_true, decide_eq_true_eq] at h
  exact h.1.1

theorem scanG_ev {α : Type} {g : Nat → Int → Option α} (n : Nat) (p : Nat → Bool) (R F : α)
    (ht : ∀ i, i < n → p i = true → ∀ r, Ev (fun k => g k ((i + 1 : Nat) : Int)) r → Ev (fun k => g k (i : Int)) r)
    (hf : ∀ i, i < n → p i = false → Ev (fun k => g k (i : Int)) F)
    (he : (List.range n).all p = true → Ev (fun k => g k (n : Int)) R) : Ev (fun k => g k 0) (if (List.range n).all p = true then R else F) := by
  by_cases hall : (List.range n).all p = true
  · rw [if_pos hall]
    have hp : ∀ i, i < n → p i = true := fun i hi => List.all_eq_true.1 hall i (List.mem_range.2 hi)
    have key : ∀ m i, i + m = n → Ev (fun k => g k (i : Int)) R := by
      intro m
      induction m with
      | zero => intro i hi; obtain rfl : i = n := by omega
                exact he hall
      | succ m ih => intro i hi; exact ht i (by omega) (hp i (by omega)) _ (ih (i + 1) (by omega))
    exact key n 0 (by omega)
  · rw [if_neg hall]
    have key : ∀ m i, i + m = n → (List.range' i m).all p = false → Ev (fun k => g k (i : Int)) F := by
      intro m
      induction m with
      | zero => intro i hi h; simp at h
      | succ m ih =>
        intro i hi h
        rw [List.range'_succ, List.all_cons] at h
        cases hp : p i with
        | true => rw [hp, Bool.true_and] at h; exact ht i (by omega) hp _ (ih (i + 1) (by omega) h)
        | false => exact hf i (by omega) hp
    exact key n 0 (by omega) (by rw [← List.range_eq_range']; simpa using hall)
/-- A loop that appends a value a round. -/
theorem apps_ev {α γ : Type} {g : Nat → List α → Int → Option γ} (n : Nat) (v : Nat → α) (R : γ)
    (hstep : ∀ (x : List α) (i : Nat), x.length = i → i < n → ∀ r, Ev (fun k => g k (x ++ [v i]) ((i + 1 : Nat) : Int)) r → Ev (fun k => g k x (i : Int)) r)
    (hend : Ev (fun k => g k ((List.range n).map v) (n : Int)) R) : Ev (fun k => g k [] 0) R := by
  have key : ∀ m i, i + m = n → Ev (fun k => g k ((List.range i).map v) (i : Int)) R := by
    intro m
    induction m with
    | zero => intro i hi; obtain rfl : i = n := by omega
              exact hend
    | succ m ih =>
      intro i hi
      refine hstep _ i (by simp) (by omega) _ ?_
      have h := ih (i + 1) (by omega)
      rw [List.range_succ, List.map_append] at h
      exact h
  exact key n 0 (by omega)
def zeroB (xs : List Int) : Bool := (List.range xs.length).all (fun i => decide (xs.getD i 0 = 0))
theorem specAny_ev (xs : List Int) (hl : xs.length ≤ 1048576) : Ev (fun k => spec_l6Any.f k xs) (!zeroB xs) := by
  simp only [spec_l6Any.f]
  refine scanT_ev (g := fun k i => spec_l6Any.l0 k xs (xs.length : Int) i) xs.length _
    (fun i hi hp r hr => Ev_succ (by
      simp only [spec_l6Any.l0, rd_nat]
      rw [w64_succ hi (by omega)]
      simp only [decide_eq_true_eq] at hp
      exact Ev_t (by omega) (Ev_t (by omega) (Ev_t (by omega) (Ev_t hp hr)))))
    (fun i hi hp => Ev_succ (by
      simp only [spec_l6Any.l0, rd_nat]
      simp only [decide_eq_false_iff_not] at hp
      exact Ev_t (by omega) (Ev_t (by omega) (Ev_t (by omega) (Ev_f hp (Ev.now _))))))
    (Ev_succ (by simp only [spec_l6Any.l0]; exact Ev_f (by omega) (Ev.now _)))
theorem implEmpty_ev (xs : List Int) (hl : xs.length ≤ 1048576) : Ev (fun k => impl_isEmpty.f k xs) (zeroB xs) := by
  obtain ⟨r, h1, h2⟩ := find_ev (g := fun k i => slices_IndexFunc_int_int_83.l0 k xs (xs.length : Int) i) xs.length (fun i => decide (xs.getD i 0 = 0))
    (fun i hi hp r hr => Ev_succ (by
      simp only [slices_IndexFunc_int_int_83.l0, rd_nat, impl_isEmpty_1.f, Option.bind_some]
      rw [w64_succ hi (by omega)]
      simp only [decide_eq_true_eq] at hp
      exact Ev_t (by omega) (Ev_t (by omega) (Ev_t (by omega) (Ev_f (by rw [hp]; decide) hr)))))
    (fun i hi hp => Ev_succ (by
      simp only [slices_IndexFunc_int_int_83.l0, rd_nat, impl_isEmpty_1.f, Option.bind_some]
      simp only [decide_eq_false_iff_not] at hp
      exact Ev_t (by omega) (Ev_t (by omega) (Ev_t (by omega) (Ev_t (by simpa using hp) (Ev.now _))))))
    (Ev_succ (by simp only [slices_IndexFunc_int_int_83.l0]; exact Ev_f (by omega) (Ev.now _)))
  simp only [impl_isEmpty.f, slices_ContainsFunc_int_int_83.f, slices_IndexFunc_int_int_83.f]
  exact Ev.bind (Ev.bind h1 (Ev.now _)) (Ev_eq (Ev.now _) (by rw [h2]; simp [zeroB]))
def okV (n : Nat) (b : List Int) (xs : List Int) : Bool := (List.range xs.length).all (fun i => decide (xs.getD i 0 = 0) || inB n b (xs.getD i 0))
theorem implOkV_ev (l : List (List Int)) (b g t : List Int) (s : GoodS l b g t) (xs : List Int) (hl : xs.length ≤ 1048576) : Ev (fun k => slices_ContainsFunc_int_int_71.f k xs l b g t) (!okV l.length b xs) := by
  have hi' := s.hi; have lo := s.lo
  obtain ⟨r, h1, h2⟩ := find_ev (g := fun k i => slices_IndexFunc_int_int_71.l0 k xs (xs.length : Int) i l b g t) xs.length (fun i => decide (xs.getD i 0 = 0) || inB l.length b (xs.getD i 0))
    (fun i hi hp r hr => Ev_succ (by
      simp only [slices_IndexFunc_int_int_71.l0, rd_nat, impl_Space_tree_1.f, implIsBlock_eq l b g t hi' (by omega) s.bits, Option.bind_some]
      rw [w64_succ hi (by omega)]
      simp only [Bool.or_eq_true, decide_eq_true_eq] at hp
      refine Ev_t (by omega) (Ev_t (by omega) (Ev_t (by omega) ?_))
      by_cases c : xs.getD i 0 = 0
      · simp only [if_pos c, Option.bind_some]; exact Ev_f (by decide) hr
      · have h := hp.resolve_left c
        simp only [if_neg c, Option.bind_some, h]; exact Ev_f (by decide) hr))
    (fun i hi hp => Ev_succ (by
      simp only [slices_IndexFunc_int_int_71.l0, rd_nat, impl_Space_tree_1.f, implIsBlock_eq l b g t hi' (by omega) s.bits, Option.bind_some]
      simp only [Bool.or_eq_false_iff, decide_eq_false_iff_not] at hp
      refine Ev_t (by omega) (Ev_t (by omega) (Ev_t (by omega) ?_))
      simp only [if_neg hp.1, Option.bind_some, hp.2]; exact Ev_t rfl (Ev.now _)))
    (Ev_succ (by simp only [slices_IndexFunc_int_int_71.l0]; exact Ev_f (by omega) (Ev.now _)))
  simp only [slices_ContainsFunc_int_int_71.f, slices_IndexFunc_int_int_71.f]
  exact Ev.bind h1 (Ev_eq (Ev.now _) h2)
theorem specValue_eq (l : List (List Int)) (b g t : List Int) (s : GoodS l b g t) (x : Int) : spec_l6Value.f l b g t x = some (inB l.length b x) := by
  have hn := s.hi; have hn' := s.lo
  simp only [spec_l6Value.f, l1In_eq, Option.bind_some, decide_eq_true_eq]
  rw [w64 (n := (l.length : Int) - 1) (by omega) (by omega)]
  by_cases c : 33 ≤ x ∧ x ≤ (l.length : Int) - 1
  · have hz : x = (x.toNat : Int) := by omega
    have hu := specUsed_eq b x.toNat (by omega) s.bits
    rw [← hz] at hu
    rw [if_pos c, hu]; simp only [Option.bind_some, inB, c, and_self, decide_true, Bool.true_and]
  · rw [if_neg c]; simp only [inB, c, decide_false, Bool.false_and]
structure RowOk (row : List Int) : Prop where
  len : row.length = 128
  byte : ∀ y ∈ row, 0 ≤ y ∧ y ≤ 255
theorem RowOk.at {row : List Int} (h : RowOk row) (i : Nat) (hi : i < 128) : 0 ≤ row.getD i 0 ∧ row.getD i 0 ≤ 255 := h.byte _ (getD_mem 0 (by rw [h.len]; exact hi))
def num2 (row : List Int) (i : Nat) : Int := row.getD (1 + 2 * i) 0 * 256 + row.getD (2 + 2 * i) 0
def pageN (row : List Int) : List Int := (List.range 32).map (num2 row)
theorem pageN_len (row : List Int) : (pageN row).length = 32 := by simp [pageN]
theorem pageN_at (row : List Int) (i : Nat) (h : i < 32) : (pageN row).getD i 0 = num2 row i := by
  simp [pageN, List.getD, List.getElem?_map, List.getElem?_range h]
def tailB (row : List Int) : Bool := zeroB (row.drop 65)
def numsOk (l : List (List Int)) (b g : List Int) (x tag : Int) : Bool := liveB l.length b g x && (decide ((l.getD x.toNat []).getD 0 0 = tag) && tailB (l.getD x.toNat []))
def numsB (l : List (List Int)) (b g : List Int) (x tag : Int) : List Int × Bool := if numsOk l b g x tag = true then (pageN (l.getD x.toNat []), true) else ([], false)
theorem w1 (i : Nat) (h : i < 32) : wrap64 (1 + wrap64 (2 * (i : Int))) = ((1 + 2 * i : Nat) : Int) := by rw [w64 (n := 2 * (i : Int)) (by omega) (by omega), w64 (by omega) (by omega)]; omega
theorem w2 (i : Nat) (h : i < 32) : wrap64 (2 + wrap64 (2 * (i : Int))) = ((2 + 2 * i : Nat) : Int) := by rw [w64 (n := 2 * (i : Int)) (by omega) (by omega), w64 (by omega) (by omega)]; omega
theorem specPage_ev (l : List (List Int)) (b g t : List Int) (p : Nat) (hp : p < l.length) (hr : RowOk (l.getD p [])) : Ev (fun k => spec_l6Numbers.l0 k (p : Int) [] 0 l b g t) (if tailB (l.getD p []) = true then (pageN (l.getD p []), true) else ([], false)) := by
  refine apps_ev (g := fun k x i => spec_l6Numbers.l0 k (p : Int) x i l b g t) 32 (num2 (l.getD p [])) _ ?_ ?_
  · intro x i hx hi r h
    refine Ev_succ ?_
    simp only [spec_l6Numbers.l0, rd_L_nat, w1 i hi, w2 i hi, rd_nat]
    have h1 := hr.at (1 + 2 * i) (by omega); have h2 := hr.at (2 + 2 * i) (by omega); have hl := hr.len
    rw [w64_succ (n := 32) hi (by omega)]
    generalize hrow : l.getD p [] = row at *
    have e : wrap64 (wrap64 (wrap64 (row.getD (1 + 2 * i) 0) * 256) + wrap64 (row.getD (2 + 2 * i) 0)) = num2 row i := by
      rw [w64 (n := row.getD (1 + 2 * i) 0) (by omega) (by omega), w64 (n := row.getD (2 + 2 * i) 0) (by omega) (by omega), w64 (n := row.getD (1 + 2 * i) 0 * 256) (by omega) (by omega), w64 (by omega) (by omega)]; rfl
    rw [e]
    exact Ev_t (by omega) (Ev_t (by omega) (Ev_t (by omega) (Ev_t (by omega) (Ev_t (by omega) (Ev_t (by omega) (Ev_t (by omega) (Ev_t (by omega) h)))))))
  · refine Ev_succ ?_
    have hl := hr.len
    simp only [spec_l6Numbers.l0, rd_L_nat]
    generalize l.getD p [] = row at *
    refine Ev_f (by omega) (Ev_t (by omega) (Ev_t (by omega) (Ev_t (by omega) ?_)))
    have hd : (row.drop 65).length = 63 := by simp; omega
    refine scanG_ev (g := fun k i => spec_l6Numbers.l1 k (pageN row) (row.drop 65) ((row.drop 65).length : Int) i) (row.drop 65).length (fun i => decide ((row.drop 65).getD i 0 = 0)) (pageN row, true) ([], false) ?_ ?_ ?_
    · intro i hi hp' r h
      refine Ev_succ ?_
      simp only [spec_l6Numbers.l1, rd_nat]
      rw [w64_succ hi (by omega)]
      simp only [decide_eq_true_eq] at hp'
      exact Ev_t (by omega) (Ev_t (by omega) (Ev_t (by omega) (Ev_t hp' h)))
    · intro i hi hp'
      refine Ev_succ ?_
      simp only [spec_l6Numbers.l1, rd_nat]
      simp only [decide_eq_false_iff_not] at hp'
      exact Ev_t (by omega) (Ev_t (by omega) (Ev_t (by omega) (Ev_f hp' (Ev.now _))))
    · intro _; exact Ev_succ (by simp only [spec_l6Numbers.l1]; exact Ev_f (by omega) (Ev.now _))
structure SpOk (l : List (List Int)) (b g t : List Int) : Prop where
  s : GoodS l b g t
  hg : g.length ≤ 1048576
  hby : ∀ r ∈ l, ∀ y ∈ r, 0 ≤ y ∧ y ≤ 255
theorem SpOk.row {l : List (List Int)} {b g t : List Int} (z : SpOk l b g t) (p : Nat) (hp : p < l.length) : RowOk (l.getD p []) := ⟨z.s.rows _ (getD_mem [] hp), z.hby _ (getD_mem [] hp)⟩
theorem specNumbers_ev (l : List (List Int)) (b g t : List Int) (z : SpOk l b g t) (x tag : Int) : Ev (fun k => spec_l6Numbers.f k l b g t x tag) (numsB l b g x tag) := by
  simp only [spec_l6Numbers.f]
  refine Ev.bind (specLive_ev l b g t z.s z.hg x) ?_
  cases hl : liveB l.length b g x with
  | false =>
    refine Ev_f (by decide) (Ev_succ ?_)
    simp only [spec_l6Numbers.j0]
    exact Ev_t trivial (Ev_eq (Ev.now _) (by simp [numsB, numsOk, hl]))
  | true =>
    have hf := live_facts hl
    obtain ⟨p, rfl⟩ : ∃ p : Nat, x = (p : Int) := ⟨x.toNat, by omega⟩
    have hp : p < l.length := by omega
    have hr := z.row p hp
    have r0 : rd (l.getD p []) 0 = (l.getD p []).getD 0 0 := rd_nat _ 0
    have hlen := hr.len
    simp only [rd_L_nat, r0]
    refine Ev_t (by trivial) (Ev_t (by omega) (Ev_t (by omega) (Ev_t (by omega) (Ev_succ ?_))))
    simp only [spec_l6Numbers.j0]
    refine Ev_ite (fun h => Ev_eq (Ev.now _) ?_) (fun h => Ev_eq (specPage_ev l b g t p hp hr) ?_)
    · have h' : ¬ (l.getD p []).getD 0 0 = tag := by simpa using h
      simp only [numsB, numsOk, Int.toNat_natCast, h', decide_false, Bool.false_and, Bool.and_false, if_neg (show ¬ (false = true) by decide)]
    · have h' : (l.getD p []).getD 0 0 = tag := by simpa using h
      simp only [numsB, numsOk, Int.toNat_natCast, h', hl, decide_true, Bool.true_and]
theorem implNum_eq (row : List Int) (hr : RowOk row) (i : Nat) (hi : i < 32) : impl_numberAt.f row (wrap64 (1 + wrap64 (2 * (i : Int)))) = some (num2 row i) := by
  have h1 := hr.at (1 + 2 * i) (by omega); have h2 := hr.at (2 + 2 * i) (by omega); have hl := hr.len
  simp only [impl_numberAt.f, w1 i hi]
  have e : wrap64 (((1 + 2 * i : Nat) : Int) + 1) = ((2 + 2 * i : Nat) : Int) := by rw [w64 (by omega) (by omega)]; omega
  rw [e, if_pos (by omega), if_pos (by omega), if_pos (by omega), if_pos (by omega)]
  simp only [rd_nat]
  rw [w64 (n := row.getD (1 + 2 * i) 0) (by omega) (by omega), w64 (n := row.getD (2 + 2 * i) 0) (by omega) (by omega), w64 (n := row.getD (1 + 2 * i) 0 * 256) (by omega) (by omega), or8 h1.1 h1.2 h2.1 h2.2]
  rfl
theorem implTail_ev (xs : List Int) (hd : xs.length ≤ 1048576) : Ev (fun k => slices_ContainsFunc_byte_byte_80.f k xs ()) (!zeroB xs) := by
  obtain ⟨r, h1, h2⟩ := find_ev (g := fun k i => slices_IndexFunc_byte_byte_92.l0 k xs (xs.length : Int) i) xs.length (fun i => decide (xs.getD i 0 = 0))
    (fun i hi hp r hr => Ev_succ (by
      simp only [slices_IndexFunc_byte_byte_92.l0, rd_nat, impl_Space_page_1.f, Option.bind_some]
      rw [w64_succ hi (by omega)]
      simp only [decide_eq_true_eq] at hp
      exact Ev_t (by omega) (Ev_t (by omega) (Ev_t (by omega) (Ev_f (by rw [hp]; decide) hr)))))
    (fun i hi hp => Ev_succ (by
      simp only [slices_IndexFunc_byte_byte_92.l0, rd_nat, impl_Space_page_1.f, Option.bind_some]
      simp only [decide_eq_false_iff_not] at hp
      exact Ev_t (by omega) (Ev_t (by omega) (Ev_t (by omega) (Ev_t (by simpa using hp) (Ev.now _))))))
    (Ev_succ (by simp only [slices_IndexFunc_byte_byte_92.l0]; exact Ev_f (by omega) (Ev.now _)))
  simp only [slices_ContainsFunc_byte_byte_80.f, slices_IndexFunc_byte_byte_92.f]
  exact Ev.bind h1 (Ev_eq (Ev.now _) h2)
theorem implPage_ev (l : List (List Int)) (b g t : List Int) (z : SpOk l b g t) (x tag : Int) : Ev (fun k => impl_Space_page.f k l b g t x tag) (numsB l b g x tag) := by
  simp only [impl_Space_page.f]
  refine Ev.bind (implHere_ev l b g t z.s z.hg x) ?_
  cases hl : liveB l.length b g x with
  | false =>
    refine Ev_f (by decide) (Ev_succ ?_)
    simp only [impl_Space_page.j0]
    exact Ev_t trivial (Ev_eq (Ev.now _) (by simp [numsB, numsOk, hl]))
  | true =>
    have hf := live_facts hl
    obtain ⟨p, rfl⟩ : ∃ p : Nat, x = (p : Int) := ⟨x.toNat, by omega⟩
    have hp : p < l.length := by omega
    have hr := z.row p hp
    have r0 : rd (l.getD p []) 0 = (l.getD p []).getD 0 0 := rd_nat _ 0
    have hlen := hr.len
    simp only [rd_L_nat, r0]
    refine Ev_t (by trivial) (Ev_t (by omega) (Ev_t (by omega) (Ev_t (by omega) (Ev_succ ?_))))
    simp only [impl_Space_page.j0, rd_L_nat]
    refine Ev_ite (fun h => Ev_eq (Ev.now _) ?_) (fun h => ?_)
    · have h' : ¬ (l.getD p []).getD 0 0 = tag := by simpa using h
      simp only [numsB, numsOk, Int.toNat_natCast, h', decide_false, Bool.false_and, Bool.and_false, if_neg (show ¬ (false = true) by decide)]
    · have h' : (l.getD p []).getD 0 0 = tag := by simpa using h
      simp only [numsB, numsOk, Int.toNat_natCast, h', hl, decide_true, Bool.true_and]
      clear h h' r0
      generalize l.getD p [] = row at *
      refine Ev_t (by omega) (Ev_t (by omega) (Ev_t (by omega) (Ev.bind (implTail_ev (row.drop 65) (by simp; omega)) ?_)))
      refine Ev_ite (fun h => Ev_eq (Ev.now _) ?_) (fun h => ?_)
      · have : tailB row = false := by simpa [tailB] using h
        rw [this, if_neg (by decide)]
      · have : tailB row = true := by simpa [tailB] using h
        rw [this, if_pos rfl]
        refine apps_ev (g := fun k x i => impl_Space_page.l0 k row x i) 32 (num2 row) _ ?_ (Ev_succ (by simp only [impl_Space_page.l0]; exact Ev_f (by omega) (Ev.now _)))
        intro x i hx hi r h
        refine Ev_succ ?_
        simp only [impl_Space_page.l0, implNum_eq row hr i hi, Option.bind_some]
        rw [w64_succ (n := 32) hi (by omega)]
        exact Ev_t (by omega) (Ev_t (by omega) h)
def upd {α : Type} (n : Nat) (d : α) (v : Nat → α) (c : Nat → Bool) (i : Nat) : List α := (List.range n).map (fun j => if j < i ∧ c j = true then v j else d)
theorem upd_len {α : Type} (n : Nat) (d : α) (v : Nat → α) (c : Nat → Bool) (i : Nat) : (upd n d v c i).length = n := by simp [upd]
theorem upd_zero {α : Type} (n : Nat) (d : α) (v : Nat → α) (c : Nat → Bool) : upd n d v c 0 = List.replicate n d := by
  apply List.ext_getElem (by simp [upd])
  intro j h1 h2
  simp [upd]
theorem upd_set {α : Type} (n : Nat) (d : α) (v : Nat → α) (c : Nat → Bool) (i : Nat) (hi : i < n) (hc : c i = true) : (upd n d v c i).set i (v i) = upd n d v c (i + 1) := by
  apply List.ext_getElem (by simp [upd])
  intro j h1 h2
  simp only [upd, List.getElem_set, List.getElem_map, List.getElem_range]
  by_cases e : i = j
  · subst e; simp [hc]
  · rw [if_neg e]
    by_cases h : j < i
    · have h' : j < i + 1 := by omega
      simp [h, h']
    · have h' : ¬ j < i + 1 := by omega
      simp [h, h']
theorem upd_skip {α : Type} (n : Nat) (d : α) (v : Nat → α) (c : Nat → Bool) (i : Nat) (hc : c i = false) : upd n d v c i = upd n d v c (i + 1) := by
  apply List.ext_getElem (by simp [upd])
  intro j h1 h2
  simp only [upd, List.getElem_map, List.getElem_range]
  by_cases e : i = j
  · subst e; simp [hc]
  · by_cases h : j < i
    · have h' : j < i + 1 := by omega
      simp [h, h']
    · have h' : ¬ j < i + 1 := by omega
      simp [h, h']
def pg (l : List (List Int)) (x : Int) : List Int := pageN (l.getD x.toNat [])
def hasC (top : List Int) (i : Nat) : Bool := !decide (top.getD i 0 = 0)
def stepB (l : List (List Int)) (b g : List Int) (top : List Int) (i : Nat) : Bool := noneIs (top.take i) (top.getD i 0) && (numsOk l b g (top.getD i 0) 81 && (!zeroB (pg l (top.getD i 0)) && okV l.length b (pg l (top.getD i 0))))
def leafB (l : List (List Int)) (b g : List Int) (top : List Int) (i : Nat) : Bool := !hasC top i || stepB l b g top i
def spL (l : List (List Int)) (top : List Int) (i : Nat) : List (List Int) := upd 32 [] (fun j => pg l (top.getD j 0)) (hasC top) i
def imV (l : List (List Int)) (top : List Int) (i : Nat) : List (List Int) := upd 32 (List.replicate 32 0) (fun j => pg l (top.getD j 0)) (hasC top) i
def imL (top : List Int) (i : Nat) : List Int := upd 32 0 (fun j => top.getD j 0) (hasC top) i
theorem imL_all (top : List Int) (h : top.length = 32) : imL top 32 = top := by
  apply List.ext_getElem (by simp [imL, upd, h])
  intro j h1 h2
  have hj : j < 32 := by simpa [imL, upd] using h1
  simp only [imL, upd, List.getElem_map, List.getElem_range, hasC]
  have e : top.getD j 0 = top[j] := by simp [List.getD, h2]
  rw [e]
  by_cases c : top[j] = 0
  · simp [c]
  · simp [c, hj]
def topOk (l : List (List Int)) (b g : List Int) (a : Int) : Bool := numsOk l b g a 80 && (!zeroB (pg l a) && (List.range 32).all (leafB l b g (pg l a)))
def specR (l : List (List Int)) (b g : List Int) (a : Int) : List (List Int) × List Int × Bool := if a = 0 then (List.replicate 32 [], List.replicate 32 0, true) else if topOk l b g a = true then (spL l (pg l a) 32, pg l a, true) else ([], [], false)
def implR (l : List (List Int)) (b g : List Int) (a : Int) : Int × List Int × List (List Int) × Bool := if a = 0 then (a, List.replicate 32 0, List.replicate 32 (List.replicate 32 0), true) else if topOk l b g a = true then (a, pg l a, imV l (pg l a) 32, true) else (0, [], [], false)
theorem pg_len (l : List (List Int)) (a : Int) : (pg l a).length = 32 := pageN_len _
theorem numsB_t {l : List (List Int)} {b g : List Int} {x tag : Int} (h : numsOk l b g x tag = true) : numsB l b g x tag = (pg l x, true) := by simp only [numsB, h, if_true, pg]
theorem numsB_f {l : List (List Int)} {b g : List Int} {x tag : Int} (h : numsOk l b g x tag = false) : numsB l b g x tag = ([], false) := by simp only [numsB, h, if_neg (show ¬ (false = true) by decide)]
set_option maxHeartbeats 4000000 in
theorem specStep_ev (l : List (List Int)) (b g t : List Int) (z : SpOk l b g t) (top : List Int) (ht : top.length = 32) (i : Nat) (hi : i < 32) (v : List (List Int)) (hv : v.length = 32) (R : List (List Int) × List Int × Bool)
    (hR : stepB l b g top i = true → Ev (fun k => spec_l6Tree.l0 k (v.set i (pg l (top.getD i 0))) top top (top.length : Int) ((i + 1 : Nat) : Int) l b g t) R)
    (hF : stepB l b g top i = false → R = ([], [], false)) :
    Ev (fun k => spec_l6Tree.l1 k v top (i : Int) (top.getD i 0) top (top.length : Int) (i : Int) (top.take i) ((top.take i).length : Int) 0 l b g t) R := by
  have hlt : (top.take i).length = i := by rw [List.length_take]; omega
  have hpl := pg_len l (top.getD i 0)
  have fail_j : ∀ (y : List Int) (c : Bool), c = true → Ev (fun k => spec_l6Tree.j3 k v top (i : Int) y top (top.length : Int) (i : Int) c l b g t) ([], [], false) := fun y c hc => Ev_succ (by simp only [spec_l6Tree.j3]; exact Ev_t hc (Ev.now _))
  have h := scanG_ev (g := fun k j => spec_l6Tree.l1 k v top (i : Int) (top.getD i 0) top (top.length : Int) (i : Int) (top.take i) ((top.take i).length : Int) j l b g t) (top.take i).length (fun j => decide (¬ (top.take i).getD j 0 = top.getD i 0)) R ([], [], false)
    (fun j hj hp r hr => Ev_succ (by
      simp only [spec_l6Tree.l1, rd_nat]
      rw [w64_succ hj (by omega)]
      simp only [decide_eq_true_eq] at hp
      exact Ev_t (by omega) (Ev_t (by omega) (Ev_t (by omega) (Ev_f hp hr)))))
    (fun j hj hp => Ev_succ (by
      simp only [spec_l6Tree.l1, rd_nat]
      simp only [decide_eq_false_iff_not, Decidable.not_not] at hp
      exact Ev_t (by omega) (Ev_t (by omega) (Ev_t (by omega) (Ev_t hp (Ev.now _))))))
    (fun hA => Ev_succ (by
      have hA' : noneIs (top.take i) (top.getD i 0) = true := hA
      simp only [spec_l6Tree.l1]
      refine Ev_f (by omega) (Ev.bind (specNumbers_ev l b g t z (top.getD i 0) 81) ?_)
      cases hB : numsOk l b g (top.getD i 0) 81 with
      | false =>
        rw [numsB_f hB]
        exact Ev_f (by decide) (Ev_eq (fail_j _ _ rfl) (hF (by simp only [stepB, hB, Bool.false_and, Bool.and_false])).symm)
      | true =>
        rw [numsB_t hB]
        refine Ev_t rfl (Ev.bind (specAny_ev (pg l (top.getD i 0)) (by omega)) ?_)
        cases hC : zeroB (pg l (top.getD i 0)) with
        | true => exact Ev_eq (fail_j _ _ rfl) (hF (by simp only [stepB, hC, Bool.not_true, Bool.false_and, Bool.and_false])).symm
        | false =>
          have h2 := scanG_ev (g := fun k j => spec_l6Tree.l2 k v top (i : Int) (pg l (top.getD i 0)) top (top.length : Int) (i : Int) (pg l (top.getD i 0)) ((pg l (top.getD i 0)).length : Int) j l b g t) (pg l (top.getD i 0)).length (fun j => decide ((pg l (top.getD i 0)).getD j 0 = 0) || inB l.length b ((pg l (top.getD i 0)).getD j 0)) R ([], [], false)
            (fun j hj hp r hr => Ev_succ (by
              simp only [spec_l6Tree.l2, rd_nat, specValue_eq l b g t z.s, Option.bind_some]
              rw [w64_succ hj (by omega)]
              simp only [Bool.or_eq_true, decide_eq_true_eq] at hp
              exact Ev_t (by omega) (Ev_t (by omega) (Ev_t (by omega) (Ev_ite (fun _ => hr) (fun c => Ev_t (hp.resolve_left c) hr))))))
            (fun j hj hp => Ev_succ (by
              simp only [spec_l6Tree.l2, rd_nat, specValue_eq l b g t z.s, Option.bind_some]
              simp only [Bool.or_eq_false_iff, decide_eq_false_iff_not] at hp
              exact Ev_t (by omega) (Ev_t (by omega) (Ev_t (by omega) (Ev_f hp.1 (Ev_f (by rw [hp.2]; decide) (Ev.now _)))))))
            (fun hD => Ev_succ (by
              have hD' : okV l.length b (pg l (top.getD i 0)) = true := hD
              simp only [spec_l6Tree.l2, Int.toNat_natCast]
              rw [w64_succ (n := 32) hi (by omega)]
              exact Ev_f (by omega) (Ev_t (by omega) (Ev_t (by omega) (hR (by simp only [stepB, hA', hB, hC, hD', Bool.not_false, Bool.and_true]))))))
          refine Ev_succ ?_
          simp only [spec_l6Tree.j3]
          refine Ev_f (by decide) (Ev_eq h2 ?_)
          by_cases hD : okV l.length b (pg l (top.getD i 0)) = true
          · exact if_pos hD
          · have hD' : okV l.length b (pg l (top.getD i 0)) = false := by simpa using hD
            exact (if_neg hD).trans (hF (by simp only [stepB, hD', Bool.and_false])).symm))
  refine Ev_eq h ?_
  by_cases hA : noneIs (top.take i) (top.getD i 0) = true
  · exact if_pos hA
  · have hA' : noneIs (top.take i) (top.getD i 0) = false := by simpa using hA
    exact (if_neg hA).trans (hF (by simp only [stepB, hA', Bool.false_and])).symm
theorem specTop_ev (l : List (List Int)) (b g t : List Int) (z : SpOk l b g t) (top : List Int) (ht : top.length = 32) :
    ∀ (m i : Nat), i + m = 32 → Ev (fun k => spec_l6Tree.l0 k (spL l top i) top top (top.length : Int) (i : Int) l b g t) (if (List.range' i m).all (leafB l b g top) = true then (spL l top 32, top, true) else ([], [], false)) := by
  intro m
  induction m with
  | zero =>
    intro i hi
    obtain rfl : i = 32 := by omega
    refine Ev_succ ?_
    simp only [spec_l6Tree.l0]
    exact Ev_f (by omega) (Ev_eq (Ev.now _) (by simp))
  | succ m ih =>
    intro i hi
    refine Ev_succ ?_
    simp only [spec_l6Tree.l0, rd_nat, Int.toNat_natCast]
    rw [w64_succ (n := 32) (i := i) (by omega) (by omega), List.range'_succ, List.all_cons]
    refine Ev_t (by omega) (Ev_t (by omega) (Ev_t (by omega) (Ev_ite (fun h0 => ?_) (fun h0 => ?_))))
    · have hc : hasC top i = false := by simp only [hasC, h0, decide_true, Bool.not_true]
      have e : leafB l b g top i = true := by simp only [leafB, hc, Bool.not_false, Bool.true_or]
      have hu : spL l top i = spL l top (i + 1) := upd_skip _ _ _ _ i hc
      rw [e, Bool.true_and, hu]
      exact ih (i + 1) (by omega)
    · have hc : hasC top i = true := by simp only [hasC, h0, decide_false, Bool.not_false]
      have e : leafB l b g top i = stepB l b g top i := by simp only [leafB, hc, Bool.not_true, Bool.false_or]
      have hu : (spL l top i).set i (pg l (top.getD i 0)) = spL l top (i + 1) := upd_set _ _ _ _ i (by omega) hc
      rw [e]
      refine Ev_t (by omega) (Ev_bind0 rfl (specStep_ev l b g t z top ht i (by omega) (spL l top i) (upd_len _ _ _ _ _) _ (fun hs => ?_) (fun hs => ?_)))
      · rw [hu, hs, Bool.true_and]; exact ih (i + 1) (by omega)
      · rw [hs, Bool.false_and, if_neg (by decide)]
theorem specTree_ev (l : List (List Int)) (b g t : List Int) (z : SpOk l b g t) (a : Int) : Ev (fun k => spec_l6Tree.f k l b g t a) (specR l b g a) := by
  simp only [spec_l6Tree.f]
  refine Ev_t (by omega) (Ev_bind0 rfl (Ev_t (by omega) (Ev_ite (fun h => Ev_eq (Ev.now _) (by simp only [specR, h, if_true])) (fun h => ?_))))
  have hf : ∀ (y : List Int) (c : Bool), c = true → Ev (fun k => spec_l6Tree.j0 k (List.replicate 32 []) y c l b g t) ([], [], false) := fun y c hc => Ev_succ (by simp only [spec_l6Tree.j0]; exact Ev_t hc (Ev.now _))
  refine Ev.bind (specNumbers_ev l b g t z a 80) ?_
  simp only [specR, if_neg h]
  cases hB : numsOk l b g a 80 with
  | false =>
    rw [numsB_f hB]
    exact Ev_f (by decide) (Ev_eq (hf _ _ rfl) (by simp only [topOk, hB, Bool.false_and, if_neg (show ¬ (false = true) by decide)]))
  | true =>
    rw [numsB_t hB]
    have hpl := pg_len l a
    refine Ev_t rfl (Ev.bind (specAny_ev (pg l a) (by omega)) ?_)
    cases hC : zeroB (pg l a) with
    | true => exact Ev_eq (hf _ _ rfl) (by simp only [topOk, hC, Bool.not_true, Bool.false_and, Bool.and_false, if_neg (show ¬ (false = true) by decide)])
    | false =>
      refine Ev_succ ?_
      simp only [spec_l6Tree.j0]
      refine Ev_f (by decide) ?_
      have h2 := specTop_ev l b g t z (pg l a) hpl 32 0 (by omega)
      have e0 : spL l (pg l a) 0 = List.replicate 32 [] := upd_zero _ _ _ _
      rw [e0, ← List.range_eq_range'] at h2
      exact Ev_eq h2 (by simp only [topOk, hB, hC, Bool.not_false, Bool.true_and])
set_option maxHeartbeats 4000000 in
theorem implTop_ev (l : List (List Int)) (b g t : List Int) (z : SpOk l b g t) (a : Int) (top : List Int) (ht : top.length = 32) :
    ∀ (m i : Nat), i + m = 32 → Ev (fun k => impl_Space_tree.l1 k top top (top.length : Int) (i : Int) l b g t a (imL top i) (imV l top i)) (if (List.range' i m).all (leafB l b g top) = true then (a, imL top 32, imV l top 32, true) else (0, [], [], false)) := by
  intro m
  induction m with
  | zero =>
    intro i hi
    obtain rfl : i = 32 := by omega
    refine Ev_succ ?_
    simp only [impl_Space_tree.l1]
    exact Ev_f (by omega) (Ev_eq (Ev.now _) (by simp))
  | succ m ih =>
    intro i hi
    have lL : (imL top i).length = 32 := upd_len _ _ _ _ _
    have lV : (imV l top i).length = 32 := upd_len _ _ _ _ _
    have hlt : (top.take i).length = i := by rw [List.length_take]; omega
    have hpl := pg_len l (top.getD i 0)
    refine Ev_succ ?_
    simp only [impl_Space_tree.l1, rd_nat, Int.toNat_natCast]
    rw [w64_succ (n := 32) (i := i) (by omega) (by omega), List.range'_succ, List.all_cons]
    refine Ev_t (by omega) (Ev_t (by omega) (Ev_t (by omega) (Ev_ite (fun h0 => ?_) (fun h0 => ?_))))
    · have hc : hasC top i = false := by simp only [hasC, h0, decide_true, Bool.not_true]
      have e : leafB l b g top i = true := by simp only [leafB, hc, Bool.not_false, Bool.true_or]
      have hu : imL top i = imL top (i + 1) := upd_skip _ _ _ _ i hc
      have hv : imV l top i = imV l top (i + 1) := upd_skip _ _ _ _ i hc
      rw [e, Bool.true_and, hu, hv]
      exact ih (i + 1) (by omega)
    · have hc : hasC top i = true := by simp only [hasC, h0, decide_false, Bool.not_false]
      have e : leafB l b g top i = stepB l b g top i := by simp only [leafB, hc, Bool.not_true, Bool.false_or]
      have hu : (imL top i).set i (top.getD i 0) = imL top (i + 1) := upd_set _ _ _ _ i (by omega) hc
      have hv : (imV l top i).set i (pg l (top.getD i 0)) = imV l top (i + 1) := upd_set _ _ _ _ i (by omega) hc
      rw [e]
      have fl : stepB l b g top i = false → ((0 : Int), ([] : List Int), ([] : List (List Int)), false) = (if (stepB l b g top i && (List.range' (i + 1) m).all (leafB l b g top)) = true then (a, imL top 32, imV l top 32, true) else (0, [], [], false)) := fun h => by rw [h, Bool.false_and, if_neg (by decide)]
      refine Ev.bind (implPage_ev l b g t z (top.getD i 0) 81) ?_
      cases hB : numsOk l b g (top.getD i 0) 81 with
      | false =>
        rw [numsB_f hB]
        exact Ev_f (by decide) (Ev_eq (Ev.now _) (fl (by simp only [stepB, hB, Bool.false_and, Bool.and_false])))
      | true =>
        rw [numsB_t hB]
        refine Ev_t rfl (Ev.bind (implEmpty_ev (pg l (top.getD i 0)) (by omega)) ?_)
        cases hC : zeroB (pg l (top.getD i 0)) with
        | true => exact Ev_t rfl (Ev_eq (Ev.now _) (fl (by simp only [stepB, hC, Bool.not_true, Bool.false_and, Bool.and_false])))
        | false =>
          refine Ev_f (by decide) (Ev_t (by omega) (Ev.bind (implHas_ev (top.take i) (by omega) (top.getD i 0)) ?_))
          cases hA : noneIs (top.take i) (top.getD i 0) with
          | false => exact Ev_t rfl (Ev_eq (Ev.now _) (fl (by simp only [stepB, hA, Bool.false_and])))
          | true =>
            refine Ev_f (by decide) (Ev.bind (implOkV_ev l b g t z.s (pg l (top.getD i 0)) (by omega)) ?_)
            cases hD : okV l.length b (pg l (top.getD i 0)) with
            | false => exact Ev_t rfl (Ev_eq (Ev.now _) (fl (by simp only [stepB, hD, Bool.and_false])))
            | true =>
              have hs : stepB l b g top i = true := by simp only [stepB, hA, hB, hC, hD, Bool.not_false, Bool.and_true]
              refine Ev_f (by decide) (Ev_t (by omega) (Ev_t (by omega) ?_))
              simp only [hu, hv, hs, Bool.true_and]
              exact ih (i + 1) (by omega)
theorem implMid_ev (l : List (List Int)) (b g t : List Int) (z : SpOk l b g t) (a : Int) (h : ¬ a = 0) (V0 : List (List Int)) (hV : V0 = List.replicate 32 (List.replicate 32 0)) :
    Ev (fun k => (impl_Space_page.f k l b g t a 80).bind fun bt => (if bt.2 = true then ((impl_isEmpty.f k bt.1).bind fun t0 => (impl_Space_tree.j1 k bt.1 t0 l b g t a (List.replicate 32 0) V0)) else (impl_Space_tree.j1 k bt.1 true l b g t a (List.replicate 32 0) V0))) (implR l b g a) := by
  have hf : ∀ (y : List Int) (c : Bool), c = true → Ev (fun k => impl_Space_tree.j1 k y c l b g t a (List.replicate 32 0) V0) (0, [], [], false) := fun y c hc => Ev_succ (by simp only [impl_Space_tree.j1]; exact Ev_t hc (Ev.now _))
  refine Ev.bind (implPage_ev l b g t z a 80) ?_
  simp only [implR, if_neg h]
  cases hB : numsOk l b g a 80 with
  | false =>
    rw [numsB_f hB]
    exact Ev_f (by decide) (Ev_eq (hf _ _ rfl) (by simp only [topOk, hB, Bool.false_and, if_neg (show ¬ (false = true) by decide)]))
  | true =>
    rw [numsB_t hB]
    have hpl := pg_len l a
    refine Ev_t rfl (Ev.bind (implEmpty_ev (pg l a) (by omega)) ?_)
    cases hC : zeroB (pg l a) with
    | true => exact Ev_eq (hf _ _ rfl) (by simp only [topOk, hC, Bool.not_true, Bool.false_and, Bool.and_false, if_neg (show ¬ (false = true) by decide)])
    | false =>
      refine Ev_succ ?_
      simp only [impl_Space_tree.j1]
      refine Ev_f (by decide) ?_
      have h2 := implTop_ev l b g t z a (pg l a) hpl 32 0 (by omega)
      have e0 : imV l (pg l a) 0 = V0 := (upd_zero _ _ _ _).trans hV.symm
      have e1 : imL (pg l a) 0 = List.replicate 32 0 := upd_zero _ _ _ _
      rw [e0, e1, ← List.range_eq_range', imL_all _ hpl] at h2
      exact Ev_eq h2 (by simp only [topOk, hB, hC, Bool.not_false, Bool.true_and])
theorem implTree_ev (l : List (List Int)) (b g t : List Int) (z : SpOk l b g t) (a : Int) : Ev (fun k => impl_Space_tree.f k l b g t a) (implR l b g a) := by
  simp only [impl_Space_tree.f]
  refine Ev_t (by omega) (Ev_t (by omega) (Ev_bind0 rfl ?_))
  have key : ∀ (m i : Nat), i + m = 32 → Ev (fun k => impl_Space_tree.l0 k a ((List.replicate 32 ([] : List Int)).length : Int) (i : Int) l b g t a (List.replicate 32 0) (upd 32 [] (fun _ => List.replicate 32 0) (fun _ => true) i)) (implR l b g a) := by
    intro m
    induction m with
    | zero =>
      intro i hi
      obtain rfl : i = 32 := by omega
      have eV : upd 32 ([] : List Int) (fun _ => List.replicate 32 (0 : Int)) (fun _ => true) 32 = List.replicate 32 (List.replicate 32 0) := by
        apply List.ext_getElem (by simp [upd])
        intro j h1 h2
        have hj : j < 32 := by rw [upd_len] at h1; exact h1
        simp only [upd, List.getElem_map, List.getElem_range, List.getElem_replicate]
        exact if_pos ⟨hj, trivial⟩
      refine Ev_succ ?_
      simp only [impl_Space_tree.l0]
      refine Ev_f (by simp) (Ev_ite (fun h => Ev_eq (Ev.now _) (by simp only [implR, h, if_true, eV])) (fun h => ?_))
      exact implMid_ev l b g t z a h _ eV
    | succ m ih =>
      intro i hi
      have hu : (upd 32 ([] : List Int) (fun _ => List.replicate 32 (0 : Int)) (fun _ => true) i).set i (List.replicate 32 0) = _ := upd_set 32 [] (fun _ => List.replicate 32 0) (fun _ => true) i (by omega) rfl
      have hl : (upd 32 ([] : List Int) (fun _ => List.replicate 32 (0 : Int)) (fun _ => true) i).length = 32 := upd_len _ _ _ _ _
      refine Ev_succ ?_
      simp only [impl_Space_tree.l0, Int.toNat_natCast, hu]
      rw [w64_succ (n := 32) (i := i) (by omega) (by omega)]
      exact Ev_t (by simp; omega) (Ev_t (by omega) (Ev_t (by omega) (Ev_t (by omega) (ih (i + 1) (by omega)))))
  have h := key 32 0 (by omega)
  rw [upd_zero] at h
  exact h
theorem spOk_of {l : List (List Int)} {b g t : List Int} (h : goodB l b g t = true) (hg : g.length ≤ 1048576) (hby : ∀ r ∈ l, ∀ y ∈ r, 0 ≤ y ∧ y ≤ 255) : SpOk l b g t := ⟨goodB_facts h, hg, hby⟩
def treeB (l : List (List Int)) (b g t : List Int) (a : Int) : Bool := goodB l b g t && (decide (a = 0) || topOk l b g a)
theorem specGoodTree_ev (l : List (List Int)) (b g t : List Int) (z : SpaceSz l b g t) (hby : ∀ r ∈ l, ∀ y ∈ r, 0 ≤ y ∧ y ≤ 255) (a : Int) : Ev (fun k => spec_GoodTree.f k l b g t a) (treeB l b g t a) := by
  simp only [spec_GoodTree.f]
  refine Ev.bind (specGoodSpace_ev l b g t z.hl z.hg z.ht) ?_
  cases hgd : goodB l b g t with
  | false => exact Ev_f (by decide) (Ev_eq (Ev.now _) (by simp only [treeB, hgd, Bool.false_and]))
  | true =>
    refine Ev_t rfl (Ev.bind (specTree_ev l b g t (spOk_of hgd z.hg hby) a) (Ev_eq (Ev.now _) ?_))
    simp only [treeB, hgd, Bool.true_and, specR]
    by_cases h : a = 0
    · simp [h]
    · rw [if_neg h]; cases ho : topOk l b g a <;> simp [h]

theorem implTreeOf_ev (l : List (List Int)) (b g t : List Int) (z : SpaceSz l b g t) (hby : ∀ r ∈ l, ∀ y ∈ r, 0 ≤ y ∧ y ≤ 255) (a : Int) : Ev (fun k => impl_treeOf.f k l b g t a) (if goodB l b g t = true then implR l b g a else (0, [], [], false)) := by
  simp only [impl_treeOf.f]
  refine Ev.bind (implGoodSpace_ev l b g t z.hl z.hg z.ht) ?_
  cases hgd : goodB l b g t with
  | false => exact Ev_f (by decide) (Ev_eq (Ev.now _) (by rw [if_neg (by decide)]))
  | true => exact Ev_t rfl (Ev.bind (implTree_ev l b g t (spOk_of hgd z.hg hby) a) (Ev_eq (Ev.now _) (by rw [if_pos rfl])))
theorem treeB_f {l : List (List Int)} {b g t : List Int} {a : Int} (h : treeB l b g t a = false) : (if goodB l b g t = true then implR l b g a else (0, [], [], false)) = (0, [], [], false) := by
  cases hgd : goodB l b g t with
  | false => rw [if_neg (by decide)]
  | true =>
    simp only [treeB, hgd, Bool.true_and, Bool.or_eq_false_iff, decide_eq_false_iff_not] at h
    simp only [if_true, implR, if_neg h.1, h.2, if_neg (show ¬ (false = true) by decide)]
theorem treeB_t {l : List (List Int)} {b g t : List Int} {a : Int} (h : treeB l b g t a = true) : goodB l b g t = true ∧ (a = 0 ∨ topOk l b g a = true) := by
  simpa only [treeB, Bool.and_eq_true, Bool.or_eq_true, decide_eq_true_eq] using h
def tabV (l : List (List Int)) (a : Int) : List (List Int) := if a = 0 then List.replicate 32 (List.replicate 32 0) else imV l (pg l a) 32
def tabL (l : List (List Int)) (a : Int) : List Int := if a = 0 then List.replicate 32 0 else pg l a
def tabS (l : List (List Int)) (a : Int) : List (List Int) := if a = 0 then List.replicate 32 [] else spL l (pg l a) 32
theorem implR_ok {l : List (List Int)} {b g : List Int} {a : Int} (h : a = 0 ∨ topOk l b g a = true) : implR l b g a = (a, tabL l a, tabV l a, true) := by
  by_cases h0 : a = 0
  · simp only [implR, tabL, tabV, if_pos h0]
  · simp only [implR, tabL, tabV, if_neg h0, h.resolve_left h0, if_true]
theorem specR_ok {l : List (List Int)} {b g : List Int} {a : Int} (h : a = 0 ∨ topOk l b g a = true) : specR l b g a = (tabS l a, tabL l a, true) := by
  by_cases h0 : a = 0
  · simp only [specR, tabL, tabS, if_pos h0]
  · simp only [specR, tabL, tabS, if_neg h0, h.resolve_left h0, if_true]
theorem upd_at {α : Type} (n : Nat) (d : α) (v : Nat → α) (c : Nat → Bool) (j : Nat) (hj : j < n) (z : α) : (upd n d v c n).getD j z = if c j = true then v j else d := by
  have h : j < (upd n d v c n).length := by rw [upd_len]; exact hj
  have e : (upd n d v c n).getD j z = (upd n d v c n)[j] := by simp [List.getD, h]
  rw [e]
  simp only [upd, List.getElem_map, List.getElem_range, hj, true_and]
theorem rep_at {α : Type} (n : Nat) (d : α) (j : Nat) (hj : j < n) (z : α) : (List.replicate n d).getD j z = d := by
  have h : j < (List.replicate n d).length := by rw [List.length_replicate]; exact hj
  have e : (List.replicate n d).getD j z = (List.replicate n d)[j] := by simp only [List.getD, List.getElem?_eq_getElem h, Option.getD_some]
  rw [e, List.getElem_replicate]
def cell (l : List (List Int)) (a : Int) (j : Nat) : Option (List Int) := if a = 0 then none else if hasC (pg l a) j = true then some (pg l ((pg l a).getD j 0)) else none
theorem tabS_at (l : List (List Int)) (a : Int) (j : Nat) (hj : j < 32) : (tabS l a).getD j [] = (cell l a j).getD [] := by
  by_cases h0 : a = 0
  · simp only [tabS, cell, if_pos h0, Option.getD_none]; exact rep_at 32 _ j hj _
  · simp only [tabS, cell, if_neg h0, spL]
    rw [upd_at 32 _ _ _ j hj]
    by_cases hc : hasC (pg l a) j = true
    · simp only [if_pos hc, Option.getD_some]
    · simp only [if_neg hc, Option.getD_none]
theorem tabV_at (l : List (List Int)) (a : Int) (j : Nat) (hj : j < 32) : (tabV l a).getD j [] = (cell l a j).getD (List.replicate 32 0) := by
  by_cases h0 : a = 0
  · simp only [tabV, cell, if_pos h0, Option.getD_none]; exact rep_at 32 _ j hj _
  · simp only [tabV, cell, if_neg h0, imV]
    rw [upd_at 32 _ _ _ j hj]
    by_cases hc : hasC (pg l a) j = true
    · simp only [if_pos hc, Option.getD_some]
    · simp only [if_neg hc, Option.getD_none]
theorem cell_len {l : List (List Int)} {a : Int} {j : Nat} {r : List Int} (h : cell l a j = some r) : r.length = 32 := by
  by_cases h0 : a = 0
  · simp only [cell, if_pos h0] at h; cases h
  · simp only [cell, if_neg h0] at h
    by_cases hc : hasC (pg l a) j = true
    · simp only [if_pos hc] at h; cases h; exact pg_len _ _
    · simp only [if_neg hc] at h; cases h
theorem tabS_len (l : List (List Int)) (a : Int) : (tabS l a).length = 32 := by
  by_cases h0 : a = 0
  · simp only [tabS, if_pos h0]; exact List.length_replicate
  · simp only [tabS, if_neg h0]; exact upd_len _ _ _ _ _
theorem tabV_len (l : List (List Int)) (a : Int) : (tabV l a).length = 32 := by
  by_cases h0 : a = 0
  · simp only [tabV, if_pos h0]; exact List.length_replicate
  · simp only [tabV, if_neg h0]; exact upd_len _ _ _ _ _
theorem tabL_len (l : List (List Int)) (a : Int) : (tabL l a).length = 32 := by
  by_cases h0 : a = 0
  · simp only [tabL, if_pos h0]; exact List.length_replicate
  · simp only [tabL, if_neg h0]; exact pg_len _ _

theorem eqKeySetS_ev (l : List S73) (hl : l.length ≤ 4611686018427387904) : Ev (fun k => laws_eqKeySetS.f k l l) true := by
  have h := all_ev (g := fun k i => laws_eqKeySetS.l0 k l l i) (r := true) l.length
    (fun i hi hr => Ev_succ (by
      simp only [laws_eqKeySetS.l0, laws_eqKeySet.f, if_true, Option.bind_some]
      refine Ev_t (by omega) (Ev_t (by omega) (Ev_t (by omega) ?_))
      rw [w64_succ hi (by omega)]; exact hr))
    (Ev_succ (by simp only [laws_eqKeySetS.l0]; exact Ev_f (by omega) (Ev.now _)))
  refine Ev.congr (fun k => ?_) h
  simp only [laws_eqKeySetS.f]; rw [if_pos trivial]

theorem rd_T79_nat (xs : List S79) (i : Nat) : rd_T79 xs (i : Int) = xs.getD i z79 := by simp [rd_T79]
theorem toKeySetS_ev (l : List S79) (hl : l.length ≤ 1048576) : Ev (fun k => laws_toKeySetS.f k l) (l.map fun x => (⟨x.f0, x.f1⟩ : S73)) := by
  have h := fill_ev (g := fun k x i => laws_toKeySetS.l0 k l x i) l z79 (fun x => (⟨x.f0, x.f1⟩ : S73))
    (fun x i hx hi hr => Ev_succ (by
      simp only [laws_toKeySetS.l0, laws_toKeySet.f, Option.bind_some]
      refine Ev_t (by omega) (Ev_t (by omega) (Ev_t (by omega) ?_))
      rw [w64_succ hi (by omega)]
      simpa [rd_T79_nat] using hr))
    (fun x hx => Ev_succ (by simp only [laws_toKeySetS.l0]; exact Ev_f (by omega) (Ev.now _)))
    (List.replicate l.length z73) (by simp)
  refine Ev.congr (fun k => ?_) h
  simp only [laws_toKeySetS.f]
  rw [if_pos (by omega), if_pos (by simp; omega)]
  simp

abbrev KS := S73
theorem rd_KS_nat (xs : List KS) (i : Nat) : rd_T73 xs (i : Int) = xs.getD i z73 := by simp [rd_T73]
def kf (ss : List KS) (i : Nat) : Int := (ss.getD i z73).f0
def vf (ss : List KS) (i : Nat) : Int := (ss.getD i z73).f1
def setB (n : Nat) (b g : List Int) (ss : List KS) (i : Nat) : Bool := decide (0 ≤ kf ss i ∧ kf ss i ≤ 1023) && ((decide (vf ss i = 0) || liveB n b g (vf ss i)) && (decide (i = 0) || decide (kf ss (i - 1) < kf ss i)))
theorem specSetStep (l : List (List Int)) (b g t : List Int) (s : GoodS l b g t) (hg : g.length ≤ 1048576) (ss : List KS) (hl : ss.length ≤ 1048576) (i : Nat) (hi : i < ss.length) (r : Bool)
    (hr : setB l.length b g ss i = true → Ev (fun k => spec_l6Sets.l0 k ss ss (ss.length : Int) ((i + 1 : Nat) : Int) l b g t) r) (hf : setB l.length b g ss i = false → r = false) :
    Ev (fun k => spec_l6Sets.l0 k ss ss (ss.length : Int) (i : Int) l b g t) r := by
  refine Ev_succ ?_
  simp only [spec_l6Sets.l0, l1In_eq, rd_KS_nat, Option.bind_some, decide_eq_true_eq]
  rw [w64_succ (n := ss.length) (i := i) (by omega) (by omega), w64 (n := (i : Int) - 1) (by omega) (by omega)]
  have e0 : (ss.getD i z73).f0 = kf ss i := rfl
  have e1 : (ss.getD i z73).f1 = vf ss i := rfl
  simp only [e0, e1]
  refine Ev_t (by omega) (Ev_t (by omega) (Ev_t (by omega) (Ev_ite (fun c1 => ?_) (fun c1 => Ev_eq (Ev.now _) (hf (by simp only [setB, c1, decide_false, Bool.false_and])).symm))))
  have tail : (decide (vf ss i = 0) || liveB l.length b g (vf ss i)) = true → Ev (fun k => if (i : Int) > 0 then (if 0 ≤ (i : Int) - 1 then (if (i : Int) - 1 < (ss.length : Int) then (if (rd_T73 ss ((i : Int) - 1)).f0 ≥ kf ss i then some false else spec_l6Sets.l0 k ss ss (ss.length : Int) ((i + 1 : Nat) : Int) l b g t) else none) else none) else spec_l6Sets.l0 k ss ss (ss.length : Int) ((i + 1 : Nat) : Int) l b g t) r := by
    intro c2
    refine Ev_ite (fun c3 => ?_) (fun c3 => hr ?_)
    · have e : (i : Int) - 1 = ((i - 1 : Nat) : Int) := by omega
      have e2 : (ss.getD (i - 1) z73).f0 = kf ss (i - 1) := rfl
      rw [e]
      simp only [rd_KS_nat, e2]
      refine Ev_t (by omega) (Ev_t (by omega) (Ev_ite (fun c4 => Ev_eq (Ev.now _) (hf ?_).symm) (fun c4 => hr ?_)))
      · simp only [setB, decide_eq_false (show ¬ i = 0 by omega), decide_eq_false (show ¬ kf ss (i - 1) < kf ss i by omega), Bool.or_false, Bool.and_false]
      · simp only [setB, decide_eq_true c1, c2, decide_eq_true (show kf ss (i - 1) < kf ss i by omega), Bool.or_true, Bool.and_true]
    · simp only [setB, decide_eq_true c1, c2, decide_eq_true (show i = 0 by omega), Bool.true_or, Bool.and_true]
  refine Ev_ite (fun c2 => tail (by simp only [c2, decide_true, Bool.true_or])) (fun c2 => ?_)
  refine Ev.bind (specLive_ev l b g t s hg _) (Ev_ite (fun c3 => tail (by simp only [c3, Bool.or_true])) (fun c3 => Ev_eq (Ev.now _) (hf ?_).symm))
  have c3' : liveB l.length b g (vf ss i) = false := by simpa using c3
  simp only [setB, c1, c2, c3', decide_false, Bool.or_false, Bool.false_and, Bool.and_false]
theorem tdiv32 (k : Nat) (h : k < 4611686018427387904) : wrap64 (Int.tdiv (k : Int) 32) = ((k / 32 : Nat) : Int) := by
  rw [Int.tdiv_eq_ediv_of_nonneg (by omega), w64 (by omega) (by omega)]; omega
theorem tmod32 (k : Nat) : Int.tmod (k : Int) 32 = ((k % 32 : Nat) : Int) := by
  rw [Int.tmod_eq_emod_of_nonneg (by omega)]; omega
theorem rd_V_nat (xs : List (List Int)) (i : Nat) : rd_L5 xs (i : Int) = xs.getD i [] := by simp [rd_L5]
def kd (ss : List KS) (i : Nat) : Nat := (kf ss i).toNat / 32
def km (ss : List KS) (i : Nat) : Nat := (kf ss i).toNat % 32
def rowAt (l : List (List Int)) (a : Int) (ss : List KS) (j : Nat) : Nat → List Int
  | 0 => (cell l a j).getD (List.replicate 32 0)
  | i + 1 => if kd ss i = j then (rowAt l a ss j i).set (km ss i) (vf ss i) else rowAt l a ss j i
def tch (ss : List KS) (j : Nat) : Nat → Bool
  | 0 => false
  | i + 1 => decide (kd ss i = j) || tch ss j i
theorem rowAt_len (l : List (List Int)) (a : Int) (ss : List KS) (j : Nat) : ∀ i, (rowAt l a ss j i).length = 32 := by
  intro i
  induction i with
  | zero =>
    simp only [rowAt]
    cases hc : cell l a j with
    | none => simp only [Option.getD_none]; exact List.length_replicate
    | some r => simp only [Option.getD_some]; exact cell_len hc
  | succ i ih =>
    simp only [rowAt]
    by_cases e : kd ss i = j
    · rw [if_pos e, List.length_set]; exact ih
    · rw [if_neg e]; exact ih
theorem rowAt_old (l : List (List Int)) (a : Int) (ss : List KS) (j : Nat) : ∀ i, tch ss j i = false → rowAt l a ss j i = (cell l a j).getD (List.replicate 32 0) := by
  intro i
  induction i with
  | zero => intro _; rfl
  | succ i ih =>
    intro h
    simp only [tch, Bool.or_eq_false_iff, decide_eq_false_iff_not] at h
    simp only [rowAt, if_neg h.1]
    exact ih h.2
def sRow (l : List (List Int)) (a : Int) (ss : List KS) (i j : Nat) : List Int := if tch ss j i = true then rowAt l a ss j i else (cell l a j).getD []
theorem sRow_cases (l : List (List Int)) (a : Int) (ss : List KS) (i j : Nat) : (sRow l a ss i j = [] ∧ rowAt l a ss j i = List.replicate 32 0) ∨ sRow l a ss i j = rowAt l a ss j i := by
  cases ht : tch ss j i with
  | true => right; simp only [sRow, ht, if_true]
  | false =>
    rw [rowAt_old l a ss j i ht]
    simp only [sRow, ht, if_neg (show ¬ (false = true) by decide)]
    cases hc : cell l a j with
    | none => left; exact ⟨rfl, rfl⟩
    | some r => right; rfl
theorem zero_nil : zeroB [] = true := rfl
theorem zero_rep : zeroB (List.replicate 32 (0 : Int)) = true := by decide
theorem sRow_zero (l : List (List Int)) (a : Int) (ss : List KS) (i j : Nat) : zeroB (sRow l a ss i j) = zeroB (rowAt l a ss j i) := by
  rcases sRow_cases l a ss i j with h | h
  · rw [h.1, h.2, zero_nil, zero_rep]
  · rw [h]
theorem sRow_len (l : List (List Int)) (a : Int) (ss : List KS) (i j : Nat) : (sRow l a ss i j).length ≤ 1048576 := by
  rcases sRow_cases l a ss i j with h | h
  · rw [h.1]; simp
  · rw [h, rowAt_len]; omega
def sTab (l : List (List Int)) (a : Int) (ss : List KS) (i : Nat) : List (List Int) := (List.range 32).map (sRow l a ss i)
def oTab (ss : List KS) (i : Nat) : List Bool := (List.range 32).map (fun j => tch ss j i)
theorem sTab_len (l : List (List Int)) (a : Int) (ss : List KS) (i : Nat) : (sTab l a ss i).length = 32 := by simp [sTab]
theorem oTab_len (ss : List KS) (i : Nat) : (oTab ss i).length = 32 := by simp [oTab]
theorem sTab_at (l : List (List Int)) (a : Int) (ss : List KS) (i j : Nat) (hj : j < 32) : (sTab l a ss i).getD j [] = sRow l a ss i j := by
  have h : j < (sTab l a ss i).length := by rw [sTab_len]; exact hj
  have e : (sTab l a ss i).getD j [] = (sTab l a ss i)[j] := by simp [List.getD, h]
  rw [e]; simp only [sTab, List.getElem_map, List.getElem_range]
theorem oTab_at (ss : List KS) (i j : Nat) (hj : j < 32) : rdOf false (oTab ss i) (j : Int) = tch ss j i := by
  have h : j < (oTab ss i).length := by rw [oTab_len]; exact hj
  have e : (oTab ss i).getD j false = (oTab ss i)[j] := by simp [List.getD, h]
  have e2 : rdOf false (oTab ss i) (j : Int) = (oTab ss i).getD j false := by simp [rdOf]
  rw [e2, e]; simp only [oTab, List.getElem_map, List.getElem_range]
theorem sTab_zero (l : List (List Int)) (a : Int) (ss : List KS) : sTab l a ss 0 = tabS l a := by
  apply List.ext_getElem (by rw [sTab_len, tabS_len])
  intro j h1 h2
  have hj : j < 32 := by rw [sTab_len] at h1; exact h1
  have e : (tabS l a)[j] = (tabS l a).getD j [] := by simp [List.getD, h2]
  rw [e, tabS_at l a j hj]
  simp only [sTab, List.getElem_map, List.getElem_range, sRow, tch, if_neg (show ¬ (false = true) by decide)]
theorem oTab_zero (ss : List KS) : oTab ss 0 = List.replicate 32 false := by
  apply List.ext_getElem (by simp [oTab])
  intro j h1 h2
  simp only [oTab, tch, List.getElem_map, List.getElem_replicate]
theorem sTab_step (l : List (List Int)) (a : Int) (ss : List KS) (i : Nat) : (sTab l a ss i).set (kd ss i) ((rowAt l a ss (kd ss i) i).set (km ss i) (vf ss i)) = sTab l a ss (i + 1) := by
  apply List.ext_getElem (by simp [sTab])
  intro j h1 h2
  simp only [sTab, List.getElem_set, List.getElem_map, List.getElem_range]
  by_cases e : kd ss i = j
  · rw [if_pos e, ← e]
    simp only [sRow, tch, rowAt, decide_true, Bool.true_or, if_true]
  · rw [if_neg e]
    simp only [sRow, tch, rowAt, if_neg e, decide_eq_false e, Bool.false_or]
theorem oTab_step (ss : List KS) (i : Nat) : (oTab ss i).set (kd ss i) true = oTab ss (i + 1) := by
  apply List.ext_getElem (by simp [oTab])
  intro j h1 h2
  simp only [oTab, List.getElem_set, List.getElem_map, List.getElem_range]
  by_cases e : kd ss i = j
  · rw [if_pos e, ← e]; simp only [tch, decide_true, Bool.true_or]
  · rw [if_neg e]; simp only [tch, decide_eq_false e, Bool.false_or]
def KOk (ss : List KS) : Prop := ∀ i, i < ss.length → 0 ≤ kf ss i ∧ kf ss i ≤ 1023
theorem kdm (ss : List KS) (i : Nat) (h : 0 ≤ kf ss i ∧ kf ss i ≤ 1023) : wrap64 (Int.tdiv (kf ss i) 32) = ((kd ss i : Nat) : Int) ∧ Int.tmod (kf ss i) 32 = ((km ss i : Nat) : Int) ∧ kd ss i < 32 ∧ km ss i < 32 := by
  have e : kf ss i = ((kf ss i).toNat : Int) := by omega
  have h1 := tdiv32 (kf ss i).toNat (by omega)
  have h2 := tmod32 (kf ss i).toNat
  rw [← e] at h1 h2
  exact ⟨h1, h2, by simp only [kd]; omega, by simp only [km]; omega⟩
theorem getD_set_self {α : Type} (xs : List α) (k : Nat) (v d : α) (h : k < xs.length) : (xs.set k v).getD k d = v := by
  have h' : k < (xs.set k v).length := by rw [List.length_set]; exact h
  have e : (xs.set k v).getD k d = (xs.set k v)[k] := by simp [List.getD, h]
  rw [e]; simp
set_option maxHeartbeats 1000000 in
theorem specAfter_ev (l : List (List Int)) (a : Int) (ss : List KS) (hk : KOk ss) (hl : ss.length ≤ 1048576) : ∀ (m i : Nat), i + m = ss.length → Ev (fun k => spec_l6After.l0 k (sTab l a ss i) (oTab ss i) ss (ss.length : Int) (i : Int)) (sTab l a ss ss.length, oTab ss ss.length) := by
  intro m
  induction m with
  | zero =>
    intro i hi
    obtain rfl : i = ss.length := by omega
    exact Ev_succ (by simp only [spec_l6After.l0]; exact Ev_f (by omega) (Ev.now _))
  | succ m ih =>
    intro i hi
    obtain ⟨h1, h2, h3, h4⟩ := kdm ss i (hk i (by omega))
    have e0 : (ss.getD i z73).f0 = kf ss i := rfl
    have e1 : (ss.getD i z73).f1 = vf ss i := rfl
    have hs := sTab_len l a ss i
    have ho := oTab_len ss i
    have hr := rowAt_len l a ss (kd ss i) i
    have n1 := ih (i + 1) (by omega)
    refine Ev_succ ?_
    simp only [spec_l6After.l0, rd_KS_nat, e0, e1, h1, h2, Int.toNat_natCast, Option.bind_some, rd_V_nat, oTab_step, sTab_at l a ss i (kd ss i) h3, getD_set_self (sTab l a ss i) (kd ss i) (List.replicate 32 (0 : Int)) [] (by omega), List.set_set]
    rw [w64_succ (n := ss.length) (i := i) (by omega) (by omega)]
    refine Ev_t (by omega) (Ev_t (by omega) (Ev_t (by omega) (Ev_t (by omega) (Ev_t (by omega) (Ev_t (by omega) ?_)))))
    rcases sRow_cases l a ss i (kd ss i) with h | h
    · rw [h.1]
      have st := sTab_step l a ss i
      rw [h.2] at st
      rw [st]
      exact Ev_t rfl (Ev_t (by omega) (Ev_t (by omega) (Ev_t (by rw [List.length_replicate]; omega) n1)))
    · rw [h, sTab_step l a ss i]
      exact Ev_f (by omega) (Ev_t (by omega) (Ev_t (by omega) n1))
def hit (l : List (List Int)) (a : Int) (ss : List KS) (j : Nat) : Bool := tch ss j ss.length && !zeroB (rowAt l a ss j ss.length)
def cnt (l : List (List Int)) (a : Int) (ss : List KS) : Nat → Nat
  | 0 => 0
  | j + 1 => if hit l a ss j = true then cnt l a ss j + 1 else cnt l a ss j
def anyAt (l : List (List Int)) (a : Int) (ss : List KS) : Nat → Bool
  | 0 => false
  | j + 1 => anyAt l a ss j || !zeroB (rowAt l a ss j ss.length)
def topAt (l : List (List Int)) (a : Int) (ss : List KS) (j : Nat) : Int := if anyAt l a ss j = true then 1 else 0
theorem cnt_le (l : List (List Int)) (a : Int) (ss : List KS) : ∀ j, cnt l a ss j ≤ j := by
  intro j
  induction j with
  | zero => exact Nat.le_refl _
  | succ j ih =>
    simp only [cnt]
    by_cases e : hit l a ss j = true
    · rw [if_pos e]; omega
    · rw [if_neg e]; omega
theorem cnt_t {l : List (List Int)} {a : Int} {ss : List KS} {j : Nat} (h : hit l a ss j = true) : cnt l a ss (j + 1) = cnt l a ss j + 1 := by simp only [cnt, h, if_true]
theorem cnt_f {l : List (List Int)} {a : Int} {ss : List KS} {j : Nat} (h : hit l a ss j = false) : cnt l a ss (j + 1) = cnt l a ss j := by simp only [cnt, h, if_neg (show ¬ (false = true) by decide)]
theorem any_t {l : List (List Int)} {a : Int} {ss : List KS} {j : Nat} (h : zeroB (rowAt l a ss j ss.length) = false) : anyAt l a ss (j + 1) = true := by simp only [anyAt, h, Bool.not_false, Bool.or_true]
theorem any_f {l : List (List Int)} {a : Int} {ss : List KS} {j : Nat} (h : zeroB (rowAt l a ss j ss.length) = true) : anyAt l a ss (j + 1) = anyAt l a ss j := by simp only [anyAt, h, Bool.not_true, Bool.or_false]
theorem top_t {l : List (List Int)} {a : Int} {ss : List KS} {j : Nat} (h : zeroB (rowAt l a ss j ss.length) = false) : topAt l a ss (j + 1) = 1 := by simp only [topAt, any_t h, if_true]
theorem top_f {l : List (List Int)} {a : Int} {ss : List KS} {j : Nat} (h : zeroB (rowAt l a ss j ss.length) = true) : topAt l a ss (j + 1) = topAt l a ss j := by simp only [topAt, any_f h]
theorem hit_z {l : List (List Int)} {a : Int} {ss : List KS} {j : Nat} (h : zeroB (rowAt l a ss j ss.length) = true) : hit l a ss j = false := by simp only [hit, h, Bool.not_true, Bool.and_false]
theorem hit_n {l : List (List Int)} {a : Int} {ss : List KS} {j : Nat} (h : tch ss j ss.length = false) : hit l a ss j = false := by simp only [hit, h, Bool.false_and]
theorem hit_t {l : List (List Int)} {a : Int} {ss : List KS} {j : Nat} (h : tch ss j ss.length = true) (h2 : zeroB (rowAt l a ss j ss.length) = false) : hit l a ss j = true := by simp only [hit, h, h2, Bool.not_false, Bool.and_true]
def needV (l : List (List Int)) (a : Int) (ss : List KS) : Int := if (ss.length : Int) = 0 then 0 else (cnt l a ss 32 : Int) + topAt l a ss 32
theorem specCount_ev (l : List (List Int)) (a : Int) (ss : List KS) : ∀ (m j : Nat), j + m = 32 → Ev (fun k => spec_l6Need.l0 k (oTab ss ss.length) ((cnt l a ss j : Nat) : Int) (topAt l a ss j) (sTab l a ss ss.length) ((sTab l a ss ss.length).length : Int) (j : Int)) ((cnt l a ss 32 : Int) + topAt l a ss 32) := by
  intro m
  induction m with
  | zero =>
    intro j hj
    obtain rfl : j = 32 := by omega
    have hs := sTab_len l a ss ss.length
    have hc := cnt_le l a ss 32
    have ht : 0 ≤ topAt l a ss 32 ∧ topAt l a ss 32 ≤ 1 := by
      simp only [topAt]
      by_cases e : anyAt l a ss 32 = true
      · rw [if_pos e]; omega
      · rw [if_neg e]; omega
    exact Ev_succ (by simp only [spec_l6Need.l0]; exact Ev_f (by omega) (Ev_eq (Ev.now _) (w64 (by omega) (by omega))))
  | succ m ih =>
    intro j hj
    have hs := sTab_len l a ss ss.length
    have ho := oTab_len ss ss.length
    have hc := cnt_le l a ss j
    have n1 := ih (j + 1) (by omega)
    have wc : wrap64 ((cnt l a ss j : Int) + 1) = ((cnt l a ss j + 1 : Nat) : Int) := by rw [w64 (by omega) (by omega)]; omega
    refine Ev_succ ?_
    simp only [spec_l6Need.l0, rd_V_nat, sTab_at l a ss ss.length j (by omega), oTab_at ss ss.length j (by omega)]
    rw [w64_succ (n := 32) (i := j) (by omega) (by omega), wc]
    refine Ev_t (by omega) (Ev_t (by omega) (Ev_t (by omega) (Ev.bind (specAny_ev _ (sRow_len l a ss ss.length j)) ?_)))
    rw [sRow_zero]
    cases hz : zeroB (rowAt l a ss j ss.length) with
    | true =>
      rw [cnt_f (hit_z hz), top_f hz] at n1
      exact Ev_f (by decide) n1
    | false =>
      rw [top_t hz] at n1
      refine Ev_t rfl (Ev_t (by omega) ?_)
      cases ht : tch ss j ss.length with
      | true => rw [cnt_t (hit_t ht hz)] at n1; exact Ev_t rfl n1
      | false => rw [cnt_f (hit_n ht)] at n1; exact Ev_f (by decide) n1
theorem specNeed_ev (l : List (List Int)) (b g t : List Int) (z : SpOk l b g t) (a : Int) (ho : a = 0 ∨ topOk l b g a = true) (ss : List KS) (hk : KOk ss) (hl : ss.length ≤ 1048576) : Ev (fun k => spec_l6Need.f k l b g t a ss) (needV l a ss) := by
  simp only [spec_l6Need.f]
  refine Ev_ite (fun h => Ev_eq (Ev.now _) (by simp only [needV, h, if_true])) (fun h => ?_)
  refine Ev.bind (a := (sTab l a ss ss.length, oTab ss ss.length)) ?_ ?_
  · simp only [spec_l6After.f]
    have h1 := specTree_ev l b g t z a
    rw [specR_ok ho] at h1
    refine Ev.bind h1 (Ev_t (by omega) ?_)
    have h2 := specAfter_ev l a ss hk hl ss.length 0 (by omega)
    rw [sTab_zero, oTab_zero] at h2
    exact h2
  · have h3 := specCount_ev l a ss 32 0 (by omega)
    have z1 : ((cnt l a ss 0 : Nat) : Int) = 0 := rfl
    have z2 : topAt l a ss 0 = 0 := rfl
    rw [z1, z2] at h3
    refine Ev_eq h3 ?_
    rw [needV, if_neg h]
theorem clone_eq (xs : List Int) (h : xs.length ≤ 1048576) : slices_Clone_int_int.f xs = some xs := by
  simp only [slices_Clone_int_int.f, Option.bind_some, List.nil_append, List.length_nil]
  rw [if_pos (by omega)]
theorem implRow_ev (l : List (List Int)) (a r : Int) (lv : List Int) (ss : List KS) (hk : KOk ss) (hl : ss.length ≤ 1048576) (n : Int) (any : Bool) (j : Nat) (R : Int)
    (hE : Ev (fun k => impl_tree_need.l1 k ss n any (j : Int) (rowAt l a ss j ss.length) (tch ss j ss.length) (j : Int) ss (ss.length : Int) (ss.length : Int) r lv (tabV l a)) R) :
    ∀ (m i : Nat), i + m = ss.length → Ev (fun k => impl_tree_need.l1 k ss n any (j : Int) (rowAt l a ss j i) (tch ss j i) (j : Int) ss (ss.length : Int) (i : Int) r lv (tabV l a)) R := by
  intro m
  induction m with
  | zero => intro i hi; obtain rfl : i = ss.length := by omega
            exact hE
  | succ m ih =>
    intro i hi
    obtain ⟨h1, h2, h3, h4⟩ := kdm ss i (hk i (by omega))
    have e0 : (ss.getD i z73).f0 = kf ss i := rfl
    have e1 : (ss.getD i z73).f1 = vf ss i := rfl
    have hr := rowAt_len l a ss j i
    have n1 := ih (i + 1) (by omega)
    refine Ev_succ ?_
    simp only [impl_tree_need.l1, rd_KS_nat, e0, e1, h1, h2, Int.toNat_natCast]
    rw [w64_succ (n := ss.length) (i := i) (by omega) (by omega)]
    simp only [rowAt, tch] at n1
    refine Ev_t (by omega) (Ev_t (by omega) (Ev_t (by omega) (Ev_ite (fun e => ?_) (fun e => ?_))))
    · have e' : kd ss i = j := by omega
      rw [if_pos e', e', decide_eq_true rfl, Bool.true_or] at n1
      exact Ev_t (by omega) (Ev_t (by omega) n1)
    · have e' : ¬ kd ss i = j := by omega
      rw [if_neg e', decide_eq_false e', Bool.false_or] at n1
      exact n1
theorem implRows_ev (l : List (List Int)) (a r : Int) (lv : List Int) (ss : List KS) (hk : KOk ss) (hl : ss.length ≤ 1048576) : ∀ (m j : Nat), j + m = 32 → Ev (fun k => impl_tree_need.l0 k ss ((cnt l a ss j : Nat) : Int) (anyAt l a ss j) (j : Int) r lv (tabV l a)) ((cnt l a ss 32 : Int) + topAt l a ss 32) := by
  intro m
  induction m with
  | zero =>
    intro j hj
    obtain rfl : j = 32 := by omega
    have hc := cnt_le l a ss 32
    refine Ev_succ ?_
    simp only [impl_tree_need.l0, topAt]
    refine Ev_f (by omega) (Ev_ite (fun h => Ev_eq (Ev.now _) ?_) (fun h => Ev_eq (Ev.now _) ?_))
    · rw [if_pos h, w64 (by omega) (by omega)]
    · rw [if_neg h]; omega
  | succ m ih =>
    intro j hj
    have hV := tabV_len l a
    have hc := cnt_le l a ss j
    have n1 := ih (j + 1) (by omega)
    have wc : wrap64 ((cnt l a ss j : Int) + 1) = ((cnt l a ss j + 1 : Nat) : Int) := by rw [w64 (by omega) (by omega)]; omega
    have r0 : (cell l a j).getD (List.replicate 32 0) = rowAt l a ss j 0 := rfl
    have l0 := rowAt_len l a ss j 0
    have lN := rowAt_len l a ss j ss.length
    refine Ev_succ ?_
    simp only [impl_tree_need.l0, rd_V_nat, tabV_at l a j (by omega), r0, clone_eq (rowAt l a ss j 0) (by omega), Option.bind_some]
    refine Ev_t (by omega) (Ev_t (by omega) (Ev_t (by omega) ?_))
    refine implRow_ev l a r lv ss hk hl _ _ j _ ?_ ss.length 0 (by omega)
    refine Ev_succ ?_
    simp only [impl_tree_need.l1]
    rw [w64_succ (n := 32) (i := j) (by omega) (by omega), wc]
    refine Ev_f (by omega) ?_
    have hem := implEmpty_ev (rowAt l a ss j ss.length) (by omega)
    cases hz : zeroB (rowAt l a ss j ss.length) with
    | true =>
      rw [hz] at hem
      rw [cnt_f (hit_z hz), any_f hz] at n1
      cases hA : anyAt l a ss j with
      | true =>
        rw [hA] at n1
        refine Ev_t rfl ?_
        cases ht : tch ss j ss.length with
        | true => exact Ev_t rfl (Ev.bind hem (Ev_t rfl n1))
        | false => exact Ev_f (by decide) n1
      | false =>
        rw [hA] at n1
        refine Ev_f (by decide) (Ev.bind hem ?_)
        cases ht : tch ss j ss.length with
        | true => exact Ev_t rfl (Ev.bind hem (Ev_t rfl n1))
        | false => exact Ev_f (by decide) n1
    | false =>
      rw [hz] at hem
      rw [any_t hz] at n1
      cases hA : anyAt l a ss j with
      | true =>
        refine Ev_t rfl ?_
        cases ht : tch ss j ss.length with
        | true => rw [cnt_t (hit_t ht hz)] at n1; exact Ev_t rfl (Ev.bind hem (Ev_f (by decide) n1))
        | false => rw [cnt_f (hit_n ht)] at n1; exact Ev_f (by decide) n1
      | false =>
        refine Ev_f (by decide) (Ev.bind hem ?_)
        cases ht : tch ss j ss.length with
        | true => rw [cnt_t (hit_t ht hz)] at n1; exact Ev_t rfl (Ev.bind hem (Ev_f (by decide) n1))
        | false => rw [cnt_f (hit_n ht)] at n1; exact Ev_f (by decide) n1
theorem implNeed_ev (l : List (List Int)) (a r : Int) (lv : List Int) (ss : List KS) (hk : KOk ss) (hl : ss.length ≤ 1048576) : Ev (fun k => impl_tree_need.f k r lv (tabV l a) ss) (needV l a ss) := by
  simp only [impl_tree_need.f]
  refine Ev_ite (fun h => Ev_eq (Ev.now _) (by simp only [needV, h, if_true])) (fun h => ?_)
  have h3 := implRows_ev l a r lv ss hk hl 32 0 (by omega)
  have z1 : ((cnt l a ss 0 : Nat) : Int) = 0 := rfl
  have z2 : anyAt l a ss 0 = false := rfl
  rw [z1, z2] at h3
  refine Ev_eq h3 ?_
  rw [needV, if_neg h]
def setsB (l : List (List Int)) (b g : List Int) (ss : List KS) : Bool := (List.range ss.length).all (setB l.length b g ss)
theorem setsB_ok {l : List (List Int)} {b g : List Int} {ss : List KS} (h : setsB l b g ss = true) : KOk ss := by
  intro i hi
  have h1 := List.all_eq_true.1 h i (List.mem_range.2 hi)
  simp only [setB, Bool.and_eq_true, decide_eq_true_eq] at h1
  exact h1.1
theorem specSetsLoop_ev (l : List (List Int)) (b g t : List Int) (s : GoodS l b g t) (hg : g.length ≤ 1048576) (ss : List KS) (hl : ss.length ≤ 1048576) : Ev (fun k => spec_l6Sets.l0 k ss ss (ss.length : Int) 0 l b g t) (setsB l b g ss) := by
  have h := scanG_ev (g := fun k i => spec_l6Sets.l0 k ss ss (ss.length : Int) i l b g t) ss.length (setB l.length b g ss) true false
    (fun i hi hp r hr => specSetStep l b g t s hg ss hl i hi r (fun _ => hr) (fun h => absurd (hp.symm.trans h) (by decide)))
    (fun i hi hp => specSetStep l b g t s hg ss hl i hi false (fun h => absurd (hp.symm.trans h) (by decide)) (fun _ => rfl))
    (fun _ => Ev_succ (by simp only [spec_l6Sets.l0]; exact Ev_f (by omega) (Ev.now _)))
  refine Ev_eq h ?_
  simp only [setsB]
  cases (List.range ss.length).all (setB l.length b g ss) <;> rfl
theorem implSetStep (l : List (List Int)) (b g t : List Int) (s : GoodS l b g t) (hg : g.length ≤ 1048576) (ss : List KS) (hl : ss.length ≤ 1048576) (i : Nat) (hi : i < ss.length) (r : Bool)
    (hr : setB l.length b g ss i = true → Ev (fun k => impl_Space_areSets.l0 k ss ss (ss.length : Int) ((i + 1 : Nat) : Int) l b g t) r) (hf : setB l.length b g ss i = false → r = false) :
    Ev (fun k => impl_Space_areSets.l0 k ss ss (ss.length : Int) (i : Int) l b g t) r := by
  refine Ev_succ ?_
  simp only [impl_Space_areSets.l0, within_eq, rd_KS_nat, Option.bind_some, decide_eq_true_eq]
  rw [w64_succ (n := ss.length) (i := i) (by omega) (by omega), w64 (n := (i : Int) - 1) (by omega) (by omega)]
  have e0 : (ss.getD i z73).f0 = kf ss i := rfl
  have e1 : (ss.getD i z73).f1 = vf ss i := rfl
  simp only [e0, e1]
  refine Ev_t (by omega) (Ev_t (by omega) (Ev_t (by omega) (Ev_ite (fun c1 => ?_) (fun c1 => Ev_eq (Ev.now _) (hf (by simp only [setB, c1, decide_false, Bool.false_and])).symm))))
  have tail : (decide (i = 0) || decide (kf ss (i - 1) < kf ss i)) = true → Ev (fun k => if vf ss i = 0 then impl_Space_areSets.l0 k ss ss (ss.length : Int) ((i + 1 : Nat) : Int) l b g t else (impl_Space_isHere.f k l b g t (vf ss i)).bind fun u => if u = true then impl_Space_areSets.l0 k ss ss (ss.length : Int) ((i + 1 : Nat) : Int) l b g t else some false) r := by
    intro c2
    refine Ev_ite (fun c3 => hr ?_) (fun c3 => Ev.bind (implHere_ev l b g t s hg _) (Ev_ite (fun c4 => hr ?_) (fun c4 => Ev_eq (Ev.now _) (hf ?_).symm)))
    · simp only [setB, c1, c2, c3, decide_true, Bool.true_and, Bool.true_or, and_self]
    · simp only [setB, c1, c2, c4, decide_true, Bool.true_and, Bool.or_true, and_self]
    · have c4' : liveB l.length b g (vf ss i) = false := by simpa using c4
      simp only [setB, c3, c4', decide_false, Bool.or_false, Bool.false_and, Bool.and_false]
  refine Ev_ite (fun c3 => ?_) (fun c3 => tail (by rw [decide_eq_true (show i = 0 by omega), Bool.true_or]))
  have e : (i : Int) - 1 = ((i - 1 : Nat) : Int) := by omega
  have e2 : (ss.getD (i - 1) z73).f0 = kf ss (i - 1) := rfl
  rw [e]
  simp only [rd_KS_nat, e2]
  refine Ev_t (by omega) (Ev_t (by omega) (Ev_ite (fun c4 => Ev_eq (Ev.now _) (hf ?_).symm) (fun c4 => tail (by rw [decide_eq_true (show kf ss (i - 1) < kf ss i by omega), Bool.or_true]))))
  simp only [setB, decide_eq_false (show ¬ i = 0 by omega), decide_eq_false (show ¬ kf ss (i - 1) < kf ss i by omega), Bool.or_false, Bool.and_false]
theorem implSets_ev (l : List (List Int)) (b g t : List Int) (s : GoodS l b g t) (hg : g.length ≤ 1048576) (ss : List KS) (hl : ss.length ≤ 1048576) : Ev (fun k => impl_Space_areSets.f k l b g t ss) (setsB l b g ss && decide (ss.length ≤ 64)) := by
  have h := scanG_ev (g := fun k i => impl_Space_areSets.l0 k ss ss (ss.length : Int) i l b g t) ss.length (setB l.length b g ss) (decide ((ss.length : Int) ≤ 64)) false
    (fun i hi hp r hr => implSetStep l b g t s hg ss hl i hi r (fun _ => hr) (fun h => absurd (hp.symm.trans h) (by decide)))
    (fun i hi hp => implSetStep l b g t s hg ss hl i hi false (fun h => absurd (hp.symm.trans h) (by decide)) (fun _ => rfl))
    (fun _ => Ev_succ (by simp only [impl_Space_areSets.l0]; exact Ev_f (by omega) (Ev.now _)))
  simp only [impl_Space_areSets.f]
  refine Ev_eq h ?_
  have e : decide ((ss.length : Int) ≤ 64) = decide (ss.length ≤ 64) := decide_eq_decide.2 (by omega)
  rw [e]
  simp only [setsB]
  cases (List.range ss.length).all (setB l.length b g ss) <;> rfl
def okB (l : List (List Int)) (b g t : List Int) (a : Int) (ss : List KS) : Bool := treeB l b g t a && (decide (ss.length ≤ 64) && setsB l b g ss)
def ansK (l : List (List Int)) (b g t : List Int) (a : Int) (ss : List KS) : Int × Bool := if okB l b g t a ss = true then (needV l a ss, true) else (0, false)
theorem same_Need (l : List (List Int)) (b g t : List Int) (z : SpaceSz l b g t) (hby : ∀ r ∈ l, ∀ y ∈ r, 0 ≤ y ∧ y ≤ 255) (a : Int) (ss : List KS) (hl : ss.length ≤ 1048576) :
    Ev (fun k => spec_NeedForKeys.f k l b g t a ss) (ansK l b g t a ss) ∧ Ev (fun k => impl_NeedForKeys.f k l b g t a ss) (ansK l b g t a ss) := by
  constructor
  · simp only [spec_NeedForKeys.f]
    refine Ev.bind (a := okB l b g t a ss) ?_ ?_
    · simp only [spec_l6Sets.f]
      refine Ev.bind (specGoodTree_ev l b g t z hby a) ?_
      cases hT : treeB l b g t a with
      | false =>
        refine Ev_f (by decide) (Ev_succ ?_)
        simp only [spec_l6Sets.j0]
        exact Ev_t trivial (Ev_eq (Ev.now _) (by simp only [okB, hT, Bool.false_and]))
      | true =>
        have s := (spOk_of (treeB_t hT).1 z.hg hby).s
        refine Ev_t rfl (Ev_succ ?_)
        simp only [spec_l6Sets.j0]
        refine Ev_ite (fun h => Ev_eq (Ev.now _) ?_) (fun h => Ev_eq (specSetsLoop_ev l b g t s z.hg ss hl) ?_)
        · have h' : ¬ ss.length ≤ 64 := by have := of_decide_eq_true h; omega
          simp only [okB, decide_eq_false h', Bool.false_and, Bool.and_false]
        · have h' : ss.length ≤ 64 := by have := of_decide_eq_false (Bool.eq_false_iff.2 h); omega
          simp only [okB, hT, decide_eq_true h', Bool.true_and]
    · refine Ev_ite (fun h => ?_) (fun h => Ev_eq (Ev.now _) (by simp only [ansK, if_neg h]))
      have h' := h
      simp only [okB, Bool.and_eq_true] at h'
      have hT := treeB_t h'.1
      exact Ev.bind (specNeed_ev l b g t (spOk_of hT.1 z.hg hby) a hT.2 ss (setsB_ok h'.2.2) hl) (Ev_eq (Ev.now _) (by simp only [ansK, if_pos h]))
  · simp only [impl_NeedForKeys.f]
    refine Ev.bind (implTreeOf_ev l b g t z hby a) ?_
    cases hT : treeB l b g t a with
    | false =>
      rw [treeB_f hT]
      exact Ev_f (by decide) (Ev_eq (Ev.now _) (by simp only [ansK, okB, hT, Bool.false_and, if_neg (show ¬ (false = true) by decide)]))
    | true =>
      obtain ⟨hg, ho⟩ := treeB_t hT
      have s := (spOk_of hg z.hg hby).s
      rw [if_pos hg, implR_ok ho]
      refine Ev_t rfl (Ev.bind (implSets_ev l b g t s z.hg ss hl) (Ev_ite (fun h => ?_) (fun h => Ev_eq (Ev.now _) ?_)))
      · have h' := h
        simp only [Bool.and_eq_true] at h'
        refine Ev.bind (implNeed_ev l a a (tabL l a) ss (setsB_ok h'.1) hl) (Ev_eq (Ev.now _) ?_)
        simp only [ansK, okB, hT, h'.1, h'.2, Bool.true_and, Bool.and_true, if_true]
      · have e : okB l b g t a ss = false := by
          simp only [okB, hT, Bool.true_and]
          rw [Bool.and_comm]; simpa using h
        simp only [ansK, e, if_neg (show ¬ (false = true) by decide)]
theorem szKeySetS_val (l : List S79) (hl : l.length ≤ maxLen) (n : Int) (h0 : 0 ≤ n) (h1 : n ≤ 1048576) : ∃ r, laws_szKeySetS.f l n = some r ∧ r ≤ n ∧ (0 ≤ r → l.length ≤ 1048576) := by
  have hl0 : (l.length : Int) ≤ 9223372036854775807 := by simp only [maxLen] at hl; omega
  simp only [laws_szKeySetS.f]
  rw [w64 (n := n - (l.length : Int)) (by omega) (by omega)]
  by_cases c : n - (l.length : Int) < 0
  · exact ⟨-1, if_pos c, by omega, fun h => by omega⟩
  · exact ⟨n - (l.length : Int), if_neg c, by omega, fun h => by omega⟩
end OfFnExactNeedForKeys
open OfFnExactNeedForKeys
theorem FnExactNeedForKeys : Stated := by
  intro l b g t a ss wl wb wg wt wa ws
  refine Ev.rounds ?_
  simp only [laws_FnExactNeedForKeys.f]
  obtain ⟨r, h1, h2, h3⟩ := szSpace_ev l b g t ⟨wl.1, fun p hp => (wl.2 p hp).1⟩ wb.1 wg.1 wt.1 1048576 (by omega) (by omega)
  refine Ev.bind h1 (Ev_ite (fun _ => Ev.now _) (fun c => ?_))
  have s := h3 (by omega)
  obtain ⟨r2, k1, k2, k3⟩ := szKeySetS_val ss ws.1 r (by omega) (by omega)
  refine Ev_bind0 k1 (Ev_ite (fun _ => Ev.now _) (fun c2 => ?_))
  have hs := k3 (by omega)
  have hby : ∀ r ∈ l, ∀ y ∈ r, 0 ≤ y ∧ y ≤ 255 := fun r hr y hy => wf8 ((wl.2 r hr).2 y hy)
  have f1 := toSpace_ev l b g t s
  have f2 := toKeySetS_ev ss hs
  generalize hq : (ss.map fun x => (⟨x.f0, x.f1⟩ : S73)) = qs at f2
  have hql : qs.length ≤ 1048576 := by rw [← hq, List.length_map]; exact hs
  obtain ⟨p, q⟩ := same_Need l b g t s hby a qs hql
  refine Ev.bind f1 (Ev.bind f2 (Ev.bind p (Ev.bind f1 (Ev.bind f2 (Ev.bind q (Ev_t rfl (Ev_succ ?_)))))))
  simp only [laws_FnExactNeedForKeys.j0]
  exact Ev_f (by simp) (Ev.bind f1 (Ev.bind (eqSpace_ev l b g t s) (Ev_t rfl (Ev.bind f2 (Ev.bind (eqKeySetS_ev qs (by omega)) (Ev_t rfl (Ev.now _)))))))
end Go.Proofs.Ytcdlookokffkeaa.Pure
