/-
The pure statement of FnExactOpenSpace: the printed functions of the program and of the reference answer alike for every argument within the bounds that the statement tells.
-/
import Derived.Test.YtlphbpaojcdjaaaWfFnExactOpenSpace
namespace Go.Proofs.Ytlphbpaojcdjaaa.Pure
open Go Go.RowKit Go.Proofs.Ytlphbpaojcdjaaa.PFnExactOpenSpace Go.Proofs.YtlphbpaojcdjaaaW.PrintWords Go.Proofs.YtlphbpaojcdjaaaW.PrintLast Go.Proofs.YtlphbpaojcdjaaaW.PrintMore Go.Proofs.Ytlphbpaojcdjaaa.Lib
set_option linter.unusedVariables false
set_option linter.unusedSimpArgs false
namespace OfFnExactOpenSpace
theorem within_eq (a b c : Int) : impl_within.f a b c = some (decide (b ≤ a ∧ a ≤ c)) := by
  simp only [impl_within.f]
  by_cases h : b ≤ a <;> simp [h]

theorem l1In_eq (a b c : Int) : spec_l1In.f a b c = some (decide (b ≤ a ∧ a ≤ c)) := by
  simp only [spec_l1In.f]
  by_cases h : b ≤ a <;> simp [h]

theorem toByteS_ev (l : List Int) (hl : l.length ≤ 1048576) : Ev (fun k => laws_toByteS.f k l) l := by
  have h := fill_ev (g := fun k x i => laws_toByteS.l0 k l x i) l 0 (fun x => x)
    (fun x i hx hi hr => Ev_succ (by
      simp only [laws_toByteS.l0]
      refine Ev_t (by omega) (Ev_t (by omega) (Ev_t (by omega) ?_))
      rw [w64_succ hi (by omega)]
      simpa [rd_nat] using hr))
    (fun x hx => Ev_succ (by simp only [laws_toByteS.l0]; exact Ev_f (by omega) (Ev.now _)))
    (List.replicate l.length 0) (by simp)
  rw [map_same] at h
  refine Ev.congr (fun k => ?_) h
  simp only [laws_toByteS.f]
  rw [if_pos (by omega), if_pos (by simp; omega)]
  simp

theorem eqByteS_ev (l : List Int) (hl : l.length ≤ 4611686018427387904) : Ev (fun k => laws_eqByteS.f k l l) true := by
  have h := all_ev (g := fun k i => laws_eqByteS.l0 k l l i) (r := true) l.length
    (fun i hi hr => Ev_succ (by
      simp only [laws_eqByteS.l0]
      refine Ev_t (by omega) (Ev_t (by omega) (Ev_t (by omega) (Ev_t trivial ?_)))
      rw [w64_succ hi (by omega)]; exact hr))
    (Ev_succ (by simp only [laws_eqByteS.l0]; exact Ev_f (by omega) (Ev.now _)))
  refine Ev.congr (fun k => ?_) h
  simp only [laws_eqByteS.f]; rw [if_pos trivial]

theorem eqIntS_ev (l : List Int) (hl : l.length ≤ 4611686018427387904) : Ev (fun k => laws_eqIntS.f k l l) true := by
  have h := all_ev (g := fun k i => laws_eqIntS.l0 k l l i) (r := true) l.length
    (fun i hi hr => Ev_succ (by
      simp only [laws_eqIntS.l0]
      refine Ev_t (by omega) (Ev_t (by omega) (Ev_t (by omega) (Ev_t trivial ?_)))
      rw [w64_succ hi (by omega)]; exact hr))
    (Ev_succ (by simp only [laws_eqIntS.l0]; exact Ev_f (by omega) (Ev.now _)))
  refine Ev.congr (fun k => ?_) h
  simp only [laws_eqIntS.f]; rw [if_pos trivial]

theorem rd_L_nat (xs : List (List Int)) (i : Nat) : rd_L2 xs (i : Int) = xs.getD i [] := by simp [rd_L2]
theorem szByteS_val (l : List Int) (hl : l.length ≤ maxLen) (n : Int) (h0 : 0 ≤ n) (h1 : n ≤ 1048576) : ∃ r, laws_szByteS.f l n = some r ∧ r ≤ n ∧ (0 ≤ r → l.length ≤ 1048576) := by
  have hl0 : (l.length : Int) ≤ 9223372036854775807 := by simp only [maxLen] at hl; omega
  simp only [laws_szByteS.f]
  rw [w64 (n := n - (l.length : Int)) (by omega) (by omega)]
  by_cases c : n - (l.length : Int) < 0
  · exact ⟨-1, if_pos c, by omega, fun h => by omega⟩
  · exact ⟨n - (l.length : Int), if_neg c, by omega, fun h => by omega⟩
theorem szByteSS_loop (l : List (List Int)) (hw : ∀ p ∈ l, p.length ≤ maxLen) (hl : l.length ≤ 1048576) : ∀ (m i : Nat) (x : Int), i + m = l.length → 0 ≤ x → x ≤ 1048576 →
    ∃ r, Ev (fun k => laws_szByteSS.l0 k l x (i : Int)) r ∧ r ≤ x ∧ (0 ≤ r → ∀ j, i ≤ j → j < l.length → (l.getD j []).length ≤ 1048576) := by
  intro m
  induction m with
  | zero =>
    intro i x hi h0 h1
    refine ⟨x, Ev_succ ?_, by omega, fun _ j h2 h3 => by omega⟩
    simp only [laws_szByteSS.l0]; exact Ev_f (by omega) (Ev.now _)
  | succ m ih =>
    intro i x hi h0 h1
    have hp := hw _ (getD_mem (xs := l) (i := i) [] (by omega))
    obtain ⟨r0, e, e1, e2⟩ := szByteS_val _ hp x h0 h1
    by_cases c : r0 < 0
    · refine ⟨-1, Ev_succ ?_, by omega, fun h => by omega⟩
      simp only [laws_szByteSS.l0, rd_L_nat]
      exact Ev_t (by omega) (Ev_t (by omega) (Ev_bind0 e (Ev_t c (Ev.now _))))
    · obtain ⟨r, h2, h3, h4⟩ := ih (i + 1) r0 (by omega) (by omega) (by omega)
      refine ⟨r, Ev_succ ?_, by omega, fun h j h5 h6 => ?_⟩
      · simp only [laws_szByteSS.l0, rd_L_nat]
        rw [w64_succ (show i < l.length by omega) (by omega)]
        exact Ev_t (by omega) (Ev_t (by omega) (Ev_bind0 e (Ev_f c h2)))
      · by_cases h7 : j = i
        · subst h7; exact e2 (by omega)
        · exact h4 h j (by omega) h6
theorem szByteSS_ev (l : List (List Int)) (hw : l.length ≤ maxLen ∧ ∀ p ∈ l, p.length ≤ maxLen) (n : Int) (hn : 0 ≤ n) (hn' : n ≤ 1048576) : ∃ r, Ev (fun k => laws_szByteSS.f k l n) r ∧ r ≤ n ∧ (0 ≤ r → l.length ≤ 1048576 ∧ ∀ p ∈ l, p.length ≤ 1048576) := by
  have hl0 : (l.length : Int) ≤ 9223372036854775807 := by have := hw.1; simp only [maxLen] at this; omega
  have e : wrap64 (n - (l.length : Int)) = n - (l.length : Int) := w64 (by omega) (by omega)
  simp only [laws_szByteSS.f, e]
  by_cases c : n - (l.length : Int) < 0
  · exact ⟨-1, Ev_t c (Ev.now _), by omega, fun h => by omega⟩
  · obtain ⟨r, h1, h2, h3⟩ := szByteSS_loop l hw.2 (by omega) l.length 0 (n - (l.length : Int)) (by omega) (by omega) (by omega)
    refine ⟨r, Ev_f c h1, by omega, fun h => ⟨by omega, fun p hp => ?_⟩⟩
    obtain ⟨j, hj, rfl⟩ := List.mem_iff_getElem.1 hp
    have := h3 h j (by omega) hj
    simpa [List.getD, hj] using this
theorem toByteSS_ev (l : List (List Int)) (hl : l.length ≤ 1048576) (hz : ∀ p ∈ l, p.length ≤ 1048576) : Ev (fun k => laws_toByteSS.f k l) l := by
  have h := fill_ev (g := fun k x i => laws_toByteSS.l0 k l x i) l [] (fun x => x)
    (fun x i hx hi hr => Ev_succ (by
      simp only [laws_toByteSS.l0, rd_L_nat]
      refine Ev_t (by omega) (Ev_t (by omega) (Ev.bind (toByteS_ev _ (hz _ (getD_mem [] hi))) (Ev_t (by omega) ?_)))
      rw [w64_succ hi (by omega)]
      simpa using hr))
    (fun x hx => Ev_succ (by simp only [laws_toByteSS.l0]; exact Ev_f (by omega) (Ev.now _)))
    (List.replicate l.length []) (by simp)
  rw [map_same] at h
  refine Ev.congr (fun k => ?_) h
  simp only [laws_toByteSS.f]
  rw [if_pos (by omega), if_pos (by simp; omega)]
  simp
theorem eqByteSS_ev (l : List (List Int)) (hl : l.length ≤ 1048576) (hz : ∀ p ∈ l, p.length ≤ 1048576) : Ev (fun k => laws_eqByteSS.f k l l) true := by
  have h := all_ev (g := fun k i => laws_eqByteSS.l0 k l l i) (r := true) l.length
    (fun i hi hr => Ev_succ (by
      simp only [laws_eqByteSS.l0, rd_L_nat]
      refine Ev_t (by omega) (Ev_t (by omega) (Ev_t (by omega) (Ev.bind (eqByteS_ev _ (by have := hz _ (getD_mem [] hi); omega)) (Ev_t rfl ?_))))
      rw [w64_succ hi (by omega)]; exact hr))
    (Ev_succ (by simp only [laws_eqByteSS.l0]; exact Ev_f (by omega) (Ev.now _)))
  refine Ev.congr (fun k => ?_) h
  simp only [laws_eqByteSS.f]; rw [if_pos trivial]

def blocksB (l : List (List Int)) : Bool := decide (40 ≤ l.length ∧ l.length ≤ 160) && l.all (fun b => decide (b.length = 128))
theorem indexFunc_loop (l : List (List Int)) (hl : l.length ≤ 1048576) : ∀ (m i : Nat), i + m = l.length → ∃ r : Int, Ev (fun k => slices_IndexFunc_byte_byte_87.l0 k l (l.length : Int) (i : Int)) r ∧ (0 ≤ r ↔ ¬ ((l.drop i).all (fun b => decide (b.length = 128)) = true)) := by
  intro m
  induction m with
  | zero =>
    intro i hi
    refine ⟨-1, Ev_succ ?_, ?_⟩
    · simp only [slices_IndexFunc_byte_byte_87.l0]; exact Ev_f (by omega) (Ev.now _)
    · rw [List.drop_of_length_le (by omega)]; simp
  | succ m ih =>
    intro i hi
    have hd := drop_cons l i [] (by omega)
    obtain ⟨r, h1, h2⟩ := ih (i + 1) (by omega)
    by_cases c : (l.getD i []).length = 128
    · refine ⟨r, Ev_succ ?_, ?_⟩
      · simp only [slices_IndexFunc_byte_byte_87.l0, rd_L_nat, impl_areBlocks_1.f, Option.bind_some]
        rw [w64_succ (show i < l.length by omega) (by omega)]
        exact Ev_t (by omega) (Ev_t (by omega) (Ev_t (by omega) (Ev_f (by rw [c]; decide) h1)))
      · rw [hd, h2, List.all_cons, c]; simp
    · refine ⟨(i : Int), Ev_succ ?_, ?_⟩
      · simp only [slices_IndexFunc_byte_byte_87.l0, rd_L_nat, impl_areBlocks_1.f, Option.bind_some]
        exact Ev_t (by omega) (Ev_t (by omega) (Ev_t (by omega) (Ev_t (by simp only [bne_iff_ne]; omega) (Ev.now _))))
      · rw [hd, List.all_cons]; simp only [c, decide_false, Bool.false_and, Bool.false_eq_true, not_false_eq_true, iff_true]; omega
theorem areBlocks_ev (l : List (List Int)) (hl : l.length ≤ 1048576) : Ev (fun k => impl_areBlocks.f k l) (blocksB l) := by
  simp only [impl_areBlocks.f, within_eq, Option.bind_some, decide_eq_true_eq]
  by_cases c : (40 : Int) ≤ (l.length : Int) ∧ (l.length : Int) ≤ 160
  · obtain ⟨r, h1, h2⟩ := indexFunc_loop l hl l.length 0 (by omega)
    refine Ev_t c (Ev.bind (a := decide (r ≥ 0)) ?_ (Ev_eq (Ev.now _) ?_))
    · simp only [slices_ContainsFunc_byte_byte_77.f, slices_IndexFunc_byte_byte_87.f]
      exact Ev.bind h1 (Ev.now _)
    · rw [List.drop_zero] at h2
      have c' : 40 ≤ l.length ∧ l.length ≤ 160 := by omega
      simp only [blocksB, c', and_self, decide_true, Bool.true_and]
      cases hh : l.all (fun b => decide (b.length = 128)) with
      | true => simp only [hh, not_true, iff_false] at h2; simp; omega
      | false => simp only [hh] at h2; have : 0 ≤ r := h2.2 (by simp); simp [this]
  · refine Ev_f c (Ev_eq (Ev.now _) ?_)
    have c' : ¬ (40 ≤ l.length ∧ l.length ≤ 160) := by omega
    simp only [blocksB, c', decide_false, Bool.false_and]

def diskB (l : List (List Int)) (w : Int) (t : Int) : Bool := blocksB l && (decide (0 ≤ w ∧ w ≤ 1000000000) && decide (-1 ≤ t ∧ t ≤ 1000000))
theorem implGoodDisk_ev (l : List (List Int)) (w : Int) (o : Bool) (t : Int) (hl : l.length ≤ 1048576) : Ev (fun k => impl_GoodDisk.f k l w o t) (diskB l w t) := by
  simp only [impl_GoodDisk.f, within_eq, Option.bind_some, decide_eq_true_eq]
  refine Ev.bind (areBlocks_ev l hl) ?_
  cases hb : blocksB l with
  | false => exact Ev_f (by decide) (Ev_eq (Ev.now _) (by simp [diskB, hb]))
  | true =>
    refine Ev_t rfl (Ev_ite (fun h => Ev_eq (Ev.now _) (by simp [diskB, hb, h])) (fun h => Ev_eq (Ev.now _) (by simp only [diskB, hb, h, decide_false, Bool.false_and, Bool.and_false])))
theorem specGoodDisk_loop (l : List (List Int)) (hl : l.length ≤ 1048576) : ∀ (m i : Nat), i + m = l.length → Ev (fun k => spec_GoodDisk.l0 k l (l.length : Int) (i : Int)) ((l.drop i).all (fun b => decide (b.length = 128))) := by
  intro m
  induction m with
  | zero =>
    intro i hi
    refine Ev_succ ?_
    simp only [spec_GoodDisk.l0]
    rw [List.drop_of_length_le (by omega)]
    exact Ev_f (by omega) (Ev.now _)
  | succ m ih =>
    intro i hi
    have hd := drop_cons l i [] (by omega)
    refine Ev_succ ?_
    simp only [spec_GoodDisk.l0, rd_L_nat]
    rw [w64_succ (show i < l.length by omega) (by omega), hd, List.all_cons]
    refine Ev_t (by omega) (Ev_t (by omega) (Ev_t (by omega) (Ev_ite (fun h => Ev_eq (ih (i + 1) (by omega)) ?_) (fun h => Ev_eq (Ev.now _) ?_))))
    · have h' : (l.getD i []).length = 128 := by omega
      simp only [h', decide_true, Bool.true_and]
    · have h' : ¬ (l.getD i []).length = 128 := by omega
      simp only [h', decide_false, Bool.false_and]
theorem specGoodDisk_ev (l : List (List Int)) (w : Int) (o : Bool) (t : Int) (hl : l.length ≤ 1048576) : Ev (fun k => spec_GoodDisk.f k l w o t) (diskB l w t) := by
  simp only [spec_GoodDisk.f, l1In_eq, Option.bind_some, decide_eq_true_eq]
  have hf : ∀ b : Bool, b = true → diskB l w t = false → Ev (fun k => spec_GoodDisk.j0 k b l w o t) (diskB l w t) := by
    intro b hb hd
    refine Ev_succ ?_
    simp only [spec_GoodDisk.j0]
    exact Ev_t hb (Ev_eq (Ev.now _) hd.symm)
  by_cases c1 : (40 : Int) ≤ (l.length : Int) ∧ (l.length : Int) ≤ 160
  · have c1' : 40 ≤ l.length ∧ l.length ≤ 160 := by omega
    refine Ev_t c1 ?_
    by_cases c2 : 0 ≤ w ∧ w ≤ 1000000000
    · refine Ev_t c2 ?_
      by_cases c3 : -1 ≤ t ∧ t ≤ 1000000
      · refine Ev_succ ?_
        simp only [spec_GoodDisk.j0]
        have h := specGoodDisk_loop l hl l.length 0 (by omega)
        rw [List.drop_zero] at h
        exact Ev_f (by simp [c3]) (Ev_eq h (by simp only [diskB, blocksB, c1', c2, c3, and_self, decide_true, Bool.true_and, Bool.and_true]))
      · exact hf _ (by simp only [c3, decide_false, Bool.not_false]) (by simp only [diskB, c3, decide_false, Bool.and_false])
    · refine Ev_f c2 (hf _ rfl (by simp only [diskB, c2, decide_false, Bool.false_and, Bool.and_false]))
  · refine Ev_f c1 (hf _ rfl ?_)
    have c1' : ¬ (40 ≤ l.length ∧ l.length ≤ 160) := by omega
    simp only [diskB, blocksB, c1', decide_false, Bool.false_and]

theorem tdiv8 (k : Nat) (h : k < 4611686018427387904) : wrap64 (Int.tdiv (k : Int) 8) = ((k / 8 : Nat) : Int) := by
  rw [Int.tdiv_eq_ediv_of_nonneg (by omega), w64 (by omega) (by omega)]; omega
theorem tmod8 (k : Nat) : Int.tmod (k : Int) 8 = ((k % 8 : Nat) : Int) := by
  rw [Int.tmod_eq_emod_of_nonneg (by omega)]; omega
def usedB (b : List Int) (k : Nat) : Bool := (Go.bits .and .u8 (shr .u8 (b.getD (k / 8) 0) ((k % 8 : Nat) : Int)) 1) == 1
theorem implUsed_eq (l : List (List Int)) (b g t : List Int) (k : Nat) (hk : k < 160) (hb : b.length = 20) : impl_Space_used.f l b g t (k : Int) = some (usedB b k) := by
  simp only [impl_Space_used.f, tdiv8 k (by omega), tmod8, rd_nat]
  rw [if_pos (by omega), if_pos (by omega), if_pos (by omega)]; rfl
theorem specUsed_eq (b : List Int) (k : Nat) (hk : k < 160) (hb : b.length = 20) : spec_l5Used.f b (k : Int) = some (usedB b k) := by
  simp only [spec_l5Used.f, tdiv8 k (by omega), tmod8, rd_nat]
  rw [wu64 (by omega) (by omega), if_pos (by omega), if_pos (by omega), if_pos (by omega)]; rfl
def inB (n : Nat) (b : List Int) (x : Int) : Bool := decide (33 ≤ x ∧ x ≤ (n : Int) - 1) && usedB b x.toNat
def listP (n : Nat) (b : List Int) (l : List Int) (j : Nat) : Bool := inB n b (l.getD j 0) && (decide (j = 0) || decide (l.getD (j - 1) 0 < l.getD j 0))
def listB (n : Nat) (b : List Int) (l : List Int) : Bool := (List.range l.length).all (listP n b l)
def bitP (n : Nat) (b : List Int) (k : Nat) : Bool := if k < 33 then (if usedB b k = true then !decide (n ≤ k) else false) else (if n ≤ k then !usedB b k else true)
def goodB (l : List (List Int)) (b g t : List Int) : Bool := blocksB l && (decide (b.length = 20) && ((List.range 160).all (bitP l.length b) && (listB l.length b g && listB l.length b t)))
theorem scan_ev {g : Nat → Int → Option Bool} (n : Nat) (p : Nat → Bool) (R : Bool)
    (ht : ∀ i, i < n → p i = true → ∀ r, Ev (fun k => g k ((i + 1 : Nat) : Int)) r → Ev (fun k => g k (i : Int)) r)
    (hf : ∀ i, i < n → p i = false → Ev (fun k => g k (i : Int)) false)
    (he : Ev (fun k => g k (n : Int)) R) : Ev (fun k => g k 0) ((List.range n).all p && R) := by
  have key : ∀ m i, i + m = n → Ev (fun k => g k (i : Int)) ((List.range' i m).all p && R) := by
    intro m
    induction m with
    | zero =>
      intro i hi
      obtain rfl : i = n := by omega
      simpa using he
    | succ m ih =>
      intro i hi
      rw [List.range'_succ, List.all_cons]
      cases hp : p i with
      | true => rw [Bool.true_and]; exact ht i (by omega) hp _ (ih (i + 1) (by omega))
      | false => rw [Bool.false_and, Bool.false_and]; exact hf i (by omega) hp
  have := key n 0 (by omega)
  rwa [← List.range_eq_range'] at this

theorem rd_M_nat (xs : List (List Int)) (i : Nat) : rd_L4 xs (i : Int) = xs.getD i [] := by simp [rd_L4]
theorem implIsBlock_eq (l : List (List Int)) (b g t : List Int) (hl : l.length ≤ 160) (hl0 : 0 < l.length) (hb : b.length = 20) (x : Int) : impl_Space_isBlock.f l b g t x = some (inB l.length b x) := by
  simp only [impl_Space_isBlock.f, within_eq, Option.bind_some, decide_eq_true_eq]
  rw [w64 (n := (l.length : Int) - 1) (by omega) (by omega)]
  by_cases c : 33 ≤ x ∧ x ≤ (l.length : Int) - 1
  · rw [if_pos c]
    have hx : x = (x.toNat : Int) := by omega
    have := implUsed_eq l b g t x.toNat (by omega) hb
    rw [← hx] at this
    rw [this, Option.bind_some]
    simp only [inB, c, and_self, decide_true, Bool.true_and]
  · rw [if_neg c]; simp only [inB, c, decide_false, Bool.false_and]
theorem implAreUsed_ev (l : List (List Int)) (b g t : List Int) (hl : l.length ≤ 160) (hl0 : 0 < l.length) (hb : b.length = 20) (x : List Int) (hx : x.length ≤ 1048576) : Ev (fun k => impl_Space_areUsed.f k l b g t x) (listB l.length b x) := by
  have h := scan_ev (g := fun k i => impl_Space_areUsed.l0 k x x (x.length : Int) i l b g t) x.length (listP l.length b x) true
    (fun i hi hp r hr => Ev_succ (by
      simp only [impl_Space_areUsed.l0, rd_nat, implIsBlock_eq l b g t hl hl0 hb, Option.bind_some]
      simp only [listP, Bool.and_eq_true, Bool.or_eq_true, decide_eq_true_eq] at hp
      rw [w64_succ hi (by omega)]
      refine Ev_t (by omega) (Ev_t (by omega) (Ev_t (by omega) (Ev_t hp.1 (Ev_ite (fun h0 => ?_) (fun h0 => hr)))))
      have e : wrap64 ((i : Int) - 1) = ((i - 1 : Nat) : Int) := by rw [w64 (by omega) (by omega)]; omega
      simp only [e, rd_nat]
      exact Ev_t (by omega) (Ev_t (by omega) (Ev_f (by omega) hr))))
    (fun i hi hp => Ev_succ (by
      simp only [impl_Space_areUsed.l0, rd_nat, implIsBlock_eq l b g t hl hl0 hb, Option.bind_some]
      refine Ev_t (by omega) (Ev_t (by omega) (Ev_t (by omega) ?_))
      cases h1 : inB l.length b (x.getD i 0) with
      | false => exact Ev_f (by decide) (Ev.now _)
      | true =>
        simp only [listP, h1, Bool.true_and, Bool.or_eq_false_iff, decide_eq_false_iff_not] at hp
        have e : wrap64 ((i : Int) - 1) = ((i - 1 : Nat) : Int) := by rw [w64 (by omega) (by omega)]; omega
        simp only [e, rd_nat]
        exact Ev_t trivial (Ev_t (by omega) (Ev_t (by omega) (Ev_t (by omega) (Ev_t (by omega) (Ev.now _)))))))
    (Ev_succ (by simp only [impl_Space_areUsed.l0]; exact Ev_f (by omega) (Ev.now _)))
  rw [Bool.and_true] at h
  simp only [impl_Space_areUsed.f]
  exact h
theorem implGoodSpace_ev (l : List (List Int)) (b g t : List Int) (hl : l.length ≤ 1048576) (hg : g.length ≤ 1048576) (ht : t.length ≤ 1048576) : Ev (fun k => impl_GoodSpace.f k l b g t) (goodB l b g t) := by
  simp only [impl_GoodSpace.f]
  refine Ev.bind (areBlocks_ev l hl) ?_
  cases hb : blocksB l with
  | false =>
    refine Ev_f (by decide) (Ev_succ ?_)
    simp only [impl_GoodSpace.j0, goodB, hb, Bool.false_and]
    exact Ev_t trivial (Ev.now _)
  | true =>
    have hn : 40 ≤ l.length ∧ l.length ≤ 160 := by simp only [blocksB, Bool.and_eq_true, decide_eq_true_eq] at hb; exact hb.1
    refine Ev_t rfl (Ev_succ ?_)
    simp only [impl_GoodSpace.j0]
    refine Ev_ite (fun c => Ev_eq (Ev.now _) ?_) (fun c => ?_)
    · have c' : ¬ b.length = 20 := by simp only [bne_iff_ne] at c; omega
      simp only [goodB, hb, c', decide_false, Bool.false_and, Bool.and_false]
    · have c' : b.length = 20 := by simp only [bne_iff_ne, ne_eq, Decidable.not_not] at c; omega
      have h := scan_ev (g := fun k i => impl_GoodSpace.l0 k i l b g t) 160 (bitP l.length b) (listB l.length b g && listB l.length b t)
        (fun i hi hp r hr => Ev_succ (by
          simp only [impl_GoodSpace.l0, implUsed_eq l b g t i hi c', Option.bind_some]
          rw [w64_succ hi (by omega)]
          simp only [bitP] at hp
          refine Ev_t (by omega) (Ev_ite (fun h33 => ?_) (fun h33 => ?_))
          · rw [if_pos (by omega)] at hp
            cases hu : usedB b i with
            | false => rw [hu] at hp; simp at hp
            | true =>
              rw [hu, if_pos rfl] at hp
              exact Ev_t rfl (Ev_f (by simp at hp; omega) hr)
          · rw [if_neg (by omega)] at hp
            refine Ev_ite (fun hx => ?_) (fun hx => hr)
            rw [if_pos (by omega)] at hp
            exact Ev_f (by simpa using hp) hr))
        (fun i hi hp => Ev_succ (by
          simp only [impl_GoodSpace.l0, implUsed_eq l b g t i hi c', Option.bind_some]
          simp only [bitP] at hp
          refine Ev_t (by omega) (Ev_ite (fun h33 => ?_) (fun h33 => ?_))
          · rw [if_pos (by omega)] at hp
            cases hu : usedB b i with
            | false => exact Ev_f (by decide) (Ev.now _)
            | true =>
              rw [hu, if_pos rfl] at hp
              exact Ev_t rfl (Ev_t (by simp at hp; omega) (Ev.now _))
          · rw [if_neg (by omega)] at hp
            by_cases hx : l.length ≤ i
            · rw [if_pos hx] at hp
              exact Ev_t (by omega) (Ev_t (by simpa using hp) (Ev.now _))
            · rw [if_neg hx] at hp; exact absurd hp (by decide)))
        (Ev_succ (by
          simp only [impl_GoodSpace.l0]
          refine Ev_f (by omega) (Ev.bind (implAreUsed_ev l b g t hn.2 (by omega) c' g hg) ?_)
          cases hx : listB l.length b g with
          | false => exact Ev_f (by decide) (Ev.now _)
          | true => exact Ev_t rfl (Ev.bind (implAreUsed_ev l b g t hn.2 (by omega) c' t ht) (Ev.now _))))
      refine Ev_eq h ?_
      simp only [goodB, hb, c', decide_true, Bool.true_and]
theorem specList_ev (l : List (List Int)) (b g t : List Int) (hn : 40 ≤ l.length ∧ l.length ≤ 160) (hb : b.length = 20) (y : List (List Int)) (j : Nat) (R : Bool) (x : List Int) (hx : x.length ≤ 1048576)
    (hR : Ev (fun k => spec_GoodSpace.l2 k (l.length : Int) y (y.length : Int) ((j + 1 : Nat) : Int) l b g t) R) (hj : j < 2) :
    Ev (fun k => spec_GoodSpace.l3 k (l.length : Int) x y (y.length : Int) (j : Int) x (x.length : Int) 0 l b g t) (listB l.length b x && R) := by
  have hin : ∀ z : Int, ¬ (33 ≤ z ∧ z ≤ (l.length : Int) - 1) → inB l.length b z = false := fun z c => by simp only [inB, c, decide_false, Bool.false_and]
  have hin' : ∀ z : Int, (33 ≤ z ∧ z ≤ (l.length : Int) - 1) → spec_l5Used.f b z = some (inB l.length b z) := fun z c => by
    have hz : z = (z.toNat : Int) := by omega
    have := specUsed_eq b z.toNat (by omega) hb
    rw [← hz] at this
    rw [this]; simp only [inB, c, and_self, decide_true, Bool.true_and]
  refine scan_ev (g := fun k i => spec_GoodSpace.l3 k (l.length : Int) x y (y.length : Int) (j : Int) x (x.length : Int) i l b g t) x.length (listP l.length b x) R
    (fun i hi hp r hr => Ev_succ (by
      simp only [spec_GoodSpace.l3, rd_nat, l1In_eq, Option.bind_some, decide_eq_true_eq]
      rw [w64 (n := (l.length : Int) - 1) (by omega) (by omega)]
      simp only [listP, Bool.and_eq_true, Bool.or_eq_true, decide_eq_true_eq] at hp
      rw [w64_succ hi (by omega)]
      have c : 33 ≤ x.getD i 0 ∧ x.getD i 0 ≤ (l.length : Int) - 1 := by
        by_cases c : 33 ≤ x.getD i 0 ∧ x.getD i 0 ≤ (l.length : Int) - 1
        · exact c
        · rw [hin _ c] at hp; exact absurd hp.1 (by decide)
      refine Ev_t (by omega) (Ev_t (by omega) (Ev_t (by omega) (Ev_t c (Ev_bind0 (hin' _ c) (Ev_t hp.1 (Ev_ite (fun h0 => ?_) (fun h0 => hr)))))))
      have e : wrap64 ((i : Int) - 1) = ((i - 1 : Nat) : Int) := by rw [w64 (by omega) (by omega)]; omega
      simp only [e, rd_nat]
      exact Ev_t (by omega) (Ev_t (by omega) (Ev_f (by omega) hr))))
    (fun i hi hp => Ev_succ (by
      simp only [spec_GoodSpace.l3, rd_nat, l1In_eq, Option.bind_some, decide_eq_true_eq]
      rw [w64 (n := (l.length : Int) - 1) (by omega) (by omega)]
      refine Ev_t (by omega) (Ev_t (by omega) (Ev_t (by omega) (Ev_ite (fun c => ?_) (fun c => Ev.now _))))
      refine Ev_bind0 (hin' _ c) ?_
      cases h1 : inB l.length b (x.getD i 0) with
      | false => exact Ev_f (by decide) (Ev.now _)
      | true =>
        simp only [listP, h1, Bool.true_and, Bool.or_eq_false_iff, decide_eq_false_iff_not] at hp
        have e : wrap64 ((i : Int) - 1) = ((i - 1 : Nat) : Int) := by rw [w64 (by omega) (by omega)]; omega
        simp only [e, rd_nat]
        exact Ev_t trivial (Ev_t (by omega) (Ev_t (by omega) (Ev_t (by omega) (Ev_t (by omega) (Ev.now _)))))))
    (Ev_succ (by
      simp only [spec_GoodSpace.l3]
      rw [w64_succ hj (by omega)]
      exact Ev_f (by omega) hR))
theorem specGoodSpace_ev (l : List (List Int)) (b g t : List Int) (hl : l.length ≤ 1048576) (hg : g.length ≤ 1048576) (ht : t.length ≤ 1048576) : Ev (fun k => spec_GoodSpace.f k l b g t) (goodB l b g t) := by
  simp only [spec_GoodSpace.f, l1In_eq, Option.bind_some, decide_eq_true_eq]
  by_cases c1 : (40 : Int) ≤ (l.length : Int) ∧ (l.length : Int) ≤ 160
  · have hn : 40 ≤ l.length ∧ l.length ≤ 160 := by omega
    refine Ev_t c1 (Ev_succ ?_)
    simp only [spec_GoodSpace.j0]
    refine Ev_ite (fun c => Ev_eq (Ev.now _) ?_) (fun c => ?_)
    · have c' : ¬ b.length = 20 := by simp only [bne_iff_ne] at c; omega
      simp only [goodB, c', decide_false, Bool.false_and, Bool.and_false]
    · have c' : b.length = 20 := by simp only [bne_iff_ne, ne_eq, Decidable.not_not] at c; omega
      have hL : Ev (fun k => spec_GoodSpace.l2 k (l.length : Int) [g, t] (([g, t] : List (List Int)).length : Int) 0 l b g t) (listB l.length b g && (listB l.length b t && true)) := by
        have e2 : Ev (fun k => spec_GoodSpace.l2 k (l.length : Int) [g, t] (([g, t] : List (List Int)).length : Int) ((2 : Nat) : Int) l b g t) true := Ev_succ (by
          simp only [spec_GoodSpace.l2]; exact Ev_f (by simp) (Ev.now _))
        have e1 : Ev (fun k => spec_GoodSpace.l2 k (l.length : Int) [g, t] (([g, t] : List (List Int)).length : Int) ((1 : Nat) : Int) l b g t) (listB l.length b t && true) := Ev_succ (by
          simp only [spec_GoodSpace.l2, rd_M_nat]
          exact Ev_t (by simp) (Ev_t (by omega) (Ev_t (by simp) (specList_ev l b g t hn c' [g, t] 1 true t ht e2 (by omega)))))
        exact Ev_succ (by
          have z : (0 : Int) = ((0 : Nat) : Int) := rfl
          rw [z]
          simp only [spec_GoodSpace.l2, rd_M_nat]
          exact Ev_t (by simp) (Ev_t (by omega) (Ev_t (by simp) (specList_ev l b g t hn c' [g, t] 0 _ g hg e1 (by omega)))))
      have hB : Ev (fun k => spec_GoodSpace.l1 k (l.length : Int) 0 l b g t) ((List.range 160).all (bitP l.length b) && (listB l.length b g && (listB l.length b t && true))) :=
        scan_ev (g := fun k i => spec_GoodSpace.l1 k (l.length : Int) i l b g t) 160 (bitP l.length b) _
          (fun i hi hp r hr => Ev_succ (by
            simp only [spec_GoodSpace.l1, specUsed_eq b i hi c', Option.bind_some]
            rw [w64_succ hi (by omega)]
            simp only [bitP] at hp
            refine Ev_t (by omega) (Ev_ite (fun h33 => ?_) (fun h33 => ?_))
            · rw [if_pos (by omega)] at hp
              cases hu : usedB b i with
              | false => rw [hu] at hp; simp at hp
              | true =>
                rw [hu, if_pos rfl] at hp
                exact Ev_t rfl (Ev_f (by simp at hp; omega) hr)
            · rw [if_neg (by omega)] at hp
              refine Ev_ite (fun hx => ?_) (fun hx => hr)
              rw [if_pos (by omega)] at hp
              exact Ev_f (by simpa using hp) hr))
          (fun i hi hp => Ev_succ (by
            simp only [spec_GoodSpace.l1, specUsed_eq b i hi c', Option.bind_some]
            simp only [bitP] at hp
            refine Ev_t (by omega) (Ev_ite (fun h33 => ?_) (fun h33 => ?_))
            · rw [if_pos (by omega)] at hp
              cases hu : usedB b i with
              | false => exact Ev_f (by decide) (Ev.now _)
              | true =>
                rw [hu, if_pos rfl] at hp
                exact Ev_t rfl (Ev_t (by simp at hp; omega) (Ev.now _))
            · rw [if_neg (by omega)] at hp
              by_cases hx : l.length ≤ i
              · rw [if_pos hx] at hp
                exact Ev_t (by omega) (Ev_t (by simpa using hp) (Ev.now _))
              · rw [if_neg hx] at hp; exact absurd hp (by decide)))
          (Ev_succ (by
            simp only [spec_GoodSpace.l1]
            exact Ev_f (by omega) (Ev_bind0 rfl hL)))
      have hA := scan_ev (g := fun k i => spec_GoodSpace.l0 k (l.length : Int) l (l.length : Int) i l b g t) l.length (fun i => decide ((l.getD i []).length = 128)) _
          (fun i hi hp r hr => Ev_succ (by
            simp only [spec_GoodSpace.l0, rd_L_nat]
            rw [w64_succ hi (by omega)]
            simp only [decide_eq_true_eq] at hp
            exact Ev_t (by omega) (Ev_t (by omega) (Ev_t (by omega) (Ev_t (by omega) hr)))))
          (fun i hi hp => Ev_succ (by
            simp only [spec_GoodSpace.l0, rd_L_nat]
            simp only [decide_eq_false_iff_not] at hp
            exact Ev_t (by omega) (Ev_t (by omega) (Ev_t (by omega) (Ev_f (by omega) (Ev.now _))))))
          (Ev_succ (by
            simp only [spec_GoodSpace.l0]
            exact Ev_f (by omega) hB))
      refine Ev_eq hA ?_
      have e : (List.range l.length).all (fun i => decide ((l.getD i []).length = 128)) = l.all (fun b => decide (b.length = 128)) := by
        rw [Bool.eq_iff_iff]
        simp only [List.all_eq_true, List.mem_range, decide_eq_true_eq]
        constructor
        · intro h x hx
          obtain ⟨j, hj, rfl⟩ := List.mem_iff_getElem.1 hx
          have := h j hj
          simpa [List.getD, hj] using this
        · intro h j hj
          exact h _ (getD_mem [] hj)
      rw [e]
      simp only [goodB, blocksB, hn, c', and_self, decide_true, Bool.true_and, Bool.and_true]
  · refine Ev_f c1 (Ev_succ ?_)
    have c' : ¬ (40 ≤ l.length ∧ l.length ≤ 160) := by omega
    simp only [spec_GoodSpace.j0, goodB, blocksB, c', decide_false, Bool.false_and]
    exact Ev_t trivial (Ev.now _)
structure GoodS (l : List (List Int)) (b g t : List Int) : Prop where
  lo : 40 ≤ l.length
  hi : l.length ≤ 160
  bits : b.length = 20
  rows : ∀ p ∈ l, p.length = 128
  gone : listB l.length b g = true
  touched : listB l.length b t = true
theorem goodB_facts {l : List (List Int)} {b g t : List Int} (h : goodB l b g t = true) : GoodS l b g t := by
  simp only [goodB, blocksB, Bool.and_eq_true, decide_eq_true_eq, List.all_eq_true] at h
  obtain ⟨⟨⟨h1, h2⟩, h3⟩, h4, h5, h6, h7⟩ := h
  exact ⟨h1, h2, h4, h3, h6, h7⟩

theorem szDisk_ev (l : List (List Int)) (w : Int) (o : Bool) (t : Int) (hw : l.length ≤ maxLen ∧ ∀ p ∈ l, p.length ≤ maxLen) (n : Int) (hn : 0 ≤ n) (hn' : n ≤ 1048576) : ∃ r, Ev (fun k => laws_szDisk.f k l w o t n) r ∧ r ≤ n ∧ (0 ≤ r → l.length ≤ 1048576 ∧ ∀ p ∈ l, p.length ≤ 1048576) := by
  obtain ⟨r, h1, h2, h3⟩ := szByteSS_ev l hw n hn hn'
  simp only [laws_szDisk.f]
  by_cases c : r < 0
  · exact ⟨-1, Ev.bind h1 (Ev_t c (Ev.now _)), by omega, fun h => by omega⟩
  · exact ⟨r, Ev.bind h1 (Ev_f c (Ev.now _)), h2, h3⟩
theorem toDisk_ev (l : List (List Int)) (w : Int) (o : Bool) (t : Int) (hl : l.length ≤ 1048576) (hz : ∀ p ∈ l, p.length ≤ 1048576) : Ev (fun k => laws_toDisk.f k l w o t) (l, w, o, t) := by
  simp only [laws_toDisk.f]
  exact Ev.bind (toByteSS_ev l hl hz) (Ev.now _)
theorem eqDisk_ev (l : List (List Int)) (w : Int) (o : Bool) (t : Int) (hl : l.length ≤ 1048576) (hz : ∀ p ∈ l, p.length ≤ 1048576) : Ev (fun k => laws_eqDisk.f k l w o t l w o t) true := by
  simp only [laws_eqDisk.f]
  exact Ev.bind (eqByteSS_ev l hl hz) (Ev_t rfl (Ev_t trivial (Ev_f (by simp) (Ev_t trivial (Ev.now _)))))

theorem clone_ev (l : List Int) (hl : l.length ≤ 1048576) : slices_Clone_byte_byte.f l = some l := by
  simp only [slices_Clone_byte_byte.f, Option.bind_some]
  rw [if_pos (by simp; omega)]; rfl
theorem copyBlocks_ev (l : List (List Int)) (hl : l.length ≤ 1048576) (hz : ∀ p ∈ l, p.length ≤ 1048576) : Ev (fun k => impl_copyBlocks.f k l) l := by
  have key : ∀ (m i : Nat), i + m = l.length → Ev (fun k => impl_copyBlocks.l0 k (l.take i) l (l.length : Int) (i : Int)) l := by
    intro m
    induction m with
    | zero => intro i hi; refine Ev_succ ?_; simp only [impl_copyBlocks.l0]; exact Ev_f (by omega) (Ev_eq (Ev.now _) (by rw [List.take_of_length_le (by omega)]))
    | succ m ih =>
      intro i hi
      have hm := hz _ (getD_mem (xs := l) (i := i) [] (by omega))
      refine Ev_succ ?_
      simp only [impl_copyBlocks.l0, rd_L_nat]
      rw [w64_succ (show i < l.length by omega) (by omega)]
      have e := ih (i + 1) (by omega)
      rw [take_getD_succ l i [] (by omega)] at e
      exact Ev_t (by omega) (Ev_t (by omega) (Ev_t (by omega) (Ev_bind0 (clone_ev _ hm) (Ev_t (by simp only [List.length_take]; omega) e))))
  have h := key l.length 0 (by omega)
  simp only [impl_copyBlocks.f]
  exact h
theorem specOwn_ev (l : List (List Int)) (w : Int) (o : Bool) (t : Int) (hl : l.length ≤ 1048576) (hz : ∀ p ∈ l, p.length ≤ 1048576) : Ev (fun k => spec_l2Own.f k l w o t) (l, w, o, t) := by
  have key : ∀ (m i : Nat), i + m = l.length → Ev (fun k => spec_l2Own.l0 k (l.take i) l (l.length : Int) (i : Int) l w o t) (l, w, o, t) := by
    intro m
    induction m with
    | zero => intro i hi; refine Ev_succ ?_; simp only [spec_l2Own.l0]; exact Ev_f (by omega) (Ev_eq (Ev.now _) (by rw [List.take_of_length_le (by omega)]))
    | succ m ih =>
      intro i hi
      have hm := hz _ (getD_mem (xs := l) (i := i) [] (by omega))
      refine Ev_succ ?_
      simp only [spec_l2Own.l0, rd_L_nat, Option.bind_some]
      rw [w64_succ (show i < l.length by omega) (by omega)]
      have e := ih (i + 1) (by omega)
      rw [take_getD_succ l i [] (by omega)] at e
      exact Ev_t (by omega) (Ev_t (by omega) (Ev_t (by omega) (Ev_t (by simp only [List.length_nil]; omega) (Ev_t (by simp only [List.length_take]; omega) e))))
  have h := key l.length 0 (by omega)
  simp only [spec_l2Own.f]
  exact h

theorem markB (l : List Int) (hl : l.length ≤ 1048576) (n0 : Int) (h0 : 0 ≤ n0) (h1 : n0 ≤ 4000000000000000000) : Ev (fun k => laws_markByteS.f k l n0) (n0 + (l.length : Int), (List.range l.length).map fun i : Nat => (n0 + (i : Int)) % 256) := by
  have h := fills_ev (g := fun k x i => laws_markByteS.l0 k x (n0 + i) i) l.length (fun i : Nat => (n0 + (i : Int)) % 256) (fun x => (n0 + (l.length : Int), x))
      (fun x i hx hi r hr => Ev_succ (by
        have e0 : wrap64 (n0 + (i : Int) + 1) = n0 + ((i + 1 : Nat) : Int) := by rw [w64 (by omega) (by omega)]; omega
        simp only [laws_markByteS.l0, Int.toNat_natCast, e0]
        rw [w64_succ hi (by omega)]
        exact Ev_t (by omega) (Ev_t (by omega) hr)))
      (fun x hx => Ev_succ (by simp only [laws_markByteS.l0]; exact Ev_f (by omega) (Ev.now _)))
      l rfl
  refine Ev.congr (fun k => ?_) h
  simp only [laws_markByteS.f, Int.add_zero]

theorem heldB (n : Nat) (hl : n ≤ 1048576) (n0 : Int) (h0 : 0 ≤ n0) (h1 : n0 ≤ 4000000000000000000) : Ev (fun k => laws_heldByteS.f k ((List.range n).map fun i : Nat => (n0 + (i : Int)) % 256) n0) (n0 + (n : Int)) := by
  have h := all_ev (g := fun k i => laws_heldByteS.l0 k ((List.range n).map fun i : Nat => (n0 + (i : Int)) % 256) (n0 + i) i) (r := n0 + (n : Int)) n
      (fun i hi hr => Ev_succ (by
        simp only [laws_heldByteS.l0, List.length_map, List.length_range]
        have e1 : wrap64 (n0 + (i : Int) + 1) = n0 + ((i + 1 : Nat) : Int) := by rw [w64 (by omega) (by omega)]; omega
        have e2 : rd ((List.range n).map fun i : Nat => (n0 + (i : Int)) % 256) (i : Int) = (n0 + (i : Int)) % 256 := by
          rw [rd_nat]; simp [List.getD, hi]
        rw [e1, e2, w64_succ hi (by omega)]
        exact Ev_t (by omega) (Ev_t (by omega) (Ev_t rfl hr))))
      (Ev_succ (by simp only [laws_heldByteS.l0, List.length_map, List.length_range]; exact Ev_f (by omega) (Ev.now _)))
  refine Ev.congr (fun k => ?_) h
  simp only [laws_heldByteS.f, Int.add_zero]

theorem markI (l : List Int) (hl : l.length ≤ 1048576) (n0 : Int) (h0 : 0 ≤ n0) (h1 : n0 ≤ 4000000000000000000) : Ev (fun k => laws_markIntS.f k l n0) (n0 + (l.length : Int), (List.range l.length).map fun i : Nat => n0 + (i : Int)) := by
  have h := fills_ev (g := fun k x i => laws_markIntS.l0 k x (n0 + i) i) l.length (fun i : Nat => n0 + (i : Int)) (fun x => (n0 + (l.length : Int), x))
      (fun x i hx hi r hr => Ev_succ (by
        have e0 : wrap64 (n0 + (i : Int) + 1) = n0 + ((i + 1 : Nat) : Int) := by rw [w64 (by omega) (by omega)]; omega
        simp only [laws_markIntS.l0, Int.toNat_natCast, e0]
        rw [w64_succ hi (by omega)]
        exact Ev_t (by omega) (Ev_t (by omega) hr)))
      (fun x hx => Ev_succ (by simp only [laws_markIntS.l0]; exact Ev_f (by omega) (Ev.now _)))
      l rfl
  refine Ev.congr (fun k => ?_) h
  simp only [laws_markIntS.f, Int.add_zero]

theorem heldI (n : Nat) (hl : n ≤ 1048576) (n0 : Int) (h0 : 0 ≤ n0) (h1 : n0 ≤ 4000000000000000000) : Ev (fun k => laws_heldIntS.f k ((List.range n).map fun i : Nat => n0 + (i : Int)) n0) (n0 + (n : Int)) := by
  have h := all_ev (g := fun k i => laws_heldIntS.l0 k ((List.range n).map fun i : Nat => n0 + (i : Int)) (n0 + i) i) (r := n0 + (n : Int)) n
      (fun i hi hr => Ev_succ (by
        simp only [laws_heldIntS.l0, List.length_map, List.length_range]
        have e1 : wrap64 (n0 + (i : Int) + 1) = n0 + ((i + 1 : Nat) : Int) := by rw [w64 (by omega) (by omega)]; omega
        have e2 : rd ((List.range n).map fun i : Nat => n0 + (i : Int)) (i : Int) = n0 + (i : Int) := by
          rw [rd_nat]; simp [List.getD, hi]
        rw [e1, e2, w64_succ hi (by omega)]
        exact Ev_t (by omega) (Ev_t (by omega) (Ev_t rfl hr))))
      (Ev_succ (by simp only [laws_heldIntS.l0, List.length_map, List.length_range]; exact Ev_f (by omega) (Ev.now _)))
  refine Ev.congr (fun k => ?_) h
  simp only [laws_heldIntS.f, Int.add_zero]

def mkS : List (List Int) → Int → List (List Int) × Int
  | [], n => ([], n)
  | p :: l, n => (((List.range p.length).map fun i : Nat => (n + (i : Int)) % 256) :: (mkS l (n + (p.length : Int))).1, (mkS l (n + (p.length : Int))).2)
theorem mkS_le : ∀ (l : List (List Int)) (n : Int), n ≤ (mkS l n).2 ∧ (mkS l n).1.length = l.length
  | [], n => by simp [mkS]
  | p :: l, n => by
    have := mkS_le l (n + (p.length : Int))
    simp only [mkS, List.length_cons]
    omega
theorem getD_mid (pre : List (List Int)) (p : List Int) (l : List (List Int)) : (pre ++ p :: l).getD pre.length [] = p := by simp
theorem set_mid (pre : List (List Int)) (p q : List Int) (l : List (List Int)) : (pre ++ p :: l).set pre.length q = (pre ++ [q]) ++ l := by simp
theorem markSS_mk : ∀ (suf pre : List (List Int)) (n0 : Int), (pre ++ suf).length ≤ 1048576 → (∀ p ∈ suf, p.length ≤ 1048576) → 0 ≤ n0 → n0 + (suf.length : Int) * 1048576 ≤ 4000000000000000000 →
    Ev (fun k => laws_markByteSS.l0 k (pre ++ suf) n0 (pre.length : Int)) ((mkS suf n0).2, pre ++ (mkS suf n0).1) := by
  intro suf
  induction suf with
  | nil =>
    intro pre n0 hl _ h0 h1
    refine Ev_succ ?_
    simp only [laws_markByteSS.l0]
    exact Ev_f (by simp) (Ev.now _)
  | cons p l ih =>
    intro pre n0 hl hp h0 h1
    have hq := hp p (by simp)
    simp only [List.length_append, List.length_cons] at hl h1
    have e := ih (pre ++ [(List.range p.length).map fun i : Nat => (n0 + (i : Int)) % 256]) (n0 + (p.length : Int)) (by simp; omega) (fun q hm => hp q (by simp [hm])) (by omega) (by omega)
    refine Ev_succ ?_
    simp only [laws_markByteSS.l0, Int.toNat_natCast, getD_mid]
    rw [w64_succ (show pre.length < pre.length + 1 by omega) (by omega)]
    refine Ev_t (by simp; omega) (Ev_t (by omega) (Ev.bind (markB p hq n0 h0 (by omega)) ?_))
    simp only [set_mid]
    simp only [List.length_append, List.length_singleton] at e
    exact Ev_eq e (by simp [mkS])
theorem heldSS_mk : ∀ (suf pre : List (List Int)) (n0 : Int), (pre ++ suf).length ≤ 1048576 → (∀ p ∈ suf, p.length ≤ 1048576) → 0 ≤ n0 → n0 + (suf.length : Int) * 1048576 ≤ 4000000000000000000 →
    Ev (fun k => laws_heldByteSS.l0 k (pre ++ (mkS suf n0).1) n0 (pre.length : Int)) (mkS suf n0).2 := by
  intro suf
  induction suf with
  | nil =>
    intro pre n0 hl _ h0 h1
    refine Ev_succ ?_
    simp only [laws_heldByteSS.l0]
    exact Ev_f (by simp [mkS]) (Ev.now _)
  | cons p l ih =>
    intro pre n0 hl hp h0 h1
    have hq := hp p (by simp)
    simp only [List.length_append, List.length_cons] at hl h1
    have e := ih (pre ++ [(List.range p.length).map fun i : Nat => (n0 + (i : Int)) % 256]) (n0 + (p.length : Int)) (by simp; omega) (fun q hm => hp q (by simp [hm])) (by omega) (by omega)
    refine Ev_succ ?_
    simp only [laws_heldByteSS.l0, rd_L_nat, mkS, getD_mid]
    rw [w64_succ (show pre.length < pre.length + 1 by omega) (by omega)]
    refine Ev_t (by simp; omega) (Ev_t (by omega) (Ev.bind (heldB p.length hq n0 h0 (by omega)) (Ev_f (by omega) ?_)))
    simp only [List.length_append, List.length_singleton, List.append_assoc, List.singleton_append] at e
    exact e
theorem markDisk_ev (l : List (List Int)) (w : Int) (o : Bool) (t : Int) (hl : l.length ≤ 1048576) (hz : ∀ p ∈ l, p.length ≤ 1048576) : Ev (fun k => laws_markDisk.f k l w o t 1) ((mkS l 1).2, (mkS l 1).1) := by
  have e := markSS_mk l [] 1 (by simpa using hl) hz (by omega) (by omega)
  simp only [laws_markDisk.f, laws_markByteSS.f]
  exact Ev.bind e (Ev.now _)

theorem mkS_hi : ∀ (l : List (List Int)) (n : Int), (∀ p ∈ l, p.length ≤ 1048576) → (mkS l n).2 ≤ n + (l.length : Int) * 1048576
  | [], n, _ => by simp [mkS]
  | p :: l, n, h => by
    have h1 := mkS_hi l (n + (p.length : Int)) (fun q hq => h q (by simp [hq]))
    have h2 := h p (by simp)
    simp only [mkS, List.length_cons]
    omega

theorem zeros_loop (l : List (List Int)) (b y : List Int) (hy : y.length ≤ 1048576) (good : Bool) (hG : Ev (fun k => spec_GoodSpace.f k l b ([] : List Int) ([] : List Int)) good) : ∀ (m i : Nat), i + m = y.length →
    Ev (fun k => spec_OpenSpace.l0 k y (y.length : Int) (i : Int) l b) (if (y.drop i).all (fun x => decide (x = 0)) = true ∧ good = true then (l, b, [], [], true) else ([], [], [], [], false)) := by
  intro m
  induction m with
  | zero =>
    intro i hi
    refine Ev_succ ?_
    simp only [spec_OpenSpace.l0]
    rw [List.drop_of_length_le (by omega)]
    refine Ev_f (by omega) (Ev.bind hG (Ev_ite (fun h => Ev_eq (Ev.now _) (by simp [h])) (fun h => Ev_eq (Ev.now _) (by simp [h]))))
  | succ m ih =>
    intro i hi
    have hd := drop_cons y i 0 (by omega)
    refine Ev_succ ?_
    simp only [spec_OpenSpace.l0, rd_nat]
    rw [w64_succ (show i < y.length by omega) (by omega), hd, List.all_cons]
    refine Ev_t (by omega) (Ev_t (by omega) (Ev_t (by omega) (Ev_ite (fun h => Ev_eq (ih (i + 1) (by omega)) ?_) (fun h => Ev_eq (Ev.now _) ?_))))
    · rw [h]; simp
    · rw [if_neg (fun h2 => h (by have h3 := h2.1; rw [Bool.and_eq_true] at h3; exact of_decide_eq_true h3.1))]
theorem index_zeros (y : List Int) (hl : y.length ≤ 1048576) : ∀ (m i : Nat), i + m = y.length → ∃ r : Int, Ev (fun k => slices_IndexFunc_byte_byte_80.l0 k y (y.length : Int) (i : Int)) r ∧ (0 ≤ r ↔ ¬ ((y.drop i).all (fun x => decide (x = 0)) = true)) := by
  intro m
  induction m with
  | zero =>
    intro i hi
    refine ⟨-1, Ev_succ ?_, ?_⟩
    · simp only [slices_IndexFunc_byte_byte_80.l0]; exact Ev_f (by omega) (Ev.now _)
    · rw [List.drop_of_length_le (by omega)]; simp
  | succ m ih =>
    intro i hi
    have hd := drop_cons y i 0 (by omega)
    obtain ⟨r, h1, h2⟩ := ih (i + 1) (by omega)
    by_cases c : y.getD i 0 = 0
    · refine ⟨r, Ev_succ ?_, ?_⟩
      · simp only [slices_IndexFunc_byte_byte_80.l0, rd_nat, impl_OpenSpace_1.f, Option.bind_some]
        rw [w64_succ (show i < y.length by omega) (by omega)]
        exact Ev_t (by omega) (Ev_t (by omega) (Ev_t (by omega) (Ev_f (by rw [c]; decide) h1)))
      · rw [hd, h2, List.all_cons, c]; simp
    · refine ⟨(i : Int), Ev_succ ?_, ?_⟩
      · simp only [slices_IndexFunc_byte_byte_80.l0, rd_nat, impl_OpenSpace_1.f, Option.bind_some]
        exact Ev_t (by omega) (Ev_t (by omega) (Ev_t (by omega) (Ev_t (by simp only [bne_iff_ne]; exact c) (Ev.now _))))
      · rw [hd, List.all_cons]; simp only [c, decide_false, Bool.false_and, Bool.false_eq_true, not_false_eq_true, iff_true]; omega
theorem contains_ev (y : List Int) (hl : y.length ≤ 1048576) : Ev (fun k => slices_ContainsFunc_byte_byte_61.f k y ()) (!(y.all (fun x => decide (x = 0)))) := by
  obtain ⟨r, h1, h2⟩ := index_zeros y hl y.length 0 (by omega)
  simp only [slices_ContainsFunc_byte_byte_61.f, slices_IndexFunc_byte_byte_80.f]
  refine Ev.bind h1 (Ev_eq (Ev.now _) ?_)
  rw [List.drop_zero] at h2
  cases hh : y.all (fun x => decide (x = 0)) with
  | true => rw [hh] at h2; simp only [not_true_eq_false, iff_false] at h2; simp; omega
  | false => rw [hh] at h2; simp only [Bool.false_eq_true, not_false_eq_true, iff_true] at h2; simp; omega
theorem blocks_at {l : List (List Int)} (h : blocksB l = true) : 40 ≤ l.length ∧ (l.getD 1 []).length = 128 := by
  simp only [blocksB, Bool.and_eq_true, decide_eq_true_eq, List.all_eq_true] at h
  exact ⟨h.1.1, h.2 _ (getD_mem (xs := l) (i := 1) [] (by omega))⟩
theorem same_open (l : List (List Int)) (w : Int) (o : Bool) (t : Int) (hl : l.length ≤ 1048576) (hz : ∀ p ∈ l, p.length ≤ 1048576) :
    ∃ (L : List (List Int)) (B : List Int) (c : Bool), L.length ≤ 1048576 ∧ (∀ p ∈ L, p.length ≤ 1048576) ∧ B.length ≤ 1048576 ∧ Ev (fun k => spec_OpenSpace.f k l w o t) (L, B, ([] : List Int), ([] : List Int), c) ∧ Ev (fun k => impl_OpenSpace.f k l w o t) (L, B, ([] : List Int), ([] : List Int), c) := by
  simp only [spec_OpenSpace.f, impl_OpenSpace.f]
  have s1 := specGoodDisk_ev l w o t hl
  have i1 := implGoodDisk_ev l w o t hl
  cases hd : diskB l w t with
  | false =>
    rw [hd] at s1 i1
    exact ⟨[], [], false, by simp, by simp, by simp, Ev.bind s1 (Ev_f (by decide) (Ev.now _)), Ev.bind i1 (Ev_f (by decide) (Ev.now _))⟩
  | true =>
    rw [hd] at s1 i1
    simp only [diskB, Bool.and_eq_true] at hd
    obtain ⟨n40, h128⟩ := blocks_at hd.1
    have e1 : rd_L2 l 1 = l.getD 1 [] := rd_L_nat l 1
    generalize hr : l.getD 1 [] = r at e1 h128
    have t20 : (r.take 20).length = 20 := by rw [List.length_take]; omega
    have d20 : (r.drop 20).length = 108 := by rw [List.length_drop]; omega
    have g1 := specGoodSpace_ev l (r.take 20) [] [] hl (by simp) (by simp)
    have g2 := implGoodSpace_ev l (r.take 20) [] [] hl (by simp) (by simp)
    have z1 := zeros_loop l (r.take 20) (r.drop 20) (by omega) _ g1 (r.drop 20).length 0 (by omega)
    have z2 := contains_ev (r.drop 20) (by omega)
    have oth : ∀ X, Ev (fun k => spec_OpenSpace.l0 k (r.drop 20) ((r.drop 20).length : Int) 0 l (r.take 20)) X → Ev (fun k => (spec_GoodDisk.f k l w o t).bind fun t161 => (if t161 = true then ((spec_l2Own.f k l w o t).bind fun bt162 => ((some (([] : List Int) : List Int)).bind fun y169 => (if 1 < (bt162.1.length : Int) then (if 20 ≤ ((rd_L2 bt162.1 1).length : Int) then ((some ((rd_L2 bt162.1 1).take 20 : List Int)).bind fun y173 => (if y169.length + y173.length < 140737488355328 then ((some ((rd_L2 bt162.1 1).drop 20 : List Int)).bind fun y182 => (spec_OpenSpace.l0 k y182 (y182.length : Int) 0 bt162.1 (y169 ++ y173))) else (none))) else (none)) else (none)))) else (some (([] : List (List Int)), ([] : List Int), ([] : List Int), ([] : List Int), false)))) X := by
      intro X hX
      refine Ev.bind s1 (Ev_t rfl (Ev.bind (specOwn_ev l w o t hl hz) ?_))
      simp only [Option.bind_some, e1, List.nil_append]
      exact Ev_t (by omega) (Ev_t (by omega) (Ev_t (by simp only [List.length_nil]; omega) hX))
    have imp : ∀ X, Ev (fun k => (if goodB l (r.take 20) [] [] = true then ((slices_ContainsFunc_byte_byte_61.f k (r.drop 20) ()).bind fun t260 => (if t260 = true then (some (([] : List (List Int)), ([] : List Int), ([] : List Int), ([] : List Int), false)) else (some (l, r.take 20, ([] : List Int), ([] : List Int), true)))) else (some (([] : List (List Int)), ([] : List Int), ([] : List Int), ([] : List Int), false)))) X → Ev (fun k => (impl_GoodDisk.f k l w o t).bind fun t248 => (if t248 = true then (if 1 < (l.length : Int) then ((impl_copyBlocks.f k l).bind fun t250 => (if 20 ≤ ((rd_L2 l 1).length : Int) then ((slices_Clone_byte_byte.f ((rd_L2 l 1).take 20)).bind fun t254 => ((impl_GoodSpace.f k t250 t254 ([] : List Int) ([] : List Int)).bind fun t258 => (if t258 = true then ((slices_ContainsFunc_byte_byte_61.f k ((rd_L2 l 1).drop 20) ()).bind fun t260 => (if t260 = true then (some (([] : List (List Int)), ([] : List Int), ([] : List Int), ([] : List Int), false)) else (some (t250, t254, ([] : List Int), ([] : List Int), true)))) else (some (([] : List (List Int)), ([] : List Int), ([] : List Int), ([] : List Int), false))))) else (none))) else (none)) else (some (([] : List (List Int)), ([] : List Int), ([] : List Int), ([] : List Int), false)))) X := by
      intro X hX
      refine Ev.bind i1 (Ev_t rfl (Ev_t (by omega) (Ev.bind (copyBlocks_ev l hl hz) ?_)))
      simp only [e1]
      exact Ev_t (by omega) (Ev_bind0 (clone_ev _ (by omega)) (Ev.bind g2 hX))
    rw [List.drop_zero] at z1
    by_cases c1 : goodB l (r.take 20) [] [] = true
    · by_cases c2 : (r.drop 20).all (fun x => decide (x = 0)) = true
      · rw [if_pos ⟨c2, c1⟩] at z1
        rw [c2] at z2
        exact ⟨l, r.take 20, true, hl, hz, by omega, oth _ z1, imp _ (Ev_t c1 (Ev.bind z2 (Ev_f (by decide) (Ev.now _))))⟩
      · rw [if_neg (fun h => c2 h.1)] at z1
        have c2' : (r.drop 20).all (fun x => decide (x = 0)) = false := by simpa using c2
        rw [c2'] at z2
        exact ⟨[], [], false, by simp, by simp, by simp, oth _ z1, imp _ (Ev_t c1 (Ev.bind z2 (Ev_t rfl (Ev.now _))))⟩
    · rw [if_neg (fun h => c1 h.2)] at z1
      exact ⟨[], [], false, by simp, by simp, by simp, oth _ z1, imp _ (Ev_f c1 (Ev.now _))⟩
theorem eqSpace0 (l : List (List Int)) (b : List Int) (hl : l.length ≤ 1048576) (hz : ∀ p ∈ l, p.length ≤ 1048576) (hb : b.length ≤ 1048576) : Ev (fun k => laws_eqSpace.f k l b ([] : List Int) ([] : List Int) l b ([] : List Int) ([] : List Int)) true := by
  simp only [laws_eqSpace.f]
  exact Ev.bind (eqByteSS_ev l hl hz) (Ev_t rfl (Ev.bind (eqByteS_ev b (by omega)) (Ev_t rfl (Ev.bind (eqIntS_ev [] (by simp)) (Ev_t rfl (Ev.bind (eqIntS_ev [] (by simp)) (Ev_t rfl (Ev.now _))))))))
theorem markSpace0 (l : List (List Int)) (b : List Int) (hl : l.length ≤ 1048576) (hz : ∀ p ∈ l, p.length ≤ 1048576) (hb : b.length ≤ 1048576) : ∃ (n : Int) (r0 : List (List Int)) (r1 : List Int), 0 ≤ n ∧ Ev (fun k => laws_markSpace.f k l b ([] : List Int) ([] : List Int) 1) (n, r0, r1, ([] : List Int), ([] : List Int)) ∧ Ev (fun k => laws_heldSpace.f k r0 r1 ([] : List Int) ([] : List Int) 1) n := by
  have e := markSS_mk l [] 1 (by simpa using hl) hz (by omega) (by omega)
  have h := heldSS_mk l [] 1 (by simpa using hl) hz (by omega) (by omega)
  have hn := (mkS_le l 1).1
  have hi := mkS_hi l 1 hz
  generalize hm : (mkS l 1).2 = n1 at e h hn hi
  have e2 := markB b hb n1 (by omega) (by omega)
  have h2 := heldB b.length hb n1 (by omega) (by omega)
  have e3 : Ev (fun k => laws_markIntS.f k ([] : List Int) (n1 + (b.length : Int))) (n1 + (b.length : Int), ([] : List Int)) := Ev_eq (markI [] (by simp) (n1 + (b.length : Int)) (by omega) (by omega)) (by simp)
  have h3 : Ev (fun k => laws_heldIntS.f k ([] : List Int) (n1 + (b.length : Int))) (n1 + (b.length : Int)) := Ev_eq (heldI 0 (by simp) (n1 + (b.length : Int)) (by omega) (by omega)) (by simp)
  refine ⟨n1 + (b.length : Int), (mkS l 1).1, (List.range b.length).map (fun i : Nat => (n1 + (i : Int)) % 256), by omega, ?_, ?_⟩
  · simp only [laws_markSpace.f, laws_markByteSS.f]
    exact Ev.bind e (Ev.bind e2 (Ev.bind e3 (Ev.bind e3 (Ev.now _))))
  · simp only [laws_heldSpace.f, laws_heldByteSS.f]
    exact Ev.bind h (Ev_f (by omega) (Ev.bind h2 (Ev_f (by omega) (Ev.bind h3 (Ev_f (by omega) (Ev.bind h3 (Ev_f (by omega) (Ev.now _))))))))
end OfFnExactOpenSpace
open OfFnExactOpenSpace
theorem FnExactOpenSpace : Stated := by
  intro l w o t wl _ _ _
  refine Ev.rounds ?_
  simp only [laws_FnExactOpenSpace.f]
  obtain ⟨r, h1, _, h3⟩ := szDisk_ev l w o t ⟨wl.1, fun p hp => (wl.2 p hp).1⟩ 1048576 (by omega) (by omega)
  refine Ev.bind h1 (Ev_ite (fun _ => Ev.now _) (fun c => ?_))
  obtain ⟨hl, hz⟩ := h3 (by omega)
  have f1 := toDisk_ev l w o t hl hz
  obtain ⟨L, B, cc, a1, a2, a3, p, q⟩ := same_open l w o t hl hz
  have ee := eqSpace0 L B a1 a2 a3
  have em := markDisk_ev l w o t hl hz
  have hn := (mkS_le l 1).1
  obtain ⟨n, r0, r1, n0, em2, eh⟩ := markSpace0 L B a1 a2 a3
  refine Ev.bind f1 (Ev.bind p (Ev.bind f1 (Ev.bind q (Ev.bind ee (Ev_t rfl (Ev_succ ?_))))))
  simp only [laws_FnExactOpenSpace.j0]
  refine Ev_f (by simp) (Ev.bind f1 (Ev.bind (eqDisk_ev l w o t hl hz) (Ev_t rfl (Ev.bind em (Ev_f (by simp only; omega) (Ev.bind ee (Ev_t rfl (Ev_succ ?_))))))))
  simp only [laws_FnExactOpenSpace.j1]
  refine Ev_f (by simp) (Ev.bind em2 (Ev.bind eh (Ev_f (by omega) (Ev_t rfl (Ev.bind f1 (Ev.bind q (Ev.bind ee (Ev_t rfl (Ev_succ ?_)))))))))
  simp only [laws_FnExactOpenSpace.j2]
  exact Ev_f (by simp) (Ev.bind eh (Ev_f (by omega) (Ev_t rfl (Ev.now _))))
end Go.Proofs.Ytlphbpaojcdjaaa.Pure
