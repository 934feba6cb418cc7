/-
The pure statement of FnExactGoodCache: the printed functions of the program and of the reference answer alike for every argument within the bounds that the statement tells.
-/
import Derived.Test.YthbbcnjnbfhcbaaWfFnExactGoodCache
namespace Go.Proofs.Ythbbcnjnbfhcbaa.Pure
open Go Go.RowKit Go.Proofs.Ythbbcnjnbfhcbaa.PFnExactGoodCache Go.Proofs.YthbbcnjnbfhcbaaW.PrintWords Go.Proofs.YthbbcnjnbfhcbaaW.PrintLast Go.Proofs.YthbbcnjnbfhcbaaW.PrintMore Go.Proofs.Ythbbcnjnbfhcbaa.Lib
set_option linter.unusedVariables false
set_option linter.unusedSimpArgs false
namespace OfFnExactGoodCache
theorem within_eq (a b c : Int) : impl_within.f a b c = some (decide (b ≤ a ∧ a ≤ c)) := by
  simp only [impl_within.f]
  by_cases h : b ≤ a <;> simp [h]

theorem l1In_eq (a b c : Int) : spec_l1In.f a b c = some (decide (b ≤ a ∧ a ≤ c)) := by
  simp only [spec_l1In.f]
  by_cases h : b ≤ a <;> simp [h]

theorem toByteS_ev (l : List Int) (hl : l.length ≤ 1048576) : Ev (fun k => laws_toByteS.f k l) l := by
  have h := fill_ev (g := fun k x i => laws_toByteS.l0 k l x i) l 0 (fun x => x)
    (fun x i hx hi hr => Ev_succ (by
      simp only [laws_toByteS.l0]
      refine Ev_t (by omega) (Ev_t (by omega) (Ev_t (by omega) ?_))
      rw [w64_succ hi (by omega)]
      simpa [rd_nat] using hr))
    (fun x hx => Ev_succ (by simp only [laws_toByteS.l0]; exact Ev_f (by omega) (Ev.now _)))
    (List.replicate l.length 0) (by simp)
  rw [map_same] at h
  refine Ev.congr (fun k => ?_) h
  simp only [laws_toByteS.f]
  rw [if_pos (by omega), if_pos (by simp; omega)]
  simp

theorem eqByteS_ev (l : List Int) (hl : l.length ≤ 4611686018427387904) : Ev (fun k => laws_eqByteS.f k l l) true := by
  have h := all_ev (g := fun k i => laws_eqByteS.l0 k l l i) (r := true) l.length
    (fun i hi hr => Ev_succ (by
      simp only [laws_eqByteS.l0]
      refine Ev_t (by omega) (Ev_t (by omega) (Ev_t (by omega) (Ev_t trivial ?_)))
      rw [w64_succ hi (by omega)]; exact hr))
    (Ev_succ (by simp only [laws_eqByteS.l0]; exact Ev_f (by omega) (Ev.now _)))
  refine Ev.congr (fun k => ?_) h
  simp only [laws_eqByteS.f]; rw [if_pos trivial]

theorem rd_L_nat (xs : List (List Int)) (i : Nat) : rd_L1 xs (i : Int) = xs.getD i [] := by simp [rd_L1]
theorem szByteS_val (l : List Int) (hl : l.length ≤ maxLen) (n : Int) (h0 : 0 ≤ n) (h1 : n ≤ 1048576) : ∃ r, laws_szByteS.f l n = some r ∧ r ≤ n ∧ (0 ≤ r → l.length ≤ 1048576) := by
  have hl0 : (l.length : Int) ≤ 9223372036854775807 := by simp only [maxLen] at hl; omega
  simp only [laws_szByteS.f]
  rw [w64 (n := n - (l.length : Int)) (by omega) (by omega)]
  by_cases c : n - (l.length : Int) < 0
  · exact ⟨-1, if_pos c, by omega, fun h => by omega⟩
  · exact ⟨n - (l.length : Int), if_neg c, by omega, fun h => by omega⟩
theorem szByteSS_loop (l : List (List Int)) (hw : ∀ p ∈ l, p.length ≤ maxLen) (hl : l.length ≤ 1048576) : ∀ (m i : Nat) (x : Int), i + m = l.length → 0 ≤ x → x ≤ 1048576 →
    ∃ r, Ev (fun k => laws_szByteSS.l0 k l x (i : Int)) r ∧ r ≤ x ∧ (0 ≤ r → ∀ j, i ≤ j → j < l.length → (l.getD j []).length ≤ 1048576) := by
  intro m
  induction m with
  | zero =>
    intro i x hi h0 h1
    refine ⟨x, Ev_succ ?_, by omega, fun _ j h2 h3 => by omega⟩
    simp only [laws_szByteSS.l0]; exact Ev_f (by omega) (Ev.now _)
  | succ m ih =>
    intro i x hi h0 h1
    have hp := hw _ (getD_mem (xs := l) (i := i) [] (by omega))
    obtain ⟨r0, e, e1, e2⟩ := szByteS_val _ hp x h0 h1
    by_cases c : r0 < 0
    · refine ⟨-1, Ev_succ ?_, by omega, fun h => by omega⟩
      simp only [laws_szByteSS.l0, rd_L_nat]
      exact Ev_t (by omega) (Ev_t (by omega) (Ev_bind0 e (Ev_t c (Ev.now _))))
    · obtain ⟨r, h2, h3, h4⟩ := ih (i + 1) r0 (by omega) (by omega) (by omega)
      refine ⟨r, Ev_succ ?_, by omega, fun h j h5 h6 => ?_⟩
      · simp only [laws_szByteSS.l0, rd_L_nat]
        rw [w64_succ (show i < l.length by omega) (by omega)]
        exact Ev_t (by omega) (Ev_t (by omega) (Ev_bind0 e (Ev_f c h2)))
      · by_cases h7 : j = i
        · subst h7; exact e2 (by omega)
        · exact h4 h j (by omega) h6
theorem szByteSS_ev (l : List (List Int)) (hw : l.length ≤ maxLen ∧ ∀ p ∈ l, p.length ≤ maxLen) (n : Int) (hn : 0 ≤ n) (hn' : n ≤ 1048576) : ∃ r, Ev (fun k => laws_szByteSS.f k l n) r ∧ r ≤ n ∧ (0 ≤ r → l.length ≤ 1048576 ∧ ∀ p ∈ l, p.length ≤ 1048576) := by
  have hl0 : (l.length : Int) ≤ 9223372036854775807 := by have := hw.1; simp only [maxLen] at this; omega
  have e : wrap64 (n - (l.length : Int)) = n - (l.length : Int) := w64 (by omega) (by omega)
  simp only [laws_szByteSS.f, e]
  by_cases c : n - (l.length : Int) < 0
  · exact ⟨-1, Ev_t c (Ev.now _), by omega, fun h => by omega⟩
  · obtain ⟨r, h1, h2, h3⟩ := szByteSS_loop l hw.2 (by omega) l.length 0 (n - (l.length : Int)) (by omega) (by omega) (by omega)
    refine ⟨r, Ev_f c h1, by omega, fun h => ⟨by omega, fun p hp => ?_⟩⟩
    obtain ⟨j, hj, rfl⟩ := List.mem_iff_getElem.1 hp
    have := h3 h j (by omega) hj
    simpa [List.getD, hj] using this
theorem toByteSS_ev (l : List (List Int)) (hl : l.length ≤ 1048576) (hz : ∀ p ∈ l, p.length ≤ 1048576) : Ev (fun k => laws_toByteSS.f k l) l := by
  have h := fill_ev (g := fun k x i => laws_toByteSS.l0 k l x i) l [] (fun x => x)
    (fun x i hx hi hr => Ev_succ (by
      simp only [laws_toByteSS.l0, rd_L_nat]
      refine Ev_t (by omega) (Ev_t (by omega) (Ev.bind (toByteS_ev _ (hz _ (getD_mem [] hi))) (Ev_t (by omega) ?_)))
      rw [w64_succ hi (by omega)]
      simpa using hr))
    (fun x hx => Ev_succ (by simp only [laws_toByteSS.l0]; exact Ev_f (by omega) (Ev.now _)))
    (List.replicate l.length []) (by simp)
  rw [map_same] at h
  refine Ev.congr (fun k => ?_) h
  simp only [laws_toByteSS.f]
  rw [if_pos (by omega), if_pos (by simp; omega)]
  simp
theorem eqByteSS_ev (l : List (List Int)) (hl : l.length ≤ 1048576) (hz : ∀ p ∈ l, p.length ≤ 1048576) : Ev (fun k => laws_eqByteSS.f k l l) true := by
  have h := all_ev (g := fun k i => laws_eqByteSS.l0 k l l i) (r := true) l.length
    (fun i hi hr => Ev_succ (by
      simp only [laws_eqByteSS.l0, rd_L_nat]
      refine Ev_t (by omega) (Ev_t (by omega) (Ev_t (by omega) (Ev.bind (eqByteS_ev _ (by have := hz _ (getD_mem [] hi); omega)) (Ev_t rfl ?_))))
      rw [w64_succ hi (by omega)]; exact hr))
    (Ev_succ (by simp only [laws_eqByteSS.l0]; exact Ev_f (by omega) (Ev.now _)))
  refine Ev.congr (fun k => ?_) h
  simp only [laws_eqByteSS.f]; rw [if_pos trivial]

def blocksB (l : List (List Int)) : Bool := decide (40 ≤ l.length ∧ l.length ≤ 160) && l.all (fun b => decide (b.length = 128))
theorem indexFunc_loop (l : List (List Int)) (hl : l.length ≤ 1048576) : ∀ (m i : Nat), i + m = l.length → ∃ r : Int, Ev (fun k => slices_IndexFunc_byte_byte.l0 k l (l.length : Int) (i : Int)) r ∧ (0 ≤ r ↔ ¬ ((l.drop i).all (fun b => decide (b.length = 128)) = true)) := by
  intro m
  induction m with
  | zero =>
    intro i hi
    refine ⟨-1, Ev_succ ?_, ?_⟩
    · simp only [slices_IndexFunc_byte_byte.l0]; exact Ev_f (by omega) (Ev.now _)
    · rw [List.drop_of_length_le (by omega)]; simp
  | succ m ih =>
    intro i hi
    have hd := drop_cons l i [] (by omega)
    obtain ⟨r, h1, h2⟩ := ih (i + 1) (by omega)
    by_cases c : (l.getD i []).length = 128
    · refine ⟨r, Ev_succ ?_, ?_⟩
      · simp only [slices_IndexFunc_byte_byte.l0, rd_L_nat, impl_areBlocks_1.f, Option.bind_some]
        rw [w64_succ (show i < l.length by omega) (by omega)]
        exact Ev_t (by omega) (Ev_t (by omega) (Ev_t (by omega) (Ev_f (by rw [c]; decide) h1)))
      · rw [hd, h2, List.all_cons, c]; simp
    · refine ⟨(i : Int), Ev_succ ?_, ?_⟩
      · simp only [slices_IndexFunc_byte_byte.l0, rd_L_nat, impl_areBlocks_1.f, Option.bind_some]
        exact Ev_t (by omega) (Ev_t (by omega) (Ev_t (by omega) (Ev_t (by simp only [bne_iff_ne]; omega) (Ev.now _))))
      · rw [hd, List.all_cons]; simp only [c, decide_false, Bool.false_and, Bool.false_eq_true, not_false_eq_true, iff_true]; omega
theorem areBlocks_ev (l : List (List Int)) (hl : l.length ≤ 1048576) : Ev (fun k => impl_areBlocks.f k l) (blocksB l) := by
  simp only [impl_areBlocks.f, within_eq, Option.bind_some, decide_eq_true_eq]
  by_cases c : (40 : Int) ≤ (l.length : Int) ∧ (l.length : Int) ≤ 160
  · obtain ⟨r, h1, h2⟩ := indexFunc_loop l hl l.length 0 (by omega)
    refine Ev_t c (Ev.bind (a := decide (r ≥ 0)) ?_ (Ev_eq (Ev.now _) ?_))
    · simp only [slices_ContainsFunc_byte_byte.f, slices_IndexFunc_byte_byte.f]
      exact Ev.bind h1 (Ev.now _)
    · rw [List.drop_zero] at h2
      have c' : 40 ≤ l.length ∧ l.length ≤ 160 := by omega
      simp only [blocksB, c', and_self, decide_true, Bool.true_and]
      cases hh : l.all (fun b => decide (b.length = 128)) with
      | true => simp only [hh, not_true, iff_false] at h2; simp; omega
      | false => simp only [hh] at h2; have : 0 ≤ r := h2.2 (by simp); simp [this]
  · refine Ev_f c (Ev_eq (Ev.now _) ?_)
    have c' : ¬ (40 ≤ l.length ∧ l.length ≤ 160) := by omega
    simp only [blocksB, c', decide_false, Bool.false_and]

def diskB (l : List (List Int)) (w : Int) (t : Int) : Bool := blocksB l && (decide (0 ≤ w ∧ w ≤ 1000000000) && decide (-1 ≤ t ∧ t ≤ 1000000))
theorem implGoodDisk_ev (l : List (List Int)) (w : Int) (o : Bool) (t : Int) (hl : l.length ≤ 1048576) : Ev (fun k => impl_GoodDisk.f k l w o t) (diskB l w t) := by
  simp only [impl_GoodDisk.f, within_eq, Option.bind_some, decide_eq_true_eq]
  refine Ev.bind (areBlocks_ev l hl) ?_
  cases hb : blocksB l with
  | false => exact Ev_f (by decide) (Ev_eq (Ev.now _) (by simp [diskB, hb]))
  | true =>
    refine Ev_t rfl (Ev_ite (fun h => Ev_eq (Ev.now _) (by simp [diskB, hb, h])) (fun h => Ev_eq (Ev.now _) (by simp only [diskB, hb, h, decide_false, Bool.false_and, Bool.and_false])))
theorem specGoodDisk_loop (l : List (List Int)) (hl : l.length ≤ 1048576) : ∀ (m i : Nat), i + m = l.length → Ev (fun k => spec_GoodDisk.l0 k l (l.length : Int) (i : Int)) ((l.drop i).all (fun b => decide (b.length = 128))) := by
  intro m
  induction m with
  | zero =>
    intro i hi
    refine Ev_succ ?_
    simp only [spec_GoodDisk.l0]
    rw [List.drop_of_length_le (by omega)]
    exact Ev_f (by omega) (Ev.now _)
  | succ m ih =>
    intro i hi
    have hd := drop_cons l i [] (by omega)
    refine Ev_succ ?_
    simp only [spec_GoodDisk.l0, rd_L_nat]
    rw [w64_succ (show i < l.length by omega) (by omega), hd, List.all_cons]
    refine Ev_t (by omega) (Ev_t (by omega) (Ev_t (by omega) (Ev_ite (fun h => Ev_eq (ih (i + 1) (by omega)) ?_) (fun h => Ev_eq (Ev.now _) ?_))))
    · have h' : (l.getD i []).length = 128 := by omega
      simp only [h', decide_true, Bool.true_and]
    · have h' : ¬ (l.getD i []).length = 128 := by omega
      simp only [h', decide_false, Bool.false_and]
theorem specGoodDisk_ev (l : List (List Int)) (w : Int) (o : Bool) (t : Int) (hl : l.length ≤ 1048576) : Ev (fun k => spec_GoodDisk.f k l w o t) (diskB l w t) := by
  simp only [spec_GoodDisk.f, l1In_eq, Option.bind_some, decide_eq_true_eq]
  have hf : ∀ b : Bool, b = true → diskB l w t = false → Ev (fun k => spec_GoodDisk.j0 k b l w o t) (diskB l w t) := by
    intro b hb hd
    refine Ev_succ ?_
    simp only [spec_GoodDisk.j0]
    exact Ev_t hb (Ev_eq (Ev.now _) hd.symm)
  by_cases c1 : (40 : Int) ≤ (l.length : Int) ∧ (l.length : Int) ≤ 160
  · have c1' : 40 ≤ l.length ∧ l.length ≤ 160 := by omega
    refine Ev_t c1 ?_
    by_cases c2 : 0 ≤ w ∧ w ≤ 1000000000
    · refine Ev_t c2 ?_
      by_cases c3 : -1 ≤ t ∧ t ≤ 1000000
      · refine Ev_succ ?_
        simp only [spec_GoodDisk.j0]
        have h := specGoodDisk_loop l hl l.length 0 (by omega)
        rw [List.drop_zero] at h
        exact Ev_f (by simp [c3]) (Ev_eq h (by simp only [diskB, blocksB, c1', c2, c3, and_self, decide_true, Bool.true_and, Bool.and_true]))
      · exact hf _ (by simp only [c3, decide_false, Bool.not_false]) (by simp only [diskB, c3, decide_false, Bool.and_false])
    · refine Ev_f c2 (hf _ rfl (by simp only [diskB, c2, decide_false, Bool.false_and, Bool.and_false]))
  · refine Ev_f c1 (hf _ rfl ?_)
    have c1' : ¬ (40 ≤ l.length ∧ l.length ≤ 160) := by omega
    simp only [diskB, blocksB, c1', decide_false, Bool.false_and]

theorem szDisk_ev (l : List (List Int)) (w : Int) (o : Bool) (t : Int) (hw : l.length ≤ maxLen ∧ ∀ p ∈ l, p.length ≤ maxLen) (n : Int) (hn : 0 ≤ n) (hn' : n ≤ 1048576) : ∃ r, Ev (fun k => laws_szDisk.f k l w o t n) r ∧ r ≤ n ∧ (0 ≤ r → l.length ≤ 1048576 ∧ ∀ p ∈ l, p.length ≤ 1048576) := by
  obtain ⟨r, h1, h2, h3⟩ := szByteSS_ev l hw n hn hn'
  simp only [laws_szDisk.f]
  by_cases c : r < 0
  · exact ⟨-1, Ev.bind h1 (Ev_t c (Ev.now _)), by omega, fun h => by omega⟩
  · exact ⟨r, Ev.bind h1 (Ev_f c (Ev.now _)), h2, h3⟩
theorem toDisk_ev (l : List (List Int)) (w : Int) (o : Bool) (t : Int) (hl : l.length ≤ 1048576) (hz : ∀ p ∈ l, p.length ≤ 1048576) : Ev (fun k => laws_toDisk.f k l w o t) (l, w, o, t) := by
  simp only [laws_toDisk.f]
  exact Ev.bind (toByteSS_ev l hl hz) (Ev.now _)
theorem eqDisk_ev (l : List (List Int)) (w : Int) (o : Bool) (t : Int) (hl : l.length ≤ 1048576) (hz : ∀ p ∈ l, p.length ≤ 1048576) : Ev (fun k => laws_eqDisk.f k l w o t l w o t) true := by
  simp only [laws_eqDisk.f]
  exact Ev.bind (eqByteSS_ev l hl hz) (Ev_t rfl (Ev_t trivial (Ev_f (by simp) (Ev_t trivial (Ev.now _)))))

theorem rd_T85_nat (xs : List S85) (i : Nat) : rd_T85 xs (i : Int) = xs.getD i z85 := by simp [rd_T85]
theorem rd_T73_nat (xs : List S73) (i : Nat) : rd_T73 xs (i : Int) = xs.getD i z73 := by simp [rd_T73]
def imc (p : S85) : S73 := ⟨p.f0, p.f1, p.f2, p.f3, p.f4⟩
theorem szCacheLineS_loop (l : List S85) (hw : ∀ p ∈ l, p.f1.length ≤ maxLen) (hl : l.length ≤ 1048576) : ∀ (m i : Nat) (x : Int), i + m = l.length → 0 ≤ x → x ≤ 1048576 →
    ∃ r, Ev (fun k => laws_szCacheLineS.l0 k l x (i : Int)) r ∧ r ≤ x ∧ (0 ≤ r → ∀ j, i ≤ j → j < l.length → (l.getD j z85).f1.length ≤ 1048576) := by
  intro m
  induction m with
  | zero =>
    intro i x hi h0 h1
    refine ⟨x, Ev_succ ?_, by omega, fun _ j h2 h3 => by omega⟩
    simp only [laws_szCacheLineS.l0]; exact Ev_f (by omega) (Ev.now _)
  | succ m ih =>
    intro i x hi h0 h1
    have hp := hw _ (getD_mem (xs := l) (i := i) z85 (by omega))
    obtain ⟨r0, e, e1, e2⟩ := szByteS_val _ hp x h0 h1
    by_cases c : r0 < 0
    · refine ⟨-1, Ev_succ ?_, by omega, fun h => by omega⟩
      simp only [laws_szCacheLineS.l0, laws_szCacheLine.f, rd_T85_nat]
      exact Ev_t (by omega) (Ev_t (by omega) (Ev.bind (a := -1) (Ev_bind0 e (Ev_t c (Ev.now _))) (Ev_t (by decide) (Ev.now _))))
    · obtain ⟨r, h2, h3, h4⟩ := ih (i + 1) r0 (by omega) (by omega) (by omega)
      refine ⟨r, Ev_succ ?_, by omega, fun h j h5 h6 => ?_⟩
      · simp only [laws_szCacheLineS.l0, laws_szCacheLine.f, rd_T85_nat]
        rw [w64_succ (show i < l.length by omega) (by omega)]
        exact Ev_t (by omega) (Ev_t (by omega) (Ev.bind (a := r0) (Ev_bind0 e (Ev_f c (Ev.now _))) (Ev_f c h2)))
      · by_cases h7 : j = i
        · subst h7; exact e2 (by omega)
        · exact h4 h j (by omega) h6
theorem szCacheLineS_ev (l : List S85) (hw : l.length ≤ maxLen ∧ ∀ p ∈ l, p.f1.length ≤ maxLen) (n : Int) (hn : 0 ≤ n) (hn' : n ≤ 1048576) : ∃ r, Ev (fun k => laws_szCacheLineS.f k l n) r ∧ r ≤ n ∧ (0 ≤ r → l.length ≤ 1048576 ∧ ∀ p ∈ l, p.f1.length ≤ 1048576) := by
  have hl0 : (l.length : Int) ≤ 9223372036854775807 := by have := hw.1; simp only [maxLen] at this; omega
  have e : wrap64 (n - (l.length : Int)) = n - (l.length : Int) := w64 (by omega) (by omega)
  simp only [laws_szCacheLineS.f, e]
  by_cases c : n - (l.length : Int) < 0
  · exact ⟨-1, Ev_t c (Ev.now _), by omega, fun h => by omega⟩
  · obtain ⟨r, h1, h2, h3⟩ := szCacheLineS_loop l hw.2 (by omega) l.length 0 (n - (l.length : Int)) (by omega) (by omega) (by omega)
    refine ⟨r, Ev_f c h1, by omega, fun h => ⟨by omega, fun p hp => ?_⟩⟩
    obtain ⟨j, hj, rfl⟩ := List.mem_iff_getElem.1 hp
    have := h3 h j (by omega) hj
    simpa [List.getD, hj] using this
theorem toCacheLineS_ev (l : List S85) (hl : l.length ≤ 1048576) (hz : ∀ p ∈ l, p.f1.length ≤ 1048576) : Ev (fun k => laws_toCacheLineS.f k l) (l.map imc) := by
  have h := fill_ev (g := fun k x i => laws_toCacheLineS.l0 k l x i) l z85 imc
    (fun x i hx hi hr => Ev_succ (by
      simp only [laws_toCacheLineS.l0, laws_toCacheLine.f, rd_T85_nat]
      refine Ev_t (by omega) (Ev_t (by omega) (Ev.bind (a := ((l.getD i z85).f0, (l.getD i z85).f1, (l.getD i z85).f2, (l.getD i z85).f3, (l.getD i z85).f4)) (Ev.bind (toByteS_ev _ (hz _ (getD_mem z85 hi))) (Ev.now _)) (Ev_t (by omega) ?_)))
      rw [w64_succ hi (by omega)]
      simpa [imc] using hr))
    (fun x hx => Ev_succ (by simp only [laws_toCacheLineS.l0]; exact Ev_f (by omega) (Ev.now _)))
    (List.replicate l.length z73) (by simp)
  refine Ev.congr (fun k => ?_) h
  simp only [laws_toCacheLineS.f]
  rw [if_pos (by omega), if_pos (by simp; omega)]
  simp
theorem eqCacheLineS_ev (l : List S73) (hl : l.length ≤ 1048576) (hz : ∀ p ∈ l, p.f1.length ≤ 1048576) : Ev (fun k => laws_eqCacheLineS.f k l l) true := by
  have h := all_ev (g := fun k i => laws_eqCacheLineS.l0 k l l i) (r := true) l.length
    (fun i hi hr => Ev_succ (by
      simp only [laws_eqCacheLineS.l0, laws_eqCacheLine.f, rd_T73_nat, if_true, bne_self_eq_false, if_neg (show ¬ (false = true) by decide)]
      refine Ev_t (by omega) (Ev_t (by omega) (Ev_t (by omega) (Ev.bind (a := true) (Ev.bind (eqByteS_ev _ (by have := hz _ (getD_mem z73 hi); omega)) (Ev_t rfl (Ev.now _))) (Ev_t rfl ?_))))
      rw [w64_succ hi (by omega)]; exact hr))
    (Ev_succ (by simp only [laws_eqCacheLineS.l0]; exact Ev_f (by omega) (Ev.now _)))
  refine Ev.congr (fun k => ?_) h
  simp only [laws_eqCacheLineS.f]; rw [if_pos trivial]

theorem scanG_ev {α : Type} {g : Nat → Int → Option α} (n : Nat) (p : Nat → Bool) (R F : α)
    (ht : ∀ i, i < n → p i = true → ∀ r, Ev (fun k => g k ((i + 1 : Nat) : Int)) r → Ev (fun k => g k (i : Int)) r)
    (hf : ∀ i, i < n → p i = false → Ev (fun k => g k (i : Int)) F)
    (he : (List.range n).all p = true → Ev (fun k => g k (n : Int)) R) : Ev (fun k => g k 0) (if (List.range n).all p = true then R else F) := by
  by_cases hall : (List.range n).all p = true
  · rw [if_pos hall]
    have hp : ∀ i, i < n → p i = true := fun i hi => List.all_eq_true.1 hall i (List.mem_range.2 hi)
    have key : ∀ m i, i + m = n → Ev (fun k => g k (i : Int)) R := by
      intro m
      induction m with
      | zero => intro i hi; obtain rfl : i = n := by omega
                exact he hall
      | succ m ih => intro i hi; exact ht i (by omega) (hp i (by omega)) _ (ih (i + 1) (by omega))
    exact key n 0 (by omega)
  · rw [if_neg hall]
    have key : ∀ m i, i + m = n → (List.range' i m).all p = false → Ev (fun k => g k (i : Int)) F := by
      intro m
      induction m with
      | zero => intro i hi h; simp at h
      | succ m ih =>
        intro i hi h
        rw [List.range'_succ, List.all_cons] at h
        cases hp : p i with
        | true => rw [hp, Bool.true_and] at h; exact ht i (by omega) hp _ (ih (i + 1) (by omega) h)
        | false => exact hf i (by omega) hp
    exact key n 0 (by omega) (by rw [← List.range_eq_range']; simpa using hall)

theorem scanT_ev {g : Nat → Int → Option Bool} (n : Nat) (p : Nat → Bool)
    (ht : ∀ i, i < n → p i = true → ∀ r, Ev (fun k => g k ((i + 1 : Nat) : Int)) r → Ev (fun k => g k (i : Int)) r)
    (hf : ∀ i, i < n → p i = false → Ev (fun k => g k (i : Int)) true)
    (he : Ev (fun k => g k (n : Int)) false) : Ev (fun k => g k 0) (!((List.range n).all p)) := by
  have key : ∀ m i, i + m = n → Ev (fun k => g k (i : Int)) (!((List.range' i m).all p)) := by
    intro m
    induction m with
    | zero =>
      intro i hi
      obtain rfl : i = n := by omega
      simpa using he
    | succ m ih =>
      intro i hi
      rw [List.range'_succ, List.all_cons]
      cases hp : p i with
      | true => rw [Bool.true_and]; exact ht i (by omega) hp _ (ih (i + 1) (by omega))
      | false => rw [Bool.false_and]; exact hf i (by omega) hp
  have := key n 0 (by omega)
  rwa [← List.range_eq_range'] at this
theorem find_ev {g : Nat → Int → Option Int} (n : Nat) (p : Nat → Bool)
    (ht : ∀ i, i < n → p i = true → ∀ r, Ev (fun k => g k ((i + 1 : Nat) : Int)) r → Ev (fun k => g k (i : Int)) r)
    (hf : ∀ i, i < n → p i = false → Ev (fun k => g k (i : Int)) (i : Int))
    (he : Ev (fun k => g k (n : Int)) (-1)) : ∃ r, Ev (fun k => g k 0) r ∧ decide (r ≥ 0) = (!((List.range n).all p)) := by
  have key : ∀ m i, i + m = n → ∃ r, Ev (fun k => g k (i : Int)) r ∧ decide (r ≥ 0) = (!((List.range' i m).all p)) := by
    intro m
    induction m with
    | zero =>
      intro i hi
      obtain rfl : i = n := by omega
      exact ⟨-1, he, by simp⟩
    | succ m ih =>
      intro i hi
      rw [List.range'_succ, List.all_cons]
      cases hp : p i with
      | true =>
        obtain ⟨r, h1, h2⟩ := ih (i + 1) (by omega)
        rw [Bool.true_and]
        exact ⟨r, ht i (by omega) hp _ h1, h2⟩
      | false => rw [Bool.false_and]; exact ⟨i, hf i (by omega) hp, by simp⟩
  have := key n 0 (by omega)
  rwa [← List.range_eq_range'] at this

theorem equal_loop (x y : List Int) (hl : x.length ≤ 1048576) (he : x.length = y.length) : ∀ (m i : Nat), i + m = x.length → Ev (fun k => slices_Equal_byte_byte.l0 k x y (x.length : Int) (i : Int)) (decide (x.drop i = y.drop i)) := by
  intro m
  induction m with
  | zero =>
    intro i hi
    refine Ev_succ ?_
    simp only [slices_Equal_byte_byte.l0]
    rw [List.drop_of_length_le (by omega), List.drop_of_length_le (by omega)]
    exact Ev_f (by omega) (Ev_eq (Ev.now _) (by simp))
  | succ m ih =>
    intro i hi
    have d1 := drop_cons x i 0 (by omega)
    have d2 := drop_cons y i 0 (by omega)
    refine Ev_succ ?_
    simp only [slices_Equal_byte_byte.l0, rd_nat]
    rw [d1, d2, w64_succ (show i < x.length by omega) (by omega)]
    refine Ev_t (by omega) (Ev_t (by omega) (Ev_t (by omega) (Ev_t (by omega) (Ev_ite (fun h => Ev_eq (ih (i + 1) (by omega)) ?_) (fun h => Ev_eq (Ev.now _) ?_)))))
    · rw [h]; simp
    · simp only [List.cons.injEq, h, false_and, decide_false]
theorem equal_ev (x y : List Int) (hl : x.length ≤ 1048576) : Ev (fun k => slices_Equal_byte_byte.f k x y) (decide (x = y)) := by
  simp only [slices_Equal_byte_byte.f]
  by_cases he : x.length = y.length
  · refine Ev_t (by omega) (Ev_eq (equal_loop x y hl he x.length 0 (by omega)) (by simp))
  · refine Ev_f (by omega) (Ev_eq (Ev.now _) ?_)
    have : ¬ x = y := fun h => he (by rw [h])
    simp [this]
theorem str_inj {x y : List Int} (hx : ∀ z ∈ x, 0 ≤ z ∧ z ≤ 255) (hy : ∀ z ∈ y, 0 ≤ z ∧ z ≤ 255) : (strOfNums x).toList = (strOfNums y).toList ↔ x = y := by
  constructor
  · intro h
    rw [ByteArray.toList_eq, ByteArray.toList_eq, strOfNums_data, strOfNums_data] at h
    have key : ∀ (x y : List Int), (∀ z ∈ x, 0 ≤ z ∧ z ≤ 255) → (∀ z ∈ y, 0 ≤ z ∧ z ≤ 255) → x.map (fun n => UInt8.ofNat n.toNat) = y.map (fun n => UInt8.ofNat n.toNat) → x = y := by
      intro x
      induction x with
      | nil => intro y _ _ h; cases y with
        | nil => rfl
        | cons b y => simp at h
      | cons a x ih =>
        intro y hx hy h
        cases y with
        | nil => simp at h
        | cons b y =>
          simp only [List.map_cons, List.cons.injEq] at h
          have ha := hx a (by simp)
          have hb := hy b (by simp)
          have h1 : (UInt8.ofNat a.toNat).toNat = (UInt8.ofNat b.toNat).toNat := by rw [h.1]
          rw [UInt8.toNat_ofNat', UInt8.toNat_ofNat'] at h1
          have h2 : a = b := by omega
          rw [h2, ih y (fun z hz => hx z (by simp [hz])) (fun z hz => hy z (by simp [hz])) h.2]
    exact key x y hx hy h
  · intro h; rw [h]

abbrev CL := S73
def noU (ls : List CL) (i : Nat) : Bool := (List.range (ls.take i).length).all (fun j => decide (¬ ((ls.take i).getD j z73).f4 = (ls.getD i z73).f4))
def okL (b : List (List Int)) (cl : Int) (ls : List CL) (i : Nat) : Bool :=
  decide (0 ≤ (ls.getD i z73).f0 ∧ (ls.getD i z73).f0 ≤ (b.length : Int) - 1) && (decide (i = 0 ∨ (ls.getD (i - 1) z73).f0 < (ls.getD i z73).f0) && (decide ((ls.getD i z73).f1.length = 128) &&
    (decide (0 ≤ (ls.getD i z73).f3 ∧ (ls.getD i z73).f3 ≤ 100) && (decide (1 ≤ (ls.getD i z73).f4 ∧ (ls.getD i z73).f4 ≤ cl) &&
      (((ls.getD i z73).f2 || decide ((ls.getD i z73).f1 = b.getD (ls.getD i z73).f0.toNat [])) && noU ls i)))))
theorem has_eq (b : List (List Int)) (w : Int) (o : Bool) (t x : Int) (hb : b.length ≤ 1048576) : impl_Disk_has.f b w o t x = some (decide (0 ≤ x ∧ x ≤ (b.length : Int) - 1)) := by
  simp only [impl_Disk_has.f, within_eq, Option.bind_some]
  rw [w64 (n := (b.length : Int) - 1) (by omega) (by omega)]
theorem contains_ev (xs : List CL) (hl : xs.length ≤ 1048576) (a0 : Int) (a1 : List Int) (a2 : Bool) (a3 a4 : Int) :
    Ev (fun k => slices_ContainsFunc_impl_CacheLine_59.f k xs a0 a1 a2 a3 a4) (!((List.range xs.length).all (fun j => decide (¬ (xs.getD j z73).f4 = a4)))) := by
  obtain ⟨r, h1, h2⟩ := find_ev (g := fun k i => slices_IndexFunc_impl_CacheLine_59.l0 k xs (xs.length : Int) i a0 a1 a2 a3 a4) xs.length (fun j => decide (¬ (xs.getD j z73).f4 = a4))
    (fun i hi hp r hr => Ev_succ (by
      simp only [slices_IndexFunc_impl_CacheLine_59.l0, rd_T73_nat, impl_GoodCache_1.f, Option.bind_some]
      rw [w64_succ hi (by omega)]
      simp only [decide_eq_true_eq] at hp
      exact Ev_t (by omega) (Ev_t (by omega) (Ev_t (by omega) (Ev_f (by simpa using hp) hr)))))
    (fun i hi hp => Ev_succ (by
      simp only [slices_IndexFunc_impl_CacheLine_59.l0, rd_T73_nat, impl_GoodCache_1.f, Option.bind_some]
      simp only [decide_eq_false_iff_not, Decidable.not_not] at hp
      exact Ev_t (by omega) (Ev_t (by omega) (Ev_t (by omega) (Ev_t (by simpa using hp) (Ev.now _))))))
    (Ev_succ (by simp only [slices_IndexFunc_impl_CacheLine_59.l0]; exact Ev_f (by omega) (Ev.now _)))
  simp only [slices_ContainsFunc_impl_CacheLine_59.f, slices_IndexFunc_impl_CacheLine_59.f]
  exact Ev.bind h1 (Ev_eq (Ev.now _) h2)
structure Rd (b : List (List Int)) (ls : List CL) : Prop where
  hb : b.length ≤ 1048576
  hl : ls.length ≤ 1048576
  by1 : ∀ p ∈ ls, ∀ y ∈ p.f1, 0 ≤ y ∧ y ≤ 255
  by2 : ∀ p ∈ b, ∀ y ∈ p, 0 ≤ y ∧ y ≤ 255
theorem specStep (b : List (List Int)) (w : Int) (o : Bool) (t m cl : Int) (ls : List CL) (z : Rd b ls) (i : Nat) (hi : i < ls.length) (r : Bool)
    (hr : okL b cl ls i = true → Ev (fun k => spec_GoodCache.l0 k ls (ls.length : Int) ((i + 1 : Nat) : Int) m cl ls b w o t) r) (hf : okL b cl ls i = false → r = false) :
    Ev (fun k => spec_GoodCache.l0 k ls (ls.length : Int) (i : Int) m cl ls b w o t) r := by
  have hb := z.hb; have hl := z.hl
  have hp1 : ∀ y ∈ (ls.getD i z73).f1, 0 ≤ y ∧ y ≤ 255 := z.by1 _ (getD_mem z73 hi)
  have hlt : (ls.take i).length = i := by rw [List.length_take]; omega
  refine Ev_succ ?_
  simp only [spec_GoodCache.l0, l1In_eq, rd_T73_nat, Option.bind_some, decide_eq_true_eq]
  rw [w64 (n := (b.length : Int) - 1) (by omega) (by omega), w64 (n := (i : Int) - 1) (by omega) (by omega)]
  simp only [okL, noU] at hr hf
  have eprev : 0 < i → rd_T73 ls ((i : Int) - 1) = ls.getD (i - 1) z73 := fun h => by
    rw [show (i : Int) - 1 = ((i - 1 : Nat) : Int) by omega]; exact rd_T73_nat _ _
  generalize hq : ls.getD i z73 = p at *
  obtain ⟨p0, p1, p2, p3, p4⟩ := p
  simp only at *
  have bad : ∀ c : Bool, c = true → r = false → Ev (fun k => spec_GoodCache.j2 k (i : Int) ls (ls.length : Int) (i : Int) c m cl ls b w o t p0 p1 p2 p3 p4) r := fun c hc h => Ev_succ (by simp only [spec_GoodCache.j2]; exact Ev_t hc (Ev_eq (Ev.now _) h.symm))
  refine Ev_t (by omega) (Ev_t (by omega) (Ev_t (by omega) (Ev_ite (fun cA => ?_) (fun cA => bad _ rfl (hf (by simp only [decide_eq_false cA, Bool.false_and]))))))
  rw [decide_eq_true cA] at hr hf
  have j3 : decide (i = 0 ∨ (ls.getD (i - 1) z73).f0 < p0) = true → decide (p1.length = 128) = true → decide (0 ≤ p3 ∧ p3 ≤ 100) = true → decide (1 ≤ p4 ∧ p4 ≤ cl) = true → ∀ c : Bool, c = (!(p2 || decide (p1 = b.getD p0.toNat []))) → Ev (fun k => spec_GoodCache.j3 k (i : Int) ls (ls.length : Int) (i : Int) c m cl ls b w o t p0 p1 p2 p3 p4) r := by
    intro cB cC cD cE c hc
    rw [cB, cC, cD, cE] at hr hf
    refine Ev_succ ?_
    simp only [spec_GoodCache.j3]
    refine Ev_ite (fun h => Ev_eq (Ev.now _) ?_) (fun h => ?_)
    · have : (p2 || decide (p1 = b.getD p0.toNat [])) = false := by rw [h] at hc; simpa using hc.symm
      exact (hf (by rw [this]; simp only [Bool.false_and, Bool.and_false])).symm
    · have h' : (p2 || decide (p1 = b.getD p0.toNat [])) = true := by
        have hc0 : c = false := by simpa using h
        cases hx : (p2 || decide (p1 = b.getD p0.toNat [])) with
        | true => rfl
        | false => rw [hx, hc0] at hc; exact absurd hc (by decide)
      rw [h'] at hr hf
      simp only [Int.toNat_natCast, Option.bind_some, Bool.true_and] at hr hf ⊢
      refine Ev_t (by omega) (Ev_t (by omega) ?_)
      have h2 := scanG_ev (g := fun k j => spec_GoodCache.l1 k ls (ls.length : Int) (i : Int) (ls.take i) ((ls.take i).length : Int) j m cl ls b w o t p0 p1 p2 p3 p4) (ls.take i).length (fun j => decide (¬ ((ls.take i).getD j z73).f4 = p4)) r false
        (fun j hj hp r hr => Ev_succ (by
          simp only [spec_GoodCache.l1, rd_T73_nat]
          rw [w64_succ hj (by omega)]
          simp only [decide_eq_true_eq] at hp
          exact Ev_t (by omega) (Ev_t (by omega) (Ev_t (by omega) (Ev_f hp hr)))))
        (fun j hj hp => Ev_succ (by
          simp only [spec_GoodCache.l1, rd_T73_nat]
          simp only [decide_eq_false_iff_not, Decidable.not_not] at hp
          exact Ev_t (by omega) (Ev_t (by omega) (Ev_t (by omega) (Ev_t hp (Ev.now _))))))
        (fun hA => Ev_succ (by
          simp only [spec_GoodCache.l1]
          rw [w64_succ (n := ls.length) hi (by omega)]
          exact Ev_f (by omega) (hr hA)))
      refine Ev_eq h2 ?_
      by_cases hA : (List.range (ls.take i).length).all (fun j => decide (¬ ((ls.take i).getD j z73).f4 = p4)) = true
      · exact if_pos hA
      · exact (if_neg hA).trans (hf (by simpa using hA)).symm
  have tail : decide (i = 0 ∨ (ls.getD (i - 1) z73).f0 < p0) = true → Ev (fun k => if (p1.length : Int) = 128 then (if 0 ≤ p3 ∧ p3 ≤ 100 then spec_GoodCache.j2 k (i : Int) ls (ls.length : Int) (i : Int) (!decide (1 ≤ p4 ∧ p4 ≤ cl)) m cl ls b w o t p0 p1 p2 p3 p4 else spec_GoodCache.j2 k (i : Int) ls (ls.length : Int) (i : Int) true m cl ls b w o t p0 p1 p2 p3 p4) else spec_GoodCache.j2 k (i : Int) ls (ls.length : Int) (i : Int) true m cl ls b w o t p0 p1 p2 p3 p4) r := by
    intro cB
    refine Ev_ite (fun cC => ?_) (fun cC => bad _ rfl (hf (by rw [decide_eq_false (show ¬ p1.length = 128 by omega)]; simp only [Bool.false_and, Bool.and_false])))
    have cC' : decide (p1.length = 128) = true := decide_eq_true (by omega)
    refine Ev_ite (fun cD => ?_) (fun cD => bad _ rfl (hf (by rw [decide_eq_false cD]; simp only [Bool.false_and, Bool.and_false])))
    cases cE : decide (1 ≤ p4 ∧ p4 ≤ cl) with
    | false => exact bad _ rfl (hf (by rw [cE]; simp only [Bool.false_and, Bool.and_false]))
    | true =>
      refine Ev_succ ?_
      simp only [spec_GoodCache.j2]
      refine Ev_f (by decide) (Ev_ite (fun h2 => j3 cB cC' (decide_eq_true cD) cE false (by rw [h2]; rfl)) (fun h2 => ?_))
      have h2' : p2 = false := by simpa using h2
      have ep : rd_L1 b p0 = b.getD p0.toNat [] := by
        have := rd_L_nat b p0.toNat
        rw [show ((p0.toNat : Nat) : Int) = p0 by omega] at this
        exact this
      refine Ev_t cA.1 (Ev_t (by omega) (j3 cB cC' (decide_eq_true cD) cE _ ?_))
      rw [ep, h2', Bool.false_or]
      have hbm : ∀ y ∈ b.getD p0.toNat [], 0 ≤ y ∧ y ≤ 255 := z.by2 _ (getD_mem [] (by omega))
      have hi := str_inj hp1 hbm
      by_cases e : p1 = b.getD p0.toNat []
      · rw [decide_eq_true e, hi.2 e]; simp
      · rw [decide_eq_false e, bne_iff_ne.2 (fun h => e (hi.1 h))]; rfl
  refine Ev_ite (fun h0 => ?_) (fun h0 => tail (decide_eq_true (Or.inl (by omega))))
  rw [eprev (by omega)]
  refine Ev_t (by omega) (Ev_t (by omega) (Ev_ite (fun hB => bad _ rfl (hf (by rw [decide_eq_false (show ¬ (i = 0 ∨ (ls.getD (i - 1) z73).f0 < p0) by omega)]; simp only [Bool.false_and, Bool.and_false]))) (fun hB => tail (decide_eq_true (Or.inr (by omega))))))
theorem implStep (b : List (List Int)) (w : Int) (o : Bool) (t m cl : Int) (ls : List CL) (z : Rd b ls) (i : Nat) (hi : i < ls.length) (r : Bool)
    (hr : okL b cl ls i = true → Ev (fun k => impl_GoodCache.l0 k ls (ls.length : Int) ((i + 1 : Nat) : Int) m cl ls b w o t) r) (hf : okL b cl ls i = false → r = false) :
    Ev (fun k => impl_GoodCache.l0 k ls (ls.length : Int) (i : Int) m cl ls b w o t) r := by
  have hb := z.hb; have hl := z.hl
  have hlt : (ls.take i).length = i := by rw [List.length_take]; omega
  refine Ev_succ ?_
  simp only [impl_GoodCache.l0, has_eq b w o t _ hb, within_eq, rd_T73_nat, Option.bind_some, decide_eq_true_eq, Int.toNat_natCast]
  rw [w64 (n := (i : Int) - 1) (by omega) (by omega)]
  simp only [okL, noU] at hr hf
  have eprev : 0 < i → rd_T73 ls ((i : Int) - 1) = ls.getD (i - 1) z73 := fun h => by
    rw [show (i : Int) - 1 = ((i - 1 : Nat) : Int) by omega]; exact rd_T73_nat _ _
  generalize hq : ls.getD i z73 = p at *
  obtain ⟨p0, p1, p2, p3, p4⟩ := p
  simp only at *
  have bad : ∀ c : Bool, c = true → r = false → Ev (fun k => impl_GoodCache.j2 k ls (ls.length : Int) (i : Int) c m cl ls b w o t) r := fun c hc h => Ev_succ (by simp only [impl_GoodCache.j2]; exact Ev_t hc (Ev_eq (Ev.now _) h.symm))
  refine Ev_t (by omega) (Ev_t (by omega) (Ev_t (by omega) (Ev_ite (fun cA => ?_) (fun cA => bad _ rfl (hf (by simp only [decide_eq_false cA, Bool.false_and]))))))
  rw [decide_eq_true cA] at hr hf
  have last : decide (i = 0 ∨ (ls.getD (i - 1) z73).f0 < p0) = true → decide (p1.length = 128) = true → decide (0 ≤ p3 ∧ p3 ≤ 100) = true → decide (1 ≤ p4 ∧ p4 ≤ cl) = true → (p2 || decide (p1 = b.getD p0.toNat [])) = true →
      Ev (fun k => if (i : Int) ≤ (ls.length : Int) then (slices_ContainsFunc_impl_CacheLine_59.f k (ls.take i) p0 p1 p2 p3 p4).bind fun c => impl_GoodCache.j2 k ls (ls.length : Int) (i : Int) c m cl ls b w o t else none) r := by
    intro cB cC cD cE cF
    rw [cB, cC, cD, cE, cF] at hr hf
    simp only [Bool.true_and] at hr hf
    refine Ev_t (by omega) (Ev.bind (contains_ev (ls.take i) (by omega) p0 p1 p2 p3 p4) ?_)
    cases hA : (List.range (ls.take i).length).all (fun j => decide (¬ ((ls.take i).getD j z73).f4 = p4)) with
    | false => exact bad _ rfl (hf hA)
    | true =>
      refine Ev_succ ?_
      simp only [impl_GoodCache.j2]
      rw [w64_succ (n := ls.length) hi (by omega)]
      exact Ev_f (by decide) (hr hA)
  have tail : decide (i = 0 ∨ (ls.getD (i - 1) z73).f0 < p0) = true → Ev (fun k => if (p1.length : Int) = 128 then (if 0 ≤ p3 ∧ p3 ≤ 100 then (if 1 ≤ p4 ∧ p4 ≤ cl then (if p2 = true then (if (i : Int) ≤ (ls.length : Int) then (slices_ContainsFunc_impl_CacheLine_59.f k (ls.take i) p0 p1 p2 p3 p4).bind fun c => impl_GoodCache.j2 k ls (ls.length : Int) (i : Int) c m cl ls b w o t else none) else (if 0 ≤ p0 then (if p0 < (b.length : Int) then (slices_Equal_byte_byte.f k p1 (rd_L1 b p0)).bind fun e => if e = true then (if (i : Int) ≤ (ls.length : Int) then (slices_ContainsFunc_impl_CacheLine_59.f k (ls.take i) p0 p1 p2 p3 p4).bind fun c => impl_GoodCache.j2 k ls (ls.length : Int) (i : Int) c m cl ls b w o t else none) else impl_GoodCache.j2 k ls (ls.length : Int) (i : Int) true m cl ls b w o t else none) else none)) else impl_GoodCache.j2 k ls (ls.length : Int) (i : Int) true m cl ls b w o t) else impl_GoodCache.j2 k ls (ls.length : Int) (i : Int) true m cl ls b w o t) else impl_GoodCache.j2 k ls (ls.length : Int) (i : Int) true m cl ls b w o t) r := by
    intro cB
    refine Ev_ite (fun cC => ?_) (fun cC => bad _ rfl (hf (by rw [decide_eq_false (show ¬ p1.length = 128 by omega)]; simp only [Bool.false_and, Bool.and_false])))
    have cC' : decide (p1.length = 128) = true := decide_eq_true (by omega)
    refine Ev_ite (fun cD => ?_) (fun cD => bad _ rfl (hf (by rw [decide_eq_false cD]; simp only [Bool.false_and, Bool.and_false])))
    refine Ev_ite (fun cE => ?_) (fun cE => bad _ rfl (hf (by rw [decide_eq_false cE]; simp only [Bool.false_and, Bool.and_false])))
    have L := last cB cC' (decide_eq_true cD) (decide_eq_true cE)
    refine Ev_ite (fun h2 => L (by rw [h2]; rfl)) (fun h2 => ?_)
    have h2' : p2 = false := by simpa using h2
    have ep : rd_L1 b p0 = b.getD p0.toNat [] := by
      have := rd_L_nat b p0.toNat
      rw [show ((p0.toNat : Nat) : Int) = p0 by omega] at this
      exact this
    rw [ep]
    refine Ev_t cA.1 (Ev_t (by omega) (Ev.bind (equal_ev p1 _ (by omega)) (Ev_ite (fun he => L (by rw [he, Bool.or_true])) (fun he => bad _ rfl (hf ?_)))))
    have he' : decide (p1 = b.getD p0.toNat []) = false := by simpa using he
    rw [he', h2']; simp only [Bool.or_false, Bool.false_and, Bool.and_false]
  refine Ev_ite (fun h0 => ?_) (fun h0 => tail (decide_eq_true (Or.inl (by omega))))
  rw [eprev (by omega)]
  refine Ev_t (by omega) (Ev_t (by omega) (Ev_ite (fun hB => bad _ rfl (hf (by rw [decide_eq_false (show ¬ (i = 0 ∨ (ls.getD (i - 1) z73).f0 < p0) by omega)]; simp only [Bool.false_and, Bool.and_false]))) (fun hB => tail (decide_eq_true (Or.inr (by omega))))))
def goodC (m cl : Int) (ls : List CL) (b : List (List Int)) (w t : Int) : Bool := diskB b w t && (decide (1 ≤ m ∧ m ≤ 8) && (decide (0 ≤ cl ∧ cl ≤ 1000000) && (decide (¬ (ls.length : Int) > m) && (List.range ls.length).all (okL b cl ls))))
theorem specGoodCache_ev (m cl : Int) (ls : List CL) (b : List (List Int)) (w : Int) (o : Bool) (t : Int) (z : Rd b ls) : Ev (fun k => spec_GoodCache.f k m cl ls b w o t) (goodC m cl ls b w t) := by
  have hl := z.hl
  have bad : ∀ c : Bool, c = true → goodC m cl ls b w t = false → Ev (fun k => spec_GoodCache.j0 k c m cl ls b w o t) (goodC m cl ls b w t) := fun c hc h => Ev_succ (by simp only [spec_GoodCache.j0]; exact Ev_t hc (Ev_eq (Ev.now _) h.symm))
  simp only [spec_GoodCache.f, l1In_eq, Option.bind_some, decide_eq_true_eq]
  refine Ev.bind (specGoodDisk_ev b w o t z.hb) (Ev_ite (fun h1 => ?_) (fun h1 => bad _ rfl (by have h1' : diskB b w t = false := by simpa using h1
                                                                                                simp only [goodC, h1', Bool.false_and])))
  refine Ev_ite (fun h2 => ?_) (fun h2 => bad _ rfl (by simp only [goodC, decide_eq_false h2, Bool.false_and, Bool.and_false]))
  refine Ev_ite (fun h3 => ?_) (fun h3 => bad _ rfl (by simp only [goodC, decide_eq_false h3, Bool.false_and, Bool.and_false]))
  by_cases h4 : (ls.length : Int) > m
  · exact bad _ (decide_eq_true h4) (by simp only [goodC, decide_eq_false (show ¬ ¬ (ls.length : Int) > m by omega), Bool.false_and, Bool.and_false])
  · refine Ev_succ ?_
    simp only [spec_GoodCache.j0]
    refine Ev_f (by simpa using h4) ?_
    have h := scanG_ev (g := fun k i => spec_GoodCache.l0 k ls (ls.length : Int) i m cl ls b w o t) ls.length (okL b cl ls) true false
      (fun i hi hp r hr => specStep b w o t m cl ls z i hi r (fun _ => hr) (fun h => absurd (hp.symm.trans h) (by decide)))
      (fun i hi hp => specStep b w o t m cl ls z i hi false (fun h => absurd (hp.symm.trans h) (by decide)) (fun _ => rfl))
      (fun _ => Ev_succ (by simp only [spec_GoodCache.l0]; exact Ev_f (by omega) (Ev.now _)))
    refine Ev_eq h ?_
    simp only [goodC, h1, decide_eq_true h2, decide_eq_true h3, decide_eq_true h4, Bool.true_and]
    cases (List.range ls.length).all (okL b cl ls) <;> rfl
theorem implGoodCache_ev (m cl : Int) (ls : List CL) (b : List (List Int)) (w : Int) (o : Bool) (t : Int) (z : Rd b ls) : Ev (fun k => impl_GoodCache.f k m cl ls b w o t) (goodC m cl ls b w t) := by
  have hl := z.hl
  have bad : ∀ c : Bool, c = true → goodC m cl ls b w t = false → Ev (fun k => impl_GoodCache.j0 k c m cl ls b w o t) (goodC m cl ls b w t) := fun c hc h => Ev_succ (by simp only [impl_GoodCache.j0]; exact Ev_t hc (Ev_eq (Ev.now _) h.symm))
  simp only [impl_GoodCache.f, within_eq, Option.bind_some, decide_eq_true_eq]
  refine Ev.bind (implGoodDisk_ev b w o t z.hb) (Ev_ite (fun h1 => ?_) (fun h1 => bad _ rfl (by have h1' : diskB b w t = false := by simpa using h1
                                                                                                simp only [goodC, h1', Bool.false_and])))
  refine Ev_ite (fun h2 => ?_) (fun h2 => bad _ rfl (by simp only [goodC, decide_eq_false h2, Bool.false_and, Bool.and_false]))
  refine Ev_ite (fun h3 => ?_) (fun h3 => bad _ rfl (by simp only [goodC, decide_eq_false h3, Bool.false_and, Bool.and_false]))
  by_cases h4 : (ls.length : Int) > m
  · exact bad _ (decide_eq_true h4) (by simp only [goodC, decide_eq_false (show ¬ ¬ (ls.length : Int) > m by omega), Bool.false_and, Bool.and_false])
  · refine Ev_succ ?_
    simp only [impl_GoodCache.j0]
    refine Ev_f (by simpa using h4) ?_
    have h := scanG_ev (g := fun k i => impl_GoodCache.l0 k ls (ls.length : Int) i m cl ls b w o t) ls.length (okL b cl ls) true false
      (fun i hi hp r hr => implStep b w o t m cl ls z i hi r (fun _ => hr) (fun h => absurd (hp.symm.trans h) (by decide)))
      (fun i hi hp => implStep b w o t m cl ls z i hi false (fun h => absurd (hp.symm.trans h) (by decide)) (fun _ => rfl))
      (fun _ => Ev_succ (by simp only [impl_GoodCache.l0]; exact Ev_f (by omega) (Ev.now _)))
    refine Ev_eq h ?_
    simp only [goodC, h1, decide_eq_true h2, decide_eq_true h3, decide_eq_true h4, Bool.true_and]
    cases (List.range ls.length).all (okL b cl ls) <;> rfl
end OfFnExactGoodCache
open OfFnExactGoodCache
theorem FnExactGoodCache : Stated := by
  intro m cl l b w o t wm wc wl wb _ _ _
  refine Ev.rounds ?_
  simp only [laws_FnExactGoodCache.f]
  obtain ⟨r, h1, h2, h3⟩ := szCacheLineS_ev l ⟨wl.1, fun p hp => (wl.2 p hp).2.1.1⟩ 1048576 (by omega) (by omega)
  by_cases c : r < 0
  · refine Ev.bind (a := -1) ?_ (Ev_t (by decide) (Ev.now _))
    simp only [laws_szCache.f]
    exact Ev.bind h1 (Ev_t c (Ev.now _))
  · have hc : Ev (fun k => laws_szCache.f k m cl l 1048576) r := by
      simp only [laws_szCache.f]
      exact Ev.bind h1 (Ev_f c (Ev.now _))
    obtain ⟨hl, hy⟩ := h3 (by omega)
    obtain ⟨r2, k1, k2, k3⟩ := szDisk_ev b w o t ⟨wb.1, fun p hp => (wb.2 p hp).1⟩ r (by omega) h2
    refine Ev.bind hc (Ev_f c (Ev.bind k1 (Ev_ite (fun _ => Ev.now _) (fun c2 => ?_))))
    obtain ⟨hb, hz⟩ := k3 (by omega)
    have f0 := toCacheLineS_ev l hl hy
    have f1 : Ev (fun k => laws_toCache.f k m cl l) (m, cl, l.map imc) := by
      simp only [laws_toCache.f]; exact Ev.bind f0 (Ev.now _)
    have f2 := toDisk_ev b w o t hb hz
    have hl' : (l.map imc).length ≤ 1048576 := by simpa using hl
    have hy' : ∀ p ∈ l.map imc, p.f1.length ≤ 1048576 := by
      intro p hp
      obtain ⟨q, hq, rfl⟩ := List.mem_map.1 hp
      exact hy q hq
    have z : Rd b (l.map imc) := ⟨hb, hl', by
      intro p hp y hyy
      obtain ⟨q, hq, rfl⟩ := List.mem_map.1 hp
      exact wf8 ((wl.2 q hq).2.1.2 y hyy), fun p hp y hyy => wf8 ((wb.2 p hp).2 y hyy)⟩
    have e1 : Ev (fun k => laws_eqCache.f k m cl (l.map imc) m cl (l.map imc)) true := by
      simp only [laws_eqCache.f]
      exact Ev_t trivial (Ev_t trivial (Ev.bind (eqCacheLineS_ev _ hl' hy') (Ev_t rfl (Ev.now _))))
    exact Ev.bind f1 (Ev.bind f2 (Ev.bind (specGoodCache_ev m cl _ b w o t z) (Ev.bind f1 (Ev.bind f2 (Ev.bind (implGoodCache_ev m cl _ b w o t z) (Ev_f (by simp) (Ev.bind f1 (Ev.bind e1 (Ev_t rfl (Ev.bind f2 (Ev.bind (eqDisk_ev b w o t hb hz) (Ev_t rfl (Ev.now _)))))))))))))
end Go.Proofs.Ythbbcnjnbfhcbaa.Pure
