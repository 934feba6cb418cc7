/-
The pure statement of FnExactWriteBlock: the printed functions of the program and of the reference answer alike for every argument within the bounds that the statement tells.
-/
import Derived.Test.YthbbcnjnbfhcbaaWfFnExactWriteBlock
namespace Go.Proofs.Ythbbcnjnbfhcbaa.Pure
open Go Go.RowKit Go.Proofs.Ythbbcnjnbfhcbaa.PFnExactWriteBlock Go.Proofs.YthbbcnjnbfhcbaaW.PrintWords Go.Proofs.YthbbcnjnbfhcbaaW.PrintLast Go.Proofs.YthbbcnjnbfhcbaaW.PrintMore Go.Proofs.Ythbbcnjnbfhcbaa.Lib
set_option linter.unusedVariables false
set_option linter.unusedSimpArgs false
namespace OfFnExactWriteBlock
theorem within_eq (a b c : Int) : impl_within.f a b c = some (decide (b ≤ a ∧ a ≤ c)) := by
  simp only [impl_within.f]
  by_cases h : b ≤ a <;> simp [h]

theorem l1In_eq (a b c : Int) : spec_l1In.f a b c = some (decide (b ≤ a ∧ a ≤ c)) := by
  simp only [spec_l1In.f]
  by_cases h : b ≤ a <;> simp [h]

theorem toByteS_ev (l : List Int) (hl : l.length ≤ 1048576) : Ev (fun k => laws_toByteS.f k l) l := by
  have h := fill_ev (g := fun k x i => laws_toByteS.l0 k l x i) l 0 (fun x => x)
    (fun x i hx hi hr => Ev_succ (by
      simp only [laws_toByteS.l0]
      refine Ev_t (by omega) (Ev_t (by omega) (Ev_t (by omega) ?_))
      rw [w64_succ hi (by omega)]
      simpa [rd_nat] using hr))
    (fun x hx => Ev_succ (by simp only [laws_toByteS.l0]; exact Ev_f (by omega) (Ev.now _)))
    (List.replicate l.length 0) (by simp)
  rw [map_same] at h
  refine Ev.congr (fun k => ?_) h
  simp only [laws_toByteS.f]
  rw [if_pos (by omega), if_pos (by simp; omega)]
  simp

theorem eqByteS_ev (l : List Int) (hl : l.length ≤ 4611686018427387904) : Ev (fun k => laws_eqByteS.f k l l) true := by
  have h := all_ev (g := fun k i => laws_eqByteS.l0 k l l i) (r := true) l.length
    (fun i hi hr => Ev_succ (by
      simp only [laws_eqByteS.l0]
      refine Ev_t (by omega) (Ev_t (by omega) (Ev_t (by omega) (Ev_t trivial ?_)))
      rw [w64_succ hi (by omega)]; exact hr))
    (Ev_succ (by simp only [laws_eqByteS.l0]; exact Ev_f (by omega) (Ev.now _)))
  refine Ev.congr (fun k => ?_) h
  simp only [laws_eqByteS.f]; rw [if_pos trivial]

theorem rd_L_nat (xs : List (List Int)) (i : Nat) : rd_L1 xs (i : Int) = xs.getD i [] := by simp [rd_L1]
theorem szByteS_val (l : List Int) (hl : l.length ≤ maxLen) (n : Int) (h0 : 0 ≤ n) (h1 : n ≤ 1048576) : ∃ r, laws_szByteS.f l n = some r ∧ r ≤ n ∧ (0 ≤ r → l.length ≤ 1048576) := by
  have hl0 : (l.length : Int) ≤ 9223372036854775807 := by simp only [maxLen] at hl; omega
  simp only [laws_szByteS.f]
  rw [w64 (n := n - (l.length : Int)) (by omega) (by omega)]
  by_cases c : n - (l.length : Int) < 0
  · exact ⟨-1, if_pos c, by omega, fun h => by omega⟩
  · exact ⟨n - (l.length : Int), if_neg c, by omega, fun h => by omega⟩
theorem szByteSS_loop (l : List (List Int)) (hw : ∀ p ∈ l, p.length ≤ maxLen) (hl : l.length ≤ 1048576) : ∀ (m i : Nat) (x : Int), i + m = l.length → 0 ≤ x → x ≤ 1048576 →
    ∃ r, Ev (fun k => laws_szByteSS.l0 k l x (i : Int)) r ∧ r ≤ x ∧ (0 ≤ r → ∀ j, i ≤ j → j < l.length → (l.getD j []).length ≤ 1048576) := by
  intro m
  induction m with
  | zero =>
    intro i x hi h0 h1
    refine ⟨x, Ev_succ ?_, by omega, fun _ j h2 h3 => by omega⟩
    simp only [laws_szByteSS.l0]; exact Ev_f (by omega) (Ev.now _)
  | succ m ih =>
    intro i x hi h0 h1
    have hp := hw _ (getD_mem (xs := l) (i := i) [] (by omega))
    obtain ⟨r0, e, e1, e2⟩ := szByteS_val _ hp x h0 h1
    by_cases c : r0 < 0
    · refine ⟨-1, Ev_succ ?_, by omega, fun h => by omega⟩
      simp only [laws_szByteSS.l0, rd_L_nat]
      exact Ev_t (by omega) (Ev_t (by omega) (Ev_bind0 e (Ev_t c (Ev.now _))))
    · obtain ⟨r, h2, h3, h4⟩ := ih (i + 1) r0 (by omega) (by omega) (by omega)
      refine ⟨r, Ev_succ ?_, by omega, fun h j h5 h6 => ?_⟩
      · simp only [laws_szByteSS.l0, rd_L_nat]
        rw [w64_succ (show i < l.length by omega) (by omega)]
        exact Ev_t (by omega) (Ev_t (by omega) (Ev_bind0 e (Ev_f c h2)))
      · by_cases h7 : j = i
        · subst h7; exact e2 (by omega)
        · exact h4 h j (by omega) h6
theorem szByteSS_ev (l : List (List Int)) (hw : l.length ≤ maxLen ∧ ∀ p ∈ l, p.length ≤ maxLen) (n : Int) (hn : 0 ≤ n) (hn' : n ≤ 1048576) : ∃ r, Ev (fun k => laws_szByteSS.f k l n) r ∧ r ≤ n ∧ (0 ≤ r → l.length ≤ 1048576 ∧ ∀ p ∈ l, p.length ≤ 1048576) := by
  have hl0 : (l.length : Int) ≤ 9223372036854775807 := by have := hw.1; simp only [maxLen] at this; omega
  have e : wrap64 (n - (l.length : Int)) = n - (l.length : Int) := w64 (by omega) (by omega)
  simp only [laws_szByteSS.f, e]
  by_cases c : n - (l.length : Int) < 0
  · exact ⟨-1, Ev_t c (Ev.now _), by omega, fun h => by omega⟩
  · obtain ⟨r, h1, h2, h3⟩ := szByteSS_loop l hw.2 (by omega) l.length 0 (n - (l.length : Int)) (by omega) (by omega) (by omega)
    refine ⟨r, Ev_f c h1, by omega, fun h => ⟨by omega, fun p hp => ?_⟩⟩
    obtain ⟨j, hj, rfl⟩ := List.mem_iff_getElem.1 hp
    have := h3 h j (by omega) hj
    simpa [List.getD, hj] using this
theorem toByteSS_ev (l : List (List Int)) (hl : l.length ≤ 1048576) (hz : ∀ p ∈ l, p.length ≤ 1048576) : Ev (fun k => laws_toByteSS.f k l) l := by
  have h := fill_ev (g := fun k x i => laws_toByteSS.l0 k l x i) l [] (fun x => x)
    (fun x i hx hi hr => Ev_succ (by
      simp only [laws_toByteSS.l0, rd_L_nat]
      refine Ev_t (by omega) (Ev_t (by omega) (Ev.bind (toByteS_ev _ (hz _ (getD_mem [] hi))) (Ev_t (by omega) ?_)))
      rw [w64_succ hi (by omega)]
      simpa using hr))
    (fun x hx => Ev_succ (by simp only [laws_toByteSS.l0]; exact Ev_f (by omega) (Ev.now _)))
    (List.replicate l.length []) (by simp)
  rw [map_same] at h
  refine Ev.congr (fun k => ?_) h
  simp only [laws_toByteSS.f]
  rw [if_pos (by omega), if_pos (by simp; omega)]
  simp
theorem eqByteSS_ev (l : List (List Int)) (hl : l.length ≤ 1048576) (hz : ∀ p ∈ l, p.length ≤ 1048576) : Ev (fun k => laws_eqByteSS.f k l l) true := by
  have h := all_ev (g := fun k i => laws_eqByteSS.l0 k l l i) (r := true) l.length
    (fun i hi hr => Ev_succ (by
      simp only [laws_eqByteSS.l0, rd_L_nat]
      refine Ev_t (by omega) (Ev_t (by omega) (Ev_t (by omega) (Ev.bind (eqByteS_ev _ (by have := hz _ (getD_mem [] hi); omega)) (Ev_t rfl ?_))))
      rw [w64_succ hi (by omega)]; exact hr))
    (Ev_succ (by simp only [laws_eqByteSS.l0]; exact Ev_f (by omega) (Ev.now _)))
  refine Ev.congr (fun k => ?_) h
  simp only [laws_eqByteSS.f]; rw [if_pos trivial]

def blocksB (l : List (List Int)) : Bool := decide (40 ≤ l.length ∧ l.length ≤ 160) && l.all (fun b => decide (b.length = 128))
theorem indexFunc_loop (l : List (List Int)) (hl : l.length ≤ 1048576) : ∀ (m i : Nat), i + m = l.length → ∃ r : Int, Ev (fun k => slices_IndexFunc_byte_byte.l0 k l (l.length : Int) (i : Int)) r ∧ (0 ≤ r ↔ ¬ ((l.drop i).all (fun b => decide (b.length = 128)) = true)) := by
  intro m
  induction m with
  | zero =>
    intro i hi
    refine ⟨-1, Ev_succ ?_, ?_⟩
    · simp only [slices_IndexFunc_byte_byte.l0]; exact Ev_f (by omega) (Ev.now _)
    · rw [List.drop_of_length_le (by omega)]; simp
  | succ m ih =>
    intro i hi
    have hd := drop_cons l i [] (by omega)
    obtain ⟨r, h1, h2⟩ := ih (i + 1) (by omega)
    by_cases c : (l.getD i []).length = 128
    · refine ⟨r, Ev_succ ?_, ?_⟩
      · simp only [slices_IndexFunc_byte_byte.l0, rd_L_nat, impl_areBlocks_1.f, Option.bind_some]
        rw [w64_succ (show i < l.length by omega) (by omega)]
        exact Ev_t (by omega) (Ev_t (by omega) (Ev_t (by omega) (Ev_f (by rw [c]; decide) h1)))
      · rw [hd, h2, List.all_cons, c]; simp
    · refine ⟨(i : Int), Ev_succ ?_, ?_⟩
      · simp only [slices_IndexFunc_byte_byte.l0, rd_L_nat, impl_areBlocks_1.f, Option.bind_some]
        exact Ev_t (by omega) (Ev_t (by omega) (Ev_t (by omega) (Ev_t (by simp only [bne_iff_ne]; omega) (Ev.now _))))
      · rw [hd, List.all_cons]; simp only [c, decide_false, Bool.false_and, Bool.false_eq_true, not_false_eq_true, iff_true]; omega
theorem areBlocks_ev (l : List (List Int)) (hl : l.length ≤ 1048576) : Ev (fun k => impl_areBlocks.f k l) (blocksB l) := by
  simp only [impl_areBlocks.f, within_eq, Option.bind_some, decide_eq_true_eq]
  by_cases c : (40 : Int) ≤ (l.length : Int) ∧ (l.length : Int) ≤ 160
  · obtain ⟨r, h1, h2⟩ := indexFunc_loop l hl l.length 0 (by omega)
    refine Ev_t c (Ev.bind (a := decide (r ≥ 0)) ?_ (Ev_eq (Ev.now _) ?_))
    · simp only [slices_ContainsFunc_byte_byte.f, slices_IndexFunc_byte_byte.f]
      exact Ev.bind h1 (Ev.now _)
    · rw [List.drop_zero] at h2
      have c' : 40 ≤ l.length ∧ l.length ≤ 160 := by omega
      simp only [blocksB, c', and_self, decide_true, Bool.true_and]
      cases hh : l.all (fun b => decide (b.length = 128)) with
      | true => simp only [hh, not_true, iff_false] at h2; simp; omega
      | false => simp only [hh] at h2; have : 0 ≤ r := h2.2 (by simp); simp [this]
  · refine Ev_f c (Ev_eq (Ev.now _) ?_)
    have c' : ¬ (40 ≤ l.length ∧ l.length ≤ 160) := by omega
    simp only [blocksB, c', decide_false, Bool.false_and]

def diskB (l : List (List Int)) (w : Int) (t : Int) : Bool := blocksB l && (decide (0 ≤ w ∧ w ≤ 1000000000) && decide (-1 ≤ t ∧ t ≤ 1000000))
theorem implGoodDisk_ev (l : List (List Int)) (w : Int) (o : Bool) (t : Int) (hl : l.length ≤ 1048576) : Ev (fun k => impl_GoodDisk.f k l w o t) (diskB l w t) := by
  simp only [impl_GoodDisk.f, within_eq, Option.bind_some, decide_eq_true_eq]
  refine Ev.bind (areBlocks_ev l hl) ?_
  cases hb : blocksB l with
  | false => exact Ev_f (by decide) (Ev_eq (Ev.now _) (by simp [diskB, hb]))
  | true =>
    refine Ev_t rfl (Ev_ite (fun h => Ev_eq (Ev.now _) (by simp [diskB, hb, h])) (fun h => Ev_eq (Ev.now _) (by simp only [diskB, hb, h, decide_false, Bool.false_and, Bool.and_false])))
theorem specGoodDisk_loop (l : List (List Int)) (hl : l.length ≤ 1048576) : ∀ (m i : Nat), i + m = l.length → Ev (fun k => spec_GoodDisk.l0 k l (l.length : Int) (i : Int)) ((l.drop i).all (fun b => decide (b.length = 128))) := by
  intro m
  induction m with
  | zero =>
    intro i hi
    refine Ev_succ ?_
    simp only [spec_GoodDisk.l0]
    rw [List.drop_of_length_le (by omega)]
    exact Ev_f (by omega) (Ev.now _)
  | succ m ih =>
    intro i hi
    have hd := drop_cons l i [] (by omega)
    refine Ev_succ ?_
    simp only [spec_GoodDisk.l0, rd_L_nat]
    rw [w64_succ (show i < l.length by omega) (by omega), hd, List.all_cons]
    refine Ev_t (by omega) (Ev_t (by omega) (Ev_t (by omega) (Ev_ite (fun h => Ev_eq (ih (i + 1) (by omega)) ?_) (fun h => Ev_eq (Ev.now _) ?_))))
    · have h' : (l.getD i []).length = 128 := by omega
      simp only [h', decide_true, Bool.true_and]
    · have h' : ¬ (l.getD i []).length = 128 := by omega
      simp only [h', decide_false, Bool.false_and]
theorem specGoodDisk_ev (l : List (List Int)) (w : Int) (o : Bool) (t : Int) (hl : l.length ≤ 1048576) : Ev (fun k => spec_GoodDisk.f k l w o t) (diskB l w t) := by
  simp only [spec_GoodDisk.f, l1In_eq, Option.bind_some, decide_eq_true_eq]
  have hf : ∀ b : Bool, b = true → diskB l w t = false → Ev (fun k => spec_GoodDisk.j0 k b l w o t) (diskB l w t) := by
    intro b hb hd
    refine Ev_succ ?_
    simp only [spec_GoodDisk.j0]
    exact Ev_t hb (Ev_eq (Ev.now _) hd.symm)
  by_cases c1 : (40 : Int) ≤ (l.length : Int) ∧ (l.length : Int) ≤ 160
  · have c1' : 40 ≤ l.length ∧ l.length ≤ 160 := by omega
    refine Ev_t c1 ?_
    by_cases c2 : 0 ≤ w ∧ w ≤ 1000000000
    · refine Ev_t c2 ?_
      by_cases c3 : -1 ≤ t ∧ t ≤ 1000000
      · refine Ev_succ ?_
        simp only [spec_GoodDisk.j0]
        have h := specGoodDisk_loop l hl l.length 0 (by omega)
        rw [List.drop_zero] at h
        exact Ev_f (by simp [c3]) (Ev_eq h (by simp only [diskB, blocksB, c1', c2, c3, and_self, decide_true, Bool.true_and, Bool.and_true]))
      · exact hf _ (by simp only [c3, decide_false, Bool.not_false]) (by simp only [diskB, c3, decide_false, Bool.and_false])
    · refine Ev_f c2 (hf _ rfl (by simp only [diskB, c2, decide_false, Bool.false_and, Bool.and_false]))
  · refine Ev_f c1 (hf _ rfl ?_)
    have c1' : ¬ (40 ≤ l.length ∧ l.length ≤ 160) := by omega
    simp only [diskB, blocksB, c1', decide_false, Bool.false_and]

theorem szDisk_ev (l : List (List Int)) (w : Int) (o : Bool) (t : Int) (hw : l.length ≤ maxLen ∧ ∀ p ∈ l, p.length ≤ maxLen) (n : Int) (hn : 0 ≤ n) (hn' : n ≤ 1048576) : ∃ r, Ev (fun k => laws_szDisk.f k l w o t n) r ∧ r ≤ n ∧ (0 ≤ r → l.length ≤ 1048576 ∧ ∀ p ∈ l, p.length ≤ 1048576) := by
  obtain ⟨r, h1, h2, h3⟩ := szByteSS_ev l hw n hn hn'
  simp only [laws_szDisk.f]
  by_cases c : r < 0
  · exact ⟨-1, Ev.bind h1 (Ev_t c (Ev.now _)), by omega, fun h => by omega⟩
  · exact ⟨r, Ev.bind h1 (Ev_f c (Ev.now _)), h2, h3⟩
theorem toDisk_ev (l : List (List Int)) (w : Int) (o : Bool) (t : Int) (hl : l.length ≤ 1048576) (hz : ∀ p ∈ l, p.length ≤ 1048576) : Ev (fun k => laws_toDisk.f k l w o t) (l, w, o, t) := by
  simp only [laws_toDisk.f]
  exact Ev.bind (toByteSS_ev l hl hz) (Ev.now _)
theorem eqDisk_ev (l : List (List Int)) (w : Int) (o : Bool) (t : Int) (hl : l.length ≤ 1048576) (hz : ∀ p ∈ l, p.length ≤ 1048576) : Ev (fun k => laws_eqDisk.f k l w o t l w o t) true := by
  simp only [laws_eqDisk.f]
  exact Ev.bind (eqByteSS_ev l hl hz) (Ev_t rfl (Ev_t trivial (Ev_f (by simp) (Ev_t trivial (Ev.now _)))))

theorem clone_ev (l : List Int) (hl : l.length ≤ 1048576) : slices_Clone_byte_byte.f l = some l := by
  simp only [slices_Clone_byte_byte.f, Option.bind_some]
  rw [if_pos (by simp; omega)]; rfl

theorem copyBlocks_ev (l : List (List Int)) (hl : l.length ≤ 1048576) (hz : ∀ p ∈ l, p.length ≤ 1048576) : Ev (fun k => impl_copyBlocks.f k l) l := by
  have key : ∀ (m i : Nat), i + m = l.length → Ev (fun k => impl_copyBlocks.l0 k (l.take i) l (l.length : Int) (i : Int)) l := by
    intro m
    induction m with
    | zero => intro i hi; refine Ev_succ ?_; simp only [impl_copyBlocks.l0]; exact Ev_f (by omega) (Ev_eq (Ev.now _) (by rw [List.take_of_length_le (by omega)]))
    | succ m ih =>
      intro i hi
      have hm := hz _ (getD_mem (xs := l) (i := i) [] (by omega))
      refine Ev_succ ?_
      simp only [impl_copyBlocks.l0, rd_L_nat]
      rw [w64_succ (show i < l.length by omega) (by omega)]
      have e := ih (i + 1) (by omega)
      rw [take_getD_succ l i [] (by omega)] at e
      exact Ev_t (by omega) (Ev_t (by omega) (Ev_t (by omega) (Ev_bind0 (clone_ev _ hm) (Ev_t (by simp only [List.length_take]; omega) e))))
  have h := key l.length 0 (by omega)
  simp only [impl_copyBlocks.f]
  exact h
theorem copied_ev (l : List (List Int)) (w : Int) (o : Bool) (t : Int) (hl : l.length ≤ 1048576) (hz : ∀ p ∈ l, p.length ≤ 1048576) : Ev (fun k => impl_Disk_copied.f k l w o t) (l, w, o, t) := by
  simp only [impl_Disk_copied.f]
  exact Ev.bind (copyBlocks_ev l hl hz) (Ev.now _)
theorem specOwn_ev (l : List (List Int)) (w : Int) (o : Bool) (t : Int) (hl : l.length ≤ 1048576) (hz : ∀ p ∈ l, p.length ≤ 1048576) : Ev (fun k => spec_l2Own.f k l w o t) (l, w, o, t) := by
  have key : ∀ (m i : Nat), i + m = l.length → Ev (fun k => spec_l2Own.l0 k (l.take i) l (l.length : Int) (i : Int) l w o t) (l, w, o, t) := by
    intro m
    induction m with
    | zero => intro i hi; refine Ev_succ ?_; simp only [spec_l2Own.l0]; exact Ev_f (by omega) (Ev_eq (Ev.now _) (by rw [List.take_of_length_le (by omega)]))
    | succ m ih =>
      intro i hi
      have hm := hz _ (getD_mem (xs := l) (i := i) [] (by omega))
      refine Ev_succ ?_
      simp only [spec_l2Own.l0, rd_L_nat, Option.bind_some]
      rw [w64_succ (show i < l.length by omega) (by omega)]
      have e := ih (i + 1) (by omega)
      rw [take_getD_succ l i [] (by omega)] at e
      exact Ev_t (by omega) (Ev_t (by omega) (Ev_t (by omega) (Ev_t (by simp only [List.length_nil]; omega) (Ev_t (by simp only [List.length_take]; omega) e))))
  have h := key l.length 0 (by omega)
  simp only [spec_l2Own.f]
  exact h

theorem markB (l : List Int) (hl : l.length ≤ 1048576) (n0 : Int) (h0 : 0 ≤ n0) (h1 : n0 ≤ 4000000000000000000) : Ev (fun k => laws_markByteS.f k l n0) (n0 + (l.length : Int), (List.range l.length).map fun i : Nat => (n0 + (i : Int)) % 256) := by
  have h := fills_ev (g := fun k x i => laws_markByteS.l0 k x (n0 + i) i) l.length (fun i : Nat => (n0 + (i : Int)) % 256) (fun x => (n0 + (l.length : Int), x))
      (fun x i hx hi r hr => Ev_succ (by
        have e0 : wrap64 (n0 + (i : Int) + 1) = n0 + ((i + 1 : Nat) : Int) := by rw [w64 (by omega) (by omega)]; omega
        simp only [laws_markByteS.l0, Int.toNat_natCast, e0]
        rw [w64_succ hi (by omega)]
        exact Ev_t (by omega) (Ev_t (by omega) hr)))
      (fun x hx => Ev_succ (by simp only [laws_markByteS.l0]; exact Ev_f (by omega) (Ev.now _)))
      l rfl
  refine Ev.congr (fun k => ?_) h
  simp only [laws_markByteS.f, Int.add_zero]

theorem heldB (n : Nat) (hl : n ≤ 1048576) (n0 : Int) (h0 : 0 ≤ n0) (h1 : n0 ≤ 4000000000000000000) : Ev (fun k => laws_heldByteS.f k ((List.range n).map fun i : Nat => (n0 + (i : Int)) % 256) n0) (n0 + (n : Int)) := by
  have h := all_ev (g := fun k i => laws_heldByteS.l0 k ((List.range n).map fun i : Nat => (n0 + (i : Int)) % 256) (n0 + i) i) (r := n0 + (n : Int)) n
      (fun i hi hr => Ev_succ (by
        simp only [laws_heldByteS.l0, List.length_map, List.length_range]
        have e1 : wrap64 (n0 + (i : Int) + 1) = n0 + ((i + 1 : Nat) : Int) := by rw [w64 (by omega) (by omega)]; omega
        have e2 : rd ((List.range n).map fun i : Nat => (n0 + (i : Int)) % 256) (i : Int) = (n0 + (i : Int)) % 256 := by
          rw [rd_nat]; simp [List.getD, hi]
        rw [e1, e2, w64_succ hi (by omega)]
        exact Ev_t (by omega) (Ev_t (by omega) (Ev_t rfl hr))))
      (Ev_succ (by simp only [laws_heldByteS.l0, List.length_map, List.length_range]; exact Ev_f (by omega) (Ev.now _)))
  refine Ev.congr (fun k => ?_) h
  simp only [laws_heldByteS.f, Int.add_zero]

def mkS : List (List Int) → Int → List (List Int) × Int
  | [], n => ([], n)
  | p :: l, n => (((List.range p.length).map fun i : Nat => (n + (i : Int)) % 256) :: (mkS l (n + (p.length : Int))).1, (mkS l (n + (p.length : Int))).2)
theorem mkS_le : ∀ (l : List (List Int)) (n : Int), n ≤ (mkS l n).2 ∧ (mkS l n).1.length = l.length
  | [], n => by simp [mkS]
  | p :: l, n => by
    have := mkS_le l (n + (p.length : Int))
    simp only [mkS, List.length_cons]
    omega
theorem getD_mid (pre : List (List Int)) (p : List Int) (l : List (List Int)) : (pre ++ p :: l).getD pre.length [] = p := by simp
theorem set_mid (pre : List (List Int)) (p q : List Int) (l : List (List Int)) : (pre ++ p :: l).set pre.length q = (pre ++ [q]) ++ l := by simp
theorem markSS_mk : ∀ (suf pre : List (List Int)) (n0 : Int), (pre ++ suf).length ≤ 1048576 → (∀ p ∈ suf, p.length ≤ 1048576) → 0 ≤ n0 → n0 + (suf.length : Int) * 1048576 ≤ 4000000000000000000 →
    Ev (fun k => laws_markByteSS.l0 k (pre ++ suf) n0 (pre.length : Int)) ((mkS suf n0).2, pre ++ (mkS suf n0).1) := by
  intro suf
  induction suf with
  | nil =>
    intro pre n0 hl _ h0 h1
    refine Ev_succ ?_
    simp only [laws_markByteSS.l0]
    exact Ev_f (by simp) (Ev.now _)
  | cons p l ih =>
    intro pre n0 hl hp h0 h1
    have hq := hp p (by simp)
    simp only [List.length_append, List.length_cons] at hl h1
    have e := ih (pre ++ [(List.range p.length).map fun i : Nat => (n0 + (i : Int)) % 256]) (n0 + (p.length : Int)) (by simp; omega) (fun q hm => hp q (by simp [hm])) (by omega) (by omega)
    refine Ev_succ ?_
    simp only [laws_markByteSS.l0, Int.toNat_natCast, getD_mid]
    rw [w64_succ (show pre.length < pre.length + 1 by omega) (by omega)]
    refine Ev_t (by simp; omega) (Ev_t (by omega) (Ev.bind (markB p hq n0 h0 (by omega)) ?_))
    simp only [set_mid]
    simp only [List.length_append, List.length_singleton] at e
    exact Ev_eq e (by simp [mkS])
theorem heldSS_mk : ∀ (suf pre : List (List Int)) (n0 : Int), (pre ++ suf).length ≤ 1048576 → (∀ p ∈ suf, p.length ≤ 1048576) → 0 ≤ n0 → n0 + (suf.length : Int) * 1048576 ≤ 4000000000000000000 →
    Ev (fun k => laws_heldByteSS.l0 k (pre ++ (mkS suf n0).1) n0 (pre.length : Int)) (mkS suf n0).2 := by
  intro suf
  induction suf with
  | nil =>
    intro pre n0 hl _ h0 h1
    refine Ev_succ ?_
    simp only [laws_heldByteSS.l0]
    exact Ev_f (by simp [mkS]) (Ev.now _)
  | cons p l ih =>
    intro pre n0 hl hp h0 h1
    have hq := hp p (by simp)
    simp only [List.length_append, List.length_cons] at hl h1
    have e := ih (pre ++ [(List.range p.length).map fun i : Nat => (n0 + (i : Int)) % 256]) (n0 + (p.length : Int)) (by simp; omega) (fun q hm => hp q (by simp [hm])) (by omega) (by omega)
    refine Ev_succ ?_
    simp only [laws_heldByteSS.l0, rd_L_nat, mkS, getD_mid]
    rw [w64_succ (show pre.length < pre.length + 1 by omega) (by omega)]
    refine Ev_t (by simp; omega) (Ev_t (by omega) (Ev.bind (heldB p.length hq n0 h0 (by omega)) (Ev_f (by omega) ?_)))
    simp only [List.length_append, List.length_singleton, List.append_assoc, List.singleton_append] at e
    exact e
theorem markDisk_ev (l : List (List Int)) (w : Int) (o : Bool) (t : Int) (hl : l.length ≤ 1048576) (hz : ∀ p ∈ l, p.length ≤ 1048576) : Ev (fun k => laws_markDisk.f k l w o t 1) ((mkS l 1).2, (mkS l 1).1) := by
  have e := markSS_mk l [] 1 (by simpa using hl) hz (by omega) (by omega)
  simp only [laws_markDisk.f, laws_markByteSS.f]
  exact Ev.bind e (Ev.now _)
theorem heldDisk_ev (l : List (List Int)) (w : Int) (o : Bool) (t : Int) (hl : l.length ≤ 1048576) (hz : ∀ p ∈ l, p.length ≤ 1048576) : Ev (fun k => laws_heldDisk.f k (mkS l 1).1 w o t 1) (mkS l 1).2 := by
  have e := heldSS_mk l [] 1 (by simpa using hl) hz (by omega) (by omega)
  have := (mkS_le l 1).1
  simp only [laws_heldDisk.f, laws_heldByteSS.f]
  exact Ev.bind e (Ev_f (by omega) (Ev.now _))

theorem mkS_hi : ∀ (l : List (List Int)) (n : Int), (∀ p ∈ l, p.length ≤ 1048576) → (mkS l n).2 ≤ n + (l.length : Int) * 1048576
  | [], n, _ => by simp [mkS]
  | p :: l, n, h => by
    have h1 := mkS_hi l (n + (p.length : Int)) (fun q hq => h q (by simp [hq]))
    have h2 := h p (by simp)
    simp only [mkS, List.length_cons]
    omega

/-- A write on a disk that is on: whether the power stayed, and the disk. -/
def putB (l : List (List Int)) (w : Int) (o : Bool) (t a : Int) (d : List Int) : Bool × List (List Int) × Int × Bool × Int :=
  if t = 0 then (false, l, w, false, t) else (true, l.set a.toNat d, wrap64 (w + 1), o, if t > 0 then wrap64 (t - 1) else t)
theorem implPut_val (l : List (List Int)) (w : Int) (o : Bool) (t a : Int) (d : List Int) (h0 : 0 ≤ a) (h1 : a < (l.length : Int)) (hd : d.length ≤ 1048576) : impl_Disk_write.f l w o t a d = some (putB l w o t a d) := by
  simp only [impl_Disk_write.f, putB]
  by_cases c : t = 0
  · rw [if_pos c, if_pos c]
  · rw [if_neg c, if_neg c, clone_ev d hd]
    simp only [Option.bind_some]
    rw [if_pos h0, if_pos h1]
    by_cases c2 : t > 0
    · rw [if_pos c2, if_pos c2]
    · rw [if_neg c2, if_neg c2]
theorem specPut_val (l : List (List Int)) (w : Int) (t a : Int) (d : List Int) (h0 : 0 ≤ a) (h1 : a < (l.length : Int)) (hd : d.length ≤ 1048576) : spec_l2Put.f l w true t a d = some (putB l w true t a d) := by
  have hx : ([] : List Int).length + d.length < 140737488355328 := by simp only [List.length_nil]; omega
  simp only [spec_l2Put.f, putB]
  rw [if_pos trivial]
  by_cases c : t = 0
  · rw [if_pos c, if_pos c]
  · rw [if_neg c, if_neg c]
    simp only [Option.bind_some, List.nil_append]
    by_cases c2 : t > 0
    · rw [if_pos c2, if_pos c2, if_pos hx, if_pos h0, if_pos h1]
    · rw [if_neg c2, if_neg c2, if_pos hx, if_pos h0, if_pos h1]
theorem putB_sz (l : List (List Int)) (w : Int) (o : Bool) (t a : Int) (d : List Int) (hl : l.length ≤ 1048576) (hz : ∀ p ∈ l, p.length ≤ 1048576) (hd : d.length ≤ 1048576) : (putB l w o t a d).2.1.length ≤ 1048576 ∧ ∀ p ∈ (putB l w o t a d).2.1, p.length ≤ 1048576 := by
  unfold putB
  split
  · exact ⟨hl, hz⟩
  · refine ⟨by simpa using hl, fun p hp => ?_⟩
    rcases List.mem_or_eq_of_mem_set hp with h | h
    · exact hz p h
    · rw [h]; exact hd

def writeB (l : List (List Int)) (w : Int) (o : Bool) (t a : Int) (d : List Int) : List (List Int) × Int × Bool × Int × Int :=
  if (diskB l w t = true ∧ ¬ w = 1000000000) ∧ d.length = 128 then (if o = true then (if 0 ≤ a ∧ a ≤ (l.length : Int) - 1 then ((putB l w o t a d).2.1, (putB l w o t a d).2.2.1, (putB l w o t a d).2.2.2.1, (putB l w o t a d).2.2.2.2, if (putB l w o t a d).1 = true then 0 else 2) else (l, w, o, t, 3)) else (l, w, o, t, 2)) else ([], 0, false, 0, 1)
theorem specWrite_ev (l : List (List Int)) (w : Int) (o : Bool) (t a : Int) (d : List Int) (hl : l.length ≤ 1048576) (hz : ∀ p ∈ l, p.length ≤ 1048576) (hd : d.length ≤ 1048576) : Ev (fun k => spec_WriteBlock.f k l w o t a d) (writeB l w o t a d) := by
  have hj : ∀ c : Bool, (c = true → ¬ ((diskB l w t = true ∧ ¬ w = 1000000000) ∧ d.length = 128)) → (c = false → ((diskB l w t = true ∧ ¬ w = 1000000000) ∧ d.length = 128)) → Ev (fun k => spec_WriteBlock.j0 k a d c l w o t) (writeB l w o t a d) := by
    intro c h1 h2
    refine Ev_succ ?_
    simp only [spec_WriteBlock.j0, l1In_eq, Option.bind_some, decide_eq_true_eq]
    refine Ev_ite (fun h => Ev_eq (Ev.now _) (by rw [writeB, if_neg (h1 h)])) (fun h => Ev.bind (specOwn_ev l w o t hl hz) ?_)
    have hc := h2 (by simpa using h)
    unfold writeB
    simp only [if_pos hc]
    refine Ev_ite (fun h3 => ?_) (fun h3 => Ev_eq (Ev.now _) (by rw [if_neg h3]))
    rw [if_pos h3, w64 (n := (l.length : Int) - 1) (by omega) (by omega)]
    refine Ev_ite (fun h4 => ?_) (fun h4 => Ev_eq (Ev.now _) (by rw [if_neg h4]))
    rw [if_pos h4]
    have h3' : o = true := h3
    subst h3'
    refine Ev_bind0 (specPut_val l w t a d h4.1 (by omega) hd) ?_
    refine Ev_ite (fun h5 => Ev_eq (Ev.now _) (by simp only [h5, if_true])) (fun h5 => Ev_eq (Ev.now _) (by rw [if_neg h5]))
  simp only [spec_WriteBlock.f]
  refine Ev.bind (specGoodDisk_ev l w o t hl) (Ev_ite (fun h => ?_) (fun h => hj _ (fun _ h2 => h h2.1.1) (fun h1 => by cases h1)))
  refine Ev_ite (fun h3 => hj _ (fun _ h2 => h2.1.2 h3) (fun h1 => by cases h1)) (fun h3 => hj _ (fun h1 h2 => ?_) (fun h1 => ⟨⟨h, h3⟩, ?_⟩))
  · have h1' : ¬ (d.length : Int) = 128 := by simpa using h1
    omega
  · have h1' : (d.length : Int) = 128 := by simpa using h1
    omega
theorem implWrite_ev (l : List (List Int)) (w : Int) (o : Bool) (t a : Int) (d : List Int) (hl : l.length ≤ 1048576) (hz : ∀ p ∈ l, p.length ≤ 1048576) (hd : d.length ≤ 1048576) : Ev (fun k => impl_WriteBlock.f k l w o t a d) (writeB l w o t a d) := by
  have hj : ∀ c : Bool, (c = true → ¬ ((diskB l w t = true ∧ ¬ w = 1000000000) ∧ d.length = 128)) → (c = false → ((diskB l w t = true ∧ ¬ w = 1000000000) ∧ d.length = 128)) → Ev (fun k => impl_WriteBlock.j0 k a d c l w o t) (writeB l w o t a d) := by
    intro c h1 h2
    refine Ev_succ ?_
    simp only [impl_WriteBlock.j0, impl_Disk_has.f, within_eq, Option.bind_some, decide_eq_true_eq]
    refine Ev_ite (fun h => Ev_eq (Ev.now _) (by rw [writeB, if_neg (h1 h)])) (fun h => ?_)
    have hc := h2 (by simpa using h)
    unfold writeB
    simp only [if_pos hc]
    refine Ev_ite (fun h3 => ?_) (fun h3 => Ev.bind (copied_ev l w o t hl hz) (Ev_eq (Ev.now _) (by rw [if_neg h3])))
    rw [if_pos h3, w64 (n := (l.length : Int) - 1) (by omega) (by omega)]
    refine Ev_ite (fun h4 => ?_) (fun h4 => Ev.bind (copied_ev l w o t hl hz) (Ev_eq (Ev.now _) (by rw [if_neg h4])))
    rw [if_pos h4]
    refine Ev.bind (copied_ev l w o t hl hz) (Ev_bind0 (implPut_val l w o t a d h4.1 (by omega) hd) ?_)
    refine Ev_ite (fun h5 => Ev_eq (Ev.now _) (by simp only [h5, if_true])) (fun h5 => Ev_eq (Ev.now _) (by rw [if_neg h5]))
  simp only [impl_WriteBlock.f]
  refine Ev.bind (implGoodDisk_ev l w o t hl) (Ev_ite (fun h => ?_) (fun h => hj _ (fun _ h2 => h h2.1.1) (fun h1 => by cases h1)))
  refine Ev_ite (fun h3 => hj _ (fun _ h2 => h2.1.2 h3) (fun h1 => by cases h1)) (fun h3 => hj _ (fun h1 h2 => ?_) (fun h1 => ⟨⟨h, h3⟩, ?_⟩))
  · have h1' : ¬ (d.length : Int) = 128 := by simpa using h1
    omega
  · have h1' : (d.length : Int) = 128 := by simpa using h1
    omega
theorem writeB_sz (l : List (List Int)) (w : Int) (o : Bool) (t a : Int) (d : List Int) (hl : l.length ≤ 1048576) (hz : ∀ p ∈ l, p.length ≤ 1048576) (hd : d.length ≤ 1048576) : (writeB l w o t a d).1.length ≤ 1048576 ∧ ∀ p ∈ (writeB l w o t a d).1, p.length ≤ 1048576 := by
  obtain ⟨h1, h2⟩ := putB_sz l w o t a d hl hz hd
  unfold writeB
  split
  · split
    · split
      · exact ⟨h1, h2⟩
      · exact ⟨hl, hz⟩
    · exact ⟨hl, hz⟩
  · simp
end OfFnExactWriteBlock
open OfFnExactWriteBlock
theorem FnExactWriteBlock : Stated := by
  intro l w o t a d wl _ _ _ _ _
  refine Ev.rounds ?_
  simp only [laws_FnExactWriteBlock.f]
  refine Ev_ite (fun _ => Ev.now _) (fun hd0 => ?_)
  have hd : d.length ≤ 1048576 := by omega
  obtain ⟨r, h1, _, h3⟩ := szDisk_ev l w o t ⟨wl.1, fun p hp => (wl.2 p hp).1⟩ 1048576 (by omega) (by omega)
  refine Ev.bind h1 (Ev_ite (fun _ => Ev.now _) (fun c => ?_))
  obtain ⟨hl, hz⟩ := h3 (by omega)
  have f1 := toDisk_ev l w o t hl hz
  have f2 := toByteS_ev d hd
  have p := specWrite_ev l w o t a d hl hz hd
  have q := implWrite_ev l w o t a d hl hz hd
  obtain ⟨ha, hb⟩ := writeB_sz l w o t a d hl hz hd
  generalize writeB l w o t a d = R at p q ha hb
  obtain ⟨l', w', o', t', c'⟩ := R
  simp only at ha hb
  have ee := eqDisk_ev l' w' o' t' ha hb
  have em := markDisk_ev l w o t hl hz
  have em2 := markDisk_ev l' w' o' t' ha hb
  have eh := heldDisk_ev l' w' o' t' ha hb
  have hn := (mkS_le l 1).1
  have hn2 := (mkS_le l' 1).1
  have hi := mkS_hi l 1 hz
  have eb := markB d hd (mkS l 1).2 (by omega) (by omega)
  refine Ev.bind f1 (Ev.bind f2 (Ev.bind p (Ev.bind f1 (Ev.bind f2 (Ev.bind q (Ev.bind ee (Ev_t rfl (Ev_succ ?_))))))))
  simp only [laws_FnExactWriteBlock.j0]
  refine Ev_f (by simp) (Ev.bind f1 (Ev.bind (eqDisk_ev l w o t hl hz) (Ev_t rfl (Ev.bind f2 (Ev.bind (eqByteS_ev d (by omega)) (Ev_t rfl (Ev.bind em (Ev.bind eb (Ev_f (by simp only; omega) (Ev.bind ee (Ev_t rfl (Ev_succ ?_))))))))))))
  simp only [laws_FnExactWriteBlock.j1]
  refine Ev_f (by simp) (Ev.bind em2 (Ev.bind eh (Ev_f (by omega) (Ev_t rfl (Ev.bind f1 (Ev.bind f2 (Ev.bind q (Ev.bind ee (Ev_t rfl (Ev_succ ?_))))))))))
  simp only [laws_FnExactWriteBlock.j2]
  exact Ev_f (by simp) (Ev.bind eh (Ev_f (by omega) (Ev_t rfl (Ev.now _))))
end Go.Proofs.Ythbbcnjnbfhcbaa.Pure
