/-
The pure statement of FnExactGoodGroup: the printed functions of the program and of the reference answer alike for every argument within the bounds that the statement tells.
-/
import Derived.Test.YtfjboeeogjepeaaWfFnExactGoodGroup
namespace Go.Proofs.Ytfjboeeogjepeaa.Pure
open Go Go.RowKit Go.Proofs.Ytfjboeeogjepeaa.PFnExactGoodGroup Go.Proofs.YtfjboeeogjepeaaW.PrintWords Go.Proofs.YtfjboeeogjepeaaW.PrintLast Go.Proofs.YtfjboeeogjepeaaW.PrintMore Go.Proofs.Ytfjboeeogjepeaa.Lib
set_option linter.unusedVariables false
set_option linter.unusedSimpArgs false
namespace OfFnExactGoodGroup
theorem within_eq (a b c : Int) : impl_within.f a b c = some (decide (b ≤ a ∧ a ≤ c)) := by
  simp only [impl_within.f]
  by_cases h : b ≤ a <;> simp [h]

theorem l1In_eq (a b c : Int) : spec_l1In.f a b c = some (decide (b ≤ a ∧ a ≤ c)) := by
  simp only [spec_l1In.f]
  by_cases h : b ≤ a <;> simp [h]

theorem toByteS_ev (l : List Int) (hl : l.length ≤ 1048576) : Ev (fun k => laws_toByteS.f k l) l := by
  have h := fill_ev (g := fun k x i => laws_toByteS.l0 k l x i) l 0 (fun x => x)
    (fun x i hx hi hr => Ev_succ (by
      simp only [laws_toByteS.l0]
      refine Ev_t (by omega) (Ev_t (by omega) (Ev_t (by omega) ?_))
      rw [w64_succ hi (by omega)]
      simpa [rd_nat] using hr))
    (fun x hx => Ev_succ (by simp only [laws_toByteS.l0]; exact Ev_f (by omega) (Ev.now _)))
    (List.replicate l.length 0) (by simp)
  rw [map_same] at h
  refine Ev.congr (fun k => ?_) h
  simp only [laws_toByteS.f]
  rw [if_pos (by omega), if_pos (by simp; omega)]
  simp

theorem eqByteS_ev (l : List Int) (hl : l.length ≤ 4611686018427387904) : Ev (fun k => laws_eqByteS.f k l l) true := by
  have h := all_ev (g := fun k i => laws_eqByteS.l0 k l l i) (r := true) l.length
    (fun i hi hr => Ev_succ (by
      simp only [laws_eqByteS.l0]
      refine Ev_t (by omega) (Ev_t (by omega) (Ev_t (by omega) (Ev_t trivial ?_)))
      rw [w64_succ hi (by omega)]; exact hr))
    (Ev_succ (by simp only [laws_eqByteS.l0]; exact Ev_f (by omega) (Ev.now _)))
  refine Ev.congr (fun k => ?_) h
  simp only [laws_eqByteS.f]; rw [if_pos trivial]

theorem rd_L_nat (xs : List (List Int)) (i : Nat) : rd_L2 xs (i : Int) = xs.getD i [] := by simp [rd_L2]
theorem szByteS_val (l : List Int) (hl : l.length ≤ maxLen) (n : Int) (h0 : 0 ≤ n) (h1 : n ≤ 1048576) : ∃ r, laws_szByteS.f l n = some r ∧ r ≤ n ∧ (0 ≤ r → l.length ≤ 1048576) := by
  have hl0 : (l.length : Int) ≤ 9223372036854775807 := by simp only [maxLen] at hl; omega
  simp only [laws_szByteS.f]
  rw [w64 (n := n - (l.length : Int)) (by omega) (by omega)]
  by_cases c : n - (l.length : Int) < 0
  · exact ⟨-1, if_pos c, by omega, fun h => by omega⟩
  · exact ⟨n - (l.length : Int), if_neg c, by omega, fun h => by omega⟩
theorem szByteSS_loop (l : List (List Int)) (hw : ∀ p ∈ l, p.length ≤ maxLen) (hl : l.length ≤ 1048576) : ∀ (m i : Nat) (x : Int), i + m = l.length → 0 ≤ x → x ≤ 1048576 →
    ∃ r, Ev (fun k => laws_szByteSS.l0 k l x (i : Int)) r ∧ r ≤ x ∧ (0 ≤ r → ∀ j, i ≤ j → j < l.length → (l.getD j []).length ≤ 1048576) := by
  intro m
  induction m with
  | zero =>
    intro i x hi h0 h1
    refine ⟨x, Ev_succ ?_, by omega, fun _ j h2 h3 => by omega⟩
    simp only [laws_szByteSS.l0]; exact Ev_f (by omega) (Ev.now _)
  | succ m ih =>
    intro i x hi h0 h1
    have hp := hw _ (getD_mem (xs := l) (i := i) [] (by omega))
    obtain ⟨r0, e, e1, e2⟩ := szByteS_val _ hp x h0 h1
    by_cases c : r0 < 0
    · refine ⟨-1, Ev_succ ?_, by omega, fun h => by omega⟩
      simp only [laws_szByteSS.l0, rd_L_nat]
      exact Ev_t (by omega) (Ev_t (by omega) (Ev_bind0 e (Ev_t c (Ev.now _))))
    · obtain ⟨r, h2, h3, h4⟩ := ih (i + 1) r0 (by omega) (by omega) (by omega)
      refine ⟨r, Ev_succ ?_, by omega, fun h j h5 h6 => ?_⟩
      · simp only [laws_szByteSS.l0, rd_L_nat]
        rw [w64_succ (show i < l.length by omega) (by omega)]
        exact Ev_t (by omega) (Ev_t (by omega) (Ev_bind0 e (Ev_f c h2)))
      · by_cases h7 : j = i
        · subst h7; exact e2 (by omega)
        · exact h4 h j (by omega) h6
theorem szByteSS_ev (l : List (List Int)) (hw : l.length ≤ maxLen ∧ ∀ p ∈ l, p.length ≤ maxLen) (n : Int) (hn : 0 ≤ n) (hn' : n ≤ 1048576) : ∃ r, Ev (fun k => laws_szByteSS.f k l n) r ∧ r ≤ n ∧ (0 ≤ r → l.length ≤ 1048576 ∧ ∀ p ∈ l, p.length ≤ 1048576) := by
  have hl0 : (l.length : Int) ≤ 9223372036854775807 := by have := hw.1; simp only [maxLen] at this; omega
  have e : wrap64 (n - (l.length : Int)) = n - (l.length : Int) := w64 (by omega) (by omega)
  simp only [laws_szByteSS.f, e]
  by_cases c : n - (l.length : Int) < 0
  · exact ⟨-1, Ev_t c (Ev.now _), by omega, fun h => by omega⟩
  · obtain ⟨r, h1, h2, h3⟩ := szByteSS_loop l hw.2 (by omega) l.length 0 (n - (l.length : Int)) (by omega) (by omega) (by omega)
    refine ⟨r, Ev_f c h1, by omega, fun h => ⟨by omega, fun p hp => ?_⟩⟩
    obtain ⟨j, hj, rfl⟩ := List.mem_iff_getElem.1 hp
    have := h3 h j (by omega) hj
    simpa [List.getD, hj] using this
theorem toByteSS_ev (l : List (List Int)) (hl : l.length ≤ 1048576) (hz : ∀ p ∈ l, p.length ≤ 1048576) : Ev (fun k => laws_toByteSS.f k l) l := by
  have h := fill_ev (g := fun k x i => laws_toByteSS.l0 k l x i) l [] (fun x => x)
    (fun x i hx hi hr => Ev_succ (by
      simp only [laws_toByteSS.l0, rd_L_nat]
      refine Ev_t (by omega) (Ev_t (by omega) (Ev.bind (toByteS_ev _ (hz _ (getD_mem [] hi))) (Ev_t (by omega) ?_)))
      rw [w64_succ hi (by omega)]
      simpa using hr))
    (fun x hx => Ev_succ (by simp only [laws_toByteSS.l0]; exact Ev_f (by omega) (Ev.now _)))
    (List.replicate l.length []) (by simp)
  rw [map_same] at h
  refine Ev.congr (fun k => ?_) h
  simp only [laws_toByteSS.f]
  rw [if_pos (by omega), if_pos (by simp; omega)]
  simp
theorem eqByteSS_ev (l : List (List Int)) (hl : l.length ≤ 1048576) (hz : ∀ p ∈ l, p.length ≤ 1048576) : Ev (fun k => laws_eqByteSS.f k l l) true := by
  have h := all_ev (g := fun k i => laws_eqByteSS.l0 k l l i) (r := true) l.length
    (fun i hi hr => Ev_succ (by
      simp only [laws_eqByteSS.l0, rd_L_nat]
      refine Ev_t (by omega) (Ev_t (by omega) (Ev_t (by omega) (Ev.bind (eqByteS_ev _ (by have := hz _ (getD_mem [] hi); omega)) (Ev_t rfl ?_))))
      rw [w64_succ hi (by omega)]; exact hr))
    (Ev_succ (by simp only [laws_eqByteSS.l0]; exact Ev_f (by omega) (Ev.now _)))
  refine Ev.congr (fun k => ?_) h
  simp only [laws_eqByteSS.f]; rw [if_pos trivial]

def blocksB (l : List (List Int)) : Bool := decide (40 ≤ l.length ∧ l.length ≤ 160) && l.all (fun b => decide (b.length = 128))
theorem indexFunc_loop (l : List (List Int)) (hl : l.length ≤ 1048576) : ∀ (m i : Nat), i + m = l.length → ∃ r : Int, Ev (fun k => slices_IndexFunc_byte_byte.l0 k l (l.length : Int) (i : Int)) r ∧ (0 ≤ r ↔ ¬ ((l.drop i).all (fun b => decide (b.length = 128)) = true)) := by
  intro m
  induction m with
  | zero =>
    intro i hi
    refine ⟨-1, Ev_succ ?_, ?_⟩
    · simp only [slices_IndexFunc_byte_byte.l0]; exact Ev_f (by omega) (Ev.now _)
    · rw [List.drop_of_length_le (by omega)]; simp
  | succ m ih =>
    intro i hi
    have hd := drop_cons l i [] (by omega)
    obtain ⟨r, h1, h2⟩ := ih (i + 1) (by omega)
    by_cases c : (l.getD i []).length = 128
    · refine ⟨r, Ev_succ ?_, ?_⟩
      · simp only [slices_IndexFunc_byte_byte.l0, rd_L_nat, impl_areBlocks_1.f, Option.bind_some]
        rw [w64_succ (show i < l.length by omega) (by omega)]
        exact Ev_t (by omega) (Ev_t (by omega) (Ev_t (by omega) (Ev_f (by rw [c]; decide) h1)))
      · rw [hd, h2, List.all_cons, c]; simp
    · refine ⟨(i : Int), Ev_succ ?_, ?_⟩
      · simp only [slices_IndexFunc_byte_byte.l0, rd_L_nat, impl_areBlocks_1.f, Option.bind_some]
        exact Ev_t (by omega) (Ev_t (by omega) (Ev_t (by omega) (Ev_t (by simp only [bne_iff_ne]; omega) (Ev.now _))))
      · rw [hd, List.all_cons]; simp only [c, decide_false, Bool.false_and, Bool.false_eq_true, not_false_eq_true, iff_true]; omega
theorem areBlocks_ev (l : List (List Int)) (hl : l.length ≤ 1048576) : Ev (fun k => impl_areBlocks.f k l) (blocksB l) := by
  simp only [impl_areBlocks.f, within_eq, Option.bind_some, decide_eq_true_eq]
  by_cases c : (40 : Int) ≤ (l.length : Int) ∧ (l.length : Int) ≤ 160
  · obtain ⟨r, h1, h2⟩ := indexFunc_loop l hl l.length 0 (by omega)
    refine Ev_t c (Ev.bind (a := decide (r ≥ 0)) ?_ (Ev_eq (Ev.now _) ?_))
    · simp only [slices_ContainsFunc_byte_byte.f, slices_IndexFunc_byte_byte.f]
      exact Ev.bind h1 (Ev.now _)
    · rw [List.drop_zero] at h2
      have c' : 40 ≤ l.length ∧ l.length ≤ 160 := by omega
      simp only [blocksB, c', and_self, decide_true, Bool.true_and]
      cases hh : l.all (fun b => decide (b.length = 128)) with
      | true => simp only [hh, not_true, iff_false] at h2; simp; omega
      | false => simp only [hh] at h2; have : 0 ≤ r := h2.2 (by simp); simp [this]
  · refine Ev_f c (Ev_eq (Ev.now _) ?_)
    have c' : ¬ (40 ≤ l.length ∧ l.length ≤ 160) := by omega
    simp only [blocksB, c', decide_false, Bool.false_and]
def diskB (l : List (List Int)) (w : Int) (t : Int) : Bool := blocksB l && (decide (0 ≤ w ∧ w ≤ 1000000000) && decide (-1 ≤ t ∧ t ≤ 1000000))
theorem implGoodDisk_ev (l : List (List Int)) (w : Int) (o : Bool) (t : Int) (hl : l.length ≤ 1048576) : Ev (fun k => impl_GoodDisk.f k l w o t) (diskB l w t) := by
  simp only [impl_GoodDisk.f, within_eq, Option.bind_some, decide_eq_true_eq]
  refine Ev.bind (areBlocks_ev l hl) ?_
  cases hb : blocksB l with
  | false => exact Ev_f (by decide) (Ev_eq (Ev.now _) (by simp [diskB, hb]))
  | true =>
    refine Ev_t rfl (Ev_ite (fun h => Ev_eq (Ev.now _) (by simp [diskB, hb, h])) (fun h => Ev_eq (Ev.now _) (by simp only [diskB, hb, h, decide_false, Bool.false_and, Bool.and_false])))
theorem specGoodDisk_loop (l : List (List Int)) (hl : l.length ≤ 1048576) : ∀ (m i : Nat), i + m = l.length → Ev (fun k => spec_GoodDisk.l0 k l (l.length : Int) (i : Int)) ((l.drop i).all (fun b => decide (b.length = 128))) := by
  intro m
  induction m with
  | zero =>
    intro i hi
    refine Ev_succ ?_
    simp only [spec_GoodDisk.l0]
    rw [List.drop_of_length_le (by omega)]
    exact Ev_f (by omega) (Ev.now _)
  | succ m ih =>
    intro i hi
    have hd := drop_cons l i [] (by omega)
    refine Ev_succ ?_
    simp only [spec_GoodDisk.l0, rd_L_nat]
    rw [w64_succ (show i < l.length by omega) (by omega), hd, List.all_cons]
    refine Ev_t (by omega) (Ev_t (by omega) (Ev_t (by omega) (Ev_ite (fun h => Ev_eq (ih (i + 1) (by omega)) ?_) (fun h => Ev_eq (Ev.now _) ?_))))
    · have h' : (l.getD i []).length = 128 := by omega
      simp only [h', decide_true, Bool.true_and]
    · have h' : ¬ (l.getD i []).length = 128 := by omega
      simp only [h', decide_false, Bool.false_and]
theorem specGoodDisk_ev (l : List (List Int)) (w : Int) (o : Bool) (t : Int) (hl : l.length ≤ 1048576) : Ev (fun k => spec_GoodDisk.f k l w o t) (diskB l w t) := by
  simp only [spec_GoodDisk.f, l1In_eq, Option.bind_some, decide_eq_true_eq]
  have hf : ∀ b : Bool, b = true → diskB l w t = false → Ev (fun k => spec_GoodDisk.j0 k b l w o t) (diskB l w t) := by
    intro b hb hd
    refine Ev_succ ?_
    simp only [spec_GoodDisk.j0]
    exact Ev_t hb (Ev_eq (Ev.now _) hd.symm)
  by_cases c1 : (40 : Int) ≤ (l.length : Int) ∧ (l.length : Int) ≤ 160
  · have c1' : 40 ≤ l.length ∧ l.length ≤ 160 := by omega
    refine Ev_t c1 ?_
    by_cases c2 : 0 ≤ w ∧ w ≤ 1000000000
    · refine Ev_t c2 ?_
      by_cases c3 : -1 ≤ t ∧ t ≤ 1000000
      · refine Ev_succ ?_
        simp only [spec_GoodDisk.j0]
        have h := specGoodDisk_loop l hl l.length 0 (by omega)
        rw [List.drop_zero] at h
        exact Ev_f (by simp [c3]) (Ev_eq h (by simp only [diskB, blocksB, c1', c2, c3, and_self, decide_true, Bool.true_and, Bool.and_true]))
      · exact hf _ (by simp only [c3, decide_false, Bool.not_false]) (by simp only [diskB, c3, decide_false, Bool.and_false])
    · refine Ev_f c2 (hf _ rfl (by simp only [diskB, c2, decide_false, Bool.false_and, Bool.and_false]))
  · refine Ev_f c1 (hf _ rfl ?_)
    have c1' : ¬ (40 ≤ l.length ∧ l.length ≤ 160) := by omega
    simp only [diskB, blocksB, c1', decide_false, Bool.false_and]

theorem szDisk_ev (l : List (List Int)) (w : Int) (o : Bool) (t : Int) (hw : l.length ≤ maxLen ∧ ∀ p ∈ l, p.length ≤ maxLen) (n : Int) (hn : 0 ≤ n) (hn' : n ≤ 1048576) : ∃ r, Ev (fun k => laws_szDisk.f k l w o t n) r ∧ r ≤ n ∧ (0 ≤ r → l.length ≤ 1048576 ∧ ∀ p ∈ l, p.length ≤ 1048576) := by
  obtain ⟨r, h1, h2, h3⟩ := szByteSS_ev l hw n hn hn'
  simp only [laws_szDisk.f]
  by_cases c : r < 0
  · exact ⟨-1, Ev.bind h1 (Ev_t c (Ev.now _)), by omega, fun h => by omega⟩
  · exact ⟨r, Ev.bind h1 (Ev_f c (Ev.now _)), h2, h3⟩
theorem toDisk_ev (l : List (List Int)) (w : Int) (o : Bool) (t : Int) (hl : l.length ≤ 1048576) (hz : ∀ p ∈ l, p.length ≤ 1048576) : Ev (fun k => laws_toDisk.f k l w o t) (l, w, o, t) := by
  simp only [laws_toDisk.f]
  exact Ev.bind (toByteSS_ev l hl hz) (Ev.now _)
theorem eqDisk_ev (l : List (List Int)) (w : Int) (o : Bool) (t : Int) (hl : l.length ≤ 1048576) (hz : ∀ p ∈ l, p.length ≤ 1048576) : Ev (fun k => laws_eqDisk.f k l w o t l w o t) true := by
  simp only [laws_eqDisk.f]
  exact Ev.bind (eqByteSS_ev l hl hz) (Ev_t rfl (Ev_t trivial (Ev_f (by simp) (Ev_t trivial (Ev.now _)))))

theorem rd_T61_nat (xs : List S61) (i : Nat) : rd_T61 xs (i : Int) = xs.getD i z61 := by simp [rd_T61]
theorem rd_T59_nat (xs : List S59) (i : Nat) : rd_T59 xs (i : Int) = xs.getD i z59 := by simp [rd_T59]
def imw (p : S61) : S59 := ⟨p.f0, p.f1⟩
theorem szWriteS_loop (l : List S61) (hw : ∀ p ∈ l, p.f1.length ≤ maxLen) (hl : l.length ≤ 1048576) : ∀ (m i : Nat) (x : Int), i + m = l.length → 0 ≤ x → x ≤ 1048576 →
    ∃ r, Ev (fun k => laws_szWriteS.l0 k l x (i : Int)) r ∧ r ≤ x ∧ (0 ≤ r → ∀ j, i ≤ j → j < l.length → (l.getD j z61).f1.length ≤ 1048576) := by
  intro m
  induction m with
  | zero =>
    intro i x hi h0 h1
    refine ⟨x, Ev_succ ?_, by omega, fun _ j h2 h3 => by omega⟩
    simp only [laws_szWriteS.l0]; exact Ev_f (by omega) (Ev.now _)
  | succ m ih =>
    intro i x hi h0 h1
    have hp := hw _ (getD_mem (xs := l) (i := i) z61 (by omega))
    obtain ⟨r0, e, e1, e2⟩ := szByteS_val _ hp x h0 h1
    by_cases c : r0 < 0
    · refine ⟨-1, Ev_succ ?_, by omega, fun h => by omega⟩
      simp only [laws_szWriteS.l0, laws_szWrite.f, rd_T61_nat]
      exact Ev_t (by omega) (Ev_t (by omega) (Ev.bind (a := -1) (Ev_bind0 e (Ev_t c (Ev.now _))) (Ev_t (by decide) (Ev.now _))))
    · obtain ⟨r, h2, h3, h4⟩ := ih (i + 1) r0 (by omega) (by omega) (by omega)
      refine ⟨r, Ev_succ ?_, by omega, fun h j h5 h6 => ?_⟩
      · simp only [laws_szWriteS.l0, laws_szWrite.f, rd_T61_nat]
        rw [w64_succ (show i < l.length by omega) (by omega)]
        exact Ev_t (by omega) (Ev_t (by omega) (Ev.bind (a := r0) (Ev_bind0 e (Ev_f c (Ev.now _))) (Ev_f c h2)))
      · by_cases h7 : j = i
        · subst h7; exact e2 (by omega)
        · exact h4 h j (by omega) h6
theorem szWriteS_ev (l : List S61) (hw : l.length ≤ maxLen ∧ ∀ p ∈ l, p.f1.length ≤ maxLen) (n : Int) (hn : 0 ≤ n) (hn' : n ≤ 1048576) : ∃ r, Ev (fun k => laws_szWriteS.f k l n) r ∧ r ≤ n ∧ (0 ≤ r → l.length ≤ 1048576 ∧ ∀ p ∈ l, p.f1.length ≤ 1048576) := by
  have hl0 : (l.length : Int) ≤ 9223372036854775807 := by have := hw.1; simp only [maxLen] at this; omega
  have e : wrap64 (n - (l.length : Int)) = n - (l.length : Int) := w64 (by omega) (by omega)
  simp only [laws_szWriteS.f, e]
  by_cases c : n - (l.length : Int) < 0
  · exact ⟨-1, Ev_t c (Ev.now _), by omega, fun h => by omega⟩
  · obtain ⟨r, h1, h2, h3⟩ := szWriteS_loop l hw.2 (by omega) l.length 0 (n - (l.length : Int)) (by omega) (by omega) (by omega)
    refine ⟨r, Ev_f c h1, by omega, fun h => ⟨by omega, fun p hp => ?_⟩⟩
    obtain ⟨j, hj, rfl⟩ := List.mem_iff_getElem.1 hp
    have := h3 h j (by omega) hj
    simpa [List.getD, hj] using this
theorem toWriteS_ev (l : List S61) (hl : l.length ≤ 1048576) (hz : ∀ p ∈ l, p.f1.length ≤ 1048576) : Ev (fun k => laws_toWriteS.f k l) (l.map imw) := by
  have h := fill_ev (g := fun k x i => laws_toWriteS.l0 k l x i) l z61 imw
    (fun x i hx hi hr => Ev_succ (by
      simp only [laws_toWriteS.l0, laws_toWrite.f, rd_T61_nat]
      refine Ev_t (by omega) (Ev_t (by omega) (Ev.bind (a := ((l.getD i z61).f0, (l.getD i z61).f1)) (Ev.bind (toByteS_ev _ (hz _ (getD_mem z61 hi))) (Ev.now _)) (Ev_t (by omega) ?_)))
      rw [w64_succ hi (by omega)]
      simpa [imw] using hr))
    (fun x hx => Ev_succ (by simp only [laws_toWriteS.l0]; exact Ev_f (by omega) (Ev.now _)))
    (List.replicate l.length z59) (by simp)
  refine Ev.congr (fun k => ?_) h
  simp only [laws_toWriteS.f]
  rw [if_pos (by omega), if_pos (by simp; omega)]
  simp
theorem eqWriteS_ev (l : List S59) (hl : l.length ≤ 1048576) (hz : ∀ p ∈ l, p.f1.length ≤ 1048576) : Ev (fun k => laws_eqWriteS.f k l l) true := by
  have h := all_ev (g := fun k i => laws_eqWriteS.l0 k l l i) (r := true) l.length
    (fun i hi hr => Ev_succ (by
      simp only [laws_eqWriteS.l0, laws_eqWrite.f, rd_T59_nat, if_true]
      refine Ev_t (by omega) (Ev_t (by omega) (Ev_t (by omega) (Ev.bind (a := true) (Ev.bind (eqByteS_ev _ (by have := hz _ (getD_mem z59 hi); omega)) (Ev_t rfl (Ev.now _))) (Ev_t rfl ?_))))
      rw [w64_succ hi (by omega)]; exact hr))
    (Ev_succ (by simp only [laws_eqWriteS.l0]; exact Ev_f (by omega) (Ev.now _)))
  refine Ev.congr (fun k => ?_) h
  simp only [laws_eqWriteS.f]; rw [if_pos trivial]

def okAt (N at_ : Int) : Bool := decide (at_ = 0 ∨ at_ = 1 ∨ (33 ≤ at_ ∧ at_ ≤ N - 1))
def gB (N : Int) : Int → List S59 → Bool
  | _, [] => true
  | q, p :: c => okAt N p.f0 && (decide (p.f1.length = 128) && (decide (q < p.f0) && gB N p.f0 c))
def lastAt : Int → List S59 → Int
  | q, [] => q
  | _, p :: c => lastAt p.f0 c
theorem gB_rise (N : Int) : ∀ (c : List S59) (q : Int), gB N q c = true → q ≤ lastAt q c := by
  intro c
  induction c with
  | nil => intro q _; exact Int.le_refl _
  | cons p c ih =>
    intro q h
    simp only [gB, Bool.and_eq_true, decide_eq_true_eq] at h
    have := ih p.f0 h.2.2.2
    simp only [lastAt]; omega
theorem okAt_both (a N : Int) (h0 : 40 ≤ N) (h1 : N ≤ 160) : okAt N a = (okAt 160 a && decide (a ≤ N - 1)) := by
  rw [Bool.eq_iff_iff]
  simp only [okAt, Bool.and_eq_true, decide_eq_true_eq]
  omega
theorem gB_both (N : Int) (h0 : 40 ≤ N) (h1 : N ≤ 160) : ∀ (c : List S59) (q : Int), c ≠ [] → gB N q c = (gB 160 q c && decide (lastAt q c ≤ N - 1)) := by
  intro c
  induction c with
  | nil => intro q h; exact absurd rfl h
  | cons p c ih =>
    intro q _
    simp only [gB, lastAt]
    rcases List.eq_nil_or_concat c with rfl | ⟨c', x, rfl⟩
    · simp only [gB, lastAt, Bool.and_true]
      rw [okAt_both p.f0 N h0 h1]
      generalize okAt 160 p.f0 = A
      generalize decide (p.f1.length = 128) = C
      generalize decide (q < p.f0) = D
      by_cases d : p.f0 ≤ N - 1
      · simp only [d, decide_true]; cases A <;> cases C <;> cases D <;> rfl
      · simp only [d, decide_false]; cases A <;> cases C <;> cases D <;> rfl
    · have hne : c'.concat x ≠ [] := by simp
      rw [ih p.f0 hne]
      cases hg : gB 160 p.f0 (c'.concat x) with
      | false => simp only [Bool.false_and, Bool.and_false]
      | true =>
        have hr := gB_rise 160 _ _ hg
        by_cases d : lastAt p.f0 (c'.concat x) ≤ N - 1
        · simp only [d, decide_true, Bool.and_true, Bool.true_and]
          have h3 : decide (p.f0 ≤ N - 1) = true := by simp only [decide_eq_true_eq]; omega
          rw [okAt_both p.f0 N h0 h1, h3, Bool.and_true]
        · simp only [d, decide_false, Bool.and_false]
theorem l4At_eq (a N : Int) (h0 : 0 ≤ N) (h1 : N ≤ 1000) : spec_l4At.f a N = some (okAt N a) := by
  have e : wrap64 (N - 1) = N - 1 := w64 (by omega) (by omega)
  simp only [spec_l4At.f, l1In_eq, e, Option.bind_some, okAt]
  by_cases c0 : a = 0
  · simp [c0]
  · by_cases c1 : a = 1
    · simp [c1]
    · rw [if_neg c0, if_neg c1]; simp [c0, c1]
theorem specGroup_loop (l : List S59) (N : Int) (h0 : 0 ≤ N) (h1 : N ≤ 1000) (hl : l.length ≤ 1048576) : ∀ (m i : Nat) (q : Int), i + m = l.length → (i = 0 → q = -1) → (0 < i → q = (rd_T59 l ((i : Int) - 1)).f0) →
    Ev (fun k => spec_l4Group.l0 k l N l (l.length : Int) (i : Int)) (gB N q (l.drop i)) := by
  intro m
  induction m with
  | zero =>
    intro i q hi _ _
    refine Ev_succ ?_
    simp only [spec_l4Group.l0]
    rw [List.drop_of_length_le (by omega)]
    exact Ev_f (by omega) (Ev.now _)
  | succ m ih =>
    intro i q hi hq0 hq1
    have hd := drop_cons l i z59 (by omega)
    have e1 : wrap64 ((i : Int) - 1) = (i : Int) - 1 := w64 (by omega) (by omega)
    have hrd := rd_T59_nat l i
    have hI := ih (i + 1) (rd_T59 l (i : Int)).f0 (by omega) (by omega) (fun _ => by congr 2; omega)
    rw [hd]
    rw [← hrd]
    simp only [gB]
    refine Ev_succ ?_
    simp only [spec_l4Group.l0, l4At_eq _ N h0 h1, Option.bind_some, e1]
    rw [w64_succ (show i < l.length by omega) (by omega)]
    generalize rd_T59 l (i : Int) = p at hI ⊢
    refine Ev_t (by omega) (Ev_t (by omega) (Ev_t (by omega) ?_))
    cases ha : okAt N p.f0 with
    | false => exact Ev_f (by decide) (Ev_eq (Ev.now _) (by simp))
    | true =>
      have hp0 : 0 ≤ p.f0 := by simp only [okAt, decide_eq_true_eq] at ha; omega
      refine Ev_t rfl (Ev_ite (fun hlen => ?_) (fun hlen => Ev_eq (Ev.now _) ?_))
      · have hlen' : p.f1.length = 128 := by omega
        by_cases ci : i = 0
        · have hq := hq0 ci
          refine Ev_f (by omega) (Ev_eq hI ?_)
          have : q < p.f0 := by omega
          simp [hlen', this]
        · have hq := hq1 (by omega)
          refine Ev_t (by omega) (Ev_t (by omega) (Ev_t (by omega) (Ev_ite (fun hr => Ev_eq (Ev.now _) ?_) (fun hr => Ev_eq hI ?_))))
          · have : ¬ q < p.f0 := by omega
            simp [this]
          · have : q < p.f0 := by omega
            simp [hlen', this]
      · have hlen' : ¬ p.f1.length = 128 := by omega
        simp [hlen']
theorem specGroup_ev (l : List S59) (N : Int) (h0 : 0 ≤ N) (h1 : N ≤ 1000) (hl : l.length ≤ 1048576) : Ev (fun k => spec_l4Group.f k l N) (decide (1 ≤ l.length ∧ l.length ≤ 30) && gB N (-1) l) := by
  simp only [spec_l4Group.f, l1In_eq, Option.bind_some, decide_eq_true_eq]
  by_cases c : (1 : Int) ≤ (l.length : Int) ∧ (l.length : Int) ≤ 30
  · have h := specGroup_loop l N h0 h1 hl l.length 0 (-1) (by omega) (fun _ => rfl) (by omega)
    rw [List.drop_zero] at h
    have c' : 1 ≤ l.length ∧ l.length ≤ 30 := by omega
    exact Ev_t c (Ev_eq h (by simp [c']))
  · have c' : ¬ (1 ≤ l.length ∧ l.length ≤ 30) := by omega
    exact Ev_f c (Ev_eq (Ev.now _) (by simp only [c', decide_false, Bool.false_and]))
theorem isGroup_loop (l : List S59) (hl : l.length ≤ 1048576) : ∀ (m i : Nat) (q : Int), i + m = l.length → (i = 0 → q = -1) → (0 < i → q = (rd_T59 l ((i : Int) - 1)).f0) →
    Ev (fun k => impl_isGroup.l0 k l l (l.length : Int) (i : Int)) (gB 160 q (l.drop i) && decide (1 ≤ l.length ∧ l.length ≤ 30)) := by
  intro m
  induction m with
  | zero =>
    intro i q hi _ _
    refine Ev_succ ?_
    simp only [impl_isGroup.l0, within_eq, Option.bind_some]
    rw [List.drop_of_length_le (by omega)]
    refine Ev_f (by omega) (Ev_eq (Ev.now _) ?_)
    simp only [gB, Bool.true_and]
    congr 1; simp only [eq_iff_iff]; omega
  | succ m ih =>
    intro i q hi hq0 hq1
    have hd := drop_cons l i z59 (by omega)
    have e1 : wrap64 ((i : Int) - 1) = (i : Int) - 1 := w64 (by omega) (by omega)
    have hrd := rd_T59_nat l i
    have hI := ih (i + 1) (rd_T59 l (i : Int)).f0 (by omega) (by omega) (fun _ => by congr 2; omega)
    rw [hd]
    rw [← hrd]
    simp only [gB]
    refine Ev_succ ?_
    simp only [impl_isGroup.l0, e1]
    rw [w64_succ (show i < l.length by omega) (by omega)]
    generalize rd_T59 l (i : Int) = p at hI ⊢
    generalize hX : gB 160 p.f0 (l.drop (i + 1)) = X at hI ⊢
    have tailEv : Ev (fun k => if i > 0 then (if 0 ≤ (i : Int) - 1 then (if (i : Int) - 1 < (l.length : Int) then (if p.f0 ≤ (rd_T59 l ((i : Int) - 1)).f0 then (some false) else (if (p.f1.length : Int) = 128 then (impl_isGroup.l0 k l l (l.length : Int) ((i + 1 : Nat) : Int)) else (some false))) else none) else none) else (if (p.f1.length : Int) = 128 then (impl_isGroup.l0 k l l (l.length : Int) ((i + 1 : Nat) : Int)) else (some false))) ((decide (p.f1.length = 128) && ((decide (q < p.f0) || decide (i = 0)) && X)) && decide (1 ≤ l.length ∧ l.length ≤ 30)) := by
      have hlast : ∀ b : Bool, b = true → Ev (fun k => if (p.f1.length : Int) = 128 then (impl_isGroup.l0 k l l (l.length : Int) ((i + 1 : Nat) : Int)) else (some false)) ((decide (p.f1.length = 128) && (b && X)) && decide (1 ≤ l.length ∧ l.length ≤ 30)) := by
        intro b hb
        subst hb
        refine Ev_ite (fun hlen => Ev_eq hI ?_) (fun hlen => Ev_eq (Ev.now _) ?_)
        · have hlen' : p.f1.length = 128 := by omega
          simp [hlen']
        · have hlen' : ¬ p.f1.length = 128 := by omega
          simp [hlen']
      by_cases ci : i = 0
      · exact Ev_f (by omega) (hlast _ (by simp [ci]))
      · have hq := hq1 (by omega)
        refine Ev_t (by omega) (Ev_t (by omega) (Ev_t (by omega) (Ev_ite (fun hr => Ev_eq (Ev.now _) ?_) (fun hr => hlast _ ?_))))
        · have : ¬ q < p.f0 := by omega
          simp [this, ci]
        · have : q < p.f0 := by omega
          simp [this]
    have tail2 : okAt 160 p.f0 = true → Ev (fun k => if (i : Int) > 0 then (if 0 ≤ (i : Int) - 1 then (if (i : Int) - 1 < (l.length : Int) then (if p.f0 ≤ (rd_T59 l ((i : Int) - 1)).f0 then (some false) else (if (p.f1.length : Int) = 128 then (impl_isGroup.l0 k l l (l.length : Int) ((i + 1 : Nat) : Int)) else (some false))) else none) else none) else (if (p.f1.length : Int) = 128 then (impl_isGroup.l0 k l l (l.length : Int) ((i + 1 : Nat) : Int)) else (some false))) ((okAt 160 p.f0 && (decide (p.f1.length = 128) && (decide (q < p.f0) && X))) && decide (1 ≤ l.length ∧ l.length ≤ 30)) := by
      intro ha
      have hp0 : 0 ≤ p.f0 := by simp only [okAt, decide_eq_true_eq] at ha; omega
      refine Ev_eq (Ev.congr (fun k => ?_) tailEv) ?_
      · have : ((i : Int) > 0) ↔ (i > 0) := by omega
        simp only [this]
      · rw [ha, Bool.true_and]
        by_cases ci : i = 0
        · have hq := hq0 ci
          have : q < p.f0 := by omega
          simp [this]
        · simp [ci]
    refine Ev_t (by omega) (Ev_t (by omega) (Ev_t (by omega) ?_))
    refine Ev_ite (fun c1 => Ev_eq (Ev.now _) ?_) (fun c1 => Ev_ite (fun c2 => Ev_eq (Ev.now _) ?_) (fun c2 => Ev_ite (fun c3 => Ev_ite (fun c4 => Ev_eq (Ev.now _) ?_) (fun c4 => ?_)) (fun c3 => ?_)))
    · have : okAt 160 p.f0 = false := by simp only [okAt, decide_eq_false_iff_not]; omega
      simp [this]
    · have : okAt 160 p.f0 = false := by simp only [okAt, decide_eq_false_iff_not]; omega
      simp [this]
    · have : okAt 160 p.f0 = false := by simp only [okAt, decide_eq_false_iff_not]; omega
      simp [this]
    · exact tail2 (by simp only [okAt, decide_eq_true_eq]; omega)
    · exact tail2 (by simp only [okAt, decide_eq_true_eq]; omega)
theorem isGroup_ev (l : List S59) (hl : l.length ≤ 1048576) : Ev (fun k => impl_isGroup.f k l) (gB 160 (-1) l && decide (1 ≤ l.length ∧ l.length ≤ 30)) := by
  have h := isGroup_loop l hl l.length 0 (-1) (by omega) (fun _ => rfl) (by omega)
  rw [List.drop_zero] at h
  simp only [impl_isGroup.f]
  exact h
theorem lastAt_rd : ∀ (l : List S59) (q : Int), l ≠ [] → lastAt q l = (rd_T59 l ((l.length : Int) - 1)).f0 := by
  intro l
  induction l with
  | nil => intro q h; exact absurd rfl h
  | cons p c ih =>
    intro q _
    cases c with
    | nil => simp [lastAt, rd_T59]
    | cons p2 c2 =>
      rw [lastAt, ih p.f0 (by simp)]
      congr 1
      have e1 : (((p :: p2 :: c2).length : Nat) : Int) - 1 = (((p2 :: c2).length - 1 + 1 : Nat) : Int) := by simp
      have e2 : (((p2 :: c2).length : Nat) : Int) - 1 = (((p2 :: c2).length - 1 : Nat) : Int) := by simp
      rw [e1, e2, rd_T59_nat, rd_T59_nat]
      simp
def groupB (b : List (List Int)) (w t : Int) (l : List S59) : Bool := diskB b w t && (decide (1 ≤ l.length ∧ l.length ≤ 30) && gB (b.length : Int) (-1) l)
theorem diskB_len {b : List (List Int)} {w t : Int} (h : diskB b w t = true) : 40 ≤ b.length ∧ b.length ≤ 160 := by
  simp only [diskB, blocksB, Bool.and_eq_true, decide_eq_true_eq] at h
  exact h.1.1
theorem specGoodGroup_ev (b : List (List Int)) (w : Int) (o : Bool) (t : Int) (l : List S59) (hb : b.length ≤ 1048576) (hl : l.length ≤ 1048576) : Ev (fun k => spec_GoodGroup.f k b w o t l) (groupB b w t l) := by
  simp only [spec_GoodGroup.f]
  refine Ev.bind (specGoodDisk_ev b w o t hb) ?_
  cases hd : diskB b w t with
  | false => exact Ev_f (by decide) (Ev_eq (Ev.now _) (by simp [groupB, hd]))
  | true =>
    have := diskB_len hd
    exact Ev_t rfl (Ev.bind (specGroup_ev l (b.length : Int) (by omega) (by omega) hl) (Ev_eq (Ev.now _) (by simp only [groupB, hd, Bool.true_and])))
theorem implGoodGroup_ev (b : List (List Int)) (w : Int) (o : Bool) (t : Int) (l : List S59) (hb : b.length ≤ 1048576) (hl : l.length ≤ 1048576) : Ev (fun k => impl_GoodGroup.f k b w o t l) (groupB b w t l) := by
  simp only [impl_GoodGroup.f]
  refine Ev.bind (implGoodDisk_ev b w o t hb) ?_
  cases hd : diskB b w t with
  | false => exact Ev_f (by decide) (Ev_eq (Ev.now _) (by simp [groupB, hd]))
  | true =>
    have hN := diskB_len hd
    refine Ev_t rfl (Ev.bind (isGroup_ev l hl) ?_)
    cases hg : gB 160 (-1) l && decide (1 ≤ l.length ∧ l.length ≤ 30) with
    | false =>
      refine Ev_f (by decide) (Ev_eq (Ev.now _) ?_)
      simp only [groupB, hd, Bool.true_and]
      by_cases c : 1 ≤ l.length ∧ l.length ≤ 30
      · rw [gB_both (b.length : Int) (by omega) (by omega) l (-1) (by intro h; rw [h] at c; simp at c)]
        simp only [c, and_self, decide_true, Bool.and_true] at hg
        simp only [hg, Bool.false_and, Bool.and_false]
      · simp only [c, decide_false, Bool.false_and]
    | true =>
      simp only [Bool.and_eq_true, decide_eq_true_eq] at hg
      have hne : l ≠ [] := by intro h; rw [h] at hg; simp at hg
      have e1 : wrap64 ((l.length : Int) - 1) = (l.length : Int) - 1 := w64 (by omega) (by omega)
      have e2 : wrap64 ((b.length : Int) - 1) = (b.length : Int) - 1 := w64 (by omega) (by omega)
      simp only [e1, impl_Disk_has.f, e2, within_eq, Option.bind_some]
      refine Ev_t trivial (Ev_t (by omega) (Ev_t (by omega) (Ev_eq (Ev.now _) ?_)))
      have hr := gB_rise 160 _ _ hg.1
      rw [← lastAt_rd l (-1) hne]
      simp only [groupB, hd, Bool.true_and]
      rw [gB_both (b.length : Int) (by omega) (by omega) l (-1) hne, hg.1]
      simp only [hg.2, and_self, decide_true, Bool.true_and]
      congr 1
      have hpos : 0 ≤ lastAt (-1) l := by
        cases l with
        | nil => exact absurd rfl hne
        | cons p c =>
          have h2 := hg.1
          simp only [gB, Bool.and_eq_true, decide_eq_true_eq] at h2
          have := gB_rise 160 _ _ h2.2.2.2
          simp only [lastAt]; omega
      simp only [eq_iff_iff]; omega
end OfFnExactGoodGroup
open OfFnExactGoodGroup
theorem FnExactGoodGroup : Stated := by
  intro b w o t l wb _ _ _ wl
  refine Ev.rounds ?_
  simp only [laws_FnExactGoodGroup.f]
  obtain ⟨r, h1, h2, h3⟩ := szDisk_ev b w o t ⟨wb.1, fun p hp => (wb.2 p hp).1⟩ 1048576 (by omega) (by omega)
  refine Ev.bind h1 (Ev_ite (fun _ => Ev.now _) (fun c => ?_))
  obtain ⟨hb, hz⟩ := h3 (by omega)
  obtain ⟨r2, h4, _, h6⟩ := szWriteS_ev l ⟨wl.1, fun p hp => (wl.2 p hp).2.1⟩ r (by omega) h2
  refine Ev.bind h4 (Ev_ite (fun _ => Ev.now _) (fun c2 => ?_))
  obtain ⟨hl, hy⟩ := h6 (by omega)
  have f1 := toDisk_ev b w o t hb hz
  have f2 := toWriteS_ev l hl hy
  have hl' : (l.map imw).length ≤ 1048576 := by simpa using hl
  have hy' : ∀ p ∈ l.map imw, p.f1.length ≤ 1048576 := by
    intro p hp
    obtain ⟨q, hq, rfl⟩ := List.mem_map.1 hp
    exact hy q hq
  exact Ev.bind f1 (Ev.bind f2 (Ev.bind (specGoodGroup_ev b w o t _ hb hl') (Ev.bind f1 (Ev.bind f2 (Ev.bind (implGoodGroup_ev b w o t _ hb hl') (Ev_f (by simp) (Ev.bind f1 (Ev.bind (eqDisk_ev b w o t hb hz) (Ev_t rfl (Ev.bind f2 (Ev.bind (eqWriteS_ev _ hl' hy') (Ev_t rfl (Ev.now _)))))))))))))
end Go.Proofs.Ytfjboeeogjepeaa.Pure
