/-
The pure statement of FnExactRecover: the printed functions of the program and of the reference answer alike for every argument within the bounds that the statement tells.
-/
import Derived.Test.YtfjboeeogjepeaaWfFnExactRecover
namespace Go.Proofs.Ytfjboeeogjepeaa.Pure
open Go Go.RowKit Go.Proofs.Ytfjboeeogjepeaa.PFnExactRecover Go.Proofs.YtfjboeeogjepeaaW.PrintWords Go.Proofs.YtfjboeeogjepeaaW.PrintLast Go.Proofs.YtfjboeeogjepeaaW.PrintMore Go.Proofs.Ytfjboeeogjepeaa.Lib
set_option linter.unusedVariables false
set_option linter.unusedSimpArgs false
namespace OfFnExactRecover
theorem within_eq (a b c : Int) : impl_within.f a b c = some (decide (b ≤ a ∧ a ≤ c)) := by
  simp only [impl_within.f]
  by_cases h : b ≤ a <;> simp [h]

theorem l1In_eq (a b c : Int) : spec_l1In.f a b c = some (decide (b ≤ a ∧ a ≤ c)) := by
  simp only [spec_l1In.f]
  by_cases h : b ≤ a <;> simp [h]

theorem toByteS_ev (l : List Int) (hl : l.length ≤ 1048576) : Ev (fun k => laws_toByteS.f k l) l := by
  have h := fill_ev (g := fun k x i => laws_toByteS.l0 k l x i) l 0 (fun x => x)
    (fun x i hx hi hr => Ev_succ (by
      simp only [laws_toByteS.l0]
      refine Ev_t (by omega) (Ev_t (by omega) (Ev_t (by omega) ?_))
      rw [w64_succ hi (by omega)]
      simpa [rd_nat] using hr))
    (fun x hx => Ev_succ (by simp only [laws_toByteS.l0]; exact Ev_f (by omega) (Ev.now _)))
    (List.replicate l.length 0) (by simp)
  rw [map_same] at h
  refine Ev.congr (fun k => ?_) h
  simp only [laws_toByteS.f]
  rw [if_pos (by omega), if_pos (by simp; omega)]
  simp

theorem eqByteS_ev (l : List Int) (hl : l.length ≤ 4611686018427387904) : Ev (fun k => laws_eqByteS.f k l l) true := by
  have h := all_ev (g := fun k i => laws_eqByteS.l0 k l l i) (r := true) l.length
    (fun i hi hr => Ev_succ (by
      simp only [laws_eqByteS.l0]
      refine Ev_t (by omega) (Ev_t (by omega) (Ev_t (by omega) (Ev_t trivial ?_)))
      rw [w64_succ hi (by omega)]; exact hr))
    (Ev_succ (by simp only [laws_eqByteS.l0]; exact Ev_f (by omega) (Ev.now _)))
  refine Ev.congr (fun k => ?_) h
  simp only [laws_eqByteS.f]; rw [if_pos trivial]

theorem rd_L_nat (xs : List (List Int)) (i : Nat) : rd_L1 xs (i : Int) = xs.getD i [] := by simp [rd_L1]
theorem szByteS_val (l : List Int) (hl : l.length ≤ maxLen) (n : Int) (h0 : 0 ≤ n) (h1 : n ≤ 1048576) : ∃ r, laws_szByteS.f l n = some r ∧ r ≤ n ∧ (0 ≤ r → l.length ≤ 1048576) := by
  have hl0 : (l.length : Int) ≤ 9223372036854775807 := by simp only [maxLen] at hl; omega
  simp only [laws_szByteS.f]
  rw [w64 (n := n - (l.length : Int)) (by omega) (by omega)]
  by_cases c : n - (l.length : Int) < 0
  · exact ⟨-1, if_pos c, by omega, fun h => by omega⟩
  · exact ⟨n - (l.length : Int), if_neg c, by omega, fun h => by omega⟩
theorem szByteSS_loop (l : List (List Int)) (hw : ∀ p ∈ l, p.length ≤ maxLen) (hl : l.length ≤ 1048576) : ∀ (m i : Nat) (x : Int), i + m = l.length → 0 ≤ x → x ≤ 1048576 →
    ∃ r, Ev (fun k => laws_szByteSS.l0 k l x (i : Int)) r ∧ r ≤ x ∧ (0 ≤ r → ∀ j, i ≤ j → j < l.length → (l.getD j []).length ≤ 1048576) := by
  intro m
  induction m with
  | zero =>
    intro i x hi h0 h1
    refine ⟨x, Ev_succ ?_, by omega, fun _ j h2 h3 => by omega⟩
    simp only [laws_szByteSS.l0]; exact Ev_f (by omega) (Ev.now _)
  | succ m ih =>
    intro i x hi h0 h1
    have hp := hw _ (getD_mem (xs := l) (i := i) [] (by omega))
    obtain ⟨r0, e, e1, e2⟩ := szByteS_val _ hp x h0 h1
    by_cases c : r0 < 0
    · refine ⟨-1, Ev_succ ?_, by omega, fun h => by omega⟩
      simp only [laws_szByteSS.l0, rd_L_nat]
      exact Ev_t (by omega) (Ev_t (by omega) (Ev_bind0 e (Ev_t c (Ev.now _))))
    · obtain ⟨r, h2, h3, h4⟩ := ih (i + 1) r0 (by omega) (by omega) (by omega)
      refine ⟨r, Ev_succ ?_, by omega, fun h j h5 h6 => ?_⟩
      · simp only [laws_szByteSS.l0, rd_L_nat]
        rw [w64_succ (show i < l.length by omega) (by omega)]
        exact Ev_t (by omega) (Ev_t (by omega) (Ev_bind0 e (Ev_f c h2)))
      · by_cases h7 : j = i
        · subst h7; exact e2 (by omega)
        · exact h4 h j (by omega) h6
theorem szByteSS_ev (l : List (List Int)) (hw : l.length ≤ maxLen ∧ ∀ p ∈ l, p.length ≤ maxLen) (n : Int) (hn : 0 ≤ n) (hn' : n ≤ 1048576) : ∃ r, Ev (fun k => laws_szByteSS.f k l n) r ∧ r ≤ n ∧ (0 ≤ r → l.length ≤ 1048576 ∧ ∀ p ∈ l, p.length ≤ 1048576) := by
  have hl0 : (l.length : Int) ≤ 9223372036854775807 := by have := hw.1; simp only [maxLen] at this; omega
  have e : wrap64 (n - (l.length : Int)) = n - (l.length : Int) := w64 (by omega) (by omega)
  simp only [laws_szByteSS.f, e]
  by_cases c : n - (l.length : Int) < 0
  · exact ⟨-1, Ev_t c (Ev.now _), by omega, fun h => by omega⟩
  · obtain ⟨r, h1, h2, h3⟩ := szByteSS_loop l hw.2 (by omega) l.length 0 (n - (l.length : Int)) (by omega) (by omega) (by omega)
    refine ⟨r, Ev_f c h1, by omega, fun h => ⟨by omega, fun p hp => ?_⟩⟩
    obtain ⟨j, hj, rfl⟩ := List.mem_iff_getElem.1 hp
    have := h3 h j (by omega) hj
    simpa [List.getD, hj] using this
theorem toByteSS_ev (l : List (List Int)) (hl : l.length ≤ 1048576) (hz : ∀ p ∈ l, p.length ≤ 1048576) : Ev (fun k => laws_toByteSS.f k l) l := by
  have h := fill_ev (g := fun k x i => laws_toByteSS.l0 k l x i) l [] (fun x => x)
    (fun x i hx hi hr => Ev_succ (by
      simp only [laws_toByteSS.l0, rd_L_nat]
      refine Ev_t (by omega) (Ev_t (by omega) (Ev.bind (toByteS_ev _ (hz _ (getD_mem [] hi))) (Ev_t (by omega) ?_)))
      rw [w64_succ hi (by omega)]
      simpa using hr))
    (fun x hx => Ev_succ (by simp only [laws_toByteSS.l0]; exact Ev_f (by omega) (Ev.now _)))
    (List.replicate l.length []) (by simp)
  rw [map_same] at h
  refine Ev.congr (fun k => ?_) h
  simp only [laws_toByteSS.f]
  rw [if_pos (by omega), if_pos (by simp; omega)]
  simp
theorem eqByteSS_ev (l : List (List Int)) (hl : l.length ≤ 1048576) (hz : ∀ p ∈ l, p.length ≤ 1048576) : Ev (fun k => laws_eqByteSS.f k l l) true := by
  have h := all_ev (g := fun k i => laws_eqByteSS.l0 k l l i) (r := true) l.length
    (fun i hi hr => Ev_succ (by
      simp only [laws_eqByteSS.l0, rd_L_nat]
      refine Ev_t (by omega) (Ev_t (by omega) (Ev_t (by omega) (Ev.bind (eqByteS_ev _ (by have := hz _ (getD_mem [] hi); omega)) (Ev_t rfl ?_))))
      rw [w64_succ hi (by omega)]; exact hr))
    (Ev_succ (by simp only [laws_eqByteSS.l0]; exact Ev_f (by omega) (Ev.now _)))
  refine Ev.congr (fun k => ?_) h
  simp only [laws_eqByteSS.f]; rw [if_pos trivial]

def blocksB (l : List (List Int)) : Bool := decide (40 ≤ l.length ∧ l.length ≤ 160) && l.all (fun b => decide (b.length = 128))
theorem indexFunc_loop (l : List (List Int)) (hl : l.length ≤ 1048576) : ∀ (m i : Nat), i + m = l.length → ∃ r : Int, Ev (fun k => slices_IndexFunc_byte_byte.l0 k l (l.length : Int) (i : Int)) r ∧ (0 ≤ r ↔ ¬ ((l.drop i).all (fun b => decide (b.length = 128)) = true)) := by
  intro m
  induction m with
  | zero =>
    intro i hi
    refine ⟨-1, Ev_succ ?_, ?_⟩
    · simp only [slices_IndexFunc_byte_byte.l0]; exact Ev_f (by omega) (Ev.now _)
    · rw [List.drop_of_length_le (by omega)]; simp
  | succ m ih =>
    intro i hi
    have hd := drop_cons l i [] (by omega)
    obtain ⟨r, h1, h2⟩ := ih (i + 1) (by omega)
    by_cases c : (l.getD i []).length = 128
    · refine ⟨r, Ev_succ ?_, ?_⟩
      · simp only [slices_IndexFunc_byte_byte.l0, rd_L_nat, impl_areBlocks_1.f, Option.bind_some]
        rw [w64_succ (show i < l.length by omega) (by omega)]
        exact Ev_t (by omega) (Ev_t (by omega) (Ev_t (by omega) (Ev_f (by rw [c]; decide) h1)))
      · rw [hd, h2, List.all_cons, c]; simp
    · refine ⟨(i : Int), Ev_succ ?_, ?_⟩
      · simp only [slices_IndexFunc_byte_byte.l0, rd_L_nat, impl_areBlocks_1.f, Option.bind_some]
        exact Ev_t (by omega) (Ev_t (by omega) (Ev_t (by omega) (Ev_t (by simp only [bne_iff_ne]; omega) (Ev.now _))))
      · rw [hd, List.all_cons]; simp only [c, decide_false, Bool.false_and, Bool.false_eq_true, not_false_eq_true, iff_true]; omega
theorem areBlocks_ev (l : List (List Int)) (hl : l.length ≤ 1048576) : Ev (fun k => impl_areBlocks.f k l) (blocksB l) := by
  simp only [impl_areBlocks.f, within_eq, Option.bind_some, decide_eq_true_eq]
  by_cases c : (40 : Int) ≤ (l.length : Int) ∧ (l.length : Int) ≤ 160
  · obtain ⟨r, h1, h2⟩ := indexFunc_loop l hl l.length 0 (by omega)
    refine Ev_t c (Ev.bind (a := decide (r ≥ 0)) ?_ (Ev_eq (Ev.now _) ?_))
    · simp only [slices_ContainsFunc_byte_byte.f, slices_IndexFunc_byte_byte.f]
      exact Ev.bind h1 (Ev.now _)
    · rw [List.drop_zero] at h2
      have c' : 40 ≤ l.length ∧ l.length ≤ 160 := by omega
      simp only [blocksB, c', and_self, decide_true, Bool.true_and]
      cases hh : l.all (fun b => decide (b.length = 128)) with
      | true => simp only [hh, not_true, iff_false] at h2; simp; omega
      | false => simp only [hh] at h2; have : 0 ≤ r := h2.2 (by simp); simp [this]
  · refine Ev_f c (Ev_eq (Ev.now _) ?_)
    have c' : ¬ (40 ≤ l.length ∧ l.length ≤ 160) := by omega
    simp only [blocksB, c', decide_false, Bool.false_and]

def diskB (l : List (List Int)) (w : Int) (t : Int) : Bool := blocksB l && (decide (0 ≤ w ∧ w ≤ 1000000000) && decide (-1 ≤ t ∧ t ≤ 1000000))
theorem implGoodDisk_ev (l : List (List Int)) (w : Int) (o : Bool) (t : Int) (hl : l.length ≤ 1048576) : Ev (fun k => impl_GoodDisk.f k l w o t) (diskB l w t) := by
  simp only [impl_GoodDisk.f, within_eq, Option.bind_some, decide_eq_true_eq]
  refine Ev.bind (areBlocks_ev l hl) ?_
  cases hb : blocksB l with
  | false => exact Ev_f (by decide) (Ev_eq (Ev.now _) (by simp [diskB, hb]))
  | true =>
    refine Ev_t rfl (Ev_ite (fun h => Ev_eq (Ev.now _) (by simp [diskB, hb, h])) (fun h => Ev_eq (Ev.now _) (by simp only [diskB, hb, h, decide_false, Bool.false_and, Bool.and_false])))
theorem specGoodDisk_loop (l : List (List Int)) (hl : l.length ≤ 1048576) : ∀ (m i : Nat), i + m = l.length → Ev (fun k => spec_GoodDisk.l0 k l (l.length : Int) (i : Int)) ((l.drop i).all (fun b => decide (b.length = 128))) := by
  intro m
  induction m with
  | zero =>
    intro i hi
    refine Ev_succ ?_
    simp only [spec_GoodDisk.l0]
    rw [List.drop_of_length_le (by omega)]
    exact Ev_f (by omega) (Ev.now _)
  | succ m ih =>
    intro i hi
    have hd := drop_cons l i [] (by omega)
    refine Ev_succ ?_
    simp only [spec_GoodDisk.l0, rd_L_nat]
    rw [w64_succ (show i < l.length by omega) (by omega), hd, List.all_cons]
    refine Ev_t (by omega) (Ev_t (by omega) (Ev_t (by omega) (Ev_ite (fun h => Ev_eq (ih (i + 1) (by omega)) ?_) (fun h => Ev_eq (Ev.now _) ?_))))
    · have h' : (l.getD i []).length = 128 := by omega
      simp only [h', decide_true, Bool.true_and]
    · have h' : ¬ (l.getD i []).length = 128 := by omega
      simp only [h', decide_false, Bool.false_and]
theorem specGoodDisk_ev (l : List (List Int)) (w : Int) (o : Bool) (t : Int) (hl : l.length ≤ 1048576) : Ev (fun k => spec_GoodDisk.f k l w o t) (diskB l w t) := by
  simp only [spec_GoodDisk.f, l1In_eq, Option.bind_some, decide_eq_true_eq]
  have hf : ∀ b : Bool, b = true → diskB l w t = false → Ev (fun k => spec_GoodDisk.j0 k b l w o t) (diskB l w t) := by
    intro b hb hd
    refine Ev_succ ?_
    simp only [spec_GoodDisk.j0]
    exact Ev_t hb (Ev_eq (Ev.now _) hd.symm)
  by_cases c1 : (40 : Int) ≤ (l.length : Int) ∧ (l.length : Int) ≤ 160
  · have c1' : 40 ≤ l.length ∧ l.length ≤ 160 := by omega
    refine Ev_t c1 ?_
    by_cases c2 : 0 ≤ w ∧ w ≤ 1000000000
    · refine Ev_t c2 ?_
      by_cases c3 : -1 ≤ t ∧ t ≤ 1000000
      · refine Ev_succ ?_
        simp only [spec_GoodDisk.j0]
        have h := specGoodDisk_loop l hl l.length 0 (by omega)
        rw [List.drop_zero] at h
        exact Ev_f (by simp [c3]) (Ev_eq h (by simp only [diskB, blocksB, c1', c2, c3, and_self, decide_true, Bool.true_and, Bool.and_true]))
      · exact hf _ (by simp only [c3, decide_false, Bool.not_false]) (by simp only [diskB, c3, decide_false, Bool.and_false])
    · refine Ev_f c2 (hf _ rfl (by simp only [diskB, c2, decide_false, Bool.false_and, Bool.and_false]))
  · refine Ev_f c1 (hf _ rfl ?_)
    have c1' : ¬ (40 ≤ l.length ∧ l.length ≤ 160) := by omega
    simp only [diskB, blocksB, c1', decide_false, Bool.false_and]

theorem szDisk_ev (l : List (List Int)) (w : Int) (o : Bool) (t : Int) (hw : l.length ≤ maxLen ∧ ∀ p ∈ l, p.length ≤ maxLen) (n : Int) (hn : 0 ≤ n) (hn' : n ≤ 1048576) : ∃ r, Ev (fun k => laws_szDisk.f k l w o t n) r ∧ r ≤ n ∧ (0 ≤ r → l.length ≤ 1048576 ∧ ∀ p ∈ l, p.length ≤ 1048576) := by
  obtain ⟨r, h1, h2, h3⟩ := szByteSS_ev l hw n hn hn'
  simp only [laws_szDisk.f]
  by_cases c : r < 0
  · exact ⟨-1, Ev.bind h1 (Ev_t c (Ev.now _)), by omega, fun h => by omega⟩
  · exact ⟨r, Ev.bind h1 (Ev_f c (Ev.now _)), h2, h3⟩
theorem toDisk_ev (l : List (List Int)) (w : Int) (o : Bool) (t : Int) (hl : l.length ≤ 1048576) (hz : ∀ p ∈ l, p.length ≤ 1048576) : Ev (fun k => laws_toDisk.f k l w o t) (l, w, o, t) := by
  simp only [laws_toDisk.f]
  exact Ev.bind (toByteSS_ev l hl hz) (Ev.now _)
theorem eqDisk_ev (l : List (List Int)) (w : Int) (o : Bool) (t : Int) (hl : l.length ≤ 1048576) (hz : ∀ p ∈ l, p.length ≤ 1048576) : Ev (fun k => laws_eqDisk.f k l w o t l w o t) true := by
  simp only [laws_eqDisk.f]
  exact Ev.bind (eqByteSS_ev l hl hz) (Ev_t rfl (Ev_t trivial (Ev_f (by simp) (Ev_t trivial (Ev.now _)))))

theorem rd_T59_nat (xs : List S59) (i : Nat) : rd_T59 xs (i : Int) = xs.getD i z59 := by simp [rd_T59]
def okAt (N at_ : Int) : Bool := decide (at_ = 0 ∨ at_ = 1 ∨ (33 ≤ at_ ∧ at_ ≤ N - 1))
def gB (N : Int) : Int → List S59 → Bool
  | _, [] => true
  | q, p :: c => okAt N p.f0 && (decide (p.f1.length = 128) && (decide (q < p.f0) && gB N p.f0 c))
def lastAt : Int → List S59 → Int
  | q, [] => q
  | _, p :: c => lastAt p.f0 c
theorem gB_rise (N : Int) : ∀ (c : List S59) (q : Int), gB N q c = true → q ≤ lastAt q c := by
  intro c
  induction c with
  | nil => intro q _; exact Int.le_refl _
  | cons p c ih =>
    intro q h
    simp only [gB, Bool.and_eq_true, decide_eq_true_eq] at h
    have := ih p.f0 h.2.2.2
    simp only [lastAt]; omega
theorem okAt_both (a N : Int) (h0 : 40 ≤ N) (h1 : N ≤ 160) : okAt N a = (okAt 160 a && decide (a ≤ N - 1)) := by
  rw [Bool.eq_iff_iff]
  simp only [okAt, Bool.and_eq_true, decide_eq_true_eq]
  omega
theorem gB_both (N : Int) (h0 : 40 ≤ N) (h1 : N ≤ 160) : ∀ (c : List S59) (q : Int), c ≠ [] → gB N q c = (gB 160 q c && decide (lastAt q c ≤ N - 1)) := by
  intro c
  induction c with
  | nil => intro q h; exact absurd rfl h
  | cons p c ih =>
    intro q _
    simp only [gB, lastAt]
    rcases List.eq_nil_or_concat c with rfl | ⟨c', x, rfl⟩
    · simp only [gB, lastAt, Bool.and_true]
      rw [okAt_both p.f0 N h0 h1]
      generalize okAt 160 p.f0 = A
      generalize decide (p.f1.length = 128) = C
      generalize decide (q < p.f0) = D
      by_cases d : p.f0 ≤ N - 1
      · simp only [d, decide_true]; cases A <;> cases C <;> cases D <;> rfl
      · simp only [d, decide_false]; cases A <;> cases C <;> cases D <;> rfl
    · have hne : c'.concat x ≠ [] := by simp
      rw [ih p.f0 hne]
      cases hg : gB 160 p.f0 (c'.concat x) with
      | false => simp only [Bool.false_and, Bool.and_false]
      | true =>
        have hr := gB_rise 160 _ _ hg
        by_cases d : lastAt p.f0 (c'.concat x) ≤ N - 1
        · simp only [d, decide_true, Bool.and_true, Bool.true_and]
          have h3 : decide (p.f0 ≤ N - 1) = true := by simp only [decide_eq_true_eq]; omega
          rw [okAt_both p.f0 N h0 h1, h3, Bool.and_true]
        · simp only [d, decide_false, Bool.and_false]
theorem l4At_eq (a N : Int) (h0 : 0 ≤ N) (h1 : N ≤ 1000) : spec_l4At.f a N = some (okAt N a) := by
  have e : wrap64 (N - 1) = N - 1 := w64 (by omega) (by omega)
  simp only [spec_l4At.f, l1In_eq, e, Option.bind_some, okAt]
  by_cases c0 : a = 0
  · simp [c0]
  · by_cases c1 : a = 1
    · simp [c1]
    · rw [if_neg c0, if_neg c1]; simp [c0, c1]
theorem specGroup_loop (l : List S59) (N : Int) (h0 : 0 ≤ N) (h1 : N ≤ 1000) (hl : l.length ≤ 1048576) : ∀ (m i : Nat) (q : Int), i + m = l.length → (i = 0 → q = -1) → (0 < i → q = (rd_T59 l ((i : Int) - 1)).f0) →
    Ev (fun k => spec_l4Group.l0 k l N l (l.length : Int) (i : Int)) (gB N q (l.drop i)) := by
  intro m
  induction m with
  | zero =>
    intro i q hi _ _
    refine Ev_succ ?_
    simp only [spec_l4Group.l0]
    rw [List.drop_of_length_le (by omega)]
    exact Ev_f (by omega) (Ev.now _)
  | succ m ih =>
    intro i q hi hq0 hq1
    have hd := drop_cons l i z59 (by omega)
    have e1 : wrap64 ((i : Int) - 1) = (i : Int) - 1 := w64 (by omega) (by omega)
    have hrd := rd_T59_nat l i
    have hI := ih (i + 1) (rd_T59 l (i : Int)).f0 (by omega) (by omega) (fun _ => by congr 2; omega)
    rw [hd]
    rw [← hrd]
    simp only [gB]
    refine Ev_succ ?_
    simp only [spec_l4Group.l0, l4At_eq _ N h0 h1, Option.bind_some, e1]
    rw [w64_succ (show i < l.length by omega) (by omega)]
    generalize rd_T59 l (i : Int) = p at hI ⊢
    refine Ev_t (by omega) (Ev_t (by omega) (Ev_t (by omega) ?_))
    cases ha : okAt N p.f0 with
    | false => exact Ev_f (by decide) (Ev_eq (Ev.now _) (by simp))
    | true =>
      have hp0 : 0 ≤ p.f0 := by simp only [okAt, decide_eq_true_eq] at ha; omega
      refine Ev_t rfl (Ev_ite (fun hlen => ?_) (fun hlen => Ev_eq (Ev.now _) ?_))
      · have hlen' : p.f1.length = 128 := by omega
        by_cases ci : i = 0
        · have hq := hq0 ci
          refine Ev_f (by omega) (Ev_eq hI ?_)
          have : q < p.f0 := by omega
          simp [hlen', this]
        · have hq := hq1 (by omega)
          refine Ev_t (by omega) (Ev_t (by omega) (Ev_t (by omega) (Ev_ite (fun hr => Ev_eq (Ev.now _) ?_) (fun hr => Ev_eq hI ?_))))
          · have : ¬ q < p.f0 := by omega
            simp [this]
          · have : q < p.f0 := by omega
            simp [hlen', this]
      · have hlen' : ¬ p.f1.length = 128 := by omega
        simp [hlen']
theorem specGroup_ev (l : List S59) (N : Int) (h0 : 0 ≤ N) (h1 : N ≤ 1000) (hl : l.length ≤ 1048576) : Ev (fun k => spec_l4Group.f k l N) (decide (1 ≤ l.length ∧ l.length ≤ 30) && gB N (-1) l) := by
  simp only [spec_l4Group.f, l1In_eq, Option.bind_some, decide_eq_true_eq]
  by_cases c : (1 : Int) ≤ (l.length : Int) ∧ (l.length : Int) ≤ 30
  · have h := specGroup_loop l N h0 h1 hl l.length 0 (-1) (by omega) (fun _ => rfl) (by omega)
    rw [List.drop_zero] at h
    have c' : 1 ≤ l.length ∧ l.length ≤ 30 := by omega
    exact Ev_t c (Ev_eq h (by simp [c']))
  · have c' : ¬ (1 ≤ l.length ∧ l.length ≤ 30) := by omega
    exact Ev_f c (Ev_eq (Ev.now _) (by simp only [c', decide_false, Bool.false_and]))
theorem isGroup_loop (l : List S59) (hl : l.length ≤ 1048576) : ∀ (m i : Nat) (q : Int), i + m = l.length → (i = 0 → q = -1) → (0 < i → q = (rd_T59 l ((i : Int) - 1)).f0) →
    Ev (fun k => impl_isGroup.l0 k l l (l.length : Int) (i : Int)) (gB 160 q (l.drop i) && decide (1 ≤ l.length ∧ l.length ≤ 30)) := by
  intro m
  induction m with
  | zero =>
    intro i q hi _ _
    refine Ev_succ ?_
    simp only [impl_isGroup.l0, within_eq, Option.bind_some]
    rw [List.drop_of_length_le (by omega)]
    refine Ev_f (by omega) (Ev_eq (Ev.now _) ?_)
    simp only [gB, Bool.true_and]
    congr 1; simp only [eq_iff_iff]; omega
  | succ m ih =>
    intro i q hi hq0 hq1
    have hd := drop_cons l i z59 (by omega)
    have e1 : wrap64 ((i : Int) - 1) = (i : Int) - 1 := w64 (by omega) (by omega)
    have hrd := rd_T59_nat l i
    have hI := ih (i + 1) (rd_T59 l (i : Int)).f0 (by omega) (by omega) (fun _ => by congr 2; omega)
    rw [hd]
    rw [← hrd]
    simp only [gB]
    refine Ev_succ ?_
    simp only [impl_isGroup.l0, e1]
    rw [w64_succ (show i < l.length by omega) (by omega)]
    generalize rd_T59 l (i : Int) = p at hI ⊢
    generalize hX : gB 160 p.f0 (l.drop (i + 1)) = X at hI ⊢
    have tailEv : Ev (fun k => if i > 0 then (if 0 ≤ (i : Int) - 1 then (if (i : Int) - 1 < (l.length : Int) then (if p.f0 ≤ (rd_T59 l ((i : Int) - 1)).f0 then (some false) else (if (p.f1.length : Int) = 128 then (impl_isGroup.l0 k l l (l.length : Int) ((i + 1 : Nat) : Int)) else (some false))) else none) else none) else (if (p.f1.length : Int) = 128 then (impl_isGroup.l0 k l l (l.length : Int) ((i + 1 : Nat) : Int)) else (some false))) ((decide (p.f1.length = 128) && ((decide (q < p.f0) || decide (i = 0)) && X)) && decide (1 ≤ l.length ∧ l.length ≤ 30)) := by
      have hlast : ∀ b : Bool, b = true → Ev (fun k => if (p.f1.length : Int) = 128 then (impl_isGroup.l0 k l l (l.length : Int) ((i + 1 : Nat) : Int)) else (some false)) ((decide (p.f1.length = 128) && (b && X)) && decide (1 ≤ l.length ∧ l.length ≤ 30)) := by
        intro b hb
        subst hb
        refine Ev_ite (fun hlen => Ev_eq hI ?_) (fun hlen => Ev_eq (Ev.now _) ?_)
        · have hlen' : p.f1.length = 128 := by omega
          simp [hlen']
        · have hlen' : ¬ p.f1.length = 128 := by omega
          simp [hlen']
      by_cases ci : i = 0
      · exact Ev_f (by omega) (hlast _ (by simp [ci]))
      · have hq := hq1 (by omega)
        refine Ev_t (by omega) (Ev_t (by omega) (Ev_t (by omega) (Ev_ite (fun hr => Ev_eq (Ev.now _) ?_) (fun hr => hlast _ ?_))))
        · have : ¬ q < p.f0 := by omega
          simp [this, ci]
        · have : q < p.f0 := by omega
          simp [this]
    have tail2 : okAt 160 p.f0 = true → Ev (fun k => if (i : Int) > 0 then (if 0 ≤ (i : Int) - 1 then (if (i : Int) - 1 < (l.length : Int) then (if p.f0 ≤ (rd_T59 l ((i : Int) - 1)).f0 then (some false) else (if (p.f1.length : Int) = 128 then (impl_isGroup.l0 k l l (l.length : Int) ((i + 1 : Nat) : Int)) else (some false))) else none) else none) else (if (p.f1.length : Int) = 128 then (impl_isGroup.l0 k l l (l.length : Int) ((i + 1 : Nat) : Int)) else (some false))) ((okAt 160 p.f0 && (decide (p.f1.length = 128) && (decide (q < p.f0) && X))) && decide (1 ≤ l.length ∧ l.length ≤ 30)) := by
      intro ha
      have hp0 : 0 ≤ p.f0 := by simp only [okAt, decide_eq_true_eq] at ha; omega
      refine Ev_eq (Ev.congr (fun k => ?_) tailEv) ?_
      · have : ((i : Int) > 0) ↔ (i > 0) := by omega
        simp only [this]
      · rw [ha, Bool.true_and]
        by_cases ci : i = 0
        · have hq := hq0 ci
          have : q < p.f0 := by omega
          simp [this]
        · simp [ci]
    refine Ev_t (by omega) (Ev_t (by omega) (Ev_t (by omega) ?_))
    refine Ev_ite (fun c1 => Ev_eq (Ev.now _) ?_) (fun c1 => Ev_ite (fun c2 => Ev_eq (Ev.now _) ?_) (fun c2 => Ev_ite (fun c3 => Ev_ite (fun c4 => Ev_eq (Ev.now _) ?_) (fun c4 => ?_)) (fun c3 => ?_)))
    · have : okAt 160 p.f0 = false := by simp only [okAt, decide_eq_false_iff_not]; omega
      simp [this]
    · have : okAt 160 p.f0 = false := by simp only [okAt, decide_eq_false_iff_not]; omega
      simp [this]
    · have : okAt 160 p.f0 = false := by simp only [okAt, decide_eq_false_iff_not]; omega
      simp [this]
    · exact tail2 (by simp only [okAt, decide_eq_true_eq]; omega)
    · exact tail2 (by simp only [okAt, decide_eq_true_eq]; omega)
theorem isGroup_ev (l : List S59) (hl : l.length ≤ 1048576) : Ev (fun k => impl_isGroup.f k l) (gB 160 (-1) l && decide (1 ≤ l.length ∧ l.length ≤ 30)) := by
  have h := isGroup_loop l hl l.length 0 (-1) (by omega) (fun _ => rfl) (by omega)
  rw [List.drop_zero] at h
  simp only [impl_isGroup.f]
  exact h
theorem lastAt_rd : ∀ (l : List S59) (q : Int), l ≠ [] → lastAt q l = (rd_T59 l ((l.length : Int) - 1)).f0 := by
  intro l
  induction l with
  | nil => intro q h; exact absurd rfl h
  | cons p c ih =>
    intro q _
    cases c with
    | nil => simp [lastAt, rd_T59]
    | cons p2 c2 =>
      rw [lastAt, ih p.f0 (by simp)]
      congr 1
      have e1 : (((p :: p2 :: c2).length : Nat) : Int) - 1 = (((p2 :: c2).length - 1 + 1 : Nat) : Int) := by simp
      have e2 : (((p2 :: c2).length : Nat) : Int) - 1 = (((p2 :: c2).length - 1 : Nat) : Int) := by simp
      rw [e1, e2, rd_T59_nat, rd_T59_nat]
      simp
def groupB (b : List (List Int)) (w t : Int) (l : List S59) : Bool := diskB b w t && (decide (1 ≤ l.length ∧ l.length ≤ 30) && gB (b.length : Int) (-1) l)
theorem diskB_len {b : List (List Int)} {w t : Int} (h : diskB b w t = true) : 40 ≤ b.length ∧ b.length ≤ 160 := by
  simp only [diskB, blocksB, Bool.and_eq_true, decide_eq_true_eq] at h
  exact h.1.1
theorem implGoodGroup_ev (b : List (List Int)) (w : Int) (o : Bool) (t : Int) (l : List S59) (hb : b.length ≤ 1048576) (hl : l.length ≤ 1048576) : Ev (fun k => impl_GoodGroup.f k b w o t l) (groupB b w t l) := by
  simp only [impl_GoodGroup.f]
  refine Ev.bind (implGoodDisk_ev b w o t hb) ?_
  cases hd : diskB b w t with
  | false => exact Ev_f (by decide) (Ev_eq (Ev.now _) (by simp [groupB, hd]))
  | true =>
    have hN := diskB_len hd
    refine Ev_t rfl (Ev.bind (isGroup_ev l hl) ?_)
    cases hg : gB 160 (-1) l && decide (1 ≤ l.length ∧ l.length ≤ 30) with
    | false =>
      refine Ev_f (by decide) (Ev_eq (Ev.now _) ?_)
      simp only [groupB, hd, Bool.true_and]
      by_cases c : 1 ≤ l.length ∧ l.length ≤ 30
      · rw [gB_both (b.length : Int) (by omega) (by omega) l (-1) (by intro h; rw [h] at c; simp at c)]
        simp only [c, and_self, decide_true, Bool.and_true] at hg
        simp only [hg, Bool.false_and, Bool.and_false]
      · simp only [c, decide_false, Bool.false_and]
    | true =>
      simp only [Bool.and_eq_true, decide_eq_true_eq] at hg
      have hne : l ≠ [] := by intro h; rw [h] at hg; simp at hg
      have e1 : wrap64 ((l.length : Int) - 1) = (l.length : Int) - 1 := w64 (by omega) (by omega)
      have e2 : wrap64 ((b.length : Int) - 1) = (b.length : Int) - 1 := w64 (by omega) (by omega)
      simp only [e1, impl_Disk_has.f, e2, within_eq, Option.bind_some]
      refine Ev_t trivial (Ev_t (by omega) (Ev_t (by omega) (Ev_eq (Ev.now _) ?_)))
      have hr := gB_rise 160 _ _ hg.1
      rw [← lastAt_rd l (-1) hne]
      simp only [groupB, hd, Bool.true_and]
      rw [gB_both (b.length : Int) (by omega) (by omega) l (-1) hne, hg.1]
      simp only [hg.2, and_self, decide_true, Bool.true_and]
      congr 1
      have hpos : 0 ≤ lastAt (-1) l := by
        cases l with
        | nil => exact absurd rfl hne
        | cons p c =>
          have h2 := hg.1
          simp only [gB, Bool.and_eq_true, decide_eq_true_eq] at h2
          have := gB_rise 160 _ _ h2.2.2.2
          simp only [lastAt]; omega
      simp only [eq_iff_iff]; omega

theorem xor64 {a b : Int} (ha : 0 ≤ a) (ha' : a < 4294967296) (hb : 0 ≤ b) (hb' : b < 4294967296) : Go.bits .xor .u64 a b = Go.bits .xor .u32 a b ∧ 0 ≤ Go.bits .xor .u32 a b ∧ Go.bits .xor .u32 a b < 4294967296 := by
  obtain ⟨x, rfl⟩ := Int.eq_ofNat_of_zero_le ha
  obtain ⟨y, rfl⟩ := Int.eq_ofNat_of_zero_le hb
  have hx : x < 2 ^ 32 := by omega
  have hy : y < 2 ^ 32 := by omega
  have hz : x ^^^ y < 2 ^ 32 := Nat.xor_lt_two_pow hx hy
  have e1 : Go.bits .xor .u64 x y = ((x ^^^ y : Nat) : Int) := by
    have hx1 : x % 2 ^ IntKind.u64.bits = x := by show x % 2 ^ 64 = x; omega
    have hy1 : y % 2 ^ IntKind.u64.bits = y := by show y % 2 ^ 64 = y; omega
    simp only [Go.bits, BitVec.ofInt_natCast, BitVec.toNat_xor, BitVec.toNat_ofNat, hx1, hy1]
    exact wu64 (by omega) (by omega)
  have e2 : Go.bits .xor .u32 x y = ((x ^^^ y : Nat) : Int) := by
    have hx1 : x % 2 ^ IntKind.u32.bits = x := by show x % 2 ^ 32 = x; omega
    have hy1 : y % 2 ^ IntKind.u32.bits = y := by show y % 2 ^ 32 = y; omega
    simp only [Go.bits, BitVec.ofInt_natCast, BitVec.toNat_xor, BitVec.toNat_ofNat, hx1, hy1]
    rw [IntKind.wrap_u32]
    omega
  rw [e1, e2]
  exact ⟨rfl, by omega, by omega⟩

def dstep (h b : Int) : Int := (Go.bits .xor .u32 h b * 16777619) % 4294967296
theorem dstep_lt (h b : Int) : 0 ≤ dstep h b ∧ dstep h b < 4294967296 := by
  simp only [dstep]; omega
theorem fold_lt : ∀ (l : List Int) (h : Int), 0 ≤ h → h < 4294967296 → 0 ≤ l.foldl dstep h ∧ l.foldl dstep h < 4294967296 := by
  intro l
  induction l with
  | nil => intro h h0 h1; exact ⟨h0, h1⟩
  | cons b l ih => intro h _ _; exact ih _ (dstep_lt h b).1 (dstep_lt h b).2
theorem digestS_loop (l : List Int) (hl : l.length ≤ 1048576) (hw : ∀ x ∈ l, 0 ≤ x ∧ x ≤ 255) : ∀ (m i : Nat) (h : Int), i + m = l.length → 0 ≤ h → h < 4294967296 → Ev (fun k => spec_DigestOf.l0 k h l (l.length : Int) (i : Int)) ((l.drop i).foldl dstep h) := by
  intro m
  induction m with
  | zero =>
    intro i h hi h0 h1
    refine Ev_succ ?_
    simp only [spec_DigestOf.l0]
    rw [List.drop_of_length_le (by omega)]
    exact Ev_f (by omega) (Ev_eq (Ev.now _) (by simp only [List.foldl_nil]; omega))
  | succ m ih =>
    intro i h hi h0 h1
    have hd := drop_cons l i 0 (by omega)
    have hx := hw _ (getD_mem (xs := l) (i := i) 0 (by omega))
    have e3 : IntKind.u64.wrap (l.getD i 0) = l.getD i 0 := wu64 (by omega) (by omega)
    obtain ⟨e5, e6, e7⟩ := xor64 h0 h1 hx.1 (show l.getD i 0 < 4294967296 by omega)
    have e8 : Int.tmod (IntKind.u64.wrap (Go.bits .xor .u32 h (l.getD i 0) * 16777619)) 4294967296 = dstep h (l.getD i 0) := by
      rw [wu64 (by omega) (by omega), Int.tmod_eq_emod_of_nonneg (by omega)]; rfl
    have hlt := dstep_lt h (l.getD i 0)
    refine Ev_succ ?_
    simp only [spec_DigestOf.l0]
    rw [hd, List.foldl_cons]
    refine Ev_t (by omega) (Ev_t (by omega) (Ev_t (by omega) ?_))
    rw [w64_succ (show i < l.length by omega) (by omega)]
    simp only [rd_nat, e3, e5, e8]
    exact ih (i + 1) _ (by omega) hlt.1 hlt.2
theorem digestS_ev (l : List Int) (hl : l.length ≤ 1048576) (hw : ∀ x ∈ l, 0 ≤ x ∧ x ≤ 255) : Ev (fun k => spec_DigestOf.f k l) (l.foldl dstep 2166136261) := by
  have h := digestS_loop l hl hw l.length 0 2166136261 (by omega) (by omega) (by omega)
  rw [List.drop_zero] at h
  simp only [spec_DigestOf.f]; exact h
theorem digestI_loop (l : List Int) (hl : l.length ≤ 1048576) (hw : ∀ x ∈ l, 0 ≤ x ∧ x ≤ 255) : ∀ (m i : Nat) (h : Int), i + m = l.length → Ev (fun k => impl_digest.l0 k h l (l.length : Int) (i : Int)) ((l.drop i).foldl dstep h) := by
  intro m
  induction m with
  | zero =>
    intro i h hi
    refine Ev_succ ?_
    simp only [impl_digest.l0]
    rw [List.drop_of_length_le (by omega)]
    exact Ev_f (by omega) (Ev.now _)
  | succ m ih =>
    intro i h hi
    have hd := drop_cons l i 0 (by omega)
    have hx := hw _ (getD_mem (xs := l) (i := i) 0 (by omega))
    have e4 : l.getD i 0 % 4294967296 = l.getD i 0 := by omega
    refine Ev_succ ?_
    simp only [impl_digest.l0]
    rw [hd, List.foldl_cons]
    refine Ev_t (by omega) (Ev_t (by omega) (Ev_t (by omega) ?_))
    rw [w64_succ (show i < l.length by omega) (by omega)]
    simp only [rd_nat, e4]
    exact ih (i + 1) _ (by omega)
theorem digestI_ev (h : Int) (l : List Int) (hl : l.length ≤ 1048576) (hw : ∀ x ∈ l, 0 ≤ x ∧ x ≤ 255) : Ev (fun k => impl_digest.f k h l) (l.foldl dstep h) := by
  have := digestI_loop l hl hw l.length 0 h (by omega)
  rw [List.drop_zero] at this
  simp only [impl_digest.f]; exact this

def hb : List S59 → List Int
  | [] => []
  | p :: c => (p.f0 / 256) % 256 :: p.f0 % 256 :: hb c
def cat : List S59 → List Int
  | [] => []
  | p :: c => p.f1 ++ cat c
def goodW (p : S59) : Prop := 0 ≤ p.f0 ∧ p.f0 ≤ 1000 ∧ p.f1.length = 128 ∧ ∀ x ∈ p.f1, 0 ≤ x ∧ x ≤ 255
theorem hb_ok : ∀ (l : List S59), (hb l).length = 2 * l.length ∧ ∀ x ∈ hb l, 0 ≤ x ∧ x ≤ 255 := by
  intro l
  induction l with
  | nil => exact ⟨rfl, by simp [hb]⟩
  | cons p c ih =>
    refine ⟨by simp only [hb, List.length_cons, ih.1]; omega, fun x hx => ?_⟩
    simp only [hb, List.mem_cons] at hx
    rcases hx with rfl | rfl | hx
    · omega
    · omega
    · exact ih.2 x hx
theorem cat_ok : ∀ (l : List S59), (∀ p ∈ l, goodW p) → (cat l).length = 128 * l.length ∧ ∀ x ∈ cat l, 0 ≤ x ∧ x ≤ 255 := by
  intro l
  induction l with
  | nil => intro _; exact ⟨rfl, by simp [cat]⟩
  | cons p c ih =>
    intro h
    obtain ⟨h1, h2⟩ := ih (fun q hq => h q (by simp [hq]))
    have hp := h p (by simp)
    refine ⟨by simp only [cat, List.length_append, List.length_cons, h1, hp.2.2.1]; omega, fun x hx => ?_⟩
    rcases List.mem_append.1 hx with hx | hx
    · exact hp.2.2.2 x hx
    · exact h2 x hx
theorem hdrS_loop (l : List S59) (hl : l.length ≤ 100) (hg : ∀ p ∈ l, goodW p) (r : List Int) : ∀ (m i : Nat) (acc : List Int), i + m = l.length → acc.length + 2 * m ≤ 1000 →
    Ev (fun k => spec_l4Header.l0 k l (acc ++ hb (l.drop i)) l (l.length : Int) (l.length : Int)) r → Ev (fun k => spec_l4Header.l0 k l acc l (l.length : Int) (i : Int)) r := by
  intro m
  induction m with
  | zero =>
    intro i acc hi _ h
    rw [List.drop_of_length_le (by omega)] at h
    simp only [hb, List.append_nil] at h
    rw [show i = l.length by omega]
    exact h
  | succ m ih =>
    intro i acc hi ha h
    have hd := drop_cons l i z59 (by omega)
    have hp := hg _ (getD_mem (xs := l) (i := i) z59 (by omega))
    have hrd := rd_T59_nat l i
    rw [hd] at h
    generalize l.getD i z59 = p at hp hrd h
    obtain ⟨p0, p1, _, _⟩ := hp
    have e1 : wrap64 (Int.tdiv p.f0 256) = p.f0 / 256 := by rw [Int.tdiv_eq_ediv_of_nonneg p0]; exact w64 (by omega) (by omega)
    refine Ev_succ ?_
    simp only [spec_l4Header.l0, hrd, e1, Option.bind_some]
    rw [w64_succ (show i < l.length by omega) (by omega)]
    refine Ev_t (by omega) (Ev_t (by omega) (Ev_t (by omega) (Ev_t (by simp; omega) (ih (i + 1) _ (by omega) (by simp; omega) ?_))))
    simpa [hb] using h
theorem hdrI_loop (l : List S59) (hl : l.length ≤ 100) (r : List Int) : ∀ (m i : Nat) (acc : List Int), i + m = l.length → acc.length + 2 * m ≤ 1000 →
    Ev (fun k => impl_header.l0 k l (acc ++ hb (l.drop i)) l (l.length : Int) (l.length : Int)) r → Ev (fun k => impl_header.l0 k l acc l (l.length : Int) (i : Int)) r := by
  intro m
  induction m with
  | zero =>
    intro i acc hi _ h
    rw [List.drop_of_length_le (by omega)] at h
    simp only [hb, List.append_nil] at h
    rw [show i = l.length by omega]
    exact h
  | succ m ih =>
    intro i acc hi ha h
    have hd := drop_cons l i z59 (by omega)
    have hrd := rd_T59_nat l i
    rw [hd] at h
    generalize l.getD i z59 = p at hrd h
    refine Ev_succ ?_
    simp only [impl_header.l0, hrd, impl_two.f, Option.bind_some]
    rw [w64_succ (show i < l.length by omega) (by omega)]
    refine Ev_t (by omega) (Ev_t (by omega) (Ev_t (by omega) (Ev_t (by simp; omega) (ih (i + 1) _ (by omega) (by simp; omega) ?_))))
    simpa [hb] using h
def four (d : Int) : List Int := [(d / 16777216) % 256, (d / 65536) % 256, (d / 256) % 256, d % 256]
theorem dataS_loop (l : List S59) (hl : l.length ≤ 100) (hg : ∀ p ∈ l, goodW p) (x3 : List Int) (h3 : x3.length ≤ 1000) : ∀ (m i : Nat) (acc : List Int), i + m = l.length → acc.length + 128 * m ≤ 100000 → (∀ x ∈ acc, 0 ≤ x ∧ x ≤ 255) →
    Ev (fun k => spec_l4Header.l1 k x3 acc l (l.length : Int) (i : Int)) (x3 ++ four ((acc ++ cat (l.drop i)).foldl dstep 2166136261)) := by
  intro m
  induction m with
  | zero =>
    intro i acc hi ha hw
    rw [List.drop_of_length_le (by omega)]
    simp only [cat, List.append_nil]
    refine Ev_succ ?_
    simp only [spec_l4Header.l1]
    exact Ev_f (by omega) (Ev.bind (digestS_ev acc (by omega) hw) (by simp only [Option.bind_some]; exact Ev_t (by simp; try omega) (Ev.now _)))
  | succ m ih =>
    intro i acc hi ha hw
    have hd := drop_cons l i z59 (by omega)
    have hp := hg _ (getD_mem (xs := l) (i := i) z59 (by omega))
    have hrd := rd_T59_nat l i
    rw [hd]
    generalize l.getD i z59 = p at hp hrd
    obtain ⟨_, _, p2, p3⟩ := hp
    have h := ih (i + 1) (acc ++ p.f1) (by omega) (by simp only [List.length_append]; omega) (fun x hx => (List.mem_append.1 hx).elim (hw x) (p3 x))
    refine Ev_succ ?_
    simp only [spec_l4Header.l1, hrd]
    rw [w64_succ (show i < l.length by omega) (by omega)]
    refine Ev_t (by omega) (Ev_t (by omega) (Ev_t (by omega) (Ev_t (by omega) ?_)))
    simp only [cat]
    rw [← List.append_assoc]
    exact h
theorem dataI_loop (l : List S59) (hl : l.length ≤ 100) (hg : ∀ p ∈ l, goodW p) (x3 : List Int) (h3 : x3.length ≤ 1000) : ∀ (m i : Nat) (d : Int), i + m = l.length →
    Ev (fun k => impl_header.l1 k x3 d l (l.length : Int) (i : Int)) (x3 ++ four ((cat (l.drop i)).foldl dstep d)) := by
  intro m
  induction m with
  | zero =>
    intro i d hi
    rw [List.drop_of_length_le (by omega)]
    simp only [cat, List.foldl_nil]
    refine Ev_succ ?_
    simp only [impl_header.l1, impl_four.f, Option.bind_some]
    exact Ev_f (by omega) (Ev_t (by simp; omega) (Ev.now _))
  | succ m ih =>
    intro i d hi
    have hd := drop_cons l i z59 (by omega)
    have hp := hg _ (getD_mem (xs := l) (i := i) z59 (by omega))
    have hrd := rd_T59_nat l i
    rw [hd]
    generalize l.getD i z59 = p at hp hrd
    obtain ⟨_, _, p2, p3⟩ := hp
    refine Ev_succ ?_
    simp only [impl_header.l1, hrd]
    rw [w64_succ (show i < l.length by omega) (by omega)]
    simp only [cat, List.foldl_append]
    exact Ev_t (by omega) (Ev_t (by omega) (Ev_t (by omega) (Ev.bind (digestI_ev d p.f1 (by omega) p3) (ih (i + 1) _ (by omega)))))
def hdr (l : List S59) : List Int := ([76, 79, 71, 49, (l.length : Int) % 256] ++ hb l) ++ List.replicate (124 - (5 + 2 * l.length)) 0
theorem hdr_ok (l : List S59) (hl : l.length ≤ 30) : (hdr l).length = 124 ∧ ∀ x ∈ hdr l, 0 ≤ x ∧ x ≤ 255 := by
  obtain ⟨h1, h2⟩ := hb_ok l
  refine ⟨by simp only [hdr, List.length_append, List.length_cons, List.length_nil, List.length_replicate, h1]; omega, fun x hx => ?_⟩
  simp only [hdr, List.mem_append, List.mem_cons, List.not_mem_nil, or_false, List.mem_replicate] at hx
  rcases hx with ((rfl | rfl | rfl | rfl | rfl) | hx) | ⟨_, rfl⟩
  · omega
  · omega
  · omega
  · omega
  · omega
  · exact h2 x hx
  · omega
theorem four_ok (d : Int) : (four d).length = 4 ∧ ∀ x ∈ four d, 0 ≤ x ∧ x ≤ 255 := by
  refine ⟨rfl, fun x hx => ?_⟩
  simp only [four, List.mem_cons, List.not_mem_nil, or_false] at hx
  rcases hx with rfl | rfl | rfl | rfl <;> omega
theorem same_header (l : List S59) (hl : l.length ≤ 30) (hg : ∀ p ∈ l, goodW p) : ∃ R : List Int, R.length = 128 ∧ (∀ x ∈ R, 0 ≤ x ∧ x ≤ 255) ∧ Ev (fun k => spec_l4Header.f k l) R ∧ Ev (fun k => impl_header.f k l) R := by
  obtain ⟨k1, k2⟩ := hdr_ok l hl
  obtain ⟨c1, c2⟩ := cat_ok l hg
  have hlen : ([76, 79, 71, 49, (l.length : Int) % 256] ++ hb l).length = 5 + 2 * l.length := by simp only [List.length_append, List.length_cons, List.length_nil, (hb_ok l).1]; try omega
  have e1 : wrap64 (124 - ((5 + 2 * l.length : Nat) : Int)) = ((124 - (5 + 2 * l.length) : Nat) : Int) := by rw [w64 (by omega) (by omega)]; omega
  obtain ⟨f1, f2⟩ := four_ok ((hdr l ++ cat l).foldl dstep 2166136261)
  refine ⟨hdr l ++ four ((hdr l ++ cat l).foldl dstep 2166136261), by simp only [List.length_append, k1, f1], fun x hx => (List.mem_append.1 hx).elim (k2 x) (f2 x), ?_, ?_⟩
  · simp only [spec_l4Header.f]
    refine hdrS_loop l (by omega) hg _ l.length 0 _ (by omega) (by simp; omega) ?_
    rw [List.drop_zero]
    refine Ev_succ ?_
    simp only [spec_l4Header.l0, hlen, e1, Int.toNat_natCast, Option.bind_some, List.nil_append]
    refine Ev_f (by omega) (Ev_t (by omega) (Ev_t (by omega) (Ev_t (by simp only [List.length_nil, List.length_append, List.length_replicate, hlen]; try omega) ?_)))
    have h := dataS_loop l (by omega) hg (hdr l) (by omega) l.length 0 (hdr l) (by omega) (by omega) k2
    rw [List.drop_zero] at h
    exact h
  · simp only [impl_header.f]
    refine hdrI_loop l (by omega) _ l.length 0 _ (by omega) (by simp; omega) ?_
    rw [List.drop_zero]
    refine Ev_succ ?_
    simp only [impl_header.l0, impl_padded.f, hlen, e1, Int.toNat_natCast]
    refine Ev_f (by omega) (Ev.bind (a := hdr l) (Ev_t (by omega) (Ev_t (by omega) (Ev.now _))) ?_)
    simp only [impl_DigestOf.f]
    refine Ev.bind (a := (hdr l).foldl dstep 2166136261) (Ev.bind (digestI_ev _ _ (by omega) k2) (Ev.now _)) ?_
    have h := dataI_loop l (by omega) hg (hdr l) (by omega) l.length 0 ((hdr l).foldl dstep 2166136261) (by omega)
    rw [List.drop_zero, ← List.foldl_append] at h
    exact h

theorem equal_loop (x y : List Int) (hl : x.length ≤ 1048576) (he : x.length = y.length) : ∀ (m i : Nat), i + m = x.length → Ev (fun k => slices_Equal_byte_byte.l0 k x y (x.length : Int) (i : Int)) (decide (x.drop i = y.drop i)) := by
  intro m
  induction m with
  | zero =>
    intro i hi
    refine Ev_succ ?_
    simp only [slices_Equal_byte_byte.l0]
    rw [List.drop_of_length_le (by omega), List.drop_of_length_le (by omega)]
    exact Ev_f (by omega) (Ev_eq (Ev.now _) (by simp))
  | succ m ih =>
    intro i hi
    have d1 := drop_cons x i 0 (by omega)
    have d2 := drop_cons y i 0 (by omega)
    refine Ev_succ ?_
    simp only [slices_Equal_byte_byte.l0, rd_nat]
    rw [d1, d2, w64_succ (show i < x.length by omega) (by omega)]
    refine Ev_t (by omega) (Ev_t (by omega) (Ev_t (by omega) (Ev_t (by omega) (Ev_ite (fun h => Ev_eq (ih (i + 1) (by omega)) ?_) (fun h => Ev_eq (Ev.now _) ?_)))))
    · rw [h]; simp
    · simp only [List.cons.injEq, h, false_and, decide_false]
theorem equal_ev (x y : List Int) (hl : x.length ≤ 1048576) : Ev (fun k => slices_Equal_byte_byte.f k x y) (decide (x = y)) := by
  simp only [slices_Equal_byte_byte.f]
  by_cases he : x.length = y.length
  · refine Ev_t (by omega) (Ev_eq (equal_loop x y hl he x.length 0 (by omega)) (by simp))
  · refine Ev_f (by omega) (Ev_eq (Ev.now _) ?_)
    have : ¬ x = y := fun h => he (by rw [h])
    simp [this]
theorem str_inj {x y : List Int} (hx : ∀ z ∈ x, 0 ≤ z ∧ z ≤ 255) (hy : ∀ z ∈ y, 0 ≤ z ∧ z ≤ 255) : (strOfNums x).toList = (strOfNums y).toList ↔ x = y := by
  constructor
  · intro h
    rw [ByteArray.toList_eq, ByteArray.toList_eq, strOfNums_data, strOfNums_data] at h
    have key : ∀ (x y : List Int), (∀ z ∈ x, 0 ≤ z ∧ z ≤ 255) → (∀ z ∈ y, 0 ≤ z ∧ z ≤ 255) → x.map (fun n => UInt8.ofNat n.toNat) = y.map (fun n => UInt8.ofNat n.toNat) → x = y := by
      intro x
      induction x with
      | nil => intro y _ _ h; cases y with
        | nil => rfl
        | cons b y => simp at h
      | cons a x ih =>
        intro y hx hy h
        cases y with
        | nil => simp at h
        | cons b y =>
          simp only [List.map_cons, List.cons.injEq] at h
          have ha := hx a (by simp)
          have hb := hy b (by simp)
          have h1 : (UInt8.ofNat a.toNat).toNat = (UInt8.ofNat b.toNat).toNat := by rw [h.1]
          rw [UInt8.toNat_ofNat', UInt8.toNat_ofNat'] at h1
          have h2 : a = b := by omega
          rw [h2, ih y (fun z hz => hx z (by simp [hz])) (fun z hz => hy z (by simp [hz])) h.2]
    exact key x y hx hy h
  · intro h; rw [h]
theorem or8 {x y : Int} (hx : 0 ≤ x) (hx' : x ≤ 255) (hy : 0 ≤ y) (hy' : y ≤ 255) : Go.bits .or .i64 (x * 256) y = x * 256 + y :=
  Go.bits_join .i64 62 (by decide) (fun n h0 h1 => by have : n < 4611686018427387904 := h1; exact (IntKind.wrap_i64 n).trans (by omega)) 8 (x * 256) y (by omega) (by omega) (by show x * 256 < 4611686018427387904; omega) hy (by show y < 256; omega) (by show y < 4611686018427387904; omega)
theorem rd_byte {l : List Int} (hw : ∀ x ∈ l, 0 ≤ x ∧ x ≤ 255) (i : Nat) : 0 ≤ rd l (i : Int) ∧ rd l (i : Int) ≤ 255 := by
  rw [rd_nat]
  by_cases h : i < l.length
  · exact hw _ (getD_mem 0 h)
  · rw [List.getD_eq_getElem?_getD, List.getElem?_eq_none (by omega)]; simp
theorem numberAt_val {l : List Int} (hw : ∀ x ∈ l, 0 ≤ x ∧ x ≤ 255) (hl : l.length = 128) (i : Nat) (hi : i + 1 < 128) : impl_numberAt.f l (i : Int) = some (rd l (i : Int) * 256 + rd l ((i + 1 : Nat) : Int)) := by
  have h1 := rd_byte hw i
  have h2 := rd_byte hw (i + 1)
  have e1 : wrap64 ((i : Int) + 1) = ((i + 1 : Nat) : Int) := by rw [w64 (by omega) (by omega)]; omega
  simp only [impl_numberAt.f, e1]
  rw [if_pos (by omega), if_pos (by omega), if_pos (by omega), if_pos (by omega)]
  rw [w64 (n := rd l (i : Int)) (by omega) (by omega), w64 (n := rd l (i : Int) * 256) (by omega) (by omega), w64 (n := rd l ((i + 1 : Nat) : Int)) (by omega) (by omega), or8 h1.1 h1.2 h2.1 h2.2]

def tailW (l : List S59) : List S59 := l ++ [⟨2, List.replicate 128 0⟩]
theorem midW (pre : List S59) (p : S59) (l : List S59) : (pre ++ p :: l).getD pre.length z59 = p := by simp
theorem clone_ev (l : List Int) (hl : l.length ≤ 1048576) : slices_Clone_byte_byte.f l = some l := by
  simp only [slices_Clone_byte_byte.f, Option.bind_some]
  rw [if_pos (by simp; omega)]; rfl
theorem implHome_ev (l : List S59) (hn : l.length ≤ 30) : ∀ (suf pre acc : List S59), l = pre ++ suf → (∀ p ∈ suf, p.f1.length = 128) → acc.length + suf.length ≤ 500 → Ev (fun k => impl_home.l0 k acc l (l.length : Int) (pre.length : Int)) (acc ++ tailW suf) := by
  intro suf
  induction suf with
  | nil =>
    intro pre acc hl _ ha
    subst hl
    refine Ev_succ ?_
    simp only [impl_home.l0]
    exact Ev_f (by simp) (Ev_t (by omega) (Ev_t (by simp only [List.length_nil] at ha; omega) (Ev_eq (Ev.now _) (by simp [tailW]))))
  | cons p suf ih =>
    intro pre acc hl hp ha
    have hq := hp p (by simp)
    simp only [List.length_cons] at ha
    have hlen : l.length = pre.length + suf.length + 1 := by rw [hl]; simp; omega
    have e := ih (pre ++ [p]) (acc ++ [⟨p.f0, p.f1⟩]) (by rw [hl]; simp) (fun q hm => hp q (by simp [hm])) (by simp; omega)
    have hg : l.getD pre.length z59 = p := by rw [hl]; exact midW _ _ _
    refine Ev_succ ?_
    simp only [impl_home.l0, rd_T59_nat, hg]
    rw [w64_succ (show pre.length < l.length by omega) (by omega)]
    simp only [List.length_append, List.length_singleton] at e
    exact Ev_t (by omega) (Ev_t (by omega) (Ev_t (by omega) (Ev_bind0 (clone_ev p.f1 (by omega)) (Ev_t (by omega) (Ev_eq e (by simp [tailW]))))))

theorem copyBlocks_ev (l : List (List Int)) (hl : l.length ≤ 1048576) (hz : ∀ p ∈ l, p.length ≤ 1048576) : Ev (fun k => impl_copyBlocks.f k l) l := by
  have key : ∀ (m i : Nat), i + m = l.length → Ev (fun k => impl_copyBlocks.l0 k (l.take i) l (l.length : Int) (i : Int)) l := by
    intro m
    induction m with
    | zero => intro i hi; refine Ev_succ ?_; simp only [impl_copyBlocks.l0]; exact Ev_f (by omega) (Ev_eq (Ev.now _) (by rw [List.take_of_length_le (by omega)]))
    | succ m ih =>
      intro i hi
      have hm := hz _ (getD_mem (xs := l) (i := i) [] (by omega))
      refine Ev_succ ?_
      simp only [impl_copyBlocks.l0, rd_L_nat]
      rw [w64_succ (show i < l.length by omega) (by omega)]
      have e := ih (i + 1) (by omega)
      rw [take_getD_succ l i [] (by omega)] at e
      exact Ev_t (by omega) (Ev_t (by omega) (Ev_t (by omega) (Ev_bind0 (clone_ev _ hm) (Ev_t (by simp only [List.length_take]; omega) e))))
  have h := key l.length 0 (by omega)
  simp only [impl_copyBlocks.f]
  exact h
theorem copied_ev (l : List (List Int)) (w : Int) (o : Bool) (t : Int) (hl : l.length ≤ 1048576) (hz : ∀ p ∈ l, p.length ≤ 1048576) : Ev (fun k => impl_Disk_copied.f k l w o t) (l, w, o, t) := by
  simp only [impl_Disk_copied.f]
  exact Ev.bind (copyBlocks_ev l hl hz) (Ev.now _)
theorem specOwn_ev (l : List (List Int)) (w : Int) (o : Bool) (t : Int) (hl : l.length ≤ 1048576) (hz : ∀ p ∈ l, p.length ≤ 1048576) : Ev (fun k => spec_l2Own.f k l w o t) (l, w, o, t) := by
  have key : ∀ (m i : Nat), i + m = l.length → Ev (fun k => spec_l2Own.l0 k (l.take i) l (l.length : Int) (i : Int) l w o t) (l, w, o, t) := by
    intro m
    induction m with
    | zero => intro i hi; refine Ev_succ ?_; simp only [spec_l2Own.l0]; exact Ev_f (by omega) (Ev_eq (Ev.now _) (by rw [List.take_of_length_le (by omega)]))
    | succ m ih =>
      intro i hi
      have hm := hz _ (getD_mem (xs := l) (i := i) [] (by omega))
      refine Ev_succ ?_
      simp only [spec_l2Own.l0, rd_L_nat, Option.bind_some]
      rw [w64_succ (show i < l.length by omega) (by omega)]
      have e := ih (i + 1) (by omega)
      rw [take_getD_succ l i [] (by omega)] at e
      exact Ev_t (by omega) (Ev_t (by omega) (Ev_t (by omega) (Ev_t (by simp only [List.length_nil]; omega) (Ev_t (by simp only [List.length_take]; omega) e))))
  have h := key l.length 0 (by omega)
  simp only [spec_l2Own.f]
  exact h

/-- A write on a disk that is on: whether the power stayed, and the disk. -/
def putB (l : List (List Int)) (w : Int) (o : Bool) (t a : Int) (d : List Int) : Bool × List (List Int) × Int × Bool × Int :=
  if t = 0 then (false, l, w, false, t) else (true, l.set a.toNat d, wrap64 (w + 1), o, if t > 0 then wrap64 (t - 1) else t)
theorem implPut_val (l : List (List Int)) (w : Int) (o : Bool) (t a : Int) (d : List Int) (h0 : 0 ≤ a) (h1 : a < (l.length : Int)) (hd : d.length ≤ 1048576) : impl_Disk_write.f l w o t a d = some (putB l w o t a d) := by
  simp only [impl_Disk_write.f, putB]
  by_cases c : t = 0
  · rw [if_pos c, if_pos c]
  · rw [if_neg c, if_neg c, clone_ev d hd]
    simp only [Option.bind_some]
    rw [if_pos h0, if_pos h1]
    by_cases c2 : t > 0
    · rw [if_pos c2, if_pos c2]
    · rw [if_neg c2, if_neg c2]
theorem specPut_val (l : List (List Int)) (w : Int) (t a : Int) (d : List Int) (h0 : 0 ≤ a) (h1 : a < (l.length : Int)) (hd : d.length ≤ 1048576) : spec_l2Put.f l w true t a d = some (putB l w true t a d) := by
  have hx : ([] : List Int).length + d.length < 140737488355328 := by simp only [List.length_nil]; omega
  simp only [spec_l2Put.f, putB]
  rw [if_pos trivial]
  by_cases c : t = 0
  · rw [if_pos c, if_pos c]
  · rw [if_neg c, if_neg c]
    simp only [Option.bind_some, List.nil_append]
    by_cases c2 : t > 0
    · rw [if_pos c2, if_pos c2, if_pos hx, if_pos h0, if_pos h1]
    · rw [if_neg c2, if_neg c2, if_pos hx, if_pos h0, if_pos h1]
theorem putB_sz (l : List (List Int)) (w : Int) (o : Bool) (t a : Int) (d : List Int) (hl : l.length ≤ 1048576) (hz : ∀ p ∈ l, p.length ≤ 1048576) (hd : d.length ≤ 1048576) : (putB l w o t a d).2.1.length ≤ 1048576 ∧ ∀ p ∈ (putB l w o t a d).2.1, p.length ≤ 1048576 := by
  unfold putB
  split
  · exact ⟨hl, hz⟩
  · refine ⟨by simpa using hl, fun p hp => ?_⟩
    rcases List.mem_or_eq_of_mem_set hp with h | h
    · exact hz p h
    · rw [h]; exact hd

def runP : List S59 → List (List Int) → Int → Int → Bool × List (List Int) × Int × Bool × Int
  | [], l, w, t => (true, l, w, true, t)
  | p :: r, l, w, t => if (putB l w true t p.f0 p.f1).1 = true then runP r (putB l w true t p.f0 p.f1).2.1 (putB l w true t p.f0 p.f1).2.2.1 (putB l w true t p.f0 p.f1).2.2.2.2 else putB l w true t p.f0 p.f1
def fitW (N : Nat) (p : S59) : Prop := 0 ≤ p.f0 ∧ p.f0 < (N : Int) ∧ p.f1.length ≤ 1000
theorem putB_len (l : List (List Int)) (w : Int) (o : Bool) (t a : Int) (d : List Int) : (putB l w o t a d).2.1.length = l.length := by
  unfold putB
  split
  · rfl
  · simp
theorem putB_on (l : List (List Int)) (w : Int) (t a : Int) (d : List Int) (h : (putB l w true t a d).1 = true) : (putB l w true t a d).2.2.2.1 = true := by
  unfold putB at *
  split at h
  · cases h
  · rename_i c; rw [if_neg c]
theorem runP_sz : ∀ (r : List S59) (l : List (List Int)) (w t : Int), l.length ≤ 1048576 → (∀ p ∈ l, p.length ≤ 1048576) → (∀ p ∈ r, p.f1.length ≤ 1000) → (runP r l w t).2.1.length ≤ 1048576 ∧ ∀ p ∈ (runP r l w t).2.1, p.length ≤ 1048576 := by
  intro r
  induction r with
  | nil => intro l w t hl hz _; exact ⟨hl, hz⟩
  | cons p r ih =>
    intro l w t hl hz hr
    obtain ⟨s1, s2⟩ := putB_sz l w true t p.f0 p.f1 hl hz (by have := hr p (by simp); omega)
    simp only [runP]
    split
    · exact ih _ _ _ s1 s2 (fun q hq => hr q (by simp [hq]))
    · exact ⟨s1, s2⟩
theorem implRun_ev (x : List S59) (hx : x.length ≤ 1000) : ∀ (suf pre : List S59) (l : List (List Int)) (w t : Int), x = pre ++ suf → (∀ p ∈ suf, fitW l.length p) →
    Ev (fun k => impl_Disk_writeAll.l0 k x (x.length : Int) (pre.length : Int) l w true t) (if (runP suf l w t).1 = true then 0 else 2, (runP suf l w t).2) := by
  intro suf
  induction suf with
  | nil =>
    intro pre l w t e _
    refine Ev_succ ?_
    simp only [impl_Disk_writeAll.l0, runP]
    exact Ev_f (by rw [e]; simp) (Ev.now _)
  | cons p r ih =>
    intro pre l w t e hf
    have hp := hf p (by simp)
    have hlen : x.length = pre.length + (r.length + 1) := by rw [e]; simp
    have g : rd_T59 x (pre.length : Int) = p := by rw [rd_T59_nat, e]; simp [List.getD]
    have wl : wrap64 ((pre.length : Int) + 1) = ((pre ++ [p]).length : Int) := by rw [w64 (by omega) (by omega)]; simp
    have P := implPut_val l w true t p.f0 p.f1 hp.1 hp.2.1 (by have := hp.2.2; omega)
    have I := ih (pre ++ [p]) (putB l w true t p.f0 p.f1).2.1 (putB l w true t p.f0 p.f1).2.2.1 (putB l w true t p.f0 p.f1).2.2.2.2 (by rw [e]; simp) (fun q hq => by rw [putB_len]; exact hf q (by simp [hq]))
    have ho := putB_on l w t p.f0 p.f1
    refine Ev_succ ?_
    simp only [impl_Disk_writeAll.l0, g, wl, runP]
    refine Ev_t (by omega) (Ev_t (by omega) (Ev_t (by omega) (Ev_bind0 P ?_)))
    refine Ev_ite (fun h => ?_) (fun h => Ev_eq (Ev.now _) (by simp only [if_neg h]))
    simp only [if_pos h]
    rw [ho h]
    exact I

theorem gB_at (N : Int) : ∀ (c : List S59) (q : Int), gB N q c = true → ∀ p ∈ c, p.f0 = 0 ∨ p.f0 = 1 ∨ (33 ≤ p.f0 ∧ p.f0 ≤ N - 1) := by
  intro c
  induction c with
  | nil => intro q _ p hp; simp at hp
  | cons x c ih =>
    intro q h p hp
    simp only [gB, okAt, Bool.and_eq_true, decide_eq_true_eq] at h
    rcases List.mem_cons.1 hp with rfl | hp
    · exact h.1
    · exact ih x.f0 h.2.2.2 p hp
theorem wait_idx (i : Nat) (h : i < 30) : wrap64 (5 + wrap64 (2 * (i : Int))) = ((5 + 2 * i : Nat) : Int) ∧ wrap64 (6 + wrap64 (2 * (i : Int))) = ((5 + 2 * i + 1 : Nat) : Int) ∧ wrap64 (3 + (i : Int)) = ((3 + i : Nat) : Int) := by
  have e : wrap64 (2 * (i : Int)) = 2 * (i : Int) := w64 (by omega) (by omega)
  rw [e]
  refine ⟨?_, ?_, ?_⟩
  · rw [w64 (by omega) (by omega)]; omega
  · rw [w64 (by omega) (by omega)]; omega
  · rw [w64 (by omega) (by omega)]; omega
def okW (p : S59) : Prop := p.f1.length = 128 ∧ ∀ x ∈ p.f1, 0 ≤ x ∧ x ≤ 255
theorem gB_okW (N : Int) (h1 : N ≤ 1000) : ∀ (c : List S59) (q : Int), gB N q c = true → (∀ p ∈ c, okW p) → ∀ p ∈ c, goodW p := by
  intro c
  induction c with
  | nil => intro q _ _ p hp; simp at hp
  | cons p c ih =>
    intro q h hw x hx
    simp only [gB, okAt, Bool.and_eq_true, decide_eq_true_eq] at h
    rcases List.mem_cons.1 hx with rfl | hx
    · have := hw x (by simp)
      exact ⟨by omega, by omega, this.1, this.2⟩
    · exact ih p.f0 h.2.2.2 (fun y hy => hw y (by simp [hy])) x hx
theorem wait_loop (b : List (List Int)) (w : Int) (o : Bool) (t : Int) (hd : diskB b w t = true) (hbl : b.length ≤ 1048576) (hz : ∀ p ∈ b, p.length = 128) (hy : ∀ p ∈ b, ∀ x ∈ p, 0 ≤ x ∧ x ≤ 255) (x3 : List Int) (h3 : x3.length = 128) (hw : ∀ x ∈ x3, 0 ≤ x ∧ x ≤ 255) (n : Nat) (hn : 1 ≤ n ∧ n ≤ 30) : ∀ (m i : Nat) (acc : List S59), i + m = n → acc.length = i → (∀ p ∈ acc, okW p) →
    ∃ R : List S59, R.length ≤ 30 ∧ (∀ p ∈ R, fitW b.length p ∧ p.f1.length = 128) ∧ Ev (fun k => spec_l4Waiting.l0 k x3 (n : Int) acc (i : Int) b w o t) R ∧ Ev (fun k => impl_Disk_waiting.l0 k x3 acc (n : Int) (i : Int) b w o t) R := by
  have hN := diskB_len hd
  intro m
  induction m with
  | zero =>
    intro i acc hi ha hok
    have hg1 := specGroup_ev acc (b.length : Int) (by omega) (by omega) (by omega)
    have hg2 := implGoodGroup_ev b w o t acc hbl (by omega)
    simp only [groupB, hd, Bool.true_and] at hg2
    cases hG : (decide (1 ≤ acc.length ∧ acc.length ≤ 30) && gB (b.length : Int) (-1) acc) with
    | false =>
      rw [hG] at hg1 hg2
      refine ⟨[], by simp, by simp, Ev_succ ?_, Ev_succ ?_⟩
      · simp only [spec_l4Waiting.l0]; exact Ev_f (by omega) (Ev.bind hg1 (Ev_f (by decide) (Ev.now _)))
      · simp only [impl_Disk_waiting.l0]; exact Ev_f (by omega) (Ev.bind hg2 (Ev_f (by decide) (Ev.now _)))
    | true =>
      rw [hG] at hg1 hg2
      simp only [Bool.and_eq_true, decide_eq_true_eq] at hG
      have hgw := gB_okW (b.length : Int) (by omega) acc (-1) hG.2 hok
      obtain ⟨H, r1, r2, u, v⟩ := same_header acc (by omega) hgw
      have he := equal_ev H x3 (by omega)
      by_cases c : H = x3
      · have hs := (str_inj r2 hw).2 c
        have hat := gB_at (b.length : Int) acc (-1) hG.2
        refine ⟨acc, by omega, fun p hp => ⟨⟨by have := hat p hp; omega, by have := hat p hp; omega, by have := (hok p hp).1; omega⟩, (hok p hp).1⟩, Ev_succ ?_, Ev_succ ?_⟩
        · simp only [spec_l4Waiting.l0]; exact Ev_f (by omega) (Ev.bind hg1 (Ev_t rfl (Ev.bind u (Ev_t hs (Ev.now _)))))
        · simp only [impl_Disk_waiting.l0]; exact Ev_f (by omega) (Ev.bind hg2 (Ev_t rfl (Ev.bind v (Ev.bind he (Ev_t (by simp [c]) (Ev.now _))))))
      · have hs : ¬ (strOfNums H).toList = (strOfNums x3).toList := fun h => c ((str_inj r2 hw).1 h)
        refine ⟨[], by simp, by simp, Ev_succ ?_, Ev_succ ?_⟩
        · simp only [spec_l4Waiting.l0]; exact Ev_f (by omega) (Ev.bind hg1 (Ev_t rfl (Ev.bind u (Ev_f hs (Ev.now _)))))
        · simp only [impl_Disk_waiting.l0]; exact Ev_f (by omega) (Ev.bind hg2 (Ev_t rfl (Ev.bind v (Ev.bind he (Ev_f (by simp [c]) (Ev.now _))))))
  | succ m ih =>
    intro i acc hi ha hok
    obtain ⟨e1, e2, e3⟩ := wait_idx i (by omega)
    have hm := getD_mem (xs := b) (i := 3 + i) [] (by omega)
    have hv := numberAt_val hw h3 (5 + 2 * i) (by omega)
    have b1 := rd_byte hw (5 + 2 * i)
    have b2 := rd_byte hw (5 + 2 * i + 1)
    have e4 : wrap64 (wrap64 (wrap64 (rd x3 ((5 + 2 * i : Nat) : Int)) * 256) + wrap64 (rd x3 ((5 + 2 * i + 1 : Nat) : Int))) = rd x3 ((5 + 2 * i : Nat) : Int) * 256 + rd x3 ((5 + 2 * i + 1 : Nat) : Int) := by
      rw [w64 (n := rd x3 ((5 + 2 * i : Nat) : Int)) (by omega) (by omega), w64 (n := rd x3 ((5 + 2 * i : Nat) : Int) * 256) (by omega) (by omega), w64 (n := rd x3 ((5 + 2 * i + 1 : Nat) : Int)) (by omega) (by omega), w64 (by omega) (by omega)]
    obtain ⟨R, hR, hF, u, v⟩ := ih (i + 1) (acc ++ [⟨rd x3 ((5 + 2 * i : Nat) : Int) * 256 + rd x3 ((5 + 2 * i + 1 : Nat) : Int), b.getD (3 + i) []⟩]) (by omega) (by simp [ha]) (fun p hp => by
      rcases List.mem_append.1 hp with hp | hp
      · exact hok p hp
      · rw [List.mem_singleton.1 hp]; exact ⟨hz _ hm, hy _ hm⟩)
    have hlen : (b.getD (3 + i) []).length = 128 := hz _ hm
    refine ⟨R, hR, hF, Ev_succ ?_, Ev_succ ?_⟩
    · simp only [spec_l4Waiting.l0, e1, e2, e3, e4, Option.bind_some, rd_L_nat, List.nil_append]
      rw [w64_succ (show i < n by omega) (by omega)]
      exact Ev_t (by omega) (Ev_t (by omega) (Ev_t (by omega) (Ev_t (by omega) (Ev_t (by omega) (Ev_t (by omega) (Ev_t (by omega) (Ev_t (by simp only [List.length_nil]; omega) (Ev_t (by omega) u))))))))
    · simp only [impl_Disk_waiting.l0, e1, e3, hv, Option.bind_some, rd_L_nat]
      rw [w64_succ (show i < n by omega) (by omega)]
      exact Ev_t (by omega) (Ev_t (by omega) (Ev_t (by omega) (Ev_t (by omega) v)))
theorem blocks_len {b : List (List Int)} {w t : Int} (h : diskB b w t = true) : ∀ p ∈ b, p.length = 128 := by
  simp only [diskB, blocksB, Bool.and_eq_true, decide_eq_true_eq, List.all_eq_true] at h
  exact h.1.2

theorem markB (l : List Int) (hl : l.length ≤ 1048576) (n0 : Int) (h0 : 0 ≤ n0) (h1 : n0 ≤ 4000000000000000000) : Ev (fun k => laws_markByteS.f k l n0) (n0 + (l.length : Int), (List.range l.length).map fun i : Nat => (n0 + (i : Int)) % 256) := by
  have h := fills_ev (g := fun k x i => laws_markByteS.l0 k x (n0 + i) i) l.length (fun i : Nat => (n0 + (i : Int)) % 256) (fun x => (n0 + (l.length : Int), x))
      (fun x i hx hi r hr => Ev_succ (by
        have e0 : wrap64 (n0 + (i : Int) + 1) = n0 + ((i + 1 : Nat) : Int) := by rw [w64 (by omega) (by omega)]; omega
        simp only [laws_markByteS.l0, Int.toNat_natCast, e0]
        rw [w64_succ hi (by omega)]
        exact Ev_t (by omega) (Ev_t (by omega) hr)))
      (fun x hx => Ev_succ (by simp only [laws_markByteS.l0]; exact Ev_f (by omega) (Ev.now _)))
      l rfl
  refine Ev.congr (fun k => ?_) h
  simp only [laws_markByteS.f, Int.add_zero]

theorem heldB (n : Nat) (hl : n ≤ 1048576) (n0 : Int) (h0 : 0 ≤ n0) (h1 : n0 ≤ 4000000000000000000) : Ev (fun k => laws_heldByteS.f k ((List.range n).map fun i : Nat => (n0 + (i : Int)) % 256) n0) (n0 + (n : Int)) := by
  have h := all_ev (g := fun k i => laws_heldByteS.l0 k ((List.range n).map fun i : Nat => (n0 + (i : Int)) % 256) (n0 + i) i) (r := n0 + (n : Int)) n
      (fun i hi hr => Ev_succ (by
        simp only [laws_heldByteS.l0, List.length_map, List.length_range]
        have e1 : wrap64 (n0 + (i : Int) + 1) = n0 + ((i + 1 : Nat) : Int) := by rw [w64 (by omega) (by omega)]; omega
        have e2 : rd ((List.range n).map fun i : Nat => (n0 + (i : Int)) % 256) (i : Int) = (n0 + (i : Int)) % 256 := by
          rw [rd_nat]; simp [List.getD, hi]
        rw [e1, e2, w64_succ hi (by omega)]
        exact Ev_t (by omega) (Ev_t (by omega) (Ev_t rfl hr))))
      (Ev_succ (by simp only [laws_heldByteS.l0, List.length_map, List.length_range]; exact Ev_f (by omega) (Ev.now _)))
  refine Ev.congr (fun k => ?_) h
  simp only [laws_heldByteS.f, Int.add_zero]

def mkS : List (List Int) → Int → List (List Int) × Int
  | [], n => ([], n)
  | p :: l, n => (((List.range p.length).map fun i : Nat => (n + (i : Int)) % 256) :: (mkS l (n + (p.length : Int))).1, (mkS l (n + (p.length : Int))).2)
theorem mkS_le : ∀ (l : List (List Int)) (n : Int), n ≤ (mkS l n).2 ∧ (mkS l n).1.length = l.length
  | [], n => by simp [mkS]
  | p :: l, n => by
    have := mkS_le l (n + (p.length : Int))
    simp only [mkS, List.length_cons]
    omega
theorem getD_mid (pre : List (List Int)) (p : List Int) (l : List (List Int)) : (pre ++ p :: l).getD pre.length [] = p := by simp
theorem set_mid (pre : List (List Int)) (p q : List Int) (l : List (List Int)) : (pre ++ p :: l).set pre.length q = (pre ++ [q]) ++ l := by simp
theorem markSS_mk : ∀ (suf pre : List (List Int)) (n0 : Int), (pre ++ suf).length ≤ 1048576 → (∀ p ∈ suf, p.length ≤ 1048576) → 0 ≤ n0 → n0 + (suf.length : Int) * 1048576 ≤ 4000000000000000000 →
    Ev (fun k => laws_markByteSS.l0 k (pre ++ suf) n0 (pre.length : Int)) ((mkS suf n0).2, pre ++ (mkS suf n0).1) := by
  intro suf
  induction suf with
  | nil =>
    intro pre n0 hl _ h0 h1
    refine Ev_succ ?_
    simp only [laws_markByteSS.l0]
    exact Ev_f (by simp) (Ev.now _)
  | cons p l ih =>
    intro pre n0 hl hp h0 h1
    have hq := hp p (by simp)
    simp only [List.length_append, List.length_cons] at hl h1
    have e := ih (pre ++ [(List.range p.length).map fun i : Nat => (n0 + (i : Int)) % 256]) (n0 + (p.length : Int)) (by simp; omega) (fun q hm => hp q (by simp [hm])) (by omega) (by omega)
    refine Ev_succ ?_
    simp only [laws_markByteSS.l0, Int.toNat_natCast, getD_mid]
    rw [w64_succ (show pre.length < pre.length + 1 by omega) (by omega)]
    refine Ev_t (by simp; omega) (Ev_t (by omega) (Ev.bind (markB p hq n0 h0 (by omega)) ?_))
    simp only [set_mid]
    simp only [List.length_append, List.length_singleton] at e
    exact Ev_eq e (by simp [mkS])
theorem heldSS_mk : ∀ (suf pre : List (List Int)) (n0 : Int), (pre ++ suf).length ≤ 1048576 → (∀ p ∈ suf, p.length ≤ 1048576) → 0 ≤ n0 → n0 + (suf.length : Int) * 1048576 ≤ 4000000000000000000 →
    Ev (fun k => laws_heldByteSS.l0 k (pre ++ (mkS suf n0).1) n0 (pre.length : Int)) (mkS suf n0).2 := by
  intro suf
  induction suf with
  | nil =>
    intro pre n0 hl _ h0 h1
    refine Ev_succ ?_
    simp only [laws_heldByteSS.l0]
    exact Ev_f (by simp [mkS]) (Ev.now _)
  | cons p l ih =>
    intro pre n0 hl hp h0 h1
    have hq := hp p (by simp)
    simp only [List.length_append, List.length_cons] at hl h1
    have e := ih (pre ++ [(List.range p.length).map fun i : Nat => (n0 + (i : Int)) % 256]) (n0 + (p.length : Int)) (by simp; omega) (fun q hm => hp q (by simp [hm])) (by omega) (by omega)
    refine Ev_succ ?_
    simp only [laws_heldByteSS.l0, rd_L_nat, mkS, getD_mid]
    rw [w64_succ (show pre.length < pre.length + 1 by omega) (by omega)]
    refine Ev_t (by simp; omega) (Ev_t (by omega) (Ev.bind (heldB p.length hq n0 h0 (by omega)) (Ev_f (by omega) ?_)))
    simp only [List.length_append, List.length_singleton, List.append_assoc, List.singleton_append] at e
    exact e
theorem markDisk_ev (l : List (List Int)) (w : Int) (o : Bool) (t : Int) (hl : l.length ≤ 1048576) (hz : ∀ p ∈ l, p.length ≤ 1048576) : Ev (fun k => laws_markDisk.f k l w o t 1) ((mkS l 1).2, (mkS l 1).1) := by
  have e := markSS_mk l [] 1 (by simpa using hl) hz (by omega) (by omega)
  simp only [laws_markDisk.f, laws_markByteSS.f]
  exact Ev.bind e (Ev.now _)
theorem heldDisk_ev (l : List (List Int)) (w : Int) (o : Bool) (t : Int) (hl : l.length ≤ 1048576) (hz : ∀ p ∈ l, p.length ≤ 1048576) : Ev (fun k => laws_heldDisk.f k (mkS l 1).1 w o t 1) (mkS l 1).2 := by
  have e := heldSS_mk l [] 1 (by simpa using hl) hz (by omega) (by omega)
  have := (mkS_le l 1).1
  simp only [laws_heldDisk.f, laws_heldByteSS.f]
  exact Ev.bind e (Ev_f (by omega) (Ev.now _))

theorem mkS_hi : ∀ (l : List (List Int)) (n : Int), (∀ p ∈ l, p.length ≤ 1048576) → (mkS l n).2 ≤ n + (l.length : Int) * 1048576
  | [], n, _ => by simp [mkS]
  | p :: l, n, h => by
    have h1 := mkS_hi l (n + (p.length : Int)) (fun q hq => h q (by simp [hq]))
    have h2 := h p (by simp)
    simp only [mkS, List.length_cons]
    omega

def zeroW : S59 := ⟨2, List.replicate 128 0⟩
theorem specRec_ev (x : List S59) (hx : x.length ≤ 1000) (h0 : 0 < x.length) : ∀ (suf pre : List S59) (l : List (List Int)) (w t : Int), x = pre ++ suf → 2 < l.length → (∀ p ∈ suf, fitW l.length p) →
    Ev (fun k => spec_l4Recover.l0 k x x (x.length : Int) (pre.length : Int) l w true t) ((x.length : Int), runP (suf ++ [zeroW]) l w t) := by
  intro suf
  induction suf with
  | nil =>
    intro pre l w t e h2 _
    have P := specPut_val l w t 2 (List.replicate 128 0) (by omega) (by omega) (by simp)
    have ho := putB_on l w t 2 (List.replicate 128 0)
    refine Ev_succ ?_
    simp only [spec_l4Recover.l0, List.nil_append, runP, zeroW]
    refine Ev_f (by rw [e]; simp) (Ev_t (by omega) (Ev_t (by omega) (Ev_bind0 P ?_)))
    refine Ev_ite (fun h => Ev_eq (Ev.now _) ?_) (fun h => Ev_eq (Ev.now _) ?_)
    · rw [if_pos h, ho h]
    · rw [if_neg h]; exact Prod.ext rfl (Prod.ext (show false = (putB l w true t 2 (List.replicate 128 0)).1 by simpa using h) rfl)
  | cons p r ih =>
    intro pre l w t e h2 hf
    have hp := hf p (by simp)
    have hlen : x.length = pre.length + (r.length + 1) := by rw [e]; simp
    have g : rd_T59 x (pre.length : Int) = p := by rw [rd_T59_nat, e]; simp [List.getD]
    have wl : wrap64 ((pre.length : Int) + 1) = ((pre ++ [p]).length : Int) := by rw [w64 (by omega) (by omega)]; simp
    have P := specPut_val l w t p.f0 p.f1 hp.1 hp.2.1 (by have := hp.2.2; omega)
    have I := ih (pre ++ [p]) (putB l w true t p.f0 p.f1).2.1 (putB l w true t p.f0 p.f1).2.2.1 (putB l w true t p.f0 p.f1).2.2.2.2 (by rw [e]; simp) (by rw [putB_len]; exact h2) (fun q hq => by rw [putB_len]; exact hf q (by simp [hq]))
    have ho := putB_on l w t p.f0 p.f1
    refine Ev_succ ?_
    simp only [spec_l4Recover.l0, g, wl, List.cons_append, runP]
    refine Ev_t (by omega) (Ev_t (by omega) (Ev_t (by omega) (Ev_bind0 P ?_)))
    refine Ev_ite (fun h => ?_) (fun h => Ev_eq (Ev.now _) (by rw [if_neg h]; exact Prod.ext rfl (Prod.ext (show false = (putB l w true t p.f0 p.f1).1 by simpa using h) rfl)))
    rw [if_pos h, ho h]
    exact I
theorem same_wait (b : List (List Int)) (w : Int) (o : Bool) (t : Int) (hd : diskB b w t = true) (hbl : b.length ≤ 1048576) (hy : ∀ p ∈ b, ∀ x ∈ p, 0 ≤ x ∧ x ≤ 255) :
    ∃ R : List S59, R.length ≤ 30 ∧ (∀ p ∈ R, fitW b.length p ∧ p.f1.length = 128) ∧ Ev (fun k => spec_l4Waiting.f k b w o t) R ∧ Ev (fun k => impl_Disk_waiting.f k b w o t) R := by
  have hN := diskB_len hd
  have hz := blocks_len hd
  have hm := getD_mem (xs := b) (i := 2) [] (by omega)
  have h2 : rd_L1 b 2 = b.getD 2 [] := rd_L_nat b 2
  have h3 := hz _ hm
  have hw := hy _ hm
  generalize b.getD 2 [] = x3 at h2 h3 hw
  have b4 : 0 ≤ rd x3 4 ∧ rd x3 4 ≤ 255 := rd_byte hw 4
  have e4 : wrap64 (rd x3 4) = rd x3 4 := w64 (by omega) (by omega)
  simp only [spec_l4Waiting.f, impl_Disk_waiting.f, h2, e4, l1In_eq, within_eq, Option.bind_some, decide_eq_true_eq]
  by_cases c : 1 ≤ rd x3 4 ∧ rd x3 4 ≤ 30
  · obtain ⟨n, hn⟩ : ∃ n : Nat, rd x3 4 = (n : Int) := ⟨(rd x3 4).toNat, by omega⟩
    rw [hn] at c ⊢
    obtain ⟨R, r1, r2, u, v⟩ := wait_loop b w o t hd hbl hz hy x3 h3 hw n (by omega) n 0 [] (by omega) rfl (by simp)
    exact ⟨R, r1, r2, Ev_t (by omega) (Ev_t (by omega) (Ev_t c u)), Ev_t (by omega) (Ev_t (by omega) (Ev_t c v))⟩
  · exact ⟨[], by simp, by simp, Ev_t (by omega) (Ev_t (by omega) (Ev_f c (Ev.now _))), Ev_t (by omega) (Ev_t (by omega) (Ev_f c (Ev.now _)))⟩
theorem same_Recover (b : List (List Int)) (w : Int) (o : Bool) (t : Int) (hb : b.length ≤ 1048576) (hz0 : ∀ p ∈ b, p.length ≤ 1048576) (hy : ∀ p ∈ b, ∀ x ∈ p, 0 ≤ x ∧ x ≤ 255) :
    ∃ r : List (List Int) × Int × Bool × Int × Int × Int, (r.1.length ≤ 1048576 ∧ ∀ p ∈ r.1, p.length ≤ 1048576) ∧ Ev (fun k => spec_Recover.f k b w o t) r ∧ Ev (fun k => impl_Recover.f k b w o t) r := by
  simp only [spec_Recover.f, impl_Recover.f]
  have e1 := specGoodDisk_ev b w o t hb
  have e2 := implGoodDisk_ev b w o t hb
  cases hd : diskB b w t with
  | false =>
    rw [hd] at e1 e2
    refine ⟨([], 0, false, 0, 0, 1), ⟨by simp, by simp⟩, Ev.bind e1 (Ev_f (by decide) (Ev_succ ?_)), Ev.bind e2 (Ev_f (by decide) (Ev_succ ?_))⟩
    · simp only [spec_Recover.j0]; exact Ev_t trivial (Ev.now _)
    · simp only [impl_Recover.j0]; exact Ev_t trivial (Ev.now _)
  | true =>
    rw [hd] at e1 e2
    have hN := diskB_len hd
    by_cases hc : w > 999999900
    · refine ⟨([], 0, false, 0, 0, 1), ⟨by simp, by simp⟩, Ev.bind e1 (Ev_t rfl (Ev_succ ?_)), Ev.bind e2 (Ev_t rfl (Ev_succ ?_))⟩
      · simp only [spec_Recover.j0]; exact Ev_t (decide_eq_true hc) (Ev.now _)
      · simp only [impl_Recover.j0]; exact Ev_t (decide_eq_true hc) (Ev.now _)
    · have own := specOwn_ev b w o t hb hz0
      have cop := copied_ev b w o t hb hz0
      cases o with
      | false =>
        refine ⟨(b, w, false, t, 0, 2), ⟨hb, hz0⟩, Ev.bind e1 (Ev_t rfl (Ev_succ ?_)), Ev.bind e2 (Ev_t rfl (Ev_succ ?_))⟩
        · simp only [spec_Recover.j0]
          refine Ev_f (by simpa using hc) (Ev.bind own (Ev.bind (a := (0, false, b, w, false, t)) ?_ (Ev_f (by simp) (Ev.now _))))
          simp only [spec_l4Recover.f]
          exact Ev_f (by decide) (Ev.now _)
        · simp only [impl_Recover.j0]
          exact Ev_f (by simpa using hc) (Ev_f (by decide) (Ev.bind cop (Ev.now _)))
      | true =>
        obtain ⟨R, r1, r2, u, v⟩ := same_wait b w true t hd hb hy
        by_cases hR : R.length = 0
        · obtain rfl : R = [] := List.eq_nil_of_length_eq_zero hR
          refine ⟨(b, w, true, t, 0, 0), ⟨hb, hz0⟩, Ev.bind e1 (Ev_t rfl (Ev_succ ?_)), Ev.bind e2 (Ev_t rfl (Ev_succ ?_))⟩
          · simp only [spec_Recover.j0]
            refine Ev_f (by simpa using hc) (Ev.bind own (Ev.bind (a := (0, true, b, w, true, t)) ?_ (Ev_t rfl (Ev.now _))))
            simp only [spec_l4Recover.f]
            refine Ev_t trivial (Ev.bind u (Ev_succ ?_))
            simp only [spec_l4Recover.l0]
            exact Ev_f (by simp) (Ev_f (by simp) (Ev.now _))
          · simp only [impl_Recover.j0]
            exact Ev_f (by simpa using hc) (Ev_t trivial (Ev.bind cop (Ev.bind v (Ev_t (by simp) (Ev.now _)))))
        · have hfit : ∀ p ∈ R, fitW b.length p := fun p hp => (r2 p hp).1
          have h128 : ∀ p ∈ R, p.f1.length = 128 := fun p hp => (r2 p hp).2
          have hzf : fitW b.length zeroW := ⟨show (0 : Int) ≤ 2 by decide, show (2 : Int) < _ by omega, by simp [zeroW]⟩
          have hft : ∀ p ∈ R ++ [zeroW], fitW b.length p := by
            intro p hp
            rcases List.mem_append.1 hp with hp | hp
            · exact hfit p hp
            · rw [List.mem_singleton.1 hp]; exact hzf
          have S := specRec_ev R (by omega) (by omega) R [] b w t rfl (by omega) hfit
          have Hm := implHome_ev R (by omega) R [] [] rfl h128 (by simp; omega)
          have I := implRun_ev (R ++ [zeroW]) (by simp; omega) (R ++ [zeroW]) [] b w t rfl hft
          have hm : Ev (fun k => impl_home.f k R) (R ++ [zeroW]) := by
            simp only [impl_home.f]; exact Ev_eq Hm (by simp [tailW, zeroW])
          have wa : Ev (fun k => impl_Disk_writeAll.f k b w true t (R ++ [zeroW])) (if (runP (R ++ [zeroW]) b w t).1 = true then 0 else 2, (runP (R ++ [zeroW]) b w t).2) := by
            simp only [impl_Disk_writeAll.f]; exact Ev_t trivial I
          obtain ⟨z1, z2⟩ := runP_sz (R ++ [zeroW]) b w t hb hz0 (fun p hp => (hft p hp).2.2)
          have S2 : Ev (fun k => spec_l4Recover.f k b w true t) ((R.length : Int), runP (R ++ [zeroW]) b w t) := by
            simp only [spec_l4Recover.f]; exact Ev_t trivial (Ev.bind u S)
          generalize runP (R ++ [zeroW]) b w t = z at S2 wa z1 z2
          obtain ⟨c, l', w', o', t'⟩ := z
          simp only at z1 z2
          refine ⟨(l', w', o', t', if c = true then (R.length : Int) else 0, if c = true then 0 else 2), ⟨z1, z2⟩, Ev.bind e1 (Ev_t rfl (Ev_succ ?_)), Ev.bind e2 (Ev_t rfl (Ev_succ ?_))⟩
          · simp only [spec_Recover.j0]
            refine Ev_f (by simpa using hc) (Ev.bind own (Ev.bind S2 ?_))
            cases c with
            | true => exact Ev_t rfl (Ev_eq (Ev.now _) (by simp))
            | false => exact Ev_f (by simp) (Ev_eq (Ev.now _) (by simp))
          · simp only [impl_Recover.j0]
            refine Ev_f (by simpa using hc) (Ev_t trivial (Ev.bind cop (Ev.bind v (Ev_f (by omega) (Ev.bind hm (Ev.bind wa ?_))))))
            cases c with
            | true => exact Ev_t (by simp) (Ev_eq (Ev.now _) (by simp))
            | false => exact Ev_f (by simp) (Ev_eq (Ev.now _) (by simp))
end OfFnExactRecover
open OfFnExactRecover
theorem FnExactRecover : Stated := by
  intro b w o t wb _ _ _
  refine Ev.rounds ?_
  simp only [laws_FnExactRecover.f]
  obtain ⟨r, h1, h2, h3⟩ := szDisk_ev b w o t ⟨wb.1, fun p hp => (wb.2 p hp).1⟩ 1048576 (by omega) (by omega)
  refine Ev.bind h1 (Ev_ite (fun _ => Ev.now _) (fun c => ?_))
  obtain ⟨hb, hz⟩ := h3 (by omega)
  have f1 := toDisk_ev b w o t hb hz
  obtain ⟨⟨l', w', o', t', n', c'⟩, ⟨ha, hb'⟩, p, q⟩ := same_Recover b w o t hb hz (fun x hx y hy => wf8 ((wb.2 x hx).2 y hy))
  simp only at ha hb'
  have ee := eqDisk_ev l' w' o' t' ha hb'
  have em := markDisk_ev b w o t hb hz
  have em2 := markDisk_ev l' w' o' t' ha hb'
  have eh := heldDisk_ev l' w' o' t' ha hb'
  have hn := (mkS_le b 1).1
  have hn2 := (mkS_le l' 1).1
  refine Ev.bind f1 (Ev.bind p (Ev.bind f1 (Ev.bind q (Ev.bind ee (Ev_t rfl (Ev_t rfl (Ev_succ ?_)))))))
  simp only [laws_FnExactRecover.j0]
  refine Ev_f (by simp) (Ev.bind f1 (Ev.bind (eqDisk_ev b w o t hb hz) (Ev_t rfl (Ev.bind em (Ev_f (by simp only; omega) (Ev.bind ee (Ev_t rfl (Ev_t trivial (Ev_succ ?_)))))))))
  simp only [laws_FnExactRecover.j1]
  refine Ev_f (by simp) (Ev.bind em2 (Ev.bind eh (Ev_f (by omega) (Ev_t rfl (Ev.bind f1 (Ev.bind q (Ev.bind ee (Ev_t rfl (Ev_t rfl (Ev_succ ?_))))))))))
  simp only [laws_FnExactRecover.j2]
  exact Ev_f (by simp) (Ev.bind eh (Ev_f (by omega) (Ev_t rfl (Ev.now _))))
end Go.Proofs.Ytfjboeeogjepeaa.Pure
