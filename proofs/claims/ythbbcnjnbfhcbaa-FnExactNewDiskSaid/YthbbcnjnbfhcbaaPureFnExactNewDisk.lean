/-
The pure statement of FnExactNewDisk: the printed functions of the program and of the reference answer alike for every argument within the bounds that the statement tells.
-/
import Derived.Test.YthbbcnjnbfhcbaaWfFnExactNewDisk
namespace Go.Proofs.Ythbbcnjnbfhcbaa.Pure
open Go Go.RowKit Go.Proofs.Ythbbcnjnbfhcbaa.PFnExactNewDisk Go.Proofs.YthbbcnjnbfhcbaaW.PrintWords Go.Proofs.YthbbcnjnbfhcbaaW.PrintLast Go.Proofs.YthbbcnjnbfhcbaaW.PrintMore Go.Proofs.Ythbbcnjnbfhcbaa.Lib
set_option linter.unusedVariables false
set_option linter.unusedSimpArgs false
namespace OfFnExactNewDisk
theorem within_eq (a b c : Int) : impl_within.f a b c = some (decide (b ≤ a ∧ a ≤ c)) := by
  simp only [impl_within.f]
  by_cases h : b ≤ a <;> simp [h]

theorem l1In_eq (a b c : Int) : spec_l1In.f a b c = some (decide (b ≤ a ∧ a ≤ c)) := by
  simp only [spec_l1In.f]
  by_cases h : b ≤ a <;> simp [h]

theorem eqByteS_ev (l : List Int) (hl : l.length ≤ 4611686018427387904) : Ev (fun k => laws_eqByteS.f k l l) true := by
  have h := all_ev (g := fun k i => laws_eqByteS.l0 k l l i) (r := true) l.length
    (fun i hi hr => Ev_succ (by
      simp only [laws_eqByteS.l0]
      refine Ev_t (by omega) (Ev_t (by omega) (Ev_t (by omega) (Ev_t trivial ?_)))
      rw [w64_succ hi (by omega)]; exact hr))
    (Ev_succ (by simp only [laws_eqByteS.l0]; exact Ev_f (by omega) (Ev.now _)))
  refine Ev.congr (fun k => ?_) h
  simp only [laws_eqByteS.f]; rw [if_pos trivial]

theorem rd_L_nat (xs : List (List Int)) (i : Nat) : rd_L1 xs (i : Int) = xs.getD i [] := by simp [rd_L1]
theorem eqByteSS_ev (l : List (List Int)) (hl : l.length ≤ 1048576) (hz : ∀ p ∈ l, p.length ≤ 1048576) : Ev (fun k => laws_eqByteSS.f k l l) true := by
  have h := all_ev (g := fun k i => laws_eqByteSS.l0 k l l i) (r := true) l.length
    (fun i hi hr => Ev_succ (by
      simp only [laws_eqByteSS.l0, rd_L_nat]
      refine Ev_t (by omega) (Ev_t (by omega) (Ev_t (by omega) (Ev.bind (eqByteS_ev _ (by have := hz _ (getD_mem [] hi); omega)) (Ev_t rfl ?_))))
      rw [w64_succ hi (by omega)]; exact hr))
    (Ev_succ (by simp only [laws_eqByteSS.l0]; exact Ev_f (by omega) (Ev.now _)))
  refine Ev.congr (fun k => ?_) h
  simp only [laws_eqByteSS.f]; rw [if_pos trivial]

theorem eqDisk_ev (l : List (List Int)) (w : Int) (o : Bool) (t : Int) (hl : l.length ≤ 1048576) (hz : ∀ p ∈ l, p.length ≤ 1048576) : Ev (fun k => laws_eqDisk.f k l w o t l w o t) true := by
  simp only [laws_eqDisk.f]
  exact Ev.bind (eqByteSS_ev l hl hz) (Ev_t rfl (Ev_t trivial (Ev_f (by simp) (Ev_t trivial (Ev.now _)))))

theorem markB (l : List Int) (hl : l.length ≤ 1048576) (n0 : Int) (h0 : 0 ≤ n0) (h1 : n0 ≤ 4000000000000000000) : Ev (fun k => laws_markByteS.f k l n0) (n0 + (l.length : Int), (List.range l.length).map fun i : Nat => (n0 + (i : Int)) % 256) := by
  have h := fills_ev (g := fun k x i => laws_markByteS.l0 k x (n0 + i) i) l.length (fun i : Nat => (n0 + (i : Int)) % 256) (fun x => (n0 + (l.length : Int), x))
      (fun x i hx hi r hr => Ev_succ (by
        have e0 : wrap64 (n0 + (i : Int) + 1) = n0 + ((i + 1 : Nat) : Int) := by rw [w64 (by omega) (by omega)]; omega
        simp only [laws_markByteS.l0, Int.toNat_natCast, e0]
        rw [w64_succ hi (by omega)]
        exact Ev_t (by omega) (Ev_t (by omega) hr)))
      (fun x hx => Ev_succ (by simp only [laws_markByteS.l0]; exact Ev_f (by omega) (Ev.now _)))
      l rfl
  refine Ev.congr (fun k => ?_) h
  simp only [laws_markByteS.f, Int.add_zero]

theorem heldB (n : Nat) (hl : n ≤ 1048576) (n0 : Int) (h0 : 0 ≤ n0) (h1 : n0 ≤ 4000000000000000000) : Ev (fun k => laws_heldByteS.f k ((List.range n).map fun i : Nat => (n0 + (i : Int)) % 256) n0) (n0 + (n : Int)) := by
  have h := all_ev (g := fun k i => laws_heldByteS.l0 k ((List.range n).map fun i : Nat => (n0 + (i : Int)) % 256) (n0 + i) i) (r := n0 + (n : Int)) n
      (fun i hi hr => Ev_succ (by
        simp only [laws_heldByteS.l0, List.length_map, List.length_range]
        have e1 : wrap64 (n0 + (i : Int) + 1) = n0 + ((i + 1 : Nat) : Int) := by rw [w64 (by omega) (by omega)]; omega
        have e2 : rd ((List.range n).map fun i : Nat => (n0 + (i : Int)) % 256) (i : Int) = (n0 + (i : Int)) % 256 := by
          rw [rd_nat]; simp [List.getD, hi]
        rw [e1, e2, w64_succ hi (by omega)]
        exact Ev_t (by omega) (Ev_t (by omega) (Ev_t rfl hr))))
      (Ev_succ (by simp only [laws_heldByteS.l0, List.length_map, List.length_range]; exact Ev_f (by omega) (Ev.now _)))
  refine Ev.congr (fun k => ?_) h
  simp only [laws_heldByteS.f, Int.add_zero]

def mkS : List (List Int) → Int → List (List Int) × Int
  | [], n => ([], n)
  | p :: l, n => (((List.range p.length).map fun i : Nat => (n + (i : Int)) % 256) :: (mkS l (n + (p.length : Int))).1, (mkS l (n + (p.length : Int))).2)
theorem mkS_le : ∀ (l : List (List Int)) (n : Int), n ≤ (mkS l n).2 ∧ (mkS l n).1.length = l.length
  | [], n => by simp [mkS]
  | p :: l, n => by
    have := mkS_le l (n + (p.length : Int))
    simp only [mkS, List.length_cons]
    omega
theorem getD_mid (pre : List (List Int)) (p : List Int) (l : List (List Int)) : (pre ++ p :: l).getD pre.length [] = p := by simp
theorem set_mid (pre : List (List Int)) (p q : List Int) (l : List (List Int)) : (pre ++ p :: l).set pre.length q = (pre ++ [q]) ++ l := by simp
theorem markSS_mk : ∀ (suf pre : List (List Int)) (n0 : Int), (pre ++ suf).length ≤ 1048576 → (∀ p ∈ suf, p.length ≤ 1048576) → 0 ≤ n0 → n0 + (suf.length : Int) * 1048576 ≤ 4000000000000000000 →
    Ev (fun k => laws_markByteSS.l0 k (pre ++ suf) n0 (pre.length : Int)) ((mkS suf n0).2, pre ++ (mkS suf n0).1) := by
  intro suf
  induction suf with
  | nil =>
    intro pre n0 hl _ h0 h1
    refine Ev_succ ?_
    simp only [laws_markByteSS.l0]
    exact Ev_f (by simp) (Ev.now _)
  | cons p l ih =>
    intro pre n0 hl hp h0 h1
    have hq := hp p (by simp)
    simp only [List.length_append, List.length_cons] at hl h1
    have e := ih (pre ++ [(List.range p.length).map fun i : Nat => (n0 + (i : Int)) % 256]) (n0 + (p.length : Int)) (by simp; omega) (fun q hm => hp q (by simp [hm])) (by omega) (by omega)
    refine Ev_succ ?_
    simp only [laws_markByteSS.l0, Int.toNat_natCast, getD_mid]
    rw [w64_succ (show pre.length < pre.length + 1 by omega) (by omega)]
    refine Ev_t (by simp; omega) (Ev_t (by omega) (Ev.bind (markB p hq n0 h0 (by omega)) ?_))
    simp only [set_mid]
    simp only [List.length_append, List.length_singleton] at e
    exact Ev_eq e (by simp [mkS])
theorem heldSS_mk : ∀ (suf pre : List (List Int)) (n0 : Int), (pre ++ suf).length ≤ 1048576 → (∀ p ∈ suf, p.length ≤ 1048576) → 0 ≤ n0 → n0 + (suf.length : Int) * 1048576 ≤ 4000000000000000000 →
    Ev (fun k => laws_heldByteSS.l0 k (pre ++ (mkS suf n0).1) n0 (pre.length : Int)) (mkS suf n0).2 := by
  intro suf
  induction suf with
  | nil =>
    intro pre n0 hl _ h0 h1
    refine Ev_succ ?_
    simp only [laws_heldByteSS.l0]
    exact Ev_f (by simp [mkS]) (Ev.now _)
  | cons p l ih =>
    intro pre n0 hl hp h0 h1
    have hq := hp p (by simp)
    simp only [List.length_append, List.length_cons] at hl h1
    have e := ih (pre ++ [(List.range p.length).map fun i : Nat => (n0 + (i : Int)) % 256]) (n0 + (p.length : Int)) (by simp; omega) (fun q hm => hp q (by simp [hm])) (by omega) (by omega)
    refine Ev_succ ?_
    simp only [laws_heldByteSS.l0, rd_L_nat, mkS, getD_mid]
    rw [w64_succ (show pre.length < pre.length + 1 by omega) (by omega)]
    refine Ev_t (by simp; omega) (Ev_t (by omega) (Ev.bind (heldB p.length hq n0 h0 (by omega)) (Ev_f (by omega) ?_)))
    simp only [List.length_append, List.length_singleton, List.append_assoc, List.singleton_append] at e
    exact e
theorem markDisk_ev (l : List (List Int)) (w : Int) (o : Bool) (t : Int) (hl : l.length ≤ 1048576) (hz : ∀ p ∈ l, p.length ≤ 1048576) : Ev (fun k => laws_markDisk.f k l w o t 1) ((mkS l 1).2, (mkS l 1).1) := by
  have e := markSS_mk l [] 1 (by simpa using hl) hz (by omega) (by omega)
  simp only [laws_markDisk.f, laws_markByteSS.f]
  exact Ev.bind e (Ev.now _)
theorem heldDisk_ev (l : List (List Int)) (w : Int) (o : Bool) (t : Int) (hl : l.length ≤ 1048576) (hz : ∀ p ∈ l, p.length ≤ 1048576) : Ev (fun k => laws_heldDisk.f k (mkS l 1).1 w o t 1) (mkS l 1).2 := by
  have e := heldSS_mk l [] 1 (by simpa using hl) hz (by omega) (by omega)
  have := (mkS_le l 1).1
  simp only [laws_heldDisk.f, laws_heldByteSS.f]
  exact Ev.bind e (Ev_f (by omega) (Ev.now _))

def rowZ : List Int := List.replicate 128 0
def newB (a : Int) : List (List Int) × Int × Bool × Int × Bool := if 40 ≤ a ∧ a ≤ 160 then (List.replicate a.toNat rowZ, 0, true, -1, true) else ([], 0, false, 0, false)
theorem specNew_ev (a : Int) : Ev (fun k => spec_NewDisk.f k a) (newB a) := by
  simp only [spec_NewDisk.f, l1In_eq, Option.bind_some, decide_eq_true_eq]
  refine Ev_ite (fun c => ?_) (fun c => Ev_eq (Ev.now _) (by rw [newB, if_neg c]))
  have key : ∀ (m : Nat) (xs : List (List Int)), xs.length + m ≤ 160 → Ev (fun k => spec_NewDisk.l0 k (m : Int) xs 0 true (-1)) (xs ++ List.replicate m rowZ, 0, true, -1, true) := by
    intro m
    induction m with
    | zero => intro xs hx; refine Ev_succ ?_; simp only [spec_NewDisk.l0]; exact Ev_f (by omega) (Ev_eq (Ev.now _) (by simp))
    | succ m ih =>
      intro xs hx
      refine Ev_succ ?_
      simp only [spec_NewDisk.l0]
      have e : wrap64 (((m + 1 : Nat) : Int) - 1) = (m : Int) := by rw [w64 (by omega) (by omega)]; omega
      rw [e]
      exact Ev_t (by omega) (Ev_t (by omega) (Ev_t (by omega) (Ev_eq (ih (xs ++ [rowZ]) (by simp; omega)) (by simp [List.replicate_succ]))))
  have h := key a.toNat [] (by simp; omega)
  rw [show ((a.toNat : Nat) : Int) = a by omega] at h
  rw [newB, if_pos c]
  exact h
theorem implNew_ev (a : Int) : Ev (fun k => impl_NewDisk.f k a) (newB a) := by
  simp only [impl_NewDisk.f, within_eq, Option.bind_some, decide_eq_true_eq]
  refine Ev_ite (fun c => ?_) (fun c => Ev_eq (Ev.now _) (by rw [newB, if_neg c]))
  have key : ∀ (m i : Nat) (xs : List (List Int)), i + m = a.toNat → xs.length = i → Ev (fun k => impl_NewDisk.l0 k a (i : Int) xs 0 true (-1)) (xs ++ List.replicate m rowZ, 0, true, -1, true) := by
    intro m
    induction m with
    | zero => intro i xs hi hx; refine Ev_succ ?_; simp only [impl_NewDisk.l0]; exact Ev_f (by omega) (Ev_eq (Ev.now _) (by simp))
    | succ m ih =>
      intro i xs hi hx
      refine Ev_succ ?_
      simp only [impl_NewDisk.l0]
      rw [w64_succ (show i < i + 1 by omega) (by omega)]
      exact Ev_t (by omega) (Ev_t (by omega) (Ev_t (by omega) (Ev_eq (ih (i + 1) (xs ++ [rowZ]) (by omega) (by simp; omega)) (by simp [List.replicate_succ]))))
  have h := key a.toNat 0 [] (by omega) rfl
  rw [newB, if_pos c]
  exact h
theorem newB_sz (a : Int) : (newB a).1.length ≤ 1048576 ∧ ∀ p ∈ (newB a).1, p.length ≤ 1048576 := by
  by_cases c : 40 ≤ a ∧ a ≤ 160
  · rw [newB, if_pos c]
    refine ⟨by simp; omega, fun p hp => ?_⟩
    simp only [List.mem_replicate] at hp
    rw [hp.2]; simp [rowZ]
  · rw [newB, if_neg c]; simp
theorem pureNewDisk (a : Int) : ∃ k, laws_FnExactNewDisk.f k a = some true := by
  refine Ev.rounds ?_
  simp only [laws_FnExactNewDisk.f]
  have p := specNew_ev a
  have q := implNew_ev a
  obtain ⟨h1, h2⟩ := newB_sz a
  generalize newB a = R at p q h1 h2
  obtain ⟨l, w, o, t, ok⟩ := R
  simp only at h1 h2
  have ee := eqDisk_ev l w o t h1 h2
  have em := markDisk_ev l w o t h1 h2
  have eh := heldDisk_ev l w o t h1 h2
  have hn := (mkS_le l 1).1
  refine Ev.bind p (Ev.bind q (Ev.bind ee (Ev_t rfl (Ev_succ ?_))))
  simp only [laws_FnExactNewDisk.j0]
  refine Ev_f (by simp) (Ev.bind em (Ev.bind eh (Ev_f (by omega) (Ev_t rfl (Ev.bind q (Ev.bind ee (Ev_t rfl (Ev_succ ?_))))))))
  simp only [laws_FnExactNewDisk.j1]
  exact Ev_f (by simp) (Ev.bind eh (Ev_f (by omega) (Ev_t rfl (Ev.now _))))
end OfFnExactNewDisk
open OfFnExactNewDisk
theorem FnExactNewDisk : Stated := by
  intro a _
  exact pureNewDisk a
end Go.Proofs.Ythbbcnjnbfhcbaa.Pure
