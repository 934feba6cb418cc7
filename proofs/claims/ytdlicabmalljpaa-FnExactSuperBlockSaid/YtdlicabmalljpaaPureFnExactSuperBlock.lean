/-
The pure statement of FnExactSuperBlock: the printed functions of the program and of the reference answer alike for every argument within the bounds that the statement tells.
-/
import Derived.Test.YtdlicabmalljpaaWfFnExactSuperBlock
namespace Go.Proofs.Ytdlicabmalljpaa.Pure
open Go Go.RowKit Go.Proofs.Ytdlicabmalljpaa.PFnExactSuperBlock Go.Proofs.YtdlicabmalljpaaW.PrintWords Go.Proofs.YtdlicabmalljpaaW.PrintLast Go.Proofs.YtdlicabmalljpaaW.PrintMore Go.Proofs.Ytdlicabmalljpaa.Lib
set_option linter.unusedVariables false
set_option linter.unusedSimpArgs false
namespace OfFnExactSuperBlock
theorem eqByteS_ev (l : List Int) (hl : l.length ≤ 4611686018427387904) : Ev (fun k => laws_eqByteS.f k l l) true := by
  have h := all_ev (g := fun k i => laws_eqByteS.l0 k l l i) (r := true) l.length
    (fun i hi hr => Ev_succ (by
      simp only [laws_eqByteS.l0]
      refine Ev_t (by omega) (Ev_t (by omega) (Ev_t (by omega) (Ev_t trivial ?_)))
      rw [w64_succ hi (by omega)]; exact hr))
    (Ev_succ (by simp only [laws_eqByteS.l0]; exact Ev_f (by omega) (Ev.now _)))
  refine Ev.congr (fun k => ?_) h
  simp only [laws_eqByteS.f]; rw [if_pos trivial]

theorem markB (l : List Int) (hl : l.length ≤ 1048576) (n0 : Int) (h0 : 0 ≤ n0) (h1 : n0 ≤ 1000000000000) : Ev (fun k => laws_markByteS.f k l n0) (n0 + (l.length : Int), (List.range l.length).map fun i : Nat => (n0 + (i : Int)) % 256) := by
  have h := fills_ev (g := fun k x i => laws_markByteS.l0 k x (n0 + i) i) l.length (fun i : Nat => (n0 + (i : Int)) % 256) (fun x => (n0 + (l.length : Int), x))
      (fun x i hx hi r hr => Ev_succ (by
        have e0 : wrap64 (n0 + (i : Int) + 1) = n0 + ((i + 1 : Nat) : Int) := by rw [w64 (by omega) (by omega)]; omega
        simp only [laws_markByteS.l0, Int.toNat_natCast, e0]
        rw [w64_succ hi (by omega)]
        exact Ev_t (by omega) (Ev_t (by omega) hr)))
      (fun x hx => Ev_succ (by simp only [laws_markByteS.l0]; exact Ev_f (by omega) (Ev.now _)))
      l rfl
  refine Ev.congr (fun k => ?_) h
  simp only [laws_markByteS.f, Int.add_zero]

theorem heldB (n : Nat) (hl : n ≤ 1048576) (n0 : Int) (h0 : 0 ≤ n0) (h1 : n0 ≤ 1000000000000) : Ev (fun k => laws_heldByteS.f k ((List.range n).map fun i : Nat => (n0 + (i : Int)) % 256) n0) (n0 + (n : Int)) := by
  have h := all_ev (g := fun k i => laws_heldByteS.l0 k ((List.range n).map fun i : Nat => (n0 + (i : Int)) % 256) (n0 + i) i) (r := n0 + (n : Int)) n
      (fun i hi hr => Ev_succ (by
        simp only [laws_heldByteS.l0, List.length_map, List.length_range]
        have e1 : wrap64 (n0 + (i : Int) + 1) = n0 + ((i + 1 : Nat) : Int) := by rw [w64 (by omega) (by omega)]; omega
        have e2 : rd ((List.range n).map fun i : Nat => (n0 + (i : Int)) % 256) (i : Int) = (n0 + (i : Int)) % 256 := by
          rw [rd_nat]; simp [List.getD, hi]
        rw [e1, e2, w64_succ hi (by omega)]
        exact Ev_t (by omega) (Ev_t (by omega) (Ev_t rfl hr))))
      (Ev_succ (by simp only [laws_heldByteS.l0, List.length_map, List.length_range]; exact Ev_f (by omega) (Ev.now _)))
  refine Ev.congr (fun k => ?_) h
  simp only [laws_heldByteS.f, Int.add_zero]

theorem within_eq (a b c : Int) : impl_within.f a b c = some (decide (b ≤ a ∧ a ≤ c)) := by
  simp only [impl_within.f]
  by_cases h : b ≤ a <;> simp [h]

theorem l1In_eq (a b c : Int) : spec_l1In.f a b c = some (decide (b ≤ a ∧ a ≤ c)) := by
  simp only [spec_l1In.f]
  by_cases h : b ≤ a <;> simp [h]

theorem xor64 {a b : Int} (ha : 0 ≤ a) (ha' : a < 4294967296) (hb : 0 ≤ b) (hb' : b < 4294967296) : Go.bits .xor .u64 a b = Go.bits .xor .u32 a b ∧ 0 ≤ Go.bits .xor .u32 a b ∧ Go.bits .xor .u32 a b < 4294967296 := by
  obtain ⟨x, rfl⟩ := Int.eq_ofNat_of_zero_le ha
  obtain ⟨y, rfl⟩ := Int.eq_ofNat_of_zero_le hb
  have hx : x < 2 ^ 32 := by omega
  have hy : y < 2 ^ 32 := by omega
  have hz : x ^^^ y < 2 ^ 32 := Nat.xor_lt_two_pow hx hy
  have e1 : Go.bits .xor .u64 x y = ((x ^^^ y : Nat) : Int) := by
    have hx1 : x % 2 ^ IntKind.u64.bits = x := by show x % 2 ^ 64 = x; omega
    have hy1 : y % 2 ^ IntKind.u64.bits = y := by show y % 2 ^ 64 = y; omega
    simp only [Go.bits, BitVec.ofInt_natCast, BitVec.toNat_xor, BitVec.toNat_ofNat, hx1, hy1]
    exact wu64 (by omega) (by omega)
  have e2 : Go.bits .xor .u32 x y = ((x ^^^ y : Nat) : Int) := by
    have hx1 : x % 2 ^ IntKind.u32.bits = x := by show x % 2 ^ 32 = x; omega
    have hy1 : y % 2 ^ IntKind.u32.bits = y := by show y % 2 ^ 32 = y; omega
    simp only [Go.bits, BitVec.ofInt_natCast, BitVec.toNat_xor, BitVec.toNat_ofNat, hx1, hy1]
    rw [IntKind.wrap_u32]
    omega
  rw [e1, e2]
  exact ⟨rfl, by omega, by omega⟩

theorem same_digest (l : List Int) (hl : l.length ≤ 1048576) (hw : ∀ x ∈ l, 0 ≤ x ∧ x ≤ 255) : ∃ r, Ev (fun k => spec_DigestOf.f k l) r ∧ Ev (fun k => impl_DigestOf.f k l) r := by
  have key : ∀ (m i : Nat) (h : Int), i + m = l.length → 0 ≤ h → h < 4294967296 → ∃ r, Ev (fun k => spec_DigestOf.l0 k h l (l.length : Int) (i : Int)) r ∧ Ev (fun k => impl_digest.l0 k h l (l.length : Int) (i : Int)) r := by
    intro m
    induction m with
    | zero =>
      intro i h hi h0 h1
      refine ⟨h, Ev_succ ?_, Ev_succ ?_⟩
      · simp only [spec_DigestOf.l0]
        exact Ev_f (by omega) (Ev_eq (Ev.now _) (by omega))
      · simp only [impl_digest.l0]
        exact Ev_f (by omega) (Ev.now _)
    | succ m ih =>
      intro i h hi h0 h1
      have hx := hw _ (getD_mem (xs := l) (i := i) 0 (by omega))
      have e3 : IntKind.u64.wrap (l.getD i 0) = l.getD i 0 := wu64 (by omega) (by omega)
      have e4 : l.getD i 0 % 4294967296 = l.getD i 0 := by omega
      obtain ⟨e5, e6, e7⟩ := xor64 h0 h1 hx.1 (show l.getD i 0 < 4294967296 by omega)
      have e8 : Int.tmod (IntKind.u64.wrap (Go.bits .xor .u32 h (l.getD i 0) * 16777619)) 4294967296 = (Go.bits .xor .u32 h (l.getD i 0) * 16777619) % 4294967296 := by
        rw [wu64 (by omega) (by omega), Int.tmod_eq_emod_of_nonneg (by omega)]
      obtain ⟨r, p, q⟩ := ih (i + 1) ((Go.bits .xor .u32 h (l.getD i 0) * 16777619) % 4294967296) (by omega) (by omega) (by omega)
      refine ⟨r, Ev_succ ?_, Ev_succ ?_⟩
      · simp only [spec_DigestOf.l0]
        refine Ev_t (by omega) (Ev_t (by omega) (Ev_t (by omega) ?_))
        rw [w64_succ (show i < l.length by omega) (by omega)]
        simp only [rd_nat, e3, e5, e8]
        exact p
      · simp only [impl_digest.l0]
        refine Ev_t (by omega) (Ev_t (by omega) (Ev_t (by omega) ?_))
        rw [w64_succ (show i < l.length by omega) (by omega)]
        simp only [rd_nat, e4]
        exact q
  obtain ⟨r, p, q⟩ := key l.length 0 2166136261 (by omega) (by omega) (by omega)
  refine ⟨r, p, ?_⟩
  simp only [impl_DigestOf.f, impl_digest.f]
  exact Ev.bind q (Ev.now _)

def blk (a b c d e : Int) : List Int := [83, 84, 82, 49, a % 256, b % 256, c % 256, 0, (d / 256) % 256, d % 256, (e / 256) % 256, e % 256] ++ List.replicate 112 0
theorem blk_length (a b c d e : Int) : (blk a b c d e).length = 124 := by simp [blk]
theorem blk_bytes (a b c d e : Int) : ∀ x ∈ blk a b c d e, 0 ≤ x ∧ x ≤ 255 := by
  intro x hx
  simp only [blk, List.mem_append, List.mem_cons, List.mem_replicate, List.not_mem_nil, or_false] at hx
  rcases hx with (h | h | h | h | h | h | h | h | h | h | h | h) | h <;> omega
theorem super_same (a b c d e : Int) (hd : 0 ≤ d) (hd' : d ≤ 1000000) (he : 0 ≤ e) (he' : e ≤ 1000000) : ∃ R : List Int, R.length = 128 ∧ (∀ x ∈ R, 0 ≤ x ∧ x ≤ 255) ∧ Ev (fun k => spec_l11Super.f k a b c d e) R ∧ Ev (fun k => impl_superBlock.j0 k false a b c d e) (R, true) := by
  obtain ⟨r, p, q⟩ := same_digest (blk a b c d e) (by rw [blk_length]; omega) (blk_bytes a b c d e)
  refine ⟨blk a b c d e ++ [(r / 16777216) % 256, (r / 65536) % 256, (r / 256) % 256, r % 256], by rw [List.length_append, blk_length]; rfl, ?_, ?_, Ev_succ ?_⟩
  · intro x hx
    rcases List.mem_append.1 hx with h | h
    · exact blk_bytes a b c d e x h
    · simp only [List.mem_cons, List.not_mem_nil, or_false] at h
      rcases h with h | h | h | h <;> omega
  · have e1 : wrap64 (Int.tdiv d 256) = d / 256 := by rw [Int.tdiv_eq_ediv_of_nonneg hd, w64 (by omega) (by omega)]
    have e2 : wrap64 (Int.tdiv e 256) = e / 256 := by rw [Int.tdiv_eq_ediv_of_nonneg he, w64 (by omega) (by omega)]
    have e3 : ([83, 84, 82, 49, a % 256, b % 256, c % 256, 0, (d / 256) % 256, d % 256, (e / 256) % 256, e % 256] ++ List.replicate (wrap64 (124 - (([83, 84, 82, 49, a % 256, b % 256, c % 256, 0, (d / 256) % 256, d % 256, (e / 256) % 256, e % 256] : List Int).length : Int))).toNat 0 : List Int) = blk a b c d e := by
      simp only [List.length_cons, List.length_nil]
      rw [w64 (by omega) (by omega)]
      rfl
    have e4 : wrap64 (124 - (([83, 84, 82, 49, a % 256, b % 256, c % 256, 0, (d / 256) % 256, d % 256, (e / 256) % 256, e % 256] : List Int).length : Int)) = 112 := by
      simp only [List.length_cons, List.length_nil]
      rw [w64 (by omega) (by omega)]; rfl
    simp only [spec_l11Super.f, Option.bind_some, e1, e2, e3]
    refine Ev_t (by rw [e4]; omega) (Ev_t (by rw [e4]; simp) (Ev.bind p (Ev_t (by rw [blk_length]; simp) (Ev.now _))))
  · have e3 : ([83, 84, 82, 49, a % 256, b % 256, c % 256, 0] ++ [d / 256 % 256, d % 256] ++ [e / 256 % 256, e % 256] : List Int) = [83, 84, 82, 49, a % 256, b % 256, c % 256, 0, (d / 256) % 256, d % 256, (e / 256) % 256, e % 256] := rfl
    have e4 : impl_padded.f [83, 84, 82, 49, a % 256, b % 256, c % 256, 0, (d / 256) % 256, d % 256, (e / 256) % 256, e % 256] 124 = some (blk a b c d e) := by
      simp only [impl_padded.f, List.length_cons, List.length_nil]
      rw [w64 (by omega) (by omega)]
      rfl
    simp only [impl_superBlock.j0, impl_two.f, impl_four.f, Option.bind_some, e3, e4, Bool.false_eq_true, if_false]
    refine Ev_t (by simp) (Ev_t (by simp) ?_)
    have q' : Ev (fun k => impl_DigestOf.f k (blk a b c d e)) r := q
    exact Ev.bind q' (Ev_t (by rw [blk_length]; simp) (Ev.now _))
theorem l11Good_eq (a b c d e : Int) : spec_l11Good.f a b c d e = some (decide ((0 ≤ a ∧ a ≤ b ∧ b ≤ 60) ∧ (1 ≤ c ∧ c ≤ 30) ∧ (33 ≤ d ∧ d ≤ 159) ∧ (33 ≤ e ∧ e ≤ 159))) := by
  simp only [spec_l11Good.f, spec_l8Range.f, l1In_eq, Option.bind_some, decide_eq_true_eq]
  by_cases h1 : 0 ≤ a ∧ a ≤ b
  · by_cases h2 : b ≤ 60
    · by_cases h3 : 1 ≤ c ∧ c ≤ 30
      · by_cases h4 : 33 ≤ d ∧ d ≤ 159
        · simp [h1, h2, h3, h4]
        · simp [h1, h2, h3, h4]
      · simp [h1, h2, h3]
    · simp [h1, h2]
  · have : ¬ (0 ≤ a ∧ a ≤ b ∧ b ≤ 60) := by omega
    simp [h1, this]
theorem impl_super (a b c d e : Int) : SameQ (fun (r : List Int × Bool) => r.1.length ≤ 1048576 ∧ (r.2 = true → r.1.length = 128 ∧ (∀ x ∈ r.1, 0 ≤ x ∧ x ≤ 255)))
    (fun k => (spec_l11Good.f a b c d e).bind fun t => if t = true then (spec_l11Super.f k a b c d e).bind fun u => some (u, true) else some (([] : List Int), false)) (fun k => impl_superBlock.f k a b c d e) := by
  simp only [l11Good_eq, Option.bind_some, decide_eq_true_eq]
  have bad : ∀ t : Bool, t = true → Ev (fun k => impl_superBlock.j0 k t a b c d e) (([] : List Int), false) := by
    intro t ht
    subst ht
    refine Ev_succ ?_
    simp only [impl_superBlock.j0, if_true]
    exact Ev.now _
  have hist : impl_isHistory.f a b = some (decide (0 ≤ a ∧ a ≤ b ∧ b ≤ 60)) := by
    simp only [impl_isHistory.f]
    by_cases h : 0 ≤ a <;> by_cases h' : a ≤ b <;> simp [h, h']
  by_cases g : (0 ≤ a ∧ a ≤ b ∧ b ≤ 60) ∧ (1 ≤ c ∧ c ≤ 30) ∧ (33 ≤ d ∧ d ≤ 159) ∧ (33 ≤ e ∧ e ≤ 159)
  · obtain ⟨R, h1, h2, p, q⟩ := super_same a b c d e (by omega) (by omega) (by omega) (by omega)
    refine ⟨(R, true), Ev_t g (Ev.bind p (Ev.now _)), ?_, by simp only; omega, fun _ => ⟨h1, h2⟩⟩
    obtain ⟨g1, g2, g3, g4⟩ := g
    simp only [impl_superBlock.f, impl_isPlace.f, hist, within_eq, Option.bind_some, g1, g2, g3, g4, and_self, decide_true, if_true, Bool.not_true]
    exact q
  · refine ⟨([], false), Ev_f g (Ev.now _), ?_, by simp, fun h => by cases h⟩
    simp only [impl_superBlock.f, impl_isPlace.f, hist, within_eq, Option.bind_some, decide_eq_true_eq]
    refine Ev_ite (fun h1 => Ev_ite (fun h2 => Ev_ite (fun h3 => bad _ ?_) (fun _ => bad _ rfl)) (fun _ => bad _ rfl)) (fun _ => bad _ rfl)
    have : ¬ (33 ≤ e ∧ e ≤ 159) := fun h4 => g ⟨h1, h2, h3, h4⟩
    simp [this]
end OfFnExactSuperBlock
open OfFnExactSuperBlock
theorem FnExactSuperBlock : Stated := by
  intro a b c d e _ _ _ _ _
  refine Ev.rounds ?_
  simp only [laws_FnExactSuperBlock.f, laws_toSuper.f, Option.bind_some]
  obtain ⟨⟨R, t⟩, p, q, hR, _⟩ := impl_super a b c d e
  have p' : Ev (fun k => spec_SuperBlock.f k a b c d e) (R, t) := p
  have q' : Ev (fun k => impl_SuperBlock.f k a b c d e) (R, t) := by
    simp only [impl_SuperBlock.f]
    exact Ev.bind q (Ev.now _)
  have f3 := eqByteS_ev R (by simp only at hR; omega)
  have f5 := markB R hR 1 (by omega) (by omega)
  have f6 := heldB R.length hR 1 (by omega) (by omega)
  refine Ev.bind p' (Ev.bind q' (Ev.bind f3 (Ev_t rfl (Ev_succ ?_))))
  simp only [laws_FnExactSuperBlock.j0, laws_toSuper.f, Option.bind_some]
  refine Ev_f (by simp) (Ev.bind f5 (Ev.bind f6 (Ev_f (by omega) (Ev_t rfl (Ev.bind q' (Ev.bind f3 (Ev_t rfl (Ev_succ ?_))))))))
  simp only [laws_FnExactSuperBlock.j1]
  exact Ev_f (by simp) (Ev.bind f6 (Ev_f (by omega) (Ev_t rfl (Ev.now _))))
end Go.Proofs.Ytdlicabmalljpaa.Pure
