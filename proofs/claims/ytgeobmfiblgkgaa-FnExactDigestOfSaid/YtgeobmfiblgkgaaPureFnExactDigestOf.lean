/-
The pure statement of FnExactDigestOf: the printed functions of the program and of the reference answer alike for every argument within the bounds that the statement tells.
-/
import Derived.Test.YtgeobmfiblgkgaaWfFnExactDigestOf
namespace Go.Proofs.Ytgeobmfiblgkgaa.Pure
open Go Go.RowKit Go.Proofs.Ytgeobmfiblgkgaa.PFnExactDigestOf Go.Proofs.YtgeobmfiblgkgaaW.PrintWords Go.Proofs.YtgeobmfiblgkgaaW.PrintLast Go.Proofs.YtgeobmfiblgkgaaW.PrintMore Go.Proofs.Ytgeobmfiblgkgaa.Lib
set_option linter.unusedVariables false
set_option linter.unusedSimpArgs false
namespace OfFnExactDigestOf
theorem toByteS_ev (l : List Int) (hl : l.length ≤ 1048576) : Ev (fun k => laws_toByteS.f k l) l := by
  have h := fill_ev (g := fun k x i => laws_toByteS.l0 k l x i) l 0 (fun x => x)
    (fun x i hx hi hr => Ev_succ (by
      simp only [laws_toByteS.l0]
      refine Ev_t (by omega) (Ev_t (by omega) (Ev_t (by omega) ?_))
      rw [w64_succ hi (by omega)]
      simpa [rd_nat] using hr))
    (fun x hx => Ev_succ (by simp only [laws_toByteS.l0]; exact Ev_f (by omega) (Ev.now _)))
    (List.replicate l.length 0) (by simp)
  rw [map_same] at h
  refine Ev.congr (fun k => ?_) h
  simp only [laws_toByteS.f]
  rw [if_pos (by omega), if_pos (by simp; omega)]
  simp

theorem eqByteS_ev (l : List Int) (hl : l.length ≤ 4611686018427387904) : Ev (fun k => laws_eqByteS.f k l l) true := by
  have h := all_ev (g := fun k i => laws_eqByteS.l0 k l l i) (r := true) l.length
    (fun i hi hr => Ev_succ (by
      simp only [laws_eqByteS.l0]
      refine Ev_t (by omega) (Ev_t (by omega) (Ev_t (by omega) (Ev_t trivial ?_)))
      rw [w64_succ hi (by omega)]; exact hr))
    (Ev_succ (by simp only [laws_eqByteS.l0]; exact Ev_f (by omega) (Ev.now _)))
  refine Ev.congr (fun k => ?_) h
  simp only [laws_eqByteS.f]; rw [if_pos trivial]

theorem xor64 {a b : Int} (ha : 0 ≤ a) (ha' : a < 4294967296) (hb : 0 ≤ b) (hb' : b < 4294967296) : Go.bits .xor .u64 a b = Go.bits .xor .u32 a b ∧ 0 ≤ Go.bits .xor .u32 a b ∧ Go.bits .xor .u32 a b < 4294967296 := by
  obtain ⟨x, rfl⟩ := Int.eq_ofNat_of_zero_le ha
  obtain ⟨y, rfl⟩ := Int.eq_ofNat_of_zero_le hb
  have hx : x < 2 ^ 32 := by omega
  have hy : y < 2 ^ 32 := by omega
  have hz : x ^^^ y < 2 ^ 32 := Nat.xor_lt_two_pow hx hy
  have e1 : Go.bits .xor .u64 x y = ((x ^^^ y : Nat) : Int) := by
    have hx1 : x % 2 ^ IntKind.u64.bits = x := by show x % 2 ^ 64 = x; omega
    have hy1 : y % 2 ^ IntKind.u64.bits = y := by show y % 2 ^ 64 = y; omega
    simp only [Go.bits, BitVec.ofInt_natCast, BitVec.toNat_xor, BitVec.toNat_ofNat, hx1, hy1]
    exact wu64 (by omega) (by omega)
  have e2 : Go.bits .xor .u32 x y = ((x ^^^ y : Nat) : Int) := by
    have hx1 : x % 2 ^ IntKind.u32.bits = x := by show x % 2 ^ 32 = x; omega
    have hy1 : y % 2 ^ IntKind.u32.bits = y := by show y % 2 ^ 32 = y; omega
    simp only [Go.bits, BitVec.ofInt_natCast, BitVec.toNat_xor, BitVec.toNat_ofNat, hx1, hy1]
    rw [IntKind.wrap_u32]
    omega
  rw [e1, e2]
  exact ⟨rfl, by omega, by omega⟩
theorem same (l : List Int) (hl : l.length ≤ 1048576) (hw : ∀ x ∈ l, 0 ≤ x ∧ x ≤ 255) : ∃ r, Ev (fun k => spec_DigestOf.f k l) r ∧ Ev (fun k => impl_DigestOf.f k l) r := by
  have key : ∀ (m i : Nat) (h : Int), i + m = l.length → 0 ≤ h → h < 4294967296 → ∃ r, Ev (fun k => spec_DigestOf.l0 k h l (l.length : Int) (i : Int)) r ∧ Ev (fun k => impl_digest.l0 k h l (l.length : Int) (i : Int)) r := by
    intro m
    induction m with
    | zero =>
      intro i h hi h0 h1
      refine ⟨h, Ev_succ ?_, Ev_succ ?_⟩
      · simp only [spec_DigestOf.l0]
        exact Ev_f (by omega) (Ev_eq (Ev.now _) (by omega))
      · simp only [impl_digest.l0]
        exact Ev_f (by omega) (Ev.now _)
    | succ m ih =>
      intro i h hi h0 h1
      have hx := hw _ (getD_mem (xs := l) (i := i) 0 (by omega))
      have e3 : IntKind.u64.wrap (l.getD i 0) = l.getD i 0 := wu64 (by omega) (by omega)
      have e4 : l.getD i 0 % 4294967296 = l.getD i 0 := by omega
      obtain ⟨e5, e6, e7⟩ := xor64 h0 h1 hx.1 (show l.getD i 0 < 4294967296 by omega)
      have e8 : Int.tmod (IntKind.u64.wrap (Go.bits .xor .u32 h (l.getD i 0) * 16777619)) 4294967296 = (Go.bits .xor .u32 h (l.getD i 0) * 16777619) % 4294967296 := by
        rw [wu64 (by omega) (by omega), Int.tmod_eq_emod_of_nonneg (by omega)]
      obtain ⟨r, p, q⟩ := ih (i + 1) ((Go.bits .xor .u32 h (l.getD i 0) * 16777619) % 4294967296) (by omega) (by omega) (by omega)
      refine ⟨r, Ev_succ ?_, Ev_succ ?_⟩
      · simp only [spec_DigestOf.l0]
        refine Ev_t (by omega) (Ev_t (by omega) (Ev_t (by omega) ?_))
        rw [w64_succ (show i < l.length by omega) (by omega)]
        simp only [rd_nat, e3, e5, e8]
        exact p
      · simp only [impl_digest.l0]
        refine Ev_t (by omega) (Ev_t (by omega) (Ev_t (by omega) ?_))
        rw [w64_succ (show i < l.length by omega) (by omega)]
        simp only [rd_nat, e4]
        exact q
  obtain ⟨r, p, q⟩ := key l.length 0 2166136261 (by omega) (by omega) (by omega)
  refine ⟨r, p, ?_⟩
  simp only [impl_DigestOf.f, impl_digest.f]
  exact Ev.bind q (Ev.now _)
end OfFnExactDigestOf
open OfFnExactDigestOf
theorem FnExactDigestOf : Stated := by
  intro l hw0
  have hw := hw0.2
  refine Ev.rounds ?_
  simp only [laws_FnExactDigestOf.f]
  refine Ev_ite (fun _ => Ev.now _) (fun c => ?_)
  have hl : l.length ≤ 1048576 := by omega
  obtain ⟨r, p, q⟩ := same l hl (fun x hx => wf8 (hw x hx))
  exact Ev.bind (toByteS_ev l hl) (Ev.bind p (Ev.bind (toByteS_ev l hl) (Ev.bind q (Ev_t rfl (Ev.bind (toByteS_ev l hl) (Ev.bind (eqByteS_ev l (by omega)) (Ev.now _)))))))
end Go.Proofs.Ytgeobmfiblgkgaa.Pure
