/-
The pure statement of FnExactSuperOf: the printed functions of the program and of the reference answer alike for every argument within the bounds that the statement tells.
-/
import Derived.Test.YtdlicabmalljpaaWfFnExactSuperOf
namespace Go.Proofs.Ytdlicabmalljpaa.Pure
open Go Go.RowKit Go.Proofs.Ytdlicabmalljpaa.PFnExactSuperOf Go.Proofs.YtdlicabmalljpaaW.PrintWords Go.Proofs.YtdlicabmalljpaaW.PrintLast Go.Proofs.YtdlicabmalljpaaW.PrintMore Go.Proofs.Ytdlicabmalljpaa.Lib
set_option linter.unusedVariables false
set_option linter.unusedSimpArgs false
namespace OfFnExactSuperOf
theorem eqByteS_ev (l : List Int) (hl : l.length ≤ 4611686018427387904) : Ev (fun k => laws_eqByteS.f k l l) true := by
  have h := all_ev (g := fun k i => laws_eqByteS.l0 k l l i) (r := true) l.length
    (fun i hi hr => Ev_succ (by
      simp only [laws_eqByteS.l0]
      refine Ev_t (by omega) (Ev_t (by omega) (Ev_t (by omega) (Ev_t trivial ?_)))
      rw [w64_succ hi (by omega)]; exact hr))
    (Ev_succ (by simp only [laws_eqByteS.l0]; exact Ev_f (by omega) (Ev.now _)))
  refine Ev.congr (fun k => ?_) h
  simp only [laws_eqByteS.f]; rw [if_pos trivial]

theorem toByteS_ev (l : List Int) (hl : l.length ≤ 1048576) : Ev (fun k => laws_toByteS.f k l) l := by
  have h := fill_ev (g := fun k x i => laws_toByteS.l0 k l x i) l 0 (fun x => x)
    (fun x i hx hi hr => Ev_succ (by
      simp only [laws_toByteS.l0]
      refine Ev_t (by omega) (Ev_t (by omega) (Ev_t (by omega) ?_))
      rw [w64_succ hi (by omega)]
      simpa [rd_nat] using hr))
    (fun x hx => Ev_succ (by simp only [laws_toByteS.l0]; exact Ev_f (by omega) (Ev.now _)))
    (List.replicate l.length 0) (by simp)
  rw [map_same] at h
  refine Ev.congr (fun k => ?_) h
  simp only [laws_toByteS.f]
  rw [if_pos (by omega), if_pos (by simp; omega)]
  simp

theorem within_eq (a b c : Int) : impl_within.f a b c = some (decide (b ≤ a ∧ a ≤ c)) := by
  simp only [impl_within.f]
  by_cases h : b ≤ a <;> simp [h]

theorem l1In_eq (a b c : Int) : spec_l1In.f a b c = some (decide (b ≤ a ∧ a ≤ c)) := by
  simp only [spec_l1In.f]
  by_cases h : b ≤ a <;> simp [h]

theorem xor64 {a b : Int} (ha : 0 ≤ a) (ha' : a < 4294967296) (hb : 0 ≤ b) (hb' : b < 4294967296) : Go.bits .xor .u64 a b = Go.bits .xor .u32 a b ∧ 0 ≤ Go.bits .xor .u32 a b ∧ Go.bits .xor .u32 a b < 4294967296 := by
  obtain ⟨x, rfl⟩ := Int.eq_ofNat_of_zero_le ha
  obtain ⟨y, rfl⟩ := Int.eq_ofNat_of_zero_le hb
  have hx : x < 2 ^ 32 := by omega
  have hy : y < 2 ^ 32 := by omega
  have hz : x ^^^ y < 2 ^ 32 := Nat.xor_lt_two_pow hx hy
  have e1 : Go.bits .xor .u64 x y = ((x ^^^ y : Nat) : Int) := by
    have hx1 : x % 2 ^ IntKind.u64.bits = x := by show x % 2 ^ 64 = x; omega
    have hy1 : y % 2 ^ IntKind.u64.bits = y := by show y % 2 ^ 64 = y; omega
    simp only [Go.bits, BitVec.ofInt_natCast, BitVec.toNat_xor, BitVec.toNat_ofNat, hx1, hy1]
    exact wu64 (by omega) (by omega)
  have e2 : Go.bits .xor .u32 x y = ((x ^^^ y : Nat) : Int) := by
    have hx1 : x % 2 ^ IntKind.u32.bits = x := by show x % 2 ^ 32 = x; omega
    have hy1 : y % 2 ^ IntKind.u32.bits = y := by show y % 2 ^ 32 = y; omega
    simp only [Go.bits, BitVec.ofInt_natCast, BitVec.toNat_xor, BitVec.toNat_ofNat, hx1, hy1]
    rw [IntKind.wrap_u32]
    omega
  rw [e1, e2]
  exact ⟨rfl, by omega, by omega⟩

theorem same_digest (l : List Int) (hl : l.length ≤ 1048576) (hw : ∀ x ∈ l, 0 ≤ x ∧ x ≤ 255) : ∃ r, Ev (fun k => spec_DigestOf.f k l) r ∧ Ev (fun k => impl_DigestOf.f k l) r := by
  have key : ∀ (m i : Nat) (h : Int), i + m = l.length → 0 ≤ h → h < 4294967296 → ∃ r, Ev (fun k => spec_DigestOf.l0 k h l (l.length : Int) (i : Int)) r ∧ Ev (fun k => impl_digest.l0 k h l (l.length : Int) (i : Int)) r := by
    intro m
    induction m with
    | zero =>
      intro i h hi h0 h1
      refine ⟨h, Ev_succ ?_, Ev_succ ?_⟩
      · simp only [spec_DigestOf.l0]
        exact Ev_f (by omega) (Ev_eq (Ev.now _) (by omega))
      · simp only [impl_digest.l0]
        exact Ev_f (by omega) (Ev.now _)
    | succ m ih =>
      intro i h hi h0 h1
      have hx := hw _ (getD_mem (xs := l) (i := i) 0 (by omega))
      have e3 : IntKind.u64.wrap (l.getD i 0) = l.getD i 0 := wu64 (by omega) (by omega)
      have e4 : l.getD i 0 % 4294967296 = l.getD i 0 := by omega
      obtain ⟨e5, e6, e7⟩ := xor64 h0 h1 hx.1 (show l.getD i 0 < 4294967296 by omega)
      have e8 : Int.tmod (IntKind.u64.wrap (Go.bits .xor .u32 h (l.getD i 0) * 16777619)) 4294967296 = (Go.bits .xor .u32 h (l.getD i 0) * 16777619) % 4294967296 := by
        rw [wu64 (by omega) (by omega), Int.tmod_eq_emod_of_nonneg (by omega)]
      obtain ⟨r, p, q⟩ := ih (i + 1) ((Go.bits .xor .u32 h (l.getD i 0) * 16777619) % 4294967296) (by omega) (by omega) (by omega)
      refine ⟨r, Ev_succ ?_, Ev_succ ?_⟩
      · simp only [spec_DigestOf.l0]
        refine Ev_t (by omega) (Ev_t (by omega) (Ev_t (by omega) ?_))
        rw [w64_succ (show i < l.length by omega) (by omega)]
        simp only [rd_nat, e3, e5, e8]
        exact p
      · simp only [impl_digest.l0]
        refine Ev_t (by omega) (Ev_t (by omega) (Ev_t (by omega) ?_))
        rw [w64_succ (show i < l.length by omega) (by omega)]
        simp only [rd_nat, e4]
        exact q
  obtain ⟨r, p, q⟩ := key l.length 0 2166136261 (by omega) (by omega) (by omega)
  refine ⟨r, p, ?_⟩
  simp only [impl_DigestOf.f, impl_digest.f]
  exact Ev.bind q (Ev.now _)

def blk (a b c d e : Int) : List Int := [83, 84, 82, 49, a % 256, b % 256, c % 256, 0, (d / 256) % 256, d % 256, (e / 256) % 256, e % 256] ++ List.replicate 112 0
theorem blk_length (a b c d e : Int) : (blk a b c d e).length = 124 := by simp [blk]
theorem blk_bytes (a b c d e : Int) : ∀ x ∈ blk a b c d e, 0 ≤ x ∧ x ≤ 255 := by
  intro x hx
  simp only [blk, List.mem_append, List.mem_cons, List.mem_replicate, List.not_mem_nil, or_false] at hx
  rcases hx with (h | h | h | h | h | h | h | h | h | h | h | h) | h <;> omega
theorem super_same (a b c d e : Int) (hd : 0 ≤ d) (hd' : d ≤ 1000000) (he : 0 ≤ e) (he' : e ≤ 1000000) : ∃ R : List Int, R.length = 128 ∧ (∀ x ∈ R, 0 ≤ x ∧ x ≤ 255) ∧ Ev (fun k => spec_l11Super.f k a b c d e) R ∧ Ev (fun k => impl_superBlock.j0 k false a b c d e) (R, true) := by
  obtain ⟨r, p, q⟩ := same_digest (blk a b c d e) (by rw [blk_length]; omega) (blk_bytes a b c d e)
  refine ⟨blk a b c d e ++ [(r / 16777216) % 256, (r / 65536) % 256, (r / 256) % 256, r % 256], by rw [List.length_append, blk_length]; rfl, ?_, ?_, Ev_succ ?_⟩
  · intro x hx
    rcases List.mem_append.1 hx with h | h
    · exact blk_bytes a b c d e x h
    · simp only [List.mem_cons, List.not_mem_nil, or_false] at h
      rcases h with h | h | h | h <;> omega
  · have e1 : wrap64 (Int.tdiv d 256) = d / 256 := by rw [Int.tdiv_eq_ediv_of_nonneg hd, w64 (by omega) (by omega)]
    have e2 : wrap64 (Int.tdiv e 256) = e / 256 := by rw [Int.tdiv_eq_ediv_of_nonneg he, w64 (by omega) (by omega)]
    have e3 : ([83, 84, 82, 49, a % 256, b % 256, c % 256, 0, (d / 256) % 256, d % 256, (e / 256) % 256, e % 256] ++ List.replicate (wrap64 (124 - (([83, 84, 82, 49, a % 256, b % 256, c % 256, 0, (d / 256) % 256, d % 256, (e / 256) % 256, e % 256] : List Int).length : Int))).toNat 0 : List Int) = blk a b c d e := by
      simp only [List.length_cons, List.length_nil]
      rw [w64 (by omega) (by omega)]
      rfl
    have e4 : wrap64 (124 - (([83, 84, 82, 49, a % 256, b % 256, c % 256, 0, (d / 256) % 256, d % 256, (e / 256) % 256, e % 256] : List Int).length : Int)) = 112 := by
      simp only [List.length_cons, List.length_nil]
      rw [w64 (by omega) (by omega)]; rfl
    simp only [spec_l11Super.f, Option.bind_some, e1, e2, e3]
    refine Ev_t (by rw [e4]; omega) (Ev_t (by rw [e4]; simp) (Ev.bind p (Ev_t (by rw [blk_length]; simp) (Ev.now _))))
  · have e3 : ([83, 84, 82, 49, a % 256, b % 256, c % 256, 0] ++ [d / 256 % 256, d % 256] ++ [e / 256 % 256, e % 256] : List Int) = [83, 84, 82, 49, a % 256, b % 256, c % 256, 0, (d / 256) % 256, d % 256, (e / 256) % 256, e % 256] := rfl
    have e4 : impl_padded.f [83, 84, 82, 49, a % 256, b % 256, c % 256, 0, (d / 256) % 256, d % 256, (e / 256) % 256, e % 256] 124 = some (blk a b c d e) := by
      simp only [impl_padded.f, List.length_cons, List.length_nil]
      rw [w64 (by omega) (by omega)]
      rfl
    simp only [impl_superBlock.j0, impl_two.f, impl_four.f, Option.bind_some, e3, e4, Bool.false_eq_true, if_false]
    refine Ev_t (by simp) (Ev_t (by simp) ?_)
    have q' : Ev (fun k => impl_DigestOf.f k (blk a b c d e)) r := q
    exact Ev.bind q' (Ev_t (by rw [blk_length]; simp) (Ev.now _))
theorem l11Good_eq (a b c d e : Int) : spec_l11Good.f a b c d e = some (decide ((0 ≤ a ∧ a ≤ b ∧ b ≤ 60) ∧ (1 ≤ c ∧ c ≤ 30) ∧ (33 ≤ d ∧ d ≤ 159) ∧ (33 ≤ e ∧ e ≤ 159))) := by
  simp only [spec_l11Good.f, spec_l8Range.f, l1In_eq, Option.bind_some, decide_eq_true_eq]
  by_cases h1 : 0 ≤ a ∧ a ≤ b
  · by_cases h2 : b ≤ 60
    · by_cases h3 : 1 ≤ c ∧ c ≤ 30
      · by_cases h4 : 33 ≤ d ∧ d ≤ 159
        · simp [h1, h2, h3, h4]
        · simp [h1, h2, h3, h4]
      · simp [h1, h2, h3]
    · simp [h1, h2]
  · have : ¬ (0 ≤ a ∧ a ≤ b ∧ b ≤ 60) := by omega
    simp [h1, this]
theorem impl_super (a b c d e : Int) : SameQ (fun (r : List Int × Bool) => r.1.length ≤ 1048576 ∧ (r.2 = true → r.1.length = 128 ∧ (∀ x ∈ r.1, 0 ≤ x ∧ x ≤ 255)))
    (fun k => (spec_l11Good.f a b c d e).bind fun t => if t = true then (spec_l11Super.f k a b c d e).bind fun u => some (u, true) else some (([] : List Int), false)) (fun k => impl_superBlock.f k a b c d e) := by
  simp only [l11Good_eq, Option.bind_some, decide_eq_true_eq]
  have bad : ∀ t : Bool, t = true → Ev (fun k => impl_superBlock.j0 k t a b c d e) (([] : List Int), false) := by
    intro t ht
    subst ht
    refine Ev_succ ?_
    simp only [impl_superBlock.j0, if_true]
    exact Ev.now _
  have hist : impl_isHistory.f a b = some (decide (0 ≤ a ∧ a ≤ b ∧ b ≤ 60)) := by
    simp only [impl_isHistory.f]
    by_cases h : 0 ≤ a <;> by_cases h' : a ≤ b <;> simp [h, h']
  by_cases g : (0 ≤ a ∧ a ≤ b ∧ b ≤ 60) ∧ (1 ≤ c ∧ c ≤ 30) ∧ (33 ≤ d ∧ d ≤ 159) ∧ (33 ≤ e ∧ e ≤ 159)
  · obtain ⟨R, h1, h2, p, q⟩ := super_same a b c d e (by omega) (by omega) (by omega) (by omega)
    refine ⟨(R, true), Ev_t g (Ev.bind p (Ev.now _)), ?_, by simp only; omega, fun _ => ⟨h1, h2⟩⟩
    obtain ⟨g1, g2, g3, g4⟩ := g
    simp only [impl_superBlock.f, impl_isPlace.f, hist, within_eq, Option.bind_some, g1, g2, g3, g4, and_self, decide_true, if_true, Bool.not_true]
    exact q
  · refine ⟨([], false), Ev_f g (Ev.now _), ?_, by simp, fun h => by cases h⟩
    simp only [impl_superBlock.f, impl_isPlace.f, hist, within_eq, Option.bind_some, decide_eq_true_eq]
    refine Ev_ite (fun h1 => Ev_ite (fun h2 => Ev_ite (fun h3 => bad _ ?_) (fun _ => bad _ rfl)) (fun _ => bad _ rfl)) (fun _ => bad _ rfl)
    have : ¬ (33 ≤ e ∧ e ≤ 159) := fun h4 => g ⟨h1, h2, h3, h4⟩
    simp [this]

theorem equal_loop (x y : List Int) (hl : x.length ≤ 1048576) (he : x.length = y.length) : ∀ (m i : Nat), i + m = x.length → Ev (fun k => slices_Equal_byte_byte.l0 k x y (x.length : Int) (i : Int)) (decide (x.drop i = y.drop i)) := by
  intro m
  induction m with
  | zero =>
    intro i hi
    refine Ev_succ ?_
    simp only [slices_Equal_byte_byte.l0]
    rw [List.drop_of_length_le (by omega), List.drop_of_length_le (by omega)]
    exact Ev_f (by omega) (Ev_eq (Ev.now _) (by simp))
  | succ m ih =>
    intro i hi
    have d1 := drop_cons x i 0 (by omega)
    have d2 := drop_cons y i 0 (by omega)
    refine Ev_succ ?_
    simp only [slices_Equal_byte_byte.l0, rd_nat]
    rw [d1, d2, w64_succ (show i < x.length by omega) (by omega)]
    refine Ev_t (by omega) (Ev_t (by omega) (Ev_t (by omega) (Ev_t (by omega) (Ev_ite (fun h => Ev_eq (ih (i + 1) (by omega)) ?_) (fun h => Ev_eq (Ev.now _) ?_)))))
    · rw [h]; simp
    · simp only [List.cons.injEq, h, false_and, decide_false]
theorem equal_ev (x y : List Int) (hl : x.length ≤ 1048576) : Ev (fun k => slices_Equal_byte_byte.f k x y) (decide (x = y)) := by
  simp only [slices_Equal_byte_byte.f]
  by_cases he : x.length = y.length
  · refine Ev_t (by omega) (Ev_eq (equal_loop x y hl he x.length 0 (by omega)) (by simp))
  · refine Ev_f (by omega) (Ev_eq (Ev.now _) ?_)
    have : ¬ x = y := fun h => he (by rw [h])
    simp [this]
theorem str_inj {x y : List Int} (hx : ∀ z ∈ x, 0 ≤ z ∧ z ≤ 255) (hy : ∀ z ∈ y, 0 ≤ z ∧ z ≤ 255) : (strOfNums x).toList = (strOfNums y).toList ↔ x = y := by
  constructor
  · intro h
    rw [ByteArray.toList_eq, ByteArray.toList_eq, strOfNums_data, strOfNums_data] at h
    have key : ∀ (x y : List Int), (∀ z ∈ x, 0 ≤ z ∧ z ≤ 255) → (∀ z ∈ y, 0 ≤ z ∧ z ≤ 255) → x.map (fun n => UInt8.ofNat n.toNat) = y.map (fun n => UInt8.ofNat n.toNat) → x = y := by
      intro x
      induction x with
      | nil => intro y _ _ h; cases y with
        | nil => rfl
        | cons b y => simp at h
      | cons a x ih =>
        intro y hx hy h
        cases y with
        | nil => simp at h
        | cons b y =>
          simp only [List.map_cons, List.cons.injEq] at h
          have ha := hx a (by simp)
          have hb := hy b (by simp)
          have h1 : (UInt8.ofNat a.toNat).toNat = (UInt8.ofNat b.toNat).toNat := by rw [h.1]
          rw [UInt8.toNat_ofNat', UInt8.toNat_ofNat'] at h1
          have h2 : a = b := by omega
          rw [h2, ih y (fun z hz => hx z (by simp [hz])) (fun z hz => hy z (by simp [hz])) h.2]
    exact key x y hx hy h
  · intro h; rw [h]
theorem or8 {x y : Int} (hx : 0 ≤ x) (hx' : x ≤ 255) (hy : 0 ≤ y) (hy' : y ≤ 255) : Go.bits .or .i64 (x * 256) y = x * 256 + y :=
  Go.bits_join .i64 62 (by decide) (fun n h0 h1 => by have : n < 4611686018427387904 := h1; exact (IntKind.wrap_i64 n).trans (by omega)) 8 (x * 256) y (by omega) (by omega) (by show x * 256 < 4611686018427387904; omega) hy (by show y < 256; omega) (by show y < 4611686018427387904; omega)
theorem rd_byte {l : List Int} (hw : ∀ x ∈ l, 0 ≤ x ∧ x ≤ 255) (i : Nat) : 0 ≤ rd l (i : Int) ∧ rd l (i : Int) ≤ 255 := by
  rw [rd_nat]
  by_cases h : i < l.length
  · exact hw _ (getD_mem 0 h)
  · rw [List.getD_eq_getElem?_getD, List.getElem?_eq_none (by omega)]; simp
theorem numberAt_val {l : List Int} (hw : ∀ x ∈ l, 0 ≤ x ∧ x ≤ 255) (hl : l.length = 128) (i : Nat) (hi : i + 1 < 128) : impl_numberAt.f l (i : Int) = some (rd l (i : Int) * 256 + rd l ((i + 1 : Nat) : Int)) := by
  have h1 := rd_byte hw i
  have h2 := rd_byte hw (i + 1)
  have e1 : wrap64 ((i : Int) + 1) = ((i + 1 : Nat) : Int) := by rw [w64 (by omega) (by omega)]; omega
  simp only [impl_numberAt.f, e1]
  rw [if_pos (by omega), if_pos (by omega), if_pos (by omega), if_pos (by omega)]
  rw [w64 (n := rd l (i : Int)) (by omega) (by omega), w64 (n := rd l (i : Int) * 256) (by omega) (by omega), w64 (n := rd l ((i + 1 : Nat) : Int)) (by omega) (by omega), or8 h1.1 h1.2 h2.1 h2.2]
theorem same_superOf (l : List Int) (hw : ∀ x ∈ l, 0 ≤ x ∧ x ≤ 255) (hl : l.length ≤ 1048576) : Same (fun k => spec_SuperOf.f k l) (fun k => impl_SuperOf.f k l) := by
  simp only [spec_SuperOf.f, impl_SuperOf.f]
  by_cases c : (l.length : Int) = 128
  · have h128 : l.length = 128 := by omega
    have n8 := numberAt_val hw h128 8 (by omega)
    have n10 := numberAt_val hw h128 10 (by omega)
    have b4 : 0 ≤ rd l 4 ∧ rd l 4 ≤ 255 := rd_byte hw 4
    have b5 : 0 ≤ rd l 5 ∧ rd l 5 ≤ 255 := rd_byte hw 5
    have b6 : 0 ≤ rd l 6 ∧ rd l 6 ≤ 255 := rd_byte hw 6
    have b8 : 0 ≤ rd l 8 ∧ rd l 8 ≤ 255 := rd_byte hw 8
    have b9 : 0 ≤ rd l 9 ∧ rd l 9 ≤ 255 := rd_byte hw 9
    have b10 : 0 ≤ rd l 10 ∧ rd l 10 ≤ 255 := rd_byte hw 10
    have b11 : 0 ≤ rd l 11 ∧ rd l 11 ≤ 255 := rd_byte hw 11
    have e4 : wrap64 (rd l 4) = rd l 4 := w64 (by omega) (by omega)
    have e5 : wrap64 (rd l 5) = rd l 5 := w64 (by omega) (by omega)
    have e6 : wrap64 (rd l 6) = rd l 6 := w64 (by omega) (by omega)
    have e8 : wrap64 (wrap64 (wrap64 (rd l 8) * 256) + wrap64 (rd l 9)) = rd l 8 * 256 + rd l 9 := by
      rw [w64 (n := rd l 8) (by omega) (by omega), w64 (n := rd l 8 * 256) (by omega) (by omega), w64 (n := rd l 9) (by omega) (by omega), w64 (by omega) (by omega)]
    have e10 : wrap64 (wrap64 (wrap64 (rd l 10) * 256) + wrap64 (rd l 11)) = rd l 10 * 256 + rd l 11 := by
      rw [w64 (n := rd l 10) (by omega) (by omega), w64 (n := rd l 10 * 256) (by omega) (by omega), w64 (n := rd l 11) (by omega) (by omega), w64 (by omega) (by omega)]
    have n8' : impl_numberAt.f l 8 = some (rd l 8 * 256 + rd l 9) := n8
    have n10' : impl_numberAt.f l 10 = some (rd l 10 * 256 + rd l 11) := n10
    simp only [e4, e5, e6, e8, e10, n8', n10', Option.bind_some]
    refine Same.iteL (fun _ => Same.iteR (fun _ => ?_) (fun h => absurd c h)) (fun h => absurd c h)
    have gt : ∀ n : Int, n < 128 → n < (l.length : Int) := fun n hn => by omega
    obtain ⟨⟨R, t⟩, p, q, hR, hR2⟩ := impl_super (rd l 4) (rd l 5) (rd l 6) (rd l 8 * 256 + rd l 9) (rd l 10 * 256 + rd l 11)
    simp only [if_pos (gt 4 (by omega)), if_pos (gt 5 (by omega)), if_pos (gt 6 (by omega)), if_pos (gt 8 (by omega)), if_pos (gt 9 (by omega)), if_pos (gt 10 (by omega)), if_pos (gt 11 (by omega))]
    simp only [l11Good_eq, Option.bind_some, decide_eq_true_eq] at p ⊢
    refine Same.bindR q ?_
    by_cases g : (0 ≤ rd l 4 ∧ rd l 4 ≤ rd l 5 ∧ rd l 5 ≤ 60) ∧ (1 ≤ rd l 6 ∧ rd l 6 ≤ 30) ∧ (33 ≤ rd l 8 * 256 + rd l 9 ∧ rd l 8 * 256 + rd l 9 ≤ 159) ∧ (33 ≤ rd l 10 * 256 + rd l 11 ∧ rd l 10 * 256 + rd l 11 ≤ 159)
    · obtain ⟨R', h1, h2, p', q'⟩ := super_same (rd l 4) (rd l 5) (rd l 6) (rd l 8 * 256 + rd l 9) (rd l 10 * 256 + rd l 11) (by omega) (by omega) (by omega) (by omega)
      have hpr : Ev (fun k => (spec_l11Super.f k (rd l 4) (rd l 5) (rd l 6) (rd l 8 * 256 + rd l 9) (rd l 10 * 256 + rd l 11)).bind fun u => some (u, true)) (R', true) := Ev.bind p' (Ev.now _)
      simp only [if_pos g] at p ⊢
      have hRt : (R, t) = (R', true) := Ev_unique p hpr
      obtain ⟨rfl, rfl⟩ := Prod.mk.inj hRt
      simp only [if_true]
      refine Same.bindL p' (Same.bindR (equal_ev R l (by omega)) ?_)
      by_cases hc : R = l
      · have hs := (str_inj h2 hw).2 hc
        exact Same.of (Ev_t hs (Ev.now _)) (Ev_t (by simp [hc]) (Ev.now _))
      · have hs : ¬ (strOfNums R).toList = (strOfNums l).toList := fun h => hc ((str_inj h2 hw).1 h)
        exact Same.of (Ev_f hs (Ev.now _)) (Ev_f (by simp [hc]) (Ev.now _))
    · simp only [if_neg g] at p ⊢
      have hRt : (R, t) = (([] : List Int), false) := Ev_unique p (Ev.now _)
      obtain ⟨rfl, rfl⟩ := Prod.mk.inj hRt
      exact Same.of (Ev.now _) (Ev_f (by decide) (Ev.now _))
  · exact Same.of (Ev_f c (Ev.now _)) (Ev_f c (Ev.now _))
end OfFnExactSuperOf
open OfFnExactSuperOf
theorem FnExactSuperOf : Stated := by
  intro l w0
  refine Ev.rounds ?_
  simp only [laws_FnExactSuperOf.f]
  refine Ev_ite (fun _ => Ev.now _) (fun c => ?_)
  have hl : l.length ≤ 1048576 := by omega
  obtain ⟨⟨a, b, c', d, e, t⟩, p, q⟩ := same_superOf l (fun x hx => wf8 (w0.2 x hx)) hl
  have f1 := toByteS_ev l hl
  have f2 := eqByteS_ev l (by omega)
  refine Ev.bind f1 (Ev.bind p (Ev.bind f1 (Ev.bind q (Ev_bind0 (a := true) (by simp [laws_eqSuper.f]) (Ev_t rfl (Ev_succ ?_))))))
  simp only [laws_FnExactSuperOf.j0]
  exact Ev_f (by simp) (Ev.bind f1 (Ev.bind f2 (Ev.now _)))
end Go.Proofs.Ytdlicabmalljpaa.Pure
