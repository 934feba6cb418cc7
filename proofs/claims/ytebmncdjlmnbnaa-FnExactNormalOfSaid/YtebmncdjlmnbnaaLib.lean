/-
Small lemmas of plain Lean for the pure laws of this seat: rounds that tell an answer, whole numbers that fit, lists that are read and filled.
-/
import Derived.Test.YtebmncdjlmnbnaaWMore
namespace Go.Proofs.Ytebmncdjlmnbnaa.Lib
open Go Go.RowKit Go.Proofs.YtebmncdjlmnbnaaW.PrintWords Go.Proofs.YtebmncdjlmnbnaaW.PrintMore

theorem w64 {n : Int} (h : -9223372036854775808 ≤ n) (h' : n ≤ 9223372036854775807) : wrap64 n = n := by
  unfold wrap64; omega
theorem w64_range (n : Int) : -9223372036854775808 ≤ wrap64 n ∧ wrap64 n ≤ 9223372036854775807 := by
  unfold wrap64; omega
theorem w64_succ {i n : Nat} (h : i < n) (hn : n ≤ 9223372036854775807) : wrap64 ((i : Int) + 1) = ((i + 1 : Nat) : Int) := by
  rw [w64 (by omega) (by omega)]; omega
theorem wf64 {n : Int} (h : (Lit.int .i64 n).wf = true) : -9223372036854775808 ≤ n ∧ n ≤ 9223372036854775807 := by
  simpa [Lit.wf, IntKind.min, IntKind.max, IntKind.bits, IntKind.signed] using h
theorem wf8 {n : Int} (h : (Lit.int .u8 n).wf = true) : 0 ≤ n ∧ n ≤ 255 := by
  simpa [Lit.wf, IntKind.min, IntKind.max, IntKind.bits, IntKind.signed] using h
theorem wu64 {n : Int} (h : 0 ≤ n) (h' : n < 18446744073709551616) : IntKind.u64.wrap n = n := by
  simp [IntKind.wrap, IntKind.bits, IntKind.signed]; omega
theorem shl_nat {x : Int} {n : Nat} (hn : n ≤ 64) (h0 : 0 ≤ x * 2 ^ n) (h1 : x * 2 ^ n ≤ 9223372036854775807) : shl .i64 x (n : Int) = x * 2 ^ n := by
  unfold shl
  rw [show min ((n : Int).toNat) (IntKind.i64.bits) = n from by simp [IntKind.bits]; omega]
  have := w64 (n := x * 2 ^ n) (by omega) h1
  simp only [IntKind.wrap_i64]
  unfold wrap64 at this
  exact this
theorem shr_nat {x : Int} {n : Nat} (hn : n ≤ 64) : shr .i64 x (n : Int) = x / 2 ^ n := by
  unfold shr
  rw [show min ((n : Int).toNat) (IntKind.i64.bits) = n from by simp [IntKind.bits]; omega]

theorem Ev_bind {α β : Type} {g : Nat → Option α} {f : Nat → α → Option β} {a : α} {r : β} (h : Ev g a) (k : Ev (fun n => f n a) r) : Ev (fun n => (g n).bind (f n)) r := Ev.bind h k
theorem Ev_bind0 {α β : Type} {o : Option α} {f : Nat → α → Option β} {a : α} {r : β} (h : o = some a) (k : Ev (fun n => f n a) r) : Ev (fun n => o.bind (f n)) r := by
  subst h; exact k
theorem Ev_eq {α : Type} {g : Nat → Option α} {r r' : α} (h : Ev g r) (e : r = r') : Ev g r' := e ▸ h

theorem rd_nat (xs : List Int) (i : Nat) : rd xs (i : Int) = xs.getD i 0 := by simp [rd]
theorem take_set_succ {α : Type} (x : List α) (i : Nat) (v : α) (h : i < x.length) : (x.set i v).take (i + 1) = x.take i ++ [v] := by
  rw [List.take_add_one, List.take_set_of_le (Nat.le_refl i)]
  simp [h]
theorem take_getD_succ {α : Type} (x : List α) (i : Nat) (d : α) (h : i < x.length) : x.take (i + 1) = x.take i ++ [x.getD i d] := by
  rw [List.take_add_one]
  simp [h, List.getD]
/-- A row that is filled from the front, element by element. -/
theorem fill_ev {α β : Type} {g : Nat → List α → Int → Option (List α)} (xs : List β) (d : β) (c : β → α)
    (hstep : ∀ (x : List α) (i : Nat), x.length = xs.length → i < xs.length → Ev (fun k => g k (x.set i (c (xs.getD i d))) ((i + 1 : Nat) : Int)) (xs.map c) → Ev (fun k => g k x (i : Int)) (xs.map c))
    (hend : ∀ x : List α, x.length = xs.length → Ev (fun k => g k x (xs.length : Int)) x) :
    ∀ x : List α, x.length = xs.length → Ev (fun k => g k x 0) (xs.map c) := by
  have key : ∀ (m i : Nat) (x : List α), i + m = xs.length → x.length = xs.length → x.take i = (xs.map c).take i → Ev (fun k => g k x (i : Int)) (xs.map c) := by
    intro m
    induction m with
    | zero =>
      intro i x hi hx ht
      obtain rfl : i = xs.length := by omega
      have := hend x hx
      have hh : x = xs.map c := by
        rw [List.take_of_length_le (by omega), List.take_of_length_le (by simp)] at ht
        exact ht
      rw [← hh]; exact this
    | succ m ih =>
      intro i x hi hx ht
      refine hstep x i hx (by omega) (ih (i + 1) _ (by omega) (by simpa using hx) ?_)
      rw [take_set_succ x i _ (by omega), ht, take_getD_succ (xs.map c) i (c d) (by simp; omega)]
      congr 2
      simp [List.getD, List.getElem?_map, List.getElem?_eq_getElem (show i < xs.length by omega)]
  intro x hx
  exact key xs.length 0 x (by omega) hx (by simp)
/-- A row that is filled from the front by its index; R: what is answered of the row. -/
theorem fills_ev {α γ : Type} {g : Nat → List α → Int → Option γ} (n : Nat) (v : Nat → α) (R : List α → γ)
    (hstep : ∀ (x : List α) (i : Nat), x.length = n → i < n → ∀ r, Ev (fun k => g k (x.set i (v i)) ((i + 1 : Nat) : Int)) r → Ev (fun k => g k x (i : Int)) r)
    (hend : ∀ x : List α, x.length = n → Ev (fun k => g k x (n : Int)) (R x)) :
    ∀ x : List α, x.length = n → Ev (fun k => g k x 0) (R ((List.range n).map v)) := by
  have key : ∀ (m i : Nat) (x : List α), i + m = n → x.length = n → x.take i = ((List.range n).map v).take i → Ev (fun k => g k x (i : Int)) (R ((List.range n).map v)) := by
    intro m
    induction m with
    | zero =>
      intro i x hi hx ht
      obtain rfl : i = n := by omega
      have hh : x = (List.range i).map v := by
        rw [List.take_of_length_le (by omega), List.take_of_length_le (by simp)] at ht
        exact ht
      rw [← hh]
      exact hend x hx
    | succ m ih =>
      intro i x hi hx ht
      refine hstep x i hx (by omega) _ (ih (i + 1) _ (by omega) (by simpa using hx) ?_)
      rw [take_set_succ x i _ (by omega), ht, take_getD_succ ((List.range n).map v) i (v i) (by simp; omega)]
      congr 2
      simp [List.getD, List.getElem?_map, List.getElem?_range (show i < n by omega)]
  intro x hx
  exact key n 0 x (by omega) hx (by simp)
/-- A loop over all that answers true. -/
theorem all_ev {α : Type} {g : Nat → Int → Option α} {r : α} (n : Nat) (hstep : ∀ i : Nat, i < n → Ev (fun k => g k ((i + 1 : Nat) : Int)) r → Ev (fun k => g k (i : Int)) r) (hend : Ev (fun k => g k (n : Int)) r) : Ev (fun k => g k 0) r := by
  have key : ∀ (m i : Nat), i + m = n → Ev (fun k => g k (i : Int)) r := by
    intro m
    induction m with
    | zero => intro i hi; obtain rfl : i = n := by omega
              exact hend
    | succ m ih => intro i hi; exact hstep i (by omega) (ih (i + 1) (by omega))
  exact key n 0 (by omega)
/-- Both answer, and alike. -/
def Same {α : Type} (g h : Nat → Option α) : Prop := ∃ r, Ev g r ∧ Ev h r
theorem Ev_succ {α : Type} {g : Nat → Option α} {r : α} (h : Ev (fun k => g (k + 1)) r) : Ev g r := Ev.step (fun _ => rfl) h
theorem Ev_t {α : Type} {c : Prop} [Decidable c] {g f : Nat → Option α} {r : α} (hc : c) (h : Ev g r) : Ev (fun k => if c then g k else f k) r := by
  simp only [if_pos hc]; exact h
theorem Ev_f {α : Type} {c : Prop} [Decidable c] {g f : Nat → Option α} {r : α} (hc : ¬ c) (h : Ev f r) : Ev (fun k => if c then g k else f k) r := by
  simp only [if_neg hc]; exact h
theorem Ev_ite {α : Type} {c : Prop} [Decidable c] {g f : Nat → Option α} {r : α} (p : c → Ev g r) (q : ¬ c → Ev f r) : Ev (fun k => if c then g k else f k) r := by
  by_cases hc : c
  · exact Ev_t hc (p hc)
  · exact Ev_f hc (q hc)
theorem Same.now {α : Type} (r : α) : Same (fun _ => some r) (fun _ => some r) := ⟨r, Ev.now r, Ev.now r⟩
theorem Same.of {α : Type} {g h : Nat → Option α} {r : α} (p : Ev g r) (q : Ev h r) : Same g h := ⟨r, p, q⟩
theorem Same.succL {α : Type} {g h : Nat → Option α} (s : Same (fun k => g (k + 1)) h) : Same g h := by
  obtain ⟨r, p, q⟩ := s
  exact ⟨r, Ev_succ p, q⟩
theorem Same.succR {α : Type} {g h : Nat → Option α} (s : Same g (fun k => h (k + 1))) : Same g h := by
  obtain ⟨r, p, q⟩ := s
  exact ⟨r, p, Ev_succ q⟩
theorem Same.iteL {α : Type} {c : Prop} [Decidable c] {g f h : Nat → Option α} (p : c → Same g h) (q : ¬ c → Same f h) : Same (fun k => if c then g k else f k) h := by
  by_cases hc : c
  · simp only [if_pos hc]; exact p hc
  · simp only [if_neg hc]; exact q hc
theorem Same.iteR {α : Type} {c : Prop} [Decidable c] {g f h : Nat → Option α} (p : c → Same g h) (q : ¬ c → Same g f) : Same g (fun k => if c then h k else f k) := by
  by_cases hc : c
  · simp only [if_pos hc]; exact p hc
  · simp only [if_neg hc]; exact q hc
theorem Same.bindL {α β : Type} {g : Nat → Option β} {f : Nat → β → Option α} {h : Nat → Option α} {a : β} (p : Ev g a) (s : Same (fun k => f k a) h) : Same (fun k => (g k).bind (f k)) h := by
  obtain ⟨r, p', q⟩ := s
  exact ⟨r, Ev.bind p p', q⟩
theorem Same.bindR {α β : Type} {g : Nat → Option β} {f : Nat → β → Option α} {h : Nat → Option α} {a : β} (p : Ev g a) (s : Same h (fun k => f k a)) : Same h (fun k => (g k).bind (f k)) := by
  obtain ⟨r, p', q⟩ := s
  exact ⟨r, p', Ev.bind p q⟩
/-- Both answer, and alike, and the answer is told something of. -/
def SameQ {α : Type} (Q : α → Prop) (g h : Nat → Option α) : Prop := ∃ r, Ev g r ∧ Ev h r ∧ Q r
theorem SameQ.of {α : Type} {Q : α → Prop} {g h : Nat → Option α} {r : α} (p : Ev g r) (q : Ev h r) (w : Q r) : SameQ Q g h := ⟨r, p, q, w⟩
theorem SameQ.imp {α : Type} {Q Q' : α → Prop} {g h : Nat → Option α} (s : SameQ Q g h) (i : ∀ r, Q r → Q' r) : SameQ Q' g h := by
  obtain ⟨r, p, q, w⟩ := s
  exact ⟨r, p, q, i r w⟩
theorem SameQ.succL {α : Type} {Q : α → Prop} {g h : Nat → Option α} (s : SameQ Q (fun k => g (k + 1)) h) : SameQ Q g h := by
  obtain ⟨r, p, q, w⟩ := s
  exact ⟨r, Ev_succ p, q, w⟩
theorem SameQ.succR {α : Type} {Q : α → Prop} {g h : Nat → Option α} (s : SameQ Q g (fun k => h (k + 1))) : SameQ Q g h := by
  obtain ⟨r, p, q, w⟩ := s
  exact ⟨r, p, Ev_succ q, w⟩
theorem SameQ.iteL {α : Type} {Q : α → Prop} {c : Prop} [Decidable c] {g f h : Nat → Option α} (p : c → SameQ Q g h) (q : ¬ c → SameQ Q f h) : SameQ Q (fun k => if c then g k else f k) h := by
  by_cases hc : c
  · simp only [if_pos hc]; exact p hc
  · simp only [if_neg hc]; exact q hc
theorem SameQ.iteR {α : Type} {Q : α → Prop} {c : Prop} [Decidable c] {g f h : Nat → Option α} (p : c → SameQ Q g h) (q : ¬ c → SameQ Q g f) : SameQ Q g (fun k => if c then h k else f k) := by
  by_cases hc : c
  · simp only [if_pos hc]; exact p hc
  · simp only [if_neg hc]; exact q hc
theorem SameQ.bindL {α β : Type} {Q : α → Prop} {g : Nat → Option β} {f : Nat → β → Option α} {h : Nat → Option α} {a : β} (p : Ev g a) (s : SameQ Q (fun k => f k a) h) : SameQ Q (fun k => (g k).bind (f k)) h := by
  obtain ⟨r, p', q, w⟩ := s
  exact ⟨r, Ev.bind p p', q, w⟩
theorem SameQ.bindR {α β : Type} {Q : α → Prop} {g : Nat → Option β} {f : Nat → β → Option α} {h : Nat → Option α} {a : β} (p : Ev g a) (s : SameQ Q h (fun k => f k a)) : SameQ Q h (fun k => (g k).bind (f k)) := by
  obtain ⟨r, p', q, w⟩ := s
  exact ⟨r, p', Ev.bind p q, w⟩
theorem drop_cons {α : Type} (l : List α) (i : Nat) (d : α) (h : i < l.length) : l.drop i = l.getD i d :: l.drop (i + 1) := by
  rw [List.drop_eq_getElem_cons h]
  simp [List.getD, h]
theorem Ev_unique {α : Type} {g : Nat → Option α} {r r' : α} (h : Ev g r) (h' : Ev g r') : r = r' := by
  obtain ⟨K, h⟩ := h
  obtain ⟨K', h'⟩ := h'
  have h1 := h (max K K') (by omega)
  have h2 := h' (max K K') (by omega)
  rw [h1] at h2
  exact Option.some.inj h2
theorem map_same {α : Type} (xs : List α) : xs.map (fun x => x) = xs := by simp
theorem getD_mem {α : Type} {xs : List α} {i : Nat} (d : α) (h : i < xs.length) : xs.getD i d ∈ xs := by
  simp [List.getD, List.getElem?_eq_getElem h]
end Go.Proofs.Ytebmncdjlmnbnaa.Lib
