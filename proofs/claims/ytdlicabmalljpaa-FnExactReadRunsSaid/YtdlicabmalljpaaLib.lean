import Derived.Test.YtdlicabmalljpaaWMore
namespace Go.Proofs.Ytdlicabmalljpaa.Lib
open Go Go.RowKit Go.Proofs.YtdlicabmalljpaaW.PrintWords Go.Proofs.YtdlicabmalljpaaW.PrintMore
theorem w64 {n : Int} (h : -9223372036854775808 ≤ n) (h' : n ≤ 9223372036854775807) : wrap64 n = n := by
  unfold wrap64; omega
theorem w64_succ {i n : Nat} (h : i < n) (hn : n ≤ 9223372036854775807) : wrap64 ((i : Int) + 1) = ((i + 1 : Nat) : Int) := by
  rw [w64 (by omega) (by omega)]; omega
theorem Ev_eq {α : Type} {g : Nat → Option α} {r r' : α} (h : Ev g r) (e : r = r') : Ev g r' := e ▸ h
theorem rd_nat (xs : List Int) (i : Nat) : rd xs (i : Int) = xs.getD i 0 := by simp [rd]
theorem take_set_succ {α : Type} (x : List α) (i : Nat) (v : α) (h : i < x.length) : (x.set i v).take (i + 1) = x.take i ++ [v] := by
  rw [List.take_add_one, List.take_set_of_le (Nat.le_refl i)]
  simp [h]
theorem take_getD_succ {α : Type} (x : List α) (i : Nat) (d : α) (h : i < x.length) : x.take (i + 1) = x.take i ++ [x.getD i d] := by
  rw [List.take_add_one]
  simp [h, List.getD]
theorem fill_ev {α β : Type} {g : Nat → List α → Int → Option (List α)} (xs : List β) (d : β) (c : β → α)
    (hstep : ∀ (x : List α) (i : Nat), x.length = xs.length → i < xs.length → Ev (fun k => g k (x.set i (c (xs.getD i d))) ((i + 1 : Nat) : Int)) (xs.map c) → Ev (fun k => g k x (i : Int)) (xs.map c))
    (hend : ∀ x : List α, x.length = xs.length → Ev (fun k => g k x (xs.length : Int)) x) :
    ∀ x : List α, x.length = xs.length → Ev (fun k => g k x 0) (xs.map c) := by
  have key : ∀ (m i : Nat) (x : List α), i + m = xs.length → x.length = xs.length → x.take i = (xs.map c).take i → Ev (fun k => g k x (i : Int)) (xs.map c) := by
    intro m
    induction m with
    | zero =>
      intro i x hi hx ht
      obtain rfl : i = xs.length := by omega
      have := hend x hx
      have hh : x = xs.map c := by
        rw [List.take_of_length_le (by omega), List.take_of_length_le (by simp)] at ht
        exact ht
      rw [← hh]; exact this
    | succ m ih =>
      intro i x hi hx ht
      refine hstep x i hx (by omega) (ih (i + 1) _ (by omega) (by simpa using hx) ?_)
      rw [take_set_succ x i _ (by omega), ht, take_getD_succ (xs.map c) i (c d) (by simp; omega)]
      congr 2
      simp [List.getD, List.getElem?_map, List.getElem?_eq_getElem (show i < xs.length by omega)]
  intro x hx
  exact key xs.length 0 x (by omega) hx (by simp)
theorem fills_ev {α γ : Type} {g : Nat → List α → Int → Option γ} (n : Nat) (v : Nat → α) (R : List α → γ)
    (hstep : ∀ (x : List α) (i : Nat), x.length = n → i < n → ∀ r, Ev (fun k => g k (x.set i (v i)) ((i + 1 : Nat) : Int)) r → Ev (fun k => g k x (i : Int)) r)
    (hend : ∀ x : List α, x.length = n → Ev (fun k => g k x (n : Int)) (R x)) :
    ∀ x : List α, x.length = n → Ev (fun k => g k x 0) (R ((List.range n).map v)) := by
  have key : ∀ (m i : Nat) (x : List α), i + m = n → x.length = n → x.take i = ((List.range n).map v).take i → Ev (fun k => g k x (i : Int)) (R ((List.range n).map v)) := by
    intro m
    induction m with
    | zero =>
      intro i x hi hx ht
      obtain rfl : i = n := by omega
      have hh : x = (List.range i).map v := by
        rw [List.take_of_length_le (by omega), List.take_of_length_le (by simp)] at ht
        exact ht
      rw [← hh]
      exact hend x hx
    | succ m ih =>
      intro i x hi hx ht
      refine hstep x i hx (by omega) _ (ih (i + 1) _ (by omega) (by simpa using hx) ?_)
      rw [take_set_succ x i _ (by omega), ht, take_getD_succ ((List.range n).map v) i (v i) (by simp; omega)]
      congr 2
      simp [List.getD, List.getElem?_map, List.getElem?_range (show i < n by omega)]
  intro x hx
  exact key n 0 x (by omega) hx (by simp)
theorem all_ev {α : Type} {g : Nat → Int → Option α} {r : α} (n : Nat) (hstep : ∀ i : Nat, i < n → Ev (fun k => g k ((i + 1 : Nat) : Int)) r → Ev (fun k => g k (i : Int)) r) (hend : Ev (fun k => g k (n : Int)) r) : Ev (fun k => g k 0) r := by
  have key : ∀ (m i : Nat), i + m = n → Ev (fun k => g k (i : Int)) r := by
    intro m
    induction m with
    | zero => intro i hi; obtain rfl : i = n := by omega
              exact hend
    | succ m ih => intro i hi; exact hstep i (by omega) (ih (i + 1) (by omega))
  exact key n 0 (by omega)
def Same {α : Type} (g h : Nat → Option α) : Prop := ∃ r, Ev g r ∧ Ev h r
theorem Ev_succ {α : Type} {g : Nat → Option α} {r : α} (h : Ev (fun k => g (k + 1)) r) : Ev g r := Ev.step (fun _ => rfl) h
theorem Ev_t {α : Type} {c : Prop} [Decidable c] {g f : Nat → Option α} {r : α} (hc : c) (h : Ev g r) : Ev (fun k => if c then g k else f k) r := by
  simp only [if_pos hc]; exact h
theorem Ev_f {α : Type} {c : Prop} [Decidable c] {g f : Nat → Option α} {r : α} (hc : ¬ c) (h : Ev f r) : Ev (fun k => if c then g k else f k) r := by
  simp only [if_neg hc]; exact h
theorem Ev_ite {α : Type} {c : Prop} [Decidable c] {g f : Nat → Option α} {r : α} (p : c → Ev g r) (q : ¬ c → Ev f r) : Ev (fun k => if c then g k else f k) r := by
  by_cases hc : c
  · exact Ev_t hc (p hc)
  · exact Ev_f hc (q hc)
theorem Same.now {α : Type} (r : α) : Same (fun _ => some r) (fun _ => some r) := ⟨r, Ev.now r, Ev.now r⟩
theorem Same.of {α : Type} {g h : Nat → Option α} {r : α} (p : Ev g r) (q : Ev h r) : Same g h := ⟨r, p, q⟩
theorem Same.succL {α : Type} {g h : Nat → Option α} (s : Same (fun k => g (k + 1)) h) : Same g h := by
  obtain ⟨r, p, q⟩ := s
  exact ⟨r, Ev_succ p, q⟩
theorem Same.succR {α : Type} {g h : Nat → Option α} (s : Same g (fun k => h (k + 1))) : Same g h := by
  obtain ⟨r, p, q⟩ := s
  exact ⟨r, p, Ev_succ q⟩
theorem Same.iteL {α : Type} {c : Prop} [Decidable c] {g f h : Nat → Option α} (p : c → Same g h) (q : ¬ c → Same f h) : Same (fun k => if c then g k else f k) h := by
  by_cases hc : c
  · simp only [if_pos hc]; exact p hc
  · simp only [if_neg hc]; exact q hc
theorem Same.iteR {α : Type} {c : Prop} [Decidable c] {g f h : Nat → Option α} (p : c → Same g h) (q : ¬ c → Same g f) : Same g (fun k => if c then h k else f k) := by
  by_cases hc : c
  · simp only [if_pos hc]; exact p hc
  · simp only [if_neg hc]; exact q hc
def SameQ {α : Type} (Q : α → Prop) (g h : Nat → Option α) : Prop := ∃ r, Ev g r ∧ Ev h r ∧ Q r
theorem SameQ.of {α : Type} {Q : α → Prop} {g h : Nat → Option α} {r : α} (p : Ev g r) (q : Ev h r) (w : Q r) : SameQ Q g h := ⟨r, p, q, w⟩
theorem SameQ.imp {α : Type} {Q Q' : α → Prop} {g h : Nat → Option α} (s : SameQ Q g h) (i : ∀ r, Q r → Q' r) : SameQ Q' g h := by
  obtain ⟨r, p, q, w⟩ := s
  exact ⟨r, p, q, i r w⟩
theorem SameQ.succL {α : Type} {Q : α → Prop} {g h : Nat → Option α} (s : SameQ Q (fun k => g (k + 1)) h) : SameQ Q g h := by
  obtain ⟨r, p, q, w⟩ := s
  exact ⟨r, Ev_succ p, q, w⟩
theorem SameQ.succR {α : Type} {Q : α → Prop} {g h : Nat → Option α} (s : SameQ Q g (fun k => h (k + 1))) : SameQ Q g h := by
  obtain ⟨r, p, q, w⟩ := s
  exact ⟨r, p, Ev_succ q, w⟩
theorem SameQ.iteL {α : Type} {Q : α → Prop} {c : Prop} [Decidable c] {g f h : Nat → Option α} (p : c → SameQ Q g h) (q : ¬ c → SameQ Q f h) : SameQ Q (fun k => if c then g k else f k) h := by
  by_cases hc : c
  · simp only [if_pos hc]; exact p hc
  · simp only [if_neg hc]; exact q hc
theorem SameQ.iteR {α : Type} {Q : α → Prop} {c : Prop} [Decidable c] {g f h : Nat → Option α} (p : c → SameQ Q g h) (q : ¬ c → SameQ Q g f) : SameQ Q g (fun k => if c then h k else f k) := by
  by_cases hc : c
  · simp only [if_pos hc]; exact p hc
  · simp only [if_neg hc]; exact q hc
theorem drop_cons {α : Type} (l : List α) (i : Nat) (d : α) (h : i < l.length) : l.drop i = l.getD i d :: l.drop (i + 1) := by
  rw [List.drop_eq_getElem_cons h]
  simp [List.getD, h]
theorem map_same {α : Type} (xs : List α) : xs.map (fun x => x) = xs := by simp
end Go.Proofs.Ytdlicabmalljpaa.Lib
