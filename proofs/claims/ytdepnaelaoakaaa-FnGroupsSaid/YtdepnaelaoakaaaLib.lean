import Derived.Test.YtdepnaelaoakaaaWMore
namespace Go.Proofs.Ytdepnaelaoakaaa.Lib
open Go Go.RowKit Go.Proofs.YtdepnaelaoakaaaW.PrintWords Go.Proofs.YtdepnaelaoakaaaW.PrintMore
theorem w64 {n : Int} (h : -9223372036854775808 ≤ n) (h' : n ≤ 9223372036854775807) : wrap64 n = n := by
  unfold wrap64; omega
theorem w64_succ {i n : Nat} (h : i < n) (hn : n ≤ 9223372036854775807) : wrap64 ((i : Int) + 1) = ((i + 1 : Nat) : Int) := by
  rw [w64 (by omega) (by omega)]; omega
theorem wf8 {n : Int} (h : (Lit.int .u8 n).wf = true) : 0 ≤ n ∧ n ≤ 255 := by
  simpa [Lit.wf, IntKind.min, IntKind.max, IntKind.bits, IntKind.signed] using h
theorem Ev_bind0 {α β : Type} {o : Option α} {f : Nat → α → Option β} {a : α} {r : β} (h : o = some a) (k : Ev (fun n => f n a) r) : Ev (fun n => o.bind (f n)) r := by
  subst h; exact k
theorem Ev_eq {α : Type} {g : Nat → Option α} {r r' : α} (h : Ev g r) (e : r = r') : Ev g r' := e ▸ h
theorem rd_nat (xs : List Int) (i : Nat) : rd xs (i : Int) = xs.getD i 0 := by simp [rd]
theorem take_getD_succ {α : Type} (x : List α) (i : Nat) (d : α) (h : i < x.length) : x.take (i + 1) = x.take i ++ [x.getD i d] := by
  rw [List.take_add_one]
  simp [h, List.getD]
def Same {α : Type} (g h : Nat → Option α) : Prop := ∃ r, Ev g r ∧ Ev h r
theorem Ev_succ {α : Type} {g : Nat → Option α} {r : α} (h : Ev (fun k => g (k + 1)) r) : Ev g r := Ev.step (fun _ => rfl) h
theorem Ev_t {α : Type} {c : Prop} [Decidable c] {g f : Nat → Option α} {r : α} (hc : c) (h : Ev g r) : Ev (fun k => if c then g k else f k) r := by
  simp only [if_pos hc]; exact h
theorem Ev_f {α : Type} {c : Prop} [Decidable c] {g f : Nat → Option α} {r : α} (hc : ¬ c) (h : Ev f r) : Ev (fun k => if c then g k else f k) r := by
  simp only [if_neg hc]; exact h
theorem Ev_ite {α : Type} {c : Prop} [Decidable c] {g f : Nat → Option α} {r : α} (p : c → Ev g r) (q : ¬ c → Ev f r) : Ev (fun k => if c then g k else f k) r := by
  by_cases hc : c
  · exact Ev_t hc (p hc)
  · exact Ev_f hc (q hc)
theorem Same.now {α : Type} (r : α) : Same (fun _ => some r) (fun _ => some r) := ⟨r, Ev.now r, Ev.now r⟩
def SameQ {α : Type} (Q : α → Prop) (g h : Nat → Option α) : Prop := ∃ r, Ev g r ∧ Ev h r ∧ Q r
theorem SameQ.imp {α : Type} {Q Q' : α → Prop} {g h : Nat → Option α} (s : SameQ Q g h) (i : ∀ r, Q r → Q' r) : SameQ Q' g h := by
  obtain ⟨r, p, q, w⟩ := s
  exact ⟨r, p, q, i r w⟩
theorem drop_cons {α : Type} (l : List α) (i : Nat) (d : α) (h : i < l.length) : l.drop i = l.getD i d :: l.drop (i + 1) := by
  rw [List.drop_eq_getElem_cons h]
  simp [List.getD, h]
theorem getD_mem {α : Type} {xs : List α} {i : Nat} (d : α) (h : i < xs.length) : xs.getD i d ∈ xs := by
  simp [List.getD, List.getElem?_eq_getElem h]
end Go.Proofs.Ytdepnaelaoakaaa.Lib
