import Derived.RangeFuncBox
import Derived.RangeFuncNested
import Derived.RangeFuncBound
import Derived.RangeFuncCalls
import Derived.RangeFuncLeaves
import Derived.Shelf.Abstract
import Derived.Shelf.RegionOpen
import Derived.WalkKit
import Derived.OwnWalkIn
import Derived.TacticsInMore
import Derived.LoopNIn
import Derived.LoopIn
import Derived.Maps.AppendAt
import Derived.RegionIn
import Derived.BigRegionIn
import Derived.Test.YtdlicabmalljpaaProg
namespace Go.Proofs.YtdlicabmalljpaaW.Chunk
open Go Go.RowKit Go.Shelf Go.Proofs
set_option linter.unusedSimpArgs false
attribute [local go_sem] Oper.semAt_some
theorem fin_take {m k : Nat} (h : k < m) : (List.finRange m).take (k + 1) = (List.finRange m).take k ++ [⟨k, h⟩] := by
  rw [List.take_add_one]; simp [h]
theorem fin_take_len {m k : Nat} (h : k ≤ m) : ((List.finRange m).take k).length = k := by simp [h]
theorem fin_take_all {m : Nat} : (List.finRange m).take m = List.finRange m := by apply List.take_of_length_le; simp
set_option maxRecDepth 100000 in
set_option maxHeartbeats 4000000 in
theorem chunk1_in (F : Fence) (n : Nat) (h7 : F.fn 77) (hro : F.round = none) (hn : 1 ≤ n) (l Bs Bn m cap : Nat) (A : Option Addr) (ad : Addr) (hA : 0 < m → A = some ad) (hm : 2 * m ≤ cap) (hc : 2 * m ≤ 4611686018427387904) (Kp : World → World → Prop) (J Jx : List (Fin m) → World → Prop)
    (hJd : ∀ pre W, J pre W → J pre W.drew) (hk1 : ∀ A B, Kp A B → B.cell? ⟨Bs, 0, none⟩ = A.cell? ⟨Bs, 0, none⟩) (hk2 : ∀ A B, Kp A B → B.cell? ⟨Bn, 0, none⟩ = A.cell? ⟨Bn, 0, none⟩)
    (hY : ∀ pre x W, J pre W → pre.length < m → YieldAt F (n - 1) Try.prog l #[.slice (some (ad.add (2 * x.1))) 2 2] W fun e W' =>
      (e = .returned (.bool true) ∧ J (pre ++ [x]) W' ∧ Kp W W') ∨ (e = .returned (.bool false) ∧ Jx (pre ++ [x]) W'))
    (W : World) (hs : W.cell? ⟨Bs, 0, none⟩ = some (.slice A (2 * m) cap)) (hn2 : W.cell? ⟨Bn, 0, none⟩ = some (.int .i64 2)) (h0 : J [] W) :
    CallsIn F n Try.prog 77 #[.func (.yield l) #[] #[], .pointer (some ⟨Bs, 0, none⟩), .pointer (some ⟨Bn, 0, none⟩)] W fun e W' => (∃ v, e = .returned v) ∧
      ((∃ ys, ys = List.finRange m ∧ J ys W') ∨ (∃ pre, pre <+: List.finRange m ∧ Jx pre W')) := by
  refine callsIn_of_wp Try.func77 rfl h7 ?_ hro
  simp only [Try.ntmps77, List.size_toArray, List.length_cons, List.length_nil, Nat.reduceAdd, Nat.reduceSub, Array.replicate_succ, Array.replicate_zero, List.push_toArray, List.append_toArray, List.nil_append, List.cons_append]
  gi_wp2
  gi_loopw [4] (fun i wr => ∃ k : Nat, k ≤ m ∧ i = .int .i64 ((2 * k : Nat) : Int) ∧ J ((List.finRange m).take k) wr ∧ wr.cell? ⟨Bs, 0, none⟩ = some (.slice A (2 * m) cap) ∧ wr.cell? ⟨Bn, 0, none⟩ = some (.int .i64 2))
    (fun i _ => 2 * m - (intOf i).toNat)
  case atStart => exact ⟨0, Nat.zero_le _, rfl, h0, hs, hn2⟩
  case round =>
    obtain ⟨k, hk, rfl, hJs, hs', hn'⟩ := hrel
    by_cases hlt : k < m
    · obtain rfl := hA (by omega)
      obtain ⟨fn, tmps, assign, body, hy, hR⟩ := hY _ ⟨k, hlt⟩ wr.drew (hJd _ _ hJs) (by rw [fin_take_len hk]; exact hlt)
      dsimp only at hy
      gi_wp2
      gi_region
      all_goals gi_wp2
      all_goals (
        refine hR.mono ?_
        rintro e W3 (⟨rfl, hJ3, hk3⟩ | ⟨rfl, hJx3⟩)
        · have h1 : W3.cell? ⟨Bs, 0, none⟩ = some (.slice (some ad) (2 * m) cap) := (hk1 _ _ hk3).trans hs'
          have h2 : W3.cell? ⟨Bn, 0, none⟩ = some (.int .i64 2) := (hk2 _ _ hk3).trans hn'
          gi_wp2
          go_roundw
          case rel => exact ⟨k + 1, by omega, by simp [Nat.mul_add], by rw [fin_take hlt]; exact hJ3, h1, h2⟩
          case measure => simp [intOf]; omega
        · gi_wp2
          refine bodyPost_ret (results_none rfl _ _ _) rfl ?_
          exact ⟨⟨_, rfl⟩, .inr ⟨_, by rw [← fin_take hlt]; exact List.take_prefix _ _, hJx3⟩⟩)
    · obtain rfl : k = m := by omega
      gi_wp2
      go_end0
      exact ⟨⟨_, rfl⟩, .inl ⟨_, rfl, by rw [← fin_take_all]; exact hJs⟩⟩
set_option maxHeartbeats 1000000 in
theorem chunk_in (F : Fence) (n : Nat) (h53 : F.fn 53) (hro : F.round = none) (A : Option Addr) (len cap : Nat) (w : World) :
    CallsIn F n Try.prog 53 #[.slice A len cap, .int .i64 2] w fun e w' => e = .returned (.func (.func 77) #[] #[.pointer (some ⟨w.heap.size, 0, none⟩), .pointer (some ⟨w.heap.size + 1, 0, none⟩)]) ∧ w' = (w.alloc (.cells #[.slice A len cap] 29)).alloc (.cells #[.int .i64 2] 3) := by
  refine callsIn_of_wp Try.func53 rfl h53 ?_ hro
  simp only [Try.ntmps53, List.size_toArray, List.length_cons, List.length_nil, Nat.reduceAdd, Nat.reduceSub, Array.replicate_succ, Array.replicate_zero, List.push_toArray, List.append_toArray, List.nil_append, List.cons_append]
  gi_wp2
  go_ret
  exact ⟨rfl, rfl⟩
theorem grown_drew (W : World) (row : Option Nat) : W.grownBy W.drew row := ⟨rfl, rfl, rfl, Nat.le_refl _, fun _ _ _ => rfl⟩
def KeepsTwo (Bs Bn : Nat) (W W' : World) : Prop := W'.heap[Bs]? = W.heap[Bs]? ∧ W'.heap[Bn]? = W.heap[Bn]?
theorem KeepsTwo.trans {Bs Bn : Nat} {X Y Z : World} (h : KeepsTwo Bs Bn X Y) (k : KeepsTwo Bs Bn Y Z) : KeepsTwo Bs Bn X Z := ⟨k.1.trans h.1, k.2.trans h.2⟩
theorem KeepsTwo.put {Bs Bn : Nat} (W : World) (l : Nat) (o' : Obj) (h1 : Bs ≠ l) (h2 : Bn ≠ l) : KeepsTwo Bs Bn W (W.putObj l o') := by
  constructor <;> simp [World.putObj, Array.getElem?_setIfInBounds, Ne.symm h1, Ne.symm h2]
theorem chunk_stops (F : Fence) (n : Nat) (h7 : F.fn 77) (hro : F.round = none) (hn : 1 ≤ n) (Bs Bn m cap : Nat) (A : Option Addr) (ad : Addr) (hA : 0 < m → A = some ad) (hm : 2 * m ≤ cap) (hc : 2 * m ≤ 4611686018427387904) (w : World) (hBs : Bs < w.heap.size) (hBn : Bn < w.heap.size)
    (hs : w.cell? ⟨Bs, 0, none⟩ = some (.slice A (2 * m) cap)) (hn2 : w.cell? ⟨Bn, 0, none⟩ = some (.int .i64 2)) :
    SeqStopsK F n Try.prog 77 #[.pointer (some ⟨Bs, 0, none⟩), .pointer (some ⟨Bn, 0, none⟩)] (fun x : Fin m => #[.slice (some (ad.add (2 * x.1))) 2 2]) (KeepsTwo Bs Bn) (fun ys => ys = List.finRange m) (fun pre => pre <+: List.finRange m) m w := fun l J Jx W hW hJ _ hY h0 =>
  chunk1_in F n h7 hro hn l Bs Bn m cap A ad hA hm hc (KeepsTwo Bs Bn) J Jx (fun pre W h => hJ pre W W.drew none h (grown_drew W none) (fun _ e => by cases e)) (fun A B h => by simp only [World.cell?, h.1]) (fun A B h => by simp only [World.cell?, h.2]) hY W
    ((hW.cell (p := ⟨Bs, 0, none⟩) hBs).trans hs) ((hW.cell (p := ⟨Bn, 0, none⟩) hBn).trans hn2) h0
end Go.Proofs.YtdlicabmalljpaaW.Chunk
