-- Written by a program of this session over the print of the kit (wip/t/patch_print.py).
import Derived.Test.YtebmncdjlmnbnaaProg
import Derived.Below
import Derived.Deep.Draws
import Derived.Deep.AppendLies
import Derived.Maps.AppendAt
import Derived.OwnWalk
import Derived.Laws.BytesArg
import Derived.Laws.MakeOwn
import Derived.Laws.OwnMore
import Derived.Deep.OwnRows
import Derived.Tactics
import Derived.Lib.ConvBytes
import Derived.Laws.Slices
import Derived.WalkKit
import Derived.KernelRfl
import Derived.RowKit3
import Derived.Deep.LoopGhost
import Derived.Deep.QuietTactic
import Derived.BigQuiet
import Derived.WideLaws
import Derived.Deep.DeepCutAuto
import Derived.Deep.CutBlock
import Derived.Deep.RegionHeld3
import Derived.Laws.Rows
import Derived.Lib.AppendStr
import Derived.ArgAppend
import Derived.Laws.IdiomCopy
import Derived.OrdersHeld
import Derived.Laws.BitsLemmas
import Derived.RowKit
import Derived.Lib.AppendZerosOnto
import Derived.Laws.Externs
import Derived.Deep.RegionLaw
import Derived.Test.YtebmncdjlmnbnaaWWords
import Derived.Test.YtebmncdjlmnbnaaWLast
import Derived.Test.YtebmncdjlmnbnaaWTab
import Derived.Test.YtebmncdjlmnbnaaWFour
import Derived.Test.YtebmncdjlmnbnaaWQPut
import Derived.Test.YtebmncdjlmnbnaaWApart
import Derived.Test.YtebmncdjlmnbnaaWArr
import Derived.Test.YtebmncdjlmnbnaaWZeros
import Derived.Test.YtebmncdjlmnbnaaWFoot
import Derived.Test.YtebmncdjlmnbnaaWKept
import Derived.Test.YtebmncdjlmnbnaaWShare
import Derived.Test.YtebmncdjlmnbnaaWN
import Derived.Test.YtebmncdjlmnbnaaWFootNe
import Derived.Test.YtebmncdjlmnbnaaWAt
import Derived.Test.YtebmncdjlmnbnaaWEqStruct
import Derived.Test.YtebmncdjlmnbnaaWRepsOne
import Derived.Test.YtebmncdjlmnbnaaWInv
import Derived.Test.YtebmncdjlmnbnaaWInvWords
import Derived.Test.YtebmncdjlmnbnaaWGuard
import Derived.Test.YtebmncdjlmnbnaaWNEv
import Derived.Test.YtebmncdjlmnbnaaWMore
namespace Go.Proofs.Ytebmncdjlmnbnaa.PFnExactComposeAll
open Go.RowKit Go.Proofs.YtebmncdjlmnbnaaW.PrintWords Go.Proofs.YtebmncdjlmnbnaaW.PrintLast Go.Proofs.YtebmncdjlmnbnaaW.PrintMore
attribute [local go_sem] max2_int min2_int max_two min_two max_three min_three max_four min_four   -- for this text's walks alone
set_option linter.unusedVariables false
set_option linter.unusedSimpArgs false



def errW : Option Int → Value
  | none => .nilIface
  | some c => .iface 0 (.int .i64 c)
theorem errW_none : errW none = .nilIface := rfl
theorem errW_some (c : Int) : errW (some c) = .iface 0 (.int .i64 c) := rfl

/-- The blocks that a row of rows may have: ok, made here, of its types. -/
def SB_ {α : Type} (d : Kd α) (e : Nat) (W : World) (base : Nat) (ok : Nat → Prop) (k : Nat) : Prop := ok k ∧ base ≤ k ∧ k < W.heap.size ∧ ∃ q, q ∈ e :: d.E ∧ ∃ cells, W.heap[k]? = some (.cells cells q (0, 0))
theorem SB_own {α : Type} {d : Kd α} {e : Nat} {W : World} {base : Nat} {ok : Nat → Prop} {v : Value} {xs : List α} (h : Kd.S d e W base ok v xs) : Kd.S d e W base (SB_ d e W base ok) v xs := Kd.S_bound h
theorem R_apartSB {α β : Type} {d : Kd α} {d' : Kd β} {e e' : Nat} {W : World} {base base' : Nat} {ok ok' : Nat → Prop} {v : Value} {xs : List α} (h : Kd.R d e W base ok v xs) (ht : ∀ q, q ∈ e :: d.E → ∀ q', q' ∈ e' :: d'.E → q ≠ q') : Kd.R d e W base (fun k => ok k ∧ ¬ SB_ d' e' W base' ok' k) v xs :=
  Kd.R_mono (Kd.R_bound h) (fun k hk => ⟨hk.1, fun hs => by
    obtain ⟨_, _, _, q, hq, cells, hc⟩ := hk
    obtain ⟨_, _, _, q', hq', cells', hc'⟩ := hs
    rw [hc] at hc'
    injection hc' with hc'
    injection hc' with _ hc'
    exact ht q hq q' hq' hc'⟩)
theorem R_apartSBo {α β : Type} {d : Kd α} {d' : Kd β} {e e' : Nat} {W : World} {base base' : Nat} {ok ok' : Nat → Prop} {v : Value} {xs : List α} (hE : d.E = []) (h : Kd.R d e W base ok v xs) (hn : ∀ k, ok' k → some k ≠ v.ownBlock) : Kd.R d e W base (fun k => ok k ∧ ¬ SB_ d' e' W base' ok' k) v xs :=
  Kd.R_mono (Kd.R_tight hE h) (fun k hk => ⟨h.1 k hk.symm, fun hs => hn k hs.1 hk⟩)
theorem S_apartSBn {α β : Type} {d : Kd α} {d' : Kd β} {e e' : Nat} {W : World} {base base' : Nat} {ok ok' : Nat → Prop} {v : Value} {xs : List α} (h : Kd.S d e W base ok v xs) (hn : ∀ k, ok k → ¬ ok' k) : Kd.S d e W base (fun k => ok k ∧ ¬ SB_ d' e' W base' ok' k) v xs :=
  Kd.S_mono h (fun k hk => ⟨hk, fun hs => hn k hk hs.1⟩)
theorem blk_SB {α : Type} {d : Kd α} {e : Nat} {W : World} {base : Nat} {ok : Nat → Prop} {g t : Nat} {cs : Array Value} (hb : W.heap[g]? = some (.cells cs t (0, 0))) (ht : ∀ q, q ∈ e :: d.E → q ≠ t) : ¬ SB_ d e W base ok g := fun hs => by
  obtain ⟨_, _, _, q, hq, cells, hc⟩ := hs
  rw [hb] at hc
  injection hc with hc
  injection hc with _ hc
  exact ht q hq hc.symm
theorem SB_ne_row {α : Type} {d : Kd α} {e : Nat} {W : World} {base : Nat} {ok : Nat → Prop} {v : Value} {k t : Nat} (hs : SB_ d e W base ok k) (hv : ∀ g, v.ownBlock = some g → ∃ cells, W.heap[g]? = some (.cells cells t (0, 0))) (ht : ∀ q, q ∈ e :: d.E → q ≠ t) : some k ≠ v.ownBlock := fun e_ => by
  obtain ⟨cells, hc⟩ := hv k e_.symm
  exact blk_SB hc ht hs
theorem R_apartSBn {α β : Type} {d : Kd α} {d' : Kd β} {e e' : Nat} {W : World} {base base' : Nat} {ok ok' : Nat → Prop} {v : Value} {xs : List α} (h : Kd.R d e W base ok v xs) (hn : ∀ k, ok k → ¬ ok' k) : Kd.R d e W base (fun k => ok k ∧ ¬ SB_ d' e' W base' ok' k) v xs :=
  Kd.R_mono h (fun k hk => ⟨hk, fun hs => hn k hk hs.1⟩)

theorem info4 : (Try.prog.info? 4).map (fun i => (i.zero, i.size, i.bytes)) = some (some (.bool false), 1, 1) := by kernel_rfl
theorem info5 : (Try.prog.info? 5).map (fun i => (i.zero, i.size, i.bytes)) = some (some (.int .u8 0), 1, 1) := by kernel_rfl
theorem info9 : (Try.prog.info? 9).map (fun i => (i.zero, i.size, i.bytes)) = some (some (.string ⟨#[]⟩), 1, 16) := by kernel_rfl
theorem info74 : (Try.prog.info? 74).map (fun i => (i.zero, i.size, i.bytes)) = some (some (.agg #[(.int .i64 0), (.int .i64 0), (.string ⟨#[]⟩)]), 3, 32) := by kernel_rfl
theorem info100 : (Try.prog.info? 100).map (fun i => (i.zero, i.size, i.bytes)) = some (some (.agg #[(.slice none 0 0)]), 1, 24) := by kernel_rfl
-- the values' own types
/-! #### struct type 74 -/
structure S74 where
  f0 : Int
  f1 : Int
  f2 : ByteArray
def z74 : S74 := ⟨(0 : Int), (0 : Int), (⟨#[]⟩ : ByteArray)⟩
def k74 : Kd S74 := Kd.iso (Kd.pair (Kd.int .i64) (Kd.pair (Kd.int .i64) Kd.string)) (fun x : S74 => (x.f0, x.f1, x.f2))
theorem k74_heap : Kd.Heap k74 := Kd.heap_iso _ (Kd.heap_pair (Kd.heap_int .i64) (Kd.heap_pair (Kd.heap_int .i64) Kd.heap_string))
theorem k74_open {w : World} {x : S74} {cs : List Value} (h : k74.K w x cs) : cs = [.int .i64 x.f0, .int .i64 x.f1, .string x.f2] := by
  obtain ⟨_, _, rfl, rfl, ⟨_, _, rfl, rfl, rfl⟩⟩ := h
  exact rfl
theorem k74_openM {w : World} {base : Nat} {ok : Nat → Prop} {x : S74} {cs : List Value} (h : k74.M w base ok x cs) : cs = [.int .i64 x.f0, .int .i64 x.f1, .string x.f2] := by
  obtain ⟨_, _, rfl, rfl, ⟨_, _, rfl, rfl, rfl⟩⟩ := h
  exact rfl
theorem k74_mk (w : World) (x : S74)  : k74.K w x [.int .i64 x.f0, .int .i64 x.f1, .string x.f2] := ⟨[.int .i64 x.f0], [.int .i64 x.f1, .string x.f2], rfl, rfl, ⟨[.int .i64 x.f1], [.string x.f2], rfl, rfl, rfl⟩⟩
theorem k74_mkM (w : World) (base : Nat) (ok : Nat → Prop) (x : S74)  : k74.M w base ok x [.int .i64 x.f0, .int .i64 x.f1, .string x.f2] := ⟨[.int .i64 x.f0], [.int .i64 x.f1, .string x.f2], rfl, rfl, ⟨[.int .i64 x.f1], [.string x.f2], rfl, rfl, rfl⟩⟩
theorem k74_mkF (W : World) (ok : Nat → Prop) (x : S74) : Kd.FK k74 W ok x [.int .i64 x.f0, .int .i64 x.f1, .string x.f2] := fun W2 _ => k74_mk W2 x
def rd_T74 (xs : List S74) (i : Int) : S74 := xs.getD i.toNat z74
theorem at_T74 {w : World} {A : Option Addr} {n : Nat} {xs : List S74} (h : Kd.C k74 w A n xs) (i : Int) (h0 : 0 ≤ i) (h1 : i < n) : ∃ ad , A = some ad ∧ w.cell? (ad.add (i.toNat * 3)) = some (.int .i64 (rd_T74 xs i).f0) ∧ w.cell? ⟨(ad.add (i.toNat * 3)).block, (ad.add (i.toNat * 3)).off + 1, none⟩ = some (.int .i64 (rd_T74 xs i).f1) ∧ w.cell? ⟨(ad.add (i.toNat * 3)).block, (ad.add (i.toNat * 3)).off + 2, none⟩ = some (.string (rd_T74 xs i).f2) := by
  obtain ⟨ad, c, e, _, hK, hc0⟩ := Kd.C_get h z74 i h0 h1
  have hc : ∀ j u, c[j]? = some u → w.cell? (ad.add (i.toNat * 3 + j)) = some u := hc0
  obtain rfl := k74_open hK
  exact ⟨ad, e, hc 0 _ rfl, by rw [← add_field _ _ 1 (by omega)]; exact hc 1 _ rfl, by rw [← add_field _ _ 2 (by omega)]; exact hc 2 _ rfl⟩

/-! #### struct type 73 -/
structure S73 where
  f0 : Int
  f1 : Int
  f2 : ByteArray
def z73 : S73 := ⟨(0 : Int), (0 : Int), (⟨#[]⟩ : ByteArray)⟩
def k73 : Kd S73 := Kd.iso (Kd.pair (Kd.int .i64) (Kd.pair (Kd.int .i64) Kd.string)) (fun x : S73 => (x.f0, x.f1, x.f2))
theorem k73_heap : Kd.Heap k73 := Kd.heap_iso _ (Kd.heap_pair (Kd.heap_int .i64) (Kd.heap_pair (Kd.heap_int .i64) Kd.heap_string))
theorem k73_open {w : World} {x : S73} {cs : List Value} (h : k73.K w x cs) : cs = [.int .i64 x.f0, .int .i64 x.f1, .string x.f2] := by
  obtain ⟨_, _, rfl, rfl, ⟨_, _, rfl, rfl, rfl⟩⟩ := h
  exact rfl
theorem k73_openM {w : World} {base : Nat} {ok : Nat → Prop} {x : S73} {cs : List Value} (h : k73.M w base ok x cs) : cs = [.int .i64 x.f0, .int .i64 x.f1, .string x.f2] := by
  obtain ⟨_, _, rfl, rfl, ⟨_, _, rfl, rfl, rfl⟩⟩ := h
  exact rfl
theorem k73_mk (w : World) (x : S73)  : k73.K w x [.int .i64 x.f0, .int .i64 x.f1, .string x.f2] := ⟨[.int .i64 x.f0], [.int .i64 x.f1, .string x.f2], rfl, rfl, ⟨[.int .i64 x.f1], [.string x.f2], rfl, rfl, rfl⟩⟩
theorem k73_mkM (w : World) (base : Nat) (ok : Nat → Prop) (x : S73)  : k73.M w base ok x [.int .i64 x.f0, .int .i64 x.f1, .string x.f2] := ⟨[.int .i64 x.f0], [.int .i64 x.f1, .string x.f2], rfl, rfl, ⟨[.int .i64 x.f1], [.string x.f2], rfl, rfl, rfl⟩⟩
theorem k73_mkF (W : World) (ok : Nat → Prop) (x : S73) : Kd.FK k73 W ok x [.int .i64 x.f0, .int .i64 x.f1, .string x.f2] := fun W2 _ => k73_mk W2 x
def rd_T73 (xs : List S73) (i : Int) : S73 := xs.getD i.toNat z73
theorem at_T73 {w : World} {A : Option Addr} {n : Nat} {xs : List S73} (h : Kd.C k73 w A n xs) (i : Int) (h0 : 0 ≤ i) (h1 : i < n) : ∃ ad , A = some ad ∧ w.cell? (ad.add (i.toNat * 3)) = some (.int .i64 (rd_T73 xs i).f0) ∧ w.cell? ⟨(ad.add (i.toNat * 3)).block, (ad.add (i.toNat * 3)).off + 1, none⟩ = some (.int .i64 (rd_T73 xs i).f1) ∧ w.cell? ⟨(ad.add (i.toNat * 3)).block, (ad.add (i.toNat * 3)).off + 2, none⟩ = some (.string (rd_T73 xs i).f2) := by
  obtain ⟨ad, c, e, _, hK, hc0⟩ := Kd.C_get h z73 i h0 h1
  have hc : ∀ j u, c[j]? = some u → w.cell? (ad.add (i.toNat * 3 + j)) = some u := hc0
  obtain rfl := k73_open hK
  exact ⟨ad, e, hc 0 _ rfl, by rw [← add_field _ _ 1 (by omega)]; exact hc 1 _ rfl, by rw [← add_field _ _ 2 (by omega)]; exact hc 2 _ rfl⟩

def rd_L5 (xs : List (List S73)) (i : Int) : (List S73) := xs.getD i.toNat ([] : List S73)
theorem at_L5 {w : World} {A : Option Addr} {n : Nat} {xs : List (List S73)} (h : Kd.C (Kd.slice 73 k73) w A n xs) (i : Int) (h0 : 0 ≤ i) (h1 : i < n) : ∃ ad A0 c0, A = some ad ∧ w.cell? (ad.add i.toNat) = some (.slice A0 (rd_L5 xs i).length c0) ∧ (rd_L5 xs i).length ≤ c0 ∧ k73.C w A0 (rd_L5 xs i).length (rd_L5 xs i) := by
  obtain ⟨ad, c, e, _, hK, hc0⟩ := Kd.C_get h ([] : List S73) i h0 h1
  have hc : ∀ j u, c[j]? = some u → w.cell? (ad.add (i.toNat * 1 + j)) = some u := hc0
  obtain ⟨A0, c0, rfl, l0, g0⟩ := hK
  exact ⟨ad, A0, c0, e, by have hq := hc 0 _ rfl; rwa [Nat.mul_one, Nat.add_zero] at hq, l0, g0⟩

/-! #### struct type 98 -/
structure S98 where
  f0 : (List S73)
def z98 : S98 := ⟨([] : List S73)⟩
def k98 : Kd S98 := Kd.iso (Kd.slice 73 k73) (fun x : S98 => x.f0)
theorem k98_heap : Kd.Heap k98 := Kd.heap_iso _ (Kd.heap_slice 73 k73_heap)
theorem k98_open {w : World} {x : S98} {cs : List Value} (h : k98.K w x cs) : ∃ A0 c0, cs = [.slice A0 x.f0.length c0] ∧ x.f0.length ≤ c0 ∧ k73.C w A0 x.f0.length x.f0 := by
  obtain ⟨A0, c0, rfl, l0, g0⟩ := h
  exact ⟨A0, c0, rfl, l0, g0⟩
theorem k98_openM {w : World} {base : Nat} {ok : Nat → Prop} {x : S98} {cs : List Value} (h : k98.M w base ok x cs) : ∃ v0, cs = [v0] ∧ k73.R 73 w base ok v0 x.f0 := by
  obtain ⟨v0, rfl, g0⟩ := h
  exact ⟨v0, rfl, g0⟩
theorem k98_mk (w : World) (x : S98) {A0 : Option Addr} {c0 : Nat} (l0 : x.f0.length ≤ c0) (g0 : k73.C w A0 x.f0.length x.f0) : k98.K w x [.slice A0 x.f0.length c0] := ⟨A0, c0, rfl, l0, g0⟩
theorem k98_mkM (w : World) (base : Nat) (ok : Nat → Prop) (x : S98) {v0 : Value} (g0 : k73.R 73 w base ok v0 x.f0) : k98.M w base ok x [v0] := ⟨v0, rfl, g0⟩
theorem k98_openF {W : World} {ok : Nat → Prop} {x : S98} {cs : List Value} (h : Kd.FK k98 W ok x cs) : ∃ A0 c0, cs = [.slice A0 x.f0.length c0] ∧ x.f0.length ≤ c0 ∧ Kd.F k73 W ok A0 x.f0.length x.f0 := by
  obtain ⟨A0, c0, rfl, l0, _⟩ := k98_open (Kd.FK_now h)
  exact ⟨A0, c0, rfl, l0, (fun W' hW => by obtain ⟨A0_, c0_, he, l0_, g0_⟩ := k98_open (h W' hW); injection (Option.some.inj (show some (Value.slice A0 x.f0.length c0) = some (Value.slice A0_ x.f0.length c0_) from congrArg (fun l => l[0]?) he)) with ha_ _ _; rw [ha_]; exact g0_)⟩
theorem k98_mkF (W : World) (ok : Nat → Prop) (x : S98) {A0 : Option Addr} {c0 : Nat} (l0 : x.f0.length ≤ c0) (g0 : Kd.F k73 W ok A0 x.f0.length x.f0) : Kd.FK k98 W ok x [.slice A0 x.f0.length c0] := fun W2 hW => k98_mk W2 x l0 (g0 W2 hW)
def rd_T98 (xs : List S98) (i : Int) : S98 := xs.getD i.toNat z98
theorem at_T98 {w : World} {A : Option Addr} {n : Nat} {xs : List S98} (h : Kd.C k98 w A n xs) (i : Int) (h0 : 0 ≤ i) (h1 : i < n) : ∃ ad A0 c0, A = some ad ∧ w.cell? (ad.add i.toNat) = some (.slice A0 (rd_T98 xs i).f0.length c0) ∧ (rd_T98 xs i).f0.length ≤ c0 ∧ k73.C w A0 (rd_T98 xs i).f0.length (rd_T98 xs i).f0 := by
  obtain ⟨ad, c, e, _, hK, hc0⟩ := Kd.C_get h z98 i h0 h1
  have hc : ∀ j u, c[j]? = some u → w.cell? (ad.add (i.toNat * 1 + j)) = some u := hc0
  obtain ⟨A0, c0, rfl, l0, g0⟩ := k98_open hK
  exact ⟨ad, A0, c0, e, by have hq := hc 0 _ rfl; rwa [Nat.mul_one, Nat.add_zero] at hq, l0, g0⟩

def rd_L8 (xs : List (List S74)) (i : Int) : (List S74) := xs.getD i.toNat ([] : List S74)
theorem at_L8 {w : World} {A : Option Addr} {n : Nat} {xs : List (List S74)} (h : Kd.C (Kd.slice 74 k74) w A n xs) (i : Int) (h0 : 0 ≤ i) (h1 : i < n) : ∃ ad A0 c0, A = some ad ∧ w.cell? (ad.add i.toNat) = some (.slice A0 (rd_L8 xs i).length c0) ∧ (rd_L8 xs i).length ≤ c0 ∧ k74.C w A0 (rd_L8 xs i).length (rd_L8 xs i) := by
  obtain ⟨ad, c, e, _, hK, hc0⟩ := Kd.C_get h ([] : List S74) i h0 h1
  have hc : ∀ j u, c[j]? = some u → w.cell? (ad.add (i.toNat * 1 + j)) = some u := hc0
  obtain ⟨A0, c0, rfl, l0, g0⟩ := hK
  exact ⟨ad, A0, c0, e, by have hq := hc 0 _ rfl; rwa [Nat.mul_one, Nat.add_zero] at hq, l0, g0⟩

/-! #### struct type 100 -/
structure S100 where
  f0 : (List S74)
def z100 : S100 := ⟨([] : List S74)⟩
def k100 : Kd S100 := Kd.iso (Kd.slice 74 k74) (fun x : S100 => x.f0)
theorem k100_heap : Kd.Heap k100 := Kd.heap_iso _ (Kd.heap_slice 74 k74_heap)
theorem k100_open {w : World} {x : S100} {cs : List Value} (h : k100.K w x cs) : ∃ A0 c0, cs = [.slice A0 x.f0.length c0] ∧ x.f0.length ≤ c0 ∧ k74.C w A0 x.f0.length x.f0 := by
  obtain ⟨A0, c0, rfl, l0, g0⟩ := h
  exact ⟨A0, c0, rfl, l0, g0⟩
theorem k100_openM {w : World} {base : Nat} {ok : Nat → Prop} {x : S100} {cs : List Value} (h : k100.M w base ok x cs) : ∃ v0, cs = [v0] ∧ k74.R 74 w base ok v0 x.f0 := by
  obtain ⟨v0, rfl, g0⟩ := h
  exact ⟨v0, rfl, g0⟩
theorem k100_mk (w : World) (x : S100) {A0 : Option Addr} {c0 : Nat} (l0 : x.f0.length ≤ c0) (g0 : k74.C w A0 x.f0.length x.f0) : k100.K w x [.slice A0 x.f0.length c0] := ⟨A0, c0, rfl, l0, g0⟩
theorem k100_mkM (w : World) (base : Nat) (ok : Nat → Prop) (x : S100) {v0 : Value} (g0 : k74.R 74 w base ok v0 x.f0) : k100.M w base ok x [v0] := ⟨v0, rfl, g0⟩
theorem k100_openF {W : World} {ok : Nat → Prop} {x : S100} {cs : List Value} (h : Kd.FK k100 W ok x cs) : ∃ A0 c0, cs = [.slice A0 x.f0.length c0] ∧ x.f0.length ≤ c0 ∧ Kd.F k74 W ok A0 x.f0.length x.f0 := by
  obtain ⟨A0, c0, rfl, l0, _⟩ := k100_open (Kd.FK_now h)
  exact ⟨A0, c0, rfl, l0, (fun W' hW => by obtain ⟨A0_, c0_, he, l0_, g0_⟩ := k100_open (h W' hW); injection (Option.some.inj (show some (Value.slice A0 x.f0.length c0) = some (Value.slice A0_ x.f0.length c0_) from congrArg (fun l => l[0]?) he)) with ha_ _ _; rw [ha_]; exact g0_)⟩
theorem k100_mkF (W : World) (ok : Nat → Prop) (x : S100) {A0 : Option Addr} {c0 : Nat} (l0 : x.f0.length ≤ c0) (g0 : Kd.F k74 W ok A0 x.f0.length x.f0) : Kd.FK k100 W ok x [.slice A0 x.f0.length c0] := fun W2 hW => k100_mk W2 x l0 (g0 W2 hW)
def rd_T100 (xs : List S100) (i : Int) : S100 := xs.getD i.toNat z100
theorem at_T100 {w : World} {A : Option Addr} {n : Nat} {xs : List S100} (h : Kd.C k100 w A n xs) (i : Int) (h0 : 0 ≤ i) (h1 : i < n) : ∃ ad A0 c0, A = some ad ∧ w.cell? (ad.add i.toNat) = some (.slice A0 (rd_T100 xs i).f0.length c0) ∧ (rd_T100 xs i).f0.length ≤ c0 ∧ k74.C w A0 (rd_T100 xs i).f0.length (rd_T100 xs i).f0 := by
  obtain ⟨ad, c, e, _, hK, hc0⟩ := Kd.C_get h z100 i h0 h1
  have hc : ∀ j u, c[j]? = some u → w.cell? (ad.add (i.toNat * 1 + j)) = some u := hc0
  obtain ⟨A0, c0, rfl, l0, g0⟩ := k100_open hK
  exact ⟨ad, A0, c0, e, by have hq := hc 0 _ rfl; rwa [Nat.mul_one, Nat.add_zero] at hq, l0, g0⟩

def rd_L10 (xs : List (List S100)) (i : Int) : (List S100) := xs.getD i.toNat ([] : List S100)
theorem at_L10 {w : World} {A : Option Addr} {n : Nat} {xs : List (List S100)} (h : Kd.C (Kd.slice 100 k100) w A n xs) (i : Int) (h0 : 0 ≤ i) (h1 : i < n) : ∃ ad A0 c0, A = some ad ∧ w.cell? (ad.add i.toNat) = some (.slice A0 (rd_L10 xs i).length c0) ∧ (rd_L10 xs i).length ≤ c0 ∧ k100.C w A0 (rd_L10 xs i).length (rd_L10 xs i) := by
  obtain ⟨ad, c, e, _, hK, hc0⟩ := Kd.C_get h ([] : List S100) i h0 h1
  have hc : ∀ j u, c[j]? = some u → w.cell? (ad.add (i.toNat * 1 + j)) = some u := hc0
  obtain ⟨A0, c0, rfl, l0, g0⟩ := hK
  exact ⟨ad, A0, c0, e, by have hq := hc 0 _ rfl; rwa [Nat.mul_one, Nat.add_zero] at hq, l0, g0⟩

theorem b101_ {p : Prop} (k : p:=by repeat (first|(with_reducible first|exact HB.out|apply below_alloc|apply pw_below_drewN|apply below_drew1|refine below_set ?_ GE101.out)|exact HB.out)) : p:=k
theorem b101_102_ {p : Prop} (k : p:=by repeat (first|(with_reducible first|exact HB.out|apply below_alloc|apply pw_below_drewN|apply below_drew1|refine below_set ?_ GE101.out|refine below_set ?_ GE102.out)|exact HB.out)) : p:=k
theorem b117_ {p : Prop} (k : p:=by repeat (first|(with_reducible first|exact HB.out|apply below_alloc|apply pw_below_drewN|apply below_drew1|refine below_set ?_ GE117.out)|exact HB.out)) : p:=k
theorem b120_ {p : Prop} (k : p:=by repeat (first|(with_reducible first|exact HB.out|apply below_alloc|apply pw_below_drewN|apply below_drew1|refine below_set ?_ GE120.out)|exact HB.out)) : p:=k
theorem b124_ {p : Prop} (k : p:=by repeat (first|(with_reducible first|exact HB.out|apply below_alloc|apply pw_below_drewN|apply below_drew1|refine below_set ?_ GE124.out)|exact HB.out)) : p:=k
theorem b126_ {p : Prop} (k : p:=by repeat (first|(with_reducible first|exact HB.out|apply below_alloc|apply pw_below_drewN|apply below_drew1|refine below_set ?_ GE126.out)|exact HB.out)) : p:=k
theorem b131_ {p : Prop} (k : p:=by repeat (first|(with_reducible first|exact HB.out|apply below_alloc|apply pw_below_drewN|apply below_drew1|refine below_set ?_ GE131.out)|exact HB.out)) : p:=k
theorem b133_ {p : Prop} (k : p:=by repeat (first|(with_reducible first|exact HB.out|apply below_alloc|apply pw_below_drewN|apply below_drew1|refine below_set ?_ GE133.out)|exact HB.out)) : p:=k
theorem b134_ {p : Prop} (k : p:=by repeat (first|(with_reducible first|exact HB.out|apply below_alloc|apply pw_below_drewN|apply below_drew1|refine below_set ?_ GE134.out)|exact HB.out)) : p:=k
theorem b134_138_ {p : Prop} (k : p:=by repeat (first|(with_reducible first|exact HB.out|apply below_alloc|apply pw_below_drewN|apply below_drew1|refine below_set ?_ GE134.out|refine below_set ?_ GE138.out)|exact HB.out)) : p:=k
theorem b134_138_140_ {p : Prop} (k : p:=by repeat (first|(with_reducible first|exact HB.out|apply below_alloc|apply pw_below_drewN|apply below_drew1|refine below_set ?_ GE134.out|refine below_set ?_ GE138.out|refine below_set ?_ GE140.out)|exact HB.out)) : p:=k
theorem b149_ {p : Prop} (k : p:=by repeat (first|(with_reducible first|exact HB.out|apply below_alloc|apply pw_below_drewN|apply below_drew1|refine below_set ?_ GE149.out)|exact HB.out)) : p:=k
theorem b163_ {p : Prop} (k : p:=by repeat (first|(with_reducible first|exact HB.out|apply below_alloc|apply pw_below_drewN|apply below_drew1|refine below_set ?_ GE163.out)|exact HB.out)) : p:=k
theorem b181_ {p : Prop} (k : p:=by repeat (first|(with_reducible first|exact HB.out|apply below_alloc|apply pw_below_drewN|apply below_drew1|refine below_set ?_ GE181.out)|exact HB.out)) : p:=k
theorem b181_188_ {p : Prop} (k : p:=by repeat (first|(with_reducible first|exact HB.out|apply below_alloc|apply pw_below_drewN|apply below_drew1|refine below_set ?_ GE181.out|refine below_set ?_ GE188.out)|exact HB.out)) : p:=k
theorem b181_188_192_ {p : Prop} (k : p:=by repeat (first|(with_reducible first|exact HB.out|apply below_alloc|apply pw_below_drewN|apply below_drew1|refine below_set ?_ GE181.out|refine below_set ?_ GE188.out|refine below_set ?_ GE192.out)|exact HB.out)) : p:=k
theorem b223_ {p : Prop} (k : p:=by repeat (first|(with_reducible first|exact HB.out|apply below_alloc|apply pw_below_drewN|apply below_drew1|refine below_set ?_ GE223.out)|exact HB.out)) : p:=k
theorem b233_ {p : Prop} (k : p:=by repeat (first|(with_reducible first|exact HB.out|apply below_alloc|apply pw_below_drewN|apply below_drew1|refine below_set ?_ GE233.out)|exact HB.out)) : p:=k
theorem b233_234_ {p : Prop} (k : p:=by repeat (first|(with_reducible first|exact HB.out|apply below_alloc|apply pw_below_drewN|apply below_drew1|refine below_set ?_ GE233.out|refine below_set ?_ GE234.out)|exact HB.out)) : p:=k
theorem b233_234_235_ {p : Prop} (k : p:=by repeat (first|(with_reducible first|exact HB.out|apply below_alloc|apply pw_below_drewN|apply below_drew1|refine below_set ?_ GE233.out|refine below_set ?_ GE234.out|refine below_set ?_ GE235.out)|exact HB.out)) : p:=k
theorem b244_ {p : Prop} (k : p:=by repeat (first|(with_reducible first|exact HB.out|apply below_alloc|apply pw_below_drewN|apply below_drew1|refine below_set ?_ GE244.out)|exact HB.out)) : p:=k
theorem b244_245_ {p : Prop} (k : p:=by repeat (first|(with_reducible first|exact HB.out|apply below_alloc|apply pw_below_drewN|apply below_drew1|refine below_set ?_ GE244.out|refine below_set ?_ GE245.out)|exact HB.out)) : p:=k
theorem b244_245_246_ {p : Prop} (k : p:=by repeat (first|(with_reducible first|exact HB.out|apply below_alloc|apply pw_below_drewN|apply below_drew1|refine below_set ?_ GE244.out|refine below_set ?_ GE245.out|refine below_set ?_ GE246.out)|exact HB.out)) : p:=k
theorem b258_ {p : Prop} (k : p:=by repeat (first|(with_reducible first|exact HB.out|apply below_alloc|apply pw_below_drewN|apply below_drew1|refine below_set ?_ GE258.out)|exact HB.out)) : p:=k
theorem b260_ {p : Prop} (k : p:=by repeat (first|(with_reducible first|exact HB.out|apply below_alloc|apply pw_below_drewN|apply below_drew1|refine below_set ?_ GE260.out)|exact HB.out)) : p:=k
theorem b265_ {p : Prop} (k : p:=by repeat (first|(with_reducible first|exact HB.out|apply below_alloc|apply pw_below_drewN|apply below_drew1|refine below_set ?_ GE265.out)|exact HB.out)) : p:=k
theorem b274_ {p : Prop} (k : p:=by repeat (first|(with_reducible first|exact HB.out|apply below_alloc|apply pw_below_drewN|apply below_drew1|refine below_set ?_ GE274.out)|exact HB.out)) : p:=k
theorem b278_ {p : Prop} (k : p:=by repeat (first|(with_reducible first|exact HB.out|apply below_alloc|apply pw_below_drewN|apply below_drew1|refine below_set ?_ GE278.out)|exact HB.out)) : p:=k
theorem b278_282_ {p : Prop} (k : p:=by repeat (first|(with_reducible first|exact HB.out|apply below_alloc|apply pw_below_drewN|apply below_drew1|refine below_set ?_ GE278.out|refine below_set ?_ GE282.out)|exact HB.out)) : p:=k
theorem b278_282_284_ {p : Prop} (k : p:=by repeat (first|(with_reducible first|exact HB.out|apply below_alloc|apply pw_below_drewN|apply below_drew1|refine below_set ?_ GE278.out|refine below_set ?_ GE282.out|refine below_set ?_ GE284.out)|exact HB.out)) : p:=k
theorem b0_ {p : Prop} (k : p:=by repeat (first|(with_reducible first|exact HB.out|apply below_alloc|apply pw_below_drewN|apply below_drew1|refine below_set ?_ GE0.out)|exact HB.out)) : p:=k
theorem b0_299_ {p : Prop} (k : p:=by repeat (first|(with_reducible first|exact HB.out|apply below_alloc|apply pw_below_drewN|apply below_drew1|refine below_set ?_ GE0.out|refine below_set ?_ GE299.out)|exact HB.out)) : p:=k
theorem b313_ {p : Prop} (k : p:=by repeat (first|(with_reducible first|exact HB.out|apply below_alloc|apply pw_below_drewN|apply below_drew1|refine below_set ?_ GE313.out)|exact HB.out)) : p:=k
theorem b313_314_ {p : Prop} (k : p:=by repeat (first|(with_reducible first|exact HB.out|apply below_alloc|apply pw_below_drewN|apply below_drew1|refine below_set ?_ GE313.out|refine below_set ?_ GE314.out)|exact HB.out)) : p:=k
theorem b338_ {p : Prop} (k : p:=by repeat (first|(with_reducible first|exact HB.out|apply below_alloc|apply pw_below_drewN|apply below_drew1|refine below_set ?_ GE338.out)|exact HB.out)) : p:=k
theorem b338_339_ {p : Prop} (k : p:=by repeat (first|(with_reducible first|exact HB.out|apply below_alloc|apply pw_below_drewN|apply below_drew1|refine below_set ?_ GE338.out|refine below_set ?_ GE339.out)|exact HB.out)) : p:=k
theorem b338_339_340_ {p : Prop} (k : p:=by repeat (first|(with_reducible first|exact HB.out|apply below_alloc|apply pw_below_drewN|apply below_drew1|refine below_set ?_ GE338.out|refine below_set ?_ GE339.out|refine below_set ?_ GE340.out)|exact HB.out)) : p:=k
theorem b371_ {p : Prop} (k : p:=by repeat (first|(with_reducible first|exact HB.out|apply below_alloc|apply pw_below_drewN|apply below_drew1|refine below_set ?_ GE371.out)|exact HB.out)) : p:=k
theorem b390_ {p : Prop} (k : p:=by repeat (first|(with_reducible first|exact HB.out|apply below_alloc|apply pw_below_drewN|apply below_drew1|refine below_set ?_ GE390.out)|exact HB.out)) : p:=k
theorem b390_391_ {p : Prop} (k : p:=by repeat (first|(with_reducible first|exact HB.out|apply below_alloc|apply pw_below_drewN|apply below_drew1|refine below_set ?_ GE390.out|refine below_set ?_ GE391.out)|exact HB.out)) : p:=k
theorem bg0_ {p : Prop} (k : p:=by repeat (first|exact HB.out|apply below_alloc|apply pw_below_drewN|apply below_drew1)) : p:=k
theorem bk_ {p q1 : Prop} (h1 : q1) (k : q1 → p:=by intro h1_;(with_reducible repeat first|apply blk_drewN|apply blk_drew|apply blk_alloc);exact h1_) : p:=k h1
theorem rR_ {p q1 : Prop} (h1 : q1) (k : q1 → p:=by intro h1_;(with_reducible repeat (first|apply Kd.R_alloc|apply Kd.R_drewN|apply Kd.R_drew));exact h1_) : p:=k h1
theorem rS_ {p q1 : Prop} (h1 : q1) (k : q1 → p:=by intro h1_;(with_reducible repeat (first|apply Kd.S_alloc|apply Kd.S_drewN|apply Kd.S_drew));exact h1_) : p:=k h1
theorem rV_ {p q1 : Prop} (h1 : q1) (k : q1 → p:=by intro h1_;(with_reducible repeat (first|apply Kd.V_alloc|apply Kd.V_drewN|apply Kd.V_drew));exact h1_) : p:=k h1
theorem sf0_ {p : Prop} (k : p:=by (try simp only [List.map_toArray,List.map_cons,List.map_nil]);first|done|rfl|(simp only [List.length_drop,List.length_take];rfl)) : p:=k
theorem sf1_ {p : Prop} (k : p:=by first|rfl|(simp;done)|(simp [*];done)) : p:=k
theorem sf2_ {p : Prop} (k : p:=by first|rfl|(simp [*,errW_none,errW_some] <;> rfl)) : p:=k
theorem sf3_ {p : Prop} (k : p:=by first|exact Kd.R_nil _ _ _ _ _|exact Kd.N_nil _ _ _ _ _|exact Kd.V_nil _ _ _ _ _|exact Kd.Q_nil _ _ _ _ _|exact Kd.S_nil _ _ _ _ _) : p:=k
theorem hy_ {p q1 : Prop} (h1 : q1) (k : q1 → p:=by intro h1_;first|(rw [h1_];with_reducible exact H)|(have H2_:=(Option.bind_some _ _).symm.trans H;rw [h1_];with_reducible exact H2_)|(have H2_:=(Option.bind_some _ _).symm.trans H;with_reducible exact H2_)|with_reducible exact H|(rw [h1_];exact H)|exact H) : p:=k h1
theorem cb_ {p q1 : Prop} (h1 : q1) (k : q1 → p:=by intro h1_;repeat (first|exact (Kd.C_below h1_ HB.out)|(with_reducible first|apply Kd.C_alloc|apply Kd.C_drewN|apply Kd.C_drew))) : p:=k h1
theorem cd_ {p q1 : Prop} (h1 : q1) (k : q1 → p:=by intro h1_;repeat (first|exact h1_|(with_reducible first|apply Kd.C_alloc|apply Kd.C_drewN|apply Kd.C_drew))) : p:=k h1
theorem pp_ {P : Program} {ops : Array Oper} {Q : Exit → Act → World → Prop} {md : Region.Mode} {S : World → Prop} {ds : List Nat} {oi : Oper} {v : Value} {fuel : Nat} {l : Array Bool} {a : Act} {w : World} {T : Bool × List (List Nat × List Nat)} {a' : Act} (i n : Nat) (l' : Array Bool) (hi : ops[i]? = some oi) (hN : oi.dst = some n) (hT : rtab md ops = T) (h : wpAnyLast P md ops Q S ds fuel l' a' w) (hc : anyT T l.toList l'.toList i = true:=by kernel_rfl) (hs : Region.wanted oi (yielded ops a.tmps) = true:=by rfl) (hy : ∀ w, (execOp a.eval oi).run P w = .ok (.value v) w:=by intro w';go_simp;with_reducible rfl) (ha : a.put (some n) v = a':=by simp only [Act.put,List.setIfInBounds_toArray,List.set_cons_zero,List.set_cons_succ,i64_w,i32_w];rfl) (hQ : ∀ c a w, Q (.panic c) (a.put oi.dst v) w → Q (.panic c) a w:=by exact fun _ _ _ h=>h) : wpAnyLast P md ops Q S ds (fuel + 1) l a w:=
 pure_ l' hi hN (any_of hT hc) hQ (Or.inl ⟨hs,hy⟩) ha h
theorem pu_ {P : Program} {ops : Array Oper} {Q : Exit → Act → World → Prop} {md : Region.Mode} {S : World → Prop} {ds : List Nat} {oi : Oper} {fuel : Nat} {l : Array Bool} {a : Act} {w : World} {T : Bool × List (List Nat × List Nat)} {a' : Act} (i n : Nat) (l' : Array Bool) (hi : ops[i]? = some oi) (hN : oi.dst = some n) (hT : rtab md ops = T) (h : wpAnyLast P md ops Q S ds fuel l' a' w) (hc : anyT T l.toList l'.toList i = true:=by kernel_rfl) (hs : Region.wanted oi (yielded ops a.tmps) = false:=by rfl) (ha : a.put (some n) undef = a':=by simp only [Act.put,List.setIfInBounds_toArray,List.set_cons_zero,List.set_cons_succ,i64_w,i32_w];rfl) (hQ : ∀ c a w, Q (.panic c) (a.put oi.dst undef) w → Q (.panic c) a w:=by exact fun _ _ _ h=>h) : wpAnyLast P md ops Q S ds (fuel + 1) l a w:=
 pure_ l' hi hN (any_of hT hc) hQ (Or.inr ⟨hs,rfl⟩) ha h
abbrev m0_ : Array Bool:=#[false,false,false,false,false,false,false,false,false,false,false,false,false]
abbrev m1_ : Array Bool:=#[true,false,false,false,false,false,false,false,false,false,false,false,false]
abbrev m2_ : Array Bool:=#[true,true,true,true,true,true,true,true,true,true,false,false,false]
abbrev m3_ : Array Bool:=#[true,true,true,true,true,true,true,true,true,true,true,false,false]
abbrev m4_ : Array Bool:=#[true,true,true,true,true,true,true,true,true,true,true,true,false]
abbrev m5_ : Array Bool:=#[true,true,true,true,true,true,true,true,true,true,true,true,true]
abbrev m6_ : Array Bool:=#[true,false,true,false,false,false,false,false,false,false,false,false,false]
abbrev m7_ : Array Bool:=#[true,true,true,true,true,true,true,true,true,false,false,false,false]
abbrev m8_ : Array Bool:=#[true,true,true,true,true,true,true,true,false,false,false,false,false]
abbrev m9_ : Array Bool:=#[false,false,false,false,false,false,false,false,false,false,false]
abbrev m10_ : Array Bool:=#[true,false,false,false,false,false,false,false,false,false,false]
abbrev m11_ : Array Bool:=#[true,true,true,true,true,true,true,false,false,false,false]
abbrev m12_ : Array Bool:=#[true,true,true,true,true,true,true,true,false,false,false]
abbrev m13_ : Array Bool:=#[true,true,true,true,true,true,true,true,true,false,false]
abbrev m14_ : Array Bool:=#[true,true,true,true,true,true,true,true,true,true,false]
abbrev m15_ : Array Bool:=#[true,true,true,true,true,true,true,true,true,true,true]
abbrev m16_ : Array Bool:=#[false,false,false,false,false,false,false,false,false,false]
abbrev m17_ : Array Bool:=#[true,false,false,false,false,false,false,false,false,false]
abbrev m18_ : Array Bool:=#[true,true,false,false,false,false,false,false,false,false]
abbrev m19_ : Array Bool:=#[true,true,true,false,false,false,false,false,false,false]
abbrev m20_ : Array Bool:=#[true,true,true,false,true,false,false,false,false,false]
abbrev m21_ : Array Bool:=#[true,true,true,false,true,true,false,false,false,false]
abbrev m22_ : Array Bool:=#[true,true,true,false,true,true,true,false,false,false]
abbrev m23_ : Array Bool:=#[true,true,true,true,true,true,true,false,false,false]
abbrev m24_ : Array Bool:=#[true,true,true,true,true,true,true,true,false,false]
abbrev m25_ : Array Bool:=#[true,true,true,true,true,true,true,true,true,false]
abbrev m26_ : Array Bool:=#[true,true,true,true,true,true,true,true,true,true]
abbrev m27_ : Array Bool:=#[true,true,true,true,true,false,false,false,false,false,false]
abbrev m28_ : Array Bool:=#[true,true,true,true,true,true,false,false,false,false,false]
abbrev m29_ : Array Bool:=#[true,true,true,true,true,true,true,true,true,true,false,true,false,false,false]
abbrev m30_ : Array Bool:=#[false,false,false,false,false,false,false,false]
abbrev m31_ : Array Bool:=#[true,false,false,false,false,false,false,false]
abbrev m32_ : Array Bool:=#[true,true,true,false,false,false,false,false]
abbrev m33_ : Array Bool:=#[true,true,true,true,false,false,false,false]
abbrev m34_ : Array Bool:=#[true,true,true,true,true,true,false,false]
abbrev m35_ : Array Bool:=#[true,true,true,true,true,true,true,false]
abbrev m36_ : Array Bool:=#[true,true,true,true,true,true,true,true]
abbrev m37_ : Array Bool:=#[true,true,false,false,false,false,false,false,false,false,false,false,false]
abbrev m38_ : Array Bool:=#[true,true,true,false,false,false,false,false,false,false,false,false,false]
abbrev m39_ : Array Bool:=#[true,true,true,true,false,false,false,false,false,false,false,false,false]
abbrev m40_ : Array Bool:=#[true,true,true,true,true,false,false,false,false,false,false,false,false]
abbrev m41_ : Array Bool:=#[true,true,true,true,true,true,false,false,false,false,false,false,false]
abbrev m42_ : Array Bool:=#[true,true,true,true,true,true,true,false,false,false,false,false,false]
abbrev m43_ : Array Bool:=#[true,false,true,false,false,true,false,false,false,false,false,false,false]
abbrev m44_ : Array Bool:=#[true,false,true,false,false,false,false,false,false,false,false]
abbrev m45_ : Array Bool:=#[false,false,false,false,false,false,false,false,false,false,false,false,false,false,false,false]
abbrev m46_ : Array Bool:=#[true,false,false,false,false,false,false,false,false,false,false,false,false,false,false,false]
abbrev m47_ : Array Bool:=#[true,true,false,false,false,false,false,false,false,false,false,false,false,false,false,false]
abbrev m48_ : Array Bool:=#[true,true,true,false,false,false,false,false,false,false,false,false,false,false,false,false]
abbrev m49_ : Array Bool:=#[true,true,true,true,false,false,false,false,false,false,false,false,false,false,false,false]
abbrev m50_ : Array Bool:=#[true,true,true,true,true,false,false,false,false,false,false,false,false,false,false,false]
abbrev m51_ : Array Bool:=#[true,true,true,true,true,true,false,false,false,false,false,false,false,false,false,false]
abbrev m52_ : Array Bool:=#[true,true,true,true,true,true,true,false,false,false,false,false,false,false,false,false]
abbrev m53_ : Array Bool:=#[true,true,true,true,true,true,true,true,false,false,false,false,false,false,false,false]
abbrev m54_ : Array Bool:=#[true,true,true,true,true,true,true,true,true,false,false,false,false,false,false,false]
abbrev m55_ : Array Bool:=#[true,true,true,true,true,true,true,true,true,true,true,true,false,false,false,false]
abbrev m56_ : Array Bool:=#[true,true,true,true,true,true,true,true,true,true,true,true,true,false,false,false]
abbrev m57_ : Array Bool:=#[true,true,true,true,true,true,true,true,true,true,true,true,true,true,false,false]
abbrev m58_ : Array Bool:=#[true,true,true,true,true,true,true,true,true,true,true,true,true,true,true,false]
abbrev m59_ : Array Bool:=#[true,true,true,true,true,true,true,true,true,true,true,true,true,true,true,true]
abbrev m60_ : Array Bool:=#[false,false,false,false,false,false,false,false,false,false,false,false,false,false,false,false,false]
abbrev m61_ : Array Bool:=#[true,false,false,false,false,false,false,false,false,false,false,false,false,false,false,false,false]
abbrev m62_ : Array Bool:=#[true,true,false,false,false,false,false,false,false,false,false,false,false,false,false,false,false]
abbrev m63_ : Array Bool:=#[true,true,true,false,false,false,false,false,false,false,false,false,false,false,false,false,false]
abbrev m64_ : Array Bool:=#[true,true,true,true,false,false,false,false,false,false,false,false,false,false,false,false,false]
abbrev m65_ : Array Bool:=#[true,true,true,true,true,false,false,false,false,false,false,false,false,false,false,false,false]
abbrev m66_ : Array Bool:=#[true,true,true,true,true,true,false,false,false,false,false,false,false,false,false,false,false]
abbrev m67_ : Array Bool:=#[true,true,true,true,true,true,true,true,true,false,false,false,false,false,false,false,false]
abbrev m68_ : Array Bool:=#[true,true,true,true,true,true,true,true,true,true,false,false,false,false,false,false,false]
abbrev m69_ : Array Bool:=#[true,true,true,true,true,true,true,true,true,true,true,false,false,false,false,false,false]
abbrev m70_ : Array Bool:=#[true,true,true,true,true,true,true,true,true,true,true,true,true,false,false,false,false]
abbrev m71_ : Array Bool:=#[true,true,true,true,true,true,true,true,true,true,true,true,true,true,false,false,false]
abbrev m72_ : Array Bool:=#[true,true,true,true,true,true,true,true,true,true,true,true,true,true,true,false,false]
abbrev m73_ : Array Bool:=#[true,true,true,true,true,true,true,true,true,true,true,true,true,true,true,true,false]
abbrev m74_ : Array Bool:=#[true,true,true,true,true,true,true,true,true,true,true,true,true,true,true,true,true]
abbrev m75_ : Array Bool:=#[true,false,true,false,false,false,false,false,true,false,false,false,false]
abbrev m76_ : Array Bool:=#[true,true,true,false,false,false,false,false,true,false,false,false,false]
abbrev m77_ : Array Bool:=#[true,true,true,true,false,false,false,false,true,false,false,false,false]
abbrev m78_ : Array Bool:=#[true,true,true,true,true,false,false,false,true,false,false,false,false]
abbrev m79_ : Array Bool:=#[true,true,true,true,true,true,false,false,true,false,false,false,false]
abbrev m80_ : Array Bool:=#[true,true,true,true,true,true,true,false,true,false,false,false,false]
abbrev m81_ : Array Bool:=#[true,true,true,true,true,true,true,true,false,true,false,false,false]
abbrev m82_ : Array Bool:=#[false,false,false,false,false,false,false,false,false,false,false,false,false,false,false,false,false,false,false,false,false,false,false,false,false,false,false,false,false,false,false,false,false]
abbrev m83_ : Array Bool:=#[true,false,true,false,false,true,false,true,false,false,false,false,false]
abbrev m84_ : Array Bool:=#[true,true,true,false,false,true,false,true,false,false,false,false,false]
abbrev m85_ : Array Bool:=#[true,true,true,true,false,true,false,true,false,false,false,false,false]
abbrev m86_ : Array Bool:=#[true,true,true,true,true,true,false,true,false,false,false,false,false]
abbrev m87_ : Array Bool:=#[true,false,true,false,true,false,false,false,false,false,false]
abbrev m88_ : Array Bool:=#[true,true,true,false,true,false,false,false,false,false,false]
abbrev m89_ : Array Bool:=#[true,true,true,true,true,true,true,true,true,true,false,false,false,false,false,false]
abbrev m90_ : Array Bool:=#[true,true,true,true,true,true,true,true,true,true,true,false,false,false,false,false]
abbrev m91_ : Array Bool:=#[true,true,true,true,true,true,false,true,true,true,false,false,false,false,false]
abbrev m92_ : Array Bool:=#[true,true,true,true,true,true,true,true,true,true,false,false,false,false,false]
abbrev m93_ : Array Bool:=#[true,true,true,true,true,true,false,true,false,false,false,false,false,false,false,false,false]
abbrev m94_ : Array Bool:=#[true,true,true,true,true,true,false,true,true,false,false,false,false,false,false,false,false]
abbrev m95_ : Array Bool:=#[true,true,true,true,true,true,true,true,true,true,true,false,true,false,false,false,false]
abbrev m96_ : Array Bool:=#[true,true,false,false,false,false,false,false,false,false,false]
abbrev m97_ : Array Bool:=#[true,true,true,false,false,false,false,false,false,false,false]
abbrev m98_ : Array Bool:=#[true,true,true,true,false,false,false,false,false,false,false]
theorem _root_.Go.Proofs.YtebmncdjlmnbnaaW.PrintWords.Aside0.o {p : Prop} (h : Go.Proofs.YtebmncdjlmnbnaaW.PrintWords.Aside0 p) : p:=h.out
abbrev Qa := @Aside0.mk
abbrev Qb := @blk_cell
abbrev Qc := @blk_frozen
abbrev Qd := @blk_below
abbrev Qe := @blk_alloc
abbrev Qf := @blk_drewN
abbrev Qg := @blk_far
abbrev Qh := @blk_put
abbrev Qi := @pw_below_drewN
abbrev Qj := @below_drew1
abbrev Qk := @below_alloc
abbrev Ql := @below_set
abbrev Qm := @below_step
abbrev Qn := @below_size
abbrev Qo := @Kd.C_alloc
abbrev Qp := @Kd.C_drewN
abbrev Qq := @Kd.C_drew
abbrev Qr := @Kd.R_below
abbrev Qs := @Kd.R_mono
abbrev Qt := @Kd.R_reads'
abbrev Qu := @Kd.S_mono
abbrev Qv := @Kd.S_reads'
abbrev Qw := @Kd.R_far
abbrev Qx := @Kd.R_types
abbrev Qy := @Kd.R_alloc
abbrev Qz := @Kd.R_drewN
theorem QA {α β : Type} {o : Option α} {f : α → Option β} {b : β} (h : o.bind f = some b) : ∃ a, o = some a ∧ f a = some b := Option.bind_eq_some_iff.mp h
abbrev QB := @of_decide_eq_true
abbrev QC := @decide_eq_true
abbrev QD := @decide_eq_false
abbrev QE := @List.setIfInBounds_toArray
abbrev QF := @List.set_cons_zero
abbrev QG := @List.set_cons_succ
abbrev QH := @List.map_toArray
abbrev QI := @List.map_cons
abbrev QJ := @List.map_nil
abbrev QK := @Option.some.inj
theorem QL {a : Bool} (h : a ≠ true) : a = false := Bool.eq_false_iff.mpr h
abbrev QM := @Kd.V_reads'
abbrev QN := @Nat.le_refl
end Go.Proofs.Ytebmncdjlmnbnaa.PFnExactComposeAll
