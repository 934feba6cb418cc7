-- Written by a program of this session over the print of the kit (wip/t/patch_print.py).
import Derived.Test.YtfjboeeogjepeaaProg
import Derived.Below
import Derived.Deep.Draws
import Derived.Deep.AppendLies
import Derived.Maps.AppendAt
import Derived.OwnWalk
import Derived.Laws.BytesArg
import Derived.Laws.MakeOwn
import Derived.Laws.OwnMore
import Derived.Deep.OwnRows
import Derived.Tactics
import Derived.Lib.ConvBytes
import Derived.Laws.Slices
import Derived.WalkKit
import Derived.KernelRfl
import Derived.RowKit3
import Derived.Deep.LoopGhost
import Derived.Deep.QuietTactic
import Derived.BigQuiet
import Derived.WideLaws
import Derived.Deep.DeepCutAuto
import Derived.Deep.CutBlock
import Derived.Deep.RegionHeld3
import Derived.Laws.Rows
import Derived.Lib.AppendStr
import Derived.ArgAppend
import Derived.Laws.IdiomCopy
import Derived.OrdersHeld
import Derived.Laws.BitsLemmas
import Derived.RowKit
import Derived.Lib.AppendZerosOnto
import Derived.Laws.Externs
import Derived.Deep.RegionLaw
import Derived.Test.YtfjboeeogjepeaaWWords
import Derived.Test.YtfjboeeogjepeaaWLast
import Derived.Test.YtfjboeeogjepeaaWTab
import Derived.Test.YtfjboeeogjepeaaWFour
import Derived.Test.YtfjboeeogjepeaaWQPut
import Derived.Test.YtfjboeeogjepeaaWApart
import Derived.Test.YtfjboeeogjepeaaWArr
import Derived.Test.YtfjboeeogjepeaaWZeros
import Derived.Test.YtfjboeeogjepeaaWFoot
import Derived.Test.YtfjboeeogjepeaaWKept
import Derived.Test.YtfjboeeogjepeaaWShare
import Derived.Test.YtfjboeeogjepeaaWN
import Derived.Test.YtfjboeeogjepeaaWFootNe
import Derived.Test.YtfjboeeogjepeaaWAt
import Derived.Test.YtfjboeeogjepeaaWEqStruct
import Derived.Test.YtfjboeeogjepeaaWRepsOne
import Derived.Test.YtfjboeeogjepeaaWInv
import Derived.Test.YtfjboeeogjepeaaWInvWords
import Derived.Test.YtfjboeeogjepeaaWGuard
import Derived.Test.YtfjboeeogjepeaaWNEv
import Derived.Test.YtfjboeeogjepeaaWMore
namespace Go.Proofs.Ytfjboeeogjepeaa.PFnExactRecover
open Go.RowKit Go.Proofs.YtfjboeeogjepeaaW.PrintWords Go.Proofs.YtfjboeeogjepeaaW.PrintLast Go.Proofs.YtfjboeeogjepeaaW.PrintMore
attribute [local go_sem] max2_int min2_int max_two min_two max_three min_three max_four min_four   -- for this text's walks alone
set_option linter.unusedVariables false
set_option linter.unusedSimpArgs false



def errW : Option Int → Value
  | none => .nilIface
  | some c => .iface 0 (.int .i64 c)
theorem errW_none : errW none = .nilIface := rfl
theorem errW_some (c : Int) : errW (some c) = .iface 0 (.int .i64 c) := rfl

/-- A cell of a block that stays over two stretches. -/
theorem kept_cells {w W1 W2 : World} {S : Nat → Prop} {a : Addr} {v : Value} (h1 : Kept w W1 S) (h2 : Kept w W2 S) (hlt : a.block < w.heap.size) (hn : ¬ S a.block) (hc : W1.cell? a = some v) : W2.cell? a = some v := by
  have e1 := h1.2 a.block hlt hn
  have e2 := h2.2 a.block hlt hn
  simpa [World.cell?, e1, e2] using hc

/-- The blocks that a row of rows may have: ok, made here, of its types. -/
def SB_ {α : Type} (d : Kd α) (e : Nat) (W : World) (base : Nat) (ok : Nat → Prop) (k : Nat) : Prop := ok k ∧ base ≤ k ∧ k < W.heap.size ∧ ∃ q, q ∈ e :: d.E ∧ ∃ cells, W.heap[k]? = some (.cells cells q (0, 0))
theorem SB_own {α : Type} {d : Kd α} {e : Nat} {W : World} {base : Nat} {ok : Nat → Prop} {v : Value} {xs : List α} (h : Kd.S d e W base ok v xs) : Kd.S d e W base (SB_ d e W base ok) v xs := Kd.S_bound h
theorem R_apartSB {α β : Type} {d : Kd α} {d' : Kd β} {e e' : Nat} {W : World} {base base' : Nat} {ok ok' : Nat → Prop} {v : Value} {xs : List α} (h : Kd.R d e W base ok v xs) (ht : ∀ q, q ∈ e :: d.E → ∀ q', q' ∈ e' :: d'.E → q ≠ q') : Kd.R d e W base (fun k => ok k ∧ ¬ SB_ d' e' W base' ok' k) v xs :=
  Kd.R_mono (Kd.R_bound h) (fun k hk => ⟨hk.1, fun hs => by
    obtain ⟨_, _, _, q, hq, cells, hc⟩ := hk
    obtain ⟨_, _, _, q', hq', cells', hc'⟩ := hs
    rw [hc] at hc'
    injection hc' with hc'
    injection hc' with _ hc'
    exact ht q hq q' hq' hc'⟩)
theorem R_apartSBo {α β : Type} {d : Kd α} {d' : Kd β} {e e' : Nat} {W : World} {base base' : Nat} {ok ok' : Nat → Prop} {v : Value} {xs : List α} (hE : d.E = []) (h : Kd.R d e W base ok v xs) (hn : ∀ k, ok' k → some k ≠ v.ownBlock) : Kd.R d e W base (fun k => ok k ∧ ¬ SB_ d' e' W base' ok' k) v xs :=
  Kd.R_mono (Kd.R_tight hE h) (fun k hk => ⟨h.1 k hk.symm, fun hs => hn k hs.1 hk⟩)
theorem S_apartSBn {α β : Type} {d : Kd α} {d' : Kd β} {e e' : Nat} {W : World} {base base' : Nat} {ok ok' : Nat → Prop} {v : Value} {xs : List α} (h : Kd.S d e W base ok v xs) (hn : ∀ k, ok k → ¬ ok' k) : Kd.S d e W base (fun k => ok k ∧ ¬ SB_ d' e' W base' ok' k) v xs :=
  Kd.S_mono h (fun k hk => ⟨hk, fun hs => hn k hk hs.1⟩)
theorem blk_SB {α : Type} {d : Kd α} {e : Nat} {W : World} {base : Nat} {ok : Nat → Prop} {g t : Nat} {cs : Array Value} (hb : W.heap[g]? = some (.cells cs t (0, 0))) (ht : ∀ q, q ∈ e :: d.E → q ≠ t) : ¬ SB_ d e W base ok g := fun hs => by
  obtain ⟨_, _, _, q, hq, cells, hc⟩ := hs
  rw [hb] at hc
  injection hc with hc
  injection hc with _ hc
  exact ht q hq hc.symm
theorem SB_ne_row {α : Type} {d : Kd α} {e : Nat} {W : World} {base : Nat} {ok : Nat → Prop} {v : Value} {k t : Nat} (hs : SB_ d e W base ok k) (hv : ∀ g, v.ownBlock = some g → ∃ cells, W.heap[g]? = some (.cells cells t (0, 0))) (ht : ∀ q, q ∈ e :: d.E → q ≠ t) : some k ≠ v.ownBlock := fun e_ => by
  obtain ⟨cells, hc⟩ := hv k e_.symm
  exact blk_SB hc ht hs
theorem R_apartSBn {α β : Type} {d : Kd α} {d' : Kd β} {e e' : Nat} {W : World} {base base' : Nat} {ok ok' : Nat → Prop} {v : Value} {xs : List α} (h : Kd.R d e W base ok v xs) (hn : ∀ k, ok k → ¬ ok' k) : Kd.R d e W base (fun k => ok k ∧ ¬ SB_ d' e' W base' ok' k) v xs :=
  Kd.R_mono h (fun k hk => ⟨hk, fun hs => hn k hk hs.1⟩)
theorem calls_all {P : Program} {n : Nat} {args : Array Value} {w : World} {Q : Ending → World → Prop} (h : ∀ Q' : Ending → World → Prop, (∀ e w', Q e w' → Q' e w') → Calls P n args w Q') : Calls P n args w Q := h Q (fun _ _ h => h)

theorem gate_calleev {P : Program} {ops : Array Oper} {rest : List Oper} {o : Oper} {a : Act} {W : World} {Q : Exit → Act → World → Prop} {c : Operand} {as_ : Array Operand} {ts : Array TypeId} (_ho : o.op = .call { callee := .value c, args := as_, argTypes := ts }) (h : wpList P ops Q (o :: rest) a W) : wpList P ops Q (o :: rest) a W := h
/-- A call of a function that a place holds. -/
theorem goesLv_ {P : Program} {ops : Array Oper} {Q : Exit → Act → World → Prop} {rest : List Oper} {oi : Oper} {a : Act} {w : World} (N : Option Tmp) (hd : oi.dst = N) (hg : oi.guard = none) {f : FuncId} {fn : Func} {c : Operand} {as_ : Array Operand} {ts : Array TypeId} (hf : P.funcs[f]? = some fn) (hname : (fn.name == "runtime.NumGoroutine") = false) (hb : fn.body.isSome = true) (args : Array Value)
    (hop : oi.op = .call { callee := .value c, args := as_, argTypes := ts }) (hc : a.eval c = .func (.func f) #[] #[]) (hargs : as_.map a.eval = args)
    (h : Calls P f args w fun e w' => ∃ v, e = .returned v ∧ wpList P ops Q rest (a.put N v) w') : wpList P ops Q (oi :: rest) a w := by
  refine wpList_plain hg fun K hK => ?_
  have he := enters_ hf hname hb args w
  have hrun : (execOp a.eval oi).run P w = .ok (.enter f args) w := by
    unfold execOp
    simp [hop, resolve, hc, Deferred.ofValue, invoke, hargs, he]
  unfold Oper.wp
  rw [hrun, Oper.upon_enter]
  refine h.mono fun e w'' hh => ?_
  obtain ⟨v, rfl, hk⟩ := hh
  subst hd
  exact hK _ _ hk
/-- A call of a function value that has captured. -/
theorem goesLc_ {P : Program} {ops : Array Oper} {Q : Exit → Act → World → Prop} {rest : List Oper} {oi : Oper} {a : Act} {w : World} (N : Option Tmp) (hd : oi.dst = N) (hg : oi.guard = none) {f : FuncId} {fn : Func} {c : Operand} {as_ : Array Operand} {ts : Array TypeId} {cap : Array Value} (hf : P.funcs[f]? = some fn) (hname : (fn.name == "runtime.NumGoroutine") = false) (hb : fn.body.isSome = true) (args : Array Value)
    (hop : oi.op = .call { callee := .value c, args := as_, argTypes := ts }) (hc : a.eval c = .func (.func f) #[] cap) (hargs : as_.map a.eval = args) (all : Array Value) (hall : args ++ cap = all)
    (h : Calls P f all w fun e w' => ∃ v, e = .returned v ∧ wpList P ops Q rest (a.put N v) w') : wpList P ops Q (oi :: rest) a w := by
  refine wpList_plain hg fun K hK => ?_
  have he := enters_ hf hname hb (args ++ cap) w
  have hrun : (execOp a.eval oi).run P w = .ok (.enter f (args ++ cap)) w := by
    unfold execOp
    simp [hop, resolve, hc, Deferred.ofValue, invoke, hargs, he]
  unfold Oper.wp
  rw [hrun, Oper.upon_enter, hall]
  refine h.mono fun e w'' hh => ?_
  obtain ⟨v, rfl, hk⟩ := hh
  subst hd
  exact hK _ _ hk

theorem info5 : (Try.prog.info? 5).map (fun i => (i.zero, i.size, i.bytes)) = some (some (.int .u8 0), 1, 1) := by kernel_rfl
theorem info24 : (Try.prog.info? 24).map (fun i => (i.zero, i.size, i.bytes)) = some (some (.slice none 0 0), 1, 24) := by kernel_rfl
theorem info59 : (Try.prog.info? 59).map (fun i => (i.zero, i.size, i.bytes)) = some (some (.agg #[(.int .i64 0), (.slice none 0 0)]), 2, 32) := by kernel_rfl
-- the values' own types
def rd_L1 (xs : List (List Int)) (i : Int) : (List Int) := xs.getD i.toNat ([] : List Int)
theorem at_L1 {w : World} {A : Option Addr} {n : Nat} {xs : List (List Int)} (h : Kd.C (Kd.slice 5 (Kd.int .u8)) w A n xs) (i : Int) (h0 : 0 ≤ i) (h1 : i < n) : ∃ ad A0 c0, A = some ad ∧ w.cell? (ad.add i.toNat) = some (.slice A0 (rd_L1 xs i).length c0) ∧ (rd_L1 xs i).length ≤ c0 ∧ (Kd.int .u8).C w A0 (rd_L1 xs i).length (rd_L1 xs i) := by
  obtain ⟨ad, c, e, _, hK, hc0⟩ := Kd.C_get h ([] : List Int) i h0 h1
  have hc : ∀ j u, c[j]? = some u → w.cell? (ad.add (i.toNat * 1 + j)) = some u := hc0
  obtain ⟨A0, c0, rfl, l0, g0⟩ := hK
  exact ⟨ad, A0, c0, e, by have hq := hc 0 _ rfl; rwa [Nat.mul_one, Nat.add_zero] at hq, l0, g0⟩

def rd_L2 (xs : List (List (List Int))) (i : Int) : (List (List Int)) := xs.getD i.toNat ([] : List (List Int))
theorem at_L2 {w : World} {A : Option Addr} {n : Nat} {xs : List (List (List Int))} (h : Kd.C (Kd.slice 24 (Kd.slice 5 (Kd.int .u8))) w A n xs) (i : Int) (h0 : 0 ≤ i) (h1 : i < n) : ∃ ad A0 c0, A = some ad ∧ w.cell? (ad.add i.toNat) = some (.slice A0 (rd_L2 xs i).length c0) ∧ (rd_L2 xs i).length ≤ c0 ∧ (Kd.slice 5 (Kd.int .u8)).C w A0 (rd_L2 xs i).length (rd_L2 xs i) := by
  obtain ⟨ad, c, e, _, hK, hc0⟩ := Kd.C_get h ([] : List (List Int)) i h0 h1
  have hc : ∀ j u, c[j]? = some u → w.cell? (ad.add (i.toNat * 1 + j)) = some u := hc0
  obtain ⟨A0, c0, rfl, l0, g0⟩ := hK
  exact ⟨ad, A0, c0, e, by have hq := hc 0 _ rfl; rwa [Nat.mul_one, Nat.add_zero] at hq, l0, g0⟩

/-! #### struct type 59 -/
structure S59 where
  f0 : Int
  f1 : (List Int)
def z59 : S59 := ⟨(0 : Int), ([] : List Int)⟩
def k59 : Kd S59 := Kd.iso (Kd.pair (Kd.int .i64) (Kd.slice 5 (Kd.int .u8))) (fun x : S59 => (x.f0, x.f1))
theorem k59_heap : Kd.Heap k59 := Kd.heap_iso _ (Kd.heap_pair (Kd.heap_int .i64) (Kd.heap_slice 5 (Kd.heap_int .u8)))
theorem k59_open {w : World} {x : S59} {cs : List Value} (h : k59.K w x cs) : ∃ A1 c1, cs = [.int .i64 x.f0, .slice A1 x.f1.length c1] ∧ x.f1.length ≤ c1 ∧ (Kd.int .u8).C w A1 x.f1.length x.f1 := by
  obtain ⟨_, _, rfl, rfl, ⟨A1, c1, rfl, l1, g1⟩⟩ := h
  exact ⟨A1, c1, rfl, l1, g1⟩
theorem k59_openM {w : World} {base : Nat} {ok : Nat → Prop} {x : S59} {cs : List Value} (h : k59.M w base ok x cs) : ∃ v1, cs = [.int .i64 x.f0, v1] ∧ (Kd.int .u8).R 5 w base ok v1 x.f1 := by
  obtain ⟨_, _, rfl, rfl, ⟨v1, rfl, g1⟩⟩ := h
  exact ⟨v1, rfl, g1⟩
theorem k59_mk (w : World) (x : S59) {A1 : Option Addr} {c1 : Nat} (l1 : x.f1.length ≤ c1) (g1 : (Kd.int .u8).C w A1 x.f1.length x.f1) : k59.K w x [.int .i64 x.f0, .slice A1 x.f1.length c1] := ⟨[.int .i64 x.f0], [.slice A1 x.f1.length c1], rfl, rfl, ⟨A1, c1, rfl, l1, g1⟩⟩
theorem k59_mkM (w : World) (base : Nat) (ok : Nat → Prop) (x : S59) {v1 : Value} (g1 : (Kd.int .u8).R 5 w base ok v1 x.f1) : k59.M w base ok x [.int .i64 x.f0, v1] := ⟨[.int .i64 x.f0], [v1], rfl, rfl, ⟨v1, rfl, g1⟩⟩
theorem k59_openF {W : World} {ok : Nat → Prop} {x : S59} {cs : List Value} (h : Kd.FK k59 W ok x cs) : ∃ A1 c1, cs = [.int .i64 x.f0, .slice A1 x.f1.length c1] ∧ x.f1.length ≤ c1 ∧ Kd.F (Kd.int .u8) W ok A1 x.f1.length x.f1 := by
  obtain ⟨A1, c1, rfl, l1, _⟩ := k59_open (Kd.FK_now h)
  exact ⟨A1, c1, rfl, l1, (fun W' hW => by obtain ⟨A1_, c1_, he, l1_, g1_⟩ := k59_open (h W' hW); injection (Option.some.inj (show some (Value.slice A1 x.f1.length c1) = some (Value.slice A1_ x.f1.length c1_) from congrArg (fun l => l[1]?) he)) with ha_ _ _; rw [ha_]; exact g1_)⟩
theorem k59_mkF (W : World) (ok : Nat → Prop) (x : S59) {A1 : Option Addr} {c1 : Nat} (l1 : x.f1.length ≤ c1) (g1 : Kd.F (Kd.int .u8) W ok A1 x.f1.length x.f1) : Kd.FK k59 W ok x [.int .i64 x.f0, .slice A1 x.f1.length c1] := fun W2 hW => k59_mk W2 x l1 (g1 W2 hW)
def rd_T59 (xs : List S59) (i : Int) : S59 := xs.getD i.toNat z59
theorem at_T59 {w : World} {A : Option Addr} {n : Nat} {xs : List S59} (h : Kd.C k59 w A n xs) (i : Int) (h0 : 0 ≤ i) (h1 : i < n) : ∃ ad A1 c1, A = some ad ∧ w.cell? (ad.add (i.toNat * 2)) = some (.int .i64 (rd_T59 xs i).f0) ∧ w.cell? ⟨(ad.add (i.toNat * 2)).block, (ad.add (i.toNat * 2)).off + 1, none⟩ = some (.slice A1 (rd_T59 xs i).f1.length c1) ∧ (rd_T59 xs i).f1.length ≤ c1 ∧ (Kd.int .u8).C w A1 (rd_T59 xs i).f1.length (rd_T59 xs i).f1 := by
  obtain ⟨ad, c, e, _, hK, hc0⟩ := Kd.C_get h z59 i h0 h1
  have hc : ∀ j u, c[j]? = some u → w.cell? (ad.add (i.toNat * 2 + j)) = some u := hc0
  obtain ⟨A1, c1, rfl, l1, g1⟩ := k59_open hK
  exact ⟨ad, A1, c1, e, hc 0 _ rfl, by rw [← add_field _ _ 1 (by omega)]; exact hc 1 _ rfl, l1, g1⟩

theorem b103_ {p : Prop} (k : p:=by repeat (first|(with_reducible first|exact HB.out|apply below_alloc|apply pw_below_drewN|apply below_drew1|refine below_set ?_ GE103.out)|exact HB.out)) : p:=k
theorem b118_ {p : Prop} (k : p:=by repeat (first|(with_reducible first|exact HB.out|apply below_alloc|apply pw_below_drewN|apply below_drew1|refine below_set ?_ GE118.out)|exact HB.out)) : p:=k
theorem b118_119_ {p : Prop} (k : p:=by repeat (first|(with_reducible first|exact HB.out|apply below_alloc|apply pw_below_drewN|apply below_drew1|refine below_set ?_ GE118.out|refine below_set ?_ GE119.out)|exact HB.out)) : p:=k
theorem b118_119_120_ {p : Prop} (k : p:=by repeat (first|(with_reducible first|exact HB.out|apply below_alloc|apply pw_below_drewN|apply below_drew1|refine below_set ?_ GE118.out|refine below_set ?_ GE119.out|refine below_set ?_ GE120.out)|exact HB.out)) : p:=k
theorem b129_ {p : Prop} (k : p:=by repeat (first|(with_reducible first|exact HB.out|apply below_alloc|apply pw_below_drewN|apply below_drew1|refine below_set ?_ GE129.out)|exact HB.out)) : p:=k
theorem b129_130_ {p : Prop} (k : p:=by repeat (first|(with_reducible first|exact HB.out|apply below_alloc|apply pw_below_drewN|apply below_drew1|refine below_set ?_ GE129.out|refine below_set ?_ GE130.out)|exact HB.out)) : p:=k
theorem b133_ {p : Prop} (k : p:=by repeat (first|(with_reducible first|exact HB.out|apply below_alloc|apply pw_below_drewN|apply below_drew1|refine below_set ?_ GE133.out)|exact HB.out)) : p:=k
theorem b141_ {p : Prop} (k : p:=by repeat (first|(with_reducible first|exact HB.out|apply below_alloc|apply pw_below_drewN|apply below_drew1|refine below_set ?_ GE141.out)|exact HB.out)) : p:=k
theorem b146_ {p : Prop} (k : p:=by repeat (first|(with_reducible first|exact HB.out|apply below_alloc|apply pw_below_drewN|apply below_drew1|refine below_set ?_ GE146.out)|exact HB.out)) : p:=k
theorem b150_ {p : Prop} (k : p:=by repeat (first|(with_reducible first|exact HB.out|apply below_alloc|apply pw_below_drewN|apply below_drew1|refine below_set ?_ GE150.out)|exact HB.out)) : p:=k
theorem b152_ {p : Prop} (k : p:=by repeat (first|(with_reducible first|exact HB.out|apply below_alloc|apply pw_below_drewN|apply below_drew1|refine below_set ?_ GE152.out)|exact HB.out)) : p:=k
theorem b172_ {p : Prop} (k : p:=by repeat (first|(with_reducible first|exact HB.out|apply below_alloc|apply pw_below_drewN|apply below_drew1|refine below_set ?_ GE172.out)|exact HB.out)) : p:=k
theorem b184_ {p : Prop} (k : p:=by repeat (first|(with_reducible first|exact HB.out|apply below_alloc|apply pw_below_drewN|apply below_drew1|refine below_set ?_ GE184.out)|exact HB.out)) : p:=k
theorem b196_ {p : Prop} (k : p:=by repeat (first|(with_reducible first|exact HB.out|apply below_alloc|apply pw_below_drewN|apply below_drew1|refine below_set ?_ GE196.out)|exact HB.out)) : p:=k
theorem b229_ {p : Prop} (k : p:=by repeat (first|(with_reducible first|exact HB.out|apply below_alloc|apply pw_below_drewN|apply below_drew1|refine below_set ?_ GE229.out)|exact HB.out)) : p:=k
theorem b229_230_ {p : Prop} (k : p:=by repeat (first|(with_reducible first|exact HB.out|apply below_alloc|apply pw_below_drewN|apply below_drew1|refine below_set ?_ GE229.out|refine below_set ?_ GE230.out)|exact HB.out)) : p:=k
theorem b0_ {p : Prop} (k : p:=by repeat (first|(with_reducible first|exact HB.out|apply below_alloc|apply pw_below_drewN|apply below_drew1|refine below_set ?_ GE0.out)|exact HB.out)) : p:=k
theorem b0_239_ {p : Prop} (k : p:=by repeat (first|(with_reducible first|exact HB.out|apply below_alloc|apply pw_below_drewN|apply below_drew1|refine below_set ?_ GE0.out|refine below_set ?_ GE239.out)|exact HB.out)) : p:=k
theorem b251_ {p : Prop} (k : p:=by repeat (first|(with_reducible first|exact HB.out|apply below_alloc|apply pw_below_drewN|apply below_drew1|refine below_set ?_ GE251.out)|exact HB.out)) : p:=k
theorem b264_ {p : Prop} (k : p:=by repeat (first|(with_reducible first|exact HB.out|apply below_alloc|apply pw_below_drewN|apply below_drew1|refine below_set ?_ GE264.out)|exact HB.out)) : p:=k
theorem b264_265_ {p : Prop} (k : p:=by repeat (first|(with_reducible first|exact HB.out|apply below_alloc|apply pw_below_drewN|apply below_drew1|refine below_set ?_ GE264.out|refine below_set ?_ GE265.out)|exact HB.out)) : p:=k
theorem b264_265_279_ {p : Prop} (k : p:=by repeat (first|(with_reducible first|exact HB.out|apply below_alloc|apply pw_below_drewN|apply below_drew1|refine below_set ?_ GE264.out|refine below_set ?_ GE265.out|refine below_set ?_ GE279.out)|exact HB.out)) : p:=k
theorem b293_ {p : Prop} (k : p:=by repeat (first|(with_reducible first|exact HB.out|apply below_alloc|apply pw_below_drewN|apply below_drew1|refine below_set ?_ GE293.out)|exact HB.out)) : p:=k
theorem b298_ {p : Prop} (k : p:=by repeat (first|(with_reducible first|exact HB.out|apply below_alloc|apply pw_below_drewN|apply below_drew1|refine below_set ?_ GE298.out)|exact HB.out)) : p:=k
theorem b298_299_ {p : Prop} (k : p:=by repeat (first|(with_reducible first|exact HB.out|apply below_alloc|apply pw_below_drewN|apply below_drew1|refine below_set ?_ GE298.out|refine below_set ?_ GE299.out)|exact HB.out)) : p:=k
theorem b313_ {p : Prop} (k : p:=by repeat (first|(with_reducible first|exact HB.out|apply below_alloc|apply pw_below_drewN|apply below_drew1|refine below_set ?_ GE313.out)|exact HB.out)) : p:=k
theorem b321_ {p : Prop} (k : p:=by repeat (first|(with_reducible first|exact HB.out|apply below_alloc|apply pw_below_drewN|apply below_drew1|refine below_set ?_ GE321.out)|exact HB.out)) : p:=k
theorem b338_ {p : Prop} (k : p:=by repeat (first|(with_reducible first|exact HB.out|apply below_alloc|apply pw_below_drewN|apply below_drew1|refine below_set ?_ GE338.out)|exact HB.out)) : p:=k
theorem b349_ {p : Prop} (k : p:=by repeat (first|(with_reducible first|exact HB.out|apply below_alloc|apply pw_below_drewN|apply below_drew1|refine below_set ?_ GE349.out)|exact HB.out)) : p:=k
theorem b0_387_ {p : Prop} (k : p:=by repeat (first|(with_reducible first|exact HB.out|apply below_alloc|apply pw_below_drewN|apply below_drew1|refine below_set ?_ GE0.out|refine below_set ?_ GE387.out)|exact HB.out)) : p:=k
theorem b405_ {p : Prop} (k : p:=by repeat (first|(with_reducible first|exact HB.out|apply below_alloc|apply pw_below_drewN|apply below_drew1|refine below_set ?_ GE405.out)|exact HB.out)) : p:=k
theorem b405_406_ {p : Prop} (k : p:=by repeat (first|(with_reducible first|exact HB.out|apply below_alloc|apply pw_below_drewN|apply below_drew1|refine below_set ?_ GE405.out|refine below_set ?_ GE406.out)|exact HB.out)) : p:=k
theorem b425_ {p : Prop} (k : p:=by repeat (first|(with_reducible first|exact HB.out|apply below_alloc|apply pw_below_drewN|apply below_drew1|refine below_set ?_ GE425.out)|exact HB.out)) : p:=k
theorem b427_ {p : Prop} (k : p:=by repeat (first|(with_reducible first|exact HB.out|apply below_alloc|apply pw_below_drewN|apply below_drew1|refine below_set ?_ GE427.out)|exact HB.out)) : p:=k
theorem b427_443_ {p : Prop} (k : p:=by repeat (first|(with_reducible first|exact HB.out|apply below_alloc|apply pw_below_drewN|apply below_drew1|refine below_set ?_ GE427.out|refine below_set ?_ GE443.out)|exact HB.out)) : p:=k
theorem b427_443_450_ {p : Prop} (k : p:=by repeat (first|(with_reducible first|exact HB.out|apply below_alloc|apply pw_below_drewN|apply below_drew1|refine below_set ?_ GE427.out|refine below_set ?_ GE443.out|refine below_set ?_ GE450.out)|exact HB.out)) : p:=k
theorem b427_443_450_459_ {p : Prop} (k : p:=by repeat (first|(with_reducible first|exact HB.out|apply below_alloc|apply pw_below_drewN|apply below_drew1|refine below_set ?_ GE427.out|refine below_set ?_ GE443.out|refine below_set ?_ GE450.out|refine below_set ?_ GE459.out)|exact HB.out)) : p:=k
theorem b427_443_459_ {p : Prop} (k : p:=by repeat (first|(with_reducible first|exact HB.out|apply below_alloc|apply pw_below_drewN|apply below_drew1|refine below_set ?_ GE427.out|refine below_set ?_ GE443.out|refine below_set ?_ GE459.out)|exact HB.out)) : p:=k
theorem b427_443_459_488_ {p : Prop} (k : p:=by repeat (first|(with_reducible first|exact HB.out|apply below_alloc|apply pw_below_drewN|apply below_drew1|refine below_set ?_ GE427.out|refine below_set ?_ GE443.out|refine below_set ?_ GE459.out|refine below_set ?_ GE488.out)|exact HB.out)) : p:=k
theorem bg0_ {p : Prop} (k : p:=by repeat (first|exact HB.out|apply below_alloc|apply pw_below_drewN|apply below_drew1)) : p:=k
theorem bk_ {p q1 : Prop} (h1 : q1) (k : q1 → p:=by intro h1_;(with_reducible repeat first|apply blk_drewN|apply blk_drew|apply blk_alloc);exact h1_) : p:=k h1
theorem rR_ {p q1 : Prop} (h1 : q1) (k : q1 → p:=by intro h1_;(with_reducible repeat (first|apply Kd.R_alloc|apply Kd.R_drewN|apply Kd.R_drew));exact h1_) : p:=k h1
theorem rS_ {p q1 : Prop} (h1 : q1) (k : q1 → p:=by intro h1_;(with_reducible repeat (first|apply Kd.S_alloc|apply Kd.S_drewN|apply Kd.S_drew));exact h1_) : p:=k h1
theorem rV_ {p q1 : Prop} (h1 : q1) (k : q1 → p:=by intro h1_;(with_reducible repeat (first|apply Kd.V_alloc|apply Kd.V_drewN|apply Kd.V_drew));exact h1_) : p:=k h1
theorem rN_ {p q1 : Prop} (h1 : q1) (k : q1 → p:=by intro h1_;(with_reducible repeat (first|apply Kd.N_alloc|apply Kd.N_drewN|apply Kd.N_drew));exact h1_) : p:=k h1
theorem sf0_ {p : Prop} (k : p:=by (try simp only [List.map_toArray,List.map_cons,List.map_nil]);first|done|rfl|(simp only [List.length_drop,List.length_take];rfl)) : p:=k
theorem sf1_ {p : Prop} (k : p:=by first|rfl|(simp;done)|(simp [*];done)) : p:=k
theorem sf2_ {p : Prop} (k : p:=by first|rfl|(simp [*,errW_none,errW_some] <;> rfl)) : p:=k
theorem hy_ {p q1 : Prop} (h1 : q1) (k : q1 → p:=by intro h1_;first|(rw [h1_];with_reducible exact H)|(have H2_:=(Option.bind_some _ _).symm.trans H;rw [h1_];with_reducible exact H2_)|(have H2_:=(Option.bind_some _ _).symm.trans H;with_reducible exact H2_)|with_reducible exact H|(rw [h1_];exact H)|exact H) : p:=k h1
theorem cb_ {p q1 : Prop} (h1 : q1) (k : q1 → p:=by intro h1_;repeat (first|exact (Kd.C_below h1_ HB.out)|(with_reducible first|apply Kd.C_alloc|apply Kd.C_drewN|apply Kd.C_drew))) : p:=k h1
theorem cd_ {p q1 : Prop} (h1 : q1) (k : q1 → p:=by intro h1_;repeat (first|exact h1_|(with_reducible first|apply Kd.C_alloc|apply Kd.C_drewN|apply Kd.C_drew))) : p:=k h1
theorem pp_ {P : Program} {ops : Array Oper} {Q : Exit → Act → World → Prop} {md : Region.Mode} {S : World → Prop} {ds : List Nat} {oi : Oper} {v : Value} {fuel : Nat} {l : Array Bool} {a : Act} {w : World} {T : Bool × List (List Nat × List Nat)} {a' : Act} (i n : Nat) (l' : Array Bool) (hi : ops[i]? = some oi) (hN : oi.dst = some n) (hT : rtab md ops = T) (h : wpAnyLast P md ops Q S ds fuel l' a' w) (hc : anyT T l.toList l'.toList i = true:=by kernel_rfl) (hs : Region.wanted oi (yielded ops a.tmps) = true:=by rfl) (hy : ∀ w, (execOp a.eval oi).run P w = .ok (.value v) w:=by intro w';go_simp;with_reducible rfl) (ha : a.put (some n) v = a':=by simp only [Act.put,List.setIfInBounds_toArray,List.set_cons_zero,List.set_cons_succ,i64_w,i32_w];rfl) (hQ : ∀ c a w, Q (.panic c) (a.put oi.dst v) w → Q (.panic c) a w:=by exact fun _ _ _ h=>h) : wpAnyLast P md ops Q S ds (fuel + 1) l a w:=
 pure_ l' hi hN (any_of hT hc) hQ (Or.inl ⟨hs,hy⟩) ha h
theorem pu_ {P : Program} {ops : Array Oper} {Q : Exit → Act → World → Prop} {md : Region.Mode} {S : World → Prop} {ds : List Nat} {oi : Oper} {fuel : Nat} {l : Array Bool} {a : Act} {w : World} {T : Bool × List (List Nat × List Nat)} {a' : Act} (i n : Nat) (l' : Array Bool) (hi : ops[i]? = some oi) (hN : oi.dst = some n) (hT : rtab md ops = T) (h : wpAnyLast P md ops Q S ds fuel l' a' w) (hc : anyT T l.toList l'.toList i = true:=by kernel_rfl) (hs : Region.wanted oi (yielded ops a.tmps) = false:=by rfl) (ha : a.put (some n) undef = a':=by simp only [Act.put,List.setIfInBounds_toArray,List.set_cons_zero,List.set_cons_succ,i64_w,i32_w];rfl) (hQ : ∀ c a w, Q (.panic c) (a.put oi.dst undef) w → Q (.panic c) a w:=by exact fun _ _ _ h=>h) : wpAnyLast P md ops Q S ds (fuel + 1) l a w:=
 pure_ l' hi hN (any_of hT hc) hQ (Or.inr ⟨hs,rfl⟩) ha h
abbrev m0_ : Array Bool:=#[false,false,false,false,false,false,false,false,false,false,false,false,false,false,false,false,false,false]
abbrev m1_ : Array Bool:=#[true,false,false,false,false,false,false,false,false,false,false,false,false,false,false,false,false,false]
abbrev m2_ : Array Bool:=#[true,true,false,false,false,false,false,false,false,false,false,false,false,false,false,false,false,false]
abbrev m3_ : Array Bool:=#[true,true,true,false,false,false,false,false,false,false,false,false,false,false,false,false,false,false]
abbrev m4_ : Array Bool:=#[true,true,true,true,false,false,false,false,false,false,false,false,false,false,false,false,false,false]
abbrev m5_ : Array Bool:=#[true,true,true,true,true,false,false,false,false,false,false,false,false,false,false,false,false,false]
abbrev m6_ : Array Bool:=#[true,true,true,true,true,true,false,false,false,false,false,false,false,false,false,false,false,false]
abbrev m7_ : Array Bool:=#[true,true,true,true,true,true,true,false,false,false,false,false,false,false,false,false,false,false]
abbrev m8_ : Array Bool:=#[true,true,true,true,true,true,true,true,true,true,true,true,true,true,false,false,false,false]
abbrev m9_ : Array Bool:=#[true,true,true,true,true,true,true,true,true,true,true,true,true,true,true,false,false,false]
abbrev m10_ : Array Bool:=#[true,true,true,true,true,true,true,true,true,true,true,true,true,true,true,true,false,false]
abbrev m11_ : Array Bool:=#[true,true,true,true,true,true,true,true,true,true,true,true,true,true,true,true,true,false]
abbrev m12_ : Array Bool:=#[true,true,true,true,true,true,true,true,true,true,true,true,true,true,true,true,true,true]
abbrev m13_ : Array Bool:=#[false,false,false,false,false,false,false,false,false,false]
abbrev m14_ : Array Bool:=#[true,false,false,false,false,false,false,false,false,false]
abbrev m15_ : Array Bool:=#[true,true,false,false,false,false,false,false,false,false]
abbrev m16_ : Array Bool:=#[true,true,true,true,true,true,true,false,false,false]
abbrev m17_ : Array Bool:=#[true,true,true,true,true,true,true,true,false,false]
abbrev m18_ : Array Bool:=#[true,true,true,true,true,true,true,true,true,false]
abbrev m19_ : Array Bool:=#[true,true,true,true,true,true,true,true,true,true]
abbrev m20_ : Array Bool:=#[false,false,false,false,false,false,false,false,false,false,false,false,false,false]
abbrev m21_ : Array Bool:=#[true,false,false,false,false,false,false,false,false,false,false,false,false,false]
abbrev m22_ : Array Bool:=#[true,true,false,false,false,false,false,false,false,false,false,false,false,false]
abbrev m23_ : Array Bool:=#[true,true,true,false,false,false,false,false,false,false,false,false,false,false]
abbrev m24_ : Array Bool:=#[true,true,true,true,false,false,false,false,false,false,false,false,false,false]
abbrev m25_ : Array Bool:=#[true,true,true,true,true,false,false,false,false,false,false,false,false,false]
abbrev m26_ : Array Bool:=#[true,true,true,true,true,true,false,false,false,false,false,false,false,false]
abbrev m27_ : Array Bool:=#[true,true,true,true,true,true,true,false,false,false,false,false,false,false]
abbrev m28_ : Array Bool:=#[true,true,true,true,true,true,true,true,false,false,false,false,false,false]
abbrev m29_ : Array Bool:=#[true,true,true,true,true,true,true,true,true,true,true,true,false,false]
abbrev m30_ : Array Bool:=#[true,true,true,true,true,true,true,true,true,true,true,true,true,false]
abbrev m31_ : Array Bool:=#[true,true,true,true,true,true,true,true,true,true,true,true,true,true]
abbrev m32_ : Array Bool:=#[true,true,true,true,true,true,true,true,false,false,false,false,false,false,false,false,false,false]
abbrev m33_ : Array Bool:=#[true,true,true,true,true,true,true,true,true,false,false,false,false,false,false,false,false,false]
abbrev m34_ : Array Bool:=#[true,true,true,true,true,true,true,true,true,true,false,false,false,false,false,false,false,false]
abbrev m35_ : Array Bool:=#[true,true,true,true,true,true,true,true,true,true,true,false,false,false,false,false,false,false]
abbrev m36_ : Array Bool:=#[true,true,true,true,true,true,true,true,true,true,true,true,false,false,false,false,false,false]
abbrev m37_ : Array Bool:=#[true,true,true,true,true,true,true,true,true,true,true,true,true,false,false,false,false,false]
abbrev m38_ : Array Bool:=#[false,false,false,false,false,false,false,false,false]
abbrev m39_ : Array Bool:=#[true,false,false,false,false,false,false,false,false]
abbrev m40_ : Array Bool:=#[true,true,false,false,false,false,false,false,false]
abbrev m41_ : Array Bool:=#[true,true,true,false,false,false,false,false,false]
abbrev m42_ : Array Bool:=#[true,true,true,false,true,false,false,false,false]
abbrev m43_ : Array Bool:=#[true,true,true,false,true,true,false,false,false]
abbrev m44_ : Array Bool:=#[true,true,true,true,true,true,false,false,false]
abbrev m45_ : Array Bool:=#[true,true,true,true,true,true,true,false,false]
abbrev m46_ : Array Bool:=#[true,true,true,true,true,true,true,true,false,false,true,false,false,false]
abbrev m47_ : Array Bool:=#[true,true,true,true,true,true,true,true,false,false,true,true,false,false]
abbrev m48_ : Array Bool:=#[true,true,true,true,true,true,true,true,true,false,true,true,false,false]
abbrev m49_ : Array Bool:=#[true,true,true,false,false,false,false,false,false,false]
abbrev m50_ : Array Bool:=#[true,true,true,false,true,false,false,false,false,false]
abbrev m51_ : Array Bool:=#[true,true,true,false,true,false,true,false,false,false]
abbrev m52_ : Array Bool:=#[true,true,true,true,true,false,true,false,false,false]
theorem _root_.Go.Proofs.YtfjboeeogjepeaaW.PrintWords.Aside0.o {p : Prop} (h : Go.Proofs.YtfjboeeogjepeaaW.PrintWords.Aside0 p) : p:=h.out
abbrev Qa := @Aside0.mk
abbrev Qb := @blk_cell
abbrev Qc := @blk_frozen
abbrev Qd := @blk_below
abbrev Qe := @blk_alloc
abbrev Qf := @blk_drewN
abbrev Qg := @blk_far
abbrev Qh := @blk_put
abbrev Qi := @pw_below_drewN
abbrev Qj := @below_drew1
abbrev Qk := @below_alloc
abbrev Ql := @below_set
abbrev Qm := @below_step
abbrev Qn := @below_size
abbrev Qo := @Kd.C_below
abbrev Qp := @Kd.C_alloc
abbrev Qq := @Kd.C_drewN
abbrev Qr := @Kd.C_drew
abbrev Qs := @Kd.R_mono
abbrev Qt := @Kd.R_reads'
abbrev Qu := @Kd.S_below
abbrev Qv := @Kd.S_mono
abbrev Qw := @Kd.S_reads'
abbrev Qx := @Kd.R_far
abbrev Qy := @Kd.S_far
abbrev Qz := @Kd.R_types
abbrev QA := @Kd.S_types
abbrev QB := @Kd.R_alloc
abbrev QC := @Kd.S_alloc
abbrev QD := @Kd.R_drewN
theorem QE {α β : Type} {o : Option α} {f : α → Option β} {b : β} (h : o.bind f = some b) : ∃ a, o = some a ∧ f a = some b := Option.bind_eq_some_iff.mp h
abbrev QF := @of_decide_eq_true
abbrev QG := @decide_eq_true
abbrev QH := @decide_eq_false
abbrev QI := @List.setIfInBounds_toArray
abbrev QJ := @List.set_cons_zero
abbrev QK := @List.set_cons_succ
abbrev QL := @List.map_toArray
abbrev QM := @Option.some.inj
theorem QN {a : Bool} (h : a ≠ true) : a = false := Bool.eq_false_iff.mpr h
abbrev QO := @World.drewN_drewN
abbrev QP := @Kd.V_reads'
abbrev QQ := @Nat.le_refl
abbrev QR := @Nat.lt_of_lt_of_le
end Go.Proofs.Ytfjboeeogjepeaa.PFnExactRecover
