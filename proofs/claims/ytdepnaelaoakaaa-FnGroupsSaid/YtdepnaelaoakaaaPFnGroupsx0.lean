-- Written by a program of this session over the print of the kit (wip/t/patch_print.py).
import Derived.Test.YtdepnaelaoakaaaProg
import Derived.Below
import Derived.Deep.Draws
import Derived.Deep.AppendLies
import Derived.Maps.AppendAt
import Derived.OwnWalk
import Derived.Laws.BytesArg
import Derived.Laws.MakeOwn
import Derived.Laws.OwnMore
import Derived.Deep.OwnRows
import Derived.Tactics
import Derived.Lib.ConvBytes
import Derived.Laws.Slices
import Derived.WalkKit
import Derived.KernelRfl
import Derived.RowKit3
import Derived.Deep.LoopGhost
import Derived.Deep.QuietTactic
import Derived.BigQuiet
import Derived.WideLaws
import Derived.Deep.DeepCutAuto
import Derived.Deep.CutBlock
import Derived.Deep.RegionHeld3
import Derived.Laws.Rows
import Derived.Lib.AppendStr
import Derived.ArgAppend
import Derived.Laws.IdiomCopy
import Derived.OrdersHeld
import Derived.Laws.BitsLemmas
import Derived.RowKit
import Derived.Lib.AppendZerosOnto
import Derived.Laws.Externs
import Derived.Deep.RegionLaw
import Derived.Test.YtdepnaelaoakaaaWWords
import Derived.Test.YtdepnaelaoakaaaWLast
import Derived.Test.YtdepnaelaoakaaaWTab
import Derived.Test.YtdepnaelaoakaaaWFour
import Derived.Test.YtdepnaelaoakaaaWQPut
import Derived.Test.YtdepnaelaoakaaaWApart
import Derived.Test.YtdepnaelaoakaaaWArr
import Derived.Test.YtdepnaelaoakaaaWZeros
import Derived.Test.YtdepnaelaoakaaaWFoot
import Derived.Test.YtdepnaelaoakaaaWKept
import Derived.Test.YtdepnaelaoakaaaWShare
import Derived.Test.YtdepnaelaoakaaaWN
import Derived.Test.YtdepnaelaoakaaaWFootNe
import Derived.Test.YtdepnaelaoakaaaWAt
import Derived.Test.YtdepnaelaoakaaaWEqStruct
import Derived.Test.YtdepnaelaoakaaaWRepsOne
import Derived.Test.YtdepnaelaoakaaaWInv
import Derived.Test.YtdepnaelaoakaaaWInvWords
import Derived.Test.YtdepnaelaoakaaaWGuard
import Derived.Test.YtdepnaelaoakaaaWNEv
import Derived.Test.YtdepnaelaoakaaaWMore
namespace Go.Proofs.Ytdepnaelaoakaaa.PFnGroups
open Go.RowKit Go.Proofs.YtdepnaelaoakaaaW.PrintWords Go.Proofs.YtdepnaelaoakaaaW.PrintLast Go.Proofs.YtdepnaelaoakaaaW.PrintMore
attribute [local go_sem] max2_int min2_int max_two min_two max_three min_three max_four min_four   -- for this text's walks alone
set_option linter.unusedVariables false
set_option linter.unusedSimpArgs false

def errW : Option Int → Value
 | none=>.nilIface
 | some c=>.iface 0 (.int .i64 c)
theorem errW_none : errW none = .nilIface:=rfl
theorem errW_some (c : Int) : errW (some c) = .iface 0 (.int .i64 c):=rfl

/-- A cell of a block that stays over two stretches. -/
theorem kept_cells {w W1 W2 : World} {S : Nat → Prop} {a : Addr} {v : Value} (h1 : Kept w W1 S) (h2 : Kept w W2 S) (hlt : a.block < w.heap.size) (hn : ¬ S a.block) (hc : W1.cell? a = some v) : W2.cell? a = some v:=by
 have e1:=h1.2 a.block hlt hn
 have e2:=h2.2 a.block hlt hn
 simpa [World.cell?,e1,e2] using hc

open Classical in
/-- append(v, u...) of rows whose elements' rows are apart: u's blocks (okp) are none of v's. -/
theorem S_append_rows {α : Type} (d : Kd α) {P : Program} {ops : Array Oper} {rest : List Oper} {o : Oper} {a : Act} {Q : Exit → Act → World → Prop} {w0 W : World} (base : Nat) (hgd : o.guard = none) (s x : Operand) (t e : TypeId) (z : Value) (bytes : Nat)
  (ho : o.op = .call { callee:=.builtin .append,args:=#[s,x],argTypes:=#[t,t] })
  (ht : P.underlying t = some (.slice e)) (hinfo : (P.info? e).map (fun i=>(i.zero,i.size,i.bytes)) = some (some z,d.sz,bytes)) (hz : z.cells.size = d.sz) (hs0 : 0 < d.sz) (hb0 : 0 < bytes)
  (v u : Value) (xs ys : List α) (ok okp : Nat → Prop) (hs : a.eval s = v) (hx : a.eval x = u)
  (HO : Kd.S d e W base (fun k=>ok k∧¬ okp k) v xs) (HU : Kd.S d e W base okp u ys) (hokp : ∀ k,okp k → ok k∧some k ≠ v.ownBlock) (hfresh : ∀ k,W.heap.size ≤ k → ok k)
  (HB : Below base w0 W) (hbase : base ≤ W.heap.size) (hl : (xs.length + ys.length) * bytes ≤ 140737488355328)
  (h : ∀ v1 w1,Kd.S d e w1 base ok v1 (xs ++ ys) → Below base w0 w1 → W.grownBy w1 v.ownBlock → (v1.ownBlock = v.ownBlock ∨ ∃ b,v1.ownBlock = some b∧W.heap.size ≤ b) → wpList P ops Q rest (a.put o.dst v1) w1) :
  wpList P ops Q (o :: rest) a W:=by
 obtain ⟨f1,h1⟩:=HO
 obtain ⟨f2,h2⟩:=HU
 have hf1 : ∀ k,¬ okp k → (fun k=>if okp k then xs.length + f2 k else f1 k) k = f1 k:=fun k hk=>if_neg hk
 have hf2 : ∀ k,okp k → (fun k=>if okp k then xs.length + f2 k else f1 k) k = xs.length + f2 k:=fun k hk=>if_pos hk
 generalize (fun k=>if okp k then xs.length + f2 k else f1 k) = f at hf1 hf2
 have hR : (Kd.tag f d).R e W base (fun k=>ok k∧¬ okp k) v xs.zipIdx:=Kd.R_tag h1 (fun k hk _=>hf1 k hk.2)
 obtain ⟨A,c,hu,hle,hrow⟩:=OwnRow.reads h2.2
 have hn : ys.zipIdx.length = ys.length:=List.length_zipIdx
 rw [hn] at hu hle hrow
 have hrow2 : ReadsRow (fun (p : α × Nat) cs=>(Kd.tag f d).M W base okp p cs) d.sz W A ys.length (ys.zipIdx xs.length):=by
  refine ⟨List.length_zipIdx,hrow.2.1,fun hp=>?_⟩
  obtain ⟨ad,ea,hc⟩:=hrow.2.2 hp
  refine ⟨ad,ea,fun j p hj=>?_⟩
  rw [List.getElem?_zipIdx] at hj
  obtain ⟨y,hy,rfl⟩:=Option.map_eq_some_iff.1 hj
  obtain ⟨cs,h3,h4,h5⟩:=hc j (y,j) (by rw [List.getElem?_zipIdx,hy];simp)
  exact ⟨cs,h3,d.M_mono (fun k hk=>⟨hk.1.1,(hf2 k hk.1.1).trans (by rw [hk.2])⟩) h4,h5⟩
 refine Kd.R_append_rows (Kd.tag f d) base hgd s x t e z bytes ho ht hinfo hz hs0 hb0 v xs.zipIdx (ys.zipIdx xs.length) A ys.length c ok okp hs (hx.trans hu) (Kd.R_mono hR (fun _ hk=>hk.1)) hrow2 (fun _ _ h=>h) hokp hfresh HB hbase (by rw [List.length_zipIdx];exact hl) ?_
 intro v1 w1 hr
 have hz2 : xs.zipIdx ++ ys.zipIdx xs.length = (xs ++ ys).zipIdx:=by rw [List.zipIdx_append,Nat.zero_add]
 rw [hz2] at hr
 exact h v1 w1 ⟨f,hr⟩

/-- The blocks that a row of rows may have: ok, made here, of its types. -/
def SB_ {α : Type} (d : Kd α) (e : Nat) (W : World) (base : Nat) (ok : Nat → Prop) (k : Nat) : Prop:=ok k∧base ≤ k∧k < W.heap.size∧∃ q,q ∈ e :: d.E∧∃ cells,W.heap[k]? = some (.cells cells q (0,0))
theorem SB_own {α : Type} {d : Kd α} {e : Nat} {W : World} {base : Nat} {ok : Nat → Prop} {v : Value} {xs : List α} (h : Kd.S d e W base ok v xs) : Kd.S d e W base (SB_ d e W base ok) v xs:=Kd.S_bound h
theorem R_apartSB {α β : Type} {d : Kd α} {d' : Kd β} {e e' : Nat} {W : World} {base base' : Nat} {ok ok' : Nat → Prop} {v : Value} {xs : List α} (h : Kd.R d e W base ok v xs) (ht : ∀ q,q ∈ e :: d.E → ∀ q',q' ∈ e' :: d'.E → q ≠ q') : Kd.R d e W base (fun k=>ok k∧¬ SB_ d' e' W base' ok' k) v xs :=
 Kd.R_mono (Kd.R_bound h) (fun k hk=>⟨hk.1,fun hs=>by
  obtain ⟨_,_,_,q,hq,cells,hc⟩:=hk
  obtain ⟨_,_,_,q',hq',cells',hc'⟩:=hs
  rw [hc] at hc'
  injection hc' with hc'
  injection hc' with _ hc'
  exact ht q hq q' hq' hc'⟩)
theorem R_apartSBo {α β : Type} {d : Kd α} {d' : Kd β} {e e' : Nat} {W : World} {base base' : Nat} {ok ok' : Nat → Prop} {v : Value} {xs : List α} (hE : d.E = []) (h : Kd.R d e W base ok v xs) (hn : ∀ k,ok' k → some k ≠ v.ownBlock) : Kd.R d e W base (fun k=>ok k∧¬ SB_ d' e' W base' ok' k) v xs :=
 Kd.R_mono (Kd.R_tight hE h) (fun k hk=>⟨h.1 k hk.symm,fun hs=>hn k hs.1 hk⟩)
theorem S_apartSBn {α β : Type} {d : Kd α} {d' : Kd β} {e e' : Nat} {W : World} {base base' : Nat} {ok ok' : Nat → Prop} {v : Value} {xs : List α} (h : Kd.S d e W base ok v xs) (hn : ∀ k,ok k → ¬ ok' k) : Kd.S d e W base (fun k=>ok k∧¬ SB_ d' e' W base' ok' k) v xs :=
 Kd.S_mono h (fun k hk=>⟨hk,fun hs=>hn k hk hs.1⟩)
theorem blk_SB {α : Type} {d : Kd α} {e : Nat} {W : World} {base : Nat} {ok : Nat → Prop} {g t : Nat} {cs : Array Value} (hb : W.heap[g]? = some (.cells cs t (0,0))) (ht : ∀ q,q ∈ e :: d.E → q ≠ t) : ¬ SB_ d e W base ok g:=fun hs=>by
 obtain ⟨_,_,_,q,hq,cells,hc⟩:=hs
 rw [hb] at hc
 injection hc with hc
 injection hc with _ hc
 exact ht q hq hc.symm
theorem SB_ne_row {α : Type} {d : Kd α} {e : Nat} {W : World} {base : Nat} {ok : Nat → Prop} {v : Value} {k t : Nat} (hs : SB_ d e W base ok k) (hv : ∀ g,v.ownBlock = some g → ∃ cells,W.heap[g]? = some (.cells cells t (0,0))) (ht : ∀ q,q ∈ e :: d.E → q ≠ t) : some k ≠ v.ownBlock:=fun e_=>by
 obtain ⟨cells,hc⟩:=hv k e_.symm
 exact blk_SB hc ht hs
theorem R_apartSBn {α β : Type} {d : Kd α} {d' : Kd β} {e e' : Nat} {W : World} {base base' : Nat} {ok ok' : Nat → Prop} {v : Value} {xs : List α} (h : Kd.R d e W base ok v xs) (hn : ∀ k,ok k → ¬ ok' k) : Kd.R d e W base (fun k=>ok k∧¬ SB_ d' e' W base' ok' k) v xs :=
 Kd.R_mono h (fun k hk=>⟨hk,fun hs=>hn k hk hs.1⟩)
theorem calls_all {P : Program} {n : Nat} {args : Array Value} {w : World} {Q : Ending → World → Prop} (h : ∀ Q' : Ending → World → Prop,(∀ e w',Q e w' → Q' e w') → Calls P n args w Q') : Calls P n args w Q:=h Q (fun _ _ h=>h)
theorem N_raiseB {α : Type} {d : Kd α} {e : Nat} {w : World} {b b' : Nat} {ok : Nat → Prop} {v : Value} {xs : List α} (h : Kd.N d e w b ok v xs) (hb : ∀ k,ok k → b' ≤ k) : Kd.N d e w b' ok v xs:=by
 obtain ⟨h0,rows,hl,hR,hf⟩:=h
 exact ⟨h0,rows,hl,Kd.R_raise (b:=b) (b':=b') (fun _ _ _ _ h_=>h_) hR (fun k hk=>hb k (h0 k hk)),hf⟩

theorem gate_calleev {P : Program} {ops : Array Oper} {rest : List Oper} {o : Oper} {a : Act} {W : World} {Q : Exit → Act → World → Prop} {c : Operand} {as_ : Array Operand} {ts : Array TypeId} (_ho : o.op = .call { callee:=.value c,args:=as_,argTypes:=ts }) (h : wpList P ops Q (o :: rest) a W) : wpList P ops Q (o :: rest) a W:=h
/-- A call of a function that a place holds. -/
theorem goesLv_ {P : Program} {ops : Array Oper} {Q : Exit → Act → World → Prop} {rest : List Oper} {oi : Oper} {a : Act} {w : World} (N : Option Tmp) (hd : oi.dst = N) (hg : oi.guard = none) {f : FuncId} {fn : Func} {c : Operand} {as_ : Array Operand} {ts : Array TypeId} (hf : P.funcs[f]? = some fn) (hname : (fn.name == "runtime.NumGoroutine") = false) (hb : fn.body.isSome = true) (args : Array Value)
  (hop : oi.op = .call { callee:=.value c,args:=as_,argTypes:=ts }) (hc : a.eval c = .func (.func f) #[] #[]) (hargs : as_.map a.eval = args)
  (h : Calls P f args w fun e w'=>∃ v,e = .returned v∧wpList P ops Q rest (a.put N v) w') : wpList P ops Q (oi :: rest) a w:=by
 refine wpList_plain hg fun K hK=>?_
 have he:=enters_ hf hname hb args w
 have hrun : (execOp a.eval oi).run P w = .ok (.enter f args) w:=by
  unfold execOp
  simp [hop,resolve,hc,Deferred.ofValue,invoke,hargs,he]
 unfold Oper.wp
 rw [hrun,Oper.upon_enter]
 refine h.mono fun e w'' hh=>?_
 obtain ⟨v,rfl,hk⟩:=hh
 subst hd
 exact hK _ _ hk
/-- A call of a function value that has captured. -/
theorem goesLc_ {P : Program} {ops : Array Oper} {Q : Exit → Act → World → Prop} {rest : List Oper} {oi : Oper} {a : Act} {w : World} (N : Option Tmp) (hd : oi.dst = N) (hg : oi.guard = none) {f : FuncId} {fn : Func} {c : Operand} {as_ : Array Operand} {ts : Array TypeId} {cap : Array Value} (hf : P.funcs[f]? = some fn) (hname : (fn.name == "runtime.NumGoroutine") = false) (hb : fn.body.isSome = true) (args : Array Value)
  (hop : oi.op = .call { callee:=.value c,args:=as_,argTypes:=ts }) (hc : a.eval c = .func (.func f) #[] cap) (hargs : as_.map a.eval = args) (all : Array Value) (hall : args ++ cap = all)
  (h : Calls P f all w fun e w'=>∃ v,e = .returned v∧wpList P ops Q rest (a.put N v) w') : wpList P ops Q (oi :: rest) a w:=by
 refine wpList_plain hg fun K hK=>?_
 have he:=enters_ hf hname hb (args ++ cap) w
 have hrun : (execOp a.eval oi).run P w = .ok (.enter f (args ++ cap)) w:=by
  unfold execOp
  simp [hop,resolve,hc,Deferred.ofValue,invoke,hargs,he]
 unfold Oper.wp
 rw [hrun,Oper.upon_enter,hall]
 refine h.mono fun e w'' hh=>?_
 obtain ⟨v,rfl,hk⟩:=hh
 subst hd
 exact hK _ _ hk

theorem info3 : (Try.prog.info? 3).map (fun i=>(i.zero,i.size,i.bytes)) = some (some (.int .i64 0),1,8):=by kernel_rfl
theorem info5 : (Try.prog.info? 5).map (fun i=>(i.zero,i.size,i.bytes)) = some (some (.int .u8 0),1,1):=by kernel_rfl
theorem info22 : (Try.prog.info? 22).map (fun i=>(i.zero,i.size,i.bytes)) = some (some (.slice none 0 0),1,24):=by kernel_rfl
theorem info40 : (Try.prog.info? 40).map (fun i=>(i.zero,i.size,i.bytes)) = some (some (.agg #[(.int .i64 0),(.slice none 0 0)]),2,32):=by kernel_rfl
-- the values' own types
def rd_L1 (xs : List (List Int)) (i : Int) : (List Int):=xs.getD i.toNat ([] : List Int)
theorem at_L1 {w : World} {A : Option Addr} {n : Nat} {xs : List (List Int)} (h : Kd.C (Kd.slice 5 (Kd.int .u8)) w A n xs) (i : Int) (h0 : 0 ≤ i) (h1 : i < n) : ∃ ad A0 c0,A = some ad∧w.cell? (ad.add i.toNat) = some (.slice A0 (rd_L1 xs i).length c0)∧(rd_L1 xs i).length ≤ c0∧(Kd.int .u8).C w A0 (rd_L1 xs i).length (rd_L1 xs i):=by
 obtain ⟨ad,c,e,_,hK,hc0⟩:=Kd.C_get h ([] : List Int) i h0 h1
 have hc : ∀ j u,c[j]? = some u → w.cell? (ad.add (i.toNat * 1 + j)) = some u:=hc0
 obtain ⟨A0,c0,rfl,l0,g0⟩:=hK
 exact ⟨ad,A0,c0,e,by have hq:=hc 0 _ rfl;rwa [Nat.mul_one,Nat.add_zero] at hq,l0,g0⟩

/-! #### struct type 40 -/
structure S40 where
 f0 : Int
 f1 : (List Int)
def z40 : S40:=⟨(0 : Int),([] : List Int)⟩
def k40 : Kd S40:=Kd.iso (Kd.pair (Kd.int .i64) (Kd.slice 5 (Kd.int .u8))) (fun x : S40=>(x.f0,x.f1))
theorem k40_heap : Kd.Heap k40:=Kd.heap_iso _ (Kd.heap_pair (Kd.heap_int .i64) (Kd.heap_slice 5 (Kd.heap_int .u8)))
theorem k40_open {w : World} {x : S40} {cs : List Value} (h : k40.K w x cs) : ∃ A1 c1,cs = [.int .i64 x.f0,.slice A1 x.f1.length c1]∧x.f1.length ≤ c1∧(Kd.int .u8).C w A1 x.f1.length x.f1:=by
 obtain ⟨_,_,rfl,rfl,⟨A1,c1,rfl,l1,g1⟩⟩:=h
 exact ⟨A1,c1,rfl,l1,g1⟩
theorem k40_openM {w : World} {base : Nat} {ok : Nat → Prop} {x : S40} {cs : List Value} (h : k40.M w base ok x cs) : ∃ v1,cs = [.int .i64 x.f0,v1]∧(Kd.int .u8).R 5 w base ok v1 x.f1:=by
 obtain ⟨_,_,rfl,rfl,⟨v1,rfl,g1⟩⟩:=h
 exact ⟨v1,rfl,g1⟩
theorem k40_mk (w : World) (x : S40) {A1 : Option Addr} {c1 : Nat} (l1 : x.f1.length ≤ c1) (g1 : (Kd.int .u8).C w A1 x.f1.length x.f1) : k40.K w x [.int .i64 x.f0,.slice A1 x.f1.length c1]:=⟨[.int .i64 x.f0],[.slice A1 x.f1.length c1],rfl,rfl,⟨A1,c1,rfl,l1,g1⟩⟩
theorem k40_mkM (w : World) (base : Nat) (ok : Nat → Prop) (x : S40) {v1 : Value} (g1 : (Kd.int .u8).R 5 w base ok v1 x.f1) : k40.M w base ok x [.int .i64 x.f0,v1]:=⟨[.int .i64 x.f0],[v1],rfl,rfl,⟨v1,rfl,g1⟩⟩
theorem k40_openF {W : World} {ok : Nat → Prop} {x : S40} {cs : List Value} (h : Kd.FK k40 W ok x cs) : ∃ A1 c1,cs = [.int .i64 x.f0,.slice A1 x.f1.length c1]∧x.f1.length ≤ c1∧Kd.F (Kd.int .u8) W ok A1 x.f1.length x.f1:=by
 obtain ⟨A1,c1,rfl,l1,_⟩:=k40_open (Kd.FK_now h)
 exact ⟨A1,c1,rfl,l1,(fun W' hW=>by obtain ⟨A1_,c1_,he,l1_,g1_⟩:=k40_open (h W' hW);injection (Option.some.inj (show some (Value.slice A1 x.f1.length c1) = some (Value.slice A1_ x.f1.length c1_) from congrArg (fun l=>l[1]?) he)) with ha_ _ _;rw [ha_];exact g1_)⟩
theorem k40_mkF (W : World) (ok : Nat → Prop) (x : S40) {A1 : Option Addr} {c1 : Nat} (l1 : x.f1.length ≤ c1) (g1 : Kd.F (Kd.int .u8) W ok A1 x.f1.length x.f1) : Kd.FK k40 W ok x [.int .i64 x.f0,.slice A1 x.f1.length c1]:=fun W2 hW=>k40_mk W2 x l1 (g1 W2 hW)
def rd_T40 (xs : List S40) (i : Int) : S40:=xs.getD i.toNat z40
theorem at_T40 {w : World} {A : Option Addr} {n : Nat} {xs : List S40} (h : Kd.C k40 w A n xs) (i : Int) (h0 : 0 ≤ i) (h1 : i < n) : ∃ ad A1 c1,A = some ad∧w.cell? (ad.add (i.toNat * 2)) = some (.int .i64 (rd_T40 xs i).f0)∧w.cell? ⟨(ad.add (i.toNat * 2)).block,(ad.add (i.toNat * 2)).off + 1,none⟩ = some (.slice A1 (rd_T40 xs i).f1.length c1)∧(rd_T40 xs i).f1.length ≤ c1∧(Kd.int .u8).C w A1 (rd_T40 xs i).f1.length (rd_T40 xs i).f1:=by
 obtain ⟨ad,c,e,_,hK,hc0⟩:=Kd.C_get h z40 i h0 h1
 have hc : ∀ j u,c[j]? = some u → w.cell? (ad.add (i.toNat * 2 + j)) = some u:=hc0
 obtain ⟨A1,c1,rfl,l1,g1⟩:=k40_open hK
 exact ⟨ad,A1,c1,e,hc 0 _ rfl,by rw [← add_field _ _ 1 (by omega)];exact hc 1 _ rfl,l1,g1⟩

def rd_L4 (xs : List (List (List Int))) (i : Int) : (List (List Int)):=xs.getD i.toNat ([] : List (List Int))
theorem at_L4 {w : World} {A : Option Addr} {n : Nat} {xs : List (List (List Int))} (h : Kd.C (Kd.slice 22 (Kd.slice 5 (Kd.int .u8))) w A n xs) (i : Int) (h0 : 0 ≤ i) (h1 : i < n) : ∃ ad A0 c0,A = some ad∧w.cell? (ad.add i.toNat) = some (.slice A0 (rd_L4 xs i).length c0)∧(rd_L4 xs i).length ≤ c0∧(Kd.slice 5 (Kd.int .u8)).C w A0 (rd_L4 xs i).length (rd_L4 xs i):=by
 obtain ⟨ad,c,e,_,hK,hc0⟩:=Kd.C_get h ([] : List (List Int)) i h0 h1
 have hc : ∀ j u,c[j]? = some u → w.cell? (ad.add (i.toNat * 1 + j)) = some u:=hc0
 obtain ⟨A0,c0,rfl,l0,g0⟩:=hK
 exact ⟨ad,A0,c0,e,by have hq:=hc 0 _ rfl;rwa [Nat.mul_one,Nat.add_zero] at hq,l0,g0⟩

/-! #### struct type 25 -/
structure S25 where
 f0 : (List (List Int))
 f1 : Int
 f2 : Bool
 f3 : Int
def z25 : S25:=⟨([] : List (List Int)),(0 : Int),false,(0 : Int)⟩
def k25 : Kd S25:=Kd.iso (Kd.pair (Kd.slice 22 (Kd.slice 5 (Kd.int .u8))) (Kd.pair (Kd.int .i64) (Kd.pair Kd.bool (Kd.int .i64)))) (fun x : S25=>(x.f0,x.f1,x.f2,x.f3))
theorem k25_heap : Kd.Heap k25:=Kd.heap_iso _ (Kd.heap_pair (Kd.heap_slice 22 (Kd.heap_slice 5 (Kd.heap_int .u8))) (Kd.heap_pair (Kd.heap_int .i64) (Kd.heap_pair Kd.heap_bool (Kd.heap_int .i64))))
theorem k25_open {w : World} {x : S25} {cs : List Value} (h : k25.K w x cs) : ∃ A0 c0,cs = [.slice A0 x.f0.length c0,.int .i64 x.f1,.bool x.f2,.int .i64 x.f3]∧x.f0.length ≤ c0∧(Kd.slice 5 (Kd.int .u8)).C w A0 x.f0.length x.f0:=by
 obtain ⟨_,_,rfl,⟨A0,c0,rfl,l0,g0⟩,⟨_,_,rfl,rfl,⟨_,_,rfl,rfl,rfl⟩⟩⟩:=h
 exact ⟨A0,c0,rfl,l0,g0⟩
theorem k25_openM {w : World} {base : Nat} {ok : Nat → Prop} {x : S25} {cs : List Value} (h : k25.M w base ok x cs) : ∃ v0,cs = [v0,.int .i64 x.f1,.bool x.f2,.int .i64 x.f3]∧(Kd.slice 5 (Kd.int .u8)).R 22 w base ok v0 x.f0:=by
 obtain ⟨_,_,rfl,⟨v0,rfl,g0⟩,⟨_,_,rfl,rfl,⟨_,_,rfl,rfl,rfl⟩⟩⟩:=h
 exact ⟨v0,rfl,g0⟩
theorem k25_mk (w : World) (x : S25) {A0 : Option Addr} {c0 : Nat} (l0 : x.f0.length ≤ c0) (g0 : (Kd.slice 5 (Kd.int .u8)).C w A0 x.f0.length x.f0) : k25.K w x [.slice A0 x.f0.length c0,.int .i64 x.f1,.bool x.f2,.int .i64 x.f3]:=⟨[.slice A0 x.f0.length c0],[.int .i64 x.f1,.bool x.f2,.int .i64 x.f3],rfl,⟨A0,c0,rfl,l0,g0⟩,⟨[.int .i64 x.f1],[.bool x.f2,.int .i64 x.f3],rfl,rfl,⟨[.bool x.f2],[.int .i64 x.f3],rfl,rfl,rfl⟩⟩⟩
theorem k25_mkM (w : World) (base : Nat) (ok : Nat → Prop) (x : S25) {v0 : Value} (g0 : (Kd.slice 5 (Kd.int .u8)).R 22 w base ok v0 x.f0) : k25.M w base ok x [v0,.int .i64 x.f1,.bool x.f2,.int .i64 x.f3]:=⟨[v0],[.int .i64 x.f1,.bool x.f2,.int .i64 x.f3],rfl,⟨v0,rfl,g0⟩,⟨[.int .i64 x.f1],[.bool x.f2,.int .i64 x.f3],rfl,rfl,⟨[.bool x.f2],[.int .i64 x.f3],rfl,rfl,rfl⟩⟩⟩
theorem k25_openF {W : World} {ok : Nat → Prop} {x : S25} {cs : List Value} (h : Kd.FK k25 W ok x cs) : ∃ A0 c0,cs = [.slice A0 x.f0.length c0,.int .i64 x.f1,.bool x.f2,.int .i64 x.f3]∧x.f0.length ≤ c0∧Kd.F (Kd.slice 5 (Kd.int .u8)) W ok A0 x.f0.length x.f0:=by
 obtain ⟨A0,c0,rfl,l0,_⟩:=k25_open (Kd.FK_now h)
 exact ⟨A0,c0,rfl,l0,(fun W' hW=>by obtain ⟨A0_,c0_,he,l0_,g0_⟩:=k25_open (h W' hW);injection (Option.some.inj (show some (Value.slice A0 x.f0.length c0) = some (Value.slice A0_ x.f0.length c0_) from congrArg (fun l=>l[0]?) he)) with ha_ _ _;rw [ha_];exact g0_)⟩
theorem k25_mkF (W : World) (ok : Nat → Prop) (x : S25) {A0 : Option Addr} {c0 : Nat} (l0 : x.f0.length ≤ c0) (g0 : Kd.F (Kd.slice 5 (Kd.int .u8)) W ok A0 x.f0.length x.f0) : Kd.FK k25 W ok x [.slice A0 x.f0.length c0,.int .i64 x.f1,.bool x.f2,.int .i64 x.f3]:=fun W2 hW=>k25_mk W2 x l0 (g0 W2 hW)
def rd_T25 (xs : List S25) (i : Int) : S25:=xs.getD i.toNat z25
theorem at_T25 {w : World} {A : Option Addr} {n : Nat} {xs : List S25} (h : Kd.C k25 w A n xs) (i : Int) (h0 : 0 ≤ i) (h1 : i < n) : ∃ ad A0 c0,A = some ad∧w.cell? (ad.add (i.toNat * 4)) = some (.slice A0 (rd_T25 xs i).f0.length c0)∧w.cell? ⟨(ad.add (i.toNat * 4)).block,(ad.add (i.toNat * 4)).off + 1,none⟩ = some (.int .i64 (rd_T25 xs i).f1)∧w.cell? ⟨(ad.add (i.toNat * 4)).block,(ad.add (i.toNat * 4)).off + 2,none⟩ = some (.bool (rd_T25 xs i).f2)∧w.cell? ⟨(ad.add (i.toNat * 4)).block,(ad.add (i.toNat * 4)).off + 3,none⟩ = some (.int .i64 (rd_T25 xs i).f3)∧(rd_T25 xs i).f0.length ≤ c0∧(Kd.slice 5 (Kd.int .u8)).C w A0 (rd_T25 xs i).f0.length (rd_T25 xs i).f0:=by
 obtain ⟨ad,c,e,_,hK,hc0⟩:=Kd.C_get h z25 i h0 h1
 have hc : ∀ j u,c[j]? = some u → w.cell? (ad.add (i.toNat * 4 + j)) = some u:=hc0
 obtain ⟨A0,c0,rfl,l0,g0⟩:=k25_open hK
 exact ⟨ad,A0,c0,e,hc 0 _ rfl,by rw [← add_field _ _ 1 (by omega)];exact hc 1 _ rfl,by rw [← add_field _ _ 2 (by omega)];exact hc 2 _ rfl,by rw [← add_field _ _ 3 (by omega)];exact hc 3 _ rfl,l0,g0⟩

def rd_L7 (xs : List (List S40)) (i : Int) : (List S40):=xs.getD i.toNat ([] : List S40)
theorem at_L7 {w : World} {A : Option Addr} {n : Nat} {xs : List (List S40)} (h : Kd.C (Kd.slice 40 k40) w A n xs) (i : Int) (h0 : 0 ≤ i) (h1 : i < n) : ∃ ad A0 c0,A = some ad∧w.cell? (ad.add i.toNat) = some (.slice A0 (rd_L7 xs i).length c0)∧(rd_L7 xs i).length ≤ c0∧k40.C w A0 (rd_L7 xs i).length (rd_L7 xs i):=by
 obtain ⟨ad,c,e,_,hK,hc0⟩:=Kd.C_get h ([] : List S40) i h0 h1
 have hc : ∀ j u,c[j]? = some u → w.cell? (ad.add (i.toNat * 1 + j)) = some u:=hc0
 obtain ⟨A0,c0,rfl,l0,g0⟩:=hK
 exact ⟨ad,A0,c0,e,by have hq:=hc 0 _ rfl;rwa [Nat.mul_one,Nat.add_zero] at hq,l0,g0⟩

theorem b101_ {p : Prop} (k : p:=by repeat (first|(with_reducible first|exact HB.out|apply below_alloc|apply pw_below_drewN|apply below_drew1|refine below_set ?_ GE101.out)|exact HB.out)) : p:=k
theorem b101_103_ {p : Prop} (k : p:=by repeat (first|(with_reducible first|exact HB.out|apply below_alloc|apply pw_below_drewN|apply below_drew1|refine below_set ?_ GE101.out|refine below_set ?_ GE103.out)|exact HB.out)) : p:=k
theorem b0_ {p : Prop} (k : p:=by repeat (first|(with_reducible first|exact HB.out|apply below_alloc|apply pw_below_drewN|apply below_drew1|refine below_set ?_ GE0.out)|exact HB.out)) : p:=k
theorem b250_ {p : Prop} (k : p:=by repeat (first|(with_reducible first|exact HB.out|apply below_alloc|apply pw_below_drewN|apply below_drew1|refine below_set ?_ GE250.out)|exact HB.out)) : p:=k
theorem b258_ {p : Prop} (k : p:=by repeat (first|(with_reducible first|exact HB.out|apply below_alloc|apply pw_below_drewN|apply below_drew1|refine below_set ?_ GE258.out)|exact HB.out)) : p:=k
theorem b261_ {p : Prop} (k : p:=by repeat (first|(with_reducible first|exact HB.out|apply below_alloc|apply pw_below_drewN|apply below_drew1|refine below_set ?_ GE261.out)|exact HB.out)) : p:=k
theorem b269_ {p : Prop} (k : p:=by repeat (first|(with_reducible first|exact HB.out|apply below_alloc|apply pw_below_drewN|apply below_drew1|refine below_set ?_ GE269.out)|exact HB.out)) : p:=k
theorem b274_ {p : Prop} (k : p:=by repeat (first|(with_reducible first|exact HB.out|apply below_alloc|apply pw_below_drewN|apply below_drew1|refine below_set ?_ GE274.out)|exact HB.out)) : p:=k
theorem b278_ {p : Prop} (k : p:=by repeat (first|(with_reducible first|exact HB.out|apply below_alloc|apply pw_below_drewN|apply below_drew1|refine below_set ?_ GE278.out)|exact HB.out)) : p:=k
theorem b280_ {p : Prop} (k : p:=by repeat (first|(with_reducible first|exact HB.out|apply below_alloc|apply pw_below_drewN|apply below_drew1|refine below_set ?_ GE280.out)|exact HB.out)) : p:=k
theorem b295_ {p : Prop} (k : p:=by repeat (first|(with_reducible first|exact HB.out|apply below_alloc|apply pw_below_drewN|apply below_drew1|refine below_set ?_ GE295.out)|exact HB.out)) : p:=k
theorem b323_ {p : Prop} (k : p:=by repeat (first|(with_reducible first|exact HB.out|apply below_alloc|apply pw_below_drewN|apply below_drew1|refine below_set ?_ GE323.out)|exact HB.out)) : p:=k
theorem b335_ {p : Prop} (k : p:=by repeat (first|(with_reducible first|exact HB.out|apply below_alloc|apply pw_below_drewN|apply below_drew1|refine below_set ?_ GE335.out)|exact HB.out)) : p:=k
theorem b347_ {p : Prop} (k : p:=by repeat (first|(with_reducible first|exact HB.out|apply below_alloc|apply pw_below_drewN|apply below_drew1|refine below_set ?_ GE347.out)|exact HB.out)) : p:=k
theorem b369_ {p : Prop} (k : p:=by repeat (first|(with_reducible first|exact HB.out|apply below_alloc|apply pw_below_drewN|apply below_drew1|refine below_set ?_ GE369.out)|exact HB.out)) : p:=k
theorem b385_ {p : Prop} (k : p:=by repeat (first|(with_reducible first|exact HB.out|apply below_alloc|apply pw_below_drewN|apply below_drew1|refine below_set ?_ GE385.out)|exact HB.out)) : p:=k
theorem b385_386_ {p : Prop} (k : p:=by repeat (first|(with_reducible first|exact HB.out|apply below_alloc|apply pw_below_drewN|apply below_drew1|refine below_set ?_ GE385.out|refine below_set ?_ GE386.out)|exact HB.out)) : p:=k
theorem b390_ {p : Prop} (k : p:=by repeat (first|(with_reducible first|exact HB.out|apply below_alloc|apply pw_below_drewN|apply below_drew1|refine below_set ?_ GE390.out)|exact HB.out)) : p:=k
theorem b390_391_ {p : Prop} (k : p:=by repeat (first|(with_reducible first|exact HB.out|apply below_alloc|apply pw_below_drewN|apply below_drew1|refine below_set ?_ GE390.out|refine below_set ?_ GE391.out)|exact HB.out)) : p:=k
theorem b0_412_ {p : Prop} (k : p:=by repeat (first|(with_reducible first|exact HB.out|apply below_alloc|apply pw_below_drewN|apply below_drew1|refine below_set ?_ GE0.out|refine below_set ?_ GE412.out)|exact HB.out)) : p:=k
theorem b420_ {p : Prop} (k : p:=by repeat (first|(with_reducible first|exact HB.out|apply below_alloc|apply pw_below_drewN|apply below_drew1|refine below_set ?_ GE420.out)|exact HB.out)) : p:=k
theorem b420_421_ {p : Prop} (k : p:=by repeat (first|(with_reducible first|exact HB.out|apply below_alloc|apply pw_below_drewN|apply below_drew1|refine below_set ?_ GE420.out|refine below_set ?_ GE421.out)|exact HB.out)) : p:=k
theorem b420_421_432_ {p : Prop} (k : p:=by repeat (first|(with_reducible first|exact HB.out|apply below_alloc|apply pw_below_drewN|apply below_drew1|refine below_set ?_ GE420.out|refine below_set ?_ GE421.out|refine below_set ?_ GE432.out)|exact HB.out)) : p:=k
theorem b440_ {p : Prop} (k : p:=by repeat (first|(with_reducible first|exact HB.out|apply below_alloc|apply pw_below_drewN|apply below_drew1|refine below_set ?_ GE440.out)|exact HB.out)) : p:=k
theorem b440_441_ {p : Prop} (k : p:=by repeat (first|(with_reducible first|exact HB.out|apply below_alloc|apply pw_below_drewN|apply below_drew1|refine below_set ?_ GE440.out|refine below_set ?_ GE441.out)|exact HB.out)) : p:=k
theorem b454_ {p : Prop} (k : p:=by repeat (first|(with_reducible first|exact HB.out|apply below_alloc|apply pw_below_drewN|apply below_drew1|refine below_set ?_ GE454.out)|exact HB.out)) : p:=k
theorem b471_ {p : Prop} (k : p:=by repeat (first|(with_reducible first|exact HB.out|apply below_alloc|apply pw_below_drewN|apply below_drew1|refine below_set ?_ GE471.out)|exact HB.out)) : p:=k
theorem b471_472_ {p : Prop} (k : p:=by repeat (first|(with_reducible first|exact HB.out|apply below_alloc|apply pw_below_drewN|apply below_drew1|refine below_set ?_ GE471.out|refine below_set ?_ GE472.out)|exact HB.out)) : p:=k
theorem b471_472_486_ {p : Prop} (k : p:=by repeat (first|(with_reducible first|exact HB.out|apply below_alloc|apply pw_below_drewN|apply below_drew1|refine below_set ?_ GE471.out|refine below_set ?_ GE472.out|refine below_set ?_ GE486.out)|exact HB.out)) : p:=k
theorem b500_ {p : Prop} (k : p:=by repeat (first|(with_reducible first|exact HB.out|apply below_alloc|apply pw_below_drewN|apply below_drew1|refine below_set ?_ GE500.out)|exact HB.out)) : p:=k
theorem b514_539_ {p : Prop} (k : p:=by repeat (first|(with_reducible first|exact HB.out|apply below_alloc|apply pw_below_drewN|apply below_drew1|refine below_set ?_ GE514.out|refine below_set ?_ GE539.out)|exact HB.out)) : p:=k
theorem b514_539_547_ {p : Prop} (k : p:=by repeat (first|(with_reducible first|exact HB.out|apply below_alloc|apply pw_below_drewN|apply below_drew1|refine below_set ?_ GE514.out|refine below_set ?_ GE539.out|refine below_set ?_ GE547.out)|exact HB.out)) : p:=k
theorem b514_539_547_556_ {p : Prop} (k : p:=by repeat (first|(with_reducible first|exact HB.out|apply below_alloc|apply pw_below_drewN|apply below_drew1|refine below_set ?_ GE514.out|refine below_set ?_ GE539.out|refine below_set ?_ GE547.out|refine below_set ?_ GE556.out)|exact HB.out)) : p:=k
theorem b514_556_ {p : Prop} (k : p:=by repeat (first|(with_reducible first|exact HB.out|apply below_alloc|apply pw_below_drewN|apply below_drew1|refine below_set ?_ GE514.out|refine below_set ?_ GE556.out)|exact HB.out)) : p:=k
theorem b514_556_561_ {p : Prop} (k : p:=by repeat (first|(with_reducible first|exact HB.out|apply below_alloc|apply pw_below_drewN|apply below_drew1|refine below_set ?_ GE514.out|refine below_set ?_ GE556.out|refine below_set ?_ GE561.out)|exact HB.out)) : p:=k
theorem b514_ {p : Prop} (k : p:=by repeat (first|(with_reducible first|exact HB.out|apply below_alloc|apply pw_below_drewN|apply below_drew1|refine below_set ?_ GE514.out)|exact HB.out)) : p:=k
theorem b514_531_ {p : Prop} (k : p:=by repeat (first|(with_reducible first|exact HB.out|apply below_alloc|apply pw_below_drewN|apply below_drew1|refine below_set ?_ GE514.out|refine below_set ?_ GE531.out)|exact HB.out)) : p:=k
theorem b514_531_539_ {p : Prop} (k : p:=by repeat (first|(with_reducible first|exact HB.out|apply below_alloc|apply pw_below_drewN|apply below_drew1|refine below_set ?_ GE514.out|refine below_set ?_ GE531.out|refine below_set ?_ GE539.out)|exact HB.out)) : p:=k
theorem bg0_ {p : Prop} (k : p:=by repeat (first|exact HB.out|apply below_alloc|apply pw_below_drewN|apply below_drew1)) : p:=k
theorem bk_ {p q1 : Prop} (h1 : q1) (k : q1 → p:=by intro h1_;(with_reducible repeat first|apply blk_drewN|apply blk_drew|apply blk_alloc);exact h1_) : p:=k h1
theorem rR_ {p q1 : Prop} (h1 : q1) (k : q1 → p:=by intro h1_;(with_reducible repeat (first|apply Kd.R_alloc|apply Kd.R_drewN|apply Kd.R_drew));exact h1_) : p:=k h1
theorem rS_ {p q1 : Prop} (h1 : q1) (k : q1 → p:=by intro h1_;(with_reducible repeat (first|apply Kd.S_alloc|apply Kd.S_drewN|apply Kd.S_drew));exact h1_) : p:=k h1
theorem rV_ {p q1 : Prop} (h1 : q1) (k : q1 → p:=by intro h1_;(with_reducible repeat (first|apply Kd.V_alloc|apply Kd.V_drewN|apply Kd.V_drew));exact h1_) : p:=k h1
theorem rN_ {p q1 : Prop} (h1 : q1) (k : q1 → p:=by intro h1_;(with_reducible repeat (first|apply Kd.N_alloc|apply Kd.N_drewN|apply Kd.N_drew));exact h1_) : p:=k h1
theorem sf0_ {p : Prop} (k : p:=by (try simp only [List.map_toArray,List.map_cons,List.map_nil]);first|done|rfl|(simp only [List.length_drop,List.length_take];rfl)) : p:=k
theorem sf1_ {p : Prop} (k : p:=by first|rfl|(simp;done)|(simp [*];done)) : p:=k
theorem sf2_ {p : Prop} (k : p:=by first|rfl|(simp [*,errW_none,errW_some] <;> rfl)) : p:=k
theorem hy_ {p q1 : Prop} (h1 : q1) (k : q1 → p:=by intro h1_;first|(rw [h1_];with_reducible exact H)|(have H2_:=(Option.bind_some _ _).symm.trans H;rw [h1_];with_reducible exact H2_)|(have H2_:=(Option.bind_some _ _).symm.trans H;with_reducible exact H2_)|with_reducible exact H|(rw [h1_];exact H)|exact H) : p:=k h1
theorem cb_ {p q1 : Prop} (h1 : q1) (k : q1 → p:=by intro h1_;repeat (first|exact (Kd.C_below h1_ HB.out)|(with_reducible first|apply Kd.C_alloc|apply Kd.C_drewN|apply Kd.C_drew))) : p:=k h1
theorem cd_ {p q1 : Prop} (h1 : q1) (k : q1 → p:=by intro h1_;repeat (first|exact h1_|(with_reducible first|apply Kd.C_alloc|apply Kd.C_drewN|apply Kd.C_drew))) : p:=k h1
theorem pp_ {P : Program} {ops : Array Oper} {Q : Exit → Act → World → Prop} {md : Region.Mode} {S : World → Prop} {ds : List Nat} {oi : Oper} {v : Value} {fuel : Nat} {l : Array Bool} {a : Act} {w : World} {T : Bool × List (List Nat × List Nat)} {a' : Act} (i n : Nat) (l' : Array Bool) (hi : ops[i]? = some oi) (hN : oi.dst = some n) (hT : rtab md ops = T) (h : wpAnyLast P md ops Q S ds fuel l' a' w) (hc : anyT T l.toList l'.toList i = true:=by kernel_rfl) (hs : Region.wanted oi (yielded ops a.tmps) = true:=by rfl) (hy : ∀ w, (execOp a.eval oi).run P w = .ok (.value v) w:=by intro w';go_simp;with_reducible rfl) (ha : a.put (some n) v = a':=by simp only [Act.put,List.setIfInBounds_toArray,List.set_cons_zero,List.set_cons_succ,i64_w,i32_w];rfl) (hQ : ∀ c a w, Q (.panic c) (a.put oi.dst v) w → Q (.panic c) a w:=by exact fun _ _ _ h=>h) : wpAnyLast P md ops Q S ds (fuel + 1) l a w:=
 pure_ l' hi hN (any_of hT hc) hQ (Or.inl ⟨hs,hy⟩) ha h
theorem pu_ {P : Program} {ops : Array Oper} {Q : Exit → Act → World → Prop} {md : Region.Mode} {S : World → Prop} {ds : List Nat} {oi : Oper} {fuel : Nat} {l : Array Bool} {a : Act} {w : World} {T : Bool × List (List Nat × List Nat)} {a' : Act} (i n : Nat) (l' : Array Bool) (hi : ops[i]? = some oi) (hN : oi.dst = some n) (hT : rtab md ops = T) (h : wpAnyLast P md ops Q S ds fuel l' a' w) (hc : anyT T l.toList l'.toList i = true:=by kernel_rfl) (hs : Region.wanted oi (yielded ops a.tmps) = false:=by rfl) (ha : a.put (some n) undef = a':=by simp only [Act.put,List.setIfInBounds_toArray,List.set_cons_zero,List.set_cons_succ,i64_w,i32_w];rfl) (hQ : ∀ c a w, Q (.panic c) (a.put oi.dst undef) w → Q (.panic c) a w:=by exact fun _ _ _ h=>h) : wpAnyLast P md ops Q S ds (fuel + 1) l a w:=
 pure_ l' hi hN (any_of hT hc) hQ (Or.inr ⟨hs,rfl⟩) ha h
abbrev m0_ : Array Bool:=#[false,false,false,false,false,false,false,false,false,false]
abbrev m1_ : Array Bool:=#[true,false,false,false,false,false,false,false,false,false]
abbrev m2_ : Array Bool:=#[true,true,false,false,false,false,false,false,false,false]
abbrev m3_ : Array Bool:=#[true,true,true,true,true,true,true,false,false,false]
abbrev m4_ : Array Bool:=#[true,true,true,true,true,true,true,true,false,false]
abbrev m5_ : Array Bool:=#[true,true,true,true,true,true,true,true,true,false]
abbrev m6_ : Array Bool:=#[true,true,true,true,true,true,true,true,true,true]
abbrev m7_ : Array Bool:=#[false,false,false,false,false,false,false,false,false]
abbrev m8_ : Array Bool:=#[true,false,false,false,false,false,false,false,false]
abbrev m9_ : Array Bool:=#[true,true,true,false,false,false,false,false,false]
abbrev m10_ : Array Bool:=#[true,true,true,true,true,true,false,false,false]
abbrev m11_ : Array Bool:=#[true,true,true,true,true,true,true,false,false]
abbrev m12_ : Array Bool:=#[true,true,true,true,true,true,true,true,false]
abbrev m13_ : Array Bool:=#[true,true,true,true,true,true,true,true,true]
abbrev m14_ : Array Bool:=#[false,false,false,false,false,false,false,false,false,false,false,false,false,false,false,false,false,false]
abbrev m15_ : Array Bool:=#[true,false,false,false,false,false,false,false,false,false,false,false,false,false,false,false,false,false]
abbrev m16_ : Array Bool:=#[true,true,false,false,false,false,false,false,false,false,false,false,false,false,false,false,false,false]
abbrev m17_ : Array Bool:=#[true,true,true,false,false,false,false,false,false,false,false,false,false,false,false,false,false,false]
abbrev m18_ : Array Bool:=#[true,true,true,true,false,false,false,false,false,false,false,false,false,false,false,false,false,false]
abbrev m19_ : Array Bool:=#[true,true,true,true,true,false,false,false,false,false,false,false,false,false,false,false,false,false]
abbrev m20_ : Array Bool:=#[true,true,true,true,true,true,false,false,false,false,false,false,false,false,false,false,false,false]
abbrev m21_ : Array Bool:=#[true,true,true,true,true,true,true,false,false,false,false,false,false,false,false,false,false,false]
abbrev m22_ : Array Bool:=#[true,true,true,true,true,true,true,true,true,true,true,true,true,true,false,false,false,false]
abbrev m23_ : Array Bool:=#[true,true,true,true,true,true,true,true,true,true,true,true,true,true,true,false,false,false]
abbrev m24_ : Array Bool:=#[true,true,true,true,true,true,true,true,true,true,true,true,true,true,true,true,false,false]
abbrev m25_ : Array Bool:=#[true,true,true,true,true,true,true,true,true,true,true,true,true,true,true,true,true,false]
abbrev m26_ : Array Bool:=#[true,true,true,true,true,true,true,true,true,true,true,true,true,true,true,true,true,true]
abbrev m27_ : Array Bool:=#[true,true,true,false,false,false,false,false,false,false]
abbrev m28_ : Array Bool:=#[true,true,true,false,true,false,false,false,false,false]
abbrev m29_ : Array Bool:=#[true,true,true,false,true,false,true,false,false,false]
abbrev m30_ : Array Bool:=#[true,true,true,true,true,false,true,false,false,false]
abbrev m31_ : Array Bool:=#[true,true,true,true,true,true,true,true,false,false,false,false,false,false,false,false,false,false]
abbrev m32_ : Array Bool:=#[true,true,true,true,true,true,true,true,true,false,false,false,false,false,false,false,false,false]
abbrev m33_ : Array Bool:=#[true,true,true,true,true,true,true,true,true,true,false,false,false,false,false,false,false,false]
abbrev m34_ : Array Bool:=#[true,true,true,true,true,true,true,true,true,true,true,false,false,false,false,false,false,false]
abbrev m35_ : Array Bool:=#[true,true,true,true,true,true,true,true,true,true,true,true,false,false,false,false,false,false]
abbrev m36_ : Array Bool:=#[true,true,true,true,true,true,true,true,true,true,true,true,true,false,false,false,false,false]
abbrev m37_ : Array Bool:=#[true,true,false,false,false,false,false,false,false]
abbrev m38_ : Array Bool:=#[true,true,true,false,true,false,false,false,false]
abbrev m39_ : Array Bool:=#[true,true,true,false,true,true,false,false,false]
theorem _root_.Go.Proofs.YtdepnaelaoakaaaW.PrintWords.Aside0.o {p : Prop} (h : Go.Proofs.YtdepnaelaoakaaaW.PrintWords.Aside0 p) : p:=h.out
abbrev Qa := @Aside0.mk
abbrev Qb := @blk_cell
abbrev Qc := @blk_frozen
abbrev Qd := @blk_below
abbrev Qe := @blk_alloc
abbrev Qf := @blk_drewN
abbrev Qg := @blk_far
abbrev Qh := @blk_put
abbrev Qi := @pw_below_drewN
abbrev Qj := @below_drew1
abbrev Qk := @below_alloc
abbrev Ql := @below_set
abbrev Qm := @below_step
abbrev Qn := @below_size
abbrev Qo := @Kd.C_below
abbrev Qp := @Kd.C_alloc
abbrev Qq := @Kd.C_drewN
abbrev Qr := @Kd.C_drew
abbrev Qs := @Kd.R_mono
abbrev Qt := @Kd.R_reads'
abbrev Qu := @Kd.S_below
abbrev Qv := @Kd.S_mono
abbrev Qw := @Kd.S_reads'
abbrev Qx := @Kd.S_far
abbrev Qy := @Kd.R_types
abbrev Qz := @Kd.S_types
abbrev QA := @Kd.R_alloc
abbrev QB := @Kd.S_alloc
abbrev QC := @Kd.R_drewN
theorem QD {α β : Type} {o : Option α} {f : α → Option β} {b : β} (h : o.bind f = some b) : ∃ a, o = some a ∧ f a = some b := Option.bind_eq_some_iff.mp h
abbrev QE := @of_decide_eq_true
abbrev QF := @decide_eq_true
abbrev QG := @decide_eq_false
abbrev QH := @List.setIfInBounds_toArray
abbrev QI := @List.set_cons_zero
abbrev QJ := @List.set_cons_succ
abbrev QK := @Option.some.inj
theorem QL {a : Bool} (h : a ≠ true) : a = false := Bool.eq_false_iff.mpr h
abbrev QM := @World.drewN_drewN
abbrev QN := @Kd.S_keep
abbrev QO := @Kd.V_reads'
abbrev QP := @Kd.V_below
abbrev QQ := @Nat.le_refl
abbrev QR := @Nat.lt_of_lt_of_le
end Go.Proofs.Ytdepnaelaoakaaa.PFnGroups
