-- Written by a program of this session over the print of the kit (wip/t/patch_print.py).
import Derived.Test.YtfjboeeogjepeaaProg
import Derived.Below
import Derived.Deep.Draws
import Derived.Deep.AppendLies
import Derived.Maps.AppendAt
import Derived.OwnWalk
import Derived.Laws.BytesArg
import Derived.Laws.MakeOwn
import Derived.Laws.OwnMore
import Derived.Deep.OwnRows
import Derived.Tactics
import Derived.Lib.ConvBytes
import Derived.Laws.Slices
import Derived.WalkKit
import Derived.KernelRfl
import Derived.RowKit3
import Derived.Deep.LoopGhost
import Derived.Deep.QuietTactic
import Derived.BigQuiet
import Derived.WideLaws
import Derived.Deep.DeepCutAuto
import Derived.Deep.CutBlock
import Derived.Deep.RegionHeld3
import Derived.Laws.Rows
import Derived.Lib.AppendStr
import Derived.ArgAppend
import Derived.Laws.IdiomCopy
import Derived.OrdersHeld
import Derived.Laws.BitsLemmas
import Derived.RowKit
import Derived.Lib.AppendZerosOnto
import Derived.Laws.Externs
import Derived.Deep.RegionLaw
import Derived.Test.YtfjboeeogjepeaaWWords
import Derived.Test.YtfjboeeogjepeaaWLast
import Derived.Test.YtfjboeeogjepeaaWTab
import Derived.Test.YtfjboeeogjepeaaWFour
import Derived.Test.YtfjboeeogjepeaaWQPut
import Derived.Test.YtfjboeeogjepeaaWApart
import Derived.Test.YtfjboeeogjepeaaWArr
import Derived.Test.YtfjboeeogjepeaaWZeros
import Derived.Test.YtfjboeeogjepeaaWFoot
import Derived.Test.YtfjboeeogjepeaaWKept
import Derived.Test.YtfjboeeogjepeaaWShare
import Derived.Test.YtfjboeeogjepeaaWN
import Derived.Test.YtfjboeeogjepeaaWFootNe
import Derived.Test.YtfjboeeogjepeaaWAt
import Derived.Test.YtfjboeeogjepeaaWEqStruct
import Derived.Test.YtfjboeeogjepeaaWRepsOne
import Derived.Test.YtfjboeeogjepeaaWInv
import Derived.Test.YtfjboeeogjepeaaWInvWords
import Derived.Test.YtfjboeeogjepeaaWGuard
import Derived.Test.YtfjboeeogjepeaaWNEv
import Derived.Test.YtfjboeeogjepeaaWMore
namespace Go.Proofs.Ytfjboeeogjepeaa.PFnExactPlanOf
open Go.RowKit Go.Proofs.YtfjboeeogjepeaaW.PrintWords Go.Proofs.YtfjboeeogjepeaaW.PrintLast Go.Proofs.YtfjboeeogjepeaaW.PrintMore
attribute [local go_sem] max2_int min2_int max_two min_two max_three min_three max_four min_four   -- for this text's walks alone
set_option linter.unusedVariables false
set_option linter.unusedSimpArgs false

def errW : Option Int → Value
 | none=>.nilIface
 | some c=>.iface 0 (.int .i64 c)
theorem errW_none : errW none = .nilIface:=rfl
theorem errW_some (c : Int) : errW (some c) = .iface 0 (.int .i64 c):=rfl

open Classical in
/-- append(v, u...) of rows whose elements' rows are apart: u's blocks (okp) are none of v's. -/
theorem S_append_rows {α : Type} (d : Kd α) {P : Program} {ops : Array Oper} {rest : List Oper} {o : Oper} {a : Act} {Q : Exit → Act → World → Prop} {w0 W : World} (base : Nat) (hgd : o.guard = none) (s x : Operand) (t e : TypeId) (z : Value) (bytes : Nat)
  (ho : o.op = .call { callee:=.builtin .append,args:=#[s,x],argTypes:=#[t,t] })
  (ht : P.underlying t = some (.slice e)) (hinfo : (P.info? e).map (fun i=>(i.zero,i.size,i.bytes)) = some (some z,d.sz,bytes)) (hz : z.cells.size = d.sz) (hs0 : 0 < d.sz) (hb0 : 0 < bytes)
  (v u : Value) (xs ys : List α) (ok okp : Nat → Prop) (hs : a.eval s = v) (hx : a.eval x = u)
  (HO : Kd.S d e W base (fun k=>ok k∧¬ okp k) v xs) (HU : Kd.S d e W base okp u ys) (hokp : ∀ k,okp k → ok k∧some k ≠ v.ownBlock) (hfresh : ∀ k,W.heap.size ≤ k → ok k)
  (HB : Below base w0 W) (hbase : base ≤ W.heap.size) (hl : (xs.length + ys.length) * bytes ≤ 140737488355328)
  (h : ∀ v1 w1,Kd.S d e w1 base ok v1 (xs ++ ys) → Below base w0 w1 → W.grownBy w1 v.ownBlock → (v1.ownBlock = v.ownBlock ∨ ∃ b,v1.ownBlock = some b∧W.heap.size ≤ b) → wpList P ops Q rest (a.put o.dst v1) w1) :
  wpList P ops Q (o :: rest) a W:=by
 obtain ⟨f1,h1⟩:=HO
 obtain ⟨f2,h2⟩:=HU
 have hf1 : ∀ k,¬ okp k → (fun k=>if okp k then xs.length + f2 k else f1 k) k = f1 k:=fun k hk=>if_neg hk
 have hf2 : ∀ k,okp k → (fun k=>if okp k then xs.length + f2 k else f1 k) k = xs.length + f2 k:=fun k hk=>if_pos hk
 generalize (fun k=>if okp k then xs.length + f2 k else f1 k) = f at hf1 hf2
 have hR : (Kd.tag f d).R e W base (fun k=>ok k∧¬ okp k) v xs.zipIdx:=Kd.R_tag h1 (fun k hk _=>hf1 k hk.2)
 obtain ⟨A,c,hu,hle,hrow⟩:=OwnRow.reads h2.2
 have hn : ys.zipIdx.length = ys.length:=List.length_zipIdx
 rw [hn] at hu hle hrow
 have hrow2 : ReadsRow (fun (p : α × Nat) cs=>(Kd.tag f d).M W base okp p cs) d.sz W A ys.length (ys.zipIdx xs.length):=by
  refine ⟨List.length_zipIdx,hrow.2.1,fun hp=>?_⟩
  obtain ⟨ad,ea,hc⟩:=hrow.2.2 hp
  refine ⟨ad,ea,fun j p hj=>?_⟩
  rw [List.getElem?_zipIdx] at hj
  obtain ⟨y,hy,rfl⟩:=Option.map_eq_some_iff.1 hj
  obtain ⟨cs,h3,h4,h5⟩:=hc j (y,j) (by rw [List.getElem?_zipIdx,hy];simp)
  exact ⟨cs,h3,d.M_mono (fun k hk=>⟨hk.1.1,(hf2 k hk.1.1).trans (by rw [hk.2])⟩) h4,h5⟩
 refine Kd.R_append_rows (Kd.tag f d) base hgd s x t e z bytes ho ht hinfo hz hs0 hb0 v xs.zipIdx (ys.zipIdx xs.length) A ys.length c ok okp hs (hx.trans hu) (Kd.R_mono hR (fun _ hk=>hk.1)) hrow2 (fun _ _ h=>h) hokp hfresh HB hbase (by rw [List.length_zipIdx];exact hl) ?_
 intro v1 w1 hr
 have hz2 : xs.zipIdx ++ ys.zipIdx xs.length = (xs ++ ys).zipIdx:=by rw [List.zipIdx_append,Nat.zero_add]
 rw [hz2] at hr
 exact h v1 w1 ⟨f,hr⟩

/-- The blocks that a row of rows may have: ok, made here, of its types. -/
def SB_ {α : Type} (d : Kd α) (e : Nat) (W : World) (base : Nat) (ok : Nat → Prop) (k : Nat) : Prop:=ok k∧base ≤ k∧k < W.heap.size∧∃ q,q ∈ e :: d.E∧∃ cells,W.heap[k]? = some (.cells cells q (0,0))
theorem SB_own {α : Type} {d : Kd α} {e : Nat} {W : World} {base : Nat} {ok : Nat → Prop} {v : Value} {xs : List α} (h : Kd.S d e W base ok v xs) : Kd.S d e W base (SB_ d e W base ok) v xs:=Kd.S_bound h
theorem R_apartSB {α β : Type} {d : Kd α} {d' : Kd β} {e e' : Nat} {W : World} {base base' : Nat} {ok ok' : Nat → Prop} {v : Value} {xs : List α} (h : Kd.R d e W base ok v xs) (ht : ∀ q,q ∈ e :: d.E → ∀ q',q' ∈ e' :: d'.E → q ≠ q') : Kd.R d e W base (fun k=>ok k∧¬ SB_ d' e' W base' ok' k) v xs :=
 Kd.R_mono (Kd.R_bound h) (fun k hk=>⟨hk.1,fun hs=>by
  obtain ⟨_,_,_,q,hq,cells,hc⟩:=hk
  obtain ⟨_,_,_,q',hq',cells',hc'⟩:=hs
  rw [hc] at hc'
  injection hc' with hc'
  injection hc' with _ hc'
  exact ht q hq q' hq' hc'⟩)
theorem R_apartSBo {α β : Type} {d : Kd α} {d' : Kd β} {e e' : Nat} {W : World} {base base' : Nat} {ok ok' : Nat → Prop} {v : Value} {xs : List α} (hE : d.E = []) (h : Kd.R d e W base ok v xs) (hn : ∀ k,ok' k → some k ≠ v.ownBlock) : Kd.R d e W base (fun k=>ok k∧¬ SB_ d' e' W base' ok' k) v xs :=
 Kd.R_mono (Kd.R_tight hE h) (fun k hk=>⟨h.1 k hk.symm,fun hs=>hn k hs.1 hk⟩)
theorem S_apartSBn {α β : Type} {d : Kd α} {d' : Kd β} {e e' : Nat} {W : World} {base base' : Nat} {ok ok' : Nat → Prop} {v : Value} {xs : List α} (h : Kd.S d e W base ok v xs) (hn : ∀ k,ok k → ¬ ok' k) : Kd.S d e W base (fun k=>ok k∧¬ SB_ d' e' W base' ok' k) v xs :=
 Kd.S_mono h (fun k hk=>⟨hk,fun hs=>hn k hk hs.1⟩)
theorem blk_SB {α : Type} {d : Kd α} {e : Nat} {W : World} {base : Nat} {ok : Nat → Prop} {g t : Nat} {cs : Array Value} (hb : W.heap[g]? = some (.cells cs t (0,0))) (ht : ∀ q,q ∈ e :: d.E → q ≠ t) : ¬ SB_ d e W base ok g:=fun hs=>by
 obtain ⟨_,_,_,q,hq,cells,hc⟩:=hs
 rw [hb] at hc
 injection hc with hc
 injection hc with _ hc
 exact ht q hq hc.symm
theorem SB_ne_row {α : Type} {d : Kd α} {e : Nat} {W : World} {base : Nat} {ok : Nat → Prop} {v : Value} {k t : Nat} (hs : SB_ d e W base ok k) (hv : ∀ g,v.ownBlock = some g → ∃ cells,W.heap[g]? = some (.cells cells t (0,0))) (ht : ∀ q,q ∈ e :: d.E → q ≠ t) : some k ≠ v.ownBlock:=fun e_=>by
 obtain ⟨cells,hc⟩:=hv k e_.symm
 exact blk_SB hc ht hs

theorem gate_calleev {P : Program} {ops : Array Oper} {rest : List Oper} {o : Oper} {a : Act} {W : World} {Q : Exit → Act → World → Prop} {c : Operand} {as_ : Array Operand} {ts : Array TypeId} (_ho : o.op = .call { callee:=.value c,args:=as_,argTypes:=ts }) (h : wpList P ops Q (o :: rest) a W) : wpList P ops Q (o :: rest) a W:=h
/-- A call of a function that a place holds. -/
theorem goesLv_ {P : Program} {ops : Array Oper} {Q : Exit → Act → World → Prop} {rest : List Oper} {oi : Oper} {a : Act} {w : World} (N : Option Tmp) (hd : oi.dst = N) (hg : oi.guard = none) {f : FuncId} {fn : Func} {c : Operand} {as_ : Array Operand} {ts : Array TypeId} (hf : P.funcs[f]? = some fn) (hname : (fn.name == "runtime.NumGoroutine") = false) (hb : fn.body.isSome = true) (args : Array Value)
  (hop : oi.op = .call { callee:=.value c,args:=as_,argTypes:=ts }) (hc : a.eval c = .func (.func f) #[] #[]) (hargs : as_.map a.eval = args)
  (h : Calls P f args w fun e w'=>∃ v,e = .returned v∧wpList P ops Q rest (a.put N v) w') : wpList P ops Q (oi :: rest) a w:=by
 refine wpList_plain hg fun K hK=>?_
 have he:=enters_ hf hname hb args w
 have hrun : (execOp a.eval oi).run P w = .ok (.enter f args) w:=by
  unfold execOp
  simp [hop,resolve,hc,Deferred.ofValue,invoke,hargs,he]
 unfold Oper.wp
 rw [hrun,Oper.upon_enter]
 refine h.mono fun e w'' hh=>?_
 obtain ⟨v,rfl,hk⟩:=hh
 subst hd
 exact hK _ _ hk

theorem info5 : (Try.prog.info? 5).map (fun i=>(i.zero,i.size,i.bytes)) = some (some (.int .u8 0),1,1):=by kernel_rfl
theorem info24 : (Try.prog.info? 24).map (fun i=>(i.zero,i.size,i.bytes)) = some (some (.slice none 0 0),1,24):=by kernel_rfl
theorem info59 : (Try.prog.info? 59).map (fun i=>(i.zero,i.size,i.bytes)) = some (some (.agg #[(.int .i64 0),(.slice none 0 0)]),2,32):=by kernel_rfl
-- the values' own types
def rd_L2 (xs : List (List Int)) (i : Int) : (List Int):=xs.getD i.toNat ([] : List Int)
theorem at_L2 {w : World} {A : Option Addr} {n : Nat} {xs : List (List Int)} (h : Kd.C (Kd.slice 5 (Kd.int .u8)) w A n xs) (i : Int) (h0 : 0 ≤ i) (h1 : i < n) : ∃ ad A0 c0,A = some ad∧w.cell? (ad.add i.toNat) = some (.slice A0 (rd_L2 xs i).length c0)∧(rd_L2 xs i).length ≤ c0∧(Kd.int .u8).C w A0 (rd_L2 xs i).length (rd_L2 xs i):=by
 obtain ⟨ad,c,e,_,hK,hc0⟩:=Kd.C_get h ([] : List Int) i h0 h1
 have hc : ∀ j u,c[j]? = some u → w.cell? (ad.add (i.toNat * 1 + j)) = some u:=hc0
 obtain ⟨A0,c0,rfl,l0,g0⟩:=hK
 exact ⟨ad,A0,c0,e,by have hq:=hc 0 _ rfl;rwa [Nat.mul_one,Nat.add_zero] at hq,l0,g0⟩

/-! #### struct type 61 -/
structure S61 where
 f0 : Int
 f1 : (List Int)
def z61 : S61:=⟨(0 : Int),([] : List Int)⟩
def k61 : Kd S61:=Kd.iso (Kd.pair (Kd.int .i64) (Kd.slice 5 (Kd.int .u8))) (fun x : S61=>(x.f0,x.f1))
theorem k61_open {w : World} {x : S61} {cs : List Value} (h : k61.K w x cs) : ∃ A1 c1,cs = [.int .i64 x.f0,.slice A1 x.f1.length c1]∧x.f1.length ≤ c1∧(Kd.int .u8).C w A1 x.f1.length x.f1:=by
 obtain ⟨_,_,rfl,rfl,⟨A1,c1,rfl,l1,g1⟩⟩:=h
 exact ⟨A1,c1,rfl,l1,g1⟩
theorem k61_openM {w : World} {base : Nat} {ok : Nat → Prop} {x : S61} {cs : List Value} (h : k61.M w base ok x cs) : ∃ v1,cs = [.int .i64 x.f0,v1]∧(Kd.int .u8).R 5 w base ok v1 x.f1:=by
 obtain ⟨_,_,rfl,rfl,⟨v1,rfl,g1⟩⟩:=h
 exact ⟨v1,rfl,g1⟩
theorem k61_mk (w : World) (x : S61) {A1 : Option Addr} {c1 : Nat} (l1 : x.f1.length ≤ c1) (g1 : (Kd.int .u8).C w A1 x.f1.length x.f1) : k61.K w x [.int .i64 x.f0,.slice A1 x.f1.length c1]:=⟨[.int .i64 x.f0],[.slice A1 x.f1.length c1],rfl,rfl,⟨A1,c1,rfl,l1,g1⟩⟩
theorem k61_mkM (w : World) (base : Nat) (ok : Nat → Prop) (x : S61) {v1 : Value} (g1 : (Kd.int .u8).R 5 w base ok v1 x.f1) : k61.M w base ok x [.int .i64 x.f0,v1]:=⟨[.int .i64 x.f0],[v1],rfl,rfl,⟨v1,rfl,g1⟩⟩
def rd_T61 (xs : List S61) (i : Int) : S61:=xs.getD i.toNat z61
theorem at_T61 {w : World} {A : Option Addr} {n : Nat} {xs : List S61} (h : Kd.C k61 w A n xs) (i : Int) (h0 : 0 ≤ i) (h1 : i < n) : ∃ ad A1 c1,A = some ad∧w.cell? (ad.add (i.toNat * 2)) = some (.int .i64 (rd_T61 xs i).f0)∧w.cell? ⟨(ad.add (i.toNat * 2)).block,(ad.add (i.toNat * 2)).off + 1,none⟩ = some (.slice A1 (rd_T61 xs i).f1.length c1)∧(rd_T61 xs i).f1.length ≤ c1∧(Kd.int .u8).C w A1 (rd_T61 xs i).f1.length (rd_T61 xs i).f1:=by
 obtain ⟨ad,c,e,_,hK,hc0⟩:=Kd.C_get h z61 i h0 h1
 have hc : ∀ j u,c[j]? = some u → w.cell? (ad.add (i.toNat * 2 + j)) = some u:=hc0
 obtain ⟨A1,c1,rfl,l1,g1⟩:=k61_open hK
 exact ⟨ad,A1,c1,e,hc 0 _ rfl,by rw [← add_field _ _ 1 (by omega)];exact hc 1 _ rfl,l1,g1⟩

/-! #### struct type 59 -/
structure S59 where
 f0 : Int
 f1 : (List Int)
def z59 : S59:=⟨(0 : Int),([] : List Int)⟩
def k59 : Kd S59:=Kd.iso (Kd.pair (Kd.int .i64) (Kd.slice 5 (Kd.int .u8))) (fun x : S59=>(x.f0,x.f1))
theorem k59_open {w : World} {x : S59} {cs : List Value} (h : k59.K w x cs) : ∃ A1 c1,cs = [.int .i64 x.f0,.slice A1 x.f1.length c1]∧x.f1.length ≤ c1∧(Kd.int .u8).C w A1 x.f1.length x.f1:=by
 obtain ⟨_,_,rfl,rfl,⟨A1,c1,rfl,l1,g1⟩⟩:=h
 exact ⟨A1,c1,rfl,l1,g1⟩
theorem k59_openM {w : World} {base : Nat} {ok : Nat → Prop} {x : S59} {cs : List Value} (h : k59.M w base ok x cs) : ∃ v1,cs = [.int .i64 x.f0,v1]∧(Kd.int .u8).R 5 w base ok v1 x.f1:=by
 obtain ⟨_,_,rfl,rfl,⟨v1,rfl,g1⟩⟩:=h
 exact ⟨v1,rfl,g1⟩
theorem k59_mk (w : World) (x : S59) {A1 : Option Addr} {c1 : Nat} (l1 : x.f1.length ≤ c1) (g1 : (Kd.int .u8).C w A1 x.f1.length x.f1) : k59.K w x [.int .i64 x.f0,.slice A1 x.f1.length c1]:=⟨[.int .i64 x.f0],[.slice A1 x.f1.length c1],rfl,rfl,⟨A1,c1,rfl,l1,g1⟩⟩
theorem k59_mkM (w : World) (base : Nat) (ok : Nat → Prop) (x : S59) {v1 : Value} (g1 : (Kd.int .u8).R 5 w base ok v1 x.f1) : k59.M w base ok x [.int .i64 x.f0,v1]:=⟨[.int .i64 x.f0],[v1],rfl,rfl,⟨v1,rfl,g1⟩⟩
def rd_T59 (xs : List S59) (i : Int) : S59:=xs.getD i.toNat z59
theorem at_T59 {w : World} {A : Option Addr} {n : Nat} {xs : List S59} (h : Kd.C k59 w A n xs) (i : Int) (h0 : 0 ≤ i) (h1 : i < n) : ∃ ad A1 c1,A = some ad∧w.cell? (ad.add (i.toNat * 2)) = some (.int .i64 (rd_T59 xs i).f0)∧w.cell? ⟨(ad.add (i.toNat * 2)).block,(ad.add (i.toNat * 2)).off + 1,none⟩ = some (.slice A1 (rd_T59 xs i).f1.length c1)∧(rd_T59 xs i).f1.length ≤ c1∧(Kd.int .u8).C w A1 (rd_T59 xs i).f1.length (rd_T59 xs i).f1:=by
 obtain ⟨ad,c,e,_,hK,hc0⟩:=Kd.C_get h z59 i h0 h1
 have hc : ∀ j u,c[j]? = some u → w.cell? (ad.add (i.toNat * 2 + j)) = some u:=hc0
 obtain ⟨A1,c1,rfl,l1,g1⟩:=k59_open hK
 exact ⟨ad,A1,c1,e,hc 0 _ rfl,by rw [← add_field _ _ 1 (by omega)];exact hc 1 _ rfl,l1,g1⟩

def rd_L5 (xs : List (List S59)) (i : Int) : (List S59):=xs.getD i.toNat ([] : List S59)
theorem at_L5 {w : World} {A : Option Addr} {n : Nat} {xs : List (List S59)} (h : Kd.C (Kd.slice 59 k59) w A n xs) (i : Int) (h0 : 0 ≤ i) (h1 : i < n) : ∃ ad A0 c0,A = some ad∧w.cell? (ad.add i.toNat) = some (.slice A0 (rd_L5 xs i).length c0)∧(rd_L5 xs i).length ≤ c0∧k59.C w A0 (rd_L5 xs i).length (rd_L5 xs i):=by
 obtain ⟨ad,c,e,_,hK,hc0⟩:=Kd.C_get h ([] : List S59) i h0 h1
 have hc : ∀ j u,c[j]? = some u → w.cell? (ad.add (i.toNat * 1 + j)) = some u:=hc0
 obtain ⟨A0,c0,rfl,l0,g0⟩:=hK
 exact ⟨ad,A0,c0,e,by have hq:=hc 0 _ rfl;rwa [Nat.mul_one,Nat.add_zero] at hq,l0,g0⟩

def rd_L6 (xs : List (List (List Int))) (i : Int) : (List (List Int)):=xs.getD i.toNat ([] : List (List Int))
theorem at_L6 {w : World} {A : Option Addr} {n : Nat} {xs : List (List (List Int))} (h : Kd.C (Kd.slice 24 (Kd.slice 5 (Kd.int .u8))) w A n xs) (i : Int) (h0 : 0 ≤ i) (h1 : i < n) : ∃ ad A0 c0,A = some ad∧w.cell? (ad.add i.toNat) = some (.slice A0 (rd_L6 xs i).length c0)∧(rd_L6 xs i).length ≤ c0∧(Kd.slice 5 (Kd.int .u8)).C w A0 (rd_L6 xs i).length (rd_L6 xs i):=by
 obtain ⟨ad,c,e,_,hK,hc0⟩:=Kd.C_get h ([] : List (List Int)) i h0 h1
 have hc : ∀ j u,c[j]? = some u → w.cell? (ad.add (i.toNat * 1 + j)) = some u:=hc0
 obtain ⟨A0,c0,rfl,l0,g0⟩:=hK
 exact ⟨ad,A0,c0,e,by have hq:=hc 0 _ rfl;rwa [Nat.mul_one,Nat.add_zero] at hq,l0,g0⟩

end Go.Proofs.Ytfjboeeogjepeaa.PFnExactPlanOf
