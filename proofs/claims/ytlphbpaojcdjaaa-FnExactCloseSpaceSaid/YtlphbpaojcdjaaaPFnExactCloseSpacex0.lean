-- Written by a program of this session over the print of the kit (wip/t/patch_print.py).
import Derived.Test.YtlphbpaojcdjaaaProg
import Derived.Below
import Derived.Deep.Draws
import Derived.Deep.AppendLies
import Derived.Maps.AppendAt
import Derived.OwnWalk
import Derived.Laws.BytesArg
import Derived.Laws.MakeOwn
import Derived.Laws.OwnMore
import Derived.Deep.OwnRows
import Derived.Tactics
import Derived.Lib.ConvBytes
import Derived.Laws.Slices
import Derived.WalkKit
import Derived.KernelRfl
import Derived.RowKit3
import Derived.Deep.LoopGhost
import Derived.Deep.QuietTactic
import Derived.BigQuiet
import Derived.WideLaws
import Derived.Deep.DeepCutAuto
import Derived.Deep.CutBlock
import Derived.Deep.RegionHeld3
import Derived.Laws.Rows
import Derived.Lib.AppendStr
import Derived.ArgAppend
import Derived.Laws.IdiomCopy
import Derived.OrdersHeld
import Derived.Laws.BitsLemmas
import Derived.RowKit
import Derived.Lib.AppendZerosOnto
import Derived.Laws.Externs
import Derived.Deep.RegionLaw
import Derived.Test.YtlphbpaojcdjaaaWWords
import Derived.Test.YtlphbpaojcdjaaaWLast
import Derived.Test.YtlphbpaojcdjaaaWTab
import Derived.Test.YtlphbpaojcdjaaaWFour
import Derived.Test.YtlphbpaojcdjaaaWQPut
import Derived.Test.YtlphbpaojcdjaaaWApart
import Derived.Test.YtlphbpaojcdjaaaWArr
import Derived.Test.YtlphbpaojcdjaaaWZeros
import Derived.Test.YtlphbpaojcdjaaaWFoot
import Derived.Test.YtlphbpaojcdjaaaWKept
import Derived.Test.YtlphbpaojcdjaaaWShare
import Derived.Test.YtlphbpaojcdjaaaWN
import Derived.Test.YtlphbpaojcdjaaaWFootNe
import Derived.Test.YtlphbpaojcdjaaaWAt
import Derived.Test.YtlphbpaojcdjaaaWEqStruct
import Derived.Test.YtlphbpaojcdjaaaWRepsOne
import Derived.Test.YtlphbpaojcdjaaaWInv
import Derived.Test.YtlphbpaojcdjaaaWInvWords
import Derived.Test.YtlphbpaojcdjaaaWGuard
import Derived.Test.YtlphbpaojcdjaaaWNEv
import Derived.Test.YtlphbpaojcdjaaaWMore
namespace Go.Proofs.Ytlphbpaojcdjaaa.PFnExactCloseSpace
open Go.RowKit Go.Proofs.YtlphbpaojcdjaaaW.PrintWords Go.Proofs.YtlphbpaojcdjaaaW.PrintLast Go.Proofs.YtlphbpaojcdjaaaW.PrintMore
attribute [local go_sem] max2_int min2_int max_two min_two max_three min_three max_four min_four   -- for this text's walks alone
set_option linter.unusedVariables false
set_option linter.unusedSimpArgs false

def errW : Option Int → Value
 | none=>.nilIface
 | some c=>.iface 0 (.int .i64 c)
theorem errW_none : errW none = .nilIface:=rfl
theorem errW_some (c : Int) : errW (some c) = .iface 0 (.int .i64 c):=rfl

/-- copy(x, y): what x holds behind it. -/
def cpL {α : Type} (xs ys : List α) : List α:=ys.take xs.length ++ xs.drop ys.length
theorem cpL_length {α : Type} (xs ys : List α) : (cpL xs ys).length = xs.length:=by unfold cpL;rw [List.length_append,List.length_take,List.length_drop];omega
section
variable {α : Type} {enc : α → Value} {h1 : ∀ x,(enc x).oneCell' = true} {P : Program} {ops : Array Oper} {rest : List Oper} {o : Oper} {a : Act} {Q : Exit → Act → World → Prop}
theorem R_copyin {w0 W : World} (base : Nat) (hgd : o.guard = none) (d s : Operand) (t t' e : TypeId) (ho : o.op = .call { callee:=.builtin .copy,args:=#[d,s],argTypes:=#[t,t'] })
  (ht : P.underlying t = some (.slice e)) (hsz : (P.info? e).map (·.size) = some 1) (z : α) (A0 : Option Addr) (n0 c0 : Nat) (xs ys : List α) (A : Option Addr) (m c : Nat) (ok : Nat → Prop) (hd : a.eval d = .slice A0 n0 c0) (hs : a.eval s = .slice A m c)
  (HO : (Kd.scalar enc h1).R e W base ok (.slice A0 n0 c0) xs) (HR : (Kd.scalar enc h1).C W A m ys) (HB : Below base w0 W) (hbase : base ≤ W.heap.size)
  (h : ∀ w1 q,(Kd.scalar enc h1).R e w1 base ok (.slice A0 n0 c0) (cpL xs ys) → Below base w0 w1 → W.grownBy w1 (Value.slice A0 n0 c0).ownBlock → wpList P ops Q rest (a.put o.dst (goInt q)) w1) :
  wpList P ops Q (o :: rest) a W:=by
 have hn0 : xs.length = n0:=(Kd.R_reads' HO).1.symm
 have HR2:=Kd.reads_of_C (d:=z) HR
 obtain ⟨hm,_,hC⟩:=HR2
 have run : ∀ {v' w'},(Builtin.copy_ #[t,t'] o.type #[.slice A0 n0 c0,.slice A m c]).run P W = .ok v' w' → wpList P ops Q rest (a.put o.dst v') w' → wpList P ops Q (o :: rest) a W:=fun {v' w'} hr hh =>
  wpList_plain hgd fun _ hK=>by
   unfold Oper.wp execOp
   simp only [ho,resolve,invoke,builtin,Sem.run_bind,Sem.run_pure,Result.andThen_ok,List.map_toArray,List.map_cons,List.map_nil,hd,hs,hr]
   exact hK _ _ hh
 by_cases h0 : xs.length = 0 ∨ ys.length = 0
 ·have hmin : Nat.min m n0 = 0:=by rw [← hm,← hn0];show min ys.length xs.length = 0;omega
  have he : cpL xs ys = xs:=by
   unfold cpL
   rcases h0 with h0|h0
   ·rw [List.length_eq_zero_iff.1 h0];simp
   ·rw [List.length_eq_zero_iff.1 h0];simp
  refine run (run_copy_none W t t' o.type e A0 A n0 c0 m c ht hsz hmin) (h W _ (by rw [he];exact HO) HB ⟨rfl,rfl,rfl,Nat.le_refl _,fun _ _ _=>rfl⟩)
 ·have hok:=HO.1
  obtain ⟨hol,hoc⟩:=Kd.own_of_R HO
  rcases hoc with ⟨he,hnil⟩|⟨g,cap,cur,he,hg,hh,hcap,hmax,hcs,hcur⟩
  ·omega
  ·injection he with ea en ec
   subst ea en ec
   rw [Nat.mul_one] at hcs hcur
   obtain ⟨ad,rfl,had⟩:=hC (by omega)
   have hlt : (encs enc (ys.take xs.length)).length = Nat.min m xs.length:=by rw [encs_length,List.length_take,← hm];show min xs.length ys.length = min ys.length xs.length;omega
   have hl2 : Nat.min m xs.length ≤ xs.length:=Nat.min_le_right _ _
   have hsrc : ∀ j v,(encs enc (ys.take xs.length))[j]? = some v → W.cell? (ad.add j) = some v:=fun j v hj=>by
    have hj1 : j < min xs.length ys.length:=by
     rcases Nat.lt_or_ge j (min xs.length ys.length) with h|h
     ·exact h
     ·rw [List.getElem?_eq_none (by rw [encs_length,List.length_take];exact h)] at hj;cases hj
    have hj2 : j < ys.length:=by omega
    have hj3 : j < xs.length:=by omega
    rw [had j (by omega),← hj,encs,List.getElem?_map,List.getElem?_take_of_lt hj3,List.getElem?_eq_getElem hj2,List.getD_eq_getElem?_getD,List.getElem?_eq_getElem hj2]
    rfl
   have hr:=run_copy_cells (P:=P) W t t' o.type e g 0 xs.length c0 ad m c (encs enc (ys.take xs.length)) ht hsz hlt hsrc
    (fun j hj=>by rw [Nat.zero_add,blk_cell hh j,Array.getElem?_eq_getElem (by omega)];rfl) (fun j hj=>blk_frozen hh _) (fun v hv=>by obtain ⟨x,_,rfl⟩:=List.mem_map.1 hv;exact h1 x)
   refine run hr (h _ _ ?_ ?_ ?_)
   ·obtain ⟨cur1,q1,q2,q3⟩:=setCells_row (encs enc (ys.take xs.length)) 0 W cur hh (by omega)
    refine Kd.R_of_own ⟨by rw [encs_length,Nat.mul_one],.inr ⟨g,c0,cur1,by rw [cpL_length],hg,q1,by rw [cpL_length];exact hcap,hmax,by omega,?_⟩⟩ hok
    rw [Nat.mul_one,q3,cpL_length,List.take_zero,List.nil_append,Nat.zero_add,encs_length]
    have hx : (encs enc xs).length = xs.length:=encs_length _
    have hk : (encs enc (ys.take xs.length)).length = (ys.take xs.length).length:=encs_length _
    have hky : (ys.take xs.length).length ≤ xs.length:=by rw [List.length_take];omega
    have hcl : cur.toList.length = cur.size:=Array.length_toList
    have hd2 : (cur.toList.drop (ys.take xs.length).length).take (xs.length - (ys.take xs.length).length) = (encs enc xs).drop (ys.take xs.length).length:=by
     rw [← hcur,List.drop_take]
    rw [List.take_append,hk,List.take_of_length_le (by rw [hk];exact hky),hd2]
    unfold cpL
    simp only [encs,List.map_append,List.map_drop]
    congr 1
    rw [List.length_take]
    rcases Nat.le_total ys.length xs.length with hle|hle
    ·rw [Nat.min_eq_right hle]
    ·rw [Nat.min_eq_left hle,List.drop_of_length_le (by simp),List.drop_of_length_le (by simp;omega)]
   ·obtain ⟨e1,e2,e3,e4⟩:=setCells_same g (encs enc (ys.take xs.length)) 0 W
    exact ⟨e1.trans HB.os,e2.trans HB.tape,e3.trans HB.output,by rw [e4];exact HB.size,fun j hj=>(setCells_far _ 0 j (by omega)).trans (HB.block j hj)⟩
   ·obtain ⟨e1,e2,e3,e4⟩:=setCells_same g (encs enc (ys.take xs.length)) 0 W
    exact ⟨e1,e2,e3,by rw [e4];exact Nat.le_refl _,fun k hk hn=>setCells_far _ 0 k (by rintro rfl;exact hn rfl)⟩
end
theorem R_copyint (k : IntKind) {P : Program} {ops : Array Oper} {rest : List Oper} {o : Oper} {a : Act} {Q : Exit → Act → World → Prop} {w0 W : World} (base : Nat) (hgd : o.guard = none) (d s : Operand) (t t' e : TypeId) {zv : Value} {b : Nat} (ho : o.op = .call { callee:=.builtin .copy,args:=#[d,s],argTypes:=#[t,t'] })
  (ht : P.underlying t = some (.slice e)) (hi : (P.info? e).map (fun i=>(i.zero,i.size,i.bytes)) = some (some zv,1,b)) (A0 : Option Addr) (n0 c0 : Nat) (xs ys : List Int) (A : Option Addr) (m c : Nat) (ok : Nat → Prop) (hd : a.eval d = .slice A0 n0 c0) (hs : a.eval s = .slice A m c)
  (HO : (Kd.int k).R e W base ok (.slice A0 n0 c0) xs) (HR : (Kd.int k).C W A m ys) (HB : Below base w0 W) (hbase : base ≤ W.heap.size)
  (h : ∀ w1 q,(Kd.int k).R e w1 base ok (.slice A0 n0 c0) (cpL xs ys) → Below base w0 w1 → W.grownBy w1 (Value.slice A0 n0 c0).ownBlock → wpList P ops Q rest (a.put o.dst (goInt q)) w1) :
  wpList P ops Q (o :: rest) a W :=
 R_copyin (h1:=fun _=>rfl) base hgd d s t t' e ho ht (by obtain ⟨i0,h1,_,h2,_⟩:=info_parts hi;rw [h1];simp [h2]) 0 A0 n0 c0 xs ys A m c ok hd hs HO HR HB hbase h

/-- A literal of two elements whose rows are the call's own, and apart. -/
theorem S_lit2 {α : Type} (d : Kd α) {P : Program} {ops : Array Oper} {rest : List Oper} {o : Oper} {a : Act} {Q : Exit → Act → World → Prop} {W : World} (base e : Nat) (hgd : o.guard = none) {N : Tmp} (_hd : o.dst = some N) {xs : List α} {inner : List Value} {x0 x1 : α} {c0 c1 : List Value} {ok ok0 ok1 : Nat → Prop}
  (hx : xs = [x0,x1]) (hi : inner = c0 ++ c1)
  (hrun : (execOp a.eval o).run P W = .ok (.value (.slice (some ⟨W.heap.size,0,none⟩) xs.length xs.length)) (W.alloc (.cells inner.toArray e)))
  (h0 : d.M W base ok0 x0 c0) (h1 : d.M W base ok1 x1 c1) (hs0 : c0.length = d.sz) (hs1 : c1.length = d.sz) (hap : ∀ k,ok0 k → ok1 k → False) (hok0 : ∀ k,ok0 k → ok k) (hok1 : ∀ k,ok1 k → ok k)
  (hfresh : ok W.heap.size) (hbase : base ≤ W.heap.size)
  (h : ∀ v1 w1,Kd.S d e w1 base ok v1 xs → Below W.heap.size W w1 → W.grownBy w1 none → (∃ b,v1.ownBlock = some b∧W.heap.size ≤ b) → wpList P ops Q rest (a.put o.dst v1) w1) : wpList P ops Q (o :: rest) a W:=by
 subst hx hi
 have hl : (c0 ++ c1).length = [x0,x1].length * d.sz:=by rw [List.length_append,hs0,hs1];show d.sz + d.sz = 2 * d.sz;omega
 obtain ⟨f,hr⟩:=Kd.reps_tag (d:=d) (w:=W) (base:=base) (ok:=ok) (xs:=[x0,x1]) (inner:=c0 ++ c1) (fun j k=>(j = 0∧ok0 k) ∨ (j = 1∧ok1 k))
  (by
   intro i j k hi hj
   rcases hi with ⟨rfl,hi⟩|⟨rfl,hi⟩ <;> rcases hj with ⟨rfl,hj⟩|⟨rfl,hj⟩
   ·rfl
   ·exact (hap k hi hj).elim
   ·exact (hap k hj hi).elim
   ·rfl)
  (by
   intro j k hj
   rcases hj with ⟨_,hj⟩|⟨_,hj⟩
   ·exact hok0 k hj
   ·exact hok1 k hj) hl
  (by
   intro j x hj
   match j,hj with
   | 0,hj =>
    have e1 : x0 = x:=by simpa using hj
    subst e1
    have e2 : ((c0 ++ c1).drop (0 * d.sz)).take d.sz = c0:=by rw [Nat.zero_mul,List.drop_zero,← hs0,List.take_left'];rfl
    rw [e2];exact d.M_mono (fun k hk=>.inl ⟨rfl,hk⟩) h0
   | 1,hj =>
    have e1 : x1 = x:=by simpa using hj
    subst e1
    have e2 : ((c0 ++ c1).drop (1 * d.sz)).take d.sz = c1:=by rw [Nat.one_mul,List.drop_left' hs0,← hs1,List.take_length]
    rw [e2];exact d.M_mono (fun k hk=>.inr ⟨rfl,hk⟩) h1
   | n + 2,hj=>simp at hj)
 have hlz : ([x0,x1] : List α).zipIdx.length = ([x0,x1] : List α).length:=List.length_zipIdx
 have hR : (Kd.tag f d).R e (W.alloc (.cells (c0 ++ c1).toArray e)) base ok (.slice (some ⟨W.heap.size,0,none⟩) ([x0,x1] : List α).length ([x0,x1] : List α).length) ([x0,x1] : List α).zipIdx:=by
  refine ⟨fun k hk=>?_,c0 ++ c1,?_,?_⟩
  ·have : W.heap.size = k:=by simpa [Value.ownBlock] using hk
   subst this
   exact hfresh
  ·have h2:=World.ownsRow_lit (base:=base) (e:=e) (size:=d.sz) W (c0 ++ c1).toArray ([x0,x1] : List α).length hbase (by simp [maxLen]) (by simpa using hl)
   rw [hlz]
   simpa [Kd.tag] using h2
  ·refine hr.imp_ (fun p c hp=>(Kd.tag f d).M_mono (fun k hk=>⟨hk.1,fun he=>?_⟩) (Kd.M_below ((Kd.tag f d).M_bound hp) (below_alloc (Below.refl _ _) _)))
   have h3 : k = W.heap.size:=by simpa [Value.ownBlock] using he
   have:=hk.2.2.1
   omega
 exact Kd.event_run hgd hrun (h _ _ ⟨f,hR⟩ ((Below.refl _ _).alloc (Nat.le_refl _) _) (World.grownBy_alloc W _ none) ⟨W.heap.size,by simp [Value.ownBlock],Nat.le_refl _⟩)

/-- The blocks that a row of rows may have: ok, made here, of its types. -/
def SB_ {α : Type} (d : Kd α) (e : Nat) (W : World) (base : Nat) (ok : Nat → Prop) (k : Nat) : Prop:=ok k∧base ≤ k∧k < W.heap.size∧∃ q,q ∈ e :: d.E∧∃ cells,W.heap[k]? = some (.cells cells q (0,0))
theorem SB_own {α : Type} {d : Kd α} {e : Nat} {W : World} {base : Nat} {ok : Nat → Prop} {v : Value} {xs : List α} (h : Kd.S d e W base ok v xs) : Kd.S d e W base (SB_ d e W base ok) v xs:=Kd.S_bound h
theorem R_apartSB {α β : Type} {d : Kd α} {d' : Kd β} {e e' : Nat} {W : World} {base base' : Nat} {ok ok' : Nat → Prop} {v : Value} {xs : List α} (h : Kd.R d e W base ok v xs) (ht : ∀ q,q ∈ e :: d.E → ∀ q',q' ∈ e' :: d'.E → q ≠ q') : Kd.R d e W base (fun k=>ok k∧¬ SB_ d' e' W base' ok' k) v xs :=
 Kd.R_mono (Kd.R_bound h) (fun k hk=>⟨hk.1,fun hs=>by
  obtain ⟨_,_,_,q,hq,cells,hc⟩:=hk
  obtain ⟨_,_,_,q',hq',cells',hc'⟩:=hs
  rw [hc] at hc'
  injection hc' with hc'
  injection hc' with _ hc'
  exact ht q hq q' hq' hc'⟩)
theorem R_apartSBo {α β : Type} {d : Kd α} {d' : Kd β} {e e' : Nat} {W : World} {base base' : Nat} {ok ok' : Nat → Prop} {v : Value} {xs : List α} (hE : d.E = []) (h : Kd.R d e W base ok v xs) (hn : ∀ k,ok' k → some k ≠ v.ownBlock) : Kd.R d e W base (fun k=>ok k∧¬ SB_ d' e' W base' ok' k) v xs :=
 Kd.R_mono (Kd.R_tight hE h) (fun k hk=>⟨h.1 k hk.symm,fun hs=>hn k hs.1 hk⟩)
theorem S_apartSBn {α β : Type} {d : Kd α} {d' : Kd β} {e e' : Nat} {W : World} {base base' : Nat} {ok ok' : Nat → Prop} {v : Value} {xs : List α} (h : Kd.S d e W base ok v xs) (hn : ∀ k,ok k → ¬ ok' k) : Kd.S d e W base (fun k=>ok k∧¬ SB_ d' e' W base' ok' k) v xs :=
 Kd.S_mono h (fun k hk=>⟨hk,fun hs=>hn k hk hs.1⟩)
theorem blk_SB {α : Type} {d : Kd α} {e : Nat} {W : World} {base : Nat} {ok : Nat → Prop} {g t : Nat} {cs : Array Value} (hb : W.heap[g]? = some (.cells cs t (0,0))) (ht : ∀ q,q ∈ e :: d.E → q ≠ t) : ¬ SB_ d e W base ok g:=fun hs=>by
 obtain ⟨_,_,_,q,hq,cells,hc⟩:=hs
 rw [hb] at hc
 injection hc with hc
 injection hc with _ hc
 exact ht q hq hc.symm
theorem SB_ne_row {α : Type} {d : Kd α} {e : Nat} {W : World} {base : Nat} {ok : Nat → Prop} {v : Value} {k t : Nat} (hs : SB_ d e W base ok k) (hv : ∀ g,v.ownBlock = some g → ∃ cells,W.heap[g]? = some (.cells cells t (0,0))) (ht : ∀ q,q ∈ e :: d.E → q ≠ t) : some k ≠ v.ownBlock:=fun e_=>by
 obtain ⟨cells,hc⟩:=hv k e_.symm
 exact blk_SB hc ht hs

theorem gate_calleev {P : Program} {ops : Array Oper} {rest : List Oper} {o : Oper} {a : Act} {W : World} {Q : Exit → Act → World → Prop} {c : Operand} {as_ : Array Operand} {ts : Array TypeId} (_ho : o.op = .call { callee:=.value c,args:=as_,argTypes:=ts }) (h : wpList P ops Q (o :: rest) a W) : wpList P ops Q (o :: rest) a W:=h
/-- A call of a function that a place holds. -/
theorem goesLv_ {P : Program} {ops : Array Oper} {Q : Exit → Act → World → Prop} {rest : List Oper} {oi : Oper} {a : Act} {w : World} (N : Option Tmp) (hd : oi.dst = N) (hg : oi.guard = none) {f : FuncId} {fn : Func} {c : Operand} {as_ : Array Operand} {ts : Array TypeId} (hf : P.funcs[f]? = some fn) (hname : (fn.name == "runtime.NumGoroutine") = false) (hb : fn.body.isSome = true) (args : Array Value)
  (hop : oi.op = .call { callee:=.value c,args:=as_,argTypes:=ts }) (hc : a.eval c = .func (.func f) #[] #[]) (hargs : as_.map a.eval = args)
  (h : Calls P f args w fun e w'=>∃ v,e = .returned v∧wpList P ops Q rest (a.put N v) w') : wpList P ops Q (oi :: rest) a w:=by
 refine wpList_plain hg fun K hK=>?_
 have he:=enters_ hf hname hb args w
 have hrun : (execOp a.eval oi).run P w = .ok (.enter f args) w:=by
  unfold execOp
  simp [hop,resolve,hc,Deferred.ofValue,invoke,hargs,he]
 unfold Oper.wp
 rw [hrun,Oper.upon_enter]
 refine h.mono fun e w'' hh=>?_
 obtain ⟨v,rfl,hk⟩:=hh
 subst hd
 exact hK _ _ hk

theorem info3 : (Try.prog.info? 3).map (fun i=>(i.zero,i.size,i.bytes)) = some (some (.int .i64 0),1,8):=by kernel_rfl
theorem info5 : (Try.prog.info? 5).map (fun i=>(i.zero,i.size,i.bytes)) = some (some (.int .u8 0),1,1):=by kernel_rfl
theorem info23 : (Try.prog.info? 23).map (fun i=>(i.zero,i.size,i.bytes)) = some (some (.slice none 0 0),1,24):=by kernel_rfl
theorem info24 : (Try.prog.info? 24).map (fun i=>(i.zero,i.size,i.bytes)) = some (some (.slice none 0 0),1,24):=by kernel_rfl
theorem info91 : (Try.prog.info? 91).map (fun i=>(i.zero,i.size,i.bytes)) = some (some (.agg #[(.int .i64 0),(.slice none 0 0)]),2,32):=by kernel_rfl
-- the values' own types
def rd_L1 (xs : List (List Int)) (i : Int) : (List Int):=xs.getD i.toNat ([] : List Int)
theorem at_L1 {w : World} {A : Option Addr} {n : Nat} {xs : List (List Int)} (h : Kd.C (Kd.slice 5 (Kd.int .u8)) w A n xs) (i : Int) (h0 : 0 ≤ i) (h1 : i < n) : ∃ ad A0 c0,A = some ad∧w.cell? (ad.add i.toNat) = some (.slice A0 (rd_L1 xs i).length c0)∧(rd_L1 xs i).length ≤ c0∧(Kd.int .u8).C w A0 (rd_L1 xs i).length (rd_L1 xs i):=by
 obtain ⟨ad,c,e,_,hK,hc0⟩:=Kd.C_get h ([] : List Int) i h0 h1
 have hc : ∀ j u,c[j]? = some u → w.cell? (ad.add (i.toNat * 1 + j)) = some u:=hc0
 obtain ⟨A0,c0,rfl,l0,g0⟩:=hK
 exact ⟨ad,A0,c0,e,by have hq:=hc 0 _ rfl;rwa [Nat.mul_one,Nat.add_zero] at hq,l0,g0⟩

def rd_L3 (xs : List (List (List Int))) (i : Int) : (List (List Int)):=xs.getD i.toNat ([] : List (List Int))
theorem at_L3 {w : World} {A : Option Addr} {n : Nat} {xs : List (List (List Int))} (h : Kd.C (Kd.slice 23 (Kd.slice 5 (Kd.int .u8))) w A n xs) (i : Int) (h0 : 0 ≤ i) (h1 : i < n) : ∃ ad A0 c0,A = some ad∧w.cell? (ad.add i.toNat) = some (.slice A0 (rd_L3 xs i).length c0)∧(rd_L3 xs i).length ≤ c0∧(Kd.slice 5 (Kd.int .u8)).C w A0 (rd_L3 xs i).length (rd_L3 xs i):=by
 obtain ⟨ad,c,e,_,hK,hc0⟩:=Kd.C_get h ([] : List (List Int)) i h0 h1
 have hc : ∀ j u,c[j]? = some u → w.cell? (ad.add (i.toNat * 1 + j)) = some u:=hc0
 obtain ⟨A0,c0,rfl,l0,g0⟩:=hK
 exact ⟨ad,A0,c0,e,by have hq:=hc 0 _ rfl;rwa [Nat.mul_one,Nat.add_zero] at hq,l0,g0⟩

def rd_L4 (xs : List (List Int)) (i : Int) : (List Int):=xs.getD i.toNat ([] : List Int)
theorem at_L4 {w : World} {A : Option Addr} {n : Nat} {xs : List (List Int)} (h : Kd.C (Kd.slice 3 (Kd.int .i64)) w A n xs) (i : Int) (h0 : 0 ≤ i) (h1 : i < n) : ∃ ad A0 c0,A = some ad∧w.cell? (ad.add i.toNat) = some (.slice A0 (rd_L4 xs i).length c0)∧(rd_L4 xs i).length ≤ c0∧(Kd.int .i64).C w A0 (rd_L4 xs i).length (rd_L4 xs i):=by
 obtain ⟨ad,c,e,_,hK,hc0⟩:=Kd.C_get h ([] : List Int) i h0 h1
 have hc : ∀ j u,c[j]? = some u → w.cell? (ad.add (i.toNat * 1 + j)) = some u:=hc0
 obtain ⟨A0,c0,rfl,l0,g0⟩:=hK
 exact ⟨ad,A0,c0,e,by have hq:=hc 0 _ rfl;rwa [Nat.mul_one,Nat.add_zero] at hq,l0,g0⟩

/-! #### struct type 91 -/
structure S91 where
 f0 : Int
 f1 : (List Int)
def z91 : S91:=⟨(0 : Int),([] : List Int)⟩
def k91 : Kd S91:=Kd.iso (Kd.pair (Kd.int .i64) (Kd.slice 5 (Kd.int .u8))) (fun x : S91=>(x.f0,x.f1))
theorem k91_heap : Kd.Heap k91:=Kd.heap_iso _ (Kd.heap_pair (Kd.heap_int .i64) (Kd.heap_slice 5 (Kd.heap_int .u8)))
theorem k91_open {w : World} {x : S91} {cs : List Value} (h : k91.K w x cs) : ∃ A1 c1,cs = [.int .i64 x.f0,.slice A1 x.f1.length c1]∧x.f1.length ≤ c1∧(Kd.int .u8).C w A1 x.f1.length x.f1:=by
 obtain ⟨_,_,rfl,rfl,⟨A1,c1,rfl,l1,g1⟩⟩:=h
 exact ⟨A1,c1,rfl,l1,g1⟩
theorem k91_openM {w : World} {base : Nat} {ok : Nat → Prop} {x : S91} {cs : List Value} (h : k91.M w base ok x cs) : ∃ v1,cs = [.int .i64 x.f0,v1]∧(Kd.int .u8).R 5 w base ok v1 x.f1:=by
 obtain ⟨_,_,rfl,rfl,⟨v1,rfl,g1⟩⟩:=h
 exact ⟨v1,rfl,g1⟩
theorem k91_mk (w : World) (x : S91) {A1 : Option Addr} {c1 : Nat} (l1 : x.f1.length ≤ c1) (g1 : (Kd.int .u8).C w A1 x.f1.length x.f1) : k91.K w x [.int .i64 x.f0,.slice A1 x.f1.length c1]:=⟨[.int .i64 x.f0],[.slice A1 x.f1.length c1],rfl,rfl,⟨A1,c1,rfl,l1,g1⟩⟩
theorem k91_mkM (w : World) (base : Nat) (ok : Nat → Prop) (x : S91) {v1 : Value} (g1 : (Kd.int .u8).R 5 w base ok v1 x.f1) : k91.M w base ok x [.int .i64 x.f0,v1]:=⟨[.int .i64 x.f0],[v1],rfl,rfl,⟨v1,rfl,g1⟩⟩
theorem k91_openF {W : World} {ok : Nat → Prop} {x : S91} {cs : List Value} (h : Kd.FK k91 W ok x cs) : ∃ A1 c1,cs = [.int .i64 x.f0,.slice A1 x.f1.length c1]∧x.f1.length ≤ c1∧Kd.F (Kd.int .u8) W ok A1 x.f1.length x.f1:=by
 obtain ⟨A1,c1,rfl,l1,_⟩:=k91_open (Kd.FK_now h)
 exact ⟨A1,c1,rfl,l1,(fun W' hW=>by obtain ⟨A1_,c1_,he,l1_,g1_⟩:=k91_open (h W' hW);injection (Option.some.inj (show some (Value.slice A1 x.f1.length c1) = some (Value.slice A1_ x.f1.length c1_) from congrArg (fun l=>l[1]?) he)) with ha_ _ _;rw [ha_];exact g1_)⟩
theorem k91_mkF (W : World) (ok : Nat → Prop) (x : S91) {A1 : Option Addr} {c1 : Nat} (l1 : x.f1.length ≤ c1) (g1 : Kd.F (Kd.int .u8) W ok A1 x.f1.length x.f1) : Kd.FK k91 W ok x [.int .i64 x.f0,.slice A1 x.f1.length c1]:=fun W2 hW=>k91_mk W2 x l1 (g1 W2 hW)
def rd_T91 (xs : List S91) (i : Int) : S91:=xs.getD i.toNat z91
theorem at_T91 {w : World} {A : Option Addr} {n : Nat} {xs : List S91} (h : Kd.C k91 w A n xs) (i : Int) (h0 : 0 ≤ i) (h1 : i < n) : ∃ ad A1 c1,A = some ad∧w.cell? (ad.add (i.toNat * 2)) = some (.int .i64 (rd_T91 xs i).f0)∧w.cell? ⟨(ad.add (i.toNat * 2)).block,(ad.add (i.toNat * 2)).off + 1,none⟩ = some (.slice A1 (rd_T91 xs i).f1.length c1)∧(rd_T91 xs i).f1.length ≤ c1∧(Kd.int .u8).C w A1 (rd_T91 xs i).f1.length (rd_T91 xs i).f1:=by
 obtain ⟨ad,c,e,_,hK,hc0⟩:=Kd.C_get h z91 i h0 h1
 have hc : ∀ j u,c[j]? = some u → w.cell? (ad.add (i.toNat * 2 + j)) = some u:=hc0
 obtain ⟨A1,c1,rfl,l1,g1⟩:=k91_open hK
 exact ⟨ad,A1,c1,e,hc 0 _ rfl,by rw [← add_field _ _ 1 (by omega)];exact hc 1 _ rfl,l1,g1⟩

def rd_L6 (xs : List (List S91)) (i : Int) : (List S91):=xs.getD i.toNat ([] : List S91)
theorem at_L6 {w : World} {A : Option Addr} {n : Nat} {xs : List (List S91)} (h : Kd.C (Kd.slice 91 k91) w A n xs) (i : Int) (h0 : 0 ≤ i) (h1 : i < n) : ∃ ad A0 c0,A = some ad∧w.cell? (ad.add i.toNat) = some (.slice A0 (rd_L6 xs i).length c0)∧(rd_L6 xs i).length ≤ c0∧k91.C w A0 (rd_L6 xs i).length (rd_L6 xs i):=by
 obtain ⟨ad,c,e,_,hK,hc0⟩:=Kd.C_get h ([] : List S91) i h0 h1
 have hc : ∀ j u,c[j]? = some u → w.cell? (ad.add (i.toNat * 1 + j)) = some u:=hc0
 obtain ⟨A0,c0,rfl,l0,g0⟩:=hK
 exact ⟨ad,A0,c0,e,by have hq:=hc 0 _ rfl;rwa [Nat.mul_one,Nat.add_zero] at hq,l0,g0⟩

end Go.Proofs.Ytlphbpaojcdjaaa.PFnExactCloseSpace
