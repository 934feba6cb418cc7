-- Written by a program of this session over the print of the kit (wip/t/patch_print.py).
import Derived.Test.YtcdlookokffkeaaPFnExactKeysInx0
namespace Go.Proofs.Ytcdlookokffkeaa.PFnExactKeysIn
open Go.RowKit Go.Proofs.YtcdlookokffkeaaW.PrintWords Go.Proofs.YtcdlookokffkeaaW.PrintLast Go.Proofs.YtcdlookokffkeaaW.PrintMore
attribute [local go_sem] max2_int min2_int max_two min_two max_three min_three max_four min_four   -- for this text's walks alone
set_option linter.unusedVariables false
set_option linter.unusedSimpArgs false

/-! ### laws_heldKeySetS: function 25 -/
def laws_heldKeySetS.l0 : Nat → List (S73) → Int → Int → Option (Int)
 | 0,_,_,_=>none
 | k + 1,x0,x1,x5=>if x5 < (x0.length : Int) then (if 0 ≤ x5 then (if ((rd_T73 x0 x5).f0) = x1 then (if ((rd_T73 x0 x5).f1) = (wrap64 (x1 + 1)) then (laws_heldKeySetS.l0 k x0 (wrap64 ((wrap64 (x1 + 1)) + 1)) (wrap64 (x5 + 1))) else (some (-1))) else (some (-1))) else (none)) else (some x1)
def laws_heldKeySetS.f (k : Nat) (l0 : List (S73)) (a1 : Int) : Option (Int):=laws_heldKeySetS.l0 k l0 a1 0
theorem laws_heldKeySetS.mono_l : ∀ k,(∀ y0 y1 y2,LeO (laws_heldKeySetS.l0 k y0 y1 y2) (laws_heldKeySetS.l0 (k + 1) y0 y1 y2))
 | 0=>fun _ _ _ r h=>by simp [laws_heldKeySetS.l0] at h
 | k + 1=>by
  have ih0:=laws_heldKeySetS.mono_l k
  ·intro y0 y1 y2;unfold laws_heldKeySetS.l0
   repeat' first|(with_reducible first|exact ih0 _ _ _|exact LeO.refl _|exact LeO.none _|refine LeO.ite ?_ ?_|refine LeO.bind ?_ (fun _=>?_))|exact ih0 _ _ _|exact LeO.none _|refine LeO.ite ?_ ?_|refine LeO.bind ?_ (fun _=>?_)
theorem laws_heldKeySetS.mono : ∀ a0 a1 k,LeO (laws_heldKeySetS.f k a0 a1) (laws_heldKeySetS.f (k + 1) a0 a1):=by
 intro a0 a1 k;have ih0:=laws_heldKeySetS.mono_l k;unfold laws_heldKeySetS.f
 repeat' first|(with_reducible first|exact ih0 _ _ _|exact LeO.refl _|exact LeO.none _|refine LeO.ite ?_ ?_|refine LeO.bind ?_ (fun _=>?_))|exact ih0 _ _ _|exact LeO.none _|refine LeO.ite ?_ ?_|refine LeO.bind ?_ (fun _=>?_)
set_option maxHeartbeats 8000000 in
set_option maxRecDepth 100000 in
theorem laws_heldKeySetS.calls (k : Nat) (A0 : Option Addr) (c0 : Nat) (l0 : List (S73)) (a1 : Int) (r : Int) (w : World) (hr0 : Kd.C k73 w A0 l0.length l0) (hc0 : l0.length ≤ c0) (h : laws_heldKeySetS.f k l0 a1 = some r) :
  Calls Try.prog 25 #[.slice A0 l0.length c0,.int .i64 a1] w fun e w'=>e = .returned (.int .i64 r)∧Drawn0 w w':=by
 have HR0:=Qa hr0;have HC0:=Qa hc0;clear hr0 hc0;have H : (laws_heldKeySetS.l0 k l0 a1 0) = some r:=h;clear h;have H':=Qa H;clear H;go_enter Try.func25,Try.ntmps25;go_wp2;go_loopg [1,5] k (fun kq v1 v5 w'=>∃ (x1_1 : Int) (x5_1 : Int),v1 = .int .i64 x1_1∧v5 = .int .i64 x5_1∧Aside0 (laws_heldKeySetS.l0 kq l0 x1_1 x5_1 = some r)∧Aside0 (kq ≤ k)∧Drawn0 w w')
 case atStart=>exact ⟨(a1),(0),(by first|rfl|(simp;done)|(simp [*];done)),(by first|rfl|(simp;done)|(simp [*];done)),H',⟨QS _⟩,by repeat (first|exact Drawn0.refl _|apply Drawn0.step)⟩
 case round =>
  clear H';(try clear c2;try clear p2);obtain ⟨x1_1,x5_1,rfl,rfl,HA,HK1,⟨m1,rfl⟩⟩:=hrel
  cases gk with
  | zero=>exact absurd HA.out (by simp [laws_heldKeySetS.l0])
  | succ k1 =>
   have H:=HA.out;clear HA;simp only [laws_heldKeySetS.l0] at H
   by_cases c3 : x5_1 < (l0.length : Int)
   ·rw [if_pos c3] at H;have c3b0 : decide (x5_1 < (l0.length : Int)) = true:=QH c3;clear c3
    by_cases c4 : 0 ≤ x5_1
    ·rw [if_pos c4] at H;have c4b0 : decide (0 ≤ x5_1) = true:=QH c4;clear c4
     by_cases c5 : ((rd_T73 l0 x5_1).f0) = x1_1
     ·rw [if_pos c5] at H;have c5b0 : (((rd_T73 l0 x5_1).f0) == x1_1) = true:=beq_iff_eq.mpr c5;have c5b1 : (((rd_T73 l0 x5_1).f0) != x1_1) = false:=bne_eq_false_iff_eq.mpr c5;clear c5
      by_cases c6 : ((rd_T73 l0 x5_1).f1) = (wrap64 (x1_1 + 1))
      ·rw [if_pos c6] at H;have c6b0 : (((rd_T73 l0 x5_1).f1) == (wrap64 (x1_1 + 1))) = true:=beq_iff_eq.mpr c6;have c6b1 : (((rd_T73 l0 x5_1).f1) != (wrap64 (x1_1 + 1))) = false:=bne_eq_false_iff_eq.mpr c6;clear c6;have H':=Qa H;clear H;have p370 : 0 ≤ (x5_1 : Int):=QG (by assumption);have q370 : x5_1 < (l0.length : Int):=QG (by assumption);obtain ⟨ad370,e370,hx370_0,hx370_1⟩:=at_T73 HR0.o x5_1 p370 q370;cases e370;replace p370:=eq_true p370;replace q370:=eq_true q370;have p371 : 0 ≤ (x5_1 : Int):=QG (by assumption);have q371 : x5_1 < (l0.length : Int):=QG (by assumption);obtain ⟨ad371,e371,hx371_0,hx371_1⟩:=at_T73 HR0.o x5_1 p371 q371;obtain rfl : ad370 = ad371:=(by injection e371);replace p371:=eq_true p371;replace q371:=eq_true q371;go_wp2;go_roundg k1
       case measure=>have:=HK1.o;omega
       case rel=>exact ⟨(wrap64 ((wrap64 (x1_1 + 1)) + 1)),(wrap64 (x5_1 + 1)),(by first|rfl|(simp;done)|(simp [*];done)),(by first|rfl|(simp;done)|(simp [*];done)),H',⟨by have:=HK1.o;omega⟩,by repeat (first|exact Drawn0.refl _|apply Drawn0.step)⟩
      ·rw [if_neg c6] at H;have c6b0 : (((rd_T73 l0 x5_1).f1) == (wrap64 (x1_1 + 1))) = false:=beq_eq_false_iff_ne.mpr c6;have c6b1 : (((rd_T73 l0 x5_1).f1) != (wrap64 (x1_1 + 1))) = true:=bne_iff_ne.mpr c6;obtain rfl:=QP H;have p370 : 0 ≤ (x5_1 : Int):=QG (by assumption);have q370 : x5_1 < (l0.length : Int):=QG (by assumption);obtain ⟨ad370,e370,hx370_0,hx370_1⟩:=at_T73 HR0.o x5_1 p370 q370;cases e370;replace p370:=eq_true p370;replace q370:=eq_true q370;have p371 : 0 ≤ (x5_1 : Int):=QG (by assumption);have q371 : x5_1 < (l0.length : Int):=QG (by assumption);obtain ⟨ad371,e371,hx371_0,hx371_1⟩:=at_T73 HR0.o x5_1 p371 q371;obtain rfl : ad370 = ad371:=(by injection e371);replace p371:=eq_true p371;replace q371:=eq_true q371;go_wp2;go_ret;exact ⟨by first|rfl|(simp;done)|(simp [*];done),by repeat (first|exact Drawn0.refl _|apply Drawn0.step)⟩
     ·rw [if_neg c5] at H;have c5b0 : (((rd_T73 l0 x5_1).f0) == x1_1) = false:=beq_eq_false_iff_ne.mpr c5;have c5b1 : (((rd_T73 l0 x5_1).f0) != x1_1) = true:=bne_iff_ne.mpr c5;obtain rfl:=QP H;have p370 : 0 ≤ (x5_1 : Int):=QG (by assumption);have q370 : x5_1 < (l0.length : Int):=QG (by assumption);obtain ⟨ad370,e370,hx370_0,hx370_1⟩:=at_T73 HR0.o x5_1 p370 q370;cases e370;replace p370:=eq_true p370;replace q370:=eq_true q370;go_wp2;go_ret;exact ⟨by first|rfl|(simp;done)|(simp [*];done),by repeat (first|exact Drawn0.refl _|apply Drawn0.step)⟩
    ·rw [if_neg c4] at H;exact absurd H (by simp)
   ·rw [if_neg c3] at H;have c3b0 : decide (x5_1 < (l0.length : Int)) = false:=QI c3;clear c3;obtain rfl:=QP H;go_wp2;go_ret;exact ⟨by first|rfl|(simp;done)|(simp [*];done),by repeat (first|exact Drawn0.refl _|apply Drawn0.step)⟩

end Go.Proofs.Ytcdlookokffkeaa.PFnExactKeysIn
