-- Written by a program of this session over the print of the kit (wip/t/patch_print.py).
import Derived.Test.YtlphbpaojcdjaaaPFnExactPutInx0
import Derived.Test.YtlphbpaojcdjaaaPFnExactPutInx9
namespace Go.Proofs.Ytlphbpaojcdjaaa.PFnExactPutIn
open Go.RowKit Go.Proofs.YtlphbpaojcdjaaaW.PrintWords Go.Proofs.YtlphbpaojcdjaaaW.PrintLast Go.Proofs.YtlphbpaojcdjaaaW.PrintMore
attribute [local go_sem] max2_int min2_int max_two min_two max_three min_three max_four min_four   -- for this text's walks alone
set_option linter.unusedVariables false
set_option linter.unusedSimpArgs false

/-! ### slices_BinarySearch_int_int: function 89 -/
def slices_BinarySearch_int_int.l0 : Nat → List Int → Int → Int → Int → Int → Option (Int × Bool)
 | 0,_,_,_,_,_=>none
 | k + 1,x0,x1,x6,x7,x8=>if x7 < x8 then (if 0 ≤ (wrap64 ((IntKind.u64.wrap (wrap64 (x7 + x8))) / 2)) then (if (wrap64 ((IntKind.u64.wrap (wrap64 (x7 + x8))) / 2)) < (x0.length : Int) then ((cmp_Less_int.f (rd x0 (wrap64 ((IntKind.u64.wrap (wrap64 (x7 + x8))) / 2))) x1).bind fun t353=>(if t353 = true then (slices_BinarySearch_int_int.l0 k x0 x1 x6 (wrap64 ((wrap64 ((IntKind.u64.wrap (wrap64 (x7 + x8))) / 2)) + 1)) x8) else (slices_BinarySearch_int_int.l0 k x0 x1 x6 x7 (wrap64 ((IntKind.u64.wrap (wrap64 (x7 + x8))) / 2))))) else (none)) else (none)) else (if x7 < x6 then (if 0 ≤ x7 then (if x7 < (x0.length : Int) then (if (rd x0 x7) = x1 then (some (x7,true)) else ((slices_isNaN_int.f (rd x0 x7)).bind fun t356=>(if t356 = true then ((slices_isNaN_int.f x1).bind fun t357=>(some (x7,t357))) else (some (x7,false))))) else (none)) else (none)) else (some (x7,false)))
def slices_BinarySearch_int_int.f (k : Nat) (l0 : List Int) (a1 : Int) : Option (Int × Bool):=slices_BinarySearch_int_int.l0 k l0 a1 (l0.length : Int) 0 (l0.length : Int)
theorem slices_BinarySearch_int_int.mono_l : ∀ k,(∀ y0 y1 y2 y3 y4,LeO (slices_BinarySearch_int_int.l0 k y0 y1 y2 y3 y4) (slices_BinarySearch_int_int.l0 (k + 1) y0 y1 y2 y3 y4))
 | 0=>fun _ _ _ _ _ r h=>by simp [slices_BinarySearch_int_int.l0] at h
 | k + 1=>by
  have ih0:=slices_BinarySearch_int_int.mono_l k
  ·intro y0 y1 y2 y3 y4
   unfold slices_BinarySearch_int_int.l0
   repeat' first
   | (with_reducible exact ih0 _ _ _ _ _)
   | (with_reducible exact LeO.refl _)
   | (with_reducible exact LeO.none _)
   | (with_reducible refine LeO.ite ?_ ?_)
   | (with_reducible refine LeO.bind ?_ (fun _=>?_))
   | exact ih0 _ _ _ _ _
   | exact LeO.none _
   | refine LeO.ite ?_ ?_
   | refine LeO.bind ?_ (fun _=>?_)
theorem slices_BinarySearch_int_int.mono : ∀ a0 a1 k,LeO (slices_BinarySearch_int_int.f k a0 a1) (slices_BinarySearch_int_int.f (k + 1) a0 a1):=by
 intro a0 a1 k
 have ih0:=slices_BinarySearch_int_int.mono_l k
 unfold slices_BinarySearch_int_int.f
 repeat' first
   | (with_reducible exact ih0 _ _ _ _ _)
   | (with_reducible exact LeO.refl _)
   | (with_reducible exact LeO.none _)
   | (with_reducible refine LeO.ite ?_ ?_)
   | (with_reducible refine LeO.bind ?_ (fun _=>?_))
   | exact ih0 _ _ _ _ _
   | exact LeO.none _
   | refine LeO.ite ?_ ?_
   | refine LeO.bind ?_ (fun _=>?_)
set_option maxHeartbeats 8000000 in
set_option maxRecDepth 100000 in
theorem slices_BinarySearch_int_int.calls (k : Nat) (A0 : Option Addr) (c0 : Nat) (l0 : List Int) (a1 : Int) (r1 : Int) (r2 : Bool) (w : World) (hr0 : Kd.C (Kd.int .i64) w A0 l0.length l0) (hc0 : l0.length ≤ c0) (h : slices_BinarySearch_int_int.f k l0 a1 = some (r1,r2)) :
  Calls Try.prog 89 #[.slice A0 l0.length c0,.int .i64 a1] w fun e w'=>e = .returned (.tuple #[.int .i64 r1,.bool r2])∧Drawn0 w w':=by
 have HR0:=Aside0.mk hr0
 have HC0:=Aside0.mk hc0
 clear hr0 hc0
 have H : (slices_BinarySearch_int_int.l0 k l0 a1 (l0.length : Int) 0 (l0.length : Int)) = some (r1,r2):=h
 clear h
 have H':=Aside0.mk H
 clear H
 go_enter Try.func89,Try.ntmps89
 go_wp2
 go_loopg [7,8] k (fun kq v7 v8 w'=>∃ (x7_1 : Int) (x8_1 : Int),v7 = .int .i64 x7_1∧v8 = .int .i64 x8_1∧Aside0 (slices_BinarySearch_int_int.l0 kq l0 a1 (l0.length : Int) x7_1 x8_1 = some (r1,r2))∧Aside0 (kq ≤ k)∧Drawn0 w w')
 case atStart=>exact ⟨(0),((l0.length : Int)),(by first|rfl|(simp;done)|(simp [*];done)),(by first|rfl|(simp;done)|(simp [*];done)),H',⟨Nat.le_refl _⟩,by repeat (first|exact Drawn0.refl _|apply Drawn0.step)⟩
 case round =>
  clear H'
  try clear p2
  obtain ⟨x7_1,x8_1,rfl,rfl,HA,HK1,⟨m1,rfl⟩⟩:=hrel
  cases gk with
  | zero=>exact absurd HA.out (by simp [slices_BinarySearch_int_int.l0])
  | succ k1 =>
   have H:=HA.out
   clear HA
   simp only [slices_BinarySearch_int_int.l0] at H
   by_cases c3 : x7_1 < x8_1
   ·rw [if_pos c3] at H
    have c3b0 : decide (x7_1 < x8_1) = true:=decide_eq_true c3
    clear c3
    obtain ⟨ji4,hji4⟩ : ∃ j_ : Int,(wrap64 ((IntKind.u64.wrap (wrap64 (x7_1 + x8_1))) / 2)) = j_:=⟨_,rfl⟩
    replace H : (if 0 ≤ (ji4) then (if (ji4) < (l0.length : Int) then ((cmp_Less_int.f (rd l0 (ji4)) a1).bind fun t353=>(if t353 = true then (slices_BinarySearch_int_int.l0 k1 l0 a1 (l0.length : Int) (wrap64 ((ji4) + 1)) x8_1) else (slices_BinarySearch_int_int.l0 k1 l0 a1 (l0.length : Int) x7_1 ji4))) else (none)) else (none)) = some (r1,r2):=by first|(rw [hji4] at H;exact H)|(simp only [hji4] at H ⊢;exact H)
    have hji4w : (IntKind.i64.wrap ((IntKind.u64.wrap (wrap64 (x7_1 + x8_1))) / 2)) = ji4:=(i64_w _).trans hji4
    by_cases c5 : 0 ≤ (ji4)
    ·rw [if_pos c5] at H
     have c5b0 : decide (0 ≤ (ji4)) = true:=decide_eq_true c5
     clear c5
     by_cases c6 : (ji4) < (l0.length : Int)
     ·rw [if_pos c6] at H
      have c6b0 : decide ((ji4) < (l0.length : Int)) = true:=decide_eq_true c6
      clear c6
      replace H:=Option.bind_eq_some_iff.mp H
      obtain ⟨t353,A70,H⟩:=H
      replace H : (if t353 = true then (slices_BinarySearch_int_int.l0 k1 l0 a1 (l0.length : Int) (wrap64 ((ji4) + 1)) x8_1) else (slices_BinarySearch_int_int.l0 k1 l0 a1 (l0.length : Int) x7_1 ji4)) = some (r1,r2):=H
      have A7:=Aside0.mk A70
      clear A70
      by_cases c8 : t353 = true
      ·subst c8
       have H1 : (slices_BinarySearch_int_int.l0 k1 l0 a1 (l0.length : Int) (wrap64 ((ji4) + 1)) x8_1) = some (r1,r2):=by rw [if_pos rfl] at H;exact H
       clear H
       have H:=H1
       clear H1
       have H':=Aside0.mk H
       clear H
       have p352 : 0 ≤ ((ji4) : Int):=of_decide_eq_true (by assumption)
       have q352 : (ji4) < (l0.length : Int):=of_decide_eq_true (by assumption)
       obtain ⟨ad352,e352,hx352_0⟩:=Kd.at_int HR0.out (ji4) p352 q352
       cases e352
       replace p352:=eq_true p352
       replace q352:=eq_true q352
       go_wp2_with (first|((with_reducible refine gate_callee (f:=91) rfl ?_);refine goesL_ (some 27) rfl rfl Try.func91 (by kernel_rfl) rfl #[.int .i64 (rd l0 (ji4)),.int .i64 a1] rfl (by (try simp only [List.map_toArray,List.map_cons,List.map_nil]);first|done|(simp only [hji4];rfl)|rfl|(simp only [List.length_drop,List.length_take];rfl)) ?_;(with_reducible refine (cmp_Less_int.calls (rd l0 (ji4)) a1 true _ A7.out).mono ?_);rintro e w' ⟨rfl,⟨nd,rfl⟩⟩;refine ⟨_,rfl,?_⟩))
       go_roundg k1
       case measure=>have:=HK1.out;omega
       case rel=>exact ⟨(wrap64 ((ji4) + 1)),(x8_1),(by first|rfl|(simp;done)|(simp only [← hji4] <;> (first|rfl|simp))|(simp [*];done)),(by first|rfl|(simp;done)|(simp [*];done)),H',⟨by have:=HK1.out;omega⟩,by repeat (first|exact Drawn0.refl _|apply Drawn0.step)⟩
      ·replace c8:=Bool.eq_false_iff.mpr c8
       subst c8
       have H1 : (slices_BinarySearch_int_int.l0 k1 l0 a1 (l0.length : Int) x7_1 ji4) = some (r1,r2):=by rw [if_neg (show ¬ (false = true) by decide)] at H;exact H
       clear H
       have H:=H1
       clear H1
       have H':=Aside0.mk H
       clear H
       have p352 : 0 ≤ ((ji4) : Int):=of_decide_eq_true (by assumption)
       have q352 : (ji4) < (l0.length : Int):=of_decide_eq_true (by assumption)
       obtain ⟨ad352,e352,hx352_0⟩:=Kd.at_int HR0.out (ji4) p352 q352
       cases e352
       replace p352:=eq_true p352
       replace q352:=eq_true q352
       go_wp2_with (first|((with_reducible refine gate_callee (f:=91) rfl ?_);refine goesL_ (some 27) rfl rfl Try.func91 (by kernel_rfl) rfl #[.int .i64 (rd l0 (ji4)),.int .i64 a1] rfl (by (try simp only [List.map_toArray,List.map_cons,List.map_nil]);first|done|(simp only [hji4];rfl)|rfl|(simp only [List.length_drop,List.length_take];rfl)) ?_;(with_reducible refine (cmp_Less_int.calls (rd l0 (ji4)) a1 false _ A7.out).mono ?_);rintro e w' ⟨rfl,⟨nd,rfl⟩⟩;refine ⟨_,rfl,?_⟩))
       go_roundg k1
       case measure=>have:=HK1.out;omega
       case rel=>exact ⟨(x7_1),(ji4),(by first|rfl|(simp;done)|(simp [*];done)),(by first|rfl|(simp;done)|(simp only [← hji4] <;> (first|rfl|simp))|(simp [*];done)),H',⟨by have:=HK1.out;omega⟩,by repeat (first|exact Drawn0.refl _|apply Drawn0.step)⟩
     ·rw [if_neg c6] at H
      exact absurd H (by simp)
    ·rw [if_neg c5] at H
     exact absurd H (by simp)
   ·rw [if_neg c3] at H
    have c3b0 : decide (x7_1 < x8_1) = false:=decide_eq_false c3
    clear c3
    by_cases c9 : x7_1 < (l0.length : Int)
    ·rw [if_pos c9] at H
     have c9b0 : decide (x7_1 < (l0.length : Int)) = true:=decide_eq_true c9
     clear c9
     by_cases c10 : 0 ≤ x7_1
     ·rw [if_pos c10] at H
      have c10b0 : decide (0 ≤ x7_1) = true:=decide_eq_true c10
      clear c10
      by_cases c11 : x7_1 < (l0.length : Int)
      ·rw [if_pos c11] at H
       have c11b0 : decide (x7_1 < (l0.length : Int)) = true:=decide_eq_true c11
       clear c11
       by_cases c12 : (rd l0 x7_1) = a1
       ·rw [if_pos c12] at H
        have c12b0 : ((rd l0 x7_1) == a1) = true:=beq_iff_eq.mpr c12
        have c12b1 : ((rd l0 x7_1) != a1) = false:=bne_eq_false_iff_eq.mpr c12
        clear c12
        simp only [Option.some.injEq,Prod.mk.injEq] at H
        obtain ⟨rfl,rfl⟩:=H
        have p354 : 0 ≤ (x7_1 : Int):=of_decide_eq_true (by assumption)
        have q354 : x7_1 < (l0.length : Int):=of_decide_eq_true (by assumption)
        obtain ⟨ad354,e354,hx354_0⟩:=Kd.at_int HR0.out x7_1 p354 q354
        cases e354
        replace p354:=eq_true p354
        replace q354:=eq_true q354
        go_wp2
        go_ret2
        exact ⟨by first|rfl|(simp;done)|(simp [*];done),by repeat (first|exact Drawn0.refl _|apply Drawn0.step)⟩
       ·rw [if_neg c12] at H
        have c12b0 : ((rd l0 x7_1) == a1) = false:=beq_eq_false_iff_ne.mpr c12
        have c12b1 : ((rd l0 x7_1) != a1) = true:=bne_iff_ne.mpr c12
        replace H:=Option.bind_eq_some_iff.mp H
        obtain ⟨t356,A130,H⟩:=H
        replace H : (if t356 = true then ((slices_isNaN_int.f a1).bind fun t357=>(some (x7_1,t357))) else (some (x7_1,false))) = some (r1,r2):=H
        have A13:=Aside0.mk A130
        clear A130
        by_cases c14 : t356 = true
        ·subst c14
         have H1 : ((slices_isNaN_int.f a1).bind fun t357=>(some (x7_1,t357))) = some (r1,r2):=by rw [if_pos rfl] at H;exact H
         clear H
         have H:=H1
         clear H1
         replace H:=Option.bind_eq_some_iff.mp H
         obtain ⟨t357,A150,H⟩:=H
         replace H : (some (x7_1,t357)) = some (r1,r2):=H
         have A15:=Aside0.mk A150
         clear A150
         simp only [Option.some.injEq,Prod.mk.injEq] at H
         obtain ⟨rfl,rfl⟩:=H
         have p354 : 0 ≤ (x7_1 : Int):=of_decide_eq_true (by assumption)
         have q354 : x7_1 < (l0.length : Int):=of_decide_eq_true (by assumption)
         obtain ⟨ad354,e354,hx354_0⟩:=Kd.at_int HR0.out x7_1 p354 q354
         cases e354
         replace p354:=eq_true p354
         replace q354:=eq_true q354
         have p355 : 0 ≤ (x7_1 : Int):=of_decide_eq_true (by assumption)
         have q355 : x7_1 < (l0.length : Int):=of_decide_eq_true (by assumption)
         obtain ⟨ad355,e355,hx355_0⟩:=Kd.at_int HR0.out x7_1 p355 q355
         obtain rfl : ad354 = ad355:=(by injection e355)
         replace p355:=eq_true p355
         replace q355:=eq_true q355
         go_wp2_with (first|(go_at_call 92;(with_reducible refine (slices_isNaN_int.calls (rd l0 x7_1) true _ A13.out).mono ?_);rintro e w' ⟨rfl,⟨nd,rfl⟩⟩)|(go_at_call 92;(with_reducible refine (slices_isNaN_int.calls a1 t357 _ A15.out).mono ?_);rintro e w' ⟨rfl,⟨nd,rfl⟩⟩))
         go_ret2
         exact ⟨by first|rfl|(simp;done)|(simp [*];done),by repeat (first|exact Drawn0.refl _|apply Drawn0.step)⟩
        ·replace c14:=Bool.eq_false_iff.mpr c14
         subst c14
         have H1 : (some (x7_1,false)) = some (r1,r2):=by rw [if_neg (show ¬ (false = true) by decide)] at H;exact H
         clear H
         have H:=H1
         clear H1
         simp only [Option.some.injEq,Prod.mk.injEq] at H
         obtain ⟨rfl,rfl⟩:=H
         have p354 : 0 ≤ (x7_1 : Int):=of_decide_eq_true (by assumption)
         have q354 : x7_1 < (l0.length : Int):=of_decide_eq_true (by assumption)
         obtain ⟨ad354,e354,hx354_0⟩:=Kd.at_int HR0.out x7_1 p354 q354
         cases e354
         replace p354:=eq_true p354
         replace q354:=eq_true q354
         have p355 : 0 ≤ (x7_1 : Int):=of_decide_eq_true (by assumption)
         have q355 : x7_1 < (l0.length : Int):=of_decide_eq_true (by assumption)
         obtain ⟨ad355,e355,hx355_0⟩:=Kd.at_int HR0.out x7_1 p355 q355
         obtain rfl : ad354 = ad355:=(by injection e355)
         replace p355:=eq_true p355
         replace q355:=eq_true q355
         go_wp2_with (first|(go_at_call 92;(with_reducible refine (slices_isNaN_int.calls (rd l0 x7_1) false _ A13.out).mono ?_);rintro e w' ⟨rfl,⟨nd,rfl⟩⟩))
         go_ret2
         exact ⟨by first|rfl|(simp;done)|(simp [*];done),by repeat (first|exact Drawn0.refl _|apply Drawn0.step)⟩
      ·rw [if_neg c11] at H
       exact absurd H (by simp)
     ·rw [if_neg c10] at H
      exact absurd H (by simp)
    ·rw [if_neg c9] at H
     have c9b0 : decide (x7_1 < (l0.length : Int)) = false:=decide_eq_false c9
     clear c9
     simp only [Option.some.injEq,Prod.mk.injEq] at H
     obtain ⟨rfl,rfl⟩:=H
     go_wp2
     go_ret2
     exact ⟨by first|rfl|(simp;done)|(simp [*];done),by repeat (first|exact Drawn0.refl _|apply Drawn0.step)⟩

/-! ### slices_Insert_int_int: function 90 -/
section
theorem ins_overlaps {P : Program} (w : World) (tS tR e : TypeId) (ht : P.underlying tS = some (.slice e)) (size : Nat) (hz : ∀ w,(Go.sizeOf e).run P w = .ok size w)
  (a b : Addr) (la ca lb cb : Nat) (hne : a.block ≠ b.block) (tA tB : TypeId) (kA kB : Nat)
  (hsa : w.shape? a.block = some (tA,kA)) (hkA : kA ≠ 0) (hsb : w.shape? b.block = some (tB,kB)) (hfb : w.frozen? b = false) (hfe : w.frozen? { block:=b.block,off:=kB } = false) :
  (Extern.SlicesOverlaps.overlaps #[tS,tS] #[tR] #[.slice (some a) la ca,.slice (some b) lb cb]).run P w = .ok (.bool false) w:=by
 have hnb : (a.block != b.block) = true:=by simpa using hne
 have hnb' : (a.block == b.block) = false:=by simpa using hne
 change Sem.run P (α:=Value) (do
  let some t:=(#[tS,tS] : Array TypeId)[0]?|stuck "slices.overlaps: no parameter types"
  let .slice elem ← underlying t|stuck "slices.overlaps: slice type expected"
  let size ← Go.sizeOf elem
  match (some a : Option Addr),(some b : Option Addr) with
  | some a,some b =>
   if la = 0 ∨ lb = 0 ∨ size = 0 then pure (Value.bool false)
   else if a.block != b.block && (← frozen a) && (← frozen b) then unsupported .addressObserved
   else do
    if a.block != b.block then do
     noView a;noView b
     if ← mayBeOne a b then return Value.bool ((← choose (.extern "sameAddr.stringBytes" 2)) == 1)
    pure (Value.bool (a.block == b.block && a.off < b.off + lb * size && b.off < a.off + la * size))
  | _,_=>pure (Value.bool false)) w = _
 by_cases h0 : la = 0 ∨ lb = 0 ∨ size = 0
 ·simp [run_underlying ht,hz,h0]
 ·cases kA with
  | zero=>exact absurd rfl hkA
  | succ kA =>
   cases hfa : w.frozen? a <;> cases hfa2 : w.frozen? { block:=a.block,off:=kA + 1 } <;> simp [run_underlying ht,hz,h0,hnb,hnb',frozen,noView,viewAt,mayBeOne,stringish,shape,Sem.run,hsa,hsb,hfa,hfa2,hfb,hfe]
theorem ins_isSome (b : Nat) (vs : List Value) (o : Nat) (w : World) (h : ∀ j,j < vs.length → (w.cell? ⟨b,o + j,none⟩).isSome = true) (k : Nat) (hk : (w.cell? ⟨b,k,none⟩).isSome = true) : ((w.setCells b o vs).cell? ⟨b,k,none⟩).isSome = true:=by
 by_cases hin : o ≤ k∧k < o + vs.length
 ·have:=World.cell?_setCells_in b vs o w h (k - o) (by omega)
  rw [show o + (k - o) = k by omega] at this
  rw [this];rfl
 ·rw [World.cell?_setCells_out b vs o w ⟨b,k,none⟩ (fun _ _=>by show k < o ∨ o + vs.length ≤ k;omega)]
  exact hk
theorem ins_copy {P : Program} (w : World) {ops : Array Oper} {rest : List Oper} {o : Oper} {a : Act} {Q : Exit → Act → World → Prop} (hgd : o.guard = none) (d s : Operand) (t t' : TypeId)
  (ho : o.op = .call { callee:=.builtin .copy,args:=#[d,s],argTypes:=#[t,t'] }) (v u : Value) (hd : a.eval d = v) (hs : a.eval s = u) {v' : Value} {w' : World}
  (hr : (Builtin.copy_ #[t,t'] o.type #[v,u]).run P w = .ok v' w') (h : wpList P ops Q rest (a.put o.dst v') w') : wpList P ops Q (o :: rest) a w :=
 wpList_plain hgd fun _ hK=>by
  unfold Oper.wp execOp
  simp only [ho,resolve,invoke,builtin,Sem.run_bind,Sem.run_pure,Result.andThen_ok,List.map_toArray,List.map_cons,List.map_nil,hd,hs,hr]
  exact hK _ _ h
theorem ins_copy_step {P : Program} {ops : Array Oper} {o : Oper} {a : Act} {w : World} {K : Act → World → Prop} {Q : Exit → Act → World → Prop} {E : Prop}
  (hg : o.guard = none) (d x : Operand) (dT sT : TypeId) (hop : o.op = Op.call { callee:=Callee.builtin Builtin.copy,args:=#[d,x],argTypes:=#[dT,sT] })
  (v u : Value) (hd : a.eval d = v) (hx : a.eval x = u) {v' : Value} {w' : World} (hr : (Builtin.copy_ #[dT,sT] o.type #[v,u]).run P w = .ok v' w') (hK : K (a.put o.dst v') w') :
  if Region.wanted o (yielded ops a.tmps) = true then Oper.wp P o a w K Q else E:=by
 have hw : Region.wanted o (yielded ops a.tmps) = true:=by simp [Region.wanted,hg]
 rw [if_pos hw]
 unfold Oper.wp
 simp [execOp,hop,resolve,invoke,builtin,hd,hx,hr,Result.andThen]
 exact hK
set_option maxHeartbeats 8000000 in
set_option maxRecDepth 100000 in
theorem slices_Insert_int_int.shift (b n c i : Nat) (ad : Addr) (m vc : Nat) (cs vs : List Value) (w : World) (hi : i < n) (hm : 0 < m) (hroom : n + m ≤ c) (hc63 : c ≤ 9223372036854775807) (hvb : ad.block ≠ b)
  (hcl : cs.length = n) (hvl : vs.length = m)
  (hcs : ∀ j v,cs[j]? = some v → w.cell? ⟨b,j,none⟩ = some v) (hsp : ∀ j,j < n + m → (w.cell? ⟨b,j,none⟩).isSome = true) (hfz : ∀ j,w.frozen? ⟨b,j,none⟩ = false)
  (hvs : ∀ j v,vs[j]? = some v → w.cell? (ad.add j) = some v) (h1c : ∀ v ∈ cs,v.oneCell' = true) (h1v : ∀ v ∈ vs,v.oneCell' = true)
  (tA tB : TypeId) (kA kB : Nat) (hsa : w.shape? ad.block = some (tA,kA)) (hkA : kA ≠ 0) (hsb : w.shape? b = some (tB,kB)) :
  Calls Try.prog 90 #[.slice (some ⟨b,0,none⟩) n c,.int .i64 i,.slice (some ad) m vc] w fun e w' =>
   e = .returned (.slice (some ⟨b,0,none⟩) (n + m) c)∧w' = (w.drew.setCells b (i + m) (cs.drop i)).setCells b i vs:=by
 have hz1 : ¬ ((m : Int) = 0):=by omega
 have hz2 : ¬ ((i : Int) = (n : Int)):=by omega
 have hsz : (Try.prog.info? 3).map (·.size) = some 1:=by
  obtain ⟨i0,hi0,h0,h1,h2⟩:=info_parts info3
  rw [hi0];simp [h1]
 have hov : ∀ lb cb,(callFunc 93 #[.slice (some ad) m vc,.slice (some ⟨b,(i + m),none⟩) lb cb]).run Try.prog w = .ok (.value (.bool false)) w:=fun lb cb=>by
  rw [run_callFunc_extern Try.func93 (by kernel_rfl) (by kernel_rfl) (by kernel_rfl) (e:=Extern.SlicesOverlaps.overlaps #[24,24] #[4]) (by kernel_rfl),
   ins_overlaps w 24 4 3 Try.underlying24 1 Try.sizeOf3 ad ⟨b,(i + m),none⟩ m vc lb cb hvb tA tB kA kB hsa hkA hsb (hfz _) (hfz _)]
  rfl
 have hdl : (cs.drop i).length = n - i:=by rw [List.length_drop,hcl]
 have hw1 : IntKind.i64.wrap ((i : Int) + (m : Int)) = (i : Int) + (m : Int):=by rw [IntKind.wrap_i64];omega
 have hb1 : (0 : Int) ≤ (i : Int) + (m : Int):=by omega
 have hin : i ≤ n:=by omega
 have htn : ((i : Int) + (m : Int)).toNat = i + m:=by omega
 have hb2 : ¬ (c = i + m):=by omega
 have hb3 : (i : Int) ≤ (n : Int) + (m : Int):=by omega
 have hb4 : ¬ (c = i):=by omega
 have hcp1 : ∀ ty dc sc,(Builtin.copy_ #[24,24] ty #[.slice (some ⟨b,(i + m),none⟩) (n + m - (i + m)) dc,.slice (some ⟨b,i,none⟩) (n + m - i) sc]).run Try.prog w.drew = .ok (goInt (cs.drop i).length) (w.drew.setCells b (i + m) (cs.drop i)):=fun ty dc sc =>
  run_copy_cells w.drew _ _ ty 3 b (i + m) (n + m - (i + m)) dc ⟨b,i,none⟩ (n + m - i) sc (cs.drop i) Try.underlying24 hsz (by rw [hdl];simp only [Nat.min_def];split <;> omega)
   (fun j v hj=>by rw [Addr.add_lit];exact hcs (i + j) v (by rwa [List.getElem?_drop] at hj))
   (fun j hj=>hsp _ (by omega)) (fun j hj=>hfz _) (fun v hv=>h1c v (List.mem_of_mem_drop hv))
 obtain ⟨W1,hW1⟩ : ∃ W1,W1 = w.drew.setCells b (i + m) (cs.drop i):=⟨_,rfl⟩
 have hsp1 : ∀ k,k < n + m → (W1.cell? ⟨b,k,none⟩).isSome = true:=fun k hk=>by
  rw [hW1]
  exact ins_isSome b (cs.drop i) (i + m) w.drew (fun j hj=>hsp _ (by omega)) k (hsp k hk)
 have hcp2 : ∀ (W : World),(∀ x,W.cell? x = W1.cell? x) → (∀ x,W.frozen? x = W1.frozen? x) → ∀ ty dc,(Builtin.copy_ #[24,24] ty #[.slice (some ⟨b,i,none⟩) (n + m - i) dc,.slice (some ad) m vc]).run Try.prog W = .ok (goInt vs.length) (W.setCells b i vs):=fun W hWc hWf ty dc =>
  run_copy_cells W _ _ ty 3 b i (n + m - i) dc ad m vc vs Try.underlying24 hsz (by rw [hvl];simp only [Nat.min_def];split <;> omega)
   (fun j v hj=>by
    rw [hWc,hW1,World.cell?_setCells_out b _ _ _ _ (fun h _=>absurd h (by rw [add_block];exact hvb))]
    exact hvs j v hj)
   (fun j hj=>by rw [hWc];exact hsp1 _ (by omega)) (fun j hj=>by rw [hWf,hW1,World.frozen?_setCells];exact hfz _) h1v
 rw [← hW1] at hcp1
 go_enter Try.func90,Try.ntmps90
 go_wp2_with (simp only [hov])
 go_region_law (refine ins_copy_step rfl _ _ 24 24 rfl _ _ (by simp [Act.eval,Act.put]) (by simp [Act.eval,Act.put]) (hcp1 _ _ _) ?_)
 go_wp2_with (at_builtin;refine ins_copy _ rfl _ _ 24 24 rfl _ _ rfl rfl (hcp2 _ (fun _=>rfl) (fun _=>rfl) _ _) ?_)
 go_ret
 first|exact ⟨rfl,rfl⟩|exact ⟨rfl,by rw [hW1]⟩
set_option maxHeartbeats 8000000 in
set_option maxRecDepth 100000 in
theorem slices_Insert_int_int.grow (b n c i : Nat) (ad : Addr) (m vc : Nat) (cs vs : List Value) (w : World) (hi : i < n) (hm : 0 < m) (hnc : n ≤ c) (hroom : c < n + m) (hbig : (n + m) * 8 ≤ 140737488355328)
  (hcl : cs.length = n) (hvl : vs.length = m) (hvw : ad.block < w.heap.size)
  (hcs : ∀ j v,cs[j]? = some v → w.cell? ⟨b,j,none⟩ = some v)
  (hvs : ∀ j v,vs[j]? = some v → w.cell? (ad.add j) = some v) (h1c : ∀ v ∈ cs,v.oneCell' = true) (h1v : ∀ v ∈ vs,v.oneCell' = true) :
  Calls Try.prog 90 #[.slice (some ⟨b,0,none⟩) n c,.int .i64 i,.slice (some ad) m vc] w fun e w' =>
   ∃ G ROW,e = .returned (.slice (some ⟨w.heap.size,0,none⟩) (n + m) G)∧n + m ≤ G∧G ≤ maxLen∧ROW.size = G∧ROW.toList.take i = cs.take i ∧
   w' = (((w.alloc (.cells ROW 3)).drew.setCells w.heap.size i vs).drew).setCells w.heap.size (i + m) (cs.drop i):=by
 obtain ⟨i0,hi0,hz0,hzs,hzb⟩:=info_parts info3
 have hz1 : ¬ ((m : Int) = 0):=by omega
 have hz2 : ¬ ((i : Int) = (n : Int)):=by omega
 have hz3 : (c : Int) < (n : Int) + (m : Int):=by omega
 have hsz : (Try.prog.info? 3).map (·.size) = some 1:=by rw [hi0];simp [hzs]
 have hbw : b < w.heap.size:=World.block_lt_of_cell? w _ (hcs 0 _ (List.getElem?_eq_getElem (by omega)))
 have hkk : (n : Int) + (m : Int) - (i : Int) = ((n + m - i : Nat) : Int):=by omega
 have hik : i + (n + m - i) = n + m:=by omega
 have hold : (Builtin.firstCells i0.size i (.slice (some ⟨b,0,none⟩) i c)).run Try.prog w.drew = .ok (cs.take i).toArray w.drew:=by
  rw [hzs]
  exact run_firstCells_some w.drew 1 i ⟨b,0,none⟩ i c (cs.take i) (by rw [List.length_take];omega) (fun j v hj=>by
   rw [add_plain]
   rw [List.getElem?_take] at hj
   split at hj
   ·exact hcs j v hj
   ·cases hj)
 have hrz : ∀ ty,(Builtin.append_ #[24,3] ty #[.slice (some ⟨b,0,none⟩) i c,.int .i64 ((n : Int) + (m : Int) - (i : Int))]).run Try.prog w =
   .ok (.slice (some ⟨w.heap.size,0,none⟩) (n + m) (grownCap w (n + m) c 3)) (w.drew.alloc (.cells ((cs.take i).toArray ++ Builtin.zeroCells (Value.int .i64 0).cells (n + m - i) ++ Builtin.zeroCells (Value.int .i64 0).cells (grownCap w (n + m) c 3 - (n + m))) 3)):=fun ty=>by
  have h:=Lib.run_append_grow_zeros w 24 3 ty 3 i0 _ .i64 .i64 Try.underlying24 Try.underlying3 hi0 hz0 (some ⟨b,0,none⟩) i c (cs.take i) hold (n + m - i) (by omega) (by omega) (by omega) (by omega) (by rw [hzb];omega) (by rw [hzb,hik];exact growslice_fits hroom hbig)
  rw [hik] at h
  rw [hkk]
  exact h
 obtain ⟨G,hG⟩ : ∃ G,G = grownCap w (n + m) c 3:=⟨_,rfl⟩
 obtain ⟨ROW,hROW⟩ : ∃ ROW : Array Value,ROW = (cs.take i).toArray ++ Builtin.zeroCells (Value.int .i64 0).cells (n + m - i) ++ Builtin.zeroCells (Value.int .i64 0).cells (G - (n + m)):=⟨_,rfl⟩
 have hGn : n + m ≤ G:=by rw [hG];exact grownCap_ge w _ _ _
 have hGm : G ≤ maxLen:=by rw [hG];exact grownCap_le_maxLen w (n + m) c 3 (by unfold maxLen;omega)
 rw [← hG] at hrz
 rw [← hROW] at hrz
 have hRl : ROW.size = G:=by
  rw [hROW]
  simp [Builtin.zeroCells,Value.cells]
  omega
 have hRt : ROW.toList.take i = cs.take i:=by
  rw [hROW]
  simp only [Array.toList_append,List.append_assoc]
  rw [List.take_append_of_le_length (by rw [List.length_take];omega),List.take_of_length_le (by rw [List.length_take];omega)]
 obtain ⟨W1,hW1⟩ : ∃ W1,W1 = w.drew.alloc (.cells ROW 3):=⟨_,rfl⟩
 rw [← hW1] at hrz
 have hN : ∀ j,j < n + m → (W1.cell? ⟨w.heap.size,j,none⟩).isSome = true:=fun j hj=>by
  rw [hW1,World.cell?_alloc_at (w:=w.drew) ROW _ w.heap.size j rfl,Array.getElem?_eq_getElem (by omega)];rfl
 have hNf : ∀ j,W1.frozen? ⟨w.heap.size,j,none⟩ = false:=fun j=>by rw [hW1];exact World.frozen?_alloc_at (w:=w.drew) ROW _ w.heap.size j rfl
 have hOb : ∀ (x : Addr) v,w.cell? x = some v → W1.cell? x = some v:=fun x v h=>by rw [hW1];exact pw_cell_below (w:=w) (below_alloc (below_drew (Below.refl _ _)) _) h
 have hcpA : ∀ (W : World),(∀ x,W.cell? x = W1.cell? x) → (∀ x,W.frozen? x = W1.frozen? x) → ∀ ty dc,(Builtin.copy_ #[24,24] ty #[.slice (some ⟨w.heap.size,i,none⟩) (n + m - i) dc,.slice (some ad) m vc]).run Try.prog W = .ok (goInt vs.length) (W.setCells w.heap.size i vs):=fun W hWc hWf ty dc =>
  run_copy_cells W _ _ ty 3 w.heap.size i (n + m - i) dc ad m vc vs Try.underlying24 hsz (by rw [hvl];simp only [Nat.min_def];split <;> omega)
   (fun j v hj=>by rw [hWc];exact hOb _ v (hvs j v hj))
   (fun j hj=>by rw [hWc];exact hN _ (by omega)) (fun j hj=>by rw [hWf];exact hNf _) h1v
 have hG63 : G ≤ 9223372036854775807:=by
  unfold maxLen at hGm
  omega
 have hGi : ¬ (G = i):=by omega
 have hGim : ¬ (G = i + m):=by omega
 have hci : ¬ (c = i):=by omega
 have hbN : b ≠ w.heap.size:=by omega
 have hdl : (cs.drop i).length = n - i:=by rw [List.length_drop,hcl]
 have hcpB : ∀ (W : World),(∀ x,W.cell? x = (W1.setCells w.heap.size i vs).cell? x) → (∀ x,W.frozen? x = (W1.setCells w.heap.size i vs).frozen? x) → ∀ ty dc sc,(Builtin.copy_ #[24,24] ty #[.slice (some ⟨w.heap.size,i + m,none⟩) (n + m - (i + m)) dc,.slice (some ⟨b,i,none⟩) (n - i) sc]).run Try.prog W = .ok (goInt (cs.drop i).length) (W.setCells w.heap.size (i + m) (cs.drop i)):=fun W hWc hWf ty dc sc =>
  run_copy_cells W _ _ ty 3 w.heap.size (i + m) (n + m - (i + m)) dc ⟨b,i,none⟩ (n - i) sc (cs.drop i) Try.underlying24 hsz (by rw [hdl];simp only [Nat.min_def];split <;> omega)
   (fun j v hj=>by
    rw [Addr.add_lit,hWc,World.cell?_setCells_out _ _ _ _ _ (fun h _=>absurd h hbN)]
    exact hOb _ v (hcs (i + j) v (by rwa [List.getElem?_drop] at hj)))
   (fun j hj=>by rw [hWc];exact ins_isSome w.heap.size vs i W1 (fun t ht=>hN _ (by omega)) _ (hN _ (by omega)))
   (fun j hj=>by rw [hWf,World.frozen?_setCells];exact hNf _) (fun v hv=>h1c v (List.mem_of_mem_drop hv))
 subst hW1
 have hE1 : ∀ x,((w.alloc (.cells ROW 3)).drew).cell? x = (w.drew.alloc (.cells ROW 3)).cell? x:=fun x=>rfl
 have hE2 : ∀ x,((w.alloc (.cells ROW 3)).drew).frozen? x = (w.drew.alloc (.cells ROW 3)).frozen? x:=fun x=>rfl
 have hF1 : ∀ x,(((w.alloc (.cells ROW 3)).drew.setCells w.heap.size i vs).drew).cell? x = ((w.drew.alloc (.cells ROW 3)).setCells w.heap.size i vs).cell? x:=fun x=>rfl
 have hF2 : ∀ x,(((w.alloc (.cells ROW 3)).drew.setCells w.heap.size i vs).drew).frozen? x = ((w.drew.alloc (.cells ROW 3)).setCells w.heap.size i vs).frozen? x:=fun x=>rfl
 have hw1 : IntKind.i64.wrap ((i : Int) + (m : Int)) = (i : Int) + (m : Int):=by rw [IntKind.wrap_i64];omega
 have hb1 : (0 : Int) ≤ (i : Int) + (m : Int):=by omega
 have hin : i ≤ n:=by omega
 have htn : ((i : Int) + (m : Int)).toNat = i + m:=by omega
 have hb3 : (i : Int) ≤ (n : Int):=by omega
 clear hkk hik hold hROW hG
 go_enter Try.func90,Try.ntmps90
 go_wp2_with (first
  | (at_builtin;refine Lib.wpList_append_run _ rfl _ _ _ _ rfl _ _ rfl rfl _ _ (hrz _) ?_)
  | (at_builtin;refine ins_copy _ rfl _ _ 24 24 rfl _ _ rfl rfl (hcpA _ hE1 hE2 _ _) ?_)
  | (at_builtin;refine ins_copy _ rfl _ _ 24 24 rfl _ _ rfl rfl (hcpB _ (fun _=>rfl) (fun _=>rfl) _ _ _) ?_))
 go_region_law (refine ins_copy_step rfl _ _ 24 24 rfl (.slice (some ⟨w.heap.size,i + m,none⟩) (n + m - (i + m)) (G - (i + m))) (.slice (some ⟨b,i,none⟩) (n - i) (c - i)) (by simp [Act.eval,Act.put]) (by simp [Act.eval,Act.put]) (hcpB _ hF1 hF2 3 (G - (i + m)) (c - i)) ?_)
 go_wp2
 go_ret
 exact ⟨G,ROW,rfl,hGn,hGm,hRl,hRt,rfl⟩
theorem ins_list1 {α : Type} (A B Z : List α) (n m i G : Nat) (hA : A.length = n) (hB : B.length = m) (hZ : Z.length = G) (hG : n + m ≤ G) (hi : i ≤ n) (h : Z.take i = A.take i) :
  ((Z.take (i + m) ++ A.drop i ++ Z.drop (i + m + (A.drop i).length)).take i ++ B ++ (Z.take (i + m) ++ A.drop i ++ Z.drop (i + m + (A.drop i).length)).drop (i + B.length)).take (n + m) = A.take i ++ B ++ A.drop i:=by
 have e1 : (Z.take (i + m)).length = i + m:=by rw [List.length_take];omega
 rw [List.append_assoc (Z.take (i + m)),hB,List.drop_left' e1,List.take_append_of_le_length (l₁:=Z.take (i + m)) (by omega),List.take_take,Nat.min_eq_left (by omega),h,← List.append_assoc]
 exact List.take_left' (by simp;omega)
theorem ins_list2 {α : Type} (A B Z : List α) (n m i G : Nat) (hA : A.length = n) (hB : B.length = m) (hZ : Z.length = G) (hG : n + m ≤ G) (hi : i ≤ n) (h : Z.take i = A.take i) :
  ((Z.take i ++ B ++ Z.drop (i + B.length)).take (i + m) ++ A.drop i ++ (Z.take i ++ B ++ Z.drop (i + B.length)).drop (i + m + (A.drop i).length)).take (n + m) = A.take i ++ B ++ A.drop i:=by
 have e1 : (Z.take i ++ B).length = i + m:=by rw [List.length_append,List.length_take];omega
 rw [List.take_left' e1,h]
 exact List.take_left' (by simp;omega)
theorem ins_row {W W' : World} {base g n cap : Nat} {e : TypeId} {ok : Nat → Prop} {zs : List Int} {k : IntKind} {cur : Array Value} (hh : W'.heap[g]? = some (.cells cur e (0,0))) (hb : base ≤ g) (hn : zs.length = n) (hc : n ≤ cap) (hm : cap ≤ maxLen) (hs : cur.size = cap) (ht : cur.toList.take n = encs (Value.int k) zs) (hok : ok g) :
  Kd.R (Kd.int k) e W' base ok (.slice (some ⟨g,0,none⟩) n cap) zs:=by
 subst hn
 exact Kd.R_of_own (h1:=fun _=>rfl) ⟨by rw [encs_length,Nat.mul_one],.inr ⟨g,cap,cur,rfl,hb,hh,hc,hm,by rw [hs,Nat.mul_one],by rw [Nat.mul_one,ht]⟩⟩ (fun k_ hk=>by simp [Value.ownBlock] at hk;rw [← hk];exact hok)
theorem ins_below {B g : Nat} {w0 W : World} (h : Below B w0 W) (hg : B ≤ g) (vs : List Value) (o : Nat) : Below B w0 (W.setCells g o vs):=by
 obtain ⟨h1,h2,h3,h4⟩:=setCells_same g vs o W
 exact ⟨h1.trans h.os,h2.trans h.tape,h3.trans h.output,by rw [h4];exact h.size,fun j hj=>(setCells_far vs o j (by omega)).trans (h.block j hj)⟩
theorem ins_kept {g : Nat} {w W : World} {S : Nat → Prop} (h : Kept w W S) (hg : S g ∨ w.heap.size ≤ g) (vs : List Value) (o : Nat) : Kept w (W.setCells g o vs) S:=by
 obtain ⟨_,_,_,h4⟩:=setCells_same g vs o W
 exact ⟨by rw [h4];exact h.1,fun j hj hn=>(setCells_far vs o j (by rintro rfl;rcases hg with hg|hg;exact hn hg;omega)).trans (h.2 j hj hn)⟩
def slices_Insert_int_int.f (l0 : List Int) (a1 : Int) (l2 : List Int) : Option (List Int):=if 0 < l2.length then (if 0 ≤ a1 then (if a1 ≤ (l0.length : Int) then (if l0.length + l2.length < 17592186044416 then some (l0.take a1.toNat ++ l2 ++ l0.drop a1.toNat) else none) else none) else none) else none
set_option maxHeartbeats 8000000 in
set_option maxRecDepth 100000 in
theorem slices_Insert_int_int.calls (P0_ : Nat → Prop) (u9000_ : Value) (l0 : List Int) (a1 : Int) (A2 : Option Addr) (c2 : Nat) (l2 : List Int) (r : List Int) (w0 w : World) (hB : Below w0.heap.size w0 w) (ho0 : Kd.R (Kd.int .i64) 3 w w0.heap.size P0_ u9000_ l0) (hr2 : ∀ W_,Kept w W_ (fun k_=>P0_ k_) → Kd.C (Kd.int .i64) W_ A2 l2.length l2) (hc2 : l2.length ≤ c2) (h : slices_Insert_int_int.f l0 a1 l2 = some r) :
  Calls Try.prog 90 #[u9000_,.int .i64 a1,.slice A2 l2.length c2] w fun e w'=>∃ v0_ : Value,e = .returned (v0_)∧Kd.R (Kd.int .i64) 3 w' w0.heap.size (fun k_=>(P0_ k_ ∨ w.heap.size ≤ k_)) v0_ r∧Below w0.heap.size w0 w'∧Kept w w' (fun k_=>P0_ k_):=by
 simp only [slices_Insert_int_int.f,Option.ite_none_right_eq_some,Option.some.injEq] at h
 obtain ⟨hm,h0,h1,hl,rfl⟩:=h
 obtain ⟨i,rfl⟩ : ∃ i : Nat,a1 = (i : Int):=⟨a1.toNat,by omega⟩
 have hi : i ≤ l0.length:=by omega
 rw [Int.toNat_natCast]
 clear h0 h1
 have hC:=hr2 w (Kept.refl _ _)
 obtain ⟨hC1,hC2,hC3⟩:=Kd.reads_of_C (d:=(0 : Int)) (h1:=fun _=>rfl) hC
 obtain ⟨ad,rfl,had⟩:=hC3 hm
 have hvs : ∀ j v,(encs (Value.int .i64) l2)[j]? = some v → w.cell? (ad.add j) = some v:=fun j v hj=>by
  have hj1 : j < l2.length:=by
   rcases Nat.lt_or_ge j l2.length with h|h
   ·exact h
   ·rw [List.getElem?_eq_none (by rw [encs_length];exact h)] at hj;cases hj
  rw [had j hj1,← hj,encs,List.getElem?_map,List.getElem?_eq_getElem hj1,List.getD_eq_getElem?_getD,List.getElem?_eq_getElem hj1]
  rfl
 have hvb : ad.block < w.heap.size:=World.block_lt_of_cell? w _ (had 0 hm)
 have h1v : ∀ v ∈ encs (Value.int .i64) l2,v.oneCell' = true:=fun v hv=>by
  obtain ⟨x,_,rfl⟩:=List.mem_map.1 hv
  rfl
 have h1c : ∀ v ∈ encs (Value.int .i64) l0,v.oneCell' = true:=fun v hv=>by
  obtain ⟨x,_,rfl⟩:=List.mem_map.1 hv
  rfl
 obtain ⟨tA,kA,hsa,hkA⟩ : ∃ tA kA,w.shape? ad.block = some (tA,kA)∧kA ≠ 0:=by
  have h0:=had 0 hm
  unfold World.cell? at h0
  unfold World.shape?
  have hz : (ad.add 0).block = ad.block:=add_block _ _
  rw [hz] at h0
  split at h0
  ·rename_i c t f hq
   refine ⟨_,_,rfl,fun hs=>?_⟩
   split at h0
   ·cases h0
   ·rw [Array.getElem?_eq_none (by omega)] at h0;cases h0
  ·cases h0
 by_cases hin : i = l0.length
 ·subst hin
  rw [List.take_of_length_le (Nat.le_refl _),List.drop_of_length_le (Nat.le_refl _),List.append_nil]
  have hz1 : ¬ ((l2.length : Int) = 0):=by omega
  have HO:=Aside0.mk ho0
  obtain ⟨Ao,co,eo⟩:=Kd.R_slice ho0
  subst eo
  have hroom : l0.length ≤ co:=(Kd.R_reads' ho0).2.1
  have hb2 : (0 : Int) ≤ (l0.length : Int):=by omega
  clear ho0
  go_enter Try.func90,Try.ntmps90
  go_wp2_with (at_builtin;refine Kd.R_append_rows (Kd.int .i64) (w0:=w0) w0.heap.size rfl (.tmp 23) (.tmp 24) 24 3 (.int .i64 0) 8 rfl Try.underlying24 info3 rfl (by decide) (by omega) _ l0 l2 _ _ _ (fun k_=>(P0_ k_ ∨ w.heap.size ≤ k_)) (fun _=>False) rfl rfl (Kd.R_mono HO.out (fun _ hk=>.inl hk)) hC (fun _ _ h=>h) (fun _ h=>h.elim) (fun k_ hk=>.inr hk) hB (below_size hB) (by omega) ?_;intro v1 w1 ho hb hg hat)
  all_goals (go_ret;exact ⟨_,rfl,ho,hb,Kept.of_grown hg (Kept.refl _ _) (fun k_ hk=>.inl (HO.out.1 k_ hk))⟩)
 ·have hlt : i < l0.length:=by omega
  obtain ⟨hol,hoc⟩:=Kd.own_of_R (h1:=fun _=>rfl) ho0
  rcases hoc with ⟨rfl,hnil⟩|⟨g,cap,cur,rfl,hg,hh,hcap,hmax,hsz,hcur⟩
  ·omega
  ·rw [Nat.mul_one] at hsz hcur
   have hP : P0_ g:=ho0.1 g rfl
   have hcell : ∀ j,w.cell? ⟨g,j,none⟩ = cur[j]?:=fun j=>blk_cell hh j
   have hne : ad.block ≠ g:=fun he=>by
    have hk : Kept w (w.setCell (ad.add 0) (.bool true)) (fun k_=>P0_ k_):=Kept.setCell (Kept.refl _ _) (.inl (by rw [add_block,he];exact hP)) _
    obtain ⟨_,_,h3⟩:=Kd.reads_of_C (d:=(0 : Int)) (h1:=fun _=>rfl) (hr2 _ hk)
    obtain ⟨ad',he',h4⟩:=h3 hm
    injection he' with he'
    subst he'
    have h5:=h4 0 hm
    have h6:=had 0 hm
    have hz : ad.add 0 = ad:=by simp [Addr.add]
    rw [hz] at h5 h6
    unfold World.cell? at h5 h6
    rw [he,hh] at h6
    simp only at h6
    split at h6
    ·cases h6
    ·rename_i hsp
     have hsp' : ad.spot = none:=by cases hq : ad.spot with|none=>rfl|some _=>rw [hq] at hsp;simp at hsp
     have hlt2 : ad.off < cur.size:=by
      rcases Nat.lt_or_ge ad.off cur.size with h|h
      ·exact h
      ·rw [Array.getElem?_eq_none h] at h6;cases h6
     have hset:=blk_set hh ad.off (.bool true)
     rw [show (⟨g,ad.off,none⟩ : Addr) = ad by cases ad;simp_all] at hset
     rw [he,hset] at h5
     simp [hsp',hlt2] at h5
   have hcs : ∀ j v,(encs (Value.int .i64) l0)[j]? = some v → w.cell? ⟨g,j,none⟩ = some v:=fun j v hj=>by
    rw [hcell,← hj,← hcur,List.getElem?_take_of_lt (by
     rcases Nat.lt_or_ge j l0.length with h|h
     ·exact h
     ·rw [List.getElem?_eq_none (by rw [encs_length];exact h)] at hj;cases hj)]
    simp
   have hcl : (encs (Value.int .i64) l0).length = l0.length:=encs_length _
   have hvl : (encs (Value.int .i64) l2).length = l2.length:=encs_length _
   have hmx : cap ≤ 9223372036854775807:=by unfold maxLen at hmax;omega
   have hE : encs (Value.int .i64) (l0.take i ++ l2 ++ l0.drop i) = (encs (Value.int .i64) l0).take i ++ encs (Value.int .i64) l2 ++ (encs (Value.int .i64) l0).drop i:=by simp [encs]
   have hL : (l0.take i ++ l2 ++ l0.drop i).length = l0.length + l2.length:=by simp;omega
   by_cases hr : l0.length + l2.length ≤ cap
   ·refine (slices_Insert_int_int.shift g l0.length cap i ad l2.length c2 _ _ w hlt hm hr hmx hne hcl hvl hcs (fun j hj=>by rw [hcell,Array.getElem?_eq_getElem (by omega)];rfl) (fun j=>blk_frozen hh j) hvs h1c h1v tA 3 kA cur.size hsa hkA (by unfold World.shape?;rw [hh])).mono ?_
    rintro e w' ⟨rfl,rfl⟩
    have hh1 : w.drew.heap[g]? = some (.cells cur 3 (0,0)):=hh
    obtain ⟨cur1,q1,q2,q3⟩:=setCells_row ((encs (Value.int .i64) l0).drop i) (i + l2.length) w.drew cur hh1 (by rw [List.length_drop,hcl];omega)
    obtain ⟨cur2,q4,q5,q6⟩:=setCells_row (encs (Value.int .i64) l2) i _ cur1 q1 (by rw [hvl];omega)
    refine ⟨_,rfl,?_,ins_below (ins_below (below_drew hB) hg _ _) hg _ _,ins_kept (ins_kept (Kept.drew (Kept.refl _ _)) (.inl hP) _ _) (.inl hP) _ _⟩
    refine ins_row (W:=w) q4 hg hL hr hmax (by omega) ?_ (.inl hP)
    have hc0 : cur.toList.take i = (encs (Value.int .i64) l0).take i:=by
     rw [← hcur,List.take_take,Nat.min_eq_left (by omega)]
    have hlc : cur.toList.length = cap:=by rw [Array.length_toList];omega
    have hl1 : (encs (Value.int .i64) l0).length = l0.length:=hcl
    rw [q6,q3,hE]
    exact ins_list1 _ _ _ l0.length l2.length i cap hcl hvl hlc hr hi hc0
   ·refine (slices_Insert_int_int.grow g l0.length cap i ad l2.length c2 _ _ w hlt hm hcap (by omega) (by omega) hcl hvl hvb hcs hvs h1c h1v).mono ?_
    rintro e w' ⟨G,ROW,rfl,hG1,hG2,hG3,hG4,rfl⟩
    have hh1 : (w.alloc (.cells ROW 3)).drew.heap[w.heap.size]? = some (.cells ROW 3 (0,0)):=heap_alloc_new w (.cells ROW 3)
    obtain ⟨cur1,q1,q2,q3⟩:=setCells_row (encs (Value.int .i64) l2) i _ ROW hh1 (by rw [hvl];omega)
    obtain ⟨cur2,q4,q5,q6⟩:=setCells_row ((encs (Value.int .i64) l0).drop i) (i + l2.length) ((w.alloc (.cells ROW 3)).drew.setCells w.heap.size i (encs (Value.int .i64) l2)).drew cur1 q1 (by rw [List.length_drop,hcl];omega)
    have hw0 : w0.heap.size ≤ w.heap.size:=hB.size
    refine ⟨_,rfl,?_,ins_below (below_drew (ins_below (below_drew (below_alloc hB _)) hw0 _ _)) hw0 _ _,ins_kept (Kept.drew (ins_kept (Kept.drew (Kept.alloc (Kept.refl _ _) _)) (.inr (Nat.le_refl _)) _ _)) (.inr (Nat.le_refl _)) _ _⟩
    refine ins_row (W:=w) q4 hw0 hL hG1 hG2 (by omega) ?_ (.inr (Nat.le_refl _))
    have hlc : ROW.toList.length = G:=by rw [Array.length_toList];omega
    have hl1 : (encs (Value.int .i64) l0).length = l0.length:=hcl
    rw [q6,q3,hE]
    exact ins_list2 _ _ _ l0.length l2.length i G hcl hvl hlc hG1 hi hG4
end

/-! ### impl_insert: function 84 -/
def impl_insert.f (k : Nat) (l0 : List Int) (a1 : Int) : Option (List Int):=(slices_BinarySearch_int_int.f k l0 a1).bind fun bt358=>(if bt358.2 = true then (some l0) else ((slices_Insert_int_int.f l0 bt358.1 (([a1] : List Int))).bind fun t363=>(some t363)))
theorem impl_insert.mono : ∀ a0 a1 k,LeO (impl_insert.f k a0 a1) (impl_insert.f (k + 1) a0 a1):=by
 intro a0 a1 k
 unfold impl_insert.f
 repeat' first
   | (with_reducible exact slices_BinarySearch_int_int.mono _ _ _)
   | (with_reducible exact LeO.refl _)
   | (with_reducible exact LeO.none _)
   | (with_reducible refine LeO.ite ?_ ?_)
   | (with_reducible refine LeO.bind ?_ (fun _=>?_))
   | exact slices_BinarySearch_int_int.mono _ _ _
   | exact LeO.none _
   | refine LeO.ite ?_ ?_
   | refine LeO.bind ?_ (fun _=>?_)
set_option maxHeartbeats 8000000 in
set_option maxRecDepth 100000 in
theorem impl_insert.calls (k : Nat) (P0_ : Nat → Prop) (u9000_ : Value) (l0 : List Int) (a1 : Int) (r : List Int) (w0 w : World) (hB : Below w0.heap.size w0 w) (ho0 : Kd.R (Kd.int .i64) 3 w w0.heap.size P0_ u9000_ l0) (h : impl_insert.f k l0 a1 = some r) :
  Calls Try.prog 84 #[u9000_,.int .i64 a1] w fun e w'=>∃ v0_ : Value,e = .returned (v0_)∧Kd.R (Kd.int .i64) 3 w' w0.heap.size (fun k_=>(P0_ k_ ∨ w.heap.size ≤ k_)) v0_ r∧Below w0.heap.size w0 w'∧Kept w w' (fun k_=>P0_ k_):=by
 have HO0:=Aside0.mk (show Kd.R (Kd.int .i64) 3 w w0.heap.size (fun k_=>(P0_ k_ ∨ w.heap.size ≤ k_)) u9000_ l0 from Kd.R_mono ho0 (fun k_ hk=>(.inl hk)))
 have HK:=Aside0.mk (Kept.refl w (fun k_=>P0_ k_))
 have HW0:=Aside0.mk hB.size
 have HB:=Aside0.mk hB
 clear hB
 have H : ((slices_BinarySearch_int_int.f k l0 a1).bind fun bt358=>(if bt358.2 = true then (some l0) else ((slices_Insert_int_int.f l0 bt358.1 (([a1] : List Int))).bind fun t363=>(some t363)))) = some r:=h
 clear h
 replace H:=Option.bind_eq_some_iff.mp H
 obtain ⟨⟨t358,t359⟩,A30,H⟩:=H
 replace H : (if t359 = true then (some l0) else ((slices_Insert_int_int.f l0 t358 (([a1] : List Int))).bind fun t363=>(some t363))) = some r:=H
 have A3:=Aside0.mk A30
 clear A30
 by_cases c4 : t359 = true
 ·subst c4
  have H1 : (some l0) = some r:=by rw [if_pos rfl] at H;exact H
  clear H
  have H:=H1
  clear H1
  obtain rfl:=Option.some.inj H
  obtain ⟨Ao5,co5,eo5⟩:=Kd.R_slice HO0.out
  subst eo5
  go_enter Try.func84,Try.ntmps84
  go_wp2_with (first|((with_reducible refine gate_callee (f:=89) rfl ?_);refine goesL_ (some 10) rfl rfl Try.func89 (by kernel_rfl) rfl #[.slice Ao5 l0.length co5,.int .i64 a1] rfl (by (try simp only [List.map_toArray,List.map_cons,List.map_nil]);first|done|rfl|(simp only [List.length_drop,List.length_take];rfl)) ?_;(with_reducible refine (slices_BinarySearch_int_int.calls k _ _ l0 a1 t358 true _ ?side1 ?side2 A3.out).mono ?_);(case side1=>repeat (first|exact (Kd.R_reads' HO0.out).2.2|(with_reducible first|apply Kd.C_alloc|apply Kd.C_drewN|apply Kd.C_drew)));(case side2=>exact (Kd.R_reads' HO0.out).2.1);rintro e w' ⟨rfl,⟨nd,rfl⟩⟩;refine ⟨_,rfl,?_⟩))
  go_ret
  exact ⟨_,by first|rfl|(simp [*,errW_none,errW_some] <;> rfl),by exact HO0.out,by repeat (first|exact HB.out|apply below_alloc|apply pw_below_drewN|apply below_drew1),by repeat (first|(with_reducible first|exact HK.out|apply Kept.alloc|apply Kept.drewN|apply Kept.drew)|exact HK.out)⟩
 ·replace c4:=Bool.eq_false_iff.mpr c4
  subst c4
  have H1 : ((slices_Insert_int_int.f l0 t358 (([a1] : List Int))).bind fun t363=>(some t363)) = some r:=by rw [if_neg (show ¬ (false = true) by decide)] at H;exact H
  clear H
  have H:=H1
  clear H1
  obtain ⟨y360,hy360⟩ : ∃ y_ : List Int,y_ = (([a1] : List Int)):=⟨_,rfl⟩
  replace H : ((slices_Insert_int_int.f l0 t358 y360).bind fun t363=>(some t363)) = some r:=by first|(rw [hy360];with_reducible exact H)|(have H2_:=(Option.bind_some _ _).symm.trans H;rw [hy360];with_reducible exact H2_)|(have H2_:=(Option.bind_some _ _).symm.trans H;with_reducible exact H2_)|with_reducible exact H|(rw [hy360];exact H)|exact H
  have Ny360:=Aside0.mk hy360
  clear hy360
  replace H:=Option.bind_eq_some_iff.mp H
  obtain ⟨t363,A60,H⟩:=H
  replace H : (some t363) = some r:=H
  have A6:=Aside0.mk A60
  clear A60
  obtain rfl:=Option.some.inj H
  obtain ⟨Ao7,co7,eo7⟩:=Kd.R_slice HO0.out
  subst eo7
  go_enter Try.func84,Try.ntmps84
  go_wp2_with (first|((with_reducible refine gate_callee (f:=89) rfl ?_);refine goesL_ (some 10) rfl rfl Try.func89 (by kernel_rfl) rfl #[.slice Ao7 l0.length co7,.int .i64 a1] rfl (by (try simp only [List.map_toArray,List.map_cons,List.map_nil]);first|done|rfl|(simp only [List.length_drop,List.length_take];rfl)) ?_;(with_reducible refine (slices_BinarySearch_int_int.calls k _ _ l0 a1 t358 false _ ?side1 ?side2 A3.out).mono ?_);(case side1=>repeat (first|exact (Kd.R_reads' HO0.out).2.2|(with_reducible first|apply Kd.C_alloc|apply Kd.C_drewN|apply Kd.C_drew)));(case side2=>exact (Kd.R_reads' HO0.out).2.1);rintro e w' ⟨rfl,⟨nd,rfl⟩⟩;refine ⟨_,rfl,?_⟩)|((with_reducible refine gate_dst (N:=18) rfl ?_);refine Kd.R_lit (Kd.int .i64) _ 3 ?hg (N:=18) ?hd (xs:=([a1] : List Int)) (inner:=[.int .i64 a1]) (ok:=fun _=>True) (okp:=fun _=>True) ?hr ?hp (fun _ hk=>hk) trivial (Below.refl _ _) (Nat.le_refl _) (by simp) ?_;(case hd=>rfl);(case hg=>rfl);(case hr=>first|(go_simp;done)|(go_simp;rfl));(case hp=>exact (Reps.one (show Kd.M (Kd.int .i64) _ _ _ a1 [.int .i64 a1] from rfl) (Reps.none _ _)));intro v361 w8 ho9 hb hg_ hnew_;clear hg_ hnew_;(first|rw [← Ny360.out] at ho9|(simp only [Int.reduceToNat] at ho9;rw [← Ny360.out] at ho9));have n0_:=Aside0.mk (Kd.R_elder' (by exact HO0.out) (Kd.R_base ho9) hb);have n1_:=Aside0.mk (Kd.R_lower (Kd.R_new' (Kd.R_newM (M:=fun k_=>(P0_ k_ ∨ w.heap.size ≤ k_)) ho9 (by first|exact HK.out.1|exact (show Kept w _ (fun k_=>P0_ k_) from by repeat (first|(with_reducible first|exact HK.out|apply Kept.alloc|apply Kept.drewN|apply Kept.drew)|exact HK.out)).1) (fun k_ h_=>.inr h_)) (Kd.R_lt (by exact HO0.out))) (below_size (by repeat (first|exact HB.out|apply below_alloc|apply pw_below_drewN|apply below_drew1))));have n2_:=Aside0.mk (Kept.below (S:=(fun k_=>P0_ k_)) (by repeat (first|(with_reducible first|exact HK.out|apply Kept.alloc|apply Kept.drewN|apply Kept.drew)|exact HK.out)) hb);have n3_:=Aside0.mk (below_step (by repeat (first|exact HB.out|apply below_alloc|apply pw_below_drewN|apply below_drew1)) hb);clear HO0;clear HK;clear HB;have HO0:=n0_;have HO362:=n1_;have HK:=n2_;have HB:=n3_;clear n0_ n1_ n2_ n3_;clear hb ho9;obtain ⟨Ao10,co10,eo10⟩:=Kd.R_slice HO362.out;subst eo10)|((with_reducible refine gate_callee (f:=90) rfl ?_);refine goesL_ (some 19) rfl rfl Try.func90 (by kernel_rfl) rfl #[.slice Ao7 l0.length co7,.int .i64 t358,.slice Ao10 y360.length co10] rfl (by (try simp only [List.map_toArray,List.map_cons,List.map_nil]);first|done|rfl|(simp only [List.length_drop,List.length_take];rfl)) ?_;(with_reducible refine (slices_Insert_int_int.calls (fun k_=>some k_ = (.slice Ao7 l0.length co7 : Value).ownBlock) (.slice Ao7 l0.length co7) l0 t358 _ _ y360 t363 w0 _ ?side1 ?side2 ?side3 ?side4 A6.out).mono ?_);(case side1=>repeat (first|exact HB.out|apply below_alloc|apply pw_below_drewN|apply below_drew1));(case side2=>exact Kd.R_tight rfl HO0.out);(case side3=>exact Kd.C_kept_own (HO362.out) (fun k_ hk_ hs_=>(hk_.2) hs_));(case side4=>exact (Kd.R_reads' HO362.out).2.1);rintro e w11 ⟨v364,rfl,ho0,hb,hkp⟩;refine ⟨_,rfl,?_⟩;have n0_:=Aside0.mk (Kd.R_mono (ok':=fun k_=>(P0_ k_ ∨ w.heap.size ≤ k_)∧some k_ ≠ (v364 : Value).ownBlock) (Kd.R_keptB (HO362.out) hkp (fun k_ hk_ hs_=>(hk_.2) hs_)) (fun k_ hk_=>⟨hk_.1.1.1,fun e_=>Or.elim (ho0.1 k_ e_.symm) (fun hs_=>hk_.2.1 hs_) (fun hn_=>Nat.not_le.2 hk_.2.2 hn_)⟩));have n1_:=Aside0.mk (Kd.R_mono (ok':=fun k_=>(P0_ k_ ∨ w.heap.size ≤ k_)∧some k_ ≠ (.slice Ao10 y360.length co10 : Value).ownBlock) ho0 (fun k_ hk_=>⟨Or.elim hk_ (fun hs_=>(HO0.out.1 k_ (hs_).symm).1) (fun hn_=>(.inr (Nat.le_trans (by first|exact HK.out.1|exact (show Kept w _ (fun k_=>P0_ k_) from by repeat (first|(with_reducible first|exact HK.out|apply Kept.alloc|apply Kept.drewN|apply Kept.drew)|exact HK.out)).1) hn_))),Or.elim hk_ (fun hs_=>fun e_=>((HO362.out.1 k_ e_.symm).2) hs_) (fun hn_=>(Kd.fresh' (Kd.R_lt (by exact HO362.out)) k_ hn_))⟩));have n2_:=Aside0.mk (Kept.then_ (S:=(fun k_=>P0_ k_)) (by repeat (first|(with_reducible first|exact HK.out|apply Kept.alloc|apply Kept.drewN|apply Kept.drew)|exact HK.out)) hkp (fun k_ hs_=>(fun e_=>(HO0.out.1 k_ e_.symm).1) hs_));have n3_:=Aside0.mk (hb);clear HO362;clear HK;clear HB;clear HO0;have HO362:=n0_;have HO365:=n1_;have HK:=n2_;have HB:=n3_;clear n0_ n1_ n2_ n3_;(try clear hb);(try clear hkp);(try clear hbx);(try clear ho0)))
  go_ret
  exact ⟨_,by first|rfl|(simp [*,errW_none,errW_some] <;> rfl),by exact Kd.R_mono HO365.out (fun _ hk=>hk.1),by repeat (first|exact HB.out|apply below_alloc|apply pw_below_drewN|apply below_drew1),by repeat (first|(with_reducible first|exact HK.out|apply Kept.alloc|apply Kept.drewN|apply Kept.drew)|exact HK.out)⟩

/-! ### impl_Space_lay: function 70 -/
def impl_Space_lay.f (k : Nat) (l0_0 : List (List Int)) (l0_1 : List Int) (l0_2 : List Int) (l0_3 : List Int) (a1 : Int) (l2 : List Int) : Option ((List (List Int)) × List Int × List Int × List Int):=(slices_Clone_byte_byte.f l2).bind fun t366=>(if 0 ≤ a1 then (if a1 < (l0_0.length : Int) then ((impl_insert.f k l0_3 a1).bind fun t370=>(some ((l0_0.set (a1 : Int).toNat t366),l0_1,l0_2,t370))) else (none)) else (none))
theorem impl_Space_lay.mono : ∀ a0 a1 a2 a3 a4 a5 k,LeO (impl_Space_lay.f k a0 a1 a2 a3 a4 a5) (impl_Space_lay.f (k + 1) a0 a1 a2 a3 a4 a5):=by
 intro a0 a1 a2 a3 a4 a5 k
 unfold impl_Space_lay.f
 repeat' first
   | (with_reducible exact impl_insert.mono _ _ _)
   | (with_reducible exact LeO.refl _)
   | (with_reducible exact LeO.none _)
   | (with_reducible refine LeO.ite ?_ ?_)
   | (with_reducible refine LeO.bind ?_ (fun _=>?_))
   | exact impl_insert.mono _ _ _
   | exact LeO.none _
   | refine LeO.ite ?_ ?_
   | refine LeO.bind ?_ (fun _=>?_)
def impl_Space_lay.T0 : Bool × List (List Nat × List Nat):=(true,[([],[]),([0],[0]),([1],[1]),([2],[2]),([],[]),([],[]),([5],[5]),([3,4,0,1,2,3,4,5,6],[3,4]),([7,6,6,0,1,2,3,4,5,6],[6,7])])
def impl_Space_lay.B0 : List Nat:=[0,1,3,7,0,0,32,127,255]
theorem impl_Space_lay.tab0 : rtab .any (opsOf Try.f70 0) = impl_Space_lay.T0:=by kernel_rfl
theorem impl_Space_lay.bits0 : waitsOk impl_Space_lay.T0.2 impl_Space_lay.B0 = true:=by kernel_rfl
set_option maxHeartbeats 8000000 in
set_option maxRecDepth 100000 in
theorem impl_Space_lay.calls (k : Nat) (g0_ : Nat) (P0_0_ : Nat → Prop) (u9000_ : Value) (l0_0 : List (List Int)) (P0_1_ : Nat → Prop) (u9001_ : Value) (l0_1 : List Int) (P0_2_ : Nat → Prop) (u9002_ : Value) (l0_2 : List Int) (P0_3_ : Nat → Prop) (u9003_ : Value) (l0_3 : List Int) (a1 : Int) (A2 : Option Addr) (c2 : Nat) (l2 : List Int) (r1 : List (List Int)) (r2 : List Int) (r3 : List Int) (r4 : List Int) (w0 w : World) (hB : Below w0.heap.size w0 w) (hg0_ : w.heap[g0_]? = some (.cells #[u9000_,u9001_,u9002_,u9003_] 29 (0,0))) (hge0_ : w0.heap.size ≤ g0_) (ho0_0 : Kd.S (Kd.slice 5 (Kd.int .u8)) 23 w w0.heap.size P0_0_ u9000_ l0_0) (hp0_0_0_1 : ∀ k_,P0_0_ k_ → ¬ P0_1_ k_) (ho0_1 : Kd.R (Kd.int .u8) 5 w w0.heap.size P0_1_ u9001_ l0_1) (ho0_2 : Kd.R (Kd.int .i64) 3 w w0.heap.size P0_2_ u9002_ l0_2) (hp0_2_0_3 : ∀ k_,P0_2_ k_ → ¬ P0_3_ k_) (ho0_3 : Kd.R (Kd.int .i64) 3 w w0.heap.size P0_3_ u9003_ l0_3) (hp0_3_0_2 : ∀ k_,P0_3_ k_ → ¬ P0_2_ k_) (hr2 : ∀ W_,Kept w W_ (fun k_=>(P0_0_ k_ ∨ P0_1_ k_ ∨ P0_2_ k_ ∨ P0_3_ k_) ∨ k_ = g0_) → Kd.C (Kd.int .u8) W_ A2 l2.length l2) (hc2 : l2.length ≤ c2) (h : impl_Space_lay.f k l0_0 l0_1 l0_2 l0_3 a1 l2 = some (r1,r2,r3,r4)) :
  Calls Try.prog 70 #[.pointer (some ⟨g0_,0,none⟩),.int .i64 a1,.slice A2 l2.length c2] w fun e w'=>∃ v0_ v1_ v2_ v3_ : Value,e = .returned (.tuple #[])∧Kd.S (Kd.slice 5 (Kd.int .u8)) 23 w' w0.heap.size (fun k_=>((P0_0_ k_ ∨ P0_1_ k_ ∨ P0_2_ k_ ∨ P0_3_ k_) ∨ w.heap.size ≤ k_)∧some k_ ≠ (v1_ : Value).ownBlock) v0_ r1∧Kd.R (Kd.int .u8) 5 w' w0.heap.size (fun k_=>((P0_0_ k_ ∨ P0_1_ k_ ∨ P0_2_ k_ ∨ P0_3_ k_) ∨ w.heap.size ≤ k_)) v1_ r2∧Kd.R (Kd.int .i64) 3 w' w0.heap.size (fun k_=>((P0_0_ k_ ∨ P0_1_ k_ ∨ P0_2_ k_ ∨ P0_3_ k_) ∨ w.heap.size ≤ k_)∧some k_ ≠ (v3_ : Value).ownBlock) v2_ r3∧Kd.R (Kd.int .i64) 3 w' w0.heap.size (fun k_=>((P0_0_ k_ ∨ P0_1_ k_ ∨ P0_2_ k_ ∨ P0_3_ k_) ∨ w.heap.size ≤ k_)∧some k_ ≠ (v2_ : Value).ownBlock) v3_ r4∧w'.heap[g0_]? = some (.cells #[v0_,v1_,v2_,v3_] 29 (0,0))∧Below w0.heap.size w0 w'∧Kept w w' (fun k_=>(P0_0_ k_ ∨ P0_1_ k_ ∨ P0_2_ k_ ∨ P0_3_ k_) ∨ k_ = g0_):=by
 have HO0_0:=Aside0.mk (show Kd.S (Kd.slice 5 (Kd.int .u8)) 23 w w0.heap.size (fun k_=>((P0_0_ k_ ∨ P0_1_ k_ ∨ P0_2_ k_ ∨ P0_3_ k_) ∨ w.heap.size ≤ k_)∧some k_ ≠ (u9001_ : Value).ownBlock) u9000_ l0_0 from Kd.S_mono ho0_0 (fun k_ hk=>⟨(.inl (.inl hk)),fun e_=>hp0_0_0_1 k_ hk (ho0_1.1 k_ e_.symm)⟩))
 have HO0_1:=Aside0.mk (show Kd.R (Kd.int .u8) 5 w w0.heap.size (fun k_=>((P0_0_ k_ ∨ P0_1_ k_ ∨ P0_2_ k_ ∨ P0_3_ k_) ∨ w.heap.size ≤ k_)) u9001_ l0_1 from Kd.R_mono ho0_1 (fun k_ hk=>(.inl (.inr (.inl hk)))))
 have HO0_2:=Aside0.mk (show Kd.R (Kd.int .i64) 3 w w0.heap.size (fun k_=>((P0_0_ k_ ∨ P0_1_ k_ ∨ P0_2_ k_ ∨ P0_3_ k_) ∨ w.heap.size ≤ k_)∧some k_ ≠ (u9003_ : Value).ownBlock) u9002_ l0_2 from Kd.R_mono ho0_2 (fun k_ hk=>⟨(.inl (.inr (.inr (.inl hk)))),fun e_=>hp0_2_0_3 k_ hk (ho0_3.1 k_ e_.symm)⟩))
 have HO0_3:=Aside0.mk (show Kd.R (Kd.int .i64) 3 w w0.heap.size (fun k_=>((P0_0_ k_ ∨ P0_1_ k_ ∨ P0_2_ k_ ∨ P0_3_ k_) ∨ w.heap.size ≤ k_)∧some k_ ≠ (u9002_ : Value).ownBlock) u9003_ l0_3 from Kd.R_mono ho0_3 (fun k_ hk=>⟨(.inl (.inr (.inr (.inr hk)))),fun e_=>hp0_3_0_2 k_ hk (ho0_2.1 k_ e_.symm)⟩))
 have HR2:=Aside0.mk hr2
 have HC2:=Aside0.mk hc2
 clear hr2 hc2
 have BK0:=Aside0.mk hg0_
 clear hg0_
 have GE0:=Aside0.mk hge0_
 clear hge0_
 have HK:=Aside0.mk (Kept.refl w (fun k_=>(P0_0_ k_ ∨ P0_1_ k_ ∨ P0_2_ k_ ∨ P0_3_ k_) ∨ k_ = g0_))
 have HW0:=Aside0.mk hB.size
 have HB:=Aside0.mk hB
 clear hB
 have H : ((slices_Clone_byte_byte.f l2).bind fun t366=>(if 0 ≤ a1 then (if a1 < (l0_0.length : Int) then ((impl_insert.f k l0_3 a1).bind fun t370=>(some ((l0_0.set (a1 : Int).toNat t366),l0_1,l0_2,t370))) else (none)) else (none))) = some (r1,r2,r3,r4):=h
 clear h
 replace H:=Option.bind_eq_some_iff.mp H
 obtain ⟨t366,A40,H⟩:=H
 replace H : (if 0 ≤ a1 then (if a1 < (l0_0.length : Int) then ((impl_insert.f k l0_3 a1).bind fun t370=>(some ((l0_0.set (a1 : Int).toNat t366),l0_1,l0_2,t370))) else (none)) else (none)) = some (r1,r2,r3,r4):=H
 have A4:=Aside0.mk A40
 clear A40
 by_cases c5 : 0 ≤ a1
 ·rw [if_pos c5] at H
  have c5b0 : decide (0 ≤ a1) = true:=decide_eq_true c5
  clear c5
  by_cases c6 : a1 < (l0_0.length : Int)
  ·rw [if_pos c6] at H
   have c6b0 : decide (a1 < (l0_0.length : Int)) = true:=decide_eq_true c6
   clear c6
   obtain ⟨y369,hy369⟩ : ∃ y_ : List (List Int),y_ = (l0_0.set (a1 : Int).toNat t366):=⟨_,rfl⟩
   replace H : ((impl_insert.f k l0_3 a1).bind fun t370=>(some (y369,l0_1,l0_2,t370))) = some (r1,r2,r3,r4):=by first|(rw [hy369];with_reducible exact H)|(have H2_:=(Option.bind_some _ _).symm.trans H;rw [hy369];with_reducible exact H2_)|(have H2_:=(Option.bind_some _ _).symm.trans H;with_reducible exact H2_)|with_reducible exact H|(rw [hy369];exact H)|exact H
   have Ny369:=Aside0.mk hy369
   clear hy369
   replace H:=Option.bind_eq_some_iff.mp H
   obtain ⟨t370,A80,H⟩:=H
   replace H : (some (y369,l0_1,l0_2,t370)) = some (r1,r2,r3,r4):=H
   have A8:=Aside0.mk A80
   clear A80
   simp only [Option.some.injEq,Prod.mk.injEq] at H
   obtain ⟨rfl,rfl,rfl,rfl⟩:=H
   go_enter Try.func70,Try.ntmps70
   try go_wp2
   have n0_:=Aside0.mk (Kd.S_drew HO0_0.out)
   have n1_:=Aside0.mk (Kd.R_drew HO0_1.out)
   have n2_:=Aside0.mk (Kd.R_drew HO0_2.out)
   have n3_:=Aside0.mk (Kd.R_drew HO0_3.out)
   have n4_:=Aside0.mk (blk_drew BK0.out)
   have n5_:=Aside0.mk (Kept.drew HK.out)
   have n6_:=Aside0.mk (below_drew1 HB.out)
   clear HO0_0
   clear HO0_1
   clear HO0_2
   clear HO0_3
   clear BK0
   clear HK
   clear HB
   have HO0_0:=n0_
   have HO0_1:=n1_
   have HO0_2:=n2_
   have HO0_3:=n3_
   have BK0:=n4_
   have HK:=n5_
   have HB:=n6_
   clear n0_ n1_ n2_ n3_ n4_ n5_ n6_
   refine start_ (n:=9) (S:=fun w'=>w'.cell? ⟨g0_,0,none⟩ = some (u9000_)∧w'.cell? ⟨g0_,1,none⟩ = some (u9001_)∧w'.cell? ⟨g0_,2,none⟩ = some (u9002_)∧w'.cell? ⟨g0_,3,none⟩ = some (u9003_)) (ds:=[8]) #[false,false,false,false,false,false,false,false,false] (by kernel_rfl) rfl rfl ⟨(blk_cell BK0.out 0).trans rfl,(blk_cell BK0.out 1).trans rfl,(blk_cell BK0.out 2).trans rfl,(blk_cell BK0.out 3).trans rfl⟩ (fun hHeld=>?_);refine with_tabW impl_Space_lay.tab0 impl_Space_lay.bits0 (fun HT_ HW_=>?_)
   generalize w.drew = w9 at HO0_0 HO0_1 HO0_2 HO0_3 BK0 HK HB hHeld ⊢
   refine pure_ (i:=0) (N:=some 6) (v:=?_) (a':=?_) #[true,false,false,false,false,false,false,false,false] rfl rfl (any_of HT_.out (by kernel_rfl)) (fun _ _ _ h=>h) (Or.inl ⟨by rfl,?_⟩) ?_ ?_
   rotate_left
   ·intro w'
    go_simp
    with_reducible rfl
   rotate_left
   ·simp only [Act.put,List.setIfInBounds_toArray,List.set_cons_zero,List.set_cons_succ,i64_w,i32_w]
    rfl
   refine pure_ (i:=1) (N:=some 7) (v:=?_) (a':=?_) #[true,true,false,false,false,false,false,false,false] rfl rfl (any_of HT_.out (by kernel_rfl)) (fun _ _ _ h=>h) (Or.inl ⟨by rfl,?_⟩) ?_ ?_
   rotate_left
   ·intro w'
    go_simp
    with_reducible rfl
   rotate_left
   ·simp only [Act.put,List.setIfInBounds_toArray,List.set_cons_zero,List.set_cons_succ,i64_w,i32_w]
    rfl
   refine pure_ (i:=2) (N:=some 8) (v:=?_) (a':=?_) #[true,true,true,false,false,false,false,false,false] rfl rfl (any_of HT_.out (by kernel_rfl)) (fun _ _ _ h=>h) (Or.inl ⟨by rfl,?_⟩) ?_ ?_
   rotate_left
   ·intro w'
    go_simp
    with_reducible rfl
   rotate_left
   ·simp only [Act.put,List.setIfInBounds_toArray,List.set_cons_zero,List.set_cons_succ,i64_w,i32_w]
    rfl
   refine pure_ (i:=4) (N:=some 10) (v:=?_) (a':=?_) #[true,true,true,false,true,false,false,false,false] rfl rfl (any_of HT_.out (by kernel_rfl)) (fun _ _ _ h=>h) (Or.inl ⟨by rfl,?_⟩) ?_ ?_
   rotate_left
   ·intro w'
    go_simp
    with_reducible rfl
   rotate_left
   ·simp only [Act.put,List.setIfInBounds_toArray,List.set_cons_zero,List.set_cons_succ,i64_w,i32_w]
    rfl
   refine pure_ (i:=5) (N:=some 11) (v:=?_) (a':=?_) #[true,true,true,false,true,true,false,false,false] rfl rfl (any_of HT_.out (by kernel_rfl)) (fun _ _ _ h=>h) (Or.inl ⟨by rfl,?_⟩) ?_ ?_
   rotate_left
   ·intro w'
    go_simp
    with_reducible rfl
   rotate_left
   ·simp only [Act.put,List.setIfInBounds_toArray,List.set_cons_zero,List.set_cons_succ,i64_w,i32_w]
    rfl
   refine take_ (i:=3) (N:=some 9) (v:=?_) (a':=?_) #[true,true,true,true,true,true,false,false,false] rfl rfl (take_ofW HT_.out HW_.out (by kernel_rfl)) (fun _ _ _ h=>h) (Or.inl ⟨by rfl,?_⟩) hHeld ?_ ?_
   rotate_left
   ·rintro w' ⟨s0,s1,s2,s3⟩
    go_simp
    with_reducible rfl
   rotate_left
   ·simp only [Act.put,List.setIfInBounds_toArray,List.set_cons_zero,List.set_cons_succ,i64_w,i32_w]
    rfl
   refine one_ (i:=6) (N:=some 12) #[true,true,true,true,true,true,true,false,false] rfl rfl (one_of HT_.out (by kernel_rfl)) (by decide) (fun K hK=>?_)
   refine goes_ Try.func60 (by kernel_rfl) rfl #[.slice A2 l2.length c2] (by rfl) rfl rfl (by (try simp only [List.map_toArray,List.map_cons,List.map_nil]);first|done|rfl|(simp only [List.length_drop,List.length_take];rfl)) ?_
   with_reducible refine (slices_Clone_byte_byte.calls _ _ l2 t366 _ ?side1 ?side2 A4.out).mono ?_
   (case side1=>exact Kd.C_kept_now HR2.out (by repeat (first|(with_reducible first|exact HK.out|apply Kept.alloc|apply Kept.drewN|apply Kept.drew|refine Kept.setCell ?_ (.inl (.inr rfl)) _)|exact HK.out)))
   (case side2=>exact HC2.out)
   rintro e w10 ⟨v367,rfl,ho0,hb⟩
   refine ⟨_,rfl,?_⟩
   have n0_:=Aside0.mk (Kd.S_elder' (by exact HO0_0.out) (Kd.R_base ho0) hb)
   have n1_:=Aside0.mk (Kd.R_elder' (by exact HO0_1.out) (Kd.R_base ho0) hb)
   have n2_:=Aside0.mk (Kd.R_below (by exact HO0_2.out) hb)
   have n3_:=Aside0.mk (Kd.R_below (by exact HO0_3.out) hb)
   have n4_:=Aside0.mk (Kd.R_lower (Kd.R_new' (Kd.R_newM (M:=fun k_=>((P0_0_ k_ ∨ P0_1_ k_ ∨ P0_2_ k_ ∨ P0_3_ k_) ∨ w.heap.size ≤ k_)) ho0 (by first|exact HK.out.1|exact (show Kept w _ (fun k_=>(P0_0_ k_ ∨ P0_1_ k_ ∨ P0_2_ k_ ∨ P0_3_ k_) ∨ k_ = g0_) from by repeat (first|(with_reducible first|exact HK.out|apply Kept.alloc|apply Kept.drewN|apply Kept.drew|refine Kept.setCell ?_ (.inl (.inr rfl)) _)|exact HK.out)).1) (fun k_ h_=>.inr h_)) (Kd.R_lt (by exact HO0_1.out))) (below_size (by repeat (first|(with_reducible first|exact HB.out|apply below_alloc|apply pw_below_drewN|apply below_drew1|refine below_set ?_ GE0.out)|exact HB.out))))
   have n5_:=Aside0.mk (blk_below (g:=g0_) (o:=.cells #[u9000_,u9001_,u9002_,u9003_] 29 (0,0)) (by exact BK0.out) hb)
   have n6_:=Aside0.mk (Kept.below (S:=(fun k_=>(P0_0_ k_ ∨ P0_1_ k_ ∨ P0_2_ k_ ∨ P0_3_ k_) ∨ k_ = g0_)) (by repeat (first|(with_reducible first|exact HK.out|apply Kept.alloc|apply Kept.drewN|apply Kept.drew|refine Kept.setCell ?_ (.inl (.inr rfl)) _)|exact HK.out)) hb)
   have n7_:=Aside0.mk (below_step (by repeat (first|(with_reducible first|exact HB.out|apply below_alloc|apply pw_below_drewN|apply below_drew1|refine below_set ?_ GE0.out)|exact HB.out)) hb)
   clear HO0_0
   clear HO0_1
   clear HO0_2
   clear HO0_3
   clear BK0
   clear HK
   clear HB
   have HO0_0:=n0_
   have HO0_1:=n1_
   have HO0_2:=n2_
   have HO0_3:=n3_
   have HO368:=n4_
   have BK0:=n5_
   have HK:=n6_
   have HB:=n7_
   clear n0_ n1_ n2_ n3_ n4_ n5_ n6_ n7_
   (try clear hb)
   (try clear hb2)
   (try clear hk)
   (try clear hi)
   (try clear ho0)
   have p7 : 0 ≤ (a1 : Int):=of_decide_eq_true (by assumption)
   have q7 : (a1 : Int) < ((l0_0.length : Int) : Int):=of_decide_eq_true (by assumption)
   obtain ⟨go7,co7,eo7,gb7,gl7,cl7,HG7⟩:=Kd.S_form HO0_0.out (by omega)
   (first|cases eo7|(injection eo7 with ea_ en_ ec_;(first|subst ea_|(injection ea_ with ea_;subst ea_));subst ec_;clear en_))
   have GB7:=Aside0.mk gb7
   have GG7:=Aside0.mk HG7
   clear gb7 gl7 HG7
   have HMgo7:=Aside0.mk (show ((P0_0_ go7 ∨ P0_1_ go7 ∨ P0_2_ go7 ∨ P0_3_ go7) ∨ w.heap.size ≤ go7) from ((Kd.S_R HO0_0.out).1 _ rfl).1.1)
   obtain ⟨_,ce7,hcl7,hM7,hcc7,hfr7,_,_⟩:=Kd.S_elem HO0_0.out [] (a1 : Int) p7 q7
   obtain ⟨ve7_0,rfl,ge7_0⟩:=hM7
   have hx7_0:=hcc7 0 _ rfl
   have hf7_0:=hfr7 0
   (try simp only [show ((Kd.slice 5 (Kd.int .u8))).sz = 1 from rfl,Nat.mul_one,Nat.add_zero] at hx7_0)
   (try simp only [show ((Kd.slice 5 (Kd.int .u8))).sz = 1 from rfl,Nat.mul_one,Nat.add_zero] at hf7_0)
   (try clear hM7);clear hcl7 hcc7 hfr7
   replace p7:=eq_true p7
   replace q7:=eq_true q7
   obtain ⟨Ao11,co11,eo11⟩:=Kd.R_slice HO368.out
   (first|subst eo11|(injection eo11 with f1_ f2_ f3_;have f4_:=f1_.symm;have f5_:=f3_.symm;clear f1_ f2_ f3_;subst f4_;subst f5_))
   have HX12:=Aside0.mk (show Kd.S (Kd.slice 5 (Kd.int .u8)) 23 _ w0.heap.size (fun k_=>((fun k_=>((P0_0_ k_ ∨ P0_1_ k_ ∨ P0_2_ k_ ∨ P0_3_ k_) ∨ w.heap.size ≤ k_)∧some k_ ≠ (u9001_ : Value).ownBlock)) k_∧¬ ((fun k_=>some k_ = (.slice Ao11 t366.length co11 : Value).ownBlock)) k_) (.slice (some ⟨go7,0,none⟩) l0_0.length co7) l0_0 from (Kd.S_mono HO0_0.out (fun k_ hk=>⟨⟨hk.1.1,hk.1.2⟩,fun e_=>hk.2 e_⟩)))
   obtain ⟨oki12,ce12,hcl12,hM12,hcc12,hfr12,hoki12,hH12⟩:=Kd.S_elem HX12.out [] (a1 : Int) (of_decide_eq_true (by assumption)) (by have h_ : (a1 : Int) < ((l0_0.length : Int) : Int):=of_decide_eq_true (by assumption);first|exact h_|(have e_:=(Kd.S_reads' HO0_0.out).1;omega)|simpa using h_)
   obtain ⟨ve12_0,rfl,ge12_0⟩:=hM12
   have HP12:=(Kd.S_seg hH12 (of_decide_eq_true (by assumption)) (by have h_ : (a1 : Int) < ((l0_0.length : Int) : Int):=of_decide_eq_true (by assumption);first|exact h_|(have e_:=(Kd.S_reads' HO0_0.out).1;omega)|simpa using h_) (seg:=[.slice Ao11 t366.length co11]) (j:=0) (show 1 ≤ 1 from by decide) (x':=t366) (Kd.M_row (Kd.R_mono (Kd.R_tight rfl (Kd.R_mono (ok':=fun k_=>((fun k_=>((P0_0_ k_ ∨ P0_1_ k_ ∨ P0_2_ k_ ∨ P0_3_ k_) ∨ w.heap.size ≤ k_)∧some k_ ≠ (u9001_ : Value).ownBlock)) k_∧k_ ≠ go7) (Kd.R_apart' (HO368.out) (Kd.S_typed HO0_0.out) (by decide)) (fun k_ hk=>⟨⟨hk.1.1.1,hk.1.2⟩,fun e_=>(hk.2) (by rw [e_];rfl)⟩))) (fun _ h_=>Or.inr (h_)))) (fun _ hk=>hk) (fun k_ hk_=>((Kd.R_mono (ok':=fun k_=>((fun k_=>((P0_0_ k_ ∨ P0_1_ k_ ∨ P0_2_ k_ ∨ P0_3_ k_) ∨ w.heap.size ≤ k_)∧some k_ ≠ (u9001_ : Value).ownBlock)) k_∧k_ ≠ go7) (Kd.R_apart' (HO368.out) (Kd.S_typed HO0_0.out) (by decide)) (fun k_ hk=>⟨⟨hk.1.1.1,hk.1.2⟩,fun e_=>(hk.2) (by rw [e_];rfl)⟩))).1 k_ hk_.symm)).1
   (try simp only [show ((Kd.slice 5 (Kd.int .u8))).sz = 1 from rfl,Nat.mul_one,Nat.add_zero] at HP12)
   rw [← Ny369.out] at HP12
   have HQ12:=Aside0.mk HP12
   (try clear hM12);clear hcl12 hcc12 hfr12 HP12
   refine hK.out _ _ ⟨(blk_cell BK0.out 0).trans rfl,(blk_cell BK0.out 1).trans rfl,(blk_cell BK0.out 2).trans rfl,(blk_cell BK0.out 3).trans rfl⟩ (fun hHeld=>?_)
   clear hK K
   refine norm_ (a':=?_) ?_ ?_
   rotate_left
   ·show Act.put _ (some 12) _ = _
    simp only [Act.put,List.setIfInBounds_toArray,List.set_cons_zero,List.set_cons_succ,i64_w,i32_w]
    rfl
   refine pure_ (i:=7) (N:=some 13) (v:=?_) (a':=?_) #[true,true,true,true,true,true,true,true,false] rfl rfl (any_of HT_.out (by kernel_rfl)) (fun _ _ _ h=>h) (Or.inl ⟨by rfl,?_⟩) ?_ ?_
   rotate_left
   ·intro w'
    go_simp
    with_reducible rfl
   rotate_left
   ·simp only [Act.put,List.setIfInBounds_toArray,List.set_cons_zero,List.set_cons_succ,i64_w,i32_w]
    rfl
   refine last_ (i:=8) (N:=none) #[true,true,true,true,true,true,true,true,true] rfl rfl (one_of HT_.out (by kernel_rfl)) (by decide) (fun K hK=>?_)
   refine skip_ (w1:=?_) (by rfl) rfl ?_ ?_
   rotate_left
   ·go_simp
    rfl
   refine hK.out _ _ ?_
   clear hK K
   refine done_ (done_of HT_.out (by kernel_rfl)) ?_
   have n0_ : Aside0 (Kd.S (Kd.slice 5 (Kd.int .u8)) 23 (w10.setCell ⟨go7,(a1 : Int).toNat,none⟩ (.slice Ao11 t366.length co11)) w0.heap.size (fun k_=>((P0_0_ k_ ∨ P0_1_ k_ ∨ P0_2_ k_ ∨ P0_3_ k_) ∨ w.heap.size ≤ k_)∧some k_ ≠ (u9001_ : Value).ownBlock) (.slice (some ⟨go7,0,none⟩) l0_0.length co7) y369):=⟨by exact HQ12.out⟩
   have n1_ : Aside0 (Kd.R (Kd.int .u8) 5 (w10.setCell ⟨go7,(a1 : Int).toNat,none⟩ (.slice Ao11 t366.length co11)) w0.heap.size (fun k_=>((P0_0_ k_ ∨ P0_1_ k_ ∨ P0_2_ k_ ∨ P0_3_ k_) ∨ w.heap.size ≤ k_)) u9001_ l0_1):=⟨by exact Kd.R_mono (Kd.R_far (p:=⟨go7,(a1 : Int).toNat,none⟩) (Kd.R_types HO0_1.out GG7.out (by decide)) (fun _ hk=>hk.2) (.slice Ao11 t366.length co11)) (fun _ hk=>hk.1.1)⟩
   have n2_ : Aside0 (Kd.R (Kd.int .i64) 3 (w10.setCell ⟨go7,(a1 : Int).toNat,none⟩ (.slice Ao11 t366.length co11)) w0.heap.size (fun k_=>((P0_0_ k_ ∨ P0_1_ k_ ∨ P0_2_ k_ ∨ P0_3_ k_) ∨ w.heap.size ≤ k_)∧some k_ ≠ (u9003_ : Value).ownBlock) u9002_ l0_2):=⟨by exact Kd.R_mono (Kd.R_far (p:=⟨go7,(a1 : Int).toNat,none⟩) (Kd.R_types HO0_2.out GG7.out (by decide)) (fun _ hk=>hk.2) (.slice Ao11 t366.length co11)) (fun _ hk=>⟨hk.1.1,hk.1.2⟩)⟩
   have n3_ : Aside0 (Kd.R (Kd.int .i64) 3 (w10.setCell ⟨go7,(a1 : Int).toNat,none⟩ (.slice Ao11 t366.length co11)) w0.heap.size (fun k_=>((P0_0_ k_ ∨ P0_1_ k_ ∨ P0_2_ k_ ∨ P0_3_ k_) ∨ w.heap.size ≤ k_)∧some k_ ≠ (u9002_ : Value).ownBlock) u9003_ l0_3):=⟨by exact Kd.R_mono (Kd.R_far (p:=⟨go7,(a1 : Int).toNat,none⟩) (Kd.R_types HO0_3.out GG7.out (by decide)) (fun _ hk=>hk.2) (.slice Ao11 t366.length co11)) (fun _ hk=>⟨hk.1.1,hk.1.2⟩)⟩
   have n4_ : Aside0 ((w10.setCell ⟨go7,(a1 : Int).toNat,none⟩ (.slice Ao11 t366.length co11)).heap[g0_]? = some (.cells #[.slice (some ⟨go7,0,none⟩) l0_0.length co7,u9001_,u9002_,u9003_] 29 (0,0))):=⟨by refine blk_far ?_ (by have h_:=Kd.S_ne HO0_0.out BK0.out (by decide);intro e_;exact h_ (by rw [e_];rfl)) _;exact BK0.out⟩
   have n5_ : Aside0 (Kept w (w10.setCell ⟨go7,(a1 : Int).toNat,none⟩ (.slice Ao11 t366.length co11)) (fun k_=>(P0_0_ k_ ∨ P0_1_ k_ ∨ P0_2_ k_ ∨ P0_3_ k_) ∨ k_ = g0_)):=⟨by repeat (first|(with_reducible first|exact HK.out|apply Kept.alloc|apply Kept.drewN|apply Kept.drew|refine Kept.setCell ?_ (Or.imp_left Or.inl HMgo7.out) _|refine Kept.setCell ?_ (.inl (.inr rfl)) _)|exact HK.out)⟩
   have n6_ : Aside0 (Below w0.heap.size w0 (w10.setCell ⟨go7,(a1 : Int).toNat,none⟩ (.slice Ao11 t366.length co11))):=⟨by repeat (first|(with_reducible first|exact HB.out|apply below_alloc|apply pw_below_drewN|apply below_drew1|refine below_set ?_ GB7.out|refine below_set ?_ GE0.out)|exact HB.out)⟩
   (try clear HO0_0)
   (try clear HO0_1)
   (try clear HO0_2)
   (try clear HO0_3)
   (try clear BK0)
   (try clear HK)
   (try clear HB)
   generalize (w10.setCell ⟨go7,(a1 : Int).toNat,none⟩ (.slice Ao11 t366.length co11)) = w13 at n0_ n1_ n2_ n3_ n4_ n5_ n6_ ⊢
   have HO0_0:=n0_
   have HO0_1:=n1_
   have HO0_2:=n2_
   have HO0_3:=n3_
   have BK0:=n4_
   have HK:=n5_
   have HB:=n6_
   clear n0_ n1_ n2_ n3_ n4_ n5_ n6_
   have hcz14_0 : w13.cell? ⟨g0_,0,none⟩ = some (.slice (some ⟨go7,0,none⟩) l0_0.length co7):=(blk_cell BK0.out 0).trans rfl
   have hcz14_1 : w13.cell? ⟨g0_,1,none⟩ = some (u9001_):=(blk_cell BK0.out 1).trans rfl
   have hcz14_2 : w13.cell? ⟨g0_,2,none⟩ = some (u9002_):=(blk_cell BK0.out 2).trans rfl
   have hcz14_3 : w13.cell? ⟨g0_,3,none⟩ = some (u9003_):=(blk_cell BK0.out 3).trans rfl
   have hfz14_0:=blk_frozen BK0.out 0
   have hfz14_1:=blk_frozen BK0.out 1
   have hfz14_2:=blk_frozen BK0.out 2
   have hfz14_3:=blk_frozen BK0.out 3
   obtain ⟨Ao15,co15,eo15⟩:=Kd.R_slice HO0_3.out
   subst eo15
   try go_wp2_with (first|((with_reducible refine gate_callee (f:=84) rfl ?_);refine goesL_ (some 20) rfl rfl Try.func84 (by kernel_rfl) rfl #[.slice Ao15 l0_3.length co15,.int .i64 a1] rfl (by (try simp only [List.map_toArray,List.map_cons,List.map_nil]);first|done|rfl|(simp only [List.length_drop,List.length_take];rfl)) ?_;(with_reducible refine (impl_insert.calls k (fun k_=>some k_ = (.slice Ao15 l0_3.length co15 : Value).ownBlock) (.slice Ao15 l0_3.length co15) l0_3 a1 t370 w0 _ ?side1 ?side2 A8.out).mono ?_);(case side1=>repeat (first|(with_reducible first|exact HB.out|apply below_alloc|apply pw_below_drewN|apply below_drew1|refine below_set ?_ GE0.out)|exact HB.out));(case side2=>exact Kd.R_tight rfl HO0_3.out);rintro e w16 ⟨v371,rfl,ho0,hb,hkp⟩;refine ⟨_,rfl,?_⟩;have n0_:=Aside0.mk (blk_kept (g:=g0_) (o:=.cells #[.slice (some ⟨go7,0,none⟩) l0_0.length co7,u9001_,u9002_,.slice Ao15 l0_3.length co15] 29 (0,0)) (by exact BK0.out) hkp (fun hs_=>(fun e_=>(Kd.R_ne HO0_3.out BK0.out (by decide)) e_) hs_));have n1_:=Aside0.mk (Kd.S_mono (ok':=fun k_=>((P0_0_ k_ ∨ P0_1_ k_ ∨ P0_2_ k_ ∨ P0_3_ k_) ∨ w.heap.size ≤ k_)∧some k_ ≠ (u9001_ : Value).ownBlock) (Kd.S_keptB ((Kd.S_apart' HO0_0.out (Kd.R_typed HO0_3.out) (by decide))) hkp (fun k_ hk_ hs_=>(hk_.2) hs_)) (fun k_ hk_=>⟨hk_.1.1.1,hk_.1.1.2⟩));have n2_:=Aside0.mk (Kd.R_mono (ok':=fun k_=>((P0_0_ k_ ∨ P0_1_ k_ ∨ P0_2_ k_ ∨ P0_3_ k_) ∨ w.heap.size ≤ k_)) (Kd.R_keptB ((Kd.R_apart' HO0_1.out (Kd.R_typed HO0_3.out) (by decide))) hkp (fun k_ hk_ hs_=>(hk_.2) hs_)) (fun k_ hk_=>hk_.1.1));have n3_:=Aside0.mk (Kd.R_mono (ok':=fun k_=>((P0_0_ k_ ∨ P0_1_ k_ ∨ P0_2_ k_ ∨ P0_3_ k_) ∨ w.heap.size ≤ k_)∧some k_ ≠ (v371 : Value).ownBlock) (Kd.R_keptB (HO0_2.out) hkp (fun k_ hk_ hs_=>(hk_.2) hs_)) (fun k_ hk_=>⟨hk_.1.1,fun e_=>Or.elim (ho0.1 k_ e_.symm) (fun hs_=>hk_.2.1 hs_) (fun hn_=>Nat.not_le.2 hk_.2.2 hn_)⟩));have n4_:=Aside0.mk (Kd.R_mono (ok':=fun k_=>((P0_0_ k_ ∨ P0_1_ k_ ∨ P0_2_ k_ ∨ P0_3_ k_) ∨ w.heap.size ≤ k_)∧some k_ ≠ (u9002_ : Value).ownBlock) ho0 (fun k_ hk_=>⟨Or.elim hk_ (fun hs_=>(HO0_3.out.1 k_ (hs_).symm).1) (fun hn_=>(.inr (Nat.le_trans (by first|exact HK.out.1|exact (show Kept w _ (fun k_=>(P0_0_ k_ ∨ P0_1_ k_ ∨ P0_2_ k_ ∨ P0_3_ k_) ∨ k_ = g0_) from by repeat (first|(with_reducible first|exact HK.out|apply Kept.alloc|apply Kept.drewN|apply Kept.drew|refine Kept.setCell ?_ (.inl (.inr rfl)) _)|exact HK.out)).1) hn_))),Or.elim hk_ (fun hs_=>fun e_=>((HO0_2.out.1 k_ e_.symm).2) hs_) (fun hn_=>(Kd.fresh' (Kd.R_lt (by exact HO0_2.out)) k_ hn_))⟩));have n5_:=Aside0.mk (Kept.then_ (S:=(fun k_=>(P0_0_ k_ ∨ P0_1_ k_ ∨ P0_2_ k_ ∨ P0_3_ k_) ∨ k_ = g0_)) (by repeat (first|(with_reducible first|exact HK.out|apply Kept.alloc|apply Kept.drewN|apply Kept.drew|refine Kept.setCell ?_ (.inl (.inr rfl)) _)|exact HK.out)) hkp (fun k_ hs_=>(fun e_=>Or.imp_left Or.inl ((HO0_3.out.1 k_ e_.symm).1)) hs_));have n6_:=Aside0.mk (hb);clear BK0;clear HO0_0;clear HO0_1;clear HO0_2;clear HK;clear HB;clear HO0_3;have BK0:=n0_;have HO0_0:=n1_;have HO0_1:=n2_;have HO0_2:=n3_;have HO372:=n4_;have HK:=n5_;have HB:=n6_;clear n0_ n1_ n2_ n3_ n4_ n5_ n6_;(try clear hb);(try clear hkp);(try clear hbx);(try clear ho0);obtain ⟨Ao17,co17,eo17⟩:=Kd.R_slice HO372.out;subst eo17;have hcz18_0 : w16.cell? ⟨g0_,0,none⟩ = some (.slice (some ⟨go7,0,none⟩) l0_0.length co7):=(blk_cell BK0.out 0).trans rfl;have hcz18_1 : w16.cell? ⟨g0_,1,none⟩ = some (u9001_):=(blk_cell BK0.out 1).trans rfl;have hcz18_2 : w16.cell? ⟨g0_,2,none⟩ = some (u9002_):=(blk_cell BK0.out 2).trans rfl;have hcz18_3 : w16.cell? ⟨g0_,3,none⟩ = some (.slice Ao15 l0_3.length co15):=(blk_cell BK0.out 3).trans rfl;have hfz18_0:=blk_frozen BK0.out 0;have hfz18_1:=blk_frozen BK0.out 1;have hfz18_2:=blk_frozen BK0.out 2;have hfz18_3:=blk_frozen BK0.out 3))
   first|go_end0|((try simp only [Exit.inBlock,Exit.then]);refine bodyPost_ret (results_none rfl _ _ _) rfl ?_)
   (first|refine ⟨(.slice (some ⟨go7,0,none⟩) l0_0.length co7 : Value),(u9001_ : Value),(u9002_ : Value),(.slice Ao17 t370.length co17 : Value),?e_,?r_⟩|refine ⟨?e_,(.slice (some ⟨go7,0,none⟩) l0_0.length co7 : Value),(u9001_ : Value),(u9002_ : Value),(.slice Ao17 t370.length co17 : Value),?r_⟩|(simp only [← exists_and_left];refine ⟨(.slice (some ⟨go7,0,none⟩) l0_0.length co7 : Value),(u9001_ : Value),(u9002_ : Value),(.slice Ao17 t370.length co17 : Value),?e_,?r_⟩))
   (case e_=>first|rfl|(simp [errW_none,errW_some] <;> rfl)|(simp [*,errW_none,errW_some] <;> rfl))
   (case r_=>exact ⟨by exact Kd.S_mono (Kd.S_far (p:=⟨g0_,3,none⟩) (Kd.S_types HO0_0.out BK0.out (by decide)) (fun _ hk=>hk.2) (.slice Ao17 t370.length co17)) (fun _ hk=>⟨hk.1.1,hk.1.2⟩),by exact Kd.R_mono (Kd.R_far (p:=⟨g0_,3,none⟩) (Kd.R_types HO0_1.out BK0.out (by decide)) (fun _ hk=>hk.2) (.slice Ao17 t370.length co17)) (fun _ hk=>hk.1),by exact Kd.R_mono (Kd.R_far (p:=⟨g0_,3,none⟩) (Kd.R_types HO0_2.out BK0.out (by decide)) (fun _ hk=>hk.2) (.slice Ao17 t370.length co17)) (fun _ hk=>⟨hk.1.1,hk.1.2⟩),by exact Kd.R_mono (Kd.R_far (p:=⟨g0_,3,none⟩) (Kd.R_types HO372.out BK0.out (by decide)) (fun _ hk=>hk.2) (.slice Ao17 t370.length co17)) (fun _ hk=>⟨hk.1.1,hk.1.2⟩),by refine blk_put (cs:=#[.slice (some ⟨go7,0,none⟩) l0_0.length co7,u9001_,u9002_,.slice Ao15 l0_3.length co15]) ?_ 3 _ rfl;exact BK0.out,by repeat (first|(with_reducible first|exact HB.out|apply below_alloc|apply pw_below_drewN|apply below_drew1|refine below_set ?_ GE0.out)|exact HB.out),by repeat (first|(with_reducible first|exact HK.out|apply Kept.alloc|apply Kept.drewN|apply Kept.drew|refine Kept.setCell ?_ (.inl (.inr rfl)) _)|exact HK.out)⟩)
  ·rw [if_neg c6] at H
   exact absurd H (by simp)
 ·rw [if_neg c5] at H
  exact absurd H (by simp)

end Go.Proofs.Ytlphbpaojcdjaaa.PFnExactPutIn
