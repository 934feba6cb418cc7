-- Written by a program of this session over the print of the kit (wip/t/patch_print.py).
import Derived.Test.YtfjboeeogjepeaaPFnExactPlanOfx0
import Derived.Test.YtfjboeeogjepeaaPFnExactPlanOfx3
namespace Go.Proofs.Ytfjboeeogjepeaa.PFnExactPlanOf
open Go.RowKit Go.Proofs.YtfjboeeogjepeaaW.PrintWords Go.Proofs.YtfjboeeogjepeaaW.PrintLast Go.Proofs.YtfjboeeogjepeaaW.PrintMore
attribute [local go_sem] max2_int min2_int max_two min_two max_three min_three max_four min_four   -- for this text's walks alone
set_option linter.unusedVariables false
set_option linter.unusedSimpArgs false

/-! ### spec_GoodDisk: function 47 -/
mutual
def spec_GoodDisk.j0 : Nat → Bool → List (List Int) → Int → Bool → Int → Option (Bool)
 | 0,_,_,_,_,_=>none
 | k + 1,x21,x165000,x165001,x165002,x165003=>if x21 = true then (some false) else (spec_GoodDisk.l0 k x165000 (x165000.length : Int) 0)
def spec_GoodDisk.l0 : Nat → List (List Int) → Int → Int → Option (Bool)
 | 0,_,_,_=>none
 | k + 1,x23,x24,x25=>if x25 < x24 then (if 0 ≤ x25 then (if x25 < (x23.length : Int) then (if ((rd_L2 x23 x25).length : Int) = 128 then (spec_GoodDisk.l0 k x23 x24 (wrap64 (x25 + 1))) else (some false)) else (none)) else (none)) else (some true)
end
def spec_GoodDisk.f (k : Nat) (l0_0 : List (List Int)) (a0_1 : Int) (a0_2 : Bool) (a0_3 : Int) : Option (Bool):=(spec_l1In.f (l0_0.length : Int) 40 160).bind fun t165=>(if t165 = true then ((spec_l1In.f a0_1 0 1000000000).bind fun t166=>(if t166 = true then ((spec_l1In.f a0_3 (-1) 1000000).bind fun t167=>(spec_GoodDisk.j0 k (!t167) l0_0 a0_1 a0_2 a0_3)) else (spec_GoodDisk.j0 k true l0_0 a0_1 a0_2 a0_3))) else (spec_GoodDisk.j0 k true l0_0 a0_1 a0_2 a0_3))
theorem spec_GoodDisk.mono_l : ∀ k,(∀ y0 y1 y2 y3 y4,LeO (spec_GoodDisk.j0 k y0 y1 y2 y3 y4) (spec_GoodDisk.j0 (k + 1) y0 y1 y2 y3 y4))∧(∀ y0 y1 y2,LeO (spec_GoodDisk.l0 k y0 y1 y2) (spec_GoodDisk.l0 (k + 1) y0 y1 y2))
 | 0=>⟨fun _ _ _ _ _ r h=>by simp [spec_GoodDisk.j0] at h,fun _ _ _ r h=>by simp [spec_GoodDisk.l0] at h⟩
 | k + 1=>by
  obtain ⟨ih0,ih1⟩:=spec_GoodDisk.mono_l k
  refine ⟨?_,?_⟩
  ·intro y0 y1 y2 y3 y4
   unfold spec_GoodDisk.j0
   repeat' first
   | (with_reducible exact ih0 _ _ _ _ _)
   | (with_reducible exact ih1 _ _ _)
   | (with_reducible exact LeO.refl _)
   | (with_reducible exact LeO.none _)
   | (with_reducible refine LeO.ite ?_ ?_)
   | (with_reducible refine LeO.bind ?_ (fun _=>?_))
   | exact ih0 _ _ _ _ _
   | exact ih1 _ _ _
   | exact LeO.none _
   | refine LeO.ite ?_ ?_
   | refine LeO.bind ?_ (fun _=>?_)
  ·intro y0 y1 y2
   unfold spec_GoodDisk.l0
   repeat' first
   | (with_reducible exact ih0 _ _ _ _ _)
   | (with_reducible exact ih1 _ _ _)
   | (with_reducible exact LeO.refl _)
   | (with_reducible exact LeO.none _)
   | (with_reducible refine LeO.ite ?_ ?_)
   | (with_reducible refine LeO.bind ?_ (fun _=>?_))
   | exact ih0 _ _ _ _ _
   | exact ih1 _ _ _
   | exact LeO.none _
   | refine LeO.ite ?_ ?_
   | refine LeO.bind ?_ (fun _=>?_)
theorem spec_GoodDisk.mono : ∀ a0 a1 a2 a3 k,LeO (spec_GoodDisk.f k a0 a1 a2 a3) (spec_GoodDisk.f (k + 1) a0 a1 a2 a3):=by
 intro a0 a1 a2 a3 k
 obtain ⟨ih0,ih1⟩:=spec_GoodDisk.mono_l k
 unfold spec_GoodDisk.f
 repeat' first
   | (with_reducible exact ih0 _ _ _ _ _)
   | (with_reducible exact ih1 _ _ _)
   | (with_reducible exact LeO.refl _)
   | (with_reducible exact LeO.none _)
   | (with_reducible refine LeO.ite ?_ ?_)
   | (with_reducible refine LeO.bind ?_ (fun _=>?_))
   | exact ih0 _ _ _ _ _
   | exact ih1 _ _ _
   | exact LeO.none _
   | refine LeO.ite ?_ ?_
   | refine LeO.bind ?_ (fun _=>?_)
set_option maxHeartbeats 8000000 in
set_option maxRecDepth 100000 in
theorem spec_GoodDisk.calls (k : Nat) (A0_0 : Option Addr) (c0_0 : Nat) (l0_0 : List (List Int)) (a0_1 : Int) (a0_2 : Bool) (a0_3 : Int) (r : Bool) (w : World) (hr0_0 : Kd.C (Kd.slice 5 (Kd.int .u8)) w A0_0 l0_0.length l0_0) (hc0_0 : l0_0.length ≤ c0_0) (h : spec_GoodDisk.f k l0_0 a0_1 a0_2 a0_3 = some r) :
  Calls Try.prog 47 #[.agg #[.slice A0_0 l0_0.length c0_0,.int .i64 a0_1,.bool a0_2,.int .i64 a0_3]] w fun e w'=>e = .returned (.bool r)∧Below w.heap.size w w':=by
 have hu39:=Try.underlying39
 have HR0_0:=Aside0.mk hr0_0
 have HC0_0:=Aside0.mk hc0_0
 clear hr0_0 hc0_0
 have HB:=Aside0.mk (Below.refl w.heap.size w)
 have H : ((spec_l1In.f (l0_0.length : Int) 40 160).bind fun t165=>(if t165 = true then ((spec_l1In.f a0_1 0 1000000000).bind fun t166=>(if t166 = true then ((spec_l1In.f a0_3 (-1) 1000000).bind fun t167=>(spec_GoodDisk.j0 k (!t167) l0_0 a0_1 a0_2 a0_3)) else (spec_GoodDisk.j0 k true l0_0 a0_1 a0_2 a0_3))) else (spec_GoodDisk.j0 k true l0_0 a0_1 a0_2 a0_3))) = some r:=h
 clear h
 have HC2:=Aside0.mk H
 clear H
 go_enter Try.func47,Try.ntmps47
 go_upto_region 1 with (first|((with_reducible refine gate_dst (N:=1) rfl ?_);refine box_event ?hg (N:=1) ?hd (cs:=#[.slice A0_0 l0_0.length c0_0,.int .i64 a0_1,.bool a0_2,.int .i64 a0_3]) (t:=39) ?hr ?_;(case hd=>rfl);(case hg=>rfl);(case hr=>first|(go_simp;done)|(go_simp;rfl));intro gb164 hg w3 hbox hb;have n0_:=Aside0.mk (below_step (by repeat (first|exact HB.out|apply below_alloc|apply pw_below_drewN|apply below_drew1)) hb);have n1_:=Aside0.mk (hbox);have n2_:=Aside0.mk ((by rw [hg];exact (below_size (by repeat (first|exact HB.out|apply below_alloc|apply pw_below_drewN|apply below_drew1))) : w.heap.size ≤ gb164));have n3_:=Aside0.mk ((by rw [hg];exact (below_size (by repeat (first|exact HB.out|apply below_alloc|apply pw_below_drewN|apply below_drew1))) : w.heap.size ≤ gb164));clear HB;have HB:=n0_;have BK164:=n1_;have GW164:=n2_;have GE164:=n3_;clear n0_ n1_ n2_ n3_;clear hb hbox hg))
 (try simp only [Act.put,List.setIfInBounds_toArray,List.set_cons_zero,List.set_cons_succ])
 go_cut [21] (fun v21 wc=>∃ (kq : Nat) (x21_1 : Bool),v21 = .bool x21_1∧Aside0 (spec_GoodDisk.j0 kq x21_1 l0_0 a0_1 a0_2 a0_3 = some r)∧Aside0 (kq ≤ k)∧Aside0 (wc.heap[gb164]? = some (.cells #[(.slice A0_0 l0_0.length c0_0),.int .i64 a0_1,.bool a0_2,.int .i64 a0_3] 39 (0,0)))∧Aside0 (Below w.heap.size w wc))
 case first =>
  have H:=HC2.out
  clear HC2
  replace H:=Option.bind_eq_some_iff.mp H
  obtain ⟨t165,A40,H⟩:=H
  replace H : (if t165 = true then ((spec_l1In.f a0_1 0 1000000000).bind fun t166=>(if t166 = true then ((spec_l1In.f a0_3 (-1) 1000000).bind fun t167=>(spec_GoodDisk.j0 k (!t167) l0_0 a0_1 a0_2 a0_3)) else (spec_GoodDisk.j0 k true l0_0 a0_1 a0_2 a0_3))) else (spec_GoodDisk.j0 k true l0_0 a0_1 a0_2 a0_3)) = some r:=H
  have A4:=Aside0.mk A40
  clear A40
  by_cases c5 : t165 = true
  ·subst c5
   have H1 : ((spec_l1In.f a0_1 0 1000000000).bind fun t166=>(if t166 = true then ((spec_l1In.f a0_3 (-1) 1000000).bind fun t167=>(spec_GoodDisk.j0 k (!t167) l0_0 a0_1 a0_2 a0_3)) else (spec_GoodDisk.j0 k true l0_0 a0_1 a0_2 a0_3))) = some r:=by rw [if_pos rfl] at H;exact H
   clear H
   have H:=H1
   clear H1
   replace H:=Option.bind_eq_some_iff.mp H
   obtain ⟨t166,A60,H⟩:=H
   replace H : (if t166 = true then ((spec_l1In.f a0_3 (-1) 1000000).bind fun t167=>(spec_GoodDisk.j0 k (!t167) l0_0 a0_1 a0_2 a0_3)) else (spec_GoodDisk.j0 k true l0_0 a0_1 a0_2 a0_3)) = some r:=H
   have A6:=Aside0.mk A60
   clear A60
   by_cases c7 : t166 = true
   ·subst c7
    have H1 : ((spec_l1In.f a0_3 (-1) 1000000).bind fun t167=>(spec_GoodDisk.j0 k (!t167) l0_0 a0_1 a0_2 a0_3)) = some r:=by rw [if_pos rfl] at H;exact H
    clear H
    have H:=H1
    clear H1
    replace H:=Option.bind_eq_some_iff.mp H
    obtain ⟨t167,A80,H⟩:=H
    replace H : (spec_GoodDisk.j0 k (!t167) l0_0 a0_1 a0_2 a0_3) = some r:=H
    have A8:=Aside0.mk A80
    clear A80
    have H':=Aside0.mk H
    clear H
    have hcz9_0 : w3.cell? ⟨gb164,0,none⟩ = some (.slice A0_0 l0_0.length c0_0):=(blk_cell BK164.out 0).trans rfl
    have hcz9_1 : w3.cell? ⟨gb164,1,none⟩ = some (.int .i64 a0_1):=(blk_cell BK164.out 1).trans rfl
    have hcz9_2 : w3.cell? ⟨gb164,2,none⟩ = some (.bool a0_2):=(blk_cell BK164.out 2).trans rfl
    have hcz9_3 : w3.cell? ⟨gb164,3,none⟩ = some (.int .i64 a0_3):=(blk_cell BK164.out 3).trans rfl
    have hfz9_0:=blk_frozen BK164.out 0
    have hfz9_1:=blk_frozen BK164.out 1
    have hfz9_2:=blk_frozen BK164.out 2
    have hfz9_3:=blk_frozen BK164.out 3
    go_wp2_with (first|((with_reducible refine gate_callee (f:=68) rfl ?_);refine goesL_ (some 8) rfl rfl Try.func68 (by kernel_rfl) rfl #[.int .i64 (l0_0.length : Int),.int .i64 40,.int .i64 160] rfl (by (try simp only [List.map_toArray,List.map_cons,List.map_nil]);first|done|rfl|(simp only [List.length_drop,List.length_take];rfl)) ?_;(with_reducible refine (spec_l1In.calls (l0_0.length : Int) 40 160 true _ A4.out).mono ?_);rintro e w' ⟨rfl,⟨nd,rfl⟩⟩;refine ⟨_,rfl,?_⟩)|(go_at_call 68;(with_reducible refine (spec_l1In.calls a0_1 0 1000000000 true _ A6.out).mono ?_);rintro e w' ⟨rfl,⟨nd,rfl⟩⟩)|(go_at_call 68;(with_reducible refine (spec_l1In.calls a0_3 (-1) 1000000 t167 _ A8.out).mono ?_);rintro e w' ⟨rfl,⟨nd,rfl⟩⟩))
    go_meet
    case rel=>exact ⟨_,(!t167),(by first|rfl|(simp;done)|(simp [*];done)),H',⟨by first|omega|exact Nat.le_refl _⟩,⟨by (with_reducible repeat first|apply blk_drewN|apply blk_drew|apply blk_alloc);exact BK164.out⟩,⟨by repeat (first|(with_reducible first|exact HB.out|apply below_alloc|apply pw_below_drewN|apply below_drew1|refine below_set ?_ GE164.out)|exact HB.out)⟩⟩
   ·replace c7:=Bool.eq_false_iff.mpr c7
    subst c7
    have H1 : (spec_GoodDisk.j0 k true l0_0 a0_1 a0_2 a0_3) = some r:=by rw [if_neg (show ¬ (false = true) by decide)] at H;exact H
    clear H
    have H:=H1
    clear H1
    have H':=Aside0.mk H
    clear H
    have hcz10_0 : w3.cell? ⟨gb164,0,none⟩ = some (.slice A0_0 l0_0.length c0_0):=(blk_cell BK164.out 0).trans rfl
    have hcz10_1 : w3.cell? ⟨gb164,1,none⟩ = some (.int .i64 a0_1):=(blk_cell BK164.out 1).trans rfl
    have hcz10_2 : w3.cell? ⟨gb164,2,none⟩ = some (.bool a0_2):=(blk_cell BK164.out 2).trans rfl
    have hcz10_3 : w3.cell? ⟨gb164,3,none⟩ = some (.int .i64 a0_3):=(blk_cell BK164.out 3).trans rfl
    have hfz10_0:=blk_frozen BK164.out 0
    have hfz10_1:=blk_frozen BK164.out 1
    have hfz10_2:=blk_frozen BK164.out 2
    have hfz10_3:=blk_frozen BK164.out 3
    go_wp2_with (first|((with_reducible refine gate_callee (f:=68) rfl ?_);refine goesL_ (some 8) rfl rfl Try.func68 (by kernel_rfl) rfl #[.int .i64 (l0_0.length : Int),.int .i64 40,.int .i64 160] rfl (by (try simp only [List.map_toArray,List.map_cons,List.map_nil]);first|done|rfl|(simp only [List.length_drop,List.length_take];rfl)) ?_;(with_reducible refine (spec_l1In.calls (l0_0.length : Int) 40 160 true _ A4.out).mono ?_);rintro e w' ⟨rfl,⟨nd,rfl⟩⟩;refine ⟨_,rfl,?_⟩)|(go_at_call 68;(with_reducible refine (spec_l1In.calls a0_1 0 1000000000 false _ A6.out).mono ?_);rintro e w' ⟨rfl,⟨nd,rfl⟩⟩))
    go_meet
    case rel=>exact ⟨_,(true),(by first|rfl|(simp;done)|(simp [*];done)),H',⟨by first|omega|exact Nat.le_refl _⟩,⟨by (with_reducible repeat first|apply blk_drewN|apply blk_drew|apply blk_alloc);exact BK164.out⟩,⟨by repeat (first|(with_reducible first|exact HB.out|apply below_alloc|apply pw_below_drewN|apply below_drew1|refine below_set ?_ GE164.out)|exact HB.out)⟩⟩
  ·replace c5:=Bool.eq_false_iff.mpr c5
   subst c5
   have H1 : (spec_GoodDisk.j0 k true l0_0 a0_1 a0_2 a0_3) = some r:=by rw [if_neg (show ¬ (false = true) by decide)] at H;exact H
   clear H
   have H:=H1
   clear H1
   have H':=Aside0.mk H
   clear H
   have hcz11_0 : w3.cell? ⟨gb164,0,none⟩ = some (.slice A0_0 l0_0.length c0_0):=(blk_cell BK164.out 0).trans rfl
   have hcz11_1 : w3.cell? ⟨gb164,1,none⟩ = some (.int .i64 a0_1):=(blk_cell BK164.out 1).trans rfl
   have hcz11_2 : w3.cell? ⟨gb164,2,none⟩ = some (.bool a0_2):=(blk_cell BK164.out 2).trans rfl
   have hcz11_3 : w3.cell? ⟨gb164,3,none⟩ = some (.int .i64 a0_3):=(blk_cell BK164.out 3).trans rfl
   have hfz11_0:=blk_frozen BK164.out 0
   have hfz11_1:=blk_frozen BK164.out 1
   have hfz11_2:=blk_frozen BK164.out 2
   have hfz11_3:=blk_frozen BK164.out 3
   go_wp2_with (first|((with_reducible refine gate_callee (f:=68) rfl ?_);refine goesL_ (some 8) rfl rfl Try.func68 (by kernel_rfl) rfl #[.int .i64 (l0_0.length : Int),.int .i64 40,.int .i64 160] rfl (by (try simp only [List.map_toArray,List.map_cons,List.map_nil]);first|done|rfl|(simp only [List.length_drop,List.length_take];rfl)) ?_;(with_reducible refine (spec_l1In.calls (l0_0.length : Int) 40 160 false _ A4.out).mono ?_);rintro e w' ⟨rfl,⟨nd,rfl⟩⟩;refine ⟨_,rfl,?_⟩))
   go_meet
   case rel=>exact ⟨_,(true),(by first|rfl|(simp;done)|(simp [*];done)),H',⟨by first|omega|exact Nat.le_refl _⟩,⟨by (with_reducible repeat first|apply blk_drewN|apply blk_drew|apply blk_alloc);exact BK164.out⟩,⟨by repeat (first|(with_reducible first|exact HB.out|apply below_alloc|apply pw_below_drewN|apply below_drew1|refine below_set ?_ GE164.out)|exact HB.out)⟩⟩
 case rest =>
  clear HC2
  try clear p2;try clear c4;try clear c5;try clear c6;try clear c7;try clear hcz10_0;try clear hcz10_1;try clear hcz10_2;try clear hcz10_3;try clear hcz11_0;try clear hcz11_1;try clear hcz11_2;try clear hcz11_3;try clear hcz9_0;try clear hcz9_1;try clear hcz9_2;try clear hcz9_3;try clear hfz10_0;try clear hfz10_1;try clear hfz10_2;try clear hfz10_3;try clear hfz11_0;try clear hfz11_1;try clear hfz11_2;try clear hfz11_3;try clear hfz9_0;try clear hfz9_1;try clear hfz9_2;try clear hfz9_3
  obtain ⟨kq,x21_1,rfl,HA,HJ1,BK164,HB⟩:=hcut
  cases kq with
  | zero=>exact absurd HA.out (by simp [spec_GoodDisk.j0])
  | succ kj1 =>
   have H:=HA.out
   clear HA
   simp only [spec_GoodDisk.j0] at H
   by_cases c12 : x21_1 = true
   ·subst c12
    have H1 : (some false) = some r:=by rw [if_pos rfl] at H;exact H
    clear H
    have H:=H1
    clear H1
    obtain rfl:=Option.some.inj H
    go_wp2
    go_ret
    exact ⟨by first|rfl|(simp [*,errW_none,errW_some] <;> rfl),by repeat (first|(with_reducible first|exact HB.out|apply below_alloc|apply pw_below_drewN|apply below_drew1|refine below_set ?_ GE164.out)|exact HB.out)⟩
   ·replace c12:=Bool.eq_false_iff.mpr c12
    subst c12
    have H1 : (spec_GoodDisk.l0 kj1 l0_0 (l0_0.length : Int) 0) = some r:=by rw [if_neg (show ¬ (false = true) by decide)] at H;exact H
    clear H
    have H:=H1
    clear H1
    have H':=Aside0.mk H
    clear H
    have hcz13_0 : wc.cell? ⟨gb164,0,none⟩ = some (.slice A0_0 l0_0.length c0_0):=(blk_cell BK164.out 0).trans rfl
    have hcz13_1 : wc.cell? ⟨gb164,1,none⟩ = some (.int .i64 a0_1):=(blk_cell BK164.out 1).trans rfl
    have hcz13_2 : wc.cell? ⟨gb164,2,none⟩ = some (.bool a0_2):=(blk_cell BK164.out 2).trans rfl
    have hcz13_3 : wc.cell? ⟨gb164,3,none⟩ = some (.int .i64 a0_3):=(blk_cell BK164.out 3).trans rfl
    have hfz13_0:=blk_frozen BK164.out 0
    have hfz13_1:=blk_frozen BK164.out 1
    have hfz13_2:=blk_frozen BK164.out 2
    have hfz13_3:=blk_frozen BK164.out 3
    go_wp2
    go_loopg [25] kj1 (fun kq v25 w'=>∃ (x25_2 : Int),v25 = .int .i64 x25_2∧Aside0 (spec_GoodDisk.l0 kq l0_0 (l0_0.length : Int) x25_2 = some r)∧Aside0 (kq ≤ kj1)∧Aside0 (w'.heap[gb164]? = some (.cells #[(.slice A0_0 l0_0.length c0_0),.int .i64 a0_1,.bool a0_2,.int .i64 a0_3] 39 (0,0)))∧Aside0 (Below w.heap.size w w'))
    case atStart=>exact ⟨(0),(by first|rfl|(simp;done)|(simp [*];done)),H',⟨Nat.le_refl _⟩,⟨by (with_reducible repeat first|apply blk_drewN|apply blk_drew|apply blk_alloc);exact BK164.out⟩,⟨by repeat (first|(with_reducible first|exact HB.out|apply below_alloc|apply pw_below_drewN|apply below_drew1|refine below_set ?_ GE164.out)|exact HB.out)⟩⟩
    case round =>
     clear H'
     try clear c1;try clear p2;try clear c4;try clear c5;try clear c6;try clear c7;try clear c12;try clear hcz10_0;try clear hcz10_1;try clear hcz10_2;try clear hcz10_3;try clear hcz11_0;try clear hcz11_1;try clear hcz11_2;try clear hcz11_3;try clear hcz13_0;try clear hcz13_1;try clear hcz13_2;try clear hcz13_3;try clear hcz9_0;try clear hcz9_1;try clear hcz9_2;try clear hcz9_3;try clear hfz10_0;try clear hfz10_1;try clear hfz10_2;try clear hfz10_3;try clear hfz11_0;try clear hfz11_1;try clear hfz11_2;try clear hfz11_3;try clear hfz13_0;try clear hfz13_1;try clear hfz13_2;try clear hfz13_3;try clear hfz9_0;try clear hfz9_1;try clear hfz9_2;try clear hfz9_3;try clear p2
     obtain ⟨x25_2,rfl,HA,HK2,BK164,HB⟩:=hrel
     cases gk with
     | zero=>exact absurd HA.out (by simp [spec_GoodDisk.l0])
     | succ k2 =>
      have H:=HA.out
      clear HA
      simp only [spec_GoodDisk.l0] at H
      by_cases c14 : x25_2 < (l0_0.length : Int)
      ·rw [if_pos c14] at H
       have c14b0 : decide (x25_2 < (l0_0.length : Int)) = true:=decide_eq_true c14
       clear c14
       by_cases c15 : 0 ≤ x25_2
       ·rw [if_pos c15] at H
        have c15b0 : decide (0 ≤ x25_2) = true:=decide_eq_true c15
        clear c15
        by_cases c16 : x25_2 < (l0_0.length : Int)
        ·rw [if_pos c16] at H
         have c16b0 : decide (x25_2 < (l0_0.length : Int)) = true:=decide_eq_true c16
         clear c16
         by_cases c17 : ((rd_L2 l0_0 x25_2).length : Int) = 128
         ·rw [if_pos c17] at H
          have c17b0 : (((rd_L2 l0_0 x25_2).length : Int) == 128) = true:=beq_iff_eq.mpr c17
          have c17b1 : (((rd_L2 l0_0 x25_2).length : Int) != 128) = false:=bne_eq_false_iff_eq.mpr c17
          clear c17
          have H':=Aside0.mk H
          clear H
          have p168 : 0 ≤ (x25_2 : Int):=of_decide_eq_true (by assumption)
          have q168 : x25_2 < (l0_0.length : Int):=of_decide_eq_true (by assumption)
          obtain ⟨ad168,A168_0,c168_0,e168,hx168_0,hl168_0,hi168_0⟩:=at_L2 HR0_0.out x25_2 p168 q168
          cases e168
          (try replace hx168_0:=(HB.out.cell (World.block_lt_of_cell? w _ hx168_0)).trans hx168_0)
          have HR168_0:=Aside0.mk hi168_0
          have HC168_0:=Aside0.mk hl168_0
          clear hi168_0 hl168_0
          replace p168:=eq_true p168
          replace q168:=eq_true q168
          go_wp2
          go_roundg k2
          case measure=>have:=HJ1.out;have:=HK2.out;omega
          case rel=>exact ⟨(wrap64 (x25_2 + 1)),(by first|rfl|(simp;done)|(simp [*];done)),H',⟨by have:=HJ1.out;have:=HK2.out;omega⟩,⟨by (with_reducible repeat first|apply blk_drewN|apply blk_drew|apply blk_alloc);exact BK164.out⟩,⟨by repeat (first|(with_reducible first|exact HB.out|apply below_alloc|apply pw_below_drewN|apply below_drew1|refine below_set ?_ GE164.out)|exact HB.out)⟩⟩
         ·rw [if_neg c17] at H
          have c17b0 : (((rd_L2 l0_0 x25_2).length : Int) == 128) = false:=beq_eq_false_iff_ne.mpr c17
          have c17b1 : (((rd_L2 l0_0 x25_2).length : Int) != 128) = true:=bne_iff_ne.mpr c17
          obtain rfl:=Option.some.inj H
          have p168 : 0 ≤ (x25_2 : Int):=of_decide_eq_true (by assumption)
          have q168 : x25_2 < (l0_0.length : Int):=of_decide_eq_true (by assumption)
          obtain ⟨ad168,A168_0,c168_0,e168,hx168_0,hl168_0,hi168_0⟩:=at_L2 HR0_0.out x25_2 p168 q168
          cases e168
          (try replace hx168_0:=(HB.out.cell (World.block_lt_of_cell? w _ hx168_0)).trans hx168_0)
          have HR168_0:=Aside0.mk hi168_0
          have HC168_0:=Aside0.mk hl168_0
          clear hi168_0 hl168_0
          replace p168:=eq_true p168
          replace q168:=eq_true q168
          go_wp2
          go_ret
          exact ⟨by first|rfl|(simp [*,errW_none,errW_some] <;> rfl),by repeat (first|(with_reducible first|exact HB.out|apply below_alloc|apply pw_below_drewN|apply below_drew1|refine below_set ?_ GE164.out)|exact HB.out)⟩
        ·rw [if_neg c16] at H
         exact absurd H (by simp)
       ·rw [if_neg c15] at H
        exact absurd H (by simp)
      ·rw [if_neg c14] at H
       have c14b0 : decide (x25_2 < (l0_0.length : Int)) = false:=decide_eq_false c14
       clear c14
       obtain rfl:=Option.some.inj H
       go_wp2
       go_ret
       exact ⟨by first|rfl|(simp [*,errW_none,errW_some] <;> rfl),by repeat (first|(with_reducible first|exact HB.out|apply below_alloc|apply pw_below_drewN|apply below_drew1|refine below_set ?_ GE164.out)|exact HB.out)⟩

/-! ### spec_GoodGroup: function 20 -/
def spec_GoodGroup.f (k : Nat) (l0_0 : List (List Int)) (a0_1 : Int) (a0_2 : Bool) (a0_3 : Int) (l1 : List (S59)) : Option (Bool):=(spec_GoodDisk.f k l0_0 a0_1 a0_2 a0_3).bind fun t170=>(if t170 = true then ((spec_l4Group.f k l1 (l0_0.length : Int)).bind fun t171=>(some t171)) else (some false))
theorem spec_GoodGroup.mono : ∀ a0 a1 a2 a3 a4 k,LeO (spec_GoodGroup.f k a0 a1 a2 a3 a4) (spec_GoodGroup.f (k + 1) a0 a1 a2 a3 a4):=by
 intro a0 a1 a2 a3 a4 k
 unfold spec_GoodGroup.f
 repeat' first
   | (with_reducible exact spec_GoodDisk.mono _ _ _ _ _)
   | (with_reducible exact spec_l4Group.mono _ _ _)
   | (with_reducible exact LeO.refl _)
   | (with_reducible exact LeO.none _)
   | (with_reducible refine LeO.ite ?_ ?_)
   | (with_reducible refine LeO.bind ?_ (fun _=>?_))
   | exact spec_GoodDisk.mono _ _ _ _ _
   | exact spec_l4Group.mono _ _ _
   | exact LeO.none _
   | refine LeO.ite ?_ ?_
   | refine LeO.bind ?_ (fun _=>?_)
set_option maxHeartbeats 8000000 in
set_option maxRecDepth 100000 in
theorem spec_GoodGroup.calls (k : Nat) (A0_0 : Option Addr) (c0_0 : Nat) (l0_0 : List (List Int)) (a0_1 : Int) (a0_2 : Bool) (a0_3 : Int) (A1 : Option Addr) (c1 : Nat) (l1 : List (S59)) (r : Bool) (w : World) (hr0_0 : Kd.C (Kd.slice 5 (Kd.int .u8)) w A0_0 l0_0.length l0_0) (hc0_0 : l0_0.length ≤ c0_0) (hr1 : Kd.C k59 w A1 l1.length l1) (hc1 : l1.length ≤ c1) (h : spec_GoodGroup.f k l0_0 a0_1 a0_2 a0_3 l1 = some r) :
  Calls Try.prog 20 #[.agg #[.slice A0_0 l0_0.length c0_0,.int .i64 a0_1,.bool a0_2,.int .i64 a0_3],.slice A1 l1.length c1] w fun e w'=>e = .returned (.bool r)∧Below w.heap.size w w':=by
 have hu39:=Try.underlying39
 have HR0_0:=Aside0.mk hr0_0
 have HC0_0:=Aside0.mk hc0_0
 clear hr0_0 hc0_0
 have HR1:=Aside0.mk hr1
 have HC1:=Aside0.mk hc1
 clear hr1 hc1
 have HB:=Aside0.mk (Below.refl w.heap.size w)
 have H : ((spec_GoodDisk.f k l0_0 a0_1 a0_2 a0_3).bind fun t170=>(if t170 = true then ((spec_l4Group.f k l1 (l0_0.length : Int)).bind fun t171=>(some t171)) else (some false))) = some r:=h
 clear h
 replace H:=Option.bind_eq_some_iff.mp H
 obtain ⟨t170,A30,H⟩:=H
 replace H : (if t170 = true then ((spec_l4Group.f k l1 (l0_0.length : Int)).bind fun t171=>(some t171)) else (some false)) = some r:=H
 have A3:=Aside0.mk A30
 clear A30
 by_cases c4 : t170 = true
 ·subst c4
  have H1 : ((spec_l4Group.f k l1 (l0_0.length : Int)).bind fun t171=>(some t171)) = some r:=by rw [if_pos rfl] at H;exact H
  clear H
  have H:=H1
  clear H1
  replace H:=Option.bind_eq_some_iff.mp H
  obtain ⟨t171,A50,H⟩:=H
  replace H : (some t171) = some r:=H
  have A5:=Aside0.mk A50
  clear A50
  obtain rfl:=Option.some.inj H
  go_enter Try.func20,Try.ntmps20
  go_wp2_with (first|((with_reducible refine gate_dst (N:=2) rfl ?_);(try (refine gate_guard (by rfl) ?_;dsimp only));refine box_event ?hg (N:=2) ?hd (cs:=#[.slice A0_0 l0_0.length c0_0,.int .i64 a0_1,.bool a0_2,.int .i64 a0_3]) (t:=39) ?hr ?_;(case hd=>rfl);(case hg=>rfl);(case hr=>first|(go_simp;done)|(go_simp;rfl));intro gb169 hg w6 hbox hb;have n0_:=Aside0.mk (below_step (by repeat (first|exact HB.out|apply below_alloc|apply pw_below_drewN|apply below_drew1)) hb);have n1_:=Aside0.mk (hbox);have n2_:=Aside0.mk ((by rw [hg];exact (below_size (by repeat (first|exact HB.out|apply below_alloc|apply pw_below_drewN|apply below_drew1))) : w.heap.size ≤ gb169));have n3_:=Aside0.mk ((by rw [hg];exact (below_size (by repeat (first|exact HB.out|apply below_alloc|apply pw_below_drewN|apply below_drew1))) : w.heap.size ≤ gb169));clear HB;have HB:=n0_;have BK169:=n1_;have GW169:=n2_;have GE169:=n3_;clear n0_ n1_ n2_ n3_;clear hb hbox hg;have hcz7_0 : w6.cell? ⟨gb169,0,none⟩ = some (.slice A0_0 l0_0.length c0_0):=(blk_cell BK169.out 0).trans rfl;have hcz7_1 : w6.cell? ⟨gb169,1,none⟩ = some (.int .i64 a0_1):=(blk_cell BK169.out 1).trans rfl;have hcz7_2 : w6.cell? ⟨gb169,2,none⟩ = some (.bool a0_2):=(blk_cell BK169.out 2).trans rfl;have hcz7_3 : w6.cell? ⟨gb169,3,none⟩ = some (.int .i64 a0_3):=(blk_cell BK169.out 3).trans rfl;have hfz7_0:=blk_frozen BK169.out 0;have hfz7_1:=blk_frozen BK169.out 1;have hfz7_2:=blk_frozen BK169.out 2;have hfz7_3:=blk_frozen BK169.out 3)|((with_reducible refine gate_callee (f:=47) rfl ?_);refine goesL_ (some 6) rfl rfl Try.func47 (by kernel_rfl) rfl #[.agg #[.slice A0_0 l0_0.length c0_0,.int .i64 a0_1,.bool a0_2,.int .i64 a0_3]] rfl (by (try simp only [List.map_toArray,List.map_cons,List.map_nil]);first|done|rfl|(simp only [List.length_drop,List.length_take];rfl)) ?_;(with_reducible refine (spec_GoodDisk.calls k _ _ l0_0 a0_1 a0_2 a0_3 true _ ?side1 ?side2 A3.out).mono ?_);(case side1=>repeat (first|exact (Kd.C_below HR0_0.out HB.out)|(with_reducible first|apply Kd.C_alloc|apply Kd.C_drewN|apply Kd.C_drew)));(case side2=>exact HC0_0.out);rintro e w8 ⟨rfl,hb⟩;refine ⟨_,rfl,?_⟩;have n0_:=Aside0.mk (blk_below (g:=gb169) (o:=.cells #[.slice A0_0 l0_0.length c0_0,.int .i64 a0_1,.bool a0_2,.int .i64 a0_3] 39 (0,0)) (by (with_reducible repeat first|apply blk_drewN|apply blk_drew|apply blk_alloc);exact BK169.out) hb);have n1_:=Aside0.mk (below_step (by repeat (first|(with_reducible first|exact HB.out|apply below_alloc|apply pw_below_drewN|apply below_drew1|refine below_set ?_ GE169.out)|exact HB.out)) hb);clear BK169;clear HB;have BK169:=n0_;have HB:=n1_;clear n0_ n1_;(try clear hb);(try clear hb2);(try clear hk);(try clear hi);have hcz9_0 : w8.cell? ⟨gb169,0,none⟩ = some (.slice A0_0 l0_0.length c0_0):=(blk_cell BK169.out 0).trans rfl;have hcz9_1 : w8.cell? ⟨gb169,1,none⟩ = some (.int .i64 a0_1):=(blk_cell BK169.out 1).trans rfl;have hcz9_2 : w8.cell? ⟨gb169,2,none⟩ = some (.bool a0_2):=(blk_cell BK169.out 2).trans rfl;have hcz9_3 : w8.cell? ⟨gb169,3,none⟩ = some (.int .i64 a0_3):=(blk_cell BK169.out 3).trans rfl;have hfz9_0:=blk_frozen BK169.out 0;have hfz9_1:=blk_frozen BK169.out 1;have hfz9_2:=blk_frozen BK169.out 2;have hfz9_3:=blk_frozen BK169.out 3)|(go_at_call 40;(with_reducible refine (spec_l4Group.calls k _ _ l1 (l0_0.length : Int) t171 _ ?side1 ?side2 A5.out).mono ?_);(case side1=>repeat (first|exact (Kd.C_below HR1.out HB.out)|(with_reducible first|apply Kd.C_alloc|apply Kd.C_drewN|apply Kd.C_drew)));(case side2=>exact HC1.out);rintro e w10 ⟨rfl,hb⟩;have n0_:=Aside0.mk (blk_below (g:=gb169) (o:=.cells #[.slice A0_0 l0_0.length c0_0,.int .i64 a0_1,.bool a0_2,.int .i64 a0_3] 39 (0,0)) (by (with_reducible repeat first|apply blk_drewN|apply blk_drew|apply blk_alloc);exact BK169.out) hb);have n1_:=Aside0.mk (below_step (by repeat (first|(with_reducible first|exact HB.out|apply below_alloc|apply pw_below_drewN|apply below_drew1|refine below_set ?_ GE169.out)|exact HB.out)) hb);clear BK169;clear HB;have BK169:=n0_;have HB:=n1_;clear n0_ n1_;(try clear hb);(try clear hb2);(try clear hk);(try clear hi)))
  go_ret
  exact ⟨by first|rfl|(simp [*,errW_none,errW_some] <;> rfl),by repeat (first|(with_reducible first|exact HB.out|apply below_alloc|apply pw_below_drewN|apply below_drew1|refine below_set ?_ GE169.out)|exact HB.out)⟩
 ·replace c4:=Bool.eq_false_iff.mpr c4
  subst c4
  have H1 : (some false) = some r:=by rw [if_neg (show ¬ (false = true) by decide)] at H;exact H
  clear H
  have H:=H1
  clear H1
  obtain rfl:=Option.some.inj H
  go_enter Try.func20,Try.ntmps20
  go_wp2_with (first|((with_reducible refine gate_dst (N:=2) rfl ?_);(try (refine gate_guard (by rfl) ?_;dsimp only));refine box_event ?hg (N:=2) ?hd (cs:=#[.slice A0_0 l0_0.length c0_0,.int .i64 a0_1,.bool a0_2,.int .i64 a0_3]) (t:=39) ?hr ?_;(case hd=>rfl);(case hg=>rfl);(case hr=>first|(go_simp;done)|(go_simp;rfl));intro gb169 hg w11 hbox hb;have n0_:=Aside0.mk (below_step (by repeat (first|exact HB.out|apply below_alloc|apply pw_below_drewN|apply below_drew1)) hb);have n1_:=Aside0.mk (hbox);have n2_:=Aside0.mk ((by rw [hg];exact (below_size (by repeat (first|exact HB.out|apply below_alloc|apply pw_below_drewN|apply below_drew1))) : w.heap.size ≤ gb169));have n3_:=Aside0.mk ((by rw [hg];exact (below_size (by repeat (first|exact HB.out|apply below_alloc|apply pw_below_drewN|apply below_drew1))) : w.heap.size ≤ gb169));clear HB;have HB:=n0_;have BK169:=n1_;have GW169:=n2_;have GE169:=n3_;clear n0_ n1_ n2_ n3_;clear hb hbox hg;have hcz12_0 : w11.cell? ⟨gb169,0,none⟩ = some (.slice A0_0 l0_0.length c0_0):=(blk_cell BK169.out 0).trans rfl;have hcz12_1 : w11.cell? ⟨gb169,1,none⟩ = some (.int .i64 a0_1):=(blk_cell BK169.out 1).trans rfl;have hcz12_2 : w11.cell? ⟨gb169,2,none⟩ = some (.bool a0_2):=(blk_cell BK169.out 2).trans rfl;have hcz12_3 : w11.cell? ⟨gb169,3,none⟩ = some (.int .i64 a0_3):=(blk_cell BK169.out 3).trans rfl;have hfz12_0:=blk_frozen BK169.out 0;have hfz12_1:=blk_frozen BK169.out 1;have hfz12_2:=blk_frozen BK169.out 2;have hfz12_3:=blk_frozen BK169.out 3)|((with_reducible refine gate_callee (f:=47) rfl ?_);refine goesL_ (some 6) rfl rfl Try.func47 (by kernel_rfl) rfl #[.agg #[.slice A0_0 l0_0.length c0_0,.int .i64 a0_1,.bool a0_2,.int .i64 a0_3]] rfl (by (try simp only [List.map_toArray,List.map_cons,List.map_nil]);first|done|rfl|(simp only [List.length_drop,List.length_take];rfl)) ?_;(with_reducible refine (spec_GoodDisk.calls k _ _ l0_0 a0_1 a0_2 a0_3 false _ ?side1 ?side2 A3.out).mono ?_);(case side1=>repeat (first|exact (Kd.C_below HR0_0.out HB.out)|(with_reducible first|apply Kd.C_alloc|apply Kd.C_drewN|apply Kd.C_drew)));(case side2=>exact HC0_0.out);rintro e w13 ⟨rfl,hb⟩;refine ⟨_,rfl,?_⟩;have n0_:=Aside0.mk (blk_below (g:=gb169) (o:=.cells #[.slice A0_0 l0_0.length c0_0,.int .i64 a0_1,.bool a0_2,.int .i64 a0_3] 39 (0,0)) (by (with_reducible repeat first|apply blk_drewN|apply blk_drew|apply blk_alloc);exact BK169.out) hb);have n1_:=Aside0.mk (below_step (by repeat (first|(with_reducible first|exact HB.out|apply below_alloc|apply pw_below_drewN|apply below_drew1|refine below_set ?_ GE169.out)|exact HB.out)) hb);clear BK169;clear HB;have BK169:=n0_;have HB:=n1_;clear n0_ n1_;(try clear hb);(try clear hb2);(try clear hk);(try clear hi)))
  go_ret
  exact ⟨by first|rfl|(simp [*,errW_none,errW_some] <;> rfl),by repeat (first|(with_reducible first|exact HB.out|apply below_alloc|apply pw_below_drewN|apply below_drew1|refine below_set ?_ GE169.out)|exact HB.out)⟩

/-! ### spec_DigestOf: function 70 -/
def spec_DigestOf.l0 : Nat → Int → List Int → Int → Int → Option (Int)
 | 0,_,_,_,_=>none
 | k + 1,x3,x6,x7,x8=>if x8 < x7 then (if 0 ≤ x8 then (if x8 < (x6.length : Int) then (spec_DigestOf.l0 k (Int.tmod (IntKind.u64.wrap ((Go.bits .xor .u64 x3 (IntKind.u64.wrap (rd x6 x8))) * 16777619)) 4294967296) x6 x7 (wrap64 (x8 + 1))) else (none)) else (none)) else (some ((x3) % 4294967296))
def spec_DigestOf.f (k : Nat) (l0 : List Int) : Option (Int):=spec_DigestOf.l0 k 2166136261 l0 (l0.length : Int) 0
theorem spec_DigestOf.mono_l : ∀ k,(∀ y0 y1 y2 y3,LeO (spec_DigestOf.l0 k y0 y1 y2 y3) (spec_DigestOf.l0 (k + 1) y0 y1 y2 y3))
 | 0=>fun _ _ _ _ r h=>by simp [spec_DigestOf.l0] at h
 | k + 1=>by
  have ih0:=spec_DigestOf.mono_l k
  ·intro y0 y1 y2 y3
   unfold spec_DigestOf.l0
   repeat' first
   | (with_reducible exact ih0 _ _ _ _)
   | (with_reducible exact LeO.refl _)
   | (with_reducible exact LeO.none _)
   | (with_reducible refine LeO.ite ?_ ?_)
   | (with_reducible refine LeO.bind ?_ (fun _=>?_))
   | exact ih0 _ _ _ _
   | exact LeO.none _
   | refine LeO.ite ?_ ?_
   | refine LeO.bind ?_ (fun _=>?_)
theorem spec_DigestOf.mono : ∀ a0 k,LeO (spec_DigestOf.f k a0) (spec_DigestOf.f (k + 1) a0):=by
 intro a0 k
 have ih0:=spec_DigestOf.mono_l k
 unfold spec_DigestOf.f
 repeat' first
   | (with_reducible exact ih0 _ _ _ _)
   | (with_reducible exact LeO.refl _)
   | (with_reducible exact LeO.none _)
   | (with_reducible refine LeO.ite ?_ ?_)
   | (with_reducible refine LeO.bind ?_ (fun _=>?_))
   | exact ih0 _ _ _ _
   | exact LeO.none _
   | refine LeO.ite ?_ ?_
   | refine LeO.bind ?_ (fun _=>?_)
set_option maxHeartbeats 8000000 in
set_option maxRecDepth 100000 in
theorem spec_DigestOf.calls (k : Nat) (A0 : Option Addr) (c0 : Nat) (l0 : List Int) (r : Int) (w : World) (hr0 : Kd.C (Kd.int .u8) w A0 l0.length l0) (hc0 : l0.length ≤ c0) (h : spec_DigestOf.f k l0 = some r) :
  Calls Try.prog 70 #[.slice A0 l0.length c0] w fun e w'=>e = .returned (.int .u32 r)∧Drawn0 w w':=by
 have HR0:=Aside0.mk hr0
 have HC0:=Aside0.mk hc0
 clear hr0 hc0
 have H : (spec_DigestOf.l0 k 2166136261 l0 (l0.length : Int) 0) = some r:=h
 clear h
 have H':=Aside0.mk H
 clear H
 go_enter Try.func70,Try.ntmps70
 go_wp2
 go_loopg [3,8] k (fun kq v3 v8 w'=>∃ (x3_1 : Int) (x8_1 : Int),v3 = .int .u64 x3_1∧v8 = .int .i64 x8_1∧Aside0 (spec_DigestOf.l0 kq x3_1 l0 (l0.length : Int) x8_1 = some r)∧Aside0 (kq ≤ k)∧Drawn0 w w')
 case atStart=>exact ⟨(2166136261),(0),(by first|rfl|(simp;done)|(simp [*];done)),(by first|rfl|(simp;done)|(simp [*];done)),H',⟨Nat.le_refl _⟩,by repeat (first|exact Drawn0.refl _|apply Drawn0.step)⟩
 case round =>
  clear H'
  obtain ⟨x3_1,x8_1,rfl,rfl,HA,HK1,⟨m1,rfl⟩⟩:=hrel
  cases gk with
  | zero=>exact absurd HA.out (by simp [spec_DigestOf.l0])
  | succ k1 =>
   have H:=HA.out
   clear HA
   simp only [spec_DigestOf.l0] at H
   by_cases c2 : x8_1 < (l0.length : Int)
   ·rw [if_pos c2] at H
    have c2b0 : decide (x8_1 < (l0.length : Int)) = true:=decide_eq_true c2
    clear c2
    by_cases c3 : 0 ≤ x8_1
    ·rw [if_pos c3] at H
     have c3b0 : decide (0 ≤ x8_1) = true:=decide_eq_true c3
     clear c3
     by_cases c4 : x8_1 < (l0.length : Int)
     ·rw [if_pos c4] at H
      have c4b0 : decide (x8_1 < (l0.length : Int)) = true:=decide_eq_true c4
      clear c4
      have H':=Aside0.mk H
      clear H
      have p172 : 0 ≤ (x8_1 : Int):=of_decide_eq_true (by assumption)
      have q172 : x8_1 < (l0.length : Int):=of_decide_eq_true (by assumption)
      obtain ⟨ad172,e172,hx172_0⟩:=Kd.at_int HR0.out x8_1 p172 q172
      cases e172
      replace p172:=eq_true p172
      replace q172:=eq_true q172
      go_wp2
      go_roundg k1
      case measure=>have:=HK1.out;omega
      case rel=>exact ⟨(Int.tmod (IntKind.u64.wrap ((Go.bits .xor .u64 x3_1 (IntKind.u64.wrap (rd l0 x8_1))) * 16777619)) 4294967296),(wrap64 (x8_1 + 1)),(by first|rfl|(simp;done)|(simp [*];done)),(by first|rfl|(simp;done)|(simp [*];done)),H',⟨by have:=HK1.out;omega⟩,by repeat (first|exact Drawn0.refl _|apply Drawn0.step)⟩
     ·rw [if_neg c4] at H
      exact absurd H (by simp)
    ·rw [if_neg c3] at H
     exact absurd H (by simp)
   ·rw [if_neg c2] at H
    have c2b0 : decide (x8_1 < (l0.length : Int)) = false:=decide_eq_false c2
    clear c2
    obtain rfl:=Option.some.inj H
    go_wp2
    go_ret
    exact ⟨by first|rfl|(simp;done)|(simp [*];done),by repeat (first|exact Drawn0.refl _|apply Drawn0.step)⟩

/-! ### spec_l4Header: function 41 -/
mutual
def spec_l4Header.l0 : Nat → List (S59) → List Int → List (S59) → Int → Int → Option (List Int)
 | 0,_,_,_,_,_=>none
 | k + 1,x0,x3,x14,x15,x16=>if x16 < x15 then (if 0 ≤ x16 then (if x16 < (x14.length : Int) then ((some (([(wrap64 (Int.tdiv ((rd_T59 x14 x16).f0) 256)) % 256,((rd_T59 x14 x16).f0) % 256] : List Int) : List Int)).bind fun y178=>(if x3.length + y178.length < 140737488355328 then (spec_l4Header.l0 k x0 (x3 ++ y178) x14 x15 (wrap64 (x16 + 1))) else (none))) else (none)) else (none)) else (if 0 ≤ (wrap64 (124 - (x3.length : Int))) then (if x3.length + (wrap64 (124 - (x3.length : Int)) : Int).toNat < 140737488355328 then ((some (x3 ++ List.replicate (wrap64 (124 - (x3.length : Int)) : Int).toNat 0 : List Int)).bind fun y184=>((some (([] : List Int) : List Int)).bind fun y187=>(if y187.length + y184.length < 140737488355328 then (spec_l4Header.l1 k y184 (y187 ++ y184) x0 (x0.length : Int) 0) else (none)))) else (none)) else (none))
def spec_l4Header.l1 : Nat → List Int → List Int → List (S59) → Int → Int → Option (List Int)
 | 0,_,_,_,_,_=>none
 | k + 1,x3,x6,x39,x40,x41=>if x41 < x40 then (if 0 ≤ x41 then (if x41 < (x39.length : Int) then (if x6.length + ((rd_T59 x39 x41).f1).length < 140737488355328 then (spec_l4Header.l1 k x3 (x6 ++ ((rd_T59 x39 x41).f1)) x39 x40 (wrap64 (x41 + 1))) else (none)) else (none)) else (none)) else ((spec_DigestOf.f k x6).bind fun t198=>((some (([(t198 / 16777216) % 256,(t198 / 65536) % 256,(t198 / 256) % 256,(t198) % 256] : List Int) : List Int)).bind fun y199=>(if x3.length + y199.length < 140737488355328 then (some (x3 ++ y199)) else (none))))
end
def spec_l4Header.f (k : Nat) (l0 : List (S59)) : Option (List Int):=spec_l4Header.l0 k l0 (([76,79,71,49,((l0.length : Int)) % 256] : List Int)) l0 (l0.length : Int) 0
theorem spec_l4Header.mono_l : ∀ k,(∀ y0 y1 y2 y3 y4,LeO (spec_l4Header.l0 k y0 y1 y2 y3 y4) (spec_l4Header.l0 (k + 1) y0 y1 y2 y3 y4))∧(∀ y0 y1 y2 y3 y4,LeO (spec_l4Header.l1 k y0 y1 y2 y3 y4) (spec_l4Header.l1 (k + 1) y0 y1 y2 y3 y4))
 | 0=>⟨fun _ _ _ _ _ r h=>by simp [spec_l4Header.l0] at h,fun _ _ _ _ _ r h=>by simp [spec_l4Header.l1] at h⟩
 | k + 1=>by
  obtain ⟨ih0,ih1⟩:=spec_l4Header.mono_l k
  refine ⟨?_,?_⟩
  ·intro y0 y1 y2 y3 y4
   unfold spec_l4Header.l0
   repeat' first
   | (with_reducible exact ih0 _ _ _ _ _)
   | (with_reducible exact ih1 _ _ _ _ _)
   | (with_reducible exact spec_DigestOf.mono _ _)
   | (with_reducible exact LeO.refl _)
   | (with_reducible exact LeO.none _)
   | (with_reducible refine LeO.ite ?_ ?_)
   | (with_reducible refine LeO.bind ?_ (fun _=>?_))
   | exact ih0 _ _ _ _ _
   | exact ih1 _ _ _ _ _
   | exact spec_DigestOf.mono _ _
   | exact LeO.none _
   | refine LeO.ite ?_ ?_
   | refine LeO.bind ?_ (fun _=>?_)
  ·intro y0 y1 y2 y3 y4
   unfold spec_l4Header.l1
   repeat' first
   | (with_reducible exact ih0 _ _ _ _ _)
   | (with_reducible exact ih1 _ _ _ _ _)
   | (with_reducible exact spec_DigestOf.mono _ _)
   | (with_reducible exact LeO.refl _)
   | (with_reducible exact LeO.none _)
   | (with_reducible refine LeO.ite ?_ ?_)
   | (with_reducible refine LeO.bind ?_ (fun _=>?_))
   | exact ih0 _ _ _ _ _
   | exact ih1 _ _ _ _ _
   | exact spec_DigestOf.mono _ _
   | exact LeO.none _
   | refine LeO.ite ?_ ?_
   | refine LeO.bind ?_ (fun _=>?_)
theorem spec_l4Header.mono : ∀ a0 k,LeO (spec_l4Header.f k a0) (spec_l4Header.f (k + 1) a0):=by
 intro a0 k
 obtain ⟨ih0,ih1⟩:=spec_l4Header.mono_l k
 unfold spec_l4Header.f
 repeat' first
   | (with_reducible exact ih0 _ _ _ _ _)
   | (with_reducible exact ih1 _ _ _ _ _)
   | (with_reducible exact spec_DigestOf.mono _ _)
   | (with_reducible exact LeO.refl _)
   | (with_reducible exact LeO.none _)
   | (with_reducible refine LeO.ite ?_ ?_)
   | (with_reducible refine LeO.bind ?_ (fun _=>?_))
   | exact ih0 _ _ _ _ _
   | exact ih1 _ _ _ _ _
   | exact spec_DigestOf.mono _ _
   | exact LeO.none _
   | refine LeO.ite ?_ ?_
   | refine LeO.bind ?_ (fun _=>?_)
set_option maxHeartbeats 8000000 in
set_option maxRecDepth 100000 in
theorem spec_l4Header.calls (k : Nat) (A0 : Option Addr) (c0 : Nat) (l0 : List (S59)) (r : List Int) (w : World) (hr0 : Kd.C k59 w A0 l0.length l0) (hc0 : l0.length ≤ c0) (h : spec_l4Header.f k l0 = some r) :
  Calls Try.prog 41 #[.slice A0 l0.length c0] w fun e w'=>∃ v0_ : Value,e = .returned (v0_)∧Kd.R (Kd.int .u8) 5 w' w.heap.size (fun _=>True) v0_ r∧Below w.heap.size w w':=by
 have hu59:=Try.underlying59
 have HR0:=Aside0.mk hr0
 have HC0:=Aside0.mk hc0
 clear hr0 hc0
 have HB:=Aside0.mk (Below.refl w.heap.size w)
 have H : (spec_l4Header.l0 k l0 (([76,79,71,49,((l0.length : Int)) % 256] : List Int)) l0 (l0.length : Int) 0) = some r:=h
 clear h
 obtain ⟨y173,hy173⟩ : ∃ y_ : List Int,y_ = (([76,79,71,49,((l0.length : Int)) % 256] : List Int)):=⟨_,rfl⟩
 replace H : (spec_l4Header.l0 k l0 y173 l0 (l0.length : Int) 0) = some r:=by first|(rw [hy173];with_reducible exact H)|(have H2_:=(Option.bind_some _ _).symm.trans H;rw [hy173];with_reducible exact H2_)|(have H2_:=(Option.bind_some _ _).symm.trans H;with_reducible exact H2_)|with_reducible exact H|(rw [hy173];exact H)|exact H
 have Ny173:=Aside0.mk hy173
 clear hy173
 have H':=Aside0.mk H
 clear H
 go_enter Try.func41,Try.ntmps41
 go_wp2_with (first|((with_reducible refine gate_dst (N:=13) rfl ?_);refine Kd.R_lit (Kd.int .u8) _ 5 ?hg (N:=13) ?hd (xs:=([76,79,71,49,((l0.length : Int)) % 256] : List Int)) (inner:=[.int .u8 76,.int .u8 79,.int .u8 71,.int .u8 49,.int .u8 (((l0.length : Int)) % 256)]) (ok:=fun _=>True) (okp:=fun _=>True) ?hr ?hp (fun _ hk=>hk) trivial (Below.refl _ _) (Nat.le_refl _) (by simp) ?_;(case hd=>rfl);(case hg=>rfl);(case hr=>first|(go_simp;done)|(go_simp;rfl));(case hp=>exact (Reps.one (show Kd.M (Kd.int .u8) _ _ _ 76 [.int .u8 76] from rfl) (Reps.one (show Kd.M (Kd.int .u8) _ _ _ 79 [.int .u8 79] from rfl) (Reps.one (show Kd.M (Kd.int .u8) _ _ _ 71 [.int .u8 71] from rfl) (Reps.one (show Kd.M (Kd.int .u8) _ _ _ 49 [.int .u8 49] from rfl) (Reps.one (show Kd.M (Kd.int .u8) _ _ _ (((l0.length : Int)) % 256) [.int .u8 (((l0.length : Int)) % 256)] from rfl) (Reps.none _ _)))))));intro v174 w2 ho3 hb hg_ hnew_;clear hg_ hnew_;(first|rw [← Ny173.out] at ho3|(simp only [Int.reduceToNat] at ho3;rw [← Ny173.out] at ho3));have n0_:=Aside0.mk (Kd.R_lower ho3 (below_size (by repeat (first|exact HB.out|apply below_alloc|apply pw_below_drewN|apply below_drew1))));have n1_:=Aside0.mk (below_step (by repeat (first|exact HB.out|apply below_alloc|apply pw_below_drewN|apply below_drew1)) hb);clear HB;have HO175:=n0_;have HB:=n1_;clear n0_ n1_;clear hb ho3))
 go_loopg [3,16] k (fun kq v3 v16 w'=>∃ (x3_1 : List Int) (x16_1 : Int),v16 = .int .i64 x16_1∧Aside0 (spec_l4Header.l0 kq l0 x3_1 l0 (l0.length : Int) x16_1 = some r)∧Aside0 (kq ≤ k)∧Aside0 (Kd.R (Kd.int .u8) 5 w' w.heap.size (fun _=>True) v3 x3_1)∧Aside0 (Below w.heap.size w w'))
 case atStart=>exact ⟨(y173),(0),(by first|rfl|(simp;done)|(simp [*];done)),H',⟨Nat.le_refl _⟩,⟨by (with_reducible repeat (first|apply Kd.R_alloc|apply Kd.R_drewN|apply Kd.R_drew));exact HO175.out⟩,⟨by repeat (first|exact HB.out|apply below_alloc|apply pw_below_drewN|apply below_drew1)⟩⟩
 case round =>
  clear H'
  try clear p2
  obtain ⟨x3_1,x16_1,rfl,HA,HK1,HO_3,HB⟩:=hrel
  cases gk with
  | zero=>exact absurd HA.out (by simp [spec_l4Header.l0])
  | succ k1 =>
   have H:=HA.out
   clear HA
   simp only [spec_l4Header.l0] at H
   by_cases c4 : x16_1 < (l0.length : Int)
   ·rw [if_pos c4] at H
    have c4b0 : decide (x16_1 < (l0.length : Int)) = true:=decide_eq_true c4
    clear c4
    by_cases c5 : 0 ≤ x16_1
    ·rw [if_pos c5] at H
     have c5b0 : decide (0 ≤ x16_1) = true:=decide_eq_true c5
     clear c5
     by_cases c6 : x16_1 < (l0.length : Int)
     ·rw [if_pos c6] at H
      have c6b0 : decide (x16_1 < (l0.length : Int)) = true:=decide_eq_true c6
      clear c6
      obtain ⟨y178,hy178⟩ : ∃ y_ : List Int,y_ = (([(wrap64 (Int.tdiv ((rd_T59 l0 x16_1).f0) 256)) % 256,((rd_T59 l0 x16_1).f0) % 256] : List Int)):=⟨_,rfl⟩
      replace H : (if x3_1.length + y178.length < 140737488355328 then (spec_l4Header.l0 k1 l0 (x3_1 ++ y178) l0 (l0.length : Int) (wrap64 (x16_1 + 1))) else (none)) = some r:=by first|(rw [hy178];with_reducible exact H)|(have H2_:=(Option.bind_some _ _).symm.trans H;rw [hy178];with_reducible exact H2_)|(have H2_:=(Option.bind_some _ _).symm.trans H;with_reducible exact H2_)|with_reducible exact H|(rw [hy178];exact H)|exact H
      have Ny178:=Aside0.mk hy178
      clear hy178
      by_cases c7 : x3_1.length + y178.length < 140737488355328
      ·rw [if_pos c7] at H
       have LMc7:=Aside0.mk c7
       clear c7
       obtain ⟨y181,hy181⟩ : ∃ y_ : List Int,y_ = (x3_1 ++ y178):=⟨_,rfl⟩
       replace H : (spec_l4Header.l0 k1 l0 y181 l0 (l0.length : Int) (wrap64 (x16_1 + 1))) = some r:=by first|(rw [hy181];with_reducible exact H)|(have H2_:=(Option.bind_some _ _).symm.trans H;rw [hy181];with_reducible exact H2_)|(have H2_:=(Option.bind_some _ _).symm.trans H;with_reducible exact H2_)|with_reducible exact H|(rw [hy181];exact H)|exact H
       have Ny181:=Aside0.mk hy181
       clear hy181
       have H':=Aside0.mk H
       clear H
       have p176 : 0 ≤ (x16_1 : Int):=of_decide_eq_true (by assumption)
       have q176 : x16_1 < (l0.length : Int):=of_decide_eq_true (by assumption)
       obtain ⟨ad176,A176_1,c176_1,e176,hx176_0,hx176_1,hl176_1,hi176_1⟩:=at_T59 HR0.out x16_1 p176 q176
       cases e176
       (try replace hx176_0:=(HB.out.cell (World.block_lt_of_cell? w _ hx176_0)).trans hx176_0)
       (try replace hx176_1:=(HB.out.cell (World.block_lt_of_cell? w _ hx176_1)).trans hx176_1)
       have HR176_1:=Aside0.mk hi176_1
       have HC176_1:=Aside0.mk hl176_1
       clear hi176_1 hl176_1
       replace p176:=eq_true p176
       replace q176:=eq_true q176
       go_wp2_with (first|((with_reducible refine gate_dst (N:=5) rfl ?_);refine box_event ?hg (N:=5) ?hd (cs:=#[.int .i64 0,.slice none 0 0]) (t:=59) ?hr ?_;(case hd=>rfl);(case hg=>rfl);(case hr=>first|(go_simp;done)|(go_simp;rfl));intro gb177 hg w8 hbox hb;have n0_:=Aside0.mk (Kd.R_below (by (with_reducible repeat (first|apply Kd.R_alloc|apply Kd.R_drewN|apply Kd.R_drew));exact HO_3.out) hb);have n1_:=Aside0.mk (below_step (by repeat (first|exact HB.out|apply below_alloc|apply pw_below_drewN|apply below_drew1)) hb);have n2_:=Aside0.mk (hbox);have n3_:=Aside0.mk ((by rw [hg];exact (below_size (by repeat (first|exact HB.out|apply below_alloc|apply pw_below_drewN|apply below_drew1))) : w.heap.size ≤ gb177));have n4_:=Aside0.mk ((by rw [hg];exact (below_size (by repeat (first|exact HB.out|apply below_alloc|apply pw_below_drewN|apply below_drew1))) : w.heap.size ≤ gb177));clear HO_3;clear HB;have HO_3:=n0_;have HB:=n1_;have BK177:=n2_;have GW177:=n3_;have GE177:=n4_;clear n0_ n1_ n2_ n3_ n4_;clear hb hbox hg;have hcz9_0 : w8.cell? ⟨gb177,0,none⟩ = some (.int .i64 0):=(blk_cell BK177.out 0).trans rfl;have hcz9_1 : w8.cell? ⟨gb177,1,none⟩ = some (.slice none 0 0):=(blk_cell BK177.out 1).trans rfl;have hfz9_0:=blk_frozen BK177.out 0;have hfz9_1:=blk_frozen BK177.out 1)|((with_reducible refine gate_dst (N:=28) rfl ?_);refine Kd.R_lit (Kd.int .u8) _ 5 ?hg (N:=28) ?hd (xs:=([(wrap64 (Int.tdiv ((rd_T59 l0 x16_1).f0) 256)) % 256,((rd_T59 l0 x16_1).f0) % 256] : List Int)) (inner:=[.int .u8 ((wrap64 (Int.tdiv ((rd_T59 l0 x16_1).f0) 256)) % 256),.int .u8 (((rd_T59 l0 x16_1).f0) % 256)]) (ok:=fun _=>True) (okp:=fun _=>True) ?hr ?hp (fun _ hk=>hk) trivial (Below.refl _ _) (Nat.le_refl _) (by simp) ?_;(case hd=>rfl);(case hg=>rfl);(case hr=>first|(go_simp;done)|(go_simp;rfl));(case hp=>exact (Reps.one (show Kd.M (Kd.int .u8) _ _ _ ((wrap64 (Int.tdiv ((rd_T59 l0 x16_1).f0) 256)) % 256) [.int .u8 ((wrap64 (Int.tdiv ((rd_T59 l0 x16_1).f0) 256)) % 256)] from rfl) (Reps.one (show Kd.M (Kd.int .u8) _ _ _ (((rd_T59 l0 x16_1).f0) % 256) [.int .u8 (((rd_T59 l0 x16_1).f0) % 256)] from rfl) (Reps.none _ _))));intro v179 w10 ho11 hb hg_ hnew_;clear hg_ hnew_;(first|rw [← Ny178.out] at ho11|(simp only [Int.reduceToNat] at ho11;rw [← Ny178.out] at ho11));have n0_:=Aside0.mk (Kd.R_elder' (by (with_reducible repeat (first|apply Kd.R_alloc|apply Kd.R_drewN|apply Kd.R_drew));exact (Kd.R_mono (Kd.R_far (p:=⟨gb177,1,none⟩) (Kd.R_far (p:=⟨gb177,0,none⟩) (Kd.R_types HO_3.out BK177.out (by decide)) (fun _ hk=>hk.2) (.int .i64 ((rd_T59 l0 x16_1).f0))) (fun _ hk=>hk.2) (.slice A176_1 ((rd_T59 l0 x16_1).f1).length c176_1)) (fun _ h_=>h_.1))) (Kd.R_base ho11) hb);have n1_:=Aside0.mk (Kd.R_lower (Kd.R_new' ho11 (Kd.R_lt (by (with_reducible repeat (first|apply Kd.R_alloc|apply Kd.R_drewN|apply Kd.R_drew));exact (Kd.R_mono (Kd.R_far (p:=⟨gb177,1,none⟩) (Kd.R_far (p:=⟨gb177,0,none⟩) (Kd.R_types HO_3.out BK177.out (by decide)) (fun _ hk=>hk.2) (.int .i64 ((rd_T59 l0 x16_1).f0))) (fun _ hk=>hk.2) (.slice A176_1 ((rd_T59 l0 x16_1).f1).length c176_1)) (fun _ h_=>h_.1))))) (below_size (by repeat (first|(with_reducible first|exact HB.out|apply below_alloc|apply pw_below_drewN|apply below_drew1|refine below_set ?_ GE177.out)|exact HB.out))));have n2_:=Aside0.mk (blk_below (g:=gb177) (o:=.cells #[.int .i64 ((rd_T59 l0 x16_1).f0),.slice A176_1 ((rd_T59 l0 x16_1).f1).length c176_1] 59 (0,0)) (by (with_reducible repeat first|apply blk_drewN|apply blk_drew|apply blk_alloc);refine blk_put (cs:=#[.int .i64 ((rd_T59 l0 x16_1).f0),.slice none 0 0]) ?_ 1 _ rfl;(with_reducible repeat first|apply blk_drewN|apply blk_drew|apply blk_alloc);refine blk_put (cs:=#[.int .i64 0,.slice none 0 0]) ?_ 0 _ rfl;(with_reducible repeat first|apply blk_drewN|apply blk_drew|apply blk_alloc);exact BK177.out) hb);have n3_:=Aside0.mk (below_step (by repeat (first|(with_reducible first|exact HB.out|apply below_alloc|apply pw_below_drewN|apply below_drew1|refine below_set ?_ GE177.out)|exact HB.out)) hb);clear HO_3;clear BK177;clear HB;have HO_3:=n0_;have HO180:=n1_;have BK177:=n2_;have HB:=n3_;clear n0_ n1_ n2_ n3_;clear hb ho11;obtain ⟨Ao13,co13,eo13⟩:=Kd.R_slice HO180.out;subst eo13)|((with_reducible refine gate_builtin (b:=.append) (xs:=#[.tmp 20,.tmp 28]) rfl ?_);at_builtin;refine Kd.R_append_rows (Kd.int .u8) (w0:=w) w.heap.size rfl (.tmp 20) (.tmp 28) 24 5 (.int .u8 0) 1 rfl Try.underlying24 info5 rfl (by decide) (by omega) u3 x3_1 y178 _ _ _ (fun k_=>some k_ ≠ (.slice Ao13 y178.length co13 : Value).ownBlock) (fun _=>False) rfl rfl ?aO ?aR (fun _ _ h=>h) (fun _ h=>h.elim) ?aF ?aB ?aS ?aL ?_;(case aR=>repeat (first|exact (Kd.R_reads' HO180.out).2.2|(with_reducible first|apply Kd.C_alloc|apply Kd.C_drewN|apply Kd.C_drew)));(case aB=>exact (by repeat (first|(with_reducible first|exact HB.out|apply below_alloc|apply pw_below_drewN|apply below_drew1|refine below_set ?_ GE177.out)|exact HB.out)));(case aF=>exact (fun k_ hk=>Kd.fresh' (Kd.R_lt (by (with_reducible repeat (first|apply Kd.R_alloc|apply Kd.R_drewN|apply Kd.R_drew));exact HO180.out)) k_ hk));(case aO=>exact (by (with_reducible repeat (first|apply Kd.R_alloc|apply Kd.R_drewN|apply Kd.R_drew));exact Kd.R_mono HO_3.out (fun _ hk=>hk.2)));(case aS=>exact (below_size (by repeat (first|(with_reducible first|exact HB.out|apply below_alloc|apply pw_below_drewN|apply below_drew1|refine below_set ?_ GE177.out)|exact HB.out))));(case aL=>have:=LMc7.out;omega);intro v182 w12 ho hb hg hat;rw [← Ny181.out] at ho;have n0_:=Aside0.mk (blk_grown (g:=gb177) (o:=.cells #[.int .i64 ((rd_T59 l0 x16_1).f0),.slice A176_1 ((rd_T59 l0 x16_1).f1).length c176_1] 59 (0,0)) (by (with_reducible repeat first|apply blk_drewN|apply blk_drew|apply blk_alloc);exact BK177.out) hg (Kd.R_ne HO_3.out BK177.out (by decide)));have n1_:=Aside0.mk (Kd.R_after (ok:=(fun _=>True)) (by (with_reducible repeat (first|apply Kd.R_alloc|apply Kd.R_drewN|apply Kd.R_drew));exact HO180.out) hg hat);have n2_:=Aside0.mk (hb);have n3_:=Aside0.mk (ho);clear BK177;clear HO180;clear HB;clear HO_3;have BK177:=n0_;have HO180:=n1_;have HB:=n2_;have HO183:=n3_;clear n0_ n1_ n2_ n3_;clear ho hb hg hat))
       go_roundg k1
       case measure=>have:=HK1.out;omega
       case rel=>exact ⟨(y181),(wrap64 (x16_1 + 1)),(by first|rfl|(simp;done)|(simp [*];done)),H',⟨by have:=HK1.out;omega⟩,⟨by (with_reducible repeat (first|apply Kd.R_alloc|apply Kd.R_drewN|apply Kd.R_drew));exact Kd.R_mono HO183.out (fun _ hk=>trivial)⟩,⟨by repeat (first|(with_reducible first|exact HB.out|apply below_alloc|apply pw_below_drewN|apply below_drew1|refine below_set ?_ GE177.out)|exact HB.out)⟩⟩
      ·rw [if_neg c7] at H
       exact absurd H (by simp)
     ·rw [if_neg c6] at H
      exact absurd H (by simp)
    ·rw [if_neg c5] at H
     exact absurd H (by simp)
   ·rw [if_neg c4] at H
    have c4b0 : decide (x16_1 < (l0.length : Int)) = false:=decide_eq_false c4
    clear c4
    obtain ⟨ji14,hji14⟩ : ∃ j_ : Int,(wrap64 (124 - (x3_1.length : Int))) = j_:=⟨_,rfl⟩
    replace H : (if 0 ≤ (ji14) then (if x3_1.length + (ji14 : Int).toNat < 140737488355328 then ((some (x3_1 ++ List.replicate (ji14 : Int).toNat 0 : List Int)).bind fun y184=>((some (([] : List Int) : List Int)).bind fun y187=>(if y187.length + y184.length < 140737488355328 then (spec_l4Header.l1 k1 y184 (y187 ++ y184) l0 (l0.length : Int) 0) else (none)))) else (none)) else (none)) = some r:=by first|(rw [hji14] at H;exact H)|(simp only [hji14] at H ⊢;exact H)
    have hji14w : (IntKind.i64.wrap (124 - (x3_1.length : Int))) = ji14:=(i64_w _).trans hji14
    by_cases c15 : 0 ≤ (ji14)
    ·rw [if_pos c15] at H
     have c15b0:=eq_true c15
     have c15b1 : decide (0 ≤ (ji14)) = true:=decide_eq_true c15
     clear c15
     by_cases c16 : x3_1.length + (ji14 : Int).toNat < 140737488355328
     ·rw [if_pos c16] at H
      have LMc16:=Aside0.mk c16
      clear c16
      obtain ⟨y184,hy184⟩ : ∃ y_ : List Int,y_ = (x3_1 ++ List.replicate (ji14 : Int).toNat 0):=⟨_,rfl⟩
      replace H : ((some (([] : List Int) : List Int)).bind fun y187=>(if y187.length + y184.length < 140737488355328 then (spec_l4Header.l1 k1 y184 (y187 ++ y184) l0 (l0.length : Int) 0) else (none))) = some r:=by first|(rw [hy184];with_reducible exact H)|(have H2_:=(Option.bind_some _ _).symm.trans H;rw [hy184];with_reducible exact H2_)|(have H2_:=(Option.bind_some _ _).symm.trans H;with_reducible exact H2_)|with_reducible exact H|(rw [hy184];exact H)|exact H
      have Ny184:=Aside0.mk hy184
      clear hy184
      obtain ⟨y187,hy187⟩ : ∃ y_ : List Int,y_ = (([] : List Int)):=⟨_,rfl⟩
      replace H : (if y187.length + y184.length < 140737488355328 then (spec_l4Header.l1 k1 y184 (y187 ++ y184) l0 (l0.length : Int) 0) else (none)) = some r:=by first|(rw [hy187];with_reducible exact H)|(have H2_:=(Option.bind_some _ _).symm.trans H;rw [hy187];with_reducible exact H2_)|(have H2_:=(Option.bind_some _ _).symm.trans H;with_reducible exact H2_)|with_reducible exact H|(rw [hy187];exact H)|exact H
      have Ny187:=Aside0.mk hy187
      clear hy187
      by_cases c17 : y187.length + y184.length < 140737488355328
      ·rw [if_pos c17] at H
       have LMc17:=Aside0.mk c17
       clear c17
       obtain ⟨y190,hy190⟩ : ∃ y_ : List Int,y_ = (y187 ++ y184):=⟨_,rfl⟩
       replace H : (spec_l4Header.l1 k1 y184 y190 l0 (l0.length : Int) 0) = some r:=by first|(rw [hy190];with_reducible exact H)|(have H2_:=(Option.bind_some _ _).symm.trans H;rw [hy190];with_reducible exact H2_)|(have H2_:=(Option.bind_some _ _).symm.trans H;with_reducible exact H2_)|with_reducible exact H|(rw [hy190];exact H)|exact H
       have Ny190:=Aside0.mk hy190
       clear hy190
       have H':=Aside0.mk H
       clear H
       obtain ⟨Ao18,co18,eo18⟩:=Kd.R_slice HO_3.out
       subst eo18
       go_wp2_with (first|(at_builtin;refine Kd.R_append_zeros (Kd.int .u8) (w0:=w) w.heap.size rfl (.tmp 31) (.tmp 34) 24 3 5 (.int .u8 0) 1 rfl Try.underlying24 Try.underlying3 info5 rfl (by decide) (by omega) (.slice Ao18 x3_1.length co18) x3_1 0 (ji14 : Int) (fun _=>True) rfl rfl rfl ?aF ?aO (of_decide_eq_true (by assumption)) ?aB ?aS ?aL ?_;(case aB=>exact (by repeat (first|exact HB.out|apply below_alloc|apply pw_below_drewN|apply below_drew1)));(case aF=>exact (fun _ _=>trivial));(case aO=>exact (by (with_reducible repeat (first|apply Kd.R_alloc|apply Kd.R_drewN|apply Kd.R_drew));exact HO_3.out));(case aS=>exact (below_size (by repeat (first|exact HB.out|apply below_alloc|apply pw_below_drewN|apply below_drew1))));(case aL=>have:=LMc16.out;omega);intro v185 w19 ho hb hg hat;rw [← Ny184.out] at ho;have n0_:=Aside0.mk (hb);have n1_:=Aside0.mk (ho);clear HB;clear HO_3;have HB:=n0_;have HO186:=n1_;clear n0_ n1_;clear ho hb hg hat)|((with_reducible refine gate_dst (N:=36) rfl ?_);refine Kd.R_lit (Kd.int .u8) _ 5 ?hg (N:=36) ?hd (xs:=([] : List Int)) (inner:=[]) (ok:=fun _=>True) (okp:=fun _=>True) ?hr ?hp (fun _ hk=>hk) trivial (Below.refl _ _) (Nat.le_refl _) (by simp) ?_;(case hd=>rfl);(case hg=>rfl);(case hr=>first|(go_simp;done)|(go_simp;rfl));(case hp=>exact (Reps.none _ _));intro v188 w20 ho21 hb hg_ hnew_;clear hg_ hnew_;(first|rw [← Ny187.out] at ho21|(simp only [Int.reduceToNat] at ho21;rw [← Ny187.out] at ho21));have n0_:=Aside0.mk (Kd.R_elder' (by (with_reducible repeat (first|apply Kd.R_alloc|apply Kd.R_drewN|apply Kd.R_drew));exact HO186.out) (Kd.R_base ho21) hb);have n1_:=Aside0.mk (Kd.R_lower (Kd.R_new' ho21 (Kd.R_lt (by (with_reducible repeat (first|apply Kd.R_alloc|apply Kd.R_drewN|apply Kd.R_drew));exact HO186.out))) (below_size (by repeat (first|exact HB.out|apply below_alloc|apply pw_below_drewN|apply below_drew1))));have n2_:=Aside0.mk (below_step (by repeat (first|exact HB.out|apply below_alloc|apply pw_below_drewN|apply below_drew1)) hb);clear HO186;clear HB;have HO186:=n0_;have HO189:=n1_;have HB:=n2_;clear n0_ n1_ n2_;clear hb ho21;obtain ⟨Ao23,co23,eo23⟩:=Kd.R_slice HO186.out;subst eo23)|((with_reducible refine gate_builtin (b:=.append) (xs:=#[.tmp 36,.tmp 37]) rfl ?_);at_builtin;refine Kd.R_append_rows (Kd.int .u8) (w0:=w) w.heap.size rfl (.tmp 36) (.tmp 37) 24 5 (.int .u8 0) 1 rfl Try.underlying24 info5 rfl (by decide) (by omega) v188 y187 y184 _ _ _ (fun k_=>some k_ ≠ (.slice Ao23 y184.length co23 : Value).ownBlock) (fun _=>False) rfl rfl ?aO ?aR (fun _ _ h=>h) (fun _ h=>h.elim) ?aF ?aB ?aS ?aL ?_;(case aR=>repeat (first|exact (Kd.R_reads' HO186.out).2.2|(with_reducible first|apply Kd.C_alloc|apply Kd.C_drewN|apply Kd.C_drew)));(case aB=>exact (by repeat (first|exact HB.out|apply below_alloc|apply pw_below_drewN|apply below_drew1)));(case aF=>exact (fun k_ hk=>Kd.fresh' (Kd.R_lt (by (with_reducible repeat (first|apply Kd.R_alloc|apply Kd.R_drewN|apply Kd.R_drew));exact HO186.out)) k_ hk));(case aO=>exact (by (with_reducible repeat (first|apply Kd.R_alloc|apply Kd.R_drewN|apply Kd.R_drew));exact Kd.R_mono HO189.out (fun _ hk=>hk.2)));(case aS=>exact (below_size (by repeat (first|exact HB.out|apply below_alloc|apply pw_below_drewN|apply below_drew1))));(case aL=>have:=LMc17.out;omega);intro v191 w22 ho hb hg hat;rw [← Ny190.out] at ho;have n0_:=Aside0.mk (Kd.R_after (ok:=(fun _=>True)) (by (with_reducible repeat (first|apply Kd.R_alloc|apply Kd.R_drewN|apply Kd.R_drew));exact HO186.out) hg hat);have n1_:=Aside0.mk (hb);have n2_:=Aside0.mk (ho);clear HO186;clear HB;clear HO189;have HO186:=n0_;have HB:=n1_;have HO192:=n2_;clear n0_ n1_ n2_;clear ho hb hg hat))
       go_loopg [6,41] k1 (fun kq v6 v41 w'=>∃ (x6_2 : List Int) (x41_2 : Int),v41 = .int .i64 x41_2∧Aside0 (spec_l4Header.l1 kq y184 x6_2 l0 (l0.length : Int) x41_2 = some r)∧Aside0 (kq ≤ k1)∧Aside0 (Kd.R (Kd.int .u8) 5 w' w.heap.size (fun k_=>some k_ ≠ (v6 : Value).ownBlock) (.slice Ao23 y184.length co23) y184)∧Aside0 (Kd.R (Kd.int .u8) 5 w' w.heap.size (fun k_=>some k_ ≠ ((.slice Ao23 y184.length co23) : Value).ownBlock) v6 x6_2)∧Aside0 (Below w.heap.size w w'))
       case atStart=>exact ⟨(y190),(0),(by first|rfl|(simp;done)|(simp [*];done)),H',⟨Nat.le_refl _⟩,⟨by (with_reducible repeat (first|apply Kd.R_alloc|apply Kd.R_drewN|apply Kd.R_drew));exact Kd.R_mono HO186.out (fun _ hk=>hk.2)⟩,⟨by (with_reducible repeat (first|apply Kd.R_alloc|apply Kd.R_drewN|apply Kd.R_drew));exact HO192.out⟩,⟨by repeat (first|exact HB.out|apply below_alloc|apply pw_below_drewN|apply below_drew1)⟩⟩
       case round =>
        clear H'
        try clear c1;try clear p1;try clear q1;try clear hx1;try clear p2;try clear c4;try clear c4b0;try clear c5;try clear c5b0;try clear c6;try clear c6b0;try clear p6;try clear c7;try clear c15;try clear c15b0;try clear c15b1;try clear c16;try clear c17;try clear p17;try clear q17;try clear hx17;try clear hcz9_0;try clear hcz9_1;try clear hfz9_0;try clear hfz9_1;try clear hx176_0;try clear hx176_1;try clear p176;try clear p2;try clear q176
        obtain ⟨x6_2,x41_2,rfl,HA,HK2,HO_3,HO_6,HB⟩:=hrel
        cases gk with
        | zero=>exact absurd HA.out (by simp [spec_l4Header.l1])
        | succ k2 =>
         have H:=HA.out
         clear HA
         simp only [spec_l4Header.l1] at H
         by_cases c24 : x41_2 < (l0.length : Int)
         ·rw [if_pos c24] at H
          have c24b0 : decide (x41_2 < (l0.length : Int)) = true:=decide_eq_true c24
          clear c24
          by_cases c25 : 0 ≤ x41_2
          ·rw [if_pos c25] at H
           have c25b0 : decide (0 ≤ x41_2) = true:=decide_eq_true c25
           clear c25
           by_cases c26 : x41_2 < (l0.length : Int)
           ·rw [if_pos c26] at H
            have c26b0 : decide (x41_2 < (l0.length : Int)) = true:=decide_eq_true c26
            clear c26
            by_cases c27 : x6_2.length + ((rd_T59 l0 x41_2).f1).length < 140737488355328
            ·rw [if_pos c27] at H
             have LMc27:=Aside0.mk c27
             clear c27
             obtain ⟨y195,hy195⟩ : ∃ y_ : List Int,y_ = (x6_2 ++ ((rd_T59 l0 x41_2).f1)):=⟨_,rfl⟩
             replace H : (spec_l4Header.l1 k2 y184 y195 l0 (l0.length : Int) (wrap64 (x41_2 + 1))) = some r:=by first|(rw [hy195];with_reducible exact H)|(have H2_:=(Option.bind_some _ _).symm.trans H;rw [hy195];with_reducible exact H2_)|(have H2_:=(Option.bind_some _ _).symm.trans H;with_reducible exact H2_)|with_reducible exact H|(rw [hy195];exact H)|exact H
             have Ny195:=Aside0.mk hy195
             clear hy195
             have H':=Aside0.mk H
             clear H
             have p193 : 0 ≤ (x41_2 : Int):=of_decide_eq_true (by assumption)
             have q193 : x41_2 < (l0.length : Int):=of_decide_eq_true (by assumption)
             obtain ⟨ad193,A193_1,c193_1,e193,hx193_0,hx193_1,hl193_1,hi193_1⟩:=at_T59 HR0.out x41_2 p193 q193
             cases e193
             (try replace hx193_0:=(HB.out.cell (World.block_lt_of_cell? w _ hx193_0)).trans hx193_0)
             (try replace hx193_1:=(HB.out.cell (World.block_lt_of_cell? w _ hx193_1)).trans hx193_1)
             have HR193_1:=Aside0.mk hi193_1
             have HC193_1:=Aside0.mk hl193_1
             clear hi193_1 hl193_1
             replace p193:=eq_true p193
             replace q193:=eq_true q193
             go_wp2_with (first|((with_reducible refine gate_dst (N:=8) rfl ?_);refine box_event ?hg (N:=8) ?hd (cs:=#[.int .i64 0,.slice none 0 0]) (t:=59) ?hr ?_;(case hd=>rfl);(case hg=>rfl);(case hr=>first|(go_simp;done)|(go_simp;rfl));intro gb194 hg w28 hbox hb;have n0_:=Aside0.mk (Kd.R_below (by (with_reducible repeat (first|apply Kd.R_alloc|apply Kd.R_drewN|apply Kd.R_drew));exact HO_3.out) hb);have n1_:=Aside0.mk (Kd.R_below (by (with_reducible repeat (first|apply Kd.R_alloc|apply Kd.R_drewN|apply Kd.R_drew));exact HO_6.out) hb);have n2_:=Aside0.mk (below_step (by repeat (first|exact HB.out|apply below_alloc|apply pw_below_drewN|apply below_drew1)) hb);have n3_:=Aside0.mk (hbox);have n4_:=Aside0.mk ((by rw [hg];exact (below_size (by repeat (first|exact HB.out|apply below_alloc|apply pw_below_drewN|apply below_drew1))) : w.heap.size ≤ gb194));have n5_:=Aside0.mk ((by rw [hg];exact (below_size (by repeat (first|exact HB.out|apply below_alloc|apply pw_below_drewN|apply below_drew1))) : w.heap.size ≤ gb194));clear HO_3;clear HO_6;clear HB;have HO_3:=n0_;have HO_6:=n1_;have HB:=n2_;have BK194:=n3_;have GW194:=n4_;have GE194:=n5_;clear n0_ n1_ n2_ n3_ n4_ n5_;clear hb hbox hg;have hcz29_0 : w28.cell? ⟨gb194,0,none⟩ = some (.int .i64 0):=(blk_cell BK194.out 0).trans rfl;have hcz29_1 : w28.cell? ⟨gb194,1,none⟩ = some (.slice none 0 0):=(blk_cell BK194.out 1).trans rfl;have hfz29_0:=blk_frozen BK194.out 0;have hfz29_1:=blk_frozen BK194.out 1)|((with_reducible refine gate_builtin (b:=.append) (xs:=#[.tmp 45,.tmp 47]) rfl ?_);at_builtin;refine Kd.R_append_rows (Kd.int .u8) (w0:=w) w.heap.size rfl (.tmp 45) (.tmp 47) 24 5 (.int .u8 0) 1 rfl Try.underlying24 info5 rfl (by decide) (by omega) u6 x6_2 ((rd_T59 l0 x41_2).f1) _ _ _ (fun k_=>some k_ ≠ (.slice Ao23 y184.length co23 : Value).ownBlock) (fun _=>False) rfl rfl ?aO ?aR (fun _ _ h=>h) (fun _ h=>h.elim) ?aF ?aB ?aS ?aL ?_;(case aR=>exact Kd.C_below HR193_1.out (by repeat (first|(with_reducible first|exact HB.out|apply below_alloc|apply pw_below_drewN|apply below_drew1|refine below_set ?_ GE194.out)|exact HB.out)));(case aB=>exact (by repeat (first|(with_reducible first|exact HB.out|apply below_alloc|apply pw_below_drewN|apply below_drew1|refine below_set ?_ GE194.out)|exact HB.out)));(case aF=>exact (fun k_ hk=>Kd.fresh' (Kd.R_lt (by (with_reducible repeat (first|apply Kd.R_alloc|apply Kd.R_drewN|apply Kd.R_drew));exact (Kd.R_mono (Kd.R_far (p:=⟨gb194,1,none⟩) (Kd.R_far (p:=⟨gb194,0,none⟩) (Kd.R_types HO_3.out BK194.out (by decide)) (fun _ hk=>hk.2) (.int .i64 ((rd_T59 l0 x41_2).f0))) (fun _ hk=>hk.2) (.slice A193_1 ((rd_T59 l0 x41_2).f1).length c193_1)) (fun _ h_=>h_.1)))) k_ hk));(case aO=>exact (by (with_reducible repeat (first|apply Kd.R_alloc|apply Kd.R_drewN|apply Kd.R_drew));exact Kd.R_mono (Kd.R_far (p:=⟨gb194,1,none⟩) (Kd.R_far (p:=⟨gb194,0,none⟩) (Kd.R_types HO_6.out BK194.out (by decide)) (fun _ hk=>hk.2) (.int .i64 ((rd_T59 l0 x41_2).f0))) (fun _ hk=>hk.2) (.slice A193_1 ((rd_T59 l0 x41_2).f1).length c193_1)) (fun _ hk=>hk.1)));(case aS=>exact (below_size (by repeat (first|(with_reducible first|exact HB.out|apply below_alloc|apply pw_below_drewN|apply below_drew1|refine below_set ?_ GE194.out)|exact HB.out))));(case aL=>have:=LMc27.out;omega);intro v196 w30 ho hb hg hat;rw [← Ny195.out] at ho;have n0_:=Aside0.mk (Kd.R_after (ok:=(fun _=>True)) (by (with_reducible repeat (first|apply Kd.R_alloc|apply Kd.R_drewN|apply Kd.R_drew));exact Kd.R_mono (Kd.R_far (p:=⟨gb194,1,none⟩) (Kd.R_far (p:=⟨gb194,0,none⟩) (Kd.R_types HO_3.out BK194.out (by decide)) (fun _ hk=>hk.2) (.int .i64 ((rd_T59 l0 x41_2).f0))) (fun _ hk=>hk.2) (.slice A193_1 ((rd_T59 l0 x41_2).f1).length c193_1)) (fun _ hk=>⟨trivial,hk.1⟩)) hg hat);have n1_:=Aside0.mk (blk_grown (g:=gb194) (o:=.cells #[.int .i64 ((rd_T59 l0 x41_2).f0),.slice A193_1 ((rd_T59 l0 x41_2).f1).length c193_1] 59 (0,0)) (by (with_reducible repeat first|apply blk_drewN|apply blk_drew|apply blk_alloc);refine blk_put (cs:=#[.int .i64 ((rd_T59 l0 x41_2).f0),.slice none 0 0]) ?_ 1 _ rfl;(with_reducible repeat first|apply blk_drewN|apply blk_drew|apply blk_alloc);refine blk_put (cs:=#[.int .i64 0,.slice none 0 0]) ?_ 0 _ rfl;(with_reducible repeat first|apply blk_drewN|apply blk_drew|apply blk_alloc);exact BK194.out) hg (Kd.R_ne HO_6.out BK194.out (by decide)));have n2_:=Aside0.mk (hb);have n3_:=Aside0.mk (ho);clear HO_3;clear BK194;clear HB;clear HO_6;have HO_3:=n0_;have BK194:=n1_;have HB:=n2_;have HO197:=n3_;clear n0_ n1_ n2_ n3_;clear ho hb hg hat))
             go_roundg k2
             case measure=>have:=HK1.out;have:=HK2.out;omega
             case rel=>exact ⟨(y195),(wrap64 (x41_2 + 1)),(by first|rfl|(simp;done)|(simp [*];done)),H',⟨by have:=HK1.out;have:=HK2.out;omega⟩,⟨by (with_reducible repeat (first|apply Kd.R_alloc|apply Kd.R_drewN|apply Kd.R_drew));exact Kd.R_mono HO_3.out (fun _ hk=>hk.2)⟩,⟨by (with_reducible repeat (first|apply Kd.R_alloc|apply Kd.R_drewN|apply Kd.R_drew));exact HO197.out⟩,⟨by repeat (first|(with_reducible first|exact HB.out|apply below_alloc|apply pw_below_drewN|apply below_drew1|refine below_set ?_ GE194.out)|exact HB.out)⟩⟩
            ·rw [if_neg c27] at H
             exact absurd H (by simp)
           ·rw [if_neg c26] at H
            exact absurd H (by simp)
          ·rw [if_neg c25] at H
           exact absurd H (by simp)
         ·rw [if_neg c24] at H
          have c24b0 : decide (x41_2 < (l0.length : Int)) = false:=decide_eq_false c24
          clear c24
          replace H:=Option.bind_eq_some_iff.mp H
          obtain ⟨t198,A310,H⟩:=H
          replace H : ((some (([(t198 / 16777216) % 256,(t198 / 65536) % 256,(t198 / 256) % 256,(t198) % 256] : List Int) : List Int)).bind fun y199=>(if y184.length + y199.length < 140737488355328 then (some (y184 ++ y199)) else (none))) = some r:=H
          have A31:=Aside0.mk A310
          clear A310
          obtain ⟨y199,hy199⟩ : ∃ y_ : List Int,y_ = (([(t198 / 16777216) % 256,(t198 / 65536) % 256,(t198 / 256) % 256,(t198) % 256] : List Int)):=⟨_,rfl⟩
          replace H : (if y184.length + y199.length < 140737488355328 then (some (y184 ++ y199)) else (none)) = some r:=by first|(rw [hy199];with_reducible exact H)|(have H2_:=(Option.bind_some _ _).symm.trans H;rw [hy199];with_reducible exact H2_)|(have H2_:=(Option.bind_some _ _).symm.trans H;with_reducible exact H2_)|with_reducible exact H|(rw [hy199];exact H)|exact H
          have Ny199:=Aside0.mk hy199
          clear hy199
          by_cases c32 : y184.length + y199.length < 140737488355328
          ·rw [if_pos c32] at H
           have LMc32:=Aside0.mk c32
           clear c32
           obtain ⟨y202,hy202⟩ : ∃ y_ : List Int,y_ = (y184 ++ y199):=⟨_,rfl⟩
           replace H : (some y202) = some r:=by first|(rw [hy202];with_reducible exact H)|(have H2_:=(Option.bind_some _ _).symm.trans H;rw [hy202];with_reducible exact H2_)|(have H2_:=(Option.bind_some _ _).symm.trans H;with_reducible exact H2_)|with_reducible exact H|(rw [hy202];exact H)|exact H
           have Ny202:=Aside0.mk hy202
           clear hy202
           obtain rfl:=Option.some.inj H
           obtain ⟨Ao33,co33,eo33⟩:=Kd.R_slice HO_6.out
           subst eo33
           go_wp2_with (first|((with_reducible refine gate_callee (f:=70) rfl ?_);refine goesL_ (some 51) rfl rfl Try.func70 (by kernel_rfl) rfl #[.slice Ao33 x6_2.length co33] rfl (by (try simp only [List.map_toArray,List.map_cons,List.map_nil]);first|done|rfl|(simp only [List.length_drop,List.length_take];rfl)) ?_;(with_reducible refine (spec_DigestOf.calls k2 _ _ x6_2 t198 _ ?side1 ?side2 A31.out).mono ?_);(case side1=>repeat (first|exact (Kd.R_reads' HO_6.out).2.2|(with_reducible first|apply Kd.C_alloc|apply Kd.C_drewN|apply Kd.C_drew)));(case side2=>exact (Kd.R_reads' HO_6.out).2.1);rintro e w' ⟨rfl,⟨nd,rfl⟩⟩;refine ⟨_,rfl,?_⟩)|((with_reducible refine gate_dst (N:=64) rfl ?_);refine Kd.R_lit (Kd.int .u8) _ 5 ?hg (N:=64) ?hd (xs:=([(t198 / 16777216) % 256,(t198 / 65536) % 256,(t198 / 256) % 256,(t198) % 256] : List Int)) (inner:=[.int .u8 ((t198 / 16777216) % 256),.int .u8 ((t198 / 65536) % 256),.int .u8 ((t198 / 256) % 256),.int .u8 ((t198) % 256)]) (ok:=fun _=>True) (okp:=fun _=>True) ?hr ?hp (fun _ hk=>hk) trivial (Below.refl _ _) (Nat.le_refl _) (by simp) ?_;(case hd=>rfl);(case hg=>rfl);(case hr=>first|(go_simp;done)|(go_simp;rfl));(case hp=>exact (Reps.one (show Kd.M (Kd.int .u8) _ _ _ ((t198 / 16777216) % 256) [.int .u8 ((t198 / 16777216) % 256)] from rfl) (Reps.one (show Kd.M (Kd.int .u8) _ _ _ ((t198 / 65536) % 256) [.int .u8 ((t198 / 65536) % 256)] from rfl) (Reps.one (show Kd.M (Kd.int .u8) _ _ _ ((t198 / 256) % 256) [.int .u8 ((t198 / 256) % 256)] from rfl) (Reps.one (show Kd.M (Kd.int .u8) _ _ _ ((t198) % 256) [.int .u8 ((t198) % 256)] from rfl) (Reps.none _ _))))));intro v200 w34 ho35 hb hg_ hnew_;clear hg_ hnew_;(first|rw [← Ny199.out] at ho35|(simp only [Int.reduceToNat] at ho35;rw [← Ny199.out] at ho35));have n0_:=Aside0.mk (Kd.R_elder' (by (with_reducible repeat (first|apply Kd.R_alloc|apply Kd.R_drewN|apply Kd.R_drew));exact HO_3.out) (Kd.R_base ho35) hb);have n1_:=Aside0.mk (Kd.R_elder' (by (with_reducible repeat (first|apply Kd.R_alloc|apply Kd.R_drewN|apply Kd.R_drew));exact HO_6.out) (Kd.R_base ho35) hb);have n2_:=Aside0.mk (Kd.R_lower (Kd.R_new' (Kd.R_new' ho35 (Kd.R_lt (by (with_reducible repeat (first|apply Kd.R_alloc|apply Kd.R_drewN|apply Kd.R_drew));exact HO_3.out))) (Kd.R_lt (by (with_reducible repeat (first|apply Kd.R_alloc|apply Kd.R_drewN|apply Kd.R_drew));exact HO_6.out))) (below_size (by repeat (first|exact HB.out|apply below_alloc|apply pw_below_drewN|apply below_drew1))));have n3_:=Aside0.mk (below_step (by repeat (first|exact HB.out|apply below_alloc|apply pw_below_drewN|apply below_drew1)) hb);clear HO_3;clear HO_6;clear HB;have HO_3:=n0_;have HO_6:=n1_;have HO201:=n2_;have HB:=n3_;clear n0_ n1_ n2_ n3_;clear hb ho35;obtain ⟨Ao37,co37,eo37⟩:=Kd.R_slice HO201.out;subst eo37)|((with_reducible refine gate_builtin (b:=.append) (xs:=#[.tmp 52,.tmp 64]) rfl ?_);at_builtin;refine Kd.R_append_rows (Kd.int .u8) (w0:=w) w.heap.size rfl (.tmp 52) (.tmp 64) 24 5 (.int .u8 0) 1 rfl Try.underlying24 info5 rfl (by decide) (by omega) (.slice Ao23 y184.length co23) y184 y199 _ _ _ (fun k_=>some k_ ≠ (.slice Ao33 x6_2.length co33 : Value).ownBlock∧some k_ ≠ (.slice Ao37 y199.length co37 : Value).ownBlock) (fun _=>False) rfl rfl ?aO ?aR (fun _ _ h=>h) (fun _ h=>h.elim) ?aF ?aB ?aS ?aL ?_;(case aR=>repeat (first|exact (Kd.R_reads' HO201.out).2.2|(with_reducible first|apply Kd.C_alloc|apply Kd.C_drewN|apply Kd.C_drew)));(case aB=>exact (by repeat (first|exact HB.out|apply below_alloc|apply pw_below_drewN|apply below_drew1)));(case aF=>exact (fun k_ hk=>⟨Kd.fresh' (Kd.R_lt (by (with_reducible repeat (first|apply Kd.R_alloc|apply Kd.R_drewN|apply Kd.R_drew));exact HO_6.out)) k_ hk,Kd.fresh' (Kd.R_lt (by (with_reducible repeat (first|apply Kd.R_alloc|apply Kd.R_drewN|apply Kd.R_drew));exact HO201.out)) k_ hk⟩));(case aO=>exact (by (with_reducible repeat (first|apply Kd.R_alloc|apply Kd.R_drewN|apply Kd.R_drew));exact HO_3.out));(case aS=>exact (below_size (by repeat (first|exact HB.out|apply below_alloc|apply pw_below_drewN|apply below_drew1))));(case aL=>have:=LMc32.out;omega);intro v203 w36 ho hb hg hat;rw [← Ny202.out] at ho;have n0_:=Aside0.mk (Kd.R_after (ok:=(fun k_=>some k_ ≠ (.slice Ao37 y199.length co37 : Value).ownBlock)) (by (with_reducible repeat (first|apply Kd.R_alloc|apply Kd.R_drewN|apply Kd.R_drew));exact Kd.R_mono HO_6.out (fun _ hk=>⟨hk.2,hk.1⟩)) hg hat);have n1_:=Aside0.mk (Kd.R_after (ok:=(fun k_=>some k_ ≠ (.slice Ao33 x6_2.length co33 : Value).ownBlock)) (by (with_reducible repeat (first|apply Kd.R_alloc|apply Kd.R_drewN|apply Kd.R_drew));exact Kd.R_mono HO201.out (fun _ hk=>⟨hk.2,hk.1.2⟩)) hg hat);have n2_:=Aside0.mk (hb);have n3_:=Aside0.mk (ho);clear HO_6;clear HO201;clear HB;clear HO_3;have HO_6:=n0_;have HO201:=n1_;have HB:=n2_;have HO204:=n3_;clear n0_ n1_ n2_ n3_;clear ho hb hg hat))
           go_ret
           exact ⟨_,by first|rfl|(simp [errW_none,errW_some] <;> rfl)|(simp only [← hji14];first|rfl|(simp [errW_none,errW_some] <;> rfl))|(simp [*,errW_none,errW_some] <;> rfl),by (with_reducible repeat (first|apply Kd.R_alloc|apply Kd.R_drewN|apply Kd.R_drew));exact Kd.R_mono HO204.out (fun _ hk=>trivial),by repeat (first|exact HB.out|apply below_alloc|apply pw_below_drewN|apply below_drew1)⟩
          ·rw [if_neg c32] at H
           exact absurd H (by simp)
      ·rw [if_neg c17] at H
       exact absurd H (by simp)
     ·rw [if_neg c16] at H
      exact absurd H (by simp)
    ·rw [if_neg c15] at H
     exact absurd H (by simp)

end Go.Proofs.Ytfjboeeogjepeaa.PFnExactPlanOf
