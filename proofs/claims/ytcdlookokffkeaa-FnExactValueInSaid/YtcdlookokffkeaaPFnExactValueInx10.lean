-- Written by a program of this session over the print of the kit (wip/t/patch_print.py).
import Derived.Test.YtcdlookokffkeaaPFnExactValueInx0
import Derived.Test.YtcdlookokffkeaaPFnExactValueInx8
import Derived.Test.YtcdlookokffkeaaPFnExactValueInx9
namespace Go.Proofs.Ytcdlookokffkeaa.PFnExactValueIn
open Go.RowKit Go.Proofs.YtcdlookokffkeaaW.PrintWords Go.Proofs.YtcdlookokffkeaaW.PrintLast Go.Proofs.YtcdlookokffkeaaW.PrintMore
attribute [local go_sem] max2_int min2_int max_two min_two max_three min_three max_four min_four   -- for this text's walks alone
set_option linter.unusedVariables false
set_option linter.unusedSimpArgs false

/-! ### impl_Space_page: function 67 -/
mutual
def impl_Space_page.j0 : Nat → Int → Bool → List (List Int) → List Int → List Int → List Int → Option (List Int × Bool)
 | 0,_,_,_,_,_,_=>none
 | k + 1,x1,x27,x1000,x1001,x1002,x1003=>if x27 = true then (some (([] : List Int),false)) else (if 0 ≤ x1 then (if x1 < (x1000.length : Int) then (if 65 ≤ ((rd_L1 x1000 x1).length : Int) then ((slices_ContainsFunc_byte_byte_80.f k ((rd_L1 x1000 x1).drop 65) ()).bind fun t270=>(if t270 = true then (some (([] : List Int),false)) else (impl_Space_page.l0 k (rd_L1 x1000 x1) (([] : List Int)) 0))) else (none)) else (none)) else (none))
def impl_Space_page.l0 : Nat → List Int → List Int → Int → Option (List Int × Bool)
 | 0,_,_,_=>none
 | k + 1,x8,x9,x39=>if x39 < 32 then ((impl_numberAt.f x8 (wrap64 (1 + (wrap64 (2 * x39))))).bind fun t274=>(if x9.length < 17592186044416 then (impl_Space_page.l0 k x8 (x9 ++ [t274]) (wrap64 (x39 + 1))) else (none))) else (some (x9,true))
end
def impl_Space_page.f (k : Nat) (l0_0 : List (List Int)) (l0_1 : List Int) (l0_2 : List Int) (l0_3 : List Int) (a1 : Int) (a2 : Int) : Option (List Int × Bool):=(impl_Space_isHere.f k l0_0 l0_1 l0_2 l0_3 a1).bind fun t265=>(if t265 = true then (if 0 ≤ a1 then (if a1 < (l0_0.length : Int) then (if 0 < ((rd_L1 l0_0 a1).length : Int) then (impl_Space_page.j0 k a1 ((rd (rd_L1 l0_0 a1) 0) != a2) l0_0 l0_1 l0_2 l0_3) else (none)) else (none)) else (none)) else (impl_Space_page.j0 k a1 true l0_0 l0_1 l0_2 l0_3))
theorem impl_Space_page.mono_l : ∀ k,(∀ y0 y1 y2 y3 y4 y5,LeO (impl_Space_page.j0 k y0 y1 y2 y3 y4 y5) (impl_Space_page.j0 (k + 1) y0 y1 y2 y3 y4 y5))∧(∀ y0 y1 y2,LeO (impl_Space_page.l0 k y0 y1 y2) (impl_Space_page.l0 (k + 1) y0 y1 y2))
 | 0=>⟨fun _ _ _ _ _ _ r h=>by simp [impl_Space_page.j0] at h,fun _ _ _ r h=>by simp [impl_Space_page.l0] at h⟩
 | k + 1=>by
  obtain ⟨ih0,ih1⟩:=impl_Space_page.mono_l k
  refine ⟨?_,?_⟩
  ·intro y0 y1 y2 y3 y4 y5
   unfold impl_Space_page.j0
   repeat' first
   | (with_reducible exact ih0 _ _ _ _ _ _)
   | (with_reducible exact ih1 _ _ _)
   | (with_reducible exact impl_Space_isHere.mono _ _ _ _ _ _)
   | (with_reducible exact slices_ContainsFunc_byte_byte_80.mono _ _ _)
   | (with_reducible exact LeO.refl _)
   | (with_reducible exact LeO.none _)
   | (with_reducible refine LeO.ite ?_ ?_)
   | (with_reducible refine LeO.bind ?_ (fun _=>?_))
   | exact ih0 _ _ _ _ _ _
   | exact ih1 _ _ _
   | exact impl_Space_isHere.mono _ _ _ _ _ _
   | exact slices_ContainsFunc_byte_byte_80.mono _ _ _
   | exact LeO.none _
   | refine LeO.ite ?_ ?_
   | refine LeO.bind ?_ (fun _=>?_)
  ·intro y0 y1 y2
   unfold impl_Space_page.l0
   repeat' first
   | (with_reducible exact ih0 _ _ _ _ _ _)
   | (with_reducible exact ih1 _ _ _)
   | (with_reducible exact impl_Space_isHere.mono _ _ _ _ _ _)
   | (with_reducible exact slices_ContainsFunc_byte_byte_80.mono _ _ _)
   | (with_reducible exact LeO.refl _)
   | (with_reducible exact LeO.none _)
   | (with_reducible refine LeO.ite ?_ ?_)
   | (with_reducible refine LeO.bind ?_ (fun _=>?_))
   | exact ih0 _ _ _ _ _ _
   | exact ih1 _ _ _
   | exact impl_Space_isHere.mono _ _ _ _ _ _
   | exact slices_ContainsFunc_byte_byte_80.mono _ _ _
   | exact LeO.none _
   | refine LeO.ite ?_ ?_
   | refine LeO.bind ?_ (fun _=>?_)
theorem impl_Space_page.mono : ∀ a0 a1 a2 a3 a4 a5 k,LeO (impl_Space_page.f k a0 a1 a2 a3 a4 a5) (impl_Space_page.f (k + 1) a0 a1 a2 a3 a4 a5):=by
 intro a0 a1 a2 a3 a4 a5 k
 obtain ⟨ih0,ih1⟩:=impl_Space_page.mono_l k
 unfold impl_Space_page.f
 repeat' first
   | (with_reducible exact ih0 _ _ _ _ _ _)
   | (with_reducible exact ih1 _ _ _)
   | (with_reducible exact impl_Space_isHere.mono _ _ _ _ _ _)
   | (with_reducible exact slices_ContainsFunc_byte_byte_80.mono _ _ _)
   | (with_reducible exact LeO.refl _)
   | (with_reducible exact LeO.none _)
   | (with_reducible refine LeO.ite ?_ ?_)
   | (with_reducible refine LeO.bind ?_ (fun _=>?_))
   | exact ih0 _ _ _ _ _ _
   | exact ih1 _ _ _
   | exact impl_Space_isHere.mono _ _ _ _ _ _
   | exact slices_ContainsFunc_byte_byte_80.mono _ _ _
   | exact LeO.none _
   | refine LeO.ite ?_ ?_
   | refine LeO.bind ?_ (fun _=>?_)
set_option maxHeartbeats 8000000 in
set_option maxRecDepth 100000 in
theorem impl_Space_page.calls (k : Nat) (g0_ : Nat) (A0_0 : Option Addr) (c0_0 : Nat) (l0_0 : List (List Int)) (A0_1 : Option Addr) (c0_1 : Nat) (l0_1 : List Int) (A0_2 : Option Addr) (c0_2 : Nat) (l0_2 : List Int) (A0_3 : Option Addr) (c0_3 : Nat) (l0_3 : List Int) (a1 : Int) (a2 : Int) (r1 : List Int) (r2 : Bool) (w : World) (hg0_ : w.heap[g0_]? = some (.cells #[.slice A0_0 l0_0.length c0_0,.slice A0_1 l0_1.length c0_1,.slice A0_2 l0_2.length c0_2,.slice A0_3 l0_3.length c0_3] 30 (0,0))) (hr0_0 : Kd.C (Kd.slice 5 (Kd.int .u8)) w A0_0 l0_0.length l0_0) (hc0_0 : l0_0.length ≤ c0_0) (hr0_1 : Kd.C (Kd.int .u8) w A0_1 l0_1.length l0_1) (hc0_1 : l0_1.length ≤ c0_1) (hr0_2 : Kd.C (Kd.int .i64) w A0_2 l0_2.length l0_2) (hc0_2 : l0_2.length ≤ c0_2) (hr0_3 : Kd.C (Kd.int .i64) w A0_3 l0_3.length l0_3) (hc0_3 : l0_3.length ≤ c0_3) (h : impl_Space_page.f k l0_0 l0_1 l0_2 l0_3 a1 a2 = some (r1,r2)) :
  Calls Try.prog 67 #[.pointer (some ⟨g0_,0,none⟩),.int .i64 a1,.int .u8 a2] w fun e w'=>∃ v0_ : Value,e = .returned (.tuple #[v0_,.bool r2])∧Kd.R (Kd.int .i64) 3 w' w.heap.size (fun _=>True) v0_ r1∧Below w.heap.size w w':=by
 have HR0_0:=Aside0.mk hr0_0
 have HC0_0:=Aside0.mk hc0_0
 clear hr0_0 hc0_0
 have HR0_1:=Aside0.mk hr0_1
 have HC0_1:=Aside0.mk hc0_1
 clear hr0_1 hc0_1
 have HR0_2:=Aside0.mk hr0_2
 have HC0_2:=Aside0.mk hc0_2
 clear hr0_2 hc0_2
 have HR0_3:=Aside0.mk hr0_3
 have HC0_3:=Aside0.mk hc0_3
 clear hr0_3 hc0_3
 have BK0:=Aside0.mk hg0_
 clear hg0_
 have HB:=Aside0.mk (Below.refl w.heap.size w)
 have H : ((impl_Space_isHere.f k l0_0 l0_1 l0_2 l0_3 a1).bind fun t265=>(if t265 = true then (if 0 ≤ a1 then (if a1 < (l0_0.length : Int) then (if 0 < ((rd_L1 l0_0 a1).length : Int) then (impl_Space_page.j0 k a1 ((rd (rd_L1 l0_0 a1) 0) != a2) l0_0 l0_1 l0_2 l0_3) else (none)) else (none)) else (none)) else (impl_Space_page.j0 k a1 true l0_0 l0_1 l0_2 l0_3))) = some (r1,r2):=h
 clear h
 have HC4:=Aside0.mk H
 clear H
 go_enter Try.func67,Try.ntmps67
 go_upto_region 1 with (fail)
 go_cut [27] (fun v27 wc=>∃ (kq : Nat) (x27_3 : Bool),v27 = .bool x27_3∧Aside0 (impl_Space_page.j0 kq a1 x27_3 l0_0 l0_1 l0_2 l0_3 = some (r1,r2))∧Aside0 (kq ≤ k)∧Aside0 (wc.heap[g0_]? = some (.cells #[(.slice A0_0 l0_0.length c0_0),(.slice A0_1 l0_1.length c0_1),(.slice A0_2 l0_2.length c0_2),(.slice A0_3 l0_3.length c0_3)] 30 (0,0)))∧Aside0 (Below w.heap.size w wc))
 case first =>
  have H:=HC4.out
  clear HC4
  replace H:=Option.bind_eq_some_iff.mp H
  obtain ⟨t265,A50,H⟩:=H
  replace H : (if t265 = true then (if 0 ≤ a1 then (if a1 < (l0_0.length : Int) then (if 0 < ((rd_L1 l0_0 a1).length : Int) then (impl_Space_page.j0 k a1 ((rd (rd_L1 l0_0 a1) 0) != a2) l0_0 l0_1 l0_2 l0_3) else (none)) else (none)) else (none)) else (impl_Space_page.j0 k a1 true l0_0 l0_1 l0_2 l0_3)) = some (r1,r2):=H
  have A5:=Aside0.mk A50
  clear A50
  by_cases c6 : t265 = true
  ·subst c6
   have H1 : (if 0 ≤ a1 then (if a1 < (l0_0.length : Int) then (if 0 < ((rd_L1 l0_0 a1).length : Int) then (impl_Space_page.j0 k a1 ((rd (rd_L1 l0_0 a1) 0) != a2) l0_0 l0_1 l0_2 l0_3) else (none)) else (none)) else (none)) = some (r1,r2):=by rw [if_pos rfl] at H;exact H
   clear H
   have H:=H1
   clear H1
   by_cases c7 : 0 ≤ a1
   ·rw [if_pos c7] at H
    have c7b0 : decide (0 ≤ a1) = true:=decide_eq_true c7
    clear c7
    (first|rw [c7b0]|(simp only [i64_w,i32_w];rw [c7b0])|skip)
    by_cases c8 : a1 < (l0_0.length : Int)
    ·rw [if_pos c8] at H
     have c8b0 : decide (a1 < (l0_0.length : Int)) = true:=decide_eq_true c8
     clear c8
     by_cases c9 : 0 < ((rd_L1 l0_0 a1).length : Int)
     ·rw [if_pos c9] at H
      have c9b0 : decide (0 < ((rd_L1 l0_0 a1).length : Int)) = true:=decide_eq_true c9
      have c9b1 : decide (0 < (rd_L1 l0_0 a1).length) = true:=decide_eq_true (by omega)
      clear c9
      have H':=Aside0.mk H
      clear H
      go_wp2_with (first|((with_reducible refine gate_callee (f:=75) rfl ?_);refine goesL_ (some 13) rfl rfl Try.func75 (by kernel_rfl) rfl #[.pointer (some ⟨g0_,0,none⟩),.int .i64 a1] rfl (by (try simp only [List.map_toArray,List.map_cons,List.map_nil]);first|done|rfl|(simp only [List.length_drop,List.length_take];rfl)) ?_;(with_reducible refine (impl_Space_isHere.calls k g0_ A0_0 c0_0 l0_0 A0_1 c0_1 l0_1 A0_2 c0_2 l0_2 A0_3 c0_3 l0_3 a1 true _ ?side1 ?side2 ?side3 ?side4 ?side5 ?side6 ?side7 ?side8 ?side9 A5.out).mono ?_);(case side1=>exact by (with_reducible repeat first|apply blk_drewN|apply blk_drew|apply blk_alloc);exact BK0.out);(case side2=>repeat (first|exact (Kd.C_below HR0_0.out HB.out)|(with_reducible first|apply Kd.C_alloc|apply Kd.C_drewN|apply Kd.C_drew)));(case side3=>exact HC0_0.out);(case side4=>repeat (first|exact (Kd.C_below HR0_1.out HB.out)|(with_reducible first|apply Kd.C_alloc|apply Kd.C_drewN|apply Kd.C_drew)));(case side5=>exact HC0_1.out);(case side6=>repeat (first|exact (Kd.C_below HR0_2.out HB.out)|(with_reducible first|apply Kd.C_alloc|apply Kd.C_drewN|apply Kd.C_drew)));(case side7=>exact HC0_2.out);(case side8=>repeat (first|exact (Kd.C_below HR0_3.out HB.out)|(with_reducible first|apply Kd.C_alloc|apply Kd.C_drewN|apply Kd.C_drew)));(case side9=>exact HC0_3.out);rintro e w10 ⟨rfl,hb⟩;refine ⟨_,rfl,?_⟩;have n0_:=Aside0.mk (blk_below (g:=g0_) (o:=.cells #[.slice A0_0 l0_0.length c0_0,.slice A0_1 l0_1.length c0_1,.slice A0_2 l0_2.length c0_2,.slice A0_3 l0_3.length c0_3] 30 (0,0)) (by (with_reducible repeat first|apply blk_drewN|apply blk_drew|apply blk_alloc);exact BK0.out) hb);have n1_:=Aside0.mk (below_step (by repeat (first|(with_reducible first|exact HB.out|apply below_alloc|apply pw_below_drewN|apply below_drew1|refine below_set ?_ GE0.out)|exact HB.out)) hb);clear BK0;clear HB;have BK0:=n0_;have HB:=n1_;clear n0_ n1_;(try clear hb);(try clear hb2);(try clear hk);(try clear hi);have hcz11_0 : w10.cell? ⟨g0_,0,none⟩ = some (.slice A0_0 l0_0.length c0_0):=(blk_cell BK0.out 0).trans rfl;have hcz11_1 : w10.cell? ⟨g0_,1,none⟩ = some (.slice A0_1 l0_1.length c0_1):=(blk_cell BK0.out 1).trans rfl;have hcz11_2 : w10.cell? ⟨g0_,2,none⟩ = some (.slice A0_2 l0_2.length c0_2):=(blk_cell BK0.out 2).trans rfl;have hcz11_3 : w10.cell? ⟨g0_,3,none⟩ = some (.slice A0_3 l0_3.length c0_3):=(blk_cell BK0.out 3).trans rfl;have hfz11_0:=blk_frozen BK0.out 0;have hfz11_1:=blk_frozen BK0.out 1;have hfz11_2:=blk_frozen BK0.out 2;have hfz11_3:=blk_frozen BK0.out 3;have p266 : 0 ≤ (a1 : Int):=of_decide_eq_true (by assumption);have q266 : a1 < (l0_0.length : Int):=of_decide_eq_true (by assumption);obtain ⟨ad266,A266_0,c266_0,e266,hx266_0,hl266_0,hi266_0⟩:=at_L1 HR0_0.out a1 p266 q266;cases e266;(try replace hx266_0:=(HB.out.cell (World.block_lt_of_cell? w _ hx266_0)).trans hx266_0);have HR266_0:=Aside0.mk hi266_0;have HC266_0:=Aside0.mk hl266_0;clear hi266_0 hl266_0;replace p266:=eq_true p266;replace q266:=eq_true q266;have p267 : 0 ≤ (0 : Int):=(by omega);have q267 : 0 < ((rd_L1 l0_0 a1).length : Int):=of_decide_eq_true (by assumption);obtain ⟨ad267,e267,hx267_0⟩:=Kd.at_int HR266_0.out 0 p267 q267;cases e267;have qi267 : (0 < (rd_L1 l0_0 a1).length) = True:=eq_true (by omega);(try rw [show ((0 : Int)).toNat = 0 from rfl] at hx267_0);(try rw [Addr.add_zero'] at hx267_0);(try replace hx267_0:=(HB.out.cell (World.block_lt_of_cell? w _ hx267_0)).trans hx267_0);replace p267:=eq_true p267;replace q267:=eq_true q267))
      go_meet
      case rel=>exact ⟨_,(((rd (rd_L1 l0_0 a1) 0) != a2)),(by first|rfl|(simp;done)|(simp [*];done)),H',⟨by first|omega|exact Nat.le_refl _⟩,⟨by (with_reducible repeat first|apply blk_drewN|apply blk_drew|apply blk_alloc);exact BK0.out⟩,⟨by repeat (first|(with_reducible first|exact HB.out|apply below_alloc|apply pw_below_drewN|apply below_drew1|refine below_set ?_ GE0.out)|exact HB.out)⟩⟩
     ·rw [if_neg c9] at H
      exact absurd H (by simp)
    ·rw [if_neg c8] at H
     exact absurd H (by simp)
   ·rw [if_neg c7] at H
    exact absurd H (by simp)
  ·replace c6:=Bool.eq_false_iff.mpr c6
   subst c6
   have H1 : (impl_Space_page.j0 k a1 true l0_0 l0_1 l0_2 l0_3) = some (r1,r2):=by rw [if_neg (show ¬ (false = true) by decide)] at H;exact H
   clear H
   have H:=H1
   clear H1
   have H':=Aside0.mk H
   clear H
   go_wp2_with (first|((with_reducible refine gate_callee (f:=75) rfl ?_);refine goesL_ (some 13) rfl rfl Try.func75 (by kernel_rfl) rfl #[.pointer (some ⟨g0_,0,none⟩),.int .i64 a1] rfl (by (try simp only [List.map_toArray,List.map_cons,List.map_nil]);first|done|rfl|(simp only [List.length_drop,List.length_take];rfl)) ?_;(with_reducible refine (impl_Space_isHere.calls k g0_ A0_0 c0_0 l0_0 A0_1 c0_1 l0_1 A0_2 c0_2 l0_2 A0_3 c0_3 l0_3 a1 false _ ?side1 ?side2 ?side3 ?side4 ?side5 ?side6 ?side7 ?side8 ?side9 A5.out).mono ?_);(case side1=>exact by (with_reducible repeat first|apply blk_drewN|apply blk_drew|apply blk_alloc);exact BK0.out);(case side2=>repeat (first|exact (Kd.C_below HR0_0.out HB.out)|(with_reducible first|apply Kd.C_alloc|apply Kd.C_drewN|apply Kd.C_drew)));(case side3=>exact HC0_0.out);(case side4=>repeat (first|exact (Kd.C_below HR0_1.out HB.out)|(with_reducible first|apply Kd.C_alloc|apply Kd.C_drewN|apply Kd.C_drew)));(case side5=>exact HC0_1.out);(case side6=>repeat (first|exact (Kd.C_below HR0_2.out HB.out)|(with_reducible first|apply Kd.C_alloc|apply Kd.C_drewN|apply Kd.C_drew)));(case side7=>exact HC0_2.out);(case side8=>repeat (first|exact (Kd.C_below HR0_3.out HB.out)|(with_reducible first|apply Kd.C_alloc|apply Kd.C_drewN|apply Kd.C_drew)));(case side9=>exact HC0_3.out);rintro e w12 ⟨rfl,hb⟩;refine ⟨_,rfl,?_⟩;have n0_:=Aside0.mk (blk_below (g:=g0_) (o:=.cells #[.slice A0_0 l0_0.length c0_0,.slice A0_1 l0_1.length c0_1,.slice A0_2 l0_2.length c0_2,.slice A0_3 l0_3.length c0_3] 30 (0,0)) (by (with_reducible repeat first|apply blk_drewN|apply blk_drew|apply blk_alloc);exact BK0.out) hb);have n1_:=Aside0.mk (below_step (by repeat (first|(with_reducible first|exact HB.out|apply below_alloc|apply pw_below_drewN|apply below_drew1|refine below_set ?_ GE0.out)|exact HB.out)) hb);clear BK0;clear HB;have BK0:=n0_;have HB:=n1_;clear n0_ n1_;(try clear hb);(try clear hb2);(try clear hk);(try clear hi)))
   go_meet
   case rel=>exact ⟨_,(true),(by first|rfl|(simp;done)|(simp [*];done)),H',⟨by first|omega|exact Nat.le_refl _⟩,⟨by (with_reducible repeat first|apply blk_drewN|apply blk_drew|apply blk_alloc);exact BK0.out⟩,⟨by repeat (first|(with_reducible first|exact HB.out|apply below_alloc|apply pw_below_drewN|apply below_drew1|refine below_set ?_ GE0.out)|exact HB.out)⟩⟩
 case rest =>
  clear HC4
  try clear c2;try clear p2;try clear q2;try clear hx2;try clear qi2;try clear c6;try clear c7;try clear c7b0;try clear c8;try clear c8b0;try clear c9;try clear c9b0;try clear c9b1;try clear hcz11_0;try clear hcz11_1;try clear hcz11_2;try clear hcz11_3;try clear hfz11_0;try clear hfz11_1;try clear hfz11_2;try clear hfz11_3;try clear hx266_0;try clear hx267_0;try clear p266;try clear p267;try clear q266;try clear q267
  obtain ⟨kq,x27_3,rfl,HA,HJ3,BK0,HB⟩:=hcut
  cases kq with
  | zero=>exact absurd HA.out (by simp [impl_Space_page.j0])
  | succ kj3 =>
   have H:=HA.out
   clear HA
   simp only [impl_Space_page.j0] at H
   by_cases c13 : x27_3 = true
   ·subst c13
    have H1 : (some (([] : List Int),false)) = some (r1,r2):=by rw [if_pos rfl] at H;exact H
    clear H
    have H:=H1
    clear H1
    simp only [Option.some.injEq,Prod.mk.injEq] at H
    obtain ⟨rfl,rfl⟩:=H
    go_wp2
    go_ret2
    exact ⟨_,by first|rfl|(simp [*,errW_none,errW_some] <;> rfl),by first|exact Kd.R_nil _ _ _ _ _|exact Kd.N_nil _ _ _ _ _|exact Kd.V_nil _ _ _ _ _|exact Kd.Q_nil _ _ _ _ _|exact Kd.S_nil _ _ _ _ _,by repeat (first|(with_reducible first|exact HB.out|apply below_alloc|apply pw_below_drewN|apply below_drew1|refine below_set ?_ GE0.out)|exact HB.out)⟩
   ·replace c13:=Bool.eq_false_iff.mpr c13
    subst c13
    have H1 : (if 0 ≤ a1 then (if a1 < (l0_0.length : Int) then (if 65 ≤ ((rd_L1 l0_0 a1).length : Int) then ((slices_ContainsFunc_byte_byte_80.f kj3 ((rd_L1 l0_0 a1).drop 65) ()).bind fun t270=>(if t270 = true then (some (([] : List Int),false)) else (impl_Space_page.l0 kj3 (rd_L1 l0_0 a1) (([] : List Int)) 0))) else (none)) else (none)) else (none)) = some (r1,r2):=by rw [if_neg (show ¬ (false = true) by decide)] at H;exact H
    clear H
    have H:=H1
    clear H1
    by_cases c14 : 0 ≤ a1
    ·rw [if_pos c14] at H
     have c14b0 : decide (0 ≤ a1) = true:=decide_eq_true c14
     clear c14
     by_cases c15 : a1 < (l0_0.length : Int)
     ·rw [if_pos c15] at H
      have c15b0 : decide (a1 < (l0_0.length : Int)) = true:=decide_eq_true c15
      clear c15
      by_cases c16 : 65 ≤ ((rd_L1 l0_0 a1).length : Int)
      ·rw [if_pos c16] at H
       have c16b0:=eq_true c16
       have c16b1 : decide (65 ≤ ((rd_L1 l0_0 a1).length : Int)) = true:=decide_eq_true c16
       clear c16
       replace H:=Option.bind_eq_some_iff.mp H
       obtain ⟨t270,A170,H⟩:=H
       replace H : (if t270 = true then (some (([] : List Int),false)) else (impl_Space_page.l0 kj3 (rd_L1 l0_0 a1) (([] : List Int)) 0)) = some (r1,r2):=H
       have A17:=Aside0.mk A170
       clear A170
       by_cases c18 : t270 = true
       ·subst c18
        have H1 : (some (([] : List Int),false)) = some (r1,r2):=by rw [if_pos rfl] at H;exact H
        clear H
        have H:=H1
        clear H1
        simp only [Option.some.injEq,Prod.mk.injEq] at H
        obtain ⟨rfl,rfl⟩:=H
        have hcz19_0 : wc.cell? ⟨g0_,0,none⟩ = some (.slice A0_0 l0_0.length c0_0):=(blk_cell BK0.out 0).trans rfl
        have hcz19_1 : wc.cell? ⟨g0_,1,none⟩ = some (.slice A0_1 l0_1.length c0_1):=(blk_cell BK0.out 1).trans rfl
        have hcz19_2 : wc.cell? ⟨g0_,2,none⟩ = some (.slice A0_2 l0_2.length c0_2):=(blk_cell BK0.out 2).trans rfl
        have hcz19_3 : wc.cell? ⟨g0_,3,none⟩ = some (.slice A0_3 l0_3.length c0_3):=(blk_cell BK0.out 3).trans rfl
        have hfz19_0:=blk_frozen BK0.out 0
        have hfz19_1:=blk_frozen BK0.out 1
        have hfz19_2:=blk_frozen BK0.out 2
        have hfz19_3:=blk_frozen BK0.out 3
        have p268 : 0 ≤ (a1 : Int):=of_decide_eq_true (by assumption)
        have q268 : a1 < (l0_0.length : Int):=of_decide_eq_true (by assumption)
        obtain ⟨ad268,A268_0,c268_0,e268,hx268_0,hl268_0,hi268_0⟩:=at_L1 HR0_0.out a1 p268 q268
        cases e268
        (try replace hx268_0:=(HB.out.cell (World.block_lt_of_cell? w _ hx268_0)).trans hx268_0)
        have HR268_0:=Aside0.mk hi268_0
        have HC268_0:=Aside0.mk hl268_0
        clear hi268_0 hl268_0
        replace p268:=eq_true p268
        replace q268:=eq_true q268
        obtain ⟨i020,hi020,_,hsz20,_⟩:=info_parts info5
        obtain ⟨A20,hcut20,hA20,hC20⟩:=print_drop_of (P:=Try.prog) (Value.int .u8) 0 23 5 .i64 Try.underlying23 hi020 hsz20 A268_0 c268_0 (rd_L1 l0_0 a1) 65 (by omega) (of_decide_eq_true (by assumption)) HC268_0.out
        have HR269:=Aside0.mk (Kd.C_of_reads (h1:=fun _=>rfl) (hA20 _ (Kd.reads_of_C HR268_0.out)))
        have HC269:=Aside0.mk hC20
        clear hA20 hC20 hi020 hsz20
        go_wp2_with (first|((with_reducible refine gate_callee (f:=80) rfl ?_);refine goesL_ (some 37) rfl rfl Try.func80 (by kernel_rfl) rfl #[.slice A20 ((rd_L1 l0_0 a1).drop 65).length (c268_0 - 65),.func (.func 81) #[] #[]] rfl (by (try simp only [List.map_toArray,List.map_cons,List.map_nil]);first|done|(rw [show ((rd_L1 l0_0 a1).drop 65).length = ((rd_L1 l0_0 a1).length - 65) from List.length_drop] <;> rfl)|rfl|(simp only [List.length_drop,List.length_take];rfl)) ?_;(with_reducible refine (slices_ContainsFunc_byte_byte_80.calls kj3 _ _ ((rd_L1 l0_0 a1).drop 65) () true _ ?side1 ?side2 A17.out).mono ?_);(case side1=>repeat (first|exact (Kd.C_below HR269.out HB.out)|(with_reducible first|apply Kd.C_alloc|apply Kd.C_drewN|apply Kd.C_drew)));(case side2=>exact HC269.out);rintro e w' ⟨rfl,⟨nd,rfl⟩⟩;refine ⟨_,rfl,?_⟩))
        go_ret2
        exact ⟨_,by first|rfl|(simp [*,errW_none,errW_some] <;> rfl),by first|exact Kd.R_nil _ _ _ _ _|exact Kd.N_nil _ _ _ _ _|exact Kd.V_nil _ _ _ _ _|exact Kd.Q_nil _ _ _ _ _|exact Kd.S_nil _ _ _ _ _,by repeat (first|(with_reducible first|exact HB.out|apply below_alloc|apply pw_below_drewN|apply below_drew1|refine below_set ?_ GE0.out)|exact HB.out)⟩
       ·replace c18:=Bool.eq_false_iff.mpr c18
        subst c18
        have H1 : (impl_Space_page.l0 kj3 (rd_L1 l0_0 a1) (([] : List Int)) 0) = some (r1,r2):=by rw [if_neg (show ¬ (false = true) by decide)] at H;exact H
        clear H
        have H:=H1
        clear H1
        obtain ⟨y271,hy271⟩ : ∃ y_ : List Int,y_ = (([] : List Int)):=⟨_,rfl⟩
        replace H : (impl_Space_page.l0 kj3 (rd_L1 l0_0 a1) y271 0) = some (r1,r2):=by first|(rw [hy271];with_reducible exact H)|(have H2_:=(Option.bind_some _ _).symm.trans H;rw [hy271];with_reducible exact H2_)|(have H2_:=(Option.bind_some _ _).symm.trans H;with_reducible exact H2_)|with_reducible exact H|(rw [hy271];exact H)|exact H
        have Ny271:=Aside0.mk hy271
        clear hy271
        have H':=Aside0.mk H
        clear H
        have hcz21_0 : wc.cell? ⟨g0_,0,none⟩ = some (.slice A0_0 l0_0.length c0_0):=(blk_cell BK0.out 0).trans rfl
        have hcz21_1 : wc.cell? ⟨g0_,1,none⟩ = some (.slice A0_1 l0_1.length c0_1):=(blk_cell BK0.out 1).trans rfl
        have hcz21_2 : wc.cell? ⟨g0_,2,none⟩ = some (.slice A0_2 l0_2.length c0_2):=(blk_cell BK0.out 2).trans rfl
        have hcz21_3 : wc.cell? ⟨g0_,3,none⟩ = some (.slice A0_3 l0_3.length c0_3):=(blk_cell BK0.out 3).trans rfl
        have hfz21_0:=blk_frozen BK0.out 0
        have hfz21_1:=blk_frozen BK0.out 1
        have hfz21_2:=blk_frozen BK0.out 2
        have hfz21_3:=blk_frozen BK0.out 3
        have p268 : 0 ≤ (a1 : Int):=of_decide_eq_true (by assumption)
        have q268 : a1 < (l0_0.length : Int):=of_decide_eq_true (by assumption)
        obtain ⟨ad268,A268_0,c268_0,e268,hx268_0,hl268_0,hi268_0⟩:=at_L1 HR0_0.out a1 p268 q268
        cases e268
        (try replace hx268_0:=(HB.out.cell (World.block_lt_of_cell? w _ hx268_0)).trans hx268_0)
        have HR268_0:=Aside0.mk hi268_0
        have HC268_0:=Aside0.mk hl268_0
        clear hi268_0 hl268_0
        replace p268:=eq_true p268
        replace q268:=eq_true q268
        obtain ⟨i022,hi022,_,hsz22,_⟩:=info_parts info5
        obtain ⟨A22,hcut22,hA22,hC22⟩:=print_drop_of (P:=Try.prog) (Value.int .u8) 0 23 5 .i64 Try.underlying23 hi022 hsz22 A268_0 c268_0 (rd_L1 l0_0 a1) 65 (by omega) (of_decide_eq_true (by assumption)) HC268_0.out
        have HR269:=Aside0.mk (Kd.C_of_reads (h1:=fun _=>rfl) (hA22 _ (Kd.reads_of_C HR268_0.out)))
        have HC269:=Aside0.mk hC22
        clear hA22 hC22 hi022 hsz22
        go_wp2_with (first|((with_reducible refine gate_callee (f:=80) rfl ?_);refine goesL_ (some 37) rfl rfl Try.func80 (by kernel_rfl) rfl #[.slice A22 ((rd_L1 l0_0 a1).drop 65).length (c268_0 - 65),.func (.func 81) #[] #[]] rfl (by (try simp only [List.map_toArray,List.map_cons,List.map_nil]);first|done|(rw [show ((rd_L1 l0_0 a1).drop 65).length = ((rd_L1 l0_0 a1).length - 65) from List.length_drop] <;> rfl)|rfl|(simp only [List.length_drop,List.length_take];rfl)) ?_;(with_reducible refine (slices_ContainsFunc_byte_byte_80.calls kj3 _ _ ((rd_L1 l0_0 a1).drop 65) () false _ ?side1 ?side2 A17.out).mono ?_);(case side1=>repeat (first|exact (Kd.C_below HR269.out HB.out)|(with_reducible first|apply Kd.C_alloc|apply Kd.C_drewN|apply Kd.C_drew)));(case side2=>exact HC269.out);rintro e w' ⟨rfl,⟨nd,rfl⟩⟩;refine ⟨_,rfl,?_⟩)|((with_reducible refine gate_dst (N:=38) rfl ?_);refine Kd.R_lit (Kd.int .i64) _ 3 ?hg (N:=38) ?hd (xs:=([] : List Int)) (inner:=[]) (ok:=fun _=>True) (okp:=fun _=>True) ?hr ?hp (fun _ hk=>hk) trivial (Below.refl _ _) (Nat.le_refl _) (by simp) ?_;(case hd=>rfl);(case hg=>rfl);(case hr=>first|(go_simp;done)|(go_simp;rfl));(case hp=>exact (Reps.none _ _));intro v272 w23 ho24 hb hg_ hnew_;clear hg_ hnew_;(first|rw [← Ny271.out] at ho24|(simp only [Int.reduceToNat] at ho24;rw [← Ny271.out] at ho24));have n0_:=Aside0.mk (Kd.R_lower ho24 (below_size (by repeat (first|(with_reducible first|exact HB.out|apply below_alloc|apply pw_below_drewN|apply below_drew1|refine below_set ?_ GE0.out)|exact HB.out))));have n1_:=Aside0.mk (blk_below (g:=g0_) (o:=.cells #[.slice (some ad268) l0_0.length c0_0,.slice A0_1 l0_1.length c0_1,.slice A0_2 l0_2.length c0_2,.slice A0_3 l0_3.length c0_3] 30 (0,0)) (by (with_reducible repeat first|apply blk_drewN|apply blk_drew|apply blk_alloc);exact BK0.out) hb);have n2_:=Aside0.mk (below_step (by repeat (first|(with_reducible first|exact HB.out|apply below_alloc|apply pw_below_drewN|apply below_drew1|refine below_set ?_ GE0.out)|exact HB.out)) hb);clear BK0;clear HB;have HO273:=n0_;have BK0:=n1_;have HB:=n2_;clear n0_ n1_ n2_;clear hb ho24))
        go_loopg [9,39] kj3 (fun kq v9 v39 w'=>∃ (x9_2 : List Int) (x39_2 : Int),v39 = .int .i64 x39_2∧Aside0 (impl_Space_page.l0 kq (rd_L1 l0_0 a1) x9_2 x39_2 = some (r1,r2))∧Aside0 (kq ≤ kj3)∧Aside0 (Kd.R (Kd.int .i64) 3 w' w.heap.size (fun _=>True) v9 x9_2)∧Aside0 (w'.heap[g0_]? = some (.cells #[(.slice (some ad268) l0_0.length c0_0),(.slice A0_1 l0_1.length c0_1),(.slice A0_2 l0_2.length c0_2),(.slice A0_3 l0_3.length c0_3)] 30 (0,0)))∧Aside0 (Below w.heap.size w w'))
        case atStart=>exact ⟨(y271),(0),(by first|rfl|(simp;done)|(simp [*];done)),H',⟨Nat.le_refl _⟩,⟨by (with_reducible repeat (first|apply Kd.R_alloc|apply Kd.R_drewN|apply Kd.R_drew));exact HO273.out⟩,⟨by (with_reducible repeat first|apply blk_drewN|apply blk_drew|apply blk_alloc);exact BK0.out⟩,⟨by repeat (first|(with_reducible first|exact HB.out|apply below_alloc|apply pw_below_drewN|apply below_drew1|refine below_set ?_ GE0.out)|exact HB.out)⟩⟩
        case round =>
         clear H'
         try clear c1;try clear c2;try clear p2;try clear q2;try clear hx2;try clear qi2;try clear c6;try clear c7;try clear c7b0;try clear c8;try clear c8b0;try clear c9;try clear c9b0;try clear c9b1;try clear c13;try clear c14;try clear c14b0;try clear c15;try clear c15b0;try clear c16;try clear c16b0;try clear c16b1;try clear c18;try clear hcz11_0;try clear hcz11_1;try clear hcz11_2;try clear hcz11_3;try clear hcz19_0;try clear hcz19_1;try clear hcz19_2;try clear hcz19_3;try clear hcz21_0;try clear hcz21_1;try clear hcz21_2;try clear hcz21_3;try clear hfz11_0;try clear hfz11_1;try clear hfz11_2;try clear hfz11_3;try clear hfz19_0;try clear hfz19_1;try clear hfz19_2;try clear hfz19_3;try clear hfz21_0;try clear hfz21_1;try clear hfz21_2;try clear hfz21_3;try clear hx266_0;try clear hx267_0;try clear hx268_0;try clear p2;try clear p266;try clear p267;try clear p268;try clear q2;try clear q266;try clear q267;try clear q268
         obtain ⟨x9_2,x39_2,rfl,HA,HK2,HO_9,BK0,HB⟩:=hrel
         cases gk with
         | zero=>exact absurd HA.out (by simp [impl_Space_page.l0])
         | succ k2 =>
          have H:=HA.out
          clear HA
          simp only [impl_Space_page.l0] at H
          by_cases c25 : x39_2 < 32
          ·rw [if_pos c25] at H
           have c25b0 : decide (x39_2 < 32) = true:=decide_eq_true c25
           clear c25
           replace H:=Option.bind_eq_some_iff.mp H
           obtain ⟨t274,A260,H⟩:=H
           replace H : (if x9_2.length < 17592186044416 then (impl_Space_page.l0 k2 (rd_L1 l0_0 a1) (x9_2 ++ [t274]) (wrap64 (x39_2 + 1))) else (none)) = some (r1,r2):=H
           have A26:=Aside0.mk A260
           clear A260
           by_cases c27 : x9_2.length < 17592186044416
           ·rw [if_pos c27] at H
            have LMc27:=Aside0.mk c27
            clear c27
            obtain ⟨y275,hy275⟩ : ∃ y_ : List Int,y_ = (x9_2 ++ [t274]):=⟨_,rfl⟩
            replace H : (impl_Space_page.l0 k2 (rd_L1 l0_0 a1) y275 (wrap64 (x39_2 + 1))) = some (r1,r2):=by first|(rw [hy275];with_reducible exact H)|(have H2_:=(Option.bind_some _ _).symm.trans H;rw [hy275];with_reducible exact H2_)|(have H2_:=(Option.bind_some _ _).symm.trans H;with_reducible exact H2_)|with_reducible exact H|(rw [hy275];exact H)|exact H
            have Ny275:=Aside0.mk hy275
            clear hy275
            have H':=Aside0.mk H
            clear H
            go_wp2_with (first|((with_reducible refine gate_callee (f:=82) rfl ?_);refine goesL_ (some 47) rfl rfl Try.func82 (by kernel_rfl) rfl #[.slice A268_0 (rd_L1 l0_0 a1).length c268_0,.int .i64 (wrap64 (1 + (wrap64 (2 * x39_2))))] rfl (by (try simp only [List.map_toArray,List.map_cons,List.map_nil]);first|done|rfl|(simp only [List.length_drop,List.length_take];rfl)) ?_;(with_reducible refine (impl_numberAt.calls _ _ (rd_L1 l0_0 a1) (wrap64 (1 + (wrap64 (2 * x39_2)))) t274 _ ?side1 ?side2 A26.out).mono ?_);(case side1=>repeat (first|exact (Kd.C_below HR268_0.out HB.out)|(with_reducible first|apply Kd.C_alloc|apply Kd.C_drewN|apply Kd.C_drew)));(case side2=>exact HC268_0.out);rintro e w' ⟨rfl,⟨nd,rfl⟩⟩;refine ⟨_,rfl,?_⟩)|((with_reducible refine gate_builtin (b:=.append) (xs:=#[.tmp 42,.tmp 48]) rfl ?_);at_builtin;refine Kd.R_append (Kd.int .i64) (w0:=w) w.heap.size rfl (.tmp 42) (.tmp 48) 24 3 (.int .i64 0) 8 rfl Try.underlying24 info3 rfl (by decide) (by omega) u9 x9_2 t274 [.int .i64 t274] (fun _=>True) (fun _=>False) rfl rfl ?aP (fun _ hk=>hk.elim) ?aF ?aO ?aB ?aS ?aL ?_;(case aP=>exact rfl);(case aB=>exact (by repeat (first|(with_reducible first|exact HB.out|apply below_alloc|apply pw_below_drewN|apply below_drew1|refine below_set ?_ GE0.out)|exact HB.out)));(case aF=>exact (fun _ _=>trivial));(case aO=>exact (by (with_reducible repeat (first|apply Kd.R_alloc|apply Kd.R_drewN|apply Kd.R_drew));exact HO_9.out));(case aS=>exact (below_size (by repeat (first|(with_reducible first|exact HB.out|apply below_alloc|apply pw_below_drewN|apply below_drew1|refine below_set ?_ GE0.out)|exact HB.out))));(case aL=>have:=LMc27.out;omega);intro v276 w28 ho hb hg hat;rw [← Ny275.out] at ho;have n0_:=Aside0.mk (blk_grown (g:=g0_) (o:=.cells #[.slice (some ad268) l0_0.length c0_0,.slice A0_1 l0_1.length c0_1,.slice A0_2 l0_2.length c0_2,.slice A0_3 l0_3.length c0_3] 30 (0,0)) (by (with_reducible repeat first|apply blk_drewN|apply blk_drew|apply blk_alloc);exact BK0.out) hg (Kd.R_ne HO_9.out BK0.out (by decide)));have n1_:=Aside0.mk (hb);have n2_:=Aside0.mk (ho);clear BK0;clear HB;clear HO_9;have BK0:=n0_;have HB:=n1_;have HO277:=n2_;clear n0_ n1_ n2_;clear ho hb hg hat))
            go_roundg k2
            case measure=>have:=HJ3.out;have:=HK2.out;omega
            case rel=>exact ⟨(y275),(wrap64 (x39_2 + 1)),(by first|rfl|(simp;done)|(simp [*];done)),H',⟨by have:=HJ3.out;have:=HK2.out;omega⟩,⟨by (with_reducible repeat (first|apply Kd.R_alloc|apply Kd.R_drewN|apply Kd.R_drew));exact HO277.out⟩,⟨by (with_reducible repeat first|apply blk_drewN|apply blk_drew|apply blk_alloc);exact BK0.out⟩,⟨by repeat (first|(with_reducible first|exact HB.out|apply below_alloc|apply pw_below_drewN|apply below_drew1|refine below_set ?_ GE0.out)|exact HB.out)⟩⟩
           ·rw [if_neg c27] at H
            exact absurd H (by simp)
          ·rw [if_neg c25] at H
           have c25b0 : decide (x39_2 < 32) = false:=decide_eq_false c25
           clear c25
           simp only [Option.some.injEq,Prod.mk.injEq] at H
           obtain ⟨rfl,rfl⟩:=H
           go_wp2
           go_ret2
           exact ⟨_,by first|rfl|(simp [*,errW_none,errW_some] <;> rfl),by (with_reducible repeat (first|apply Kd.R_alloc|apply Kd.R_drewN|apply Kd.R_drew));exact HO_9.out,by repeat (first|(with_reducible first|exact HB.out|apply below_alloc|apply pw_below_drewN|apply below_drew1|refine below_set ?_ GE0.out)|exact HB.out)⟩
      ·rw [if_neg c16] at H
       exact absurd H (by simp)
     ·rw [if_neg c15] at H
      exact absurd H (by simp)
    ·rw [if_neg c14] at H
     exact absurd H (by simp)

/-! ### impl_isEmpty_1: function 83 -/
def impl_isEmpty_1.f (a0 : Int) : Option (Bool):=some (a0 != 0)
set_option maxHeartbeats 8000000 in
set_option maxRecDepth 100000 in
theorem impl_isEmpty_1.calls (a0 : Int) (r : Bool) (w : World) (h : impl_isEmpty_1.f a0 = some r) :
  Calls Try.prog 83 #[.int .i64 a0] w fun e w'=>e = .returned (.bool r)∧Drawn0 w w':=by
 have H : (some (a0 != 0)) = some r:=h
 clear h
 obtain rfl:=Option.some.inj H
 go_enter Try.func83,Try.ntmps83
 go_wp2
 go_ret
 exact ⟨by first|rfl|(simp;done)|(simp [*];done),by repeat (first|exact Drawn0.refl _|apply Drawn0.step)⟩

/-! ### slices_IndexFunc_int_int_83: function 115 -/
def slices_IndexFunc_int_int_83.l0 : Nat → List Int → Int → Int → Option (Int)
 | 0,_,_,_=>none
 | k + 1,x0,x7,x8=>if x8 < x7 then (if 0 ≤ x8 then (if x8 < (x0.length : Int) then ((impl_isEmpty_1.f (rd x0 x8)).bind fun t279=>(if t279 = true then (some x8) else (slices_IndexFunc_int_int_83.l0 k x0 x7 (wrap64 (x8 + 1))))) else (none)) else (none)) else (some (-1))
def slices_IndexFunc_int_int_83.f (k : Nat) (l0 : List Int) (a1 : Unit) : Option (Int):=slices_IndexFunc_int_int_83.l0 k l0 (l0.length : Int) 0
theorem slices_IndexFunc_int_int_83.mono_l : ∀ k,(∀ y0 y1 y2,LeO (slices_IndexFunc_int_int_83.l0 k y0 y1 y2) (slices_IndexFunc_int_int_83.l0 (k + 1) y0 y1 y2))
 | 0=>fun _ _ _ r h=>by simp [slices_IndexFunc_int_int_83.l0] at h
 | k + 1=>by
  have ih0:=slices_IndexFunc_int_int_83.mono_l k
  ·intro y0 y1 y2
   unfold slices_IndexFunc_int_int_83.l0
   repeat' first
   | (with_reducible exact ih0 _ _ _)
   | (with_reducible exact LeO.refl _)
   | (with_reducible exact LeO.none _)
   | (with_reducible refine LeO.ite ?_ ?_)
   | (with_reducible refine LeO.bind ?_ (fun _=>?_))
   | exact ih0 _ _ _
   | exact LeO.none _
   | refine LeO.ite ?_ ?_
   | refine LeO.bind ?_ (fun _=>?_)
theorem slices_IndexFunc_int_int_83.mono : ∀ a0 a1 k,LeO (slices_IndexFunc_int_int_83.f k a0 a1) (slices_IndexFunc_int_int_83.f (k + 1) a0 a1):=by
 intro a0 a1 k
 have ih0:=slices_IndexFunc_int_int_83.mono_l k
 unfold slices_IndexFunc_int_int_83.f
 repeat' first
   | (with_reducible exact ih0 _ _ _)
   | (with_reducible exact LeO.refl _)
   | (with_reducible exact LeO.none _)
   | (with_reducible refine LeO.ite ?_ ?_)
   | (with_reducible refine LeO.bind ?_ (fun _=>?_))
   | exact ih0 _ _ _
   | exact LeO.none _
   | refine LeO.ite ?_ ?_
   | refine LeO.bind ?_ (fun _=>?_)
set_option maxHeartbeats 8000000 in
set_option maxRecDepth 100000 in
theorem slices_IndexFunc_int_int_83.calls (k : Nat) (A0 : Option Addr) (c0 : Nat) (l0 : List Int) (a1 : Unit) (r : Int) (w : World) (hr0 : Kd.C (Kd.int .i64) w A0 l0.length l0) (hc0 : l0.length ≤ c0) (h : slices_IndexFunc_int_int_83.f k l0 a1 = some r) :
  Calls Try.prog 85 #[.slice A0 l0.length c0,.func (.func 83) #[] #[]] w fun e w'=>e = .returned (.int .i64 r)∧Drawn0 w w':=by
 have HR0:=Aside0.mk hr0
 have HC0:=Aside0.mk hc0
 clear hr0 hc0
 have H : (slices_IndexFunc_int_int_83.l0 k l0 (l0.length : Int) 0) = some r:=h
 clear h
 have H':=Aside0.mk H
 clear H
 go_enter Try.func85,Try.ntmps85
 go_wp2
 go_loopg [8] k (fun kq v8 w'=>∃ (x8_1 : Int),v8 = .int .i64 x8_1∧Aside0 (slices_IndexFunc_int_int_83.l0 kq l0 (l0.length : Int) x8_1 = some r)∧Aside0 (kq ≤ k)∧Drawn0 w w')
 case atStart=>exact ⟨(0),(by first|rfl|(simp;done)|(simp [*];done)),H',⟨Nat.le_refl _⟩,by repeat (first|exact Drawn0.refl _|apply Drawn0.step)⟩
 case round =>
  clear H'
  try clear p2
  obtain ⟨x8_1,rfl,HA,HK1,⟨m1,rfl⟩⟩:=hrel
  cases gk with
  | zero=>exact absurd HA.out (by simp [slices_IndexFunc_int_int_83.l0])
  | succ k1 =>
   have H:=HA.out
   clear HA
   simp only [slices_IndexFunc_int_int_83.l0] at H
   by_cases c3 : x8_1 < (l0.length : Int)
   ·rw [if_pos c3] at H
    have c3b0 : decide (x8_1 < (l0.length : Int)) = true:=decide_eq_true c3
    clear c3
    by_cases c4 : 0 ≤ x8_1
    ·rw [if_pos c4] at H
     have c4b0 : decide (0 ≤ x8_1) = true:=decide_eq_true c4
     clear c4
     by_cases c5 : x8_1 < (l0.length : Int)
     ·rw [if_pos c5] at H
      have c5b0 : decide (x8_1 < (l0.length : Int)) = true:=decide_eq_true c5
      clear c5
      replace H:=Option.bind_eq_some_iff.mp H
      obtain ⟨t279,A60,H⟩:=H
      replace H : (if t279 = true then (some x8_1) else (slices_IndexFunc_int_int_83.l0 k1 l0 (l0.length : Int) (wrap64 (x8_1 + 1)))) = some r:=H
      have A6:=Aside0.mk A60
      clear A60
      by_cases c7 : t279 = true
      ·subst c7
       have H1 : (some x8_1) = some r:=by rw [if_pos rfl] at H;exact H
       clear H
       have H:=H1
       clear H1
       obtain rfl:=Option.some.inj H
       have p278 : 0 ≤ (x8_1 : Int):=of_decide_eq_true (by assumption)
       have q278 : x8_1 < (l0.length : Int):=of_decide_eq_true (by assumption)
       obtain ⟨ad278,e278,hx278_0⟩:=Kd.at_int HR0.out x8_1 p278 q278
       cases e278
       replace p278:=eq_true p278
       replace q278:=eq_true q278
       go_wp2_with (first|((with_reducible refine gate_calleev (c:=.tmp 11) rfl ?_);refine goesLv_ (some 16) rfl rfl Try.func83 (by kernel_rfl) rfl #[.int .i64 (rd l0 x8_1)] rfl (by first|rfl|(go_simp;done)) (by (try simp only [List.map_toArray,List.map_cons,List.map_nil]);first|done|rfl|(simp only [List.length_drop,List.length_take];rfl)) ?_;(with_reducible refine (impl_isEmpty_1.calls (rd l0 x8_1) true _ A6.out).mono ?_);rintro e w' ⟨rfl,⟨nd,rfl⟩⟩;refine ⟨_,rfl,?_⟩))
       go_ret
       exact ⟨by first|rfl|(simp;done)|(simp [*];done),by repeat (first|exact Drawn0.refl _|apply Drawn0.step)⟩
      ·replace c7:=Bool.eq_false_iff.mpr c7
       subst c7
       have H1 : (slices_IndexFunc_int_int_83.l0 k1 l0 (l0.length : Int) (wrap64 (x8_1 + 1))) = some r:=by rw [if_neg (show ¬ (false = true) by decide)] at H;exact H
       clear H
       have H:=H1
       clear H1
       have H':=Aside0.mk H
       clear H
       have p278 : 0 ≤ (x8_1 : Int):=of_decide_eq_true (by assumption)
       have q278 : x8_1 < (l0.length : Int):=of_decide_eq_true (by assumption)
       obtain ⟨ad278,e278,hx278_0⟩:=Kd.at_int HR0.out x8_1 p278 q278
       cases e278
       replace p278:=eq_true p278
       replace q278:=eq_true q278
       go_wp2_with (first|((with_reducible refine gate_calleev (c:=.tmp 11) rfl ?_);refine goesLv_ (some 16) rfl rfl Try.func83 (by kernel_rfl) rfl #[.int .i64 (rd l0 x8_1)] rfl (by first|rfl|(go_simp;done)) (by (try simp only [List.map_toArray,List.map_cons,List.map_nil]);first|done|rfl|(simp only [List.length_drop,List.length_take];rfl)) ?_;(with_reducible refine (impl_isEmpty_1.calls (rd l0 x8_1) false _ A6.out).mono ?_);rintro e w' ⟨rfl,⟨nd,rfl⟩⟩;refine ⟨_,rfl,?_⟩))
       go_roundg k1
       case measure=>have:=HK1.out;omega
       case rel=>exact ⟨(wrap64 (x8_1 + 1)),(by first|rfl|(simp;done)|(simp [*];done)),H',⟨by have:=HK1.out;omega⟩,by repeat (first|exact Drawn0.refl _|apply Drawn0.step)⟩
     ·rw [if_neg c5] at H
      exact absurd H (by simp)
    ·rw [if_neg c4] at H
     exact absurd H (by simp)
   ·rw [if_neg c3] at H
    have c3b0 : decide (x8_1 < (l0.length : Int)) = false:=decide_eq_false c3
    clear c3
    obtain rfl:=Option.some.inj H
    go_wp2
    go_ret
    exact ⟨by first|rfl|(simp;done)|(simp [*];done),by repeat (first|exact Drawn0.refl _|apply Drawn0.step)⟩

/-! ### slices_ContainsFunc_int_int_83: function 114 -/
def slices_ContainsFunc_int_int_83.f (k : Nat) (l0 : List Int) (a1 : Unit) : Option (Bool):=(slices_IndexFunc_int_int_83.f k l0 a1).bind fun t280=>(some (decide (t280 ≥ 0)))
theorem slices_ContainsFunc_int_int_83.mono : ∀ a0 a1 k,LeO (slices_ContainsFunc_int_int_83.f k a0 a1) (slices_ContainsFunc_int_int_83.f (k + 1) a0 a1):=by
 intro a0 a1 k
 unfold slices_ContainsFunc_int_int_83.f
 repeat' first
   | (with_reducible exact slices_IndexFunc_int_int_83.mono _ _ _)
   | (with_reducible exact LeO.refl _)
   | (with_reducible exact LeO.none _)
   | (with_reducible refine LeO.ite ?_ ?_)
   | (with_reducible refine LeO.bind ?_ (fun _=>?_))
   | exact slices_IndexFunc_int_int_83.mono _ _ _
   | exact LeO.none _
   | refine LeO.ite ?_ ?_
   | refine LeO.bind ?_ (fun _=>?_)
set_option maxHeartbeats 8000000 in
set_option maxRecDepth 100000 in
theorem slices_ContainsFunc_int_int_83.calls (k : Nat) (A0 : Option Addr) (c0 : Nat) (l0 : List Int) (a1 : Unit) (r : Bool) (w : World) (hr0 : Kd.C (Kd.int .i64) w A0 l0.length l0) (hc0 : l0.length ≤ c0) (h : slices_ContainsFunc_int_int_83.f k l0 a1 = some r) :
  Calls Try.prog 70 #[.slice A0 l0.length c0,.func (.func 83) #[] #[]] w fun e w'=>e = .returned (.bool r)∧Drawn0 w w':=by
 have HR0:=Aside0.mk hr0
 have HC0:=Aside0.mk hc0
 clear hr0 hc0
 have H : ((slices_IndexFunc_int_int_83.f k l0 a1).bind fun t280=>(some (decide (t280 ≥ 0)))) = some r:=h
 clear h
 replace H:=Option.bind_eq_some_iff.mp H
 obtain ⟨t280,A30,H⟩:=H
 replace H : (some (decide (t280 ≥ 0))) = some r:=H
 have A3:=Aside0.mk A30
 clear A30
 obtain rfl:=Option.some.inj H
 go_enter Try.func70,Try.ntmps70
 go_wp2_with (first|((with_reducible refine gate_callee (f:=85) rfl ?_);refine goesL_ (some 7) rfl rfl Try.func85 (by kernel_rfl) rfl #[.slice A0 l0.length c0,.func (.func 83) #[] #[]] rfl (by (try simp only [List.map_toArray,List.map_cons,List.map_nil]);first|done|rfl|(simp only [List.length_drop,List.length_take];rfl)) ?_;(with_reducible refine (slices_IndexFunc_int_int_83.calls k _ _ l0 a1 t280 _ ?side1 ?side2 A3.out).mono ?_);(case side1=>repeat (first|exact HR0.out|(with_reducible first|apply Kd.C_alloc|apply Kd.C_drewN|apply Kd.C_drew)));(case side2=>exact HC0.out);rintro e w' ⟨rfl,⟨nd,rfl⟩⟩;refine ⟨_,rfl,?_⟩))
 go_ret
 exact ⟨by first|rfl|(simp;done)|(simp [*];done),by repeat (first|exact Drawn0.refl _|apply Drawn0.step)⟩

/-! ### impl_isEmpty: function 68 -/
def impl_isEmpty.f (k : Nat) (l0 : List Int) : Option (Bool):=(slices_ContainsFunc_int_int_83.f k l0 ()).bind fun t281=>(some (!t281))
theorem impl_isEmpty.mono : ∀ a0 k,LeO (impl_isEmpty.f k a0) (impl_isEmpty.f (k + 1) a0):=by
 intro a0 k
 unfold impl_isEmpty.f
 repeat' first
   | (with_reducible exact slices_ContainsFunc_int_int_83.mono _ _ _)
   | (with_reducible exact LeO.refl _)
   | (with_reducible exact LeO.none _)
   | (with_reducible refine LeO.ite ?_ ?_)
   | (with_reducible refine LeO.bind ?_ (fun _=>?_))
   | exact slices_ContainsFunc_int_int_83.mono _ _ _
   | exact LeO.none _
   | refine LeO.ite ?_ ?_
   | refine LeO.bind ?_ (fun _=>?_)
set_option maxHeartbeats 8000000 in
set_option maxRecDepth 100000 in
theorem impl_isEmpty.calls (k : Nat) (A0 : Option Addr) (c0 : Nat) (l0 : List Int) (r : Bool) (w : World) (hr0 : Kd.C (Kd.int .i64) w A0 l0.length l0) (hc0 : l0.length ≤ c0) (h : impl_isEmpty.f k l0 = some r) :
  Calls Try.prog 68 #[.slice A0 l0.length c0] w fun e w'=>e = .returned (.bool r)∧Drawn0 w w':=by
 have HR0:=Aside0.mk hr0
 have HC0:=Aside0.mk hc0
 clear hr0 hc0
 have H : ((slices_ContainsFunc_int_int_83.f k l0 ()).bind fun t281=>(some (!t281))) = some r:=h
 clear h
 replace H:=Option.bind_eq_some_iff.mp H
 obtain ⟨t281,A20,H⟩:=H
 replace H : (some (!t281)) = some r:=H
 have A2:=Aside0.mk A20
 clear A20
 obtain rfl:=Option.some.inj H
 go_enter Try.func68,Try.ntmps68
 go_wp2_with (first|((with_reducible refine gate_callee (f:=70) rfl ?_);refine goesL_ (some 4) rfl rfl Try.func70 (by kernel_rfl) rfl #[.slice A0 l0.length c0,.func (.func 83) #[] #[]] rfl (by (try simp only [List.map_toArray,List.map_cons,List.map_nil]);first|done|rfl|(simp only [List.length_drop,List.length_take];rfl)) ?_;(with_reducible refine (slices_ContainsFunc_int_int_83.calls k _ _ l0 () t281 _ ?side1 ?side2 A2.out).mono ?_);(case side1=>repeat (first|exact HR0.out|(with_reducible first|apply Kd.C_alloc|apply Kd.C_drewN|apply Kd.C_drew)));(case side2=>exact HC0.out);rintro e w' ⟨rfl,⟨nd,rfl⟩⟩;refine ⟨_,rfl,?_⟩))
 go_ret
 exact ⟨by first|rfl|(simp;done)|(simp [*];done),by repeat (first|exact Drawn0.refl _|apply Drawn0.step)⟩

/-! ### impl_Space_tree_1: function 71 -/
def impl_Space_tree_1.f (a0 : Int) (l1_0 : List (List Int)) (l1_1 : List Int) (l1_2 : List Int) (l1_3 : List Int) : Option (Bool):=if a0 = 0 then (some false) else ((impl_Space_isBlock.f l1_0 l1_1 l1_2 l1_3 a0).bind fun t282=>(some (!t282)))
set_option maxHeartbeats 8000000 in
set_option maxRecDepth 100000 in
theorem impl_Space_tree_1.calls (a0 : Int) (gb1_ : Nat) (g1_ : Nat) (A1_0 : Option Addr) (c1_0 : Nat) (l1_0 : List (List Int)) (A1_1 : Option Addr) (c1_1 : Nat) (l1_1 : List Int) (A1_2 : Option Addr) (c1_2 : Nat) (l1_2 : List Int) (A1_3 : Option Addr) (c1_3 : Nat) (l1_3 : List Int) (r : Bool) (w : World) (hgb1_ : w.heap[gb1_]? = some (.cells #[.pointer (some ⟨g1_,0,none⟩)] 87 (0,0))) (hg1_ : w.heap[g1_]? = some (.cells #[.slice A1_0 l1_0.length c1_0,.slice A1_1 l1_1.length c1_1,.slice A1_2 l1_2.length c1_2,.slice A1_3 l1_3.length c1_3] 30 (0,0))) (hr1_0 : Kd.C (Kd.slice 5 (Kd.int .u8)) w A1_0 l1_0.length l1_0) (hc1_0 : l1_0.length ≤ c1_0) (hr1_1 : Kd.C (Kd.int .u8) w A1_1 l1_1.length l1_1) (hc1_1 : l1_1.length ≤ c1_1) (hr1_2 : Kd.C (Kd.int .i64) w A1_2 l1_2.length l1_2) (hc1_2 : l1_2.length ≤ c1_2) (hr1_3 : Kd.C (Kd.int .i64) w A1_3 l1_3.length l1_3) (hc1_3 : l1_3.length ≤ c1_3) (h : impl_Space_tree_1.f a0 l1_0 l1_1 l1_2 l1_3 = some r) :
  Calls Try.prog 71 #[.int .i64 a0,.pointer (some ⟨gb1_,0,none⟩)] w fun e w'=>e = .returned (.bool r)∧Below w.heap.size w w':=by
 have hu87:=Try.underlying87
 have HR1_0:=Aside0.mk hr1_0
 have HC1_0:=Aside0.mk hc1_0
 clear hr1_0 hc1_0
 have HR1_1:=Aside0.mk hr1_1
 have HC1_1:=Aside0.mk hc1_1
 clear hr1_1 hc1_1
 have HR1_2:=Aside0.mk hr1_2
 have HC1_2:=Aside0.mk hc1_2
 clear hr1_2 hc1_2
 have HR1_3:=Aside0.mk hr1_3
 have HC1_3:=Aside0.mk hc1_3
 clear hr1_3 hc1_3
 have NB41_1:=Aside0.mk (show gb1_ ≠ g1_ from fun e_=>by rw [e_] at hgb1_;exact absurd (congrArg (fun o_=>match o_ with|some (Obj.cells _ t_ _)=>t_|_=>0) (hgb1_.symm.trans hg1_)) (by simp))
 have NB1_41:=Aside0.mk (Ne.symm NB41_1.out)
 have BK41:=Aside0.mk hgb1_
 clear hgb1_
 have BK1:=Aside0.mk hg1_
 clear hg1_
 have HB:=Aside0.mk (Below.refl w.heap.size w)
 have H : (if a0 = 0 then (some false) else ((impl_Space_isBlock.f l1_0 l1_1 l1_2 l1_3 a0).bind fun t282=>(some (!t282)))) = some r:=h
 clear h
 by_cases c3 : a0 = 0
 ·rw [if_pos c3] at H
  have c3b0 : (a0 == 0) = true:=beq_iff_eq.mpr c3
  have c3b1 : (a0 != 0) = false:=bne_eq_false_iff_eq.mpr c3
  clear c3
  obtain rfl:=Option.some.inj H
  go_enter Try.func71,Try.ntmps71
  go_wp2
  go_ret
  exact ⟨by first|rfl|(simp [*,errW_none,errW_some] <;> rfl),by repeat (first|(with_reducible first|exact HB.out|apply below_alloc|apply pw_below_drewN|apply below_drew1|refine below_set ?_ GE41.out|refine below_set ?_ GE1.out)|exact HB.out)⟩
 ·rw [if_neg c3] at H
  have c3b0 : (a0 == 0) = false:=beq_eq_false_iff_ne.mpr c3
  have c3b1 : (a0 != 0) = true:=bne_iff_ne.mpr c3
  replace H:=Option.bind_eq_some_iff.mp H
  obtain ⟨t282,A40,H⟩:=H
  replace H : (some (!t282)) = some r:=H
  have A4:=Aside0.mk A40
  clear A40
  obtain rfl:=Option.some.inj H
  have hnb5:=NB41_1.out
  have hnc5:=NB1_41.out
  have hcz6_0 : w.cell? ⟨gb1_,0,none⟩ = some (.pointer (some ⟨g1_,0,none⟩)):=(blk_cell BK41.out 0).trans rfl
  have hfz6_0:=blk_frozen BK41.out 0
  go_enter Try.func71,Try.ntmps71
  go_wp2_with (first|(go_at_call 72;(with_reducible refine (impl_Space_isBlock.calls g1_ A1_0 c1_0 l1_0 A1_1 c1_1 l1_1 A1_2 c1_2 l1_2 A1_3 c1_3 l1_3 a0 t282 _ ?side1 ?side2 ?side3 ?side4 ?side5 ?side6 ?side7 ?side8 ?side9 A4.out).mono ?_);(case side1=>exact by (with_reducible repeat first|apply blk_drewN|apply blk_drew|apply blk_alloc);exact BK1.out);(case side2=>repeat (first|exact HR1_0.out|(with_reducible first|apply Kd.C_alloc|apply Kd.C_drewN|apply Kd.C_drew)));(case side3=>exact HC1_0.out);(case side4=>repeat (first|exact HR1_1.out|(with_reducible first|apply Kd.C_alloc|apply Kd.C_drewN|apply Kd.C_drew)));(case side5=>exact HC1_1.out);(case side6=>repeat (first|exact HR1_2.out|(with_reducible first|apply Kd.C_alloc|apply Kd.C_drewN|apply Kd.C_drew)));(case side7=>exact HC1_2.out);(case side8=>repeat (first|exact HR1_3.out|(with_reducible first|apply Kd.C_alloc|apply Kd.C_drewN|apply Kd.C_drew)));(case side9=>exact HC1_3.out);rintro e w7 ⟨rfl,hb⟩;have n0_:=Aside0.mk (blk_below (g:=gb1_) (o:=.cells #[.pointer (some ⟨g1_,0,none⟩)] 87 (0,0)) (by (with_reducible repeat first|apply blk_drewN|apply blk_drew|apply blk_alloc);exact BK41.out) hb);have n1_:=Aside0.mk (blk_below (g:=g1_) (o:=.cells #[.slice A1_0 l1_0.length c1_0,.slice A1_1 l1_1.length c1_1,.slice A1_2 l1_2.length c1_2,.slice A1_3 l1_3.length c1_3] 30 (0,0)) (by (with_reducible repeat first|apply blk_drewN|apply blk_drew|apply blk_alloc);exact BK1.out) hb);have n2_:=Aside0.mk (below_step (by repeat (first|(with_reducible first|exact HB.out|apply below_alloc|apply pw_below_drewN|apply below_drew1|refine below_set ?_ GE41.out|refine below_set ?_ GE1.out)|exact HB.out)) hb);clear BK41;clear BK1;clear HB;have BK41:=n0_;have BK1:=n1_;have HB:=n2_;clear n0_ n1_ n2_;(try clear hb);(try clear hb2);(try clear hk);(try clear hi)))
  go_ret
  exact ⟨by first|rfl|(simp [*,errW_none,errW_some] <;> rfl),by repeat (first|(with_reducible first|exact HB.out|apply below_alloc|apply pw_below_drewN|apply below_drew1|refine below_set ?_ GE41.out|refine below_set ?_ GE1.out)|exact HB.out)⟩

/-! ### slices_IndexFunc_int_int_71: function 117 -/
def slices_IndexFunc_int_int_71.l0 : Nat → List Int → Int → Int → List (List Int) → List Int → List Int → List Int → Option (Int)
 | 0,_,_,_,_,_,_,_=>none
 | k + 1,x0,x7,x8,x2000,x2001,x2002,x2003=>if x8 < x7 then (if 0 ≤ x8 then (if x8 < (x0.length : Int) then ((impl_Space_tree_1.f (rd x0 x8) x2000 x2001 x2002 x2003).bind fun t284=>(if t284 = true then (some x8) else (slices_IndexFunc_int_int_71.l0 k x0 x7 (wrap64 (x8 + 1)) x2000 x2001 x2002 x2003))) else (none)) else (none)) else (some (-1))
def slices_IndexFunc_int_int_71.f (k : Nat) (l0 : List Int) (l1_0 : List (List Int)) (l1_1 : List Int) (l1_2 : List Int) (l1_3 : List Int) : Option (Int):=slices_IndexFunc_int_int_71.l0 k l0 (l0.length : Int) 0 l1_0 l1_1 l1_2 l1_3
theorem slices_IndexFunc_int_int_71.mono_l : ∀ k,(∀ y0 y1 y2 y3 y4 y5 y6,LeO (slices_IndexFunc_int_int_71.l0 k y0 y1 y2 y3 y4 y5 y6) (slices_IndexFunc_int_int_71.l0 (k + 1) y0 y1 y2 y3 y4 y5 y6))
 | 0=>fun _ _ _ _ _ _ _ r h=>by simp [slices_IndexFunc_int_int_71.l0] at h
 | k + 1=>by
  have ih0:=slices_IndexFunc_int_int_71.mono_l k
  ·intro y0 y1 y2 y3 y4 y5 y6
   unfold slices_IndexFunc_int_int_71.l0
   repeat' first
   | (with_reducible exact ih0 _ _ _ _ _ _ _)
   | (with_reducible exact LeO.refl _)
   | (with_reducible exact LeO.none _)
   | (with_reducible refine LeO.ite ?_ ?_)
   | (with_reducible refine LeO.bind ?_ (fun _=>?_))
   | exact ih0 _ _ _ _ _ _ _
   | exact LeO.none _
   | refine LeO.ite ?_ ?_
   | refine LeO.bind ?_ (fun _=>?_)
theorem slices_IndexFunc_int_int_71.mono : ∀ a0 a1 a2 a3 a4 k,LeO (slices_IndexFunc_int_int_71.f k a0 a1 a2 a3 a4) (slices_IndexFunc_int_int_71.f (k + 1) a0 a1 a2 a3 a4):=by
 intro a0 a1 a2 a3 a4 k
 have ih0:=slices_IndexFunc_int_int_71.mono_l k
 unfold slices_IndexFunc_int_int_71.f
 repeat' first
   | (with_reducible exact ih0 _ _ _ _ _ _ _)
   | (with_reducible exact LeO.refl _)
   | (with_reducible exact LeO.none _)
   | (with_reducible refine LeO.ite ?_ ?_)
   | (with_reducible refine LeO.bind ?_ (fun _=>?_))
   | exact ih0 _ _ _ _ _ _ _
   | exact LeO.none _
   | refine LeO.ite ?_ ?_
   | refine LeO.bind ?_ (fun _=>?_)
set_option maxHeartbeats 8000000 in
set_option maxRecDepth 100000 in
theorem slices_IndexFunc_int_int_71.calls (k : Nat) (A0 : Option Addr) (c0 : Nat) (l0 : List Int) (gb1_ : Nat) (g1_ : Nat) (A1_0 : Option Addr) (c1_0 : Nat) (l1_0 : List (List Int)) (A1_1 : Option Addr) (c1_1 : Nat) (l1_1 : List Int) (A1_2 : Option Addr) (c1_2 : Nat) (l1_2 : List Int) (A1_3 : Option Addr) (c1_3 : Nat) (l1_3 : List Int) (r : Int) (w : World) (hr0 : Kd.C (Kd.int .i64) w A0 l0.length l0) (hc0 : l0.length ≤ c0) (hgb1_ : w.heap[gb1_]? = some (.cells #[.pointer (some ⟨g1_,0,none⟩)] 87 (0,0))) (hg1_ : w.heap[g1_]? = some (.cells #[.slice A1_0 l1_0.length c1_0,.slice A1_1 l1_1.length c1_1,.slice A1_2 l1_2.length c1_2,.slice A1_3 l1_3.length c1_3] 30 (0,0))) (hr1_0 : Kd.C (Kd.slice 5 (Kd.int .u8)) w A1_0 l1_0.length l1_0) (hc1_0 : l1_0.length ≤ c1_0) (hr1_1 : Kd.C (Kd.int .u8) w A1_1 l1_1.length l1_1) (hc1_1 : l1_1.length ≤ c1_1) (hr1_2 : Kd.C (Kd.int .i64) w A1_2 l1_2.length l1_2) (hc1_2 : l1_2.length ≤ c1_2) (hr1_3 : Kd.C (Kd.int .i64) w A1_3 l1_3.length l1_3) (hc1_3 : l1_3.length ≤ c1_3) (h : slices_IndexFunc_int_int_71.f k l0 l1_0 l1_1 l1_2 l1_3 = some r) :
  Calls Try.prog 85 #[.slice A0 l0.length c0,.func (.func 71) #[] #[.pointer (some ⟨gb1_,0,none⟩)]] w fun e w'=>e = .returned (.int .i64 r)∧Below w.heap.size w w':=by
 have HR0:=Aside0.mk hr0
 have HC0:=Aside0.mk hc0
 clear hr0 hc0
 have HR1_0:=Aside0.mk hr1_0
 have HC1_0:=Aside0.mk hc1_0
 clear hr1_0 hc1_0
 have HR1_1:=Aside0.mk hr1_1
 have HC1_1:=Aside0.mk hc1_1
 clear hr1_1 hc1_1
 have HR1_2:=Aside0.mk hr1_2
 have HC1_2:=Aside0.mk hc1_2
 clear hr1_2 hc1_2
 have HR1_3:=Aside0.mk hr1_3
 have HC1_3:=Aside0.mk hc1_3
 clear hr1_3 hc1_3
 have NB41_1:=Aside0.mk (show gb1_ ≠ g1_ from fun e_=>by rw [e_] at hgb1_;exact absurd (congrArg (fun o_=>match o_ with|some (Obj.cells _ t_ _)=>t_|_=>0) (hgb1_.symm.trans hg1_)) (by simp))
 have NB1_41:=Aside0.mk (Ne.symm NB41_1.out)
 have BK41:=Aside0.mk hgb1_
 clear hgb1_
 have BK1:=Aside0.mk hg1_
 clear hg1_
 have HB:=Aside0.mk (Below.refl w.heap.size w)
 have H : (slices_IndexFunc_int_int_71.l0 k l0 (l0.length : Int) 0 l1_0 l1_1 l1_2 l1_3) = some r:=h
 clear h
 have H':=Aside0.mk H
 clear H
 go_enter Try.func85,Try.ntmps85
 go_wp2
 go_loopg [8] k (fun kq v8 w'=>∃ (x8_1 : Int),v8 = .int .i64 x8_1∧Aside0 (slices_IndexFunc_int_int_71.l0 kq l0 (l0.length : Int) x8_1 l1_0 l1_1 l1_2 l1_3 = some r)∧Aside0 (kq ≤ k)∧Aside0 (w'.heap[gb1_]? = some (.cells #[.pointer (some ⟨g1_,0,none⟩)] 87 (0,0)))∧Aside0 (w'.heap[g1_]? = some (.cells #[(.slice A1_0 l1_0.length c1_0),(.slice A1_1 l1_1.length c1_1),(.slice A1_2 l1_2.length c1_2),(.slice A1_3 l1_3.length c1_3)] 30 (0,0)))∧Aside0 (Below w.heap.size w w'))
 case atStart=>exact ⟨(0),(by first|rfl|(simp;done)|(simp [*];done)),H',⟨Nat.le_refl _⟩,⟨by (with_reducible repeat first|apply blk_drewN|apply blk_drew|apply blk_alloc);exact BK41.out⟩,⟨by (with_reducible repeat first|apply blk_drewN|apply blk_drew|apply blk_alloc);exact BK1.out⟩,⟨by repeat (first|(with_reducible first|exact HB.out|apply below_alloc|apply pw_below_drewN|apply below_drew1|refine below_set ?_ GE41.out|refine below_set ?_ GE1.out)|exact HB.out)⟩⟩
 case round =>
  clear H'
  try clear c1;try clear p2
  obtain ⟨x8_1,rfl,HA,HK1,BK41,BK1,HB⟩:=hrel
  cases gk with
  | zero=>exact absurd HA.out (by simp [slices_IndexFunc_int_int_71.l0])
  | succ k1 =>
   have H:=HA.out
   clear HA
   simp only [slices_IndexFunc_int_int_71.l0] at H
   by_cases c3 : x8_1 < (l0.length : Int)
   ·rw [if_pos c3] at H
    have c3b0 : decide (x8_1 < (l0.length : Int)) = true:=decide_eq_true c3
    clear c3
    by_cases c4 : 0 ≤ x8_1
    ·rw [if_pos c4] at H
     have c4b0 : decide (0 ≤ x8_1) = true:=decide_eq_true c4
     clear c4
     by_cases c5 : x8_1 < (l0.length : Int)
     ·rw [if_pos c5] at H
      have c5b0 : decide (x8_1 < (l0.length : Int)) = true:=decide_eq_true c5
      clear c5
      replace H:=Option.bind_eq_some_iff.mp H
      obtain ⟨t284,A60,H⟩:=H
      replace H : (if t284 = true then (some x8_1) else (slices_IndexFunc_int_int_71.l0 k1 l0 (l0.length : Int) (wrap64 (x8_1 + 1)) l1_0 l1_1 l1_2 l1_3)) = some r:=H
      have A6:=Aside0.mk A60
      clear A60
      by_cases c7 : t284 = true
      ·subst c7
       have H1 : (some x8_1) = some r:=by rw [if_pos rfl] at H;exact H
       clear H
       have H:=H1
       clear H1
       obtain rfl:=Option.some.inj H
       have p283 : 0 ≤ (x8_1 : Int):=of_decide_eq_true (by assumption)
       have q283 : x8_1 < (l0.length : Int):=of_decide_eq_true (by assumption)
       obtain ⟨ad283,e283,hx283_0⟩:=Kd.at_int HR0.out x8_1 p283 q283
       cases e283
       (try replace hx283_0:=(HB.out.cell (World.block_lt_of_cell? w _ hx283_0)).trans hx283_0)
       replace p283:=eq_true p283
       replace q283:=eq_true q283
       go_wp2_with (first|((with_reducible refine gate_calleev (c:=.tmp 11) rfl ?_);refine goesLc_ (some 16) rfl rfl Try.func71 (by kernel_rfl) rfl #[.int .i64 (rd l0 x8_1)] rfl (by first|rfl|(go_simp;done)) (by (try simp only [List.map_toArray,List.map_cons,List.map_nil]);first|done|rfl|(simp only [List.length_drop,List.length_take];rfl)) #[.int .i64 (rd l0 x8_1),.pointer (some ⟨gb1_,0,none⟩)] (by first|rfl|simp) ?_;(with_reducible refine (impl_Space_tree_1.calls (rd l0 x8_1) gb1_ g1_ A1_0 c1_0 l1_0 A1_1 c1_1 l1_1 A1_2 c1_2 l1_2 A1_3 c1_3 l1_3 true _ ?side1 ?side2 ?side3 ?side4 ?side5 ?side6 ?side7 ?side8 ?side9 ?side10 A6.out).mono ?_);(case side1=>exact by (with_reducible repeat first|apply blk_drewN|apply blk_drew|apply blk_alloc);exact BK41.out);(case side2=>exact by (with_reducible repeat first|apply blk_drewN|apply blk_drew|apply blk_alloc);exact BK1.out);(case side3=>repeat (first|exact (Kd.C_below HR1_0.out HB.out)|(with_reducible first|apply Kd.C_alloc|apply Kd.C_drewN|apply Kd.C_drew)));(case side4=>exact HC1_0.out);(case side5=>repeat (first|exact (Kd.C_below HR1_1.out HB.out)|(with_reducible first|apply Kd.C_alloc|apply Kd.C_drewN|apply Kd.C_drew)));(case side6=>exact HC1_1.out);(case side7=>repeat (first|exact (Kd.C_below HR1_2.out HB.out)|(with_reducible first|apply Kd.C_alloc|apply Kd.C_drewN|apply Kd.C_drew)));(case side8=>exact HC1_2.out);(case side9=>repeat (first|exact (Kd.C_below HR1_3.out HB.out)|(with_reducible first|apply Kd.C_alloc|apply Kd.C_drewN|apply Kd.C_drew)));(case side10=>exact HC1_3.out);rintro e w8 ⟨rfl,hb⟩;refine ⟨_,rfl,?_⟩;have n0_:=Aside0.mk (blk_below (g:=gb1_) (o:=.cells #[.pointer (some ⟨g1_,0,none⟩)] 87 (0,0)) (by (with_reducible repeat first|apply blk_drewN|apply blk_drew|apply blk_alloc);exact BK41.out) hb);have n1_:=Aside0.mk (blk_below (g:=g1_) (o:=.cells #[.slice A1_0 l1_0.length c1_0,.slice A1_1 l1_1.length c1_1,.slice A1_2 l1_2.length c1_2,.slice A1_3 l1_3.length c1_3] 30 (0,0)) (by (with_reducible repeat first|apply blk_drewN|apply blk_drew|apply blk_alloc);exact BK1.out) hb);have n2_:=Aside0.mk (below_step (by repeat (first|(with_reducible first|exact HB.out|apply below_alloc|apply pw_below_drewN|apply below_drew1|refine below_set ?_ GE41.out|refine below_set ?_ GE1.out)|exact HB.out)) hb);clear BK41;clear BK1;clear HB;have BK41:=n0_;have BK1:=n1_;have HB:=n2_;clear n0_ n1_ n2_;(try clear hb);(try clear hb2);(try clear hk);(try clear hi)))
       go_ret
       exact ⟨by first|rfl|(simp [*,errW_none,errW_some] <;> rfl),by repeat (first|(with_reducible first|exact HB.out|apply below_alloc|apply pw_below_drewN|apply below_drew1|refine below_set ?_ GE41.out|refine below_set ?_ GE1.out)|exact HB.out)⟩
      ·replace c7:=Bool.eq_false_iff.mpr c7
       subst c7
       have H1 : (slices_IndexFunc_int_int_71.l0 k1 l0 (l0.length : Int) (wrap64 (x8_1 + 1)) l1_0 l1_1 l1_2 l1_3) = some r:=by rw [if_neg (show ¬ (false = true) by decide)] at H;exact H
       clear H
       have H:=H1
       clear H1
       have H':=Aside0.mk H
       clear H
       have p283 : 0 ≤ (x8_1 : Int):=of_decide_eq_true (by assumption)
       have q283 : x8_1 < (l0.length : Int):=of_decide_eq_true (by assumption)
       obtain ⟨ad283,e283,hx283_0⟩:=Kd.at_int HR0.out x8_1 p283 q283
       cases e283
       (try replace hx283_0:=(HB.out.cell (World.block_lt_of_cell? w _ hx283_0)).trans hx283_0)
       replace p283:=eq_true p283
       replace q283:=eq_true q283
       go_wp2_with (first|((with_reducible refine gate_calleev (c:=.tmp 11) rfl ?_);refine goesLc_ (some 16) rfl rfl Try.func71 (by kernel_rfl) rfl #[.int .i64 (rd l0 x8_1)] rfl (by first|rfl|(go_simp;done)) (by (try simp only [List.map_toArray,List.map_cons,List.map_nil]);first|done|rfl|(simp only [List.length_drop,List.length_take];rfl)) #[.int .i64 (rd l0 x8_1),.pointer (some ⟨gb1_,0,none⟩)] (by first|rfl|simp) ?_;(with_reducible refine (impl_Space_tree_1.calls (rd l0 x8_1) gb1_ g1_ A1_0 c1_0 l1_0 A1_1 c1_1 l1_1 A1_2 c1_2 l1_2 A1_3 c1_3 l1_3 false _ ?side1 ?side2 ?side3 ?side4 ?side5 ?side6 ?side7 ?side8 ?side9 ?side10 A6.out).mono ?_);(case side1=>exact by (with_reducible repeat first|apply blk_drewN|apply blk_drew|apply blk_alloc);exact BK41.out);(case side2=>exact by (with_reducible repeat first|apply blk_drewN|apply blk_drew|apply blk_alloc);exact BK1.out);(case side3=>repeat (first|exact (Kd.C_below HR1_0.out HB.out)|(with_reducible first|apply Kd.C_alloc|apply Kd.C_drewN|apply Kd.C_drew)));(case side4=>exact HC1_0.out);(case side5=>repeat (first|exact (Kd.C_below HR1_1.out HB.out)|(with_reducible first|apply Kd.C_alloc|apply Kd.C_drewN|apply Kd.C_drew)));(case side6=>exact HC1_1.out);(case side7=>repeat (first|exact (Kd.C_below HR1_2.out HB.out)|(with_reducible first|apply Kd.C_alloc|apply Kd.C_drewN|apply Kd.C_drew)));(case side8=>exact HC1_2.out);(case side9=>repeat (first|exact (Kd.C_below HR1_3.out HB.out)|(with_reducible first|apply Kd.C_alloc|apply Kd.C_drewN|apply Kd.C_drew)));(case side10=>exact HC1_3.out);rintro e w9 ⟨rfl,hb⟩;refine ⟨_,rfl,?_⟩;have n0_:=Aside0.mk (blk_below (g:=gb1_) (o:=.cells #[.pointer (some ⟨g1_,0,none⟩)] 87 (0,0)) (by (with_reducible repeat first|apply blk_drewN|apply blk_drew|apply blk_alloc);exact BK41.out) hb);have n1_:=Aside0.mk (blk_below (g:=g1_) (o:=.cells #[.slice A1_0 l1_0.length c1_0,.slice A1_1 l1_1.length c1_1,.slice A1_2 l1_2.length c1_2,.slice A1_3 l1_3.length c1_3] 30 (0,0)) (by (with_reducible repeat first|apply blk_drewN|apply blk_drew|apply blk_alloc);exact BK1.out) hb);have n2_:=Aside0.mk (below_step (by repeat (first|(with_reducible first|exact HB.out|apply below_alloc|apply pw_below_drewN|apply below_drew1|refine below_set ?_ GE41.out|refine below_set ?_ GE1.out)|exact HB.out)) hb);clear BK41;clear BK1;clear HB;have BK41:=n0_;have BK1:=n1_;have HB:=n2_;clear n0_ n1_ n2_;(try clear hb);(try clear hb2);(try clear hk);(try clear hi)))
       go_roundg k1
       case measure=>have:=HK1.out;omega
       case rel=>exact ⟨(wrap64 (x8_1 + 1)),(by first|rfl|(simp;done)|(simp [*];done)),H',⟨by have:=HK1.out;omega⟩,⟨by (with_reducible repeat first|apply blk_drewN|apply blk_drew|apply blk_alloc);exact BK41.out⟩,⟨by (with_reducible repeat first|apply blk_drewN|apply blk_drew|apply blk_alloc);exact BK1.out⟩,⟨by repeat (first|(with_reducible first|exact HB.out|apply below_alloc|apply pw_below_drewN|apply below_drew1|refine below_set ?_ GE41.out|refine below_set ?_ GE1.out)|exact HB.out)⟩⟩
     ·rw [if_neg c5] at H
      exact absurd H (by simp)
    ·rw [if_neg c4] at H
     exact absurd H (by simp)
   ·rw [if_neg c3] at H
    have c3b0 : decide (x8_1 < (l0.length : Int)) = false:=decide_eq_false c3
    clear c3
    obtain rfl:=Option.some.inj H
    go_wp2
    go_ret
    exact ⟨by first|rfl|(simp [*,errW_none,errW_some] <;> rfl),by repeat (first|(with_reducible first|exact HB.out|apply below_alloc|apply pw_below_drewN|apply below_drew1|refine below_set ?_ GE41.out|refine below_set ?_ GE1.out)|exact HB.out)⟩

/-! ### slices_ContainsFunc_int_int_71: function 116 -/
def slices_ContainsFunc_int_int_71.f (k : Nat) (l0 : List Int) (l1_0 : List (List Int)) (l1_1 : List Int) (l1_2 : List Int) (l1_3 : List Int) : Option (Bool):=(slices_IndexFunc_int_int_71.f k l0 l1_0 l1_1 l1_2 l1_3).bind fun t285=>(some (decide (t285 ≥ 0)))
theorem slices_ContainsFunc_int_int_71.mono : ∀ a0 a1 a2 a3 a4 k,LeO (slices_ContainsFunc_int_int_71.f k a0 a1 a2 a3 a4) (slices_ContainsFunc_int_int_71.f (k + 1) a0 a1 a2 a3 a4):=by
 intro a0 a1 a2 a3 a4 k
 unfold slices_ContainsFunc_int_int_71.f
 repeat' first
   | (with_reducible exact slices_IndexFunc_int_int_71.mono _ _ _ _ _ _)
   | (with_reducible exact LeO.refl _)
   | (with_reducible exact LeO.none _)
   | (with_reducible refine LeO.ite ?_ ?_)
   | (with_reducible refine LeO.bind ?_ (fun _=>?_))
   | exact slices_IndexFunc_int_int_71.mono _ _ _ _ _ _
   | exact LeO.none _
   | refine LeO.ite ?_ ?_
   | refine LeO.bind ?_ (fun _=>?_)
set_option maxHeartbeats 8000000 in
set_option maxRecDepth 100000 in
theorem slices_ContainsFunc_int_int_71.calls (k : Nat) (A0 : Option Addr) (c0 : Nat) (l0 : List Int) (gb1_ : Nat) (g1_ : Nat) (A1_0 : Option Addr) (c1_0 : Nat) (l1_0 : List (List Int)) (A1_1 : Option Addr) (c1_1 : Nat) (l1_1 : List Int) (A1_2 : Option Addr) (c1_2 : Nat) (l1_2 : List Int) (A1_3 : Option Addr) (c1_3 : Nat) (l1_3 : List Int) (r : Bool) (w : World) (hr0 : Kd.C (Kd.int .i64) w A0 l0.length l0) (hc0 : l0.length ≤ c0) (hgb1_ : w.heap[gb1_]? = some (.cells #[.pointer (some ⟨g1_,0,none⟩)] 87 (0,0))) (hg1_ : w.heap[g1_]? = some (.cells #[.slice A1_0 l1_0.length c1_0,.slice A1_1 l1_1.length c1_1,.slice A1_2 l1_2.length c1_2,.slice A1_3 l1_3.length c1_3] 30 (0,0))) (hr1_0 : Kd.C (Kd.slice 5 (Kd.int .u8)) w A1_0 l1_0.length l1_0) (hc1_0 : l1_0.length ≤ c1_0) (hr1_1 : Kd.C (Kd.int .u8) w A1_1 l1_1.length l1_1) (hc1_1 : l1_1.length ≤ c1_1) (hr1_2 : Kd.C (Kd.int .i64) w A1_2 l1_2.length l1_2) (hc1_2 : l1_2.length ≤ c1_2) (hr1_3 : Kd.C (Kd.int .i64) w A1_3 l1_3.length l1_3) (hc1_3 : l1_3.length ≤ c1_3) (h : slices_ContainsFunc_int_int_71.f k l0 l1_0 l1_1 l1_2 l1_3 = some r) :
  Calls Try.prog 70 #[.slice A0 l0.length c0,.func (.func 71) #[] #[.pointer (some ⟨gb1_,0,none⟩)]] w fun e w'=>e = .returned (.bool r)∧Below w.heap.size w w':=by
 have HR0:=Aside0.mk hr0
 have HC0:=Aside0.mk hc0
 clear hr0 hc0
 have HR1_0:=Aside0.mk hr1_0
 have HC1_0:=Aside0.mk hc1_0
 clear hr1_0 hc1_0
 have HR1_1:=Aside0.mk hr1_1
 have HC1_1:=Aside0.mk hc1_1
 clear hr1_1 hc1_1
 have HR1_2:=Aside0.mk hr1_2
 have HC1_2:=Aside0.mk hc1_2
 clear hr1_2 hc1_2
 have HR1_3:=Aside0.mk hr1_3
 have HC1_3:=Aside0.mk hc1_3
 clear hr1_3 hc1_3
 have NB41_1:=Aside0.mk (show gb1_ ≠ g1_ from fun e_=>by rw [e_] at hgb1_;exact absurd (congrArg (fun o_=>match o_ with|some (Obj.cells _ t_ _)=>t_|_=>0) (hgb1_.symm.trans hg1_)) (by simp))
 have NB1_41:=Aside0.mk (Ne.symm NB41_1.out)
 have BK41:=Aside0.mk hgb1_
 clear hgb1_
 have BK1:=Aside0.mk hg1_
 clear hg1_
 have HB:=Aside0.mk (Below.refl w.heap.size w)
 have H : ((slices_IndexFunc_int_int_71.f k l0 l1_0 l1_1 l1_2 l1_3).bind fun t285=>(some (decide (t285 ≥ 0)))) = some r:=h
 clear h
 replace H:=Option.bind_eq_some_iff.mp H
 obtain ⟨t285,A30,H⟩:=H
 replace H : (some (decide (t285 ≥ 0))) = some r:=H
 have A3:=Aside0.mk A30
 clear A30
 obtain rfl:=Option.some.inj H
 go_enter Try.func70,Try.ntmps70
 go_wp2_with (first|((with_reducible refine gate_callee (f:=85) rfl ?_);refine goesL_ (some 7) rfl rfl Try.func85 (by kernel_rfl) rfl #[.slice A0 l0.length c0,.func (.func 71) #[] #[.pointer (some ⟨gb1_,0,none⟩)]] rfl (by (try simp only [List.map_toArray,List.map_cons,List.map_nil]);first|done|rfl|(simp only [List.length_drop,List.length_take];rfl)) ?_;(with_reducible refine (slices_IndexFunc_int_int_71.calls k _ _ l0 gb1_ g1_ A1_0 c1_0 l1_0 A1_1 c1_1 l1_1 A1_2 c1_2 l1_2 A1_3 c1_3 l1_3 t285 _ ?side1 ?side2 ?side3 ?side4 ?side5 ?side6 ?side7 ?side8 ?side9 ?side10 ?side11 ?side12 A3.out).mono ?_);(case side1=>repeat (first|exact HR0.out|(with_reducible first|apply Kd.C_alloc|apply Kd.C_drewN|apply Kd.C_drew)));(case side2=>exact HC0.out);(case side3=>exact by (with_reducible repeat first|apply blk_drewN|apply blk_drew|apply blk_alloc);exact BK41.out);(case side4=>exact by (with_reducible repeat first|apply blk_drewN|apply blk_drew|apply blk_alloc);exact BK1.out);(case side5=>repeat (first|exact HR1_0.out|(with_reducible first|apply Kd.C_alloc|apply Kd.C_drewN|apply Kd.C_drew)));(case side6=>exact HC1_0.out);(case side7=>repeat (first|exact HR1_1.out|(with_reducible first|apply Kd.C_alloc|apply Kd.C_drewN|apply Kd.C_drew)));(case side8=>exact HC1_1.out);(case side9=>repeat (first|exact HR1_2.out|(with_reducible first|apply Kd.C_alloc|apply Kd.C_drewN|apply Kd.C_drew)));(case side10=>exact HC1_2.out);(case side11=>repeat (first|exact HR1_3.out|(with_reducible first|apply Kd.C_alloc|apply Kd.C_drewN|apply Kd.C_drew)));(case side12=>exact HC1_3.out);rintro e w4 ⟨rfl,hb⟩;refine ⟨_,rfl,?_⟩;have n0_:=Aside0.mk (blk_below (g:=gb1_) (o:=.cells #[.pointer (some ⟨g1_,0,none⟩)] 87 (0,0)) (by (with_reducible repeat first|apply blk_drewN|apply blk_drew|apply blk_alloc);exact BK41.out) hb);have n1_:=Aside0.mk (blk_below (g:=g1_) (o:=.cells #[.slice A1_0 l1_0.length c1_0,.slice A1_1 l1_1.length c1_1,.slice A1_2 l1_2.length c1_2,.slice A1_3 l1_3.length c1_3] 30 (0,0)) (by (with_reducible repeat first|apply blk_drewN|apply blk_drew|apply blk_alloc);exact BK1.out) hb);have n2_:=Aside0.mk (below_step (by repeat (first|(with_reducible first|exact HB.out|apply below_alloc|apply pw_below_drewN|apply below_drew1|refine below_set ?_ GE41.out|refine below_set ?_ GE1.out)|exact HB.out)) hb);clear BK41;clear BK1;clear HB;have BK41:=n0_;have BK1:=n1_;have HB:=n2_;clear n0_ n1_ n2_;(try clear hb);(try clear hb2);(try clear hk);(try clear hi)))
 go_ret
 exact ⟨by first|rfl|(simp [*,errW_none,errW_some] <;> rfl),by repeat (first|(with_reducible first|exact HB.out|apply below_alloc|apply pw_below_drewN|apply below_drew1|refine below_set ?_ GE41.out|refine below_set ?_ GE1.out)|exact HB.out)⟩

end Go.Proofs.Ytcdlookokffkeaa.PFnExactValueIn
