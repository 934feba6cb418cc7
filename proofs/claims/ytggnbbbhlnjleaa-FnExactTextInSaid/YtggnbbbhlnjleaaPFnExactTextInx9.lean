-- Written by a program of this session over the print of the kit (wip/t/patch_print.py).
import Derived.Test.YtggnbbbhlnjleaaPFnExactTextInx0
import Derived.Test.YtggnbbbhlnjleaaPFnExactTextInx7
import Derived.Test.YtggnbbbhlnjleaaPFnExactTextInx8
namespace Go.Proofs.Ytggnbbbhlnjleaa.PFnExactTextIn
open Go.RowKit Go.Proofs.YtggnbbbhlnjleaaW.PrintWords Go.Proofs.YtggnbbbhlnjleaaW.PrintLast Go.Proofs.YtggnbbbhlnjleaaW.PrintMore
attribute [local go_sem] max2_int min2_int max_two min_two max_three min_three max_four min_four   -- for this text's walks alone
set_option linter.unusedVariables false
set_option linter.unusedSimpArgs false

/-! ### impl_Space_piece: function 79 -/
def impl_Space_piece.j0 : Nat → Int → Bool → List (List Int) → List Int → List Int → List Int → Option (Int × Int × ByteArray × Bool)
 | 0,_,_,_,_,_,_=>none
 | k + 1,x1,x24,x1000,x1001,x1002,x1003=>if x24 = true then (some (0,0,(⟨#[]⟩ : ByteArray),false)) else (if 0 ≤ x1 then (if x1 < (x1000.length : Int) then (if 1 < ((rd_L1 x1000 x1).length : Int) then (if 2 < ((rd_L1 x1000 x1).length : Int) then ((impl_within.f (wrap64 (rd (rd_L1 x1000 x1) 1)) 1 250).bind fun t267=>(if t267 = true then ((impl_within.f (wrap64 (rd (rd_L1 x1000 x1) 2)) 1 40).bind fun t268=>(if t268 = true then (if 0 ≤ (wrap64 (3 + (wrap64 (rd (rd_L1 x1000 x1) 2)))) then (if (wrap64 (3 + (wrap64 (rd (rd_L1 x1000 x1) 2)))) ≤ ((rd_L1 x1000 x1).length : Int) then ((slices_ContainsFunc_byte_byte_87.f k ((rd_L1 x1000 x1).drop ((wrap64 (3 + (wrap64 (rd (rd_L1 x1000 x1) 2)))) : Int).toNat) ()).bind fun t270=>(if t270 = true then (some (0,0,(⟨#[]⟩ : ByteArray),false)) else (if 3 ≤ (wrap64 (3 + (wrap64 (rd (rd_L1 x1000 x1) 2)))) then (some (x1,wrap64 (rd (rd_L1 x1000 x1) 1),strOfNums (((rd_L1 x1000 x1).take ((wrap64 (3 + (wrap64 (rd (rd_L1 x1000 x1) 2)))) : Int).toNat).drop 3),true)) else (none)))) else (none)) else (none)) else (some (0,0,(⟨#[]⟩ : ByteArray),false)))) else (some (0,0,(⟨#[]⟩ : ByteArray),false)))) else (none)) else (none)) else (none)) else (none))
def impl_Space_piece.f (k : Nat) (l0_0 : List (List Int)) (l0_1 : List Int) (l0_2 : List Int) (l0_3 : List Int) (a1 : Int) : Option (Int × Int × ByteArray × Bool):=(impl_Space_isHere.f k l0_0 l0_1 l0_2 l0_3 a1).bind fun t261=>(if t261 = true then (if 0 ≤ a1 then (if a1 < (l0_0.length : Int) then (if 0 < ((rd_L1 l0_0 a1).length : Int) then (impl_Space_piece.j0 k a1 ((rd (rd_L1 l0_0 a1) 0) != 83) l0_0 l0_1 l0_2 l0_3) else (none)) else (none)) else (none)) else (impl_Space_piece.j0 k a1 true l0_0 l0_1 l0_2 l0_3))
theorem impl_Space_piece.mono_l : ∀ k,(∀ y0 y1 y2 y3 y4 y5,LeO (impl_Space_piece.j0 k y0 y1 y2 y3 y4 y5) (impl_Space_piece.j0 (k + 1) y0 y1 y2 y3 y4 y5))
 | 0=>fun _ _ _ _ _ _ r h=>by simp [impl_Space_piece.j0] at h
 | k + 1=>by
  have ih0:=impl_Space_piece.mono_l k
  ·intro y0 y1 y2 y3 y4 y5
   unfold impl_Space_piece.j0
   repeat' first
   | (with_reducible exact ih0 _ _ _ _ _ _)
   | (with_reducible exact impl_Space_isHere.mono _ _ _ _ _ _)
   | (with_reducible exact slices_ContainsFunc_byte_byte_87.mono _ _ _)
   | (with_reducible exact LeO.refl _)
   | (with_reducible exact LeO.none _)
   | (with_reducible refine LeO.ite ?_ ?_)
   | (with_reducible refine LeO.bind ?_ (fun _=>?_))
   | exact ih0 _ _ _ _ _ _
   | exact impl_Space_isHere.mono _ _ _ _ _ _
   | exact slices_ContainsFunc_byte_byte_87.mono _ _ _
   | exact LeO.none _
   | refine LeO.ite ?_ ?_
   | refine LeO.bind ?_ (fun _=>?_)
theorem impl_Space_piece.mono : ∀ a0 a1 a2 a3 a4 k,LeO (impl_Space_piece.f k a0 a1 a2 a3 a4) (impl_Space_piece.f (k + 1) a0 a1 a2 a3 a4):=by
 intro a0 a1 a2 a3 a4 k
 have ih0:=impl_Space_piece.mono_l k
 unfold impl_Space_piece.f
 repeat' first
   | (with_reducible exact ih0 _ _ _ _ _ _)
   | (with_reducible exact impl_Space_isHere.mono _ _ _ _ _ _)
   | (with_reducible exact slices_ContainsFunc_byte_byte_87.mono _ _ _)
   | (with_reducible exact LeO.refl _)
   | (with_reducible exact LeO.none _)
   | (with_reducible refine LeO.ite ?_ ?_)
   | (with_reducible refine LeO.bind ?_ (fun _=>?_))
   | exact ih0 _ _ _ _ _ _
   | exact impl_Space_isHere.mono _ _ _ _ _ _
   | exact slices_ContainsFunc_byte_byte_87.mono _ _ _
   | exact LeO.none _
   | refine LeO.ite ?_ ?_
   | refine LeO.bind ?_ (fun _=>?_)
set_option maxHeartbeats 8000000 in
set_option maxRecDepth 100000 in
theorem impl_Space_piece.calls (k : Nat) (g0_ : Nat) (A0_0 : Option Addr) (c0_0 : Nat) (l0_0 : List (List Int)) (A0_1 : Option Addr) (c0_1 : Nat) (l0_1 : List Int) (A0_2 : Option Addr) (c0_2 : Nat) (l0_2 : List Int) (A0_3 : Option Addr) (c0_3 : Nat) (l0_3 : List Int) (a1 : Int) (r1 : Int) (r2 : Int) (r3 : ByteArray) (r4 : Bool) (w : World) (hg0_ : w.heap[g0_]? = some (.cells #[.slice A0_0 l0_0.length c0_0,.slice A0_1 l0_1.length c0_1,.slice A0_2 l0_2.length c0_2,.slice A0_3 l0_3.length c0_3] 28 (0,0))) (hr0_0 : Kd.C (Kd.slice 5 (Kd.int .u8)) w A0_0 l0_0.length l0_0) (hc0_0 : l0_0.length ≤ c0_0) (hr0_1 : Kd.C (Kd.int .u8) w A0_1 l0_1.length l0_1) (hc0_1 : l0_1.length ≤ c0_1) (hr0_2 : Kd.C (Kd.int .i64) w A0_2 l0_2.length l0_2) (hc0_2 : l0_2.length ≤ c0_2) (hr0_3 : Kd.C (Kd.int .i64) w A0_3 l0_3.length l0_3) (hc0_3 : l0_3.length ≤ c0_3) (h : impl_Space_piece.f k l0_0 l0_1 l0_2 l0_3 a1 = some (r1,r2,r3,r4)) :
  Calls Try.prog 79 #[.pointer (some ⟨g0_,0,none⟩),.int .i64 a1] w fun e w'=>e = .returned (.tuple #[.agg #[.int .i64 r1,.int .i64 r2,.string r3],.bool r4])∧Below w.heap.size w w':=by
 have hu80:=Try.underlying80
 have HR0_0:=Aside0.mk hr0_0
 have HC0_0:=Aside0.mk hc0_0
 clear hr0_0 hc0_0
 have HR0_1:=Aside0.mk hr0_1
 have HC0_1:=Aside0.mk hc0_1
 clear hr0_1 hc0_1
 have HR0_2:=Aside0.mk hr0_2
 have HC0_2:=Aside0.mk hc0_2
 clear hr0_2 hc0_2
 have HR0_3:=Aside0.mk hr0_3
 have HC0_3:=Aside0.mk hc0_3
 clear hr0_3 hc0_3
 have BK0:=Aside0.mk hg0_
 clear hg0_
 have HB:=Aside0.mk (Below.refl w.heap.size w)
 have H : ((impl_Space_isHere.f k l0_0 l0_1 l0_2 l0_3 a1).bind fun t261=>(if t261 = true then (if 0 ≤ a1 then (if a1 < (l0_0.length : Int) then (if 0 < ((rd_L1 l0_0 a1).length : Int) then (impl_Space_piece.j0 k a1 ((rd (rd_L1 l0_0 a1) 0) != 83) l0_0 l0_1 l0_2 l0_3) else (none)) else (none)) else (none)) else (impl_Space_piece.j0 k a1 true l0_0 l0_1 l0_2 l0_3))) = some (r1,r2,r3,r4):=h
 clear h
 have HC3:=Aside0.mk H
 clear H
 go_enter Try.func79,Try.ntmps79
 go_upto_region 1 with (first|((with_reducible refine gate_dst (N:=4) rfl ?_);refine box_event ?hg (N:=4) ?hd (cs:=#[.int .i64 0,.int .i64 0,.string (⟨#[]⟩ : ByteArray)]) (t:=80) ?hr ?_;(case hd=>rfl);(case hg=>rfl);(case hr=>first|(go_simp;done)|(go_simp;rfl));intro gb260 hg w4 hbox hb;have n0_:=Aside0.mk (blk_below (g:=g0_) (o:=.cells #[.slice A0_0 l0_0.length c0_0,.slice A0_1 l0_1.length c0_1,.slice A0_2 l0_2.length c0_2,.slice A0_3 l0_3.length c0_3] 28 (0,0)) (by (with_reducible repeat first|apply blk_drewN|apply blk_drew|apply blk_alloc);exact BK0.out) hb);have n1_:=Aside0.mk (below_step (by repeat (first|(with_reducible first|exact HB.out|apply below_alloc|apply pw_below_drewN|apply below_drew1|refine below_set ?_ GE0.out)|exact HB.out)) hb);have n2_:=Aside0.mk (hbox);have n3_:=Aside0.mk ((by rw [hg];exact (below_size (by repeat (first|(with_reducible first|exact HB.out|apply below_alloc|apply pw_below_drewN|apply below_drew1|refine below_set ?_ GE0.out)|exact HB.out))) : w.heap.size ≤ gb260));have n4_:=Aside0.mk ((by rw [hg];exact (below_size (by repeat (first|(with_reducible first|exact HB.out|apply below_alloc|apply pw_below_drewN|apply below_drew1|refine below_set ?_ GE0.out)|exact HB.out))) : w.heap.size ≤ gb260));have n5_:=Aside0.mk ((by rw [hg];exact Nat.ne_of_lt (blk_lt (g:=g0_) (o:=.cells #[.slice A0_0 l0_0.length c0_0,.slice A0_1 l0_1.length c0_1,.slice A0_2 l0_2.length c0_2,.slice A0_3 l0_3.length c0_3] 28 (0,0)) (by (with_reducible repeat first|apply blk_drewN|apply blk_drew|apply blk_alloc);exact BK0.out)) : g0_ ≠ gb260));have n6_:=Aside0.mk ((by rw [hg];exact Nat.ne_of_gt (blk_lt (g:=g0_) (o:=.cells #[.slice A0_0 l0_0.length c0_0,.slice A0_1 l0_1.length c0_1,.slice A0_2 l0_2.length c0_2,.slice A0_3 l0_3.length c0_3] 28 (0,0)) (by (with_reducible repeat first|apply blk_drewN|apply blk_drew|apply blk_alloc);exact BK0.out)) : gb260 ≠ g0_));clear BK0;clear HB;have BK0:=n0_;have HB:=n1_;have BK260:=n2_;have GW260:=n3_;have GE260:=n4_;have NB0_260:=n5_;have NB260_0:=n6_;clear n0_ n1_ n2_ n3_ n4_ n5_ n6_;clear hb hbox hg))
 repeat (go_quiet (first|((with_reducible refine gate_dst (N:=4) rfl ?_);refine box_event ?hg (N:=4) ?hd (cs:=#[.int .i64 0,.int .i64 0,.string (⟨#[]⟩ : ByteArray)]) (t:=80) ?hr ?_;(case hd=>rfl);(case hg=>rfl);(case hr=>first|(go_simp;done)|(go_simp;rfl));intro gb260 hg w4 hbox hb;have n0_:=Aside0.mk (blk_below (g:=g0_) (o:=.cells #[.slice A0_0 l0_0.length c0_0,.slice A0_1 l0_1.length c0_1,.slice A0_2 l0_2.length c0_2,.slice A0_3 l0_3.length c0_3] 28 (0,0)) (by (with_reducible repeat first|apply blk_drewN|apply blk_drew|apply blk_alloc);exact BK0.out) hb);have n1_:=Aside0.mk (below_step (by repeat (first|(with_reducible first|exact HB.out|apply below_alloc|apply pw_below_drewN|apply below_drew1|refine below_set ?_ GE0.out)|exact HB.out)) hb);have n2_:=Aside0.mk (hbox);have n3_:=Aside0.mk ((by rw [hg];exact (below_size (by repeat (first|(with_reducible first|exact HB.out|apply below_alloc|apply pw_below_drewN|apply below_drew1|refine below_set ?_ GE0.out)|exact HB.out))) : w.heap.size ≤ gb260));have n4_:=Aside0.mk ((by rw [hg];exact (below_size (by repeat (first|(with_reducible first|exact HB.out|apply below_alloc|apply pw_below_drewN|apply below_drew1|refine below_set ?_ GE0.out)|exact HB.out))) : w.heap.size ≤ gb260));have n5_:=Aside0.mk ((by rw [hg];exact Nat.ne_of_lt (blk_lt (g:=g0_) (o:=.cells #[.slice A0_0 l0_0.length c0_0,.slice A0_1 l0_1.length c0_1,.slice A0_2 l0_2.length c0_2,.slice A0_3 l0_3.length c0_3] 28 (0,0)) (by (with_reducible repeat first|apply blk_drewN|apply blk_drew|apply blk_alloc);exact BK0.out)) : g0_ ≠ gb260));have n6_:=Aside0.mk ((by rw [hg];exact Nat.ne_of_gt (blk_lt (g:=g0_) (o:=.cells #[.slice A0_0 l0_0.length c0_0,.slice A0_1 l0_1.length c0_1,.slice A0_2 l0_2.length c0_2,.slice A0_3 l0_3.length c0_3] 28 (0,0)) (by (with_reducible repeat first|apply blk_drewN|apply blk_drew|apply blk_alloc);exact BK0.out)) : gb260 ≠ g0_));clear BK0;clear HB;have BK0:=n0_;have HB:=n1_;have BK260:=n2_;have GW260:=n3_;have GE260:=n4_;have NB0_260:=n5_;have NB260_0:=n6_;clear n0_ n1_ n2_ n3_ n4_ n5_ n6_;clear hb hbox hg));go_upto_region 1 with (first|((with_reducible refine gate_dst (N:=4) rfl ?_);refine box_event ?hg (N:=4) ?hd (cs:=#[.int .i64 0,.int .i64 0,.string (⟨#[]⟩ : ByteArray)]) (t:=80) ?hr ?_;(case hd=>rfl);(case hg=>rfl);(case hr=>first|(go_simp;done)|(go_simp;rfl));intro gb260 hg w4 hbox hb;have n0_:=Aside0.mk (blk_below (g:=g0_) (o:=.cells #[.slice A0_0 l0_0.length c0_0,.slice A0_1 l0_1.length c0_1,.slice A0_2 l0_2.length c0_2,.slice A0_3 l0_3.length c0_3] 28 (0,0)) (by (with_reducible repeat first|apply blk_drewN|apply blk_drew|apply blk_alloc);exact BK0.out) hb);have n1_:=Aside0.mk (below_step (by repeat (first|(with_reducible first|exact HB.out|apply below_alloc|apply pw_below_drewN|apply below_drew1|refine below_set ?_ GE0.out)|exact HB.out)) hb);have n2_:=Aside0.mk (hbox);have n3_:=Aside0.mk ((by rw [hg];exact (below_size (by repeat (first|(with_reducible first|exact HB.out|apply below_alloc|apply pw_below_drewN|apply below_drew1|refine below_set ?_ GE0.out)|exact HB.out))) : w.heap.size ≤ gb260));have n4_:=Aside0.mk ((by rw [hg];exact (below_size (by repeat (first|(with_reducible first|exact HB.out|apply below_alloc|apply pw_below_drewN|apply below_drew1|refine below_set ?_ GE0.out)|exact HB.out))) : w.heap.size ≤ gb260));have n5_:=Aside0.mk ((by rw [hg];exact Nat.ne_of_lt (blk_lt (g:=g0_) (o:=.cells #[.slice A0_0 l0_0.length c0_0,.slice A0_1 l0_1.length c0_1,.slice A0_2 l0_2.length c0_2,.slice A0_3 l0_3.length c0_3] 28 (0,0)) (by (with_reducible repeat first|apply blk_drewN|apply blk_drew|apply blk_alloc);exact BK0.out)) : g0_ ≠ gb260));have n6_:=Aside0.mk ((by rw [hg];exact Nat.ne_of_gt (blk_lt (g:=g0_) (o:=.cells #[.slice A0_0 l0_0.length c0_0,.slice A0_1 l0_1.length c0_1,.slice A0_2 l0_2.length c0_2,.slice A0_3 l0_3.length c0_3] 28 (0,0)) (by (with_reducible repeat first|apply blk_drewN|apply blk_drew|apply blk_alloc);exact BK0.out)) : gb260 ≠ g0_));clear BK0;clear HB;have BK0:=n0_;have HB:=n1_;have BK260:=n2_;have GW260:=n3_;have GE260:=n4_;have NB0_260:=n5_;have NB260_0:=n6_;clear n0_ n1_ n2_ n3_ n4_ n5_ n6_;clear hb hbox hg)))
 (try simp only [Act.put,List.setIfInBounds_toArray,List.set_cons_zero,List.set_cons_succ])
 go_cut [24] (fun v24 wc=>∃ (kq : Nat) (x24_2 : Bool),v24 = .bool x24_2∧Aside0 (impl_Space_piece.j0 kq a1 x24_2 l0_0 l0_1 l0_2 l0_3 = some (r1,r2,r3,r4))∧Aside0 (kq ≤ k)∧Aside0 (wc.heap[g0_]? = some (.cells #[(.slice A0_0 l0_0.length c0_0),(.slice A0_1 l0_1.length c0_1),(.slice A0_2 l0_2.length c0_2),(.slice A0_3 l0_3.length c0_3)] 28 (0,0)))∧Aside0 (wc.heap[gb260]? = some (.cells #[.int .i64 0,.int .i64 0,.string (⟨#[]⟩ : ByteArray)] 80 (0,0)))∧Aside0 (Below w.heap.size w wc))
 case first =>
  have H:=HC3.out
  clear HC3
  replace H:=Option.bind_eq_some_iff.mp H
  obtain ⟨t261,A50,H⟩:=H
  replace H : (if t261 = true then (if 0 ≤ a1 then (if a1 < (l0_0.length : Int) then (if 0 < ((rd_L1 l0_0 a1).length : Int) then (impl_Space_piece.j0 k a1 ((rd (rd_L1 l0_0 a1) 0) != 83) l0_0 l0_1 l0_2 l0_3) else (none)) else (none)) else (none)) else (impl_Space_piece.j0 k a1 true l0_0 l0_1 l0_2 l0_3)) = some (r1,r2,r3,r4):=H
  have A5:=Aside0.mk A50
  clear A50
  by_cases c6 : t261 = true
  ·subst c6
   have H1 : (if 0 ≤ a1 then (if a1 < (l0_0.length : Int) then (if 0 < ((rd_L1 l0_0 a1).length : Int) then (impl_Space_piece.j0 k a1 ((rd (rd_L1 l0_0 a1) 0) != 83) l0_0 l0_1 l0_2 l0_3) else (none)) else (none)) else (none)) = some (r1,r2,r3,r4):=by rw [if_pos rfl] at H;exact H
   clear H
   have H:=H1
   clear H1
   by_cases c7 : 0 ≤ a1
   ·rw [if_pos c7] at H
    have c7b0 : decide (0 ≤ a1) = true:=decide_eq_true c7
    clear c7
    (first|rw [c7b0]|(simp only [i64_w,i32_w];rw [c7b0])|skip)
    by_cases c8 : a1 < (l0_0.length : Int)
    ·rw [if_pos c8] at H
     have c8b0 : decide (a1 < (l0_0.length : Int)) = true:=decide_eq_true c8
     clear c8
     by_cases c9 : 0 < ((rd_L1 l0_0 a1).length : Int)
     ·rw [if_pos c9] at H
      have c9b0 : decide (0 < ((rd_L1 l0_0 a1).length : Int)) = true:=decide_eq_true c9
      have c9b1 : decide (0 < (rd_L1 l0_0 a1).length) = true:=decide_eq_true (by omega)
      clear c9
      have H':=Aside0.mk H
      clear H
      go_wp2_with (first|(go_at_call 61;(with_reducible refine (impl_Space_isHere.calls k g0_ A0_0 c0_0 l0_0 A0_1 c0_1 l0_1 A0_2 c0_2 l0_2 A0_3 c0_3 l0_3 a1 true _ ?side1 ?side2 ?side3 ?side4 ?side5 ?side6 ?side7 ?side8 ?side9 A5.out).mono ?_);(case side1=>exact by (with_reducible repeat first|apply blk_drewN|apply blk_drew|apply blk_alloc);exact BK0.out);(case side2=>repeat (first|exact (Kd.C_below HR0_0.out HB.out)|(with_reducible first|apply Kd.C_alloc|apply Kd.C_drewN|apply Kd.C_drew)));(case side3=>exact HC0_0.out);(case side4=>repeat (first|exact (Kd.C_below HR0_1.out HB.out)|(with_reducible first|apply Kd.C_alloc|apply Kd.C_drewN|apply Kd.C_drew)));(case side5=>exact HC0_1.out);(case side6=>repeat (first|exact (Kd.C_below HR0_2.out HB.out)|(with_reducible first|apply Kd.C_alloc|apply Kd.C_drewN|apply Kd.C_drew)));(case side7=>exact HC0_2.out);(case side8=>repeat (first|exact (Kd.C_below HR0_3.out HB.out)|(with_reducible first|apply Kd.C_alloc|apply Kd.C_drewN|apply Kd.C_drew)));(case side9=>exact HC0_3.out);rintro e w10 ⟨rfl,hb⟩;have n0_:=Aside0.mk (blk_below (g:=g0_) (o:=.cells #[.slice A0_0 l0_0.length c0_0,.slice A0_1 l0_1.length c0_1,.slice A0_2 l0_2.length c0_2,.slice A0_3 l0_3.length c0_3] 28 (0,0)) (by (with_reducible repeat first|apply blk_drewN|apply blk_drew|apply blk_alloc);exact BK0.out) hb);have n1_:=Aside0.mk (blk_below (g:=gb260) (o:=.cells #[.int .i64 0,.int .i64 0,.string (⟨#[]⟩ : ByteArray)] 80 (0,0)) (by (with_reducible repeat first|apply blk_drewN|apply blk_drew|apply blk_alloc);exact BK260.out) hb);have n2_:=Aside0.mk (below_step (by repeat (first|(with_reducible first|exact HB.out|apply below_alloc|apply pw_below_drewN|apply below_drew1|refine below_set ?_ GE0.out|refine below_set ?_ GE260.out)|exact HB.out)) hb);clear BK0;clear BK260;clear HB;have BK0:=n0_;have BK260:=n1_;have HB:=n2_;clear n0_ n1_ n2_;(try clear hb);(try clear hb2);(try clear hk);(try clear hi);have hnb11:=NB0_260.out;have hnc11:=NB260_0.out;have hcz12_0 : w10.cell? ⟨g0_,0,none⟩ = some (.slice A0_0 l0_0.length c0_0):=(blk_cell BK0.out 0).trans rfl;have hcz12_1 : w10.cell? ⟨g0_,1,none⟩ = some (.slice A0_1 l0_1.length c0_1):=(blk_cell BK0.out 1).trans rfl;have hcz12_2 : w10.cell? ⟨g0_,2,none⟩ = some (.slice A0_2 l0_2.length c0_2):=(blk_cell BK0.out 2).trans rfl;have hcz12_3 : w10.cell? ⟨g0_,3,none⟩ = some (.slice A0_3 l0_3.length c0_3):=(blk_cell BK0.out 3).trans rfl;have hfz12_0:=blk_frozen BK0.out 0;have hfz12_1:=blk_frozen BK0.out 1;have hfz12_2:=blk_frozen BK0.out 2;have hfz12_3:=blk_frozen BK0.out 3;have p262 : 0 ≤ (a1 : Int):=of_decide_eq_true (by assumption);have q262 : a1 < (l0_0.length : Int):=of_decide_eq_true (by assumption);obtain ⟨ad262,A262_0,c262_0,e262,hx262_0,hl262_0,hi262_0⟩:=at_L1 HR0_0.out a1 p262 q262;cases e262;(try replace hx262_0:=(HB.out.cell (World.block_lt_of_cell? w _ hx262_0)).trans hx262_0);have HR262_0:=Aside0.mk hi262_0;have HC262_0:=Aside0.mk hl262_0;clear hi262_0 hl262_0;replace p262:=eq_true p262;replace q262:=eq_true q262;have p263 : 0 ≤ (0 : Int):=(by omega);have q263 : 0 < ((rd_L1 l0_0 a1).length : Int):=of_decide_eq_true (by assumption);obtain ⟨ad263,e263,hx263_0⟩:=Kd.at_int HR262_0.out 0 p263 q263;cases e263;have qi263 : (0 < (rd_L1 l0_0 a1).length) = True:=eq_true (by omega);(try rw [show ((0 : Int)).toNat = 0 from rfl] at hx263_0);(try rw [Addr.add_zero'] at hx263_0);(try replace hx263_0:=(HB.out.cell (World.block_lt_of_cell? w _ hx263_0)).trans hx263_0);replace p263:=eq_true p263;replace q263:=eq_true q263))
      repeat (go_quiet (first|(go_at_call 61;(with_reducible refine (impl_Space_isHere.calls k g0_ A0_0 c0_0 l0_0 A0_1 c0_1 l0_1 A0_2 c0_2 l0_2 A0_3 c0_3 l0_3 a1 true _ ?side1 ?side2 ?side3 ?side4 ?side5 ?side6 ?side7 ?side8 ?side9 A5.out).mono ?_);(case side1=>exact by (with_reducible repeat first|apply blk_drewN|apply blk_drew|apply blk_alloc);exact BK0.out);(case side2=>repeat (first|exact (Kd.C_below HR0_0.out HB.out)|(with_reducible first|apply Kd.C_alloc|apply Kd.C_drewN|apply Kd.C_drew)));(case side3=>exact HC0_0.out);(case side4=>repeat (first|exact (Kd.C_below HR0_1.out HB.out)|(with_reducible first|apply Kd.C_alloc|apply Kd.C_drewN|apply Kd.C_drew)));(case side5=>exact HC0_1.out);(case side6=>repeat (first|exact (Kd.C_below HR0_2.out HB.out)|(with_reducible first|apply Kd.C_alloc|apply Kd.C_drewN|apply Kd.C_drew)));(case side7=>exact HC0_2.out);(case side8=>repeat (first|exact (Kd.C_below HR0_3.out HB.out)|(with_reducible first|apply Kd.C_alloc|apply Kd.C_drewN|apply Kd.C_drew)));(case side9=>exact HC0_3.out);rintro e w10 ⟨rfl,hb⟩;have n0_:=Aside0.mk (blk_below (g:=g0_) (o:=.cells #[.slice A0_0 l0_0.length c0_0,.slice A0_1 l0_1.length c0_1,.slice A0_2 l0_2.length c0_2,.slice A0_3 l0_3.length c0_3] 28 (0,0)) (by (with_reducible repeat first|apply blk_drewN|apply blk_drew|apply blk_alloc);exact BK0.out) hb);have n1_:=Aside0.mk (blk_below (g:=gb260) (o:=.cells #[.int .i64 0,.int .i64 0,.string (⟨#[]⟩ : ByteArray)] 80 (0,0)) (by (with_reducible repeat first|apply blk_drewN|apply blk_drew|apply blk_alloc);exact BK260.out) hb);have n2_:=Aside0.mk (below_step (by repeat (first|(with_reducible first|exact HB.out|apply below_alloc|apply pw_below_drewN|apply below_drew1|refine below_set ?_ GE0.out|refine below_set ?_ GE260.out)|exact HB.out)) hb);clear BK0;clear BK260;clear HB;have BK0:=n0_;have BK260:=n1_;have HB:=n2_;clear n0_ n1_ n2_;(try clear hb);(try clear hb2);(try clear hk);(try clear hi);have hnb11:=NB0_260.out;have hnc11:=NB260_0.out;have hcz12_0 : w10.cell? ⟨g0_,0,none⟩ = some (.slice A0_0 l0_0.length c0_0):=(blk_cell BK0.out 0).trans rfl;have hcz12_1 : w10.cell? ⟨g0_,1,none⟩ = some (.slice A0_1 l0_1.length c0_1):=(blk_cell BK0.out 1).trans rfl;have hcz12_2 : w10.cell? ⟨g0_,2,none⟩ = some (.slice A0_2 l0_2.length c0_2):=(blk_cell BK0.out 2).trans rfl;have hcz12_3 : w10.cell? ⟨g0_,3,none⟩ = some (.slice A0_3 l0_3.length c0_3):=(blk_cell BK0.out 3).trans rfl;have hfz12_0:=blk_frozen BK0.out 0;have hfz12_1:=blk_frozen BK0.out 1;have hfz12_2:=blk_frozen BK0.out 2;have hfz12_3:=blk_frozen BK0.out 3;have p262 : 0 ≤ (a1 : Int):=of_decide_eq_true (by assumption);have q262 : a1 < (l0_0.length : Int):=of_decide_eq_true (by assumption);obtain ⟨ad262,A262_0,c262_0,e262,hx262_0,hl262_0,hi262_0⟩:=at_L1 HR0_0.out a1 p262 q262;cases e262;(try replace hx262_0:=(HB.out.cell (World.block_lt_of_cell? w _ hx262_0)).trans hx262_0);have HR262_0:=Aside0.mk hi262_0;have HC262_0:=Aside0.mk hl262_0;clear hi262_0 hl262_0;replace p262:=eq_true p262;replace q262:=eq_true q262;have p263 : 0 ≤ (0 : Int):=(by omega);have q263 : 0 < ((rd_L1 l0_0 a1).length : Int):=of_decide_eq_true (by assumption);obtain ⟨ad263,e263,hx263_0⟩:=Kd.at_int HR262_0.out 0 p263 q263;cases e263;have qi263 : (0 < (rd_L1 l0_0 a1).length) = True:=eq_true (by omega);(try rw [show ((0 : Int)).toNat = 0 from rfl] at hx263_0);(try rw [Addr.add_zero'] at hx263_0);(try replace hx263_0:=(HB.out.cell (World.block_lt_of_cell? w _ hx263_0)).trans hx263_0);replace p263:=eq_true p263;replace q263:=eq_true q263));try go_wp2_with (first|(go_at_call 61;(with_reducible refine (impl_Space_isHere.calls k g0_ A0_0 c0_0 l0_0 A0_1 c0_1 l0_1 A0_2 c0_2 l0_2 A0_3 c0_3 l0_3 a1 true _ ?side1 ?side2 ?side3 ?side4 ?side5 ?side6 ?side7 ?side8 ?side9 A5.out).mono ?_);(case side1=>exact by (with_reducible repeat first|apply blk_drewN|apply blk_drew|apply blk_alloc);exact BK0.out);(case side2=>repeat (first|exact (Kd.C_below HR0_0.out HB.out)|(with_reducible first|apply Kd.C_alloc|apply Kd.C_drewN|apply Kd.C_drew)));(case side3=>exact HC0_0.out);(case side4=>repeat (first|exact (Kd.C_below HR0_1.out HB.out)|(with_reducible first|apply Kd.C_alloc|apply Kd.C_drewN|apply Kd.C_drew)));(case side5=>exact HC0_1.out);(case side6=>repeat (first|exact (Kd.C_below HR0_2.out HB.out)|(with_reducible first|apply Kd.C_alloc|apply Kd.C_drewN|apply Kd.C_drew)));(case side7=>exact HC0_2.out);(case side8=>repeat (first|exact (Kd.C_below HR0_3.out HB.out)|(with_reducible first|apply Kd.C_alloc|apply Kd.C_drewN|apply Kd.C_drew)));(case side9=>exact HC0_3.out);rintro e w10 ⟨rfl,hb⟩;have n0_:=Aside0.mk (blk_below (g:=g0_) (o:=.cells #[.slice A0_0 l0_0.length c0_0,.slice A0_1 l0_1.length c0_1,.slice A0_2 l0_2.length c0_2,.slice A0_3 l0_3.length c0_3] 28 (0,0)) (by (with_reducible repeat first|apply blk_drewN|apply blk_drew|apply blk_alloc);exact BK0.out) hb);have n1_:=Aside0.mk (blk_below (g:=gb260) (o:=.cells #[.int .i64 0,.int .i64 0,.string (⟨#[]⟩ : ByteArray)] 80 (0,0)) (by (with_reducible repeat first|apply blk_drewN|apply blk_drew|apply blk_alloc);exact BK260.out) hb);have n2_:=Aside0.mk (below_step (by repeat (first|(with_reducible first|exact HB.out|apply below_alloc|apply pw_below_drewN|apply below_drew1|refine below_set ?_ GE0.out|refine below_set ?_ GE260.out)|exact HB.out)) hb);clear BK0;clear BK260;clear HB;have BK0:=n0_;have BK260:=n1_;have HB:=n2_;clear n0_ n1_ n2_;(try clear hb);(try clear hb2);(try clear hk);(try clear hi);have hnb11:=NB0_260.out;have hnc11:=NB260_0.out;have hcz12_0 : w10.cell? ⟨g0_,0,none⟩ = some (.slice A0_0 l0_0.length c0_0):=(blk_cell BK0.out 0).trans rfl;have hcz12_1 : w10.cell? ⟨g0_,1,none⟩ = some (.slice A0_1 l0_1.length c0_1):=(blk_cell BK0.out 1).trans rfl;have hcz12_2 : w10.cell? ⟨g0_,2,none⟩ = some (.slice A0_2 l0_2.length c0_2):=(blk_cell BK0.out 2).trans rfl;have hcz12_3 : w10.cell? ⟨g0_,3,none⟩ = some (.slice A0_3 l0_3.length c0_3):=(blk_cell BK0.out 3).trans rfl;have hfz12_0:=blk_frozen BK0.out 0;have hfz12_1:=blk_frozen BK0.out 1;have hfz12_2:=blk_frozen BK0.out 2;have hfz12_3:=blk_frozen BK0.out 3;have p262 : 0 ≤ (a1 : Int):=of_decide_eq_true (by assumption);have q262 : a1 < (l0_0.length : Int):=of_decide_eq_true (by assumption);obtain ⟨ad262,A262_0,c262_0,e262,hx262_0,hl262_0,hi262_0⟩:=at_L1 HR0_0.out a1 p262 q262;cases e262;(try replace hx262_0:=(HB.out.cell (World.block_lt_of_cell? w _ hx262_0)).trans hx262_0);have HR262_0:=Aside0.mk hi262_0;have HC262_0:=Aside0.mk hl262_0;clear hi262_0 hl262_0;replace p262:=eq_true p262;replace q262:=eq_true q262;have p263 : 0 ≤ (0 : Int):=(by omega);have q263 : 0 < ((rd_L1 l0_0 a1).length : Int):=of_decide_eq_true (by assumption);obtain ⟨ad263,e263,hx263_0⟩:=Kd.at_int HR262_0.out 0 p263 q263;cases e263;have qi263 : (0 < (rd_L1 l0_0 a1).length) = True:=eq_true (by omega);(try rw [show ((0 : Int)).toNat = 0 from rfl] at hx263_0);(try rw [Addr.add_zero'] at hx263_0);(try replace hx263_0:=(HB.out.cell (World.block_lt_of_cell? w _ hx263_0)).trans hx263_0);replace p263:=eq_true p263;replace q263:=eq_true q263)))
      go_meet
      case rel=>exact ⟨_,(((rd (rd_L1 l0_0 a1) 0) != 83)),(by first|rfl|(simp;done)|(simp [*];done)),H',⟨by first|omega|exact Nat.le_refl _⟩,⟨by (with_reducible repeat first|apply blk_drewN|apply blk_drew|apply blk_alloc);exact BK0.out⟩,⟨by (with_reducible repeat first|apply blk_drewN|apply blk_drew|apply blk_alloc);exact BK260.out⟩,⟨by repeat (first|(with_reducible first|exact HB.out|apply below_alloc|apply pw_below_drewN|apply below_drew1|refine below_set ?_ GE0.out|refine below_set ?_ GE260.out)|exact HB.out)⟩⟩
     ·rw [if_neg c9] at H
      exact absurd H (by simp)
    ·rw [if_neg c8] at H
     exact absurd H (by simp)
   ·rw [if_neg c7] at H
    exact absurd H (by simp)
  ·replace c6:=Bool.eq_false_iff.mpr c6
   subst c6
   have H1 : (impl_Space_piece.j0 k a1 true l0_0 l0_1 l0_2 l0_3) = some (r1,r2,r3,r4):=by rw [if_neg (show ¬ (false = true) by decide)] at H;exact H
   clear H
   have H:=H1
   clear H1
   have H':=Aside0.mk H
   clear H
   go_wp2_with (first|(go_at_call 61;(with_reducible refine (impl_Space_isHere.calls k g0_ A0_0 c0_0 l0_0 A0_1 c0_1 l0_1 A0_2 c0_2 l0_2 A0_3 c0_3 l0_3 a1 false _ ?side1 ?side2 ?side3 ?side4 ?side5 ?side6 ?side7 ?side8 ?side9 A5.out).mono ?_);(case side1=>exact by (with_reducible repeat first|apply blk_drewN|apply blk_drew|apply blk_alloc);exact BK0.out);(case side2=>repeat (first|exact (Kd.C_below HR0_0.out HB.out)|(with_reducible first|apply Kd.C_alloc|apply Kd.C_drewN|apply Kd.C_drew)));(case side3=>exact HC0_0.out);(case side4=>repeat (first|exact (Kd.C_below HR0_1.out HB.out)|(with_reducible first|apply Kd.C_alloc|apply Kd.C_drewN|apply Kd.C_drew)));(case side5=>exact HC0_1.out);(case side6=>repeat (first|exact (Kd.C_below HR0_2.out HB.out)|(with_reducible first|apply Kd.C_alloc|apply Kd.C_drewN|apply Kd.C_drew)));(case side7=>exact HC0_2.out);(case side8=>repeat (first|exact (Kd.C_below HR0_3.out HB.out)|(with_reducible first|apply Kd.C_alloc|apply Kd.C_drewN|apply Kd.C_drew)));(case side9=>exact HC0_3.out);rintro e w13 ⟨rfl,hb⟩;have n0_:=Aside0.mk (blk_below (g:=g0_) (o:=.cells #[.slice A0_0 l0_0.length c0_0,.slice A0_1 l0_1.length c0_1,.slice A0_2 l0_2.length c0_2,.slice A0_3 l0_3.length c0_3] 28 (0,0)) (by (with_reducible repeat first|apply blk_drewN|apply blk_drew|apply blk_alloc);exact BK0.out) hb);have n1_:=Aside0.mk (blk_below (g:=gb260) (o:=.cells #[.int .i64 0,.int .i64 0,.string (⟨#[]⟩ : ByteArray)] 80 (0,0)) (by (with_reducible repeat first|apply blk_drewN|apply blk_drew|apply blk_alloc);exact BK260.out) hb);have n2_:=Aside0.mk (below_step (by repeat (first|(with_reducible first|exact HB.out|apply below_alloc|apply pw_below_drewN|apply below_drew1|refine below_set ?_ GE0.out|refine below_set ?_ GE260.out)|exact HB.out)) hb);clear BK0;clear BK260;clear HB;have BK0:=n0_;have BK260:=n1_;have HB:=n2_;clear n0_ n1_ n2_;(try clear hb);(try clear hb2);(try clear hk);(try clear hi)))
   repeat (go_quiet (first|(go_at_call 61;(with_reducible refine (impl_Space_isHere.calls k g0_ A0_0 c0_0 l0_0 A0_1 c0_1 l0_1 A0_2 c0_2 l0_2 A0_3 c0_3 l0_3 a1 false _ ?side1 ?side2 ?side3 ?side4 ?side5 ?side6 ?side7 ?side8 ?side9 A5.out).mono ?_);(case side1=>exact by (with_reducible repeat first|apply blk_drewN|apply blk_drew|apply blk_alloc);exact BK0.out);(case side2=>repeat (first|exact (Kd.C_below HR0_0.out HB.out)|(with_reducible first|apply Kd.C_alloc|apply Kd.C_drewN|apply Kd.C_drew)));(case side3=>exact HC0_0.out);(case side4=>repeat (first|exact (Kd.C_below HR0_1.out HB.out)|(with_reducible first|apply Kd.C_alloc|apply Kd.C_drewN|apply Kd.C_drew)));(case side5=>exact HC0_1.out);(case side6=>repeat (first|exact (Kd.C_below HR0_2.out HB.out)|(with_reducible first|apply Kd.C_alloc|apply Kd.C_drewN|apply Kd.C_drew)));(case side7=>exact HC0_2.out);(case side8=>repeat (first|exact (Kd.C_below HR0_3.out HB.out)|(with_reducible first|apply Kd.C_alloc|apply Kd.C_drewN|apply Kd.C_drew)));(case side9=>exact HC0_3.out);rintro e w13 ⟨rfl,hb⟩;have n0_:=Aside0.mk (blk_below (g:=g0_) (o:=.cells #[.slice A0_0 l0_0.length c0_0,.slice A0_1 l0_1.length c0_1,.slice A0_2 l0_2.length c0_2,.slice A0_3 l0_3.length c0_3] 28 (0,0)) (by (with_reducible repeat first|apply blk_drewN|apply blk_drew|apply blk_alloc);exact BK0.out) hb);have n1_:=Aside0.mk (blk_below (g:=gb260) (o:=.cells #[.int .i64 0,.int .i64 0,.string (⟨#[]⟩ : ByteArray)] 80 (0,0)) (by (with_reducible repeat first|apply blk_drewN|apply blk_drew|apply blk_alloc);exact BK260.out) hb);have n2_:=Aside0.mk (below_step (by repeat (first|(with_reducible first|exact HB.out|apply below_alloc|apply pw_below_drewN|apply below_drew1|refine below_set ?_ GE0.out|refine below_set ?_ GE260.out)|exact HB.out)) hb);clear BK0;clear BK260;clear HB;have BK0:=n0_;have BK260:=n1_;have HB:=n2_;clear n0_ n1_ n2_;(try clear hb);(try clear hb2);(try clear hk);(try clear hi)));try go_wp2_with (first|(go_at_call 61;(with_reducible refine (impl_Space_isHere.calls k g0_ A0_0 c0_0 l0_0 A0_1 c0_1 l0_1 A0_2 c0_2 l0_2 A0_3 c0_3 l0_3 a1 false _ ?side1 ?side2 ?side3 ?side4 ?side5 ?side6 ?side7 ?side8 ?side9 A5.out).mono ?_);(case side1=>exact by (with_reducible repeat first|apply blk_drewN|apply blk_drew|apply blk_alloc);exact BK0.out);(case side2=>repeat (first|exact (Kd.C_below HR0_0.out HB.out)|(with_reducible first|apply Kd.C_alloc|apply Kd.C_drewN|apply Kd.C_drew)));(case side3=>exact HC0_0.out);(case side4=>repeat (first|exact (Kd.C_below HR0_1.out HB.out)|(with_reducible first|apply Kd.C_alloc|apply Kd.C_drewN|apply Kd.C_drew)));(case side5=>exact HC0_1.out);(case side6=>repeat (first|exact (Kd.C_below HR0_2.out HB.out)|(with_reducible first|apply Kd.C_alloc|apply Kd.C_drewN|apply Kd.C_drew)));(case side7=>exact HC0_2.out);(case side8=>repeat (first|exact (Kd.C_below HR0_3.out HB.out)|(with_reducible first|apply Kd.C_alloc|apply Kd.C_drewN|apply Kd.C_drew)));(case side9=>exact HC0_3.out);rintro e w13 ⟨rfl,hb⟩;have n0_:=Aside0.mk (blk_below (g:=g0_) (o:=.cells #[.slice A0_0 l0_0.length c0_0,.slice A0_1 l0_1.length c0_1,.slice A0_2 l0_2.length c0_2,.slice A0_3 l0_3.length c0_3] 28 (0,0)) (by (with_reducible repeat first|apply blk_drewN|apply blk_drew|apply blk_alloc);exact BK0.out) hb);have n1_:=Aside0.mk (blk_below (g:=gb260) (o:=.cells #[.int .i64 0,.int .i64 0,.string (⟨#[]⟩ : ByteArray)] 80 (0,0)) (by (with_reducible repeat first|apply blk_drewN|apply blk_drew|apply blk_alloc);exact BK260.out) hb);have n2_:=Aside0.mk (below_step (by repeat (first|(with_reducible first|exact HB.out|apply below_alloc|apply pw_below_drewN|apply below_drew1|refine below_set ?_ GE0.out|refine below_set ?_ GE260.out)|exact HB.out)) hb);clear BK0;clear BK260;clear HB;have BK0:=n0_;have BK260:=n1_;have HB:=n2_;clear n0_ n1_ n2_;(try clear hb);(try clear hb2);(try clear hk);(try clear hi))))
   go_meet
   case rel=>exact ⟨_,(true),(by first|rfl|(simp;done)|(simp [*];done)),H',⟨by first|omega|exact Nat.le_refl _⟩,⟨by (with_reducible repeat first|apply blk_drewN|apply blk_drew|apply blk_alloc);exact BK0.out⟩,⟨by (with_reducible repeat first|apply blk_drewN|apply blk_drew|apply blk_alloc);exact BK260.out⟩,⟨by repeat (first|(with_reducible first|exact HB.out|apply below_alloc|apply pw_below_drewN|apply below_drew1|refine below_set ?_ GE0.out|refine below_set ?_ GE260.out)|exact HB.out)⟩⟩
 case rest =>
  clear HC3
  try clear c1;try clear c2;try clear p2;try clear q2;try clear hx2;try clear qi2;try clear c6;try clear c7;try clear c7b0;try clear c8;try clear c8b0;try clear c9;try clear c9b0;try clear c9b1;try clear c11;try clear hcz12_0;try clear hcz12_1;try clear hcz12_2;try clear hcz12_3;try clear hfz12_0;try clear hfz12_1;try clear hfz12_2;try clear hfz12_3;try clear hx262_0;try clear hx263_0;try clear p262;try clear p263;try clear q262;try clear q263
  obtain ⟨kq,x24_2,rfl,HA,HJ2,BK0,BK260,HB⟩:=hcut
  cases kq with
  | zero=>exact absurd HA.out (by simp [impl_Space_piece.j0])
  | succ kj2 =>
   have H:=HA.out
   clear HA
   simp only [impl_Space_piece.j0] at H
   by_cases c14 : x24_2 = true
   ·subst c14
    have H1 : (some (0,0,(⟨#[]⟩ : ByteArray),false)) = some (r1,r2,r3,r4):=by rw [if_pos rfl] at H;exact H
    clear H
    have H:=H1
    clear H1
    simp only [Option.some.injEq,Prod.mk.injEq] at H
    obtain ⟨rfl,rfl,rfl,rfl⟩:=H
    have hnb15:=NB260_0.out
    have hnc15:=NB0_260.out
    have hcz16_0 : wc.cell? ⟨gb260,0,none⟩ = some (.int .i64 0):=(blk_cell BK260.out 0).trans rfl
    have hcz16_1 : wc.cell? ⟨gb260,1,none⟩ = some (.int .i64 0):=(blk_cell BK260.out 1).trans rfl
    have hcz16_2 : wc.cell? ⟨gb260,2,none⟩ = some (.string (⟨#[]⟩ : ByteArray)):=(blk_cell BK260.out 2).trans rfl
    have hfz16_0:=blk_frozen BK260.out 0
    have hfz16_1:=blk_frozen BK260.out 1
    have hfz16_2:=blk_frozen BK260.out 2
    go_wp2
    repeat (go_quiet (fail);try go_wp2)
    refine bodyPost_ret (results_ct rfl _ _ gb260 80 #[.int .i64 0,.int .i64 0,.string (⟨#[]⟩ : ByteArray)] (0,0) _ rfl (by (with_reducible repeat first|apply blk_drewN|apply blk_drew|apply blk_alloc);refine blk_put (cs:=#[.int .i64 0,.int .i64 0,.string (⟨#[]⟩ : ByteArray)]) ?_ 2 _ rfl;(with_reducible repeat first|apply blk_drewN|apply blk_drew|apply blk_alloc);refine blk_put (cs:=#[.int .i64 0,.int .i64 0,.string (⟨#[]⟩ : ByteArray)]) ?_ 1 _ rfl;(with_reducible repeat first|apply blk_drewN|apply blk_drew|apply blk_alloc);refine blk_put (cs:=#[.int .i64 0,.int .i64 0,.string (⟨#[]⟩ : ByteArray)]) ?_ 0 _ rfl;(with_reducible repeat first|apply blk_drewN|apply blk_drew|apply blk_alloc);exact BK260.out) Try.underlying80 rfl (by kernel_rfl)) rfl ?_
    exact ⟨by first|rfl|(simp [*,errW_none,errW_some] <;> rfl),by repeat (first|(with_reducible first|exact HB.out|apply below_alloc|apply pw_below_drewN|apply below_drew1|refine below_set ?_ GE0.out|refine below_set ?_ GE260.out)|exact HB.out)⟩
   ·replace c14:=Bool.eq_false_iff.mpr c14
    subst c14
    have H1 : (if 0 ≤ a1 then (if a1 < (l0_0.length : Int) then (if 1 < ((rd_L1 l0_0 a1).length : Int) then (if 2 < ((rd_L1 l0_0 a1).length : Int) then ((impl_within.f (wrap64 (rd (rd_L1 l0_0 a1) 1)) 1 250).bind fun t267=>(if t267 = true then ((impl_within.f (wrap64 (rd (rd_L1 l0_0 a1) 2)) 1 40).bind fun t268=>(if t268 = true then (if 0 ≤ (wrap64 (3 + (wrap64 (rd (rd_L1 l0_0 a1) 2)))) then (if (wrap64 (3 + (wrap64 (rd (rd_L1 l0_0 a1) 2)))) ≤ ((rd_L1 l0_0 a1).length : Int) then ((slices_ContainsFunc_byte_byte_87.f kj2 ((rd_L1 l0_0 a1).drop ((wrap64 (3 + (wrap64 (rd (rd_L1 l0_0 a1) 2)))) : Int).toNat) ()).bind fun t270=>(if t270 = true then (some (0,0,(⟨#[]⟩ : ByteArray),false)) else (if 3 ≤ (wrap64 (3 + (wrap64 (rd (rd_L1 l0_0 a1) 2)))) then (some (a1,wrap64 (rd (rd_L1 l0_0 a1) 1),strOfNums (((rd_L1 l0_0 a1).take ((wrap64 (3 + (wrap64 (rd (rd_L1 l0_0 a1) 2)))) : Int).toNat).drop 3),true)) else (none)))) else (none)) else (none)) else (some (0,0,(⟨#[]⟩ : ByteArray),false)))) else (some (0,0,(⟨#[]⟩ : ByteArray),false)))) else (none)) else (none)) else (none)) else (none)) = some (r1,r2,r3,r4):=by rw [if_neg (show ¬ (false = true) by decide)] at H;exact H
    clear H
    have H:=H1
    clear H1
    by_cases c17 : 0 ≤ a1
    ·rw [if_pos c17] at H
     have c17b0 : decide (0 ≤ a1) = true:=decide_eq_true c17
     clear c17
     by_cases c18 : a1 < (l0_0.length : Int)
     ·rw [if_pos c18] at H
      have c18b0 : decide (a1 < (l0_0.length : Int)) = true:=decide_eq_true c18
      clear c18
      by_cases c19 : 1 < ((rd_L1 l0_0 a1).length : Int)
      ·rw [if_pos c19] at H
       have c19b0 : decide (1 < ((rd_L1 l0_0 a1).length : Int)) = true:=decide_eq_true c19
       have c19b1 : decide (1 < (rd_L1 l0_0 a1).length) = true:=decide_eq_true (by omega)
       clear c19
       by_cases c20 : 2 < ((rd_L1 l0_0 a1).length : Int)
       ·rw [if_pos c20] at H
        have c20b0 : decide (2 < ((rd_L1 l0_0 a1).length : Int)) = true:=decide_eq_true c20
        have c20b1 : decide (2 < (rd_L1 l0_0 a1).length) = true:=decide_eq_true (by omega)
        clear c20
        replace H:=Option.bind_eq_some_iff.mp H
        obtain ⟨t267,A210,H⟩:=H
        replace H : (if t267 = true then ((impl_within.f (wrap64 (rd (rd_L1 l0_0 a1) 2)) 1 40).bind fun t268=>(if t268 = true then (if 0 ≤ (wrap64 (3 + (wrap64 (rd (rd_L1 l0_0 a1) 2)))) then (if (wrap64 (3 + (wrap64 (rd (rd_L1 l0_0 a1) 2)))) ≤ ((rd_L1 l0_0 a1).length : Int) then ((slices_ContainsFunc_byte_byte_87.f kj2 ((rd_L1 l0_0 a1).drop ((wrap64 (3 + (wrap64 (rd (rd_L1 l0_0 a1) 2)))) : Int).toNat) ()).bind fun t270=>(if t270 = true then (some (0,0,(⟨#[]⟩ : ByteArray),false)) else (if 3 ≤ (wrap64 (3 + (wrap64 (rd (rd_L1 l0_0 a1) 2)))) then (some (a1,wrap64 (rd (rd_L1 l0_0 a1) 1),strOfNums (((rd_L1 l0_0 a1).take ((wrap64 (3 + (wrap64 (rd (rd_L1 l0_0 a1) 2)))) : Int).toNat).drop 3),true)) else (none)))) else (none)) else (none)) else (some (0,0,(⟨#[]⟩ : ByteArray),false)))) else (some (0,0,(⟨#[]⟩ : ByteArray),false))) = some (r1,r2,r3,r4):=H
        have A21:=Aside0.mk A210
        clear A210
        by_cases c22 : t267 = true
        ·subst c22
         have H1 : ((impl_within.f (wrap64 (rd (rd_L1 l0_0 a1) 2)) 1 40).bind fun t268=>(if t268 = true then (if 0 ≤ (wrap64 (3 + (wrap64 (rd (rd_L1 l0_0 a1) 2)))) then (if (wrap64 (3 + (wrap64 (rd (rd_L1 l0_0 a1) 2)))) ≤ ((rd_L1 l0_0 a1).length : Int) then ((slices_ContainsFunc_byte_byte_87.f kj2 ((rd_L1 l0_0 a1).drop ((wrap64 (3 + (wrap64 (rd (rd_L1 l0_0 a1) 2)))) : Int).toNat) ()).bind fun t270=>(if t270 = true then (some (0,0,(⟨#[]⟩ : ByteArray),false)) else (if 3 ≤ (wrap64 (3 + (wrap64 (rd (rd_L1 l0_0 a1) 2)))) then (some (a1,wrap64 (rd (rd_L1 l0_0 a1) 1),strOfNums (((rd_L1 l0_0 a1).take ((wrap64 (3 + (wrap64 (rd (rd_L1 l0_0 a1) 2)))) : Int).toNat).drop 3),true)) else (none)))) else (none)) else (none)) else (some (0,0,(⟨#[]⟩ : ByteArray),false)))) = some (r1,r2,r3,r4):=by rw [if_pos rfl] at H;exact H
         clear H
         have H:=H1
         clear H1
         replace H:=Option.bind_eq_some_iff.mp H
         obtain ⟨t268,A230,H⟩:=H
         replace H : (if t268 = true then (if 0 ≤ (wrap64 (3 + (wrap64 (rd (rd_L1 l0_0 a1) 2)))) then (if (wrap64 (3 + (wrap64 (rd (rd_L1 l0_0 a1) 2)))) ≤ ((rd_L1 l0_0 a1).length : Int) then ((slices_ContainsFunc_byte_byte_87.f kj2 ((rd_L1 l0_0 a1).drop ((wrap64 (3 + (wrap64 (rd (rd_L1 l0_0 a1) 2)))) : Int).toNat) ()).bind fun t270=>(if t270 = true then (some (0,0,(⟨#[]⟩ : ByteArray),false)) else (if 3 ≤ (wrap64 (3 + (wrap64 (rd (rd_L1 l0_0 a1) 2)))) then (some (a1,wrap64 (rd (rd_L1 l0_0 a1) 1),strOfNums (((rd_L1 l0_0 a1).take ((wrap64 (3 + (wrap64 (rd (rd_L1 l0_0 a1) 2)))) : Int).toNat).drop 3),true)) else (none)))) else (none)) else (none)) else (some (0,0,(⟨#[]⟩ : ByteArray),false))) = some (r1,r2,r3,r4):=H
         have A23:=Aside0.mk A230
         clear A230
         by_cases c24 : t268 = true
         ·subst c24
          have H1 : (if 0 ≤ (wrap64 (3 + (wrap64 (rd (rd_L1 l0_0 a1) 2)))) then (if (wrap64 (3 + (wrap64 (rd (rd_L1 l0_0 a1) 2)))) ≤ ((rd_L1 l0_0 a1).length : Int) then ((slices_ContainsFunc_byte_byte_87.f kj2 ((rd_L1 l0_0 a1).drop ((wrap64 (3 + (wrap64 (rd (rd_L1 l0_0 a1) 2)))) : Int).toNat) ()).bind fun t270=>(if t270 = true then (some (0,0,(⟨#[]⟩ : ByteArray),false)) else (if 3 ≤ (wrap64 (3 + (wrap64 (rd (rd_L1 l0_0 a1) 2)))) then (some (a1,wrap64 (rd (rd_L1 l0_0 a1) 1),strOfNums (((rd_L1 l0_0 a1).take ((wrap64 (3 + (wrap64 (rd (rd_L1 l0_0 a1) 2)))) : Int).toNat).drop 3),true)) else (none)))) else (none)) else (none)) = some (r1,r2,r3,r4):=by rw [if_pos rfl] at H;exact H
          clear H
          have H:=H1
          clear H1
          obtain ⟨ji25,hji25⟩ : ∃ j_ : Int,(wrap64 (3 + (wrap64 (rd (rd_L1 l0_0 a1) 2)))) = j_:=⟨_,rfl⟩
          replace H : (if 0 ≤ (ji25) then (if (ji25) ≤ ((rd_L1 l0_0 a1).length : Int) then ((slices_ContainsFunc_byte_byte_87.f kj2 ((rd_L1 l0_0 a1).drop ((ji25) : Int).toNat) ()).bind fun t270=>(if t270 = true then (some (0,0,(⟨#[]⟩ : ByteArray),false)) else (if 3 ≤ (ji25) then (some (a1,wrap64 (rd (rd_L1 l0_0 a1) 1),strOfNums (((rd_L1 l0_0 a1).take ((ji25) : Int).toNat).drop 3),true)) else (none)))) else (none)) else (none)) = some (r1,r2,r3,r4):=by first|(rw [hji25] at H;exact H)|(simp only [hji25] at H ⊢;exact H)
          (try rw [hji25] at A21)
          (try rw [hji25] at A23)
          have hji25w : (IntKind.i64.wrap (3 + (wrap64 (rd (rd_L1 l0_0 a1) 2)))) = ji25:=(i64_w _).trans hji25
          by_cases c26 : 0 ≤ (ji25)
          ·rw [if_pos c26] at H
           have c26b0:=eq_true c26
           have c26b1 : decide (0 ≤ (ji25)) = true:=decide_eq_true c26
           clear c26
           by_cases c27 : (ji25) ≤ ((rd_L1 l0_0 a1).length : Int)
           ·rw [if_pos c27] at H
            have c27b0:=eq_true c27
            have c27b1 : decide ((ji25) ≤ ((rd_L1 l0_0 a1).length : Int)) = true:=decide_eq_true c27
            clear c27
            replace H:=Option.bind_eq_some_iff.mp H
            obtain ⟨t270,A280,H⟩:=H
            replace H : (if t270 = true then (some (0,0,(⟨#[]⟩ : ByteArray),false)) else (if 3 ≤ (ji25) then (some (a1,wrap64 (rd (rd_L1 l0_0 a1) 1),strOfNums (((rd_L1 l0_0 a1).take ((ji25) : Int).toNat).drop 3),true)) else (none))) = some (r1,r2,r3,r4):=H
            have A28:=Aside0.mk A280
            clear A280
            by_cases c29 : t270 = true
            ·subst c29
             have H1 : (some (0,0,(⟨#[]⟩ : ByteArray),false)) = some (r1,r2,r3,r4):=by rw [if_pos rfl] at H;exact H
             clear H
             have H:=H1
             clear H1
             simp only [Option.some.injEq,Prod.mk.injEq] at H
             obtain ⟨rfl,rfl,rfl,rfl⟩:=H
             have hnb30:=NB0_260.out
             have hnc30:=NB260_0.out
             have hcz31_0 : wc.cell? ⟨g0_,0,none⟩ = some (.slice A0_0 l0_0.length c0_0):=(blk_cell BK0.out 0).trans rfl
             have hcz31_1 : wc.cell? ⟨g0_,1,none⟩ = some (.slice A0_1 l0_1.length c0_1):=(blk_cell BK0.out 1).trans rfl
             have hcz31_2 : wc.cell? ⟨g0_,2,none⟩ = some (.slice A0_2 l0_2.length c0_2):=(blk_cell BK0.out 2).trans rfl
             have hcz31_3 : wc.cell? ⟨g0_,3,none⟩ = some (.slice A0_3 l0_3.length c0_3):=(blk_cell BK0.out 3).trans rfl
             have hfz31_0:=blk_frozen BK0.out 0
             have hfz31_1:=blk_frozen BK0.out 1
             have hfz31_2:=blk_frozen BK0.out 2
             have hfz31_3:=blk_frozen BK0.out 3
             have p264 : 0 ≤ (a1 : Int):=of_decide_eq_true (by assumption)
             have q264 : a1 < (l0_0.length : Int):=of_decide_eq_true (by assumption)
             obtain ⟨ad264,A264_0,c264_0,e264,hx264_0,hl264_0,hi264_0⟩:=at_L1 HR0_0.out a1 p264 q264
             cases e264
             (try replace hx264_0:=(HB.out.cell (World.block_lt_of_cell? w _ hx264_0)).trans hx264_0)
             have HR264_0:=Aside0.mk hi264_0
             have HC264_0:=Aside0.mk hl264_0
             clear hi264_0 hl264_0
             replace p264:=eq_true p264
             replace q264:=eq_true q264
             have p265 : 0 ≤ (1 : Int):=(by omega)
             have q265 : 1 < ((rd_L1 l0_0 a1).length : Int):=of_decide_eq_true (by assumption)
             obtain ⟨ad265,e265,hx265_0⟩:=Kd.at_int HR264_0.out 1 p265 q265
             cases e265
             (try simp only [show (1 : Int).toNat = 1 from rfl,Nat.reduceMul,Nat.reduceEqDiff,Go.Addr.add,↓reduceIte] at hx265_0)
             have qi265 : (1 < (rd_L1 l0_0 a1).length) = True:=eq_true (by omega)
             (try rw [show ((1 : Int)).toNat = 1 from rfl] at hx265_0)
             (try replace hx265_0:=(HB.out.cell (World.block_lt_of_cell? w _ hx265_0)).trans hx265_0)
             replace p265:=eq_true p265
             replace q265:=eq_true q265
             have p266 : 0 ≤ (2 : Int):=(by omega)
             have q266 : 2 < ((rd_L1 l0_0 a1).length : Int):=of_decide_eq_true (by assumption)
             obtain ⟨ad266,e266,hx266_0⟩:=Kd.at_int HR264_0.out 2 p266 q266
             obtain rfl : ad265 = ad266:=(by injection e266)
             (try simp only [show (2 : Int).toNat = 2 from rfl,Nat.reduceMul,Nat.reduceEqDiff,Go.Addr.add,↓reduceIte] at hx266_0)
             have qi266 : (2 < (rd_L1 l0_0 a1).length) = True:=eq_true (by omega)
             (try rw [show ((2 : Int)).toNat = 2 from rfl] at hx266_0)
             (try replace hx266_0:=(HB.out.cell (World.block_lt_of_cell? w _ hx266_0)).trans hx266_0)
             replace p266:=eq_true p266
             replace q266:=eq_true q266
             go_wp2_with (first|(go_at_call 72;(with_reducible refine (impl_within.calls (wrap64 (rd (rd_L1 l0_0 a1) 1)) 1 250 true _ A21.out).mono ?_);rintro e w' ⟨rfl,⟨nd,rfl⟩⟩;(try first|exact ⟨rfl,_,World.drewN_drewN _ _ _⟩|exact ⟨rfl,_,Eq.trans (World.drewN_drewN _ _ _) (congrArg (World.drewN _) (Nat.add_assoc _ _ _))⟩))|(go_at_call 72;(with_reducible refine (impl_within.calls (wrap64 (rd (rd_L1 l0_0 a1) 2)) 1 40 true _ A23.out).mono ?_);rintro e w' ⟨rfl,⟨nd,rfl⟩⟩;(try first|exact ⟨rfl,_,World.drewN_drewN _ _ _⟩|exact ⟨rfl,_,Eq.trans (World.drewN_drewN _ _ _) (congrArg (World.drewN _) (Nat.add_assoc _ _ _))⟩);obtain ⟨i032,hi032,_,hsz32,_⟩:=info_parts info5;obtain ⟨A32,hcut32,hA32,hC32⟩:=print_drop_of (P:=Try.prog) (Value.int .u8) 0 23 5 .i64 Try.underlying23 hi032 hsz32 (some ad265) c264_0 (rd_L1 l0_0 a1) (ji25) (of_decide_eq_true (by assumption)) (of_decide_eq_true (by assumption)) HC264_0.out;have HR269:=Aside0.mk (Kd.C_of_reads (h1:=fun _=>rfl) (hA32 _ (Kd.reads_of_C HR264_0.out)));have HC269:=Aside0.mk hC32;clear hA32 hC32 hi032 hsz32)|(go_at_call 64;refine calls_of_args (args':=#[.slice A32 ((rd_L1 l0_0 a1).drop ((ji25) : Int).toNat).length (c264_0 - (ji25).toNat),.func (.func 87) #[] #[]]) (by first|rfl|(rw [show ((rd_L1 l0_0 a1).drop ((ji25) : Int).toNat).length = ((rd_L1 l0_0 a1).length - (ji25).toNat) from List.length_drop] <;> rfl)|(simp only [hji25];rfl)|(simp only [List.length_drop,List.length_take];done)|(simp only [List.length_drop,List.length_take];rfl)) ?_;(with_reducible refine (slices_ContainsFunc_byte_byte_87.calls kj2 _ _ ((rd_L1 l0_0 a1).drop ((ji25) : Int).toNat) () true _ ?side1 ?side2 A28.out).mono ?_);(case side1=>repeat (first|exact (Kd.C_below HR269.out (by repeat (first|(with_reducible first|exact HB.out|apply below_alloc|apply pw_below_drewN|apply below_drew1|refine below_set ?_ GE0.out|refine below_set ?_ GE260.out)|exact HB.out)))|(with_reducible first|apply Kd.C_alloc|apply Kd.C_drewN|apply Kd.C_drew)));(case side2=>exact HC269.out);rintro e w' ⟨rfl,⟨nd,rfl⟩⟩;(try first|exact ⟨rfl,_,World.drewN_drewN _ _ _⟩|exact ⟨rfl,_,Eq.trans (World.drewN_drewN _ _ _) (congrArg (World.drewN _) (Nat.add_assoc _ _ _))⟩);have hcz33_0 : wc.cell? ⟨gb260,0,none⟩ = some (.int .i64 0):=(blk_cell BK260.out 0).trans rfl;have hcz33_1 : wc.cell? ⟨gb260,1,none⟩ = some (.int .i64 0):=(blk_cell BK260.out 1).trans rfl;have hcz33_2 : wc.cell? ⟨gb260,2,none⟩ = some (.string (⟨#[]⟩ : ByteArray)):=(blk_cell BK260.out 2).trans rfl;have hfz33_0:=blk_frozen BK260.out 0;have hfz33_1:=blk_frozen BK260.out 1;have hfz33_2:=blk_frozen BK260.out 2))
             have hwq : ∀ n,IntKind.i64.wrap n = wrap64 n:=fun n=>by rw [IntKind.wrap_i64];unfold wrap64;first|rfl|omega
             repeat (go_quiet (first|(go_at_call 72;(with_reducible refine (impl_within.calls (wrap64 (rd (rd_L1 l0_0 a1) 1)) 1 250 true _ A21.out).mono ?_);rintro e w' ⟨rfl,⟨nd,rfl⟩⟩;(try first|exact ⟨rfl,_,World.drewN_drewN _ _ _⟩|exact ⟨rfl,_,Eq.trans (World.drewN_drewN _ _ _) (congrArg (World.drewN _) (Nat.add_assoc _ _ _))⟩))|(go_at_call 72;(with_reducible refine (impl_within.calls (wrap64 (rd (rd_L1 l0_0 a1) 2)) 1 40 true _ A23.out).mono ?_);rintro e w' ⟨rfl,⟨nd,rfl⟩⟩;(try first|exact ⟨rfl,_,World.drewN_drewN _ _ _⟩|exact ⟨rfl,_,Eq.trans (World.drewN_drewN _ _ _) (congrArg (World.drewN _) (Nat.add_assoc _ _ _))⟩);obtain ⟨i032,hi032,_,hsz32,_⟩:=info_parts info5;obtain ⟨A32,hcut32,hA32,hC32⟩:=print_drop_of (P:=Try.prog) (Value.int .u8) 0 23 5 .i64 Try.underlying23 hi032 hsz32 (some ad265) c264_0 (rd_L1 l0_0 a1) (ji25) (of_decide_eq_true (by assumption)) (of_decide_eq_true (by assumption)) HC264_0.out;have HR269:=Aside0.mk (Kd.C_of_reads (h1:=fun _=>rfl) (hA32 _ (Kd.reads_of_C HR264_0.out)));have HC269:=Aside0.mk hC32;clear hA32 hC32 hi032 hsz32)|(go_at_call 64;refine calls_of_args (args':=#[.slice A32 ((rd_L1 l0_0 a1).drop ((ji25) : Int).toNat).length (c264_0 - (ji25).toNat),.func (.func 87) #[] #[]]) (by first|rfl|(rw [show ((rd_L1 l0_0 a1).drop ((ji25) : Int).toNat).length = ((rd_L1 l0_0 a1).length - (ji25).toNat) from List.length_drop] <;> rfl)|(simp only [hji25];rfl)|(simp only [List.length_drop,List.length_take];done)|(simp only [List.length_drop,List.length_take];rfl)) ?_;(with_reducible refine (slices_ContainsFunc_byte_byte_87.calls kj2 _ _ ((rd_L1 l0_0 a1).drop ((ji25) : Int).toNat) () true _ ?side1 ?side2 A28.out).mono ?_);(case side1=>repeat (first|exact (Kd.C_below HR269.out (by repeat (first|(with_reducible first|exact HB.out|apply below_alloc|apply pw_below_drewN|apply below_drew1|refine below_set ?_ GE0.out|refine below_set ?_ GE260.out)|exact HB.out)))|(with_reducible first|apply Kd.C_alloc|apply Kd.C_drewN|apply Kd.C_drew)));(case side2=>exact HC269.out);rintro e w' ⟨rfl,⟨nd,rfl⟩⟩;(try first|exact ⟨rfl,_,World.drewN_drewN _ _ _⟩|exact ⟨rfl,_,Eq.trans (World.drewN_drewN _ _ _) (congrArg (World.drewN _) (Nat.add_assoc _ _ _))⟩);have hcz33_0 : wc.cell? ⟨gb260,0,none⟩ = some (.int .i64 0):=(blk_cell BK260.out 0).trans rfl;have hcz33_1 : wc.cell? ⟨gb260,1,none⟩ = some (.int .i64 0):=(blk_cell BK260.out 1).trans rfl;have hcz33_2 : wc.cell? ⟨gb260,2,none⟩ = some (.string (⟨#[]⟩ : ByteArray)):=(blk_cell BK260.out 2).trans rfl;have hfz33_0:=blk_frozen BK260.out 0;have hfz33_1:=blk_frozen BK260.out 1;have hfz33_2:=blk_frozen BK260.out 2));try go_wp2_with (first|(go_at_call 72;(with_reducible refine (impl_within.calls (wrap64 (rd (rd_L1 l0_0 a1) 1)) 1 250 true _ A21.out).mono ?_);rintro e w' ⟨rfl,⟨nd,rfl⟩⟩;(try first|exact ⟨rfl,_,World.drewN_drewN _ _ _⟩|exact ⟨rfl,_,Eq.trans (World.drewN_drewN _ _ _) (congrArg (World.drewN _) (Nat.add_assoc _ _ _))⟩))|(go_at_call 72;(with_reducible refine (impl_within.calls (wrap64 (rd (rd_L1 l0_0 a1) 2)) 1 40 true _ A23.out).mono ?_);rintro e w' ⟨rfl,⟨nd,rfl⟩⟩;(try first|exact ⟨rfl,_,World.drewN_drewN _ _ _⟩|exact ⟨rfl,_,Eq.trans (World.drewN_drewN _ _ _) (congrArg (World.drewN _) (Nat.add_assoc _ _ _))⟩);obtain ⟨i032,hi032,_,hsz32,_⟩:=info_parts info5;obtain ⟨A32,hcut32,hA32,hC32⟩:=print_drop_of (P:=Try.prog) (Value.int .u8) 0 23 5 .i64 Try.underlying23 hi032 hsz32 (some ad265) c264_0 (rd_L1 l0_0 a1) (ji25) (of_decide_eq_true (by assumption)) (of_decide_eq_true (by assumption)) HC264_0.out;have HR269:=Aside0.mk (Kd.C_of_reads (h1:=fun _=>rfl) (hA32 _ (Kd.reads_of_C HR264_0.out)));have HC269:=Aside0.mk hC32;clear hA32 hC32 hi032 hsz32)|(go_at_call 64;refine calls_of_args (args':=#[.slice A32 ((rd_L1 l0_0 a1).drop ((ji25) : Int).toNat).length (c264_0 - (ji25).toNat),.func (.func 87) #[] #[]]) (by first|rfl|(rw [show ((rd_L1 l0_0 a1).drop ((ji25) : Int).toNat).length = ((rd_L1 l0_0 a1).length - (ji25).toNat) from List.length_drop] <;> rfl)|(simp only [hji25];rfl)|(simp only [List.length_drop,List.length_take];done)|(simp only [List.length_drop,List.length_take];rfl)) ?_;(with_reducible refine (slices_ContainsFunc_byte_byte_87.calls kj2 _ _ ((rd_L1 l0_0 a1).drop ((ji25) : Int).toNat) () true _ ?side1 ?side2 A28.out).mono ?_);(case side1=>repeat (first|exact (Kd.C_below HR269.out (by repeat (first|(with_reducible first|exact HB.out|apply below_alloc|apply pw_below_drewN|apply below_drew1|refine below_set ?_ GE0.out|refine below_set ?_ GE260.out)|exact HB.out)))|(with_reducible first|apply Kd.C_alloc|apply Kd.C_drewN|apply Kd.C_drew)));(case side2=>exact HC269.out);rintro e w' ⟨rfl,⟨nd,rfl⟩⟩;(try first|exact ⟨rfl,_,World.drewN_drewN _ _ _⟩|exact ⟨rfl,_,Eq.trans (World.drewN_drewN _ _ _) (congrArg (World.drewN _) (Nat.add_assoc _ _ _))⟩);have hcz33_0 : wc.cell? ⟨gb260,0,none⟩ = some (.int .i64 0):=(blk_cell BK260.out 0).trans rfl;have hcz33_1 : wc.cell? ⟨gb260,1,none⟩ = some (.int .i64 0):=(blk_cell BK260.out 1).trans rfl;have hcz33_2 : wc.cell? ⟨gb260,2,none⟩ = some (.string (⟨#[]⟩ : ByteArray)):=(blk_cell BK260.out 2).trans rfl;have hfz33_0:=blk_frozen BK260.out 0;have hfz33_1:=blk_frozen BK260.out 1;have hfz33_2:=blk_frozen BK260.out 2)))
             refine bodyPost_ret (results_ct rfl _ _ gb260 80 #[.int .i64 0,.int .i64 0,.string (⟨#[]⟩ : ByteArray)] (0,0) _ rfl (by (with_reducible repeat first|apply blk_drewN|apply blk_drew|apply blk_alloc);refine blk_put (cs:=#[.int .i64 0,.int .i64 0,.string (⟨#[]⟩ : ByteArray)]) ?_ 2 _ rfl;(with_reducible repeat first|apply blk_drewN|apply blk_drew|apply blk_alloc);refine blk_put (cs:=#[.int .i64 0,.int .i64 0,.string (⟨#[]⟩ : ByteArray)]) ?_ 1 _ rfl;(with_reducible repeat first|apply blk_drewN|apply blk_drew|apply blk_alloc);refine blk_put (cs:=#[.int .i64 0,.int .i64 0,.string (⟨#[]⟩ : ByteArray)]) ?_ 0 _ rfl;(with_reducible repeat first|apply blk_drewN|apply blk_drew|apply blk_alloc);exact BK260.out) Try.underlying80 rfl (by kernel_rfl)) rfl ?_
             exact ⟨by first|rfl|(simp [errW_none,errW_some] <;> rfl)|(simp only [← hji25];first|rfl|(simp [errW_none,errW_some] <;> rfl))|(simp [*,errW_none,errW_some] <;> rfl),by repeat (first|(with_reducible first|exact HB.out|apply below_alloc|apply pw_below_drewN|apply below_drew1|refine below_set ?_ GE0.out|refine below_set ?_ GE260.out)|exact HB.out)⟩
            ·replace c29:=Bool.eq_false_iff.mpr c29
             subst c29
             have H1 : (if 3 ≤ (ji25) then (some (a1,wrap64 (rd (rd_L1 l0_0 a1) 1),strOfNums (((rd_L1 l0_0 a1).take ((ji25) : Int).toNat).drop 3),true)) else (none)) = some (r1,r2,r3,r4):=by rw [if_neg (show ¬ (false = true) by decide)] at H;exact H
             clear H
             have H:=H1
             clear H1
             by_cases c34 : 3 ≤ (ji25)
             ·rw [if_pos c34] at H
              have c34b0:=eq_true c34
              have c34b1 : decide (3 ≤ (ji25)) = true:=decide_eq_true c34
              clear c34
              have c35b0:=eq_true (of_decide_eq_true (by assumption) : (ji25) ≤ ((rd_L1 l0_0 a1).length : Int))
              simp only [Option.some.injEq,Prod.mk.injEq] at H
              obtain ⟨rfl,rfl,rfl,rfl⟩:=H
              have hnb36:=NB0_260.out
              have hnc36:=NB260_0.out
              have hcz37_0 : wc.cell? ⟨g0_,0,none⟩ = some (.slice A0_0 l0_0.length c0_0):=(blk_cell BK0.out 0).trans rfl
              have hcz37_1 : wc.cell? ⟨g0_,1,none⟩ = some (.slice A0_1 l0_1.length c0_1):=(blk_cell BK0.out 1).trans rfl
              have hcz37_2 : wc.cell? ⟨g0_,2,none⟩ = some (.slice A0_2 l0_2.length c0_2):=(blk_cell BK0.out 2).trans rfl
              have hcz37_3 : wc.cell? ⟨g0_,3,none⟩ = some (.slice A0_3 l0_3.length c0_3):=(blk_cell BK0.out 3).trans rfl
              have hfz37_0:=blk_frozen BK0.out 0
              have hfz37_1:=blk_frozen BK0.out 1
              have hfz37_2:=blk_frozen BK0.out 2
              have hfz37_3:=blk_frozen BK0.out 3
              have p264 : 0 ≤ (a1 : Int):=of_decide_eq_true (by assumption)
              have q264 : a1 < (l0_0.length : Int):=of_decide_eq_true (by assumption)
              obtain ⟨ad264,A264_0,c264_0,e264,hx264_0,hl264_0,hi264_0⟩:=at_L1 HR0_0.out a1 p264 q264
              cases e264
              (try replace hx264_0:=(HB.out.cell (World.block_lt_of_cell? w _ hx264_0)).trans hx264_0)
              have HR264_0:=Aside0.mk hi264_0
              have HC264_0:=Aside0.mk hl264_0
              clear hi264_0 hl264_0
              replace p264:=eq_true p264
              replace q264:=eq_true q264
              have p265 : 0 ≤ (1 : Int):=(by omega)
              have q265 : 1 < ((rd_L1 l0_0 a1).length : Int):=of_decide_eq_true (by assumption)
              obtain ⟨ad265,e265,hx265_0⟩:=Kd.at_int HR264_0.out 1 p265 q265
              cases e265
              (try simp only [show (1 : Int).toNat = 1 from rfl,Nat.reduceMul,Nat.reduceEqDiff,Go.Addr.add,↓reduceIte] at hx265_0)
              have qi265 : (1 < (rd_L1 l0_0 a1).length) = True:=eq_true (by omega)
              (try rw [show ((1 : Int)).toNat = 1 from rfl] at hx265_0)
              (try replace hx265_0:=(HB.out.cell (World.block_lt_of_cell? w _ hx265_0)).trans hx265_0)
              replace p265:=eq_true p265
              replace q265:=eq_true q265
              have p266 : 0 ≤ (2 : Int):=(by omega)
              have q266 : 2 < ((rd_L1 l0_0 a1).length : Int):=of_decide_eq_true (by assumption)
              obtain ⟨ad266,e266,hx266_0⟩:=Kd.at_int HR264_0.out 2 p266 q266
              obtain rfl : ad265 = ad266:=(by injection e266)
              (try simp only [show (2 : Int).toNat = 2 from rfl,Nat.reduceMul,Nat.reduceEqDiff,Go.Addr.add,↓reduceIte] at hx266_0)
              have qi266 : (2 < (rd_L1 l0_0 a1).length) = True:=eq_true (by omega)
              (try rw [show ((2 : Int)).toNat = 2 from rfl] at hx266_0)
              (try replace hx266_0:=(HB.out.cell (World.block_lt_of_cell? w _ hx266_0)).trans hx266_0)
              replace p266:=eq_true p266
              replace q266:=eq_true q266
              go_wp2_with (first|(go_at_call 72;(with_reducible refine (impl_within.calls (wrap64 (rd (rd_L1 l0_0 a1) 1)) 1 250 true _ A21.out).mono ?_);rintro e w' ⟨rfl,⟨nd,rfl⟩⟩;(try first|exact ⟨rfl,_,World.drewN_drewN _ _ _⟩|exact ⟨rfl,_,Eq.trans (World.drewN_drewN _ _ _) (congrArg (World.drewN _) (Nat.add_assoc _ _ _))⟩))|(go_at_call 72;(with_reducible refine (impl_within.calls (wrap64 (rd (rd_L1 l0_0 a1) 2)) 1 40 true _ A23.out).mono ?_);rintro e w' ⟨rfl,⟨nd,rfl⟩⟩;(try first|exact ⟨rfl,_,World.drewN_drewN _ _ _⟩|exact ⟨rfl,_,Eq.trans (World.drewN_drewN _ _ _) (congrArg (World.drewN _) (Nat.add_assoc _ _ _))⟩);obtain ⟨i038,hi038,_,hsz38,_⟩:=info_parts info5;obtain ⟨A38,hcut38,hA38,hC38⟩:=print_drop_of (P:=Try.prog) (Value.int .u8) 0 23 5 .i64 Try.underlying23 hi038 hsz38 (some ad265) c264_0 (rd_L1 l0_0 a1) (ji25) (of_decide_eq_true (by assumption)) (of_decide_eq_true (by assumption)) HC264_0.out;have HR269:=Aside0.mk (Kd.C_of_reads (h1:=fun _=>rfl) (hA38 _ (Kd.reads_of_C HR264_0.out)));have HC269:=Aside0.mk hC38;clear hA38 hC38 hi038 hsz38)|(go_at_call 64;refine calls_of_args (args':=#[.slice A38 ((rd_L1 l0_0 a1).drop ((ji25) : Int).toNat).length (c264_0 - (ji25).toNat),.func (.func 87) #[] #[]]) (by first|rfl|(rw [show ((rd_L1 l0_0 a1).drop ((ji25) : Int).toNat).length = ((rd_L1 l0_0 a1).length - (ji25).toNat) from List.length_drop] <;> rfl)|(simp only [hji25];rfl)|(simp only [List.length_drop,List.length_take];done)|(simp only [List.length_drop,List.length_take];rfl)) ?_;(with_reducible refine (slices_ContainsFunc_byte_byte_87.calls kj2 _ _ ((rd_L1 l0_0 a1).drop ((ji25) : Int).toNat) () false _ ?side1 ?side2 A28.out).mono ?_);(case side1=>repeat (first|exact (Kd.C_below HR269.out (by repeat (first|(with_reducible first|exact HB.out|apply below_alloc|apply pw_below_drewN|apply below_drew1|refine below_set ?_ GE0.out|refine below_set ?_ GE260.out)|exact HB.out)))|(with_reducible first|apply Kd.C_alloc|apply Kd.C_drewN|apply Kd.C_drew)));(case side2=>exact HC269.out);rintro e w' ⟨rfl,⟨nd,rfl⟩⟩;(try first|exact ⟨rfl,_,World.drewN_drewN _ _ _⟩|exact ⟨rfl,_,Eq.trans (World.drewN_drewN _ _ _) (congrArg (World.drewN _) (Nat.add_assoc _ _ _))⟩);obtain ⟨i039,hi039,_,hsz39,_⟩:=info_parts info5;obtain ⟨A39,hcut39,hA39,hC39⟩:=print_mid_of (P:=Try.prog) (Value.int .u8) 0 23 5 .i64 .i64 Try.underlying23 hi039 hsz39 (some ad265) c264_0 (rd_L1 l0_0 a1) 3 (ji25) (by omega) (by first|omega|exact of_decide_eq_true (by assumption)) (of_decide_eq_true (by assumption)) HC264_0.out;have HR271:=Aside0.mk (Kd.C_of_reads (h1:=fun _=>rfl) (hA39 _ (Kd.reads_of_C HR264_0.out)));have HC271:=Aside0.mk hC39;clear hA39 hC39 hi039 hsz39;have hcv40:=Kd.C_string (P:=Try.prog) (A:=A39) (c:=(c264_0 - 3)) Try.underlying23 Try.underlying5 Try.underlying9 (Kd.C_below HR271.out HB.out);have hcvq40:=fun nq_ : Nat=>Kd.C_string (P:=Try.prog) (A:=A39) (c:=(c264_0 - 3)) Try.underlying23 Try.underlying5 Try.underlying9 (Kd.C_drewN (Kd.C_below HR271.out HB.out) nq_);(try simp only [Int.reduceToNat] at hcut39 hcv40 hcvq40);(try rw [show (((rd_L1 l0_0 a1).take ((ji25) : Int).toNat).drop 3).length = ((ji25).toNat - 3) from (by rw [List.length_drop,List.length_take];have h_ : ((ji25) : Int) ≤ ((rd_L1 l0_0 a1).length : Int):=of_decide_eq_true (by assumption);omega)] at hcv40);(try simp only [show (((rd_L1 l0_0 a1).take ((ji25) : Int).toNat).drop 3).length = ((ji25).toNat - 3) from (by rw [List.length_drop,List.length_take];have h_ : ((ji25) : Int) ≤ ((rd_L1 l0_0 a1).length : Int):=of_decide_eq_true (by assumption);omega)] at hcvq40);have hcz41_0 : wc.cell? ⟨gb260,0,none⟩ = some (.int .i64 0):=(blk_cell BK260.out 0).trans rfl;have hcz41_1 : wc.cell? ⟨gb260,1,none⟩ = some (.int .i64 0):=(blk_cell BK260.out 1).trans rfl;have hcz41_2 : wc.cell? ⟨gb260,2,none⟩ = some (.string (⟨#[]⟩ : ByteArray)):=(blk_cell BK260.out 2).trans rfl;have hfz41_0:=blk_frozen BK260.out 0;have hfz41_1:=blk_frozen BK260.out 1;have hfz41_2:=blk_frozen BK260.out 2))
              have hwq : ∀ n,IntKind.i64.wrap n = wrap64 n:=fun n=>by rw [IntKind.wrap_i64];unfold wrap64;first|rfl|omega
              repeat (go_quiet (first|(go_at_call 72;(with_reducible refine (impl_within.calls (wrap64 (rd (rd_L1 l0_0 a1) 1)) 1 250 true _ A21.out).mono ?_);rintro e w' ⟨rfl,⟨nd,rfl⟩⟩;(try first|exact ⟨rfl,_,World.drewN_drewN _ _ _⟩|exact ⟨rfl,_,Eq.trans (World.drewN_drewN _ _ _) (congrArg (World.drewN _) (Nat.add_assoc _ _ _))⟩))|(go_at_call 72;(with_reducible refine (impl_within.calls (wrap64 (rd (rd_L1 l0_0 a1) 2)) 1 40 true _ A23.out).mono ?_);rintro e w' ⟨rfl,⟨nd,rfl⟩⟩;(try first|exact ⟨rfl,_,World.drewN_drewN _ _ _⟩|exact ⟨rfl,_,Eq.trans (World.drewN_drewN _ _ _) (congrArg (World.drewN _) (Nat.add_assoc _ _ _))⟩);obtain ⟨i038,hi038,_,hsz38,_⟩:=info_parts info5;obtain ⟨A38,hcut38,hA38,hC38⟩:=print_drop_of (P:=Try.prog) (Value.int .u8) 0 23 5 .i64 Try.underlying23 hi038 hsz38 (some ad265) c264_0 (rd_L1 l0_0 a1) (ji25) (of_decide_eq_true (by assumption)) (of_decide_eq_true (by assumption)) HC264_0.out;have HR269:=Aside0.mk (Kd.C_of_reads (h1:=fun _=>rfl) (hA38 _ (Kd.reads_of_C HR264_0.out)));have HC269:=Aside0.mk hC38;clear hA38 hC38 hi038 hsz38)|(go_at_call 64;refine calls_of_args (args':=#[.slice A38 ((rd_L1 l0_0 a1).drop ((ji25) : Int).toNat).length (c264_0 - (ji25).toNat),.func (.func 87) #[] #[]]) (by first|rfl|(rw [show ((rd_L1 l0_0 a1).drop ((ji25) : Int).toNat).length = ((rd_L1 l0_0 a1).length - (ji25).toNat) from List.length_drop] <;> rfl)|(simp only [hji25];rfl)|(simp only [List.length_drop,List.length_take];done)|(simp only [List.length_drop,List.length_take];rfl)) ?_;(with_reducible refine (slices_ContainsFunc_byte_byte_87.calls kj2 _ _ ((rd_L1 l0_0 a1).drop ((ji25) : Int).toNat) () false _ ?side1 ?side2 A28.out).mono ?_);(case side1=>repeat (first|exact (Kd.C_below HR269.out (by repeat (first|(with_reducible first|exact HB.out|apply below_alloc|apply pw_below_drewN|apply below_drew1|refine below_set ?_ GE0.out|refine below_set ?_ GE260.out)|exact HB.out)))|(with_reducible first|apply Kd.C_alloc|apply Kd.C_drewN|apply Kd.C_drew)));(case side2=>exact HC269.out);rintro e w' ⟨rfl,⟨nd,rfl⟩⟩;(try first|exact ⟨rfl,_,World.drewN_drewN _ _ _⟩|exact ⟨rfl,_,Eq.trans (World.drewN_drewN _ _ _) (congrArg (World.drewN _) (Nat.add_assoc _ _ _))⟩);obtain ⟨i039,hi039,_,hsz39,_⟩:=info_parts info5;obtain ⟨A39,hcut39,hA39,hC39⟩:=print_mid_of (P:=Try.prog) (Value.int .u8) 0 23 5 .i64 .i64 Try.underlying23 hi039 hsz39 (some ad265) c264_0 (rd_L1 l0_0 a1) 3 (ji25) (by omega) (by first|omega|exact of_decide_eq_true (by assumption)) (of_decide_eq_true (by assumption)) HC264_0.out;have HR271:=Aside0.mk (Kd.C_of_reads (h1:=fun _=>rfl) (hA39 _ (Kd.reads_of_C HR264_0.out)));have HC271:=Aside0.mk hC39;clear hA39 hC39 hi039 hsz39;have hcv40:=Kd.C_string (P:=Try.prog) (A:=A39) (c:=(c264_0 - 3)) Try.underlying23 Try.underlying5 Try.underlying9 (Kd.C_below HR271.out HB.out);have hcvq40:=fun nq_ : Nat=>Kd.C_string (P:=Try.prog) (A:=A39) (c:=(c264_0 - 3)) Try.underlying23 Try.underlying5 Try.underlying9 (Kd.C_drewN (Kd.C_below HR271.out HB.out) nq_);(try simp only [Int.reduceToNat] at hcut39 hcv40 hcvq40);(try rw [show (((rd_L1 l0_0 a1).take ((ji25) : Int).toNat).drop 3).length = ((ji25).toNat - 3) from (by rw [List.length_drop,List.length_take];have h_ : ((ji25) : Int) ≤ ((rd_L1 l0_0 a1).length : Int):=of_decide_eq_true (by assumption);omega)] at hcv40);(try simp only [show (((rd_L1 l0_0 a1).take ((ji25) : Int).toNat).drop 3).length = ((ji25).toNat - 3) from (by rw [List.length_drop,List.length_take];have h_ : ((ji25) : Int) ≤ ((rd_L1 l0_0 a1).length : Int):=of_decide_eq_true (by assumption);omega)] at hcvq40);have hcz41_0 : wc.cell? ⟨gb260,0,none⟩ = some (.int .i64 0):=(blk_cell BK260.out 0).trans rfl;have hcz41_1 : wc.cell? ⟨gb260,1,none⟩ = some (.int .i64 0):=(blk_cell BK260.out 1).trans rfl;have hcz41_2 : wc.cell? ⟨gb260,2,none⟩ = some (.string (⟨#[]⟩ : ByteArray)):=(blk_cell BK260.out 2).trans rfl;have hfz41_0:=blk_frozen BK260.out 0;have hfz41_1:=blk_frozen BK260.out 1;have hfz41_2:=blk_frozen BK260.out 2));try go_wp2_with (first|(go_at_call 72;(with_reducible refine (impl_within.calls (wrap64 (rd (rd_L1 l0_0 a1) 1)) 1 250 true _ A21.out).mono ?_);rintro e w' ⟨rfl,⟨nd,rfl⟩⟩;(try first|exact ⟨rfl,_,World.drewN_drewN _ _ _⟩|exact ⟨rfl,_,Eq.trans (World.drewN_drewN _ _ _) (congrArg (World.drewN _) (Nat.add_assoc _ _ _))⟩))|(go_at_call 72;(with_reducible refine (impl_within.calls (wrap64 (rd (rd_L1 l0_0 a1) 2)) 1 40 true _ A23.out).mono ?_);rintro e w' ⟨rfl,⟨nd,rfl⟩⟩;(try first|exact ⟨rfl,_,World.drewN_drewN _ _ _⟩|exact ⟨rfl,_,Eq.trans (World.drewN_drewN _ _ _) (congrArg (World.drewN _) (Nat.add_assoc _ _ _))⟩);obtain ⟨i038,hi038,_,hsz38,_⟩:=info_parts info5;obtain ⟨A38,hcut38,hA38,hC38⟩:=print_drop_of (P:=Try.prog) (Value.int .u8) 0 23 5 .i64 Try.underlying23 hi038 hsz38 (some ad265) c264_0 (rd_L1 l0_0 a1) (ji25) (of_decide_eq_true (by assumption)) (of_decide_eq_true (by assumption)) HC264_0.out;have HR269:=Aside0.mk (Kd.C_of_reads (h1:=fun _=>rfl) (hA38 _ (Kd.reads_of_C HR264_0.out)));have HC269:=Aside0.mk hC38;clear hA38 hC38 hi038 hsz38)|(go_at_call 64;refine calls_of_args (args':=#[.slice A38 ((rd_L1 l0_0 a1).drop ((ji25) : Int).toNat).length (c264_0 - (ji25).toNat),.func (.func 87) #[] #[]]) (by first|rfl|(rw [show ((rd_L1 l0_0 a1).drop ((ji25) : Int).toNat).length = ((rd_L1 l0_0 a1).length - (ji25).toNat) from List.length_drop] <;> rfl)|(simp only [hji25];rfl)|(simp only [List.length_drop,List.length_take];done)|(simp only [List.length_drop,List.length_take];rfl)) ?_;(with_reducible refine (slices_ContainsFunc_byte_byte_87.calls kj2 _ _ ((rd_L1 l0_0 a1).drop ((ji25) : Int).toNat) () false _ ?side1 ?side2 A28.out).mono ?_);(case side1=>repeat (first|exact (Kd.C_below HR269.out (by repeat (first|(with_reducible first|exact HB.out|apply below_alloc|apply pw_below_drewN|apply below_drew1|refine below_set ?_ GE0.out|refine below_set ?_ GE260.out)|exact HB.out)))|(with_reducible first|apply Kd.C_alloc|apply Kd.C_drewN|apply Kd.C_drew)));(case side2=>exact HC269.out);rintro e w' ⟨rfl,⟨nd,rfl⟩⟩;(try first|exact ⟨rfl,_,World.drewN_drewN _ _ _⟩|exact ⟨rfl,_,Eq.trans (World.drewN_drewN _ _ _) (congrArg (World.drewN _) (Nat.add_assoc _ _ _))⟩);obtain ⟨i039,hi039,_,hsz39,_⟩:=info_parts info5;obtain ⟨A39,hcut39,hA39,hC39⟩:=print_mid_of (P:=Try.prog) (Value.int .u8) 0 23 5 .i64 .i64 Try.underlying23 hi039 hsz39 (some ad265) c264_0 (rd_L1 l0_0 a1) 3 (ji25) (by omega) (by first|omega|exact of_decide_eq_true (by assumption)) (of_decide_eq_true (by assumption)) HC264_0.out;have HR271:=Aside0.mk (Kd.C_of_reads (h1:=fun _=>rfl) (hA39 _ (Kd.reads_of_C HR264_0.out)));have HC271:=Aside0.mk hC39;clear hA39 hC39 hi039 hsz39;have hcv40:=Kd.C_string (P:=Try.prog) (A:=A39) (c:=(c264_0 - 3)) Try.underlying23 Try.underlying5 Try.underlying9 (Kd.C_below HR271.out HB.out);have hcvq40:=fun nq_ : Nat=>Kd.C_string (P:=Try.prog) (A:=A39) (c:=(c264_0 - 3)) Try.underlying23 Try.underlying5 Try.underlying9 (Kd.C_drewN (Kd.C_below HR271.out HB.out) nq_);(try simp only [Int.reduceToNat] at hcut39 hcv40 hcvq40);(try rw [show (((rd_L1 l0_0 a1).take ((ji25) : Int).toNat).drop 3).length = ((ji25).toNat - 3) from (by rw [List.length_drop,List.length_take];have h_ : ((ji25) : Int) ≤ ((rd_L1 l0_0 a1).length : Int):=of_decide_eq_true (by assumption);omega)] at hcv40);(try simp only [show (((rd_L1 l0_0 a1).take ((ji25) : Int).toNat).drop 3).length = ((ji25).toNat - 3) from (by rw [List.length_drop,List.length_take];have h_ : ((ji25) : Int) ≤ ((rd_L1 l0_0 a1).length : Int):=of_decide_eq_true (by assumption);omega)] at hcvq40);have hcz41_0 : wc.cell? ⟨gb260,0,none⟩ = some (.int .i64 0):=(blk_cell BK260.out 0).trans rfl;have hcz41_1 : wc.cell? ⟨gb260,1,none⟩ = some (.int .i64 0):=(blk_cell BK260.out 1).trans rfl;have hcz41_2 : wc.cell? ⟨gb260,2,none⟩ = some (.string (⟨#[]⟩ : ByteArray)):=(blk_cell BK260.out 2).trans rfl;have hfz41_0:=blk_frozen BK260.out 0;have hfz41_1:=blk_frozen BK260.out 1;have hfz41_2:=blk_frozen BK260.out 2)))
              refine bodyPost_ret (results_ct rfl _ _ gb260 80 #[.int .i64 a1,.int .i64 (wrap64 (rd (rd_L1 l0_0 a1) 1)),.string (strOfNums (((rd_L1 l0_0 a1).take ((ji25) : Int).toNat).drop 3))] (0,0) _ rfl (by (with_reducible repeat first|apply blk_drewN|apply blk_drew|apply blk_alloc);refine blk_put (cs:=#[.int .i64 a1,.int .i64 (wrap64 (rd (rd_L1 l0_0 a1) 1)),.string (⟨#[]⟩ : ByteArray)]) ?_ 2 _ rfl;(with_reducible repeat first|apply blk_drewN|apply blk_drew|apply blk_alloc);refine blk_put (cs:=#[.int .i64 a1,.int .i64 0,.string (⟨#[]⟩ : ByteArray)]) ?_ 1 _ rfl;(with_reducible repeat first|apply blk_drewN|apply blk_drew|apply blk_alloc);refine blk_put (cs:=#[.int .i64 0,.int .i64 0,.string (⟨#[]⟩ : ByteArray)]) ?_ 0 _ rfl;(with_reducible repeat first|apply blk_drewN|apply blk_drew|apply blk_alloc);exact BK260.out) Try.underlying80 rfl (by kernel_rfl)) rfl ?_
              exact ⟨by first|rfl|(simp [errW_none,errW_some] <;> rfl)|(simp only [← hji25];first|rfl|(simp [errW_none,errW_some] <;> rfl))|(simp [*,errW_none,errW_some] <;> rfl),by repeat (first|(with_reducible first|exact HB.out|apply below_alloc|apply pw_below_drewN|apply below_drew1|refine below_set ?_ GE0.out|refine below_set ?_ GE260.out)|exact HB.out)⟩
             ·rw [if_neg c34] at H
              exact absurd H (by simp)
           ·rw [if_neg c27] at H
            exact absurd H (by simp)
          ·rw [if_neg c26] at H
           exact absurd H (by simp)
         ·replace c24:=Bool.eq_false_iff.mpr c24
          subst c24
          have H1 : (some (0,0,(⟨#[]⟩ : ByteArray),false)) = some (r1,r2,r3,r4):=by rw [if_neg (show ¬ (false = true) by decide)] at H;exact H
          clear H
          have H:=H1
          clear H1
          simp only [Option.some.injEq,Prod.mk.injEq] at H
          obtain ⟨rfl,rfl,rfl,rfl⟩:=H
          have hnb42:=NB0_260.out
          have hnc42:=NB260_0.out
          have hcz43_0 : wc.cell? ⟨g0_,0,none⟩ = some (.slice A0_0 l0_0.length c0_0):=(blk_cell BK0.out 0).trans rfl
          have hcz43_1 : wc.cell? ⟨g0_,1,none⟩ = some (.slice A0_1 l0_1.length c0_1):=(blk_cell BK0.out 1).trans rfl
          have hcz43_2 : wc.cell? ⟨g0_,2,none⟩ = some (.slice A0_2 l0_2.length c0_2):=(blk_cell BK0.out 2).trans rfl
          have hcz43_3 : wc.cell? ⟨g0_,3,none⟩ = some (.slice A0_3 l0_3.length c0_3):=(blk_cell BK0.out 3).trans rfl
          have hfz43_0:=blk_frozen BK0.out 0
          have hfz43_1:=blk_frozen BK0.out 1
          have hfz43_2:=blk_frozen BK0.out 2
          have hfz43_3:=blk_frozen BK0.out 3
          have p264 : 0 ≤ (a1 : Int):=of_decide_eq_true (by assumption)
          have q264 : a1 < (l0_0.length : Int):=of_decide_eq_true (by assumption)
          obtain ⟨ad264,A264_0,c264_0,e264,hx264_0,hl264_0,hi264_0⟩:=at_L1 HR0_0.out a1 p264 q264
          cases e264
          (try replace hx264_0:=(HB.out.cell (World.block_lt_of_cell? w _ hx264_0)).trans hx264_0)
          have HR264_0:=Aside0.mk hi264_0
          have HC264_0:=Aside0.mk hl264_0
          clear hi264_0 hl264_0
          replace p264:=eq_true p264
          replace q264:=eq_true q264
          have p265 : 0 ≤ (1 : Int):=(by omega)
          have q265 : 1 < ((rd_L1 l0_0 a1).length : Int):=of_decide_eq_true (by assumption)
          obtain ⟨ad265,e265,hx265_0⟩:=Kd.at_int HR264_0.out 1 p265 q265
          cases e265
          (try simp only [show (1 : Int).toNat = 1 from rfl,Nat.reduceMul,Nat.reduceEqDiff,Go.Addr.add,↓reduceIte] at hx265_0)
          have qi265 : (1 < (rd_L1 l0_0 a1).length) = True:=eq_true (by omega)
          (try rw [show ((1 : Int)).toNat = 1 from rfl] at hx265_0)
          (try replace hx265_0:=(HB.out.cell (World.block_lt_of_cell? w _ hx265_0)).trans hx265_0)
          replace p265:=eq_true p265
          replace q265:=eq_true q265
          have p266 : 0 ≤ (2 : Int):=(by omega)
          have q266 : 2 < ((rd_L1 l0_0 a1).length : Int):=of_decide_eq_true (by assumption)
          obtain ⟨ad266,e266,hx266_0⟩:=Kd.at_int HR264_0.out 2 p266 q266
          obtain rfl : ad265 = ad266:=(by injection e266)
          (try simp only [show (2 : Int).toNat = 2 from rfl,Nat.reduceMul,Nat.reduceEqDiff,Go.Addr.add,↓reduceIte] at hx266_0)
          have qi266 : (2 < (rd_L1 l0_0 a1).length) = True:=eq_true (by omega)
          (try rw [show ((2 : Int)).toNat = 2 from rfl] at hx266_0)
          (try replace hx266_0:=(HB.out.cell (World.block_lt_of_cell? w _ hx266_0)).trans hx266_0)
          replace p266:=eq_true p266
          replace q266:=eq_true q266
          go_wp2_with (first|(go_at_call 72;(with_reducible refine (impl_within.calls (wrap64 (rd (rd_L1 l0_0 a1) 1)) 1 250 true _ A21.out).mono ?_);rintro e w' ⟨rfl,⟨nd,rfl⟩⟩;(try first|exact ⟨rfl,_,World.drewN_drewN _ _ _⟩|exact ⟨rfl,_,Eq.trans (World.drewN_drewN _ _ _) (congrArg (World.drewN _) (Nat.add_assoc _ _ _))⟩))|(go_at_call 72;(with_reducible refine (impl_within.calls (wrap64 (rd (rd_L1 l0_0 a1) 2)) 1 40 false _ A23.out).mono ?_);rintro e w' ⟨rfl,⟨nd,rfl⟩⟩;(try first|exact ⟨rfl,_,World.drewN_drewN _ _ _⟩|exact ⟨rfl,_,Eq.trans (World.drewN_drewN _ _ _) (congrArg (World.drewN _) (Nat.add_assoc _ _ _))⟩);have hcz44_0 : wc.cell? ⟨gb260,0,none⟩ = some (.int .i64 0):=(blk_cell BK260.out 0).trans rfl;have hcz44_1 : wc.cell? ⟨gb260,1,none⟩ = some (.int .i64 0):=(blk_cell BK260.out 1).trans rfl;have hcz44_2 : wc.cell? ⟨gb260,2,none⟩ = some (.string (⟨#[]⟩ : ByteArray)):=(blk_cell BK260.out 2).trans rfl;have hfz44_0:=blk_frozen BK260.out 0;have hfz44_1:=blk_frozen BK260.out 1;have hfz44_2:=blk_frozen BK260.out 2))
          have hwq : ∀ n,IntKind.i64.wrap n = wrap64 n:=fun n=>by rw [IntKind.wrap_i64];unfold wrap64;first|rfl|omega
          repeat (go_quiet (first|(go_at_call 72;(with_reducible refine (impl_within.calls (wrap64 (rd (rd_L1 l0_0 a1) 1)) 1 250 true _ A21.out).mono ?_);rintro e w' ⟨rfl,⟨nd,rfl⟩⟩;(try first|exact ⟨rfl,_,World.drewN_drewN _ _ _⟩|exact ⟨rfl,_,Eq.trans (World.drewN_drewN _ _ _) (congrArg (World.drewN _) (Nat.add_assoc _ _ _))⟩))|(go_at_call 72;(with_reducible refine (impl_within.calls (wrap64 (rd (rd_L1 l0_0 a1) 2)) 1 40 false _ A23.out).mono ?_);rintro e w' ⟨rfl,⟨nd,rfl⟩⟩;(try first|exact ⟨rfl,_,World.drewN_drewN _ _ _⟩|exact ⟨rfl,_,Eq.trans (World.drewN_drewN _ _ _) (congrArg (World.drewN _) (Nat.add_assoc _ _ _))⟩);have hcz44_0 : wc.cell? ⟨gb260,0,none⟩ = some (.int .i64 0):=(blk_cell BK260.out 0).trans rfl;have hcz44_1 : wc.cell? ⟨gb260,1,none⟩ = some (.int .i64 0):=(blk_cell BK260.out 1).trans rfl;have hcz44_2 : wc.cell? ⟨gb260,2,none⟩ = some (.string (⟨#[]⟩ : ByteArray)):=(blk_cell BK260.out 2).trans rfl;have hfz44_0:=blk_frozen BK260.out 0;have hfz44_1:=blk_frozen BK260.out 1;have hfz44_2:=blk_frozen BK260.out 2));try go_wp2_with (first|(go_at_call 72;(with_reducible refine (impl_within.calls (wrap64 (rd (rd_L1 l0_0 a1) 1)) 1 250 true _ A21.out).mono ?_);rintro e w' ⟨rfl,⟨nd,rfl⟩⟩;(try first|exact ⟨rfl,_,World.drewN_drewN _ _ _⟩|exact ⟨rfl,_,Eq.trans (World.drewN_drewN _ _ _) (congrArg (World.drewN _) (Nat.add_assoc _ _ _))⟩))|(go_at_call 72;(with_reducible refine (impl_within.calls (wrap64 (rd (rd_L1 l0_0 a1) 2)) 1 40 false _ A23.out).mono ?_);rintro e w' ⟨rfl,⟨nd,rfl⟩⟩;(try first|exact ⟨rfl,_,World.drewN_drewN _ _ _⟩|exact ⟨rfl,_,Eq.trans (World.drewN_drewN _ _ _) (congrArg (World.drewN _) (Nat.add_assoc _ _ _))⟩);have hcz44_0 : wc.cell? ⟨gb260,0,none⟩ = some (.int .i64 0):=(blk_cell BK260.out 0).trans rfl;have hcz44_1 : wc.cell? ⟨gb260,1,none⟩ = some (.int .i64 0):=(blk_cell BK260.out 1).trans rfl;have hcz44_2 : wc.cell? ⟨gb260,2,none⟩ = some (.string (⟨#[]⟩ : ByteArray)):=(blk_cell BK260.out 2).trans rfl;have hfz44_0:=blk_frozen BK260.out 0;have hfz44_1:=blk_frozen BK260.out 1;have hfz44_2:=blk_frozen BK260.out 2)))
          refine bodyPost_ret (results_ct rfl _ _ gb260 80 #[.int .i64 0,.int .i64 0,.string (⟨#[]⟩ : ByteArray)] (0,0) _ rfl (by (with_reducible repeat first|apply blk_drewN|apply blk_drew|apply blk_alloc);refine blk_put (cs:=#[.int .i64 0,.int .i64 0,.string (⟨#[]⟩ : ByteArray)]) ?_ 2 _ rfl;(with_reducible repeat first|apply blk_drewN|apply blk_drew|apply blk_alloc);refine blk_put (cs:=#[.int .i64 0,.int .i64 0,.string (⟨#[]⟩ : ByteArray)]) ?_ 1 _ rfl;(with_reducible repeat first|apply blk_drewN|apply blk_drew|apply blk_alloc);refine blk_put (cs:=#[.int .i64 0,.int .i64 0,.string (⟨#[]⟩ : ByteArray)]) ?_ 0 _ rfl;(with_reducible repeat first|apply blk_drewN|apply blk_drew|apply blk_alloc);exact BK260.out) Try.underlying80 rfl (by kernel_rfl)) rfl ?_
          exact ⟨by first|rfl|(simp [*,errW_none,errW_some] <;> rfl),by repeat (first|(with_reducible first|exact HB.out|apply below_alloc|apply pw_below_drewN|apply below_drew1|refine below_set ?_ GE0.out|refine below_set ?_ GE260.out)|exact HB.out)⟩
        ·replace c22:=Bool.eq_false_iff.mpr c22
         subst c22
         have H1 : (some (0,0,(⟨#[]⟩ : ByteArray),false)) = some (r1,r2,r3,r4):=by rw [if_neg (show ¬ (false = true) by decide)] at H;exact H
         clear H
         have H:=H1
         clear H1
         simp only [Option.some.injEq,Prod.mk.injEq] at H
         obtain ⟨rfl,rfl,rfl,rfl⟩:=H
         have hnb45:=NB0_260.out
         have hnc45:=NB260_0.out
         have hcz46_0 : wc.cell? ⟨g0_,0,none⟩ = some (.slice A0_0 l0_0.length c0_0):=(blk_cell BK0.out 0).trans rfl
         have hcz46_1 : wc.cell? ⟨g0_,1,none⟩ = some (.slice A0_1 l0_1.length c0_1):=(blk_cell BK0.out 1).trans rfl
         have hcz46_2 : wc.cell? ⟨g0_,2,none⟩ = some (.slice A0_2 l0_2.length c0_2):=(blk_cell BK0.out 2).trans rfl
         have hcz46_3 : wc.cell? ⟨g0_,3,none⟩ = some (.slice A0_3 l0_3.length c0_3):=(blk_cell BK0.out 3).trans rfl
         have hfz46_0:=blk_frozen BK0.out 0
         have hfz46_1:=blk_frozen BK0.out 1
         have hfz46_2:=blk_frozen BK0.out 2
         have hfz46_3:=blk_frozen BK0.out 3
         have p264 : 0 ≤ (a1 : Int):=of_decide_eq_true (by assumption)
         have q264 : a1 < (l0_0.length : Int):=of_decide_eq_true (by assumption)
         obtain ⟨ad264,A264_0,c264_0,e264,hx264_0,hl264_0,hi264_0⟩:=at_L1 HR0_0.out a1 p264 q264
         cases e264
         (try replace hx264_0:=(HB.out.cell (World.block_lt_of_cell? w _ hx264_0)).trans hx264_0)
         have HR264_0:=Aside0.mk hi264_0
         have HC264_0:=Aside0.mk hl264_0
         clear hi264_0 hl264_0
         replace p264:=eq_true p264
         replace q264:=eq_true q264
         have p265 : 0 ≤ (1 : Int):=(by omega)
         have q265 : 1 < ((rd_L1 l0_0 a1).length : Int):=of_decide_eq_true (by assumption)
         obtain ⟨ad265,e265,hx265_0⟩:=Kd.at_int HR264_0.out 1 p265 q265
         cases e265
         (try simp only [show (1 : Int).toNat = 1 from rfl,Nat.reduceMul,Nat.reduceEqDiff,Go.Addr.add,↓reduceIte] at hx265_0)
         have qi265 : (1 < (rd_L1 l0_0 a1).length) = True:=eq_true (by omega)
         (try rw [show ((1 : Int)).toNat = 1 from rfl] at hx265_0)
         (try replace hx265_0:=(HB.out.cell (World.block_lt_of_cell? w _ hx265_0)).trans hx265_0)
         replace p265:=eq_true p265
         replace q265:=eq_true q265
         have p266 : 0 ≤ (2 : Int):=(by omega)
         have q266 : 2 < ((rd_L1 l0_0 a1).length : Int):=of_decide_eq_true (by assumption)
         obtain ⟨ad266,e266,hx266_0⟩:=Kd.at_int HR264_0.out 2 p266 q266
         obtain rfl : ad265 = ad266:=(by injection e266)
         (try simp only [show (2 : Int).toNat = 2 from rfl,Nat.reduceMul,Nat.reduceEqDiff,Go.Addr.add,↓reduceIte] at hx266_0)
         have qi266 : (2 < (rd_L1 l0_0 a1).length) = True:=eq_true (by omega)
         (try rw [show ((2 : Int)).toNat = 2 from rfl] at hx266_0)
         (try replace hx266_0:=(HB.out.cell (World.block_lt_of_cell? w _ hx266_0)).trans hx266_0)
         replace p266:=eq_true p266
         replace q266:=eq_true q266
         go_wp2_with (first|(go_at_call 72;(with_reducible refine (impl_within.calls (wrap64 (rd (rd_L1 l0_0 a1) 1)) 1 250 false _ A21.out).mono ?_);rintro e w' ⟨rfl,⟨nd,rfl⟩⟩;(try first|exact ⟨rfl,_,World.drewN_drewN _ _ _⟩|exact ⟨rfl,_,Eq.trans (World.drewN_drewN _ _ _) (congrArg (World.drewN _) (Nat.add_assoc _ _ _))⟩);have hcz47_0 : wc.cell? ⟨gb260,0,none⟩ = some (.int .i64 0):=(blk_cell BK260.out 0).trans rfl;have hcz47_1 : wc.cell? ⟨gb260,1,none⟩ = some (.int .i64 0):=(blk_cell BK260.out 1).trans rfl;have hcz47_2 : wc.cell? ⟨gb260,2,none⟩ = some (.string (⟨#[]⟩ : ByteArray)):=(blk_cell BK260.out 2).trans rfl;have hfz47_0:=blk_frozen BK260.out 0;have hfz47_1:=blk_frozen BK260.out 1;have hfz47_2:=blk_frozen BK260.out 2))
         have hwq : ∀ n,IntKind.i64.wrap n = wrap64 n:=fun n=>by rw [IntKind.wrap_i64];unfold wrap64;first|rfl|omega
         repeat (go_quiet (first|(go_at_call 72;(with_reducible refine (impl_within.calls (wrap64 (rd (rd_L1 l0_0 a1) 1)) 1 250 false _ A21.out).mono ?_);rintro e w' ⟨rfl,⟨nd,rfl⟩⟩;(try first|exact ⟨rfl,_,World.drewN_drewN _ _ _⟩|exact ⟨rfl,_,Eq.trans (World.drewN_drewN _ _ _) (congrArg (World.drewN _) (Nat.add_assoc _ _ _))⟩);have hcz47_0 : wc.cell? ⟨gb260,0,none⟩ = some (.int .i64 0):=(blk_cell BK260.out 0).trans rfl;have hcz47_1 : wc.cell? ⟨gb260,1,none⟩ = some (.int .i64 0):=(blk_cell BK260.out 1).trans rfl;have hcz47_2 : wc.cell? ⟨gb260,2,none⟩ = some (.string (⟨#[]⟩ : ByteArray)):=(blk_cell BK260.out 2).trans rfl;have hfz47_0:=blk_frozen BK260.out 0;have hfz47_1:=blk_frozen BK260.out 1;have hfz47_2:=blk_frozen BK260.out 2));try go_wp2_with (first|(go_at_call 72;(with_reducible refine (impl_within.calls (wrap64 (rd (rd_L1 l0_0 a1) 1)) 1 250 false _ A21.out).mono ?_);rintro e w' ⟨rfl,⟨nd,rfl⟩⟩;(try first|exact ⟨rfl,_,World.drewN_drewN _ _ _⟩|exact ⟨rfl,_,Eq.trans (World.drewN_drewN _ _ _) (congrArg (World.drewN _) (Nat.add_assoc _ _ _))⟩);have hcz47_0 : wc.cell? ⟨gb260,0,none⟩ = some (.int .i64 0):=(blk_cell BK260.out 0).trans rfl;have hcz47_1 : wc.cell? ⟨gb260,1,none⟩ = some (.int .i64 0):=(blk_cell BK260.out 1).trans rfl;have hcz47_2 : wc.cell? ⟨gb260,2,none⟩ = some (.string (⟨#[]⟩ : ByteArray)):=(blk_cell BK260.out 2).trans rfl;have hfz47_0:=blk_frozen BK260.out 0;have hfz47_1:=blk_frozen BK260.out 1;have hfz47_2:=blk_frozen BK260.out 2)))
         refine bodyPost_ret (results_ct rfl _ _ gb260 80 #[.int .i64 0,.int .i64 0,.string (⟨#[]⟩ : ByteArray)] (0,0) _ rfl (by (with_reducible repeat first|apply blk_drewN|apply blk_drew|apply blk_alloc);refine blk_put (cs:=#[.int .i64 0,.int .i64 0,.string (⟨#[]⟩ : ByteArray)]) ?_ 2 _ rfl;(with_reducible repeat first|apply blk_drewN|apply blk_drew|apply blk_alloc);refine blk_put (cs:=#[.int .i64 0,.int .i64 0,.string (⟨#[]⟩ : ByteArray)]) ?_ 1 _ rfl;(with_reducible repeat first|apply blk_drewN|apply blk_drew|apply blk_alloc);refine blk_put (cs:=#[.int .i64 0,.int .i64 0,.string (⟨#[]⟩ : ByteArray)]) ?_ 0 _ rfl;(with_reducible repeat first|apply blk_drewN|apply blk_drew|apply blk_alloc);exact BK260.out) Try.underlying80 rfl (by kernel_rfl)) rfl ?_
         exact ⟨by first|rfl|(simp [*,errW_none,errW_some] <;> rfl),by repeat (first|(with_reducible first|exact HB.out|apply below_alloc|apply pw_below_drewN|apply below_drew1|refine below_set ?_ GE0.out|refine below_set ?_ GE260.out)|exact HB.out)⟩
       ·rw [if_neg c20] at H
        exact absurd H (by simp)
      ·rw [if_neg c19] at H
       exact absurd H (by simp)
     ·rw [if_neg c18] at H
      exact absurd H (by simp)
    ·rw [if_neg c17] at H
     exact absurd H (by simp)

/-! ### impl_Space_pieces_2: function 81 -/
def impl_Space_pieces_2.f (a0_0 : Int) (a0_1 : Int) (a0_2 : ByteArray) (a1_0 : Int) (a1_1 : Int) (a1_2 : ByteArray) : Option (Bool):=some (a0_0 == a1_0)
set_option maxHeartbeats 8000000 in
set_option maxRecDepth 100000 in
theorem impl_Space_pieces_2.calls (a0_0 : Int) (a0_1 : Int) (a0_2 : ByteArray) (g1_ : Nat) (a1_0 : Int) (a1_1 : Int) (a1_2 : ByteArray) (r : Bool) (w : World) (hg1_ : w.heap[g1_]? = some (.cells #[.int .i64 a1_0,.int .i64 a1_1,.string a1_2] 80 (0,0))) (h : impl_Space_pieces_2.f a0_0 a0_1 a0_2 a1_0 a1_1 a1_2 = some r) :
  Calls Try.prog 81 #[.agg #[.int .i64 a0_0,.int .i64 a0_1,.string a0_2],.pointer (some ⟨g1_,0,none⟩)] w fun e w'=>e = .returned (.bool r)∧Below w.heap.size w w':=by
 have hu80:=Try.underlying80
 have BK1:=Aside0.mk hg1_
 clear hg1_
 have HB:=Aside0.mk (Below.refl w.heap.size w)
 have H : (some (a0_0 == a1_0)) = some r:=h
 clear h
 obtain rfl:=Option.some.inj H
 go_enter Try.func81,Try.ntmps81
 go_wp2_with (first|((with_reducible refine gate_dst (N:=2) rfl ?_);refine box_event ?hg (N:=2) ?hd (cs:=#[.int .i64 a0_0,.int .i64 a0_1,.string a0_2]) (t:=80) ?hr ?_;(case hd=>rfl);(case hg=>rfl);(case hr=>first|(go_simp;done)|(go_simp;rfl));intro gb272 hg w3 hbox hb;have n0_:=Aside0.mk (blk_below (g:=g1_) (o:=.cells #[.int .i64 a1_0,.int .i64 a1_1,.string a1_2] 80 (0,0)) (by (with_reducible repeat first|apply blk_drewN|apply blk_drew|apply blk_alloc);exact BK1.out) hb);have n1_:=Aside0.mk (below_step (by repeat (first|(with_reducible first|exact HB.out|apply below_alloc|apply pw_below_drewN|apply below_drew1|refine below_set ?_ GE1.out)|exact HB.out)) hb);have n2_:=Aside0.mk (hbox);have n3_:=Aside0.mk ((by rw [hg];exact (below_size (by repeat (first|(with_reducible first|exact HB.out|apply below_alloc|apply pw_below_drewN|apply below_drew1|refine below_set ?_ GE1.out)|exact HB.out))) : w.heap.size ≤ gb272));have n4_:=Aside0.mk ((by rw [hg];exact (below_size (by repeat (first|(with_reducible first|exact HB.out|apply below_alloc|apply pw_below_drewN|apply below_drew1|refine below_set ?_ GE1.out)|exact HB.out))) : w.heap.size ≤ gb272));have n5_:=Aside0.mk ((by rw [hg];exact Nat.ne_of_lt (blk_lt (g:=g1_) (o:=.cells #[.int .i64 a1_0,.int .i64 a1_1,.string a1_2] 80 (0,0)) (by (with_reducible repeat first|apply blk_drewN|apply blk_drew|apply blk_alloc);exact BK1.out)) : g1_ ≠ gb272));have n6_:=Aside0.mk ((by rw [hg];exact Nat.ne_of_gt (blk_lt (g:=g1_) (o:=.cells #[.int .i64 a1_0,.int .i64 a1_1,.string a1_2] 80 (0,0)) (by (with_reducible repeat first|apply blk_drewN|apply blk_drew|apply blk_alloc);exact BK1.out)) : gb272 ≠ g1_));clear BK1;clear HB;have BK1:=n0_;have HB:=n1_;have BK272:=n2_;have GW272:=n3_;have GE272:=n4_;have NB1_272:=n5_;have NB272_1:=n6_;clear n0_ n1_ n2_ n3_ n4_ n5_ n6_;clear hb hbox hg;have hnb4:=NB272_1.out;have hnc4:=NB1_272.out;have hcz5_0 : w3.cell? ⟨gb272,0,none⟩ = some (.int .i64 a0_0):=(blk_cell BK272.out 0).trans rfl;have hcz5_1 : w3.cell? ⟨gb272,1,none⟩ = some (.int .i64 a0_1):=(blk_cell BK272.out 1).trans rfl;have hcz5_2 : w3.cell? ⟨gb272,2,none⟩ = some (.string a0_2):=(blk_cell BK272.out 2).trans rfl;have hfz5_0:=blk_frozen BK272.out 0;have hfz5_1:=blk_frozen BK272.out 1;have hfz5_2:=blk_frozen BK272.out 2;have hcz6_0 : w3.cell? ⟨g1_,0,none⟩ = some (.int .i64 a1_0):=(blk_cell BK1.out 0).trans rfl;have hcz6_1 : w3.cell? ⟨g1_,1,none⟩ = some (.int .i64 a1_1):=(blk_cell BK1.out 1).trans rfl;have hcz6_2 : w3.cell? ⟨g1_,2,none⟩ = some (.string a1_2):=(blk_cell BK1.out 2).trans rfl;have hfz6_0:=blk_frozen BK1.out 0;have hfz6_1:=blk_frozen BK1.out 1;have hfz6_2:=blk_frozen BK1.out 2))
 go_ret
 exact ⟨by first|rfl|(simp [*,errW_none,errW_some] <;> rfl),by repeat (first|(with_reducible first|exact HB.out|apply below_alloc|apply pw_below_drewN|apply below_drew1|refine below_set ?_ GE1.out|refine below_set ?_ GE272.out)|exact HB.out)⟩

/-! ### slices_IndexFunc_byte_byte_78: function 116 -/
def slices_IndexFunc_byte_byte_78.l0 : Nat → List Int → Int → Int → Option (Int)
 | 0,_,_,_=>none
 | k + 1,x0,x7,x8=>if x8 < x7 then (if 0 ≤ x8 then (if x8 < (x0.length : Int) then ((impl_Space_pieces_1.f (rd x0 x8)).bind fun t274=>(if t274 = true then (some x8) else (slices_IndexFunc_byte_byte_78.l0 k x0 x7 (wrap64 (x8 + 1))))) else (none)) else (none)) else (some (-1))
def slices_IndexFunc_byte_byte_78.f (k : Nat) (l0 : List Int) (a1 : Unit) : Option (Int):=slices_IndexFunc_byte_byte_78.l0 k l0 (l0.length : Int) 0
theorem slices_IndexFunc_byte_byte_78.mono_l : ∀ k,(∀ y0 y1 y2,LeO (slices_IndexFunc_byte_byte_78.l0 k y0 y1 y2) (slices_IndexFunc_byte_byte_78.l0 (k + 1) y0 y1 y2))
 | 0=>fun _ _ _ r h=>by simp [slices_IndexFunc_byte_byte_78.l0] at h
 | k + 1=>by
  have ih0:=slices_IndexFunc_byte_byte_78.mono_l k
  ·intro y0 y1 y2
   unfold slices_IndexFunc_byte_byte_78.l0
   repeat' first
   | (with_reducible exact ih0 _ _ _)
   | (with_reducible exact LeO.refl _)
   | (with_reducible exact LeO.none _)
   | (with_reducible refine LeO.ite ?_ ?_)
   | (with_reducible refine LeO.bind ?_ (fun _=>?_))
   | exact ih0 _ _ _
   | exact LeO.none _
   | refine LeO.ite ?_ ?_
   | refine LeO.bind ?_ (fun _=>?_)
theorem slices_IndexFunc_byte_byte_78.mono : ∀ a0 a1 k,LeO (slices_IndexFunc_byte_byte_78.f k a0 a1) (slices_IndexFunc_byte_byte_78.f (k + 1) a0 a1):=by
 intro a0 a1 k
 have ih0:=slices_IndexFunc_byte_byte_78.mono_l k
 unfold slices_IndexFunc_byte_byte_78.f
 repeat' first
   | (with_reducible exact ih0 _ _ _)
   | (with_reducible exact LeO.refl _)
   | (with_reducible exact LeO.none _)
   | (with_reducible refine LeO.ite ?_ ?_)
   | (with_reducible refine LeO.bind ?_ (fun _=>?_))
   | exact ih0 _ _ _
   | exact LeO.none _
   | refine LeO.ite ?_ ?_
   | refine LeO.bind ?_ (fun _=>?_)
set_option maxHeartbeats 8000000 in
set_option maxRecDepth 100000 in
theorem slices_IndexFunc_byte_byte_78.calls (k : Nat) (A0 : Option Addr) (c0 : Nat) (l0 : List Int) (a1 : Unit) (r : Int) (w : World) (hr0 : Kd.C (Kd.int .u8) w A0 l0.length l0) (hc0 : l0.length ≤ c0) (h : slices_IndexFunc_byte_byte_78.f k l0 a1 = some r) :
  Calls Try.prog 77 #[.slice A0 l0.length c0,.func (.func 78) #[] #[]] w fun e w'=>e = .returned (.int .i64 r)∧Drawn0 w w':=by
 have HR0:=Aside0.mk hr0
 have HC0:=Aside0.mk hc0
 clear hr0 hc0
 have H : (slices_IndexFunc_byte_byte_78.l0 k l0 (l0.length : Int) 0) = some r:=h
 clear h
 have H':=Aside0.mk H
 clear H
 go_enter Try.func77,Try.ntmps77
 go_wp2
 go_loopg [8] k (fun kq v8 w'=>∃ (x8_1 : Int),v8 = .int .i64 x8_1∧Aside0 (slices_IndexFunc_byte_byte_78.l0 kq l0 (l0.length : Int) x8_1 = some r)∧Aside0 (kq ≤ k)∧Drawn0 w w')
 case atStart=>exact ⟨(0),(by first|rfl|(simp;done)|(simp [*];done)),H',⟨Nat.le_refl _⟩,by repeat (first|exact Drawn0.refl _|apply Drawn0.step)⟩
 case round =>
  clear H'
  try clear p2
  obtain ⟨x8_1,rfl,HA,HK1,⟨m1,rfl⟩⟩:=hrel
  cases gk with
  | zero=>exact absurd HA.out (by simp [slices_IndexFunc_byte_byte_78.l0])
  | succ k1 =>
   have H:=HA.out
   clear HA
   simp only [slices_IndexFunc_byte_byte_78.l0] at H
   by_cases c3 : x8_1 < (l0.length : Int)
   ·rw [if_pos c3] at H
    have c3b0 : decide (x8_1 < (l0.length : Int)) = true:=decide_eq_true c3
    clear c3
    by_cases c4 : 0 ≤ x8_1
    ·rw [if_pos c4] at H
     have c4b0 : decide (0 ≤ x8_1) = true:=decide_eq_true c4
     clear c4
     by_cases c5 : x8_1 < (l0.length : Int)
     ·rw [if_pos c5] at H
      have c5b0 : decide (x8_1 < (l0.length : Int)) = true:=decide_eq_true c5
      clear c5
      replace H:=Option.bind_eq_some_iff.mp H
      obtain ⟨t274,A60,H⟩:=H
      replace H : (if t274 = true then (some x8_1) else (slices_IndexFunc_byte_byte_78.l0 k1 l0 (l0.length : Int) (wrap64 (x8_1 + 1)))) = some r:=H
      have A6:=Aside0.mk A60
      clear A60
      by_cases c7 : t274 = true
      ·subst c7
       have H1 : (some x8_1) = some r:=by rw [if_pos rfl] at H;exact H
       clear H
       have H:=H1
       clear H1
       obtain rfl:=Option.some.inj H
       have p273 : 0 ≤ (x8_1 : Int):=of_decide_eq_true (by assumption)
       have q273 : x8_1 < (l0.length : Int):=of_decide_eq_true (by assumption)
       obtain ⟨ad273,e273,hx273_0⟩:=Kd.at_int HR0.out x8_1 p273 q273
       cases e273
       replace p273:=eq_true p273
       replace q273:=eq_true q273
       go_wp2_with (first|((with_reducible refine gate_calleev (c:=.tmp 11) rfl ?_);refine goesLv_ (some 16) rfl rfl Try.func78 (by kernel_rfl) rfl #[.int .u8 (rd l0 x8_1)] rfl (by first|rfl|(go_simp;done)) (by (try simp only [List.map_toArray,List.map_cons,List.map_nil]);first|done|rfl|(simp only [List.length_drop,List.length_take];rfl)) ?_;(with_reducible refine (impl_Space_pieces_1.calls (rd l0 x8_1) true _ A6.out).mono ?_);rintro e w' ⟨rfl,⟨nd,rfl⟩⟩;refine ⟨_,rfl,?_⟩))
       go_ret
       exact ⟨by first|rfl|(simp;done)|(simp [*];done),by repeat (first|exact Drawn0.refl _|apply Drawn0.step)⟩
      ·replace c7:=Bool.eq_false_iff.mpr c7
       subst c7
       have H1 : (slices_IndexFunc_byte_byte_78.l0 k1 l0 (l0.length : Int) (wrap64 (x8_1 + 1))) = some r:=by rw [if_neg (show ¬ (false = true) by decide)] at H;exact H
       clear H
       have H:=H1
       clear H1
       have H':=Aside0.mk H
       clear H
       have p273 : 0 ≤ (x8_1 : Int):=of_decide_eq_true (by assumption)
       have q273 : x8_1 < (l0.length : Int):=of_decide_eq_true (by assumption)
       obtain ⟨ad273,e273,hx273_0⟩:=Kd.at_int HR0.out x8_1 p273 q273
       cases e273
       replace p273:=eq_true p273
       replace q273:=eq_true q273
       go_wp2_with (first|((with_reducible refine gate_calleev (c:=.tmp 11) rfl ?_);refine goesLv_ (some 16) rfl rfl Try.func78 (by kernel_rfl) rfl #[.int .u8 (rd l0 x8_1)] rfl (by first|rfl|(go_simp;done)) (by (try simp only [List.map_toArray,List.map_cons,List.map_nil]);first|done|rfl|(simp only [List.length_drop,List.length_take];rfl)) ?_;(with_reducible refine (impl_Space_pieces_1.calls (rd l0 x8_1) false _ A6.out).mono ?_);rintro e w' ⟨rfl,⟨nd,rfl⟩⟩;refine ⟨_,rfl,?_⟩))
       go_roundg k1
       case measure=>have:=HK1.out;omega
       case rel=>exact ⟨(wrap64 (x8_1 + 1)),(by first|rfl|(simp;done)|(simp [*];done)),H',⟨by have:=HK1.out;omega⟩,by repeat (first|exact Drawn0.refl _|apply Drawn0.step)⟩
     ·rw [if_neg c5] at H
      exact absurd H (by simp)
    ·rw [if_neg c4] at H
     exact absurd H (by simp)
   ·rw [if_neg c3] at H
    have c3b0 : decide (x8_1 < (l0.length : Int)) = false:=decide_eq_false c3
    clear c3
    obtain rfl:=Option.some.inj H
    go_wp2
    go_ret
    exact ⟨by first|rfl|(simp;done)|(simp [*];done),by repeat (first|exact Drawn0.refl _|apply Drawn0.step)⟩

/-! ### slices_ContainsFunc_byte_byte_78: function 115 -/
def slices_ContainsFunc_byte_byte_78.f (k : Nat) (l0 : List Int) (a1 : Unit) : Option (Bool):=(slices_IndexFunc_byte_byte_78.f k l0 a1).bind fun t275=>(some (decide (t275 ≥ 0)))
theorem slices_ContainsFunc_byte_byte_78.mono : ∀ a0 a1 k,LeO (slices_ContainsFunc_byte_byte_78.f k a0 a1) (slices_ContainsFunc_byte_byte_78.f (k + 1) a0 a1):=by
 intro a0 a1 k
 unfold slices_ContainsFunc_byte_byte_78.f
 repeat' first
   | (with_reducible exact slices_IndexFunc_byte_byte_78.mono _ _ _)
   | (with_reducible exact LeO.refl _)
   | (with_reducible exact LeO.none _)
   | (with_reducible refine LeO.ite ?_ ?_)
   | (with_reducible refine LeO.bind ?_ (fun _=>?_))
   | exact slices_IndexFunc_byte_byte_78.mono _ _ _
   | exact LeO.none _
   | refine LeO.ite ?_ ?_
   | refine LeO.bind ?_ (fun _=>?_)
set_option maxHeartbeats 8000000 in
set_option maxRecDepth 100000 in
theorem slices_ContainsFunc_byte_byte_78.calls (k : Nat) (A0 : Option Addr) (c0 : Nat) (l0 : List Int) (a1 : Unit) (r : Bool) (w : World) (hr0 : Kd.C (Kd.int .u8) w A0 l0.length l0) (hc0 : l0.length ≤ c0) (h : slices_ContainsFunc_byte_byte_78.f k l0 a1 = some r) :
  Calls Try.prog 64 #[.slice A0 l0.length c0,.func (.func 78) #[] #[]] w fun e w'=>e = .returned (.bool r)∧Drawn0 w w':=by
 have HR0:=Aside0.mk hr0
 have HC0:=Aside0.mk hc0
 clear hr0 hc0
 have H : ((slices_IndexFunc_byte_byte_78.f k l0 a1).bind fun t275=>(some (decide (t275 ≥ 0)))) = some r:=h
 clear h
 replace H:=Option.bind_eq_some_iff.mp H
 obtain ⟨t275,A30,H⟩:=H
 replace H : (some (decide (t275 ≥ 0))) = some r:=H
 have A3:=Aside0.mk A30
 clear A30
 obtain rfl:=Option.some.inj H
 go_enter Try.func64,Try.ntmps64
 go_wp2_with (first|((with_reducible refine gate_callee (f:=77) rfl ?_);refine goesL_ (some 7) rfl rfl Try.func77 (by kernel_rfl) rfl #[.slice A0 l0.length c0,.func (.func 78) #[] #[]] rfl (by (try simp only [List.map_toArray,List.map_cons,List.map_nil]);first|done|rfl|(simp only [List.length_drop,List.length_take];rfl)) ?_;(with_reducible refine (slices_IndexFunc_byte_byte_78.calls k _ _ l0 a1 t275 _ ?side1 ?side2 A3.out).mono ?_);(case side1=>repeat (first|exact HR0.out|(with_reducible first|apply Kd.C_alloc|apply Kd.C_drewN|apply Kd.C_drew)));(case side2=>exact HC0.out);rintro e w' ⟨rfl,⟨nd,rfl⟩⟩;refine ⟨_,rfl,?_⟩))
 go_ret
 exact ⟨by first|rfl|(simp;done)|(simp [*];done),by repeat (first|exact Drawn0.refl _|apply Drawn0.step)⟩

/-! ### slices_IndexFunc_impl_piece_81: function 118 -/
def slices_IndexFunc_impl_piece_81.l0 : Nat → List (S80) → Int → Int → Int → Int → ByteArray → Option (Int)
 | 0,_,_,_,_,_,_=>none
 | k + 1,x0,x7,x8,x2000,x2001,x2002=>if x8 < x7 then (if 0 ≤ x8 then (if x8 < (x0.length : Int) then ((impl_Space_pieces_2.f ((rd_T80 x0 x8).f0) ((rd_T80 x0 x8).f1) ((rd_T80 x0 x8).f2) x2000 x2001 x2002).bind fun t277=>(if t277 = true then (some x8) else (slices_IndexFunc_impl_piece_81.l0 k x0 x7 (wrap64 (x8 + 1)) x2000 x2001 x2002))) else (none)) else (none)) else (some (-1))
def slices_IndexFunc_impl_piece_81.f (k : Nat) (l0 : List (S80)) (a1_0 : Int) (a1_1 : Int) (a1_2 : ByteArray) : Option (Int):=slices_IndexFunc_impl_piece_81.l0 k l0 (l0.length : Int) 0 a1_0 a1_1 a1_2
theorem slices_IndexFunc_impl_piece_81.mono_l : ∀ k,(∀ y0 y1 y2 y3 y4 y5,LeO (slices_IndexFunc_impl_piece_81.l0 k y0 y1 y2 y3 y4 y5) (slices_IndexFunc_impl_piece_81.l0 (k + 1) y0 y1 y2 y3 y4 y5))
 | 0=>fun _ _ _ _ _ _ r h=>by simp [slices_IndexFunc_impl_piece_81.l0] at h
 | k + 1=>by
  have ih0:=slices_IndexFunc_impl_piece_81.mono_l k
  ·intro y0 y1 y2 y3 y4 y5
   unfold slices_IndexFunc_impl_piece_81.l0
   repeat' first
   | (with_reducible exact ih0 _ _ _ _ _ _)
   | (with_reducible exact LeO.refl _)
   | (with_reducible exact LeO.none _)
   | (with_reducible refine LeO.ite ?_ ?_)
   | (with_reducible refine LeO.bind ?_ (fun _=>?_))
   | exact ih0 _ _ _ _ _ _
   | exact LeO.none _
   | refine LeO.ite ?_ ?_
   | refine LeO.bind ?_ (fun _=>?_)
theorem slices_IndexFunc_impl_piece_81.mono : ∀ a0 a1 a2 a3 k,LeO (slices_IndexFunc_impl_piece_81.f k a0 a1 a2 a3) (slices_IndexFunc_impl_piece_81.f (k + 1) a0 a1 a2 a3):=by
 intro a0 a1 a2 a3 k
 have ih0:=slices_IndexFunc_impl_piece_81.mono_l k
 unfold slices_IndexFunc_impl_piece_81.f
 repeat' first
   | (with_reducible exact ih0 _ _ _ _ _ _)
   | (with_reducible exact LeO.refl _)
   | (with_reducible exact LeO.none _)
   | (with_reducible refine LeO.ite ?_ ?_)
   | (with_reducible refine LeO.bind ?_ (fun _=>?_))
   | exact ih0 _ _ _ _ _ _
   | exact LeO.none _
   | refine LeO.ite ?_ ?_
   | refine LeO.bind ?_ (fun _=>?_)
set_option maxHeartbeats 8000000 in
set_option maxRecDepth 100000 in
theorem slices_IndexFunc_impl_piece_81.calls (k : Nat) (A0 : Option Addr) (c0 : Nat) (l0 : List (S80)) (g1_ : Nat) (a1_0 : Int) (a1_1 : Int) (a1_2 : ByteArray) (r : Int) (w : World) (hr0 : Kd.C k80 w A0 l0.length l0) (hc0 : l0.length ≤ c0) (hg1_ : w.heap[g1_]? = some (.cells #[.int .i64 a1_0,.int .i64 a1_1,.string a1_2] 80 (0,0))) (h : slices_IndexFunc_impl_piece_81.f k l0 a1_0 a1_1 a1_2 = some r) :
  Calls Try.prog 88 #[.slice A0 l0.length c0,.func (.func 81) #[] #[.pointer (some ⟨g1_,0,none⟩)]] w fun e w'=>e = .returned (.int .i64 r)∧Below w.heap.size w w':=by
 have hu80:=Try.underlying80
 have HR0:=Aside0.mk hr0
 have HC0:=Aside0.mk hc0
 clear hr0 hc0
 have BK1:=Aside0.mk hg1_
 clear hg1_
 have HB:=Aside0.mk (Below.refl w.heap.size w)
 have H : (slices_IndexFunc_impl_piece_81.l0 k l0 (l0.length : Int) 0 a1_0 a1_1 a1_2) = some r:=h
 clear h
 have H':=Aside0.mk H
 clear H
 go_enter Try.func88,Try.ntmps88
 go_wp2
 go_loopg [8] k (fun kq v8 w'=>∃ (x8_1 : Int),v8 = .int .i64 x8_1∧Aside0 (slices_IndexFunc_impl_piece_81.l0 kq l0 (l0.length : Int) x8_1 a1_0 a1_1 a1_2 = some r)∧Aside0 (kq ≤ k)∧Aside0 (w'.heap[g1_]? = some (.cells #[.int .i64 a1_0,.int .i64 a1_1,.string a1_2] 80 (0,0)))∧Aside0 (Below w.heap.size w w'))
 case atStart=>exact ⟨(0),(by first|rfl|(simp;done)|(simp [*];done)),H',⟨Nat.le_refl _⟩,⟨by (with_reducible repeat first|apply blk_drewN|apply blk_drew|apply blk_alloc);exact BK1.out⟩,⟨by repeat (first|(with_reducible first|exact HB.out|apply below_alloc|apply pw_below_drewN|apply below_drew1|refine below_set ?_ GE1.out)|exact HB.out)⟩⟩
 case round =>
  clear H'
  try clear p2
  obtain ⟨x8_1,rfl,HA,HK1,BK1,HB⟩:=hrel
  cases gk with
  | zero=>exact absurd HA.out (by simp [slices_IndexFunc_impl_piece_81.l0])
  | succ k1 =>
   have H:=HA.out
   clear HA
   simp only [slices_IndexFunc_impl_piece_81.l0] at H
   by_cases c3 : x8_1 < (l0.length : Int)
   ·rw [if_pos c3] at H
    have c3b0 : decide (x8_1 < (l0.length : Int)) = true:=decide_eq_true c3
    clear c3
    by_cases c4 : 0 ≤ x8_1
    ·rw [if_pos c4] at H
     have c4b0 : decide (0 ≤ x8_1) = true:=decide_eq_true c4
     clear c4
     by_cases c5 : x8_1 < (l0.length : Int)
     ·rw [if_pos c5] at H
      have c5b0 : decide (x8_1 < (l0.length : Int)) = true:=decide_eq_true c5
      clear c5
      replace H:=Option.bind_eq_some_iff.mp H
      obtain ⟨t277,A60,H⟩:=H
      replace H : (if t277 = true then (some x8_1) else (slices_IndexFunc_impl_piece_81.l0 k1 l0 (l0.length : Int) (wrap64 (x8_1 + 1)) a1_0 a1_1 a1_2)) = some r:=H
      have A6:=Aside0.mk A60
      clear A60
      by_cases c7 : t277 = true
      ·subst c7
       have H1 : (some x8_1) = some r:=by rw [if_pos rfl] at H;exact H
       clear H
       have H:=H1
       clear H1
       obtain rfl:=Option.some.inj H
       have p276 : 0 ≤ (x8_1 : Int):=of_decide_eq_true (by assumption)
       have q276 : x8_1 < (l0.length : Int):=of_decide_eq_true (by assumption)
       obtain ⟨ad276,e276,hx276_0,hx276_1,hx276_2⟩:=at_T80 HR0.out x8_1 p276 q276
       cases e276
       (try replace hx276_0:=(HB.out.cell (World.block_lt_of_cell? w _ hx276_0)).trans hx276_0)
       (try replace hx276_1:=(HB.out.cell (World.block_lt_of_cell? w _ hx276_1)).trans hx276_1)
       (try replace hx276_2:=(HB.out.cell (World.block_lt_of_cell? w _ hx276_2)).trans hx276_2)
       replace p276:=eq_true p276
       replace q276:=eq_true q276
       go_wp2_with (first|((with_reducible refine gate_calleev (c:=.tmp 11) rfl ?_);refine goesLc_ (some 16) rfl rfl Try.func81 (by kernel_rfl) rfl #[.agg #[.int .i64 ((rd_T80 l0 x8_1).f0),.int .i64 ((rd_T80 l0 x8_1).f1),.string ((rd_T80 l0 x8_1).f2)]] rfl (by first|rfl|(go_simp;done)) (by (try simp only [List.map_toArray,List.map_cons,List.map_nil]);first|done|rfl|(simp only [List.length_drop,List.length_take];rfl)) #[.agg #[.int .i64 ((rd_T80 l0 x8_1).f0),.int .i64 ((rd_T80 l0 x8_1).f1),.string ((rd_T80 l0 x8_1).f2)],.pointer (some ⟨g1_,0,none⟩)] (by first|rfl|simp) ?_;(with_reducible refine (impl_Space_pieces_2.calls ((rd_T80 l0 x8_1).f0) ((rd_T80 l0 x8_1).f1) ((rd_T80 l0 x8_1).f2) g1_ a1_0 a1_1 a1_2 true _ ?side1 A6.out).mono ?_);(case side1=>exact by (with_reducible repeat first|apply blk_drewN|apply blk_drew|apply blk_alloc);exact BK1.out);rintro e w8 ⟨rfl,hb⟩;refine ⟨_,rfl,?_⟩;have n0_:=Aside0.mk (blk_below (g:=g1_) (o:=.cells #[.int .i64 a1_0,.int .i64 a1_1,.string a1_2] 80 (0,0)) (by (with_reducible repeat first|apply blk_drewN|apply blk_drew|apply blk_alloc);exact BK1.out) hb);have n1_:=Aside0.mk (below_step (by repeat (first|(with_reducible first|exact HB.out|apply below_alloc|apply pw_below_drewN|apply below_drew1|refine below_set ?_ GE1.out)|exact HB.out)) hb);clear BK1;clear HB;have BK1:=n0_;have HB:=n1_;clear n0_ n1_;(try clear hb);(try clear hb2);(try clear hk);(try clear hi)))
       go_ret
       exact ⟨by first|rfl|(simp [*,errW_none,errW_some] <;> rfl),by repeat (first|(with_reducible first|exact HB.out|apply below_alloc|apply pw_below_drewN|apply below_drew1|refine below_set ?_ GE1.out)|exact HB.out)⟩
      ·replace c7:=Bool.eq_false_iff.mpr c7
       subst c7
       have H1 : (slices_IndexFunc_impl_piece_81.l0 k1 l0 (l0.length : Int) (wrap64 (x8_1 + 1)) a1_0 a1_1 a1_2) = some r:=by rw [if_neg (show ¬ (false = true) by decide)] at H;exact H
       clear H
       have H:=H1
       clear H1
       have H':=Aside0.mk H
       clear H
       have p276 : 0 ≤ (x8_1 : Int):=of_decide_eq_true (by assumption)
       have q276 : x8_1 < (l0.length : Int):=of_decide_eq_true (by assumption)
       obtain ⟨ad276,e276,hx276_0,hx276_1,hx276_2⟩:=at_T80 HR0.out x8_1 p276 q276
       cases e276
       (try replace hx276_0:=(HB.out.cell (World.block_lt_of_cell? w _ hx276_0)).trans hx276_0)
       (try replace hx276_1:=(HB.out.cell (World.block_lt_of_cell? w _ hx276_1)).trans hx276_1)
       (try replace hx276_2:=(HB.out.cell (World.block_lt_of_cell? w _ hx276_2)).trans hx276_2)
       replace p276:=eq_true p276
       replace q276:=eq_true q276
       go_wp2_with (first|((with_reducible refine gate_calleev (c:=.tmp 11) rfl ?_);refine goesLc_ (some 16) rfl rfl Try.func81 (by kernel_rfl) rfl #[.agg #[.int .i64 ((rd_T80 l0 x8_1).f0),.int .i64 ((rd_T80 l0 x8_1).f1),.string ((rd_T80 l0 x8_1).f2)]] rfl (by first|rfl|(go_simp;done)) (by (try simp only [List.map_toArray,List.map_cons,List.map_nil]);first|done|rfl|(simp only [List.length_drop,List.length_take];rfl)) #[.agg #[.int .i64 ((rd_T80 l0 x8_1).f0),.int .i64 ((rd_T80 l0 x8_1).f1),.string ((rd_T80 l0 x8_1).f2)],.pointer (some ⟨g1_,0,none⟩)] (by first|rfl|simp) ?_;(with_reducible refine (impl_Space_pieces_2.calls ((rd_T80 l0 x8_1).f0) ((rd_T80 l0 x8_1).f1) ((rd_T80 l0 x8_1).f2) g1_ a1_0 a1_1 a1_2 false _ ?side1 A6.out).mono ?_);(case side1=>exact by (with_reducible repeat first|apply blk_drewN|apply blk_drew|apply blk_alloc);exact BK1.out);rintro e w9 ⟨rfl,hb⟩;refine ⟨_,rfl,?_⟩;have n0_:=Aside0.mk (blk_below (g:=g1_) (o:=.cells #[.int .i64 a1_0,.int .i64 a1_1,.string a1_2] 80 (0,0)) (by (with_reducible repeat first|apply blk_drewN|apply blk_drew|apply blk_alloc);exact BK1.out) hb);have n1_:=Aside0.mk (below_step (by repeat (first|(with_reducible first|exact HB.out|apply below_alloc|apply pw_below_drewN|apply below_drew1|refine below_set ?_ GE1.out)|exact HB.out)) hb);clear BK1;clear HB;have BK1:=n0_;have HB:=n1_;clear n0_ n1_;(try clear hb);(try clear hb2);(try clear hk);(try clear hi)))
       go_roundg k1
       case measure=>have:=HK1.out;omega
       case rel=>exact ⟨(wrap64 (x8_1 + 1)),(by first|rfl|(simp;done)|(simp [*];done)),H',⟨by have:=HK1.out;omega⟩,⟨by (with_reducible repeat first|apply blk_drewN|apply blk_drew|apply blk_alloc);exact BK1.out⟩,⟨by repeat (first|(with_reducible first|exact HB.out|apply below_alloc|apply pw_below_drewN|apply below_drew1|refine below_set ?_ GE1.out)|exact HB.out)⟩⟩
     ·rw [if_neg c5] at H
      exact absurd H (by simp)
    ·rw [if_neg c4] at H
     exact absurd H (by simp)
   ·rw [if_neg c3] at H
    have c3b0 : decide (x8_1 < (l0.length : Int)) = false:=decide_eq_false c3
    clear c3
    obtain rfl:=Option.some.inj H
    go_wp2
    go_ret
    exact ⟨by first|rfl|(simp [*,errW_none,errW_some] <;> rfl),by repeat (first|(with_reducible first|exact HB.out|apply below_alloc|apply pw_below_drewN|apply below_drew1|refine below_set ?_ GE1.out)|exact HB.out)⟩

/-! ### slices_ContainsFunc_impl_piece_81: function 117 -/
def slices_ContainsFunc_impl_piece_81.f (k : Nat) (l0 : List (S80)) (a1_0 : Int) (a1_1 : Int) (a1_2 : ByteArray) : Option (Bool):=(slices_IndexFunc_impl_piece_81.f k l0 a1_0 a1_1 a1_2).bind fun t278=>(some (decide (t278 ≥ 0)))
theorem slices_ContainsFunc_impl_piece_81.mono : ∀ a0 a1 a2 a3 k,LeO (slices_ContainsFunc_impl_piece_81.f k a0 a1 a2 a3) (slices_ContainsFunc_impl_piece_81.f (k + 1) a0 a1 a2 a3):=by
 intro a0 a1 a2 a3 k
 unfold slices_ContainsFunc_impl_piece_81.f
 repeat' first
   | (with_reducible exact slices_IndexFunc_impl_piece_81.mono _ _ _ _ _)
   | (with_reducible exact LeO.refl _)
   | (with_reducible exact LeO.none _)
   | (with_reducible refine LeO.ite ?_ ?_)
   | (with_reducible refine LeO.bind ?_ (fun _=>?_))
   | exact slices_IndexFunc_impl_piece_81.mono _ _ _ _ _
   | exact LeO.none _
   | refine LeO.ite ?_ ?_
   | refine LeO.bind ?_ (fun _=>?_)
set_option maxHeartbeats 8000000 in
set_option maxRecDepth 100000 in
theorem slices_ContainsFunc_impl_piece_81.calls (k : Nat) (A0 : Option Addr) (c0 : Nat) (l0 : List (S80)) (g1_ : Nat) (a1_0 : Int) (a1_1 : Int) (a1_2 : ByteArray) (r : Bool) (w : World) (hr0 : Kd.C k80 w A0 l0.length l0) (hc0 : l0.length ≤ c0) (hg1_ : w.heap[g1_]? = some (.cells #[.int .i64 a1_0,.int .i64 a1_1,.string a1_2] 80 (0,0))) (h : slices_ContainsFunc_impl_piece_81.f k l0 a1_0 a1_1 a1_2 = some r) :
  Calls Try.prog 80 #[.slice A0 l0.length c0,.func (.func 81) #[] #[.pointer (some ⟨g1_,0,none⟩)]] w fun e w'=>e = .returned (.bool r)∧Below w.heap.size w w':=by
 have HR0:=Aside0.mk hr0
 have HC0:=Aside0.mk hc0
 clear hr0 hc0
 have BK1:=Aside0.mk hg1_
 clear hg1_
 have HB:=Aside0.mk (Below.refl w.heap.size w)
 have H : ((slices_IndexFunc_impl_piece_81.f k l0 a1_0 a1_1 a1_2).bind fun t278=>(some (decide (t278 ≥ 0)))) = some r:=h
 clear h
 replace H:=Option.bind_eq_some_iff.mp H
 obtain ⟨t278,A30,H⟩:=H
 replace H : (some (decide (t278 ≥ 0))) = some r:=H
 have A3:=Aside0.mk A30
 clear A30
 obtain rfl:=Option.some.inj H
 go_enter Try.func80,Try.ntmps80
 go_wp2_with (first|((with_reducible refine gate_callee (f:=88) rfl ?_);refine goesL_ (some 7) rfl rfl Try.func88 (by kernel_rfl) rfl #[.slice A0 l0.length c0,.func (.func 81) #[] #[.pointer (some ⟨g1_,0,none⟩)]] rfl (by (try simp only [List.map_toArray,List.map_cons,List.map_nil]);first|done|rfl|(simp only [List.length_drop,List.length_take];rfl)) ?_;(with_reducible refine (slices_IndexFunc_impl_piece_81.calls k _ _ l0 g1_ a1_0 a1_1 a1_2 t278 _ ?side1 ?side2 ?side3 A3.out).mono ?_);(case side1=>repeat (first|exact HR0.out|(with_reducible first|apply Kd.C_alloc|apply Kd.C_drewN|apply Kd.C_drew)));(case side2=>exact HC0.out);(case side3=>exact by (with_reducible repeat first|apply blk_drewN|apply blk_drew|apply blk_alloc);exact BK1.out);rintro e w4 ⟨rfl,hb⟩;refine ⟨_,rfl,?_⟩;have n0_:=Aside0.mk (blk_below (g:=g1_) (o:=.cells #[.int .i64 a1_0,.int .i64 a1_1,.string a1_2] 80 (0,0)) (by (with_reducible repeat first|apply blk_drewN|apply blk_drew|apply blk_alloc);exact BK1.out) hb);have n1_:=Aside0.mk (below_step (by repeat (first|(with_reducible first|exact HB.out|apply below_alloc|apply pw_below_drewN|apply below_drew1|refine below_set ?_ GE1.out)|exact HB.out)) hb);clear BK1;clear HB;have BK1:=n0_;have HB:=n1_;clear n0_ n1_;(try clear hb);(try clear hb2);(try clear hk);(try clear hi)))
 go_ret
 exact ⟨by first|rfl|(simp [*,errW_none,errW_some] <;> rfl),by repeat (first|(with_reducible first|exact HB.out|apply below_alloc|apply pw_below_drewN|apply below_drew1|refine below_set ?_ GE1.out)|exact HB.out)⟩

end Go.Proofs.Ytggnbbbhlnjleaa.PFnExactTextIn
