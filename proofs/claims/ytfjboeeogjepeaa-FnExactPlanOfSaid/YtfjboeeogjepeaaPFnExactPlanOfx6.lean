-- Written by a program of this session over the print of the kit (wip/t/patch_print.py).
import Derived.Test.YtfjboeeogjepeaaPFnExactPlanOfx0
import Derived.Test.YtfjboeeogjepeaaPFnExactPlanOfx5
namespace Go.Proofs.Ytfjboeeogjepeaa.PFnExactPlanOf
open Go.RowKit Go.Proofs.YtfjboeeogjepeaaW.PrintWords Go.Proofs.YtfjboeeogjepeaaW.PrintLast Go.Proofs.YtfjboeeogjepeaaW.PrintMore
attribute [local go_sem] max2_int min2_int max_two min_two max_three min_three max_four min_four   -- for this text's walks alone
set_option linter.unusedVariables false
set_option linter.unusedSimpArgs false

/-! ### impl_isGroup: function 43 -/
def impl_isGroup.l0 : Nat → List (S59) → List (S59) → Int → Int → Option (Bool)
 | 0,_,_,_,_=>none
 | k + 1,x0,x5,x6,x7=>if x7 < x6 then (if 0 ≤ x7 then (if x7 < (x5.length : Int) then (if ((rd_T59 x5 x7).f0) < 0 then (some false) else (if ((rd_T59 x5 x7).f0) ≥ 160 then (some false) else (if ((rd_T59 x5 x7).f0) > 1 then (if ((rd_T59 x5 x7).f0) < 33 then (some false) else (if x7 > 0 then (if 0 ≤ (wrap64 (x7 - 1)) then (if (wrap64 (x7 - 1)) < (x0.length : Int) then (if ((rd_T59 x5 x7).f0) ≤ ((rd_T59 x0 (wrap64 (x7 - 1))).f0) then (some false) else (if (((rd_T59 x5 x7).f1).length : Int) = 128 then (impl_isGroup.l0 k x0 x5 x6 (wrap64 (x7 + 1))) else (some false))) else (none)) else (none)) else (if (((rd_T59 x5 x7).f1).length : Int) = 128 then (impl_isGroup.l0 k x0 x5 x6 (wrap64 (x7 + 1))) else (some false)))) else (if x7 > 0 then (if 0 ≤ (wrap64 (x7 - 1)) then (if (wrap64 (x7 - 1)) < (x0.length : Int) then (if ((rd_T59 x5 x7).f0) ≤ ((rd_T59 x0 (wrap64 (x7 - 1))).f0) then (some false) else (if (((rd_T59 x5 x7).f1).length : Int) = 128 then (impl_isGroup.l0 k x0 x5 x6 (wrap64 (x7 + 1))) else (some false))) else (none)) else (none)) else (if (((rd_T59 x5 x7).f1).length : Int) = 128 then (impl_isGroup.l0 k x0 x5 x6 (wrap64 (x7 + 1))) else (some false)))))) else (none)) else (none)) else ((impl_within.f (x0.length : Int) 1 30).bind fun t248=>(some t248))
def impl_isGroup.f (k : Nat) (l0 : List (S59)) : Option (Bool):=impl_isGroup.l0 k l0 l0 (l0.length : Int) 0
theorem impl_isGroup.mono_l : ∀ k,(∀ y0 y1 y2 y3,LeO (impl_isGroup.l0 k y0 y1 y2 y3) (impl_isGroup.l0 (k + 1) y0 y1 y2 y3))
 | 0=>fun _ _ _ _ r h=>by simp [impl_isGroup.l0] at h
 | k + 1=>by
  have ih0:=impl_isGroup.mono_l k
  ·intro y0 y1 y2 y3
   unfold impl_isGroup.l0
   repeat' first
   | (with_reducible exact ih0 _ _ _ _)
   | (with_reducible exact LeO.refl _)
   | (with_reducible exact LeO.none _)
   | (with_reducible refine LeO.ite ?_ ?_)
   | (with_reducible refine LeO.bind ?_ (fun _=>?_))
   | exact ih0 _ _ _ _
   | exact LeO.none _
   | refine LeO.ite ?_ ?_
   | refine LeO.bind ?_ (fun _=>?_)
theorem impl_isGroup.mono : ∀ a0 k,LeO (impl_isGroup.f k a0) (impl_isGroup.f (k + 1) a0):=by
 intro a0 k
 have ih0:=impl_isGroup.mono_l k
 unfold impl_isGroup.f
 repeat' first
   | (with_reducible exact ih0 _ _ _ _)
   | (with_reducible exact LeO.refl _)
   | (with_reducible exact LeO.none _)
   | (with_reducible refine LeO.ite ?_ ?_)
   | (with_reducible refine LeO.bind ?_ (fun _=>?_))
   | exact ih0 _ _ _ _
   | exact LeO.none _
   | refine LeO.ite ?_ ?_
   | refine LeO.bind ?_ (fun _=>?_)
set_option maxHeartbeats 8000000 in
set_option maxRecDepth 100000 in
theorem impl_isGroup.calls (k : Nat) (A0 : Option Addr) (c0 : Nat) (l0 : List (S59)) (r : Bool) (w : World) (hr0 : Kd.C k59 w A0 l0.length l0) (hc0 : l0.length ≤ c0) (h : impl_isGroup.f k l0 = some r) :
  Calls Try.prog 43 #[.slice A0 l0.length c0] w fun e w'=>e = .returned (.bool r)∧Below w.heap.size w w':=by
 have hu59:=Try.underlying59
 have HR0:=Aside0.mk hr0
 have HC0:=Aside0.mk hc0
 clear hr0 hc0
 have HB:=Aside0.mk (Below.refl w.heap.size w)
 have H : (impl_isGroup.l0 k l0 l0 (l0.length : Int) 0) = some r:=h
 clear h
 have H':=Aside0.mk H
 clear H
 go_enter Try.func43,Try.ntmps43
 go_wp2
 repeat (go_quiet (fail);try go_wp2)
 go_loopg [7] k (fun kq v7 w'=>∃ (x7_1 : Int),v7 = .int .i64 x7_1∧Aside0 (impl_isGroup.l0 kq l0 l0 (l0.length : Int) x7_1 = some r)∧Aside0 (kq ≤ k)∧Aside0 (Below w.heap.size w w'))
 case atStart=>exact ⟨(0),(by first|rfl|(simp;done)|(simp [*];done)),H',⟨Nat.le_refl _⟩,⟨by repeat (first|exact HB.out|apply below_alloc|apply pw_below_drewN|apply below_drew1)⟩⟩
 case round =>
  clear H'
  obtain ⟨x7_1,rfl,HA,HK1,HB⟩:=hrel
  cases gk with
  | zero=>exact absurd HA.out (by simp [impl_isGroup.l0])
  | succ k1 =>
   have H:=HA.out
   clear HA
   simp only [impl_isGroup.l0] at H
   by_cases c2 : x7_1 < (l0.length : Int)
   ·rw [if_pos c2] at H
    have c2b0 : decide (x7_1 < (l0.length : Int)) = true:=decide_eq_true c2
    clear c2
    by_cases c3 : 0 ≤ x7_1
    ·rw [if_pos c3] at H
     have c3b0 : decide (0 ≤ x7_1) = true:=decide_eq_true c3
     clear c3
     by_cases c4 : x7_1 < (l0.length : Int)
     ·rw [if_pos c4] at H
      have c4b0 : decide (x7_1 < (l0.length : Int)) = true:=decide_eq_true c4
      clear c4
      by_cases c5 : ((rd_T59 l0 x7_1).f0) < 0
      ·rw [if_pos c5] at H
       have c5b0 : decide (((rd_T59 l0 x7_1).f0) < 0) = true:=decide_eq_true c5
       clear c5
       obtain rfl:=Option.some.inj H
       have p244 : 0 ≤ (x7_1 : Int):=of_decide_eq_true (by assumption)
       have q244 : x7_1 < (l0.length : Int):=of_decide_eq_true (by assumption)
       obtain ⟨ad244,A244_1,c244_1,e244,hx244_0,hx244_1,hl244_1,hi244_1⟩:=at_T59 HR0.out x7_1 p244 q244
       cases e244
       (try replace hx244_0:=(HB.out.cell (World.block_lt_of_cell? w _ hx244_0)).trans hx244_0)
       (try replace hx244_1:=(HB.out.cell (World.block_lt_of_cell? w _ hx244_1)).trans hx244_1)
       have HR244_1:=Aside0.mk hi244_1
       have HC244_1:=Aside0.mk hl244_1
       clear hi244_1 hl244_1
       replace p244:=eq_true p244
       replace q244:=eq_true q244
       go_wp2_with (first|((with_reducible refine gate_dst (N:=4) rfl ?_);(try (refine gate_guard (by rfl) ?_;dsimp only));refine box_event ?hg (N:=4) ?hd (cs:=#[.int .i64 0,.slice none 0 0]) (t:=59) ?hr ?_;(case hd=>rfl);(case hg=>rfl);(case hr=>first|(go_simp;done)|(go_simp;rfl));intro gb245 hg w6 hbox hb;have n0_:=Aside0.mk (below_step (by repeat (first|exact HB.out|apply below_alloc|apply pw_below_drewN|apply below_drew1)) hb);have n1_:=Aside0.mk (hbox);have n2_:=Aside0.mk ((by rw [hg];exact (below_size (by repeat (first|exact HB.out|apply below_alloc|apply pw_below_drewN|apply below_drew1))) : w.heap.size ≤ gb245));have n3_:=Aside0.mk ((by rw [hg];exact (below_size (by repeat (first|exact HB.out|apply below_alloc|apply pw_below_drewN|apply below_drew1))) : w.heap.size ≤ gb245));clear HB;have HB:=n0_;have BK245:=n1_;have GW245:=n2_;have GE245:=n3_;clear n0_ n1_ n2_ n3_;clear hb hbox hg;have hcz7_0 : w6.cell? ⟨gb245,0,none⟩ = some (.int .i64 0):=(blk_cell BK245.out 0).trans rfl;have hcz7_1 : w6.cell? ⟨gb245,1,none⟩ = some (.slice none 0 0):=(blk_cell BK245.out 1).trans rfl;have hfz7_0:=blk_frozen BK245.out 0;have hfz7_1:=blk_frozen BK245.out 1))
       repeat (go_quiet (first|((with_reducible refine gate_dst (N:=4) rfl ?_);(try (refine gate_guard (by rfl) ?_;dsimp only));refine box_event ?hg (N:=4) ?hd (cs:=#[.int .i64 0,.slice none 0 0]) (t:=59) ?hr ?_;(case hd=>rfl);(case hg=>rfl);(case hr=>first|(go_simp;done)|(go_simp;rfl));intro gb245 hg w6 hbox hb;have n0_:=Aside0.mk (below_step (by repeat (first|exact HB.out|apply below_alloc|apply pw_below_drewN|apply below_drew1)) hb);have n1_:=Aside0.mk (hbox);have n2_:=Aside0.mk ((by rw [hg];exact (below_size (by repeat (first|exact HB.out|apply below_alloc|apply pw_below_drewN|apply below_drew1))) : w.heap.size ≤ gb245));have n3_:=Aside0.mk ((by rw [hg];exact (below_size (by repeat (first|exact HB.out|apply below_alloc|apply pw_below_drewN|apply below_drew1))) : w.heap.size ≤ gb245));clear HB;have HB:=n0_;have BK245:=n1_;have GW245:=n2_;have GE245:=n3_;clear n0_ n1_ n2_ n3_;clear hb hbox hg;have hcz7_0 : w6.cell? ⟨gb245,0,none⟩ = some (.int .i64 0):=(blk_cell BK245.out 0).trans rfl;have hcz7_1 : w6.cell? ⟨gb245,1,none⟩ = some (.slice none 0 0):=(blk_cell BK245.out 1).trans rfl;have hfz7_0:=blk_frozen BK245.out 0;have hfz7_1:=blk_frozen BK245.out 1));try go_wp2_with (first|((with_reducible refine gate_dst (N:=4) rfl ?_);(try (refine gate_guard (by rfl) ?_;dsimp only));refine box_event ?hg (N:=4) ?hd (cs:=#[.int .i64 0,.slice none 0 0]) (t:=59) ?hr ?_;(case hd=>rfl);(case hg=>rfl);(case hr=>first|(go_simp;done)|(go_simp;rfl));intro gb245 hg w6 hbox hb;have n0_:=Aside0.mk (below_step (by repeat (first|exact HB.out|apply below_alloc|apply pw_below_drewN|apply below_drew1)) hb);have n1_:=Aside0.mk (hbox);have n2_:=Aside0.mk ((by rw [hg];exact (below_size (by repeat (first|exact HB.out|apply below_alloc|apply pw_below_drewN|apply below_drew1))) : w.heap.size ≤ gb245));have n3_:=Aside0.mk ((by rw [hg];exact (below_size (by repeat (first|exact HB.out|apply below_alloc|apply pw_below_drewN|apply below_drew1))) : w.heap.size ≤ gb245));clear HB;have HB:=n0_;have BK245:=n1_;have GW245:=n2_;have GE245:=n3_;clear n0_ n1_ n2_ n3_;clear hb hbox hg;have hcz7_0 : w6.cell? ⟨gb245,0,none⟩ = some (.int .i64 0):=(blk_cell BK245.out 0).trans rfl;have hcz7_1 : w6.cell? ⟨gb245,1,none⟩ = some (.slice none 0 0):=(blk_cell BK245.out 1).trans rfl;have hfz7_0:=blk_frozen BK245.out 0;have hfz7_1:=blk_frozen BK245.out 1)))
       go_ret
       exact ⟨by first|rfl|(simp [*,errW_none,errW_some] <;> rfl),by repeat (first|(with_reducible first|exact HB.out|apply below_alloc|apply pw_below_drewN|apply below_drew1|refine below_set ?_ GE245.out)|exact HB.out)⟩
      ·rw [if_neg c5] at H
       have c5b0 : decide (((rd_T59 l0 x7_1).f0) < 0) = false:=decide_eq_false c5
       clear c5
       by_cases c8 : ((rd_T59 l0 x7_1).f0) ≥ 160
       ·rw [if_pos c8] at H
        have c8b0 : decide (160 ≤ ((rd_T59 l0 x7_1).f0)) = true:=decide_eq_true c8
        clear c8
        obtain rfl:=Option.some.inj H
        have p244 : 0 ≤ (x7_1 : Int):=of_decide_eq_true (by assumption)
        have q244 : x7_1 < (l0.length : Int):=of_decide_eq_true (by assumption)
        obtain ⟨ad244,A244_1,c244_1,e244,hx244_0,hx244_1,hl244_1,hi244_1⟩:=at_T59 HR0.out x7_1 p244 q244
        cases e244
        (try replace hx244_0:=(HB.out.cell (World.block_lt_of_cell? w _ hx244_0)).trans hx244_0)
        (try replace hx244_1:=(HB.out.cell (World.block_lt_of_cell? w _ hx244_1)).trans hx244_1)
        have HR244_1:=Aside0.mk hi244_1
        have HC244_1:=Aside0.mk hl244_1
        clear hi244_1 hl244_1
        replace p244:=eq_true p244
        replace q244:=eq_true q244
        go_wp2_with (first|((with_reducible refine gate_dst (N:=4) rfl ?_);(try (refine gate_guard (by rfl) ?_;dsimp only));refine box_event ?hg (N:=4) ?hd (cs:=#[.int .i64 0,.slice none 0 0]) (t:=59) ?hr ?_;(case hd=>rfl);(case hg=>rfl);(case hr=>first|(go_simp;done)|(go_simp;rfl));intro gb245 hg w9 hbox hb;have n0_:=Aside0.mk (below_step (by repeat (first|exact HB.out|apply below_alloc|apply pw_below_drewN|apply below_drew1)) hb);have n1_:=Aside0.mk (hbox);have n2_:=Aside0.mk ((by rw [hg];exact (below_size (by repeat (first|exact HB.out|apply below_alloc|apply pw_below_drewN|apply below_drew1))) : w.heap.size ≤ gb245));have n3_:=Aside0.mk ((by rw [hg];exact (below_size (by repeat (first|exact HB.out|apply below_alloc|apply pw_below_drewN|apply below_drew1))) : w.heap.size ≤ gb245));clear HB;have HB:=n0_;have BK245:=n1_;have GW245:=n2_;have GE245:=n3_;clear n0_ n1_ n2_ n3_;clear hb hbox hg;have hcz10_0 : w9.cell? ⟨gb245,0,none⟩ = some (.int .i64 0):=(blk_cell BK245.out 0).trans rfl;have hcz10_1 : w9.cell? ⟨gb245,1,none⟩ = some (.slice none 0 0):=(blk_cell BK245.out 1).trans rfl;have hfz10_0:=blk_frozen BK245.out 0;have hfz10_1:=blk_frozen BK245.out 1))
        repeat (go_quiet (first|((with_reducible refine gate_dst (N:=4) rfl ?_);(try (refine gate_guard (by rfl) ?_;dsimp only));refine box_event ?hg (N:=4) ?hd (cs:=#[.int .i64 0,.slice none 0 0]) (t:=59) ?hr ?_;(case hd=>rfl);(case hg=>rfl);(case hr=>first|(go_simp;done)|(go_simp;rfl));intro gb245 hg w9 hbox hb;have n0_:=Aside0.mk (below_step (by repeat (first|exact HB.out|apply below_alloc|apply pw_below_drewN|apply below_drew1)) hb);have n1_:=Aside0.mk (hbox);have n2_:=Aside0.mk ((by rw [hg];exact (below_size (by repeat (first|exact HB.out|apply below_alloc|apply pw_below_drewN|apply below_drew1))) : w.heap.size ≤ gb245));have n3_:=Aside0.mk ((by rw [hg];exact (below_size (by repeat (first|exact HB.out|apply below_alloc|apply pw_below_drewN|apply below_drew1))) : w.heap.size ≤ gb245));clear HB;have HB:=n0_;have BK245:=n1_;have GW245:=n2_;have GE245:=n3_;clear n0_ n1_ n2_ n3_;clear hb hbox hg;have hcz10_0 : w9.cell? ⟨gb245,0,none⟩ = some (.int .i64 0):=(blk_cell BK245.out 0).trans rfl;have hcz10_1 : w9.cell? ⟨gb245,1,none⟩ = some (.slice none 0 0):=(blk_cell BK245.out 1).trans rfl;have hfz10_0:=blk_frozen BK245.out 0;have hfz10_1:=blk_frozen BK245.out 1));try go_wp2_with (first|((with_reducible refine gate_dst (N:=4) rfl ?_);(try (refine gate_guard (by rfl) ?_;dsimp only));refine box_event ?hg (N:=4) ?hd (cs:=#[.int .i64 0,.slice none 0 0]) (t:=59) ?hr ?_;(case hd=>rfl);(case hg=>rfl);(case hr=>first|(go_simp;done)|(go_simp;rfl));intro gb245 hg w9 hbox hb;have n0_:=Aside0.mk (below_step (by repeat (first|exact HB.out|apply below_alloc|apply pw_below_drewN|apply below_drew1)) hb);have n1_:=Aside0.mk (hbox);have n2_:=Aside0.mk ((by rw [hg];exact (below_size (by repeat (first|exact HB.out|apply below_alloc|apply pw_below_drewN|apply below_drew1))) : w.heap.size ≤ gb245));have n3_:=Aside0.mk ((by rw [hg];exact (below_size (by repeat (first|exact HB.out|apply below_alloc|apply pw_below_drewN|apply below_drew1))) : w.heap.size ≤ gb245));clear HB;have HB:=n0_;have BK245:=n1_;have GW245:=n2_;have GE245:=n3_;clear n0_ n1_ n2_ n3_;clear hb hbox hg;have hcz10_0 : w9.cell? ⟨gb245,0,none⟩ = some (.int .i64 0):=(blk_cell BK245.out 0).trans rfl;have hcz10_1 : w9.cell? ⟨gb245,1,none⟩ = some (.slice none 0 0):=(blk_cell BK245.out 1).trans rfl;have hfz10_0:=blk_frozen BK245.out 0;have hfz10_1:=blk_frozen BK245.out 1)))
        go_ret
        exact ⟨by first|rfl|(simp [*,errW_none,errW_some] <;> rfl),by repeat (first|(with_reducible first|exact HB.out|apply below_alloc|apply pw_below_drewN|apply below_drew1|refine below_set ?_ GE245.out)|exact HB.out)⟩
       ·rw [if_neg c8] at H
        have c8b0 : decide (160 ≤ ((rd_T59 l0 x7_1).f0)) = false:=decide_eq_false c8
        clear c8
        by_cases c11 : ((rd_T59 l0 x7_1).f0) > 1
        ·rw [if_pos c11] at H
         have c11b0 : decide (1 < ((rd_T59 l0 x7_1).f0)) = true:=decide_eq_true c11
         clear c11
         by_cases c12 : ((rd_T59 l0 x7_1).f0) < 33
         ·rw [if_pos c12] at H
          have c12b0 : decide (((rd_T59 l0 x7_1).f0) < 33) = true:=decide_eq_true c12
          clear c12
          obtain rfl:=Option.some.inj H
          have p244 : 0 ≤ (x7_1 : Int):=of_decide_eq_true (by assumption)
          have q244 : x7_1 < (l0.length : Int):=of_decide_eq_true (by assumption)
          obtain ⟨ad244,A244_1,c244_1,e244,hx244_0,hx244_1,hl244_1,hi244_1⟩:=at_T59 HR0.out x7_1 p244 q244
          cases e244
          (try replace hx244_0:=(HB.out.cell (World.block_lt_of_cell? w _ hx244_0)).trans hx244_0)
          (try replace hx244_1:=(HB.out.cell (World.block_lt_of_cell? w _ hx244_1)).trans hx244_1)
          have HR244_1:=Aside0.mk hi244_1
          have HC244_1:=Aside0.mk hl244_1
          clear hi244_1 hl244_1
          replace p244:=eq_true p244
          replace q244:=eq_true q244
          go_wp2_with (first|((with_reducible refine gate_dst (N:=4) rfl ?_);(try (refine gate_guard (by rfl) ?_;dsimp only));refine box_event ?hg (N:=4) ?hd (cs:=#[.int .i64 0,.slice none 0 0]) (t:=59) ?hr ?_;(case hd=>rfl);(case hg=>rfl);(case hr=>first|(go_simp;done)|(go_simp;rfl));intro gb245 hg w13 hbox hb;have n0_:=Aside0.mk (below_step (by repeat (first|exact HB.out|apply below_alloc|apply pw_below_drewN|apply below_drew1)) hb);have n1_:=Aside0.mk (hbox);have n2_:=Aside0.mk ((by rw [hg];exact (below_size (by repeat (first|exact HB.out|apply below_alloc|apply pw_below_drewN|apply below_drew1))) : w.heap.size ≤ gb245));have n3_:=Aside0.mk ((by rw [hg];exact (below_size (by repeat (first|exact HB.out|apply below_alloc|apply pw_below_drewN|apply below_drew1))) : w.heap.size ≤ gb245));clear HB;have HB:=n0_;have BK245:=n1_;have GW245:=n2_;have GE245:=n3_;clear n0_ n1_ n2_ n3_;clear hb hbox hg;have hcz14_0 : w13.cell? ⟨gb245,0,none⟩ = some (.int .i64 0):=(blk_cell BK245.out 0).trans rfl;have hcz14_1 : w13.cell? ⟨gb245,1,none⟩ = some (.slice none 0 0):=(blk_cell BK245.out 1).trans rfl;have hfz14_0:=blk_frozen BK245.out 0;have hfz14_1:=blk_frozen BK245.out 1))
          repeat (go_quiet (first|((with_reducible refine gate_dst (N:=4) rfl ?_);(try (refine gate_guard (by rfl) ?_;dsimp only));refine box_event ?hg (N:=4) ?hd (cs:=#[.int .i64 0,.slice none 0 0]) (t:=59) ?hr ?_;(case hd=>rfl);(case hg=>rfl);(case hr=>first|(go_simp;done)|(go_simp;rfl));intro gb245 hg w13 hbox hb;have n0_:=Aside0.mk (below_step (by repeat (first|exact HB.out|apply below_alloc|apply pw_below_drewN|apply below_drew1)) hb);have n1_:=Aside0.mk (hbox);have n2_:=Aside0.mk ((by rw [hg];exact (below_size (by repeat (first|exact HB.out|apply below_alloc|apply pw_below_drewN|apply below_drew1))) : w.heap.size ≤ gb245));have n3_:=Aside0.mk ((by rw [hg];exact (below_size (by repeat (first|exact HB.out|apply below_alloc|apply pw_below_drewN|apply below_drew1))) : w.heap.size ≤ gb245));clear HB;have HB:=n0_;have BK245:=n1_;have GW245:=n2_;have GE245:=n3_;clear n0_ n1_ n2_ n3_;clear hb hbox hg;have hcz14_0 : w13.cell? ⟨gb245,0,none⟩ = some (.int .i64 0):=(blk_cell BK245.out 0).trans rfl;have hcz14_1 : w13.cell? ⟨gb245,1,none⟩ = some (.slice none 0 0):=(blk_cell BK245.out 1).trans rfl;have hfz14_0:=blk_frozen BK245.out 0;have hfz14_1:=blk_frozen BK245.out 1));try go_wp2_with (first|((with_reducible refine gate_dst (N:=4) rfl ?_);(try (refine gate_guard (by rfl) ?_;dsimp only));refine box_event ?hg (N:=4) ?hd (cs:=#[.int .i64 0,.slice none 0 0]) (t:=59) ?hr ?_;(case hd=>rfl);(case hg=>rfl);(case hr=>first|(go_simp;done)|(go_simp;rfl));intro gb245 hg w13 hbox hb;have n0_:=Aside0.mk (below_step (by repeat (first|exact HB.out|apply below_alloc|apply pw_below_drewN|apply below_drew1)) hb);have n1_:=Aside0.mk (hbox);have n2_:=Aside0.mk ((by rw [hg];exact (below_size (by repeat (first|exact HB.out|apply below_alloc|apply pw_below_drewN|apply below_drew1))) : w.heap.size ≤ gb245));have n3_:=Aside0.mk ((by rw [hg];exact (below_size (by repeat (first|exact HB.out|apply below_alloc|apply pw_below_drewN|apply below_drew1))) : w.heap.size ≤ gb245));clear HB;have HB:=n0_;have BK245:=n1_;have GW245:=n2_;have GE245:=n3_;clear n0_ n1_ n2_ n3_;clear hb hbox hg;have hcz14_0 : w13.cell? ⟨gb245,0,none⟩ = some (.int .i64 0):=(blk_cell BK245.out 0).trans rfl;have hcz14_1 : w13.cell? ⟨gb245,1,none⟩ = some (.slice none 0 0):=(blk_cell BK245.out 1).trans rfl;have hfz14_0:=blk_frozen BK245.out 0;have hfz14_1:=blk_frozen BK245.out 1)))
          go_ret
          exact ⟨by first|rfl|(simp [*,errW_none,errW_some] <;> rfl),by repeat (first|(with_reducible first|exact HB.out|apply below_alloc|apply pw_below_drewN|apply below_drew1|refine below_set ?_ GE245.out)|exact HB.out)⟩
         ·rw [if_neg c12] at H
          have c12b0 : decide (((rd_T59 l0 x7_1).f0) < 33) = false:=decide_eq_false c12
          clear c12
          by_cases c15 : x7_1 > 0
          ·rw [if_pos c15] at H
           have c15b0 : decide (0 < x7_1) = true:=decide_eq_true c15
           clear c15
           obtain ⟨ji16,hji16⟩ : ∃ j_ : Int,(wrap64 (x7_1 - 1)) = j_:=⟨_,rfl⟩
           replace H : (if 0 ≤ (ji16) then (if (ji16) < (l0.length : Int) then (if ((rd_T59 l0 x7_1).f0) ≤ ((rd_T59 l0 (ji16)).f0) then (some false) else (if (((rd_T59 l0 x7_1).f1).length : Int) = 128 then (impl_isGroup.l0 k1 l0 l0 (l0.length : Int) (wrap64 (x7_1 + 1))) else (some false))) else (none)) else (none)) = some r:=by first|(rw [hji16] at H;exact H)|(simp only [hji16] at H ⊢;exact H)
           have hji16w : (IntKind.i64.wrap (x7_1 - 1)) = ji16:=(i64_w _).trans hji16
           by_cases c17 : 0 ≤ (ji16)
           ·rw [if_pos c17] at H
            have c17b0 : decide (0 ≤ (ji16)) = true:=decide_eq_true c17
            clear c17
            by_cases c18 : (ji16) < (l0.length : Int)
            ·rw [if_pos c18] at H
             have c18b0 : decide ((ji16) < (l0.length : Int)) = true:=decide_eq_true c18
             clear c18
             by_cases c19 : ((rd_T59 l0 x7_1).f0) ≤ ((rd_T59 l0 (ji16)).f0)
             ·rw [if_pos c19] at H
              have c19b0 : decide (((rd_T59 l0 x7_1).f0) ≤ ((rd_T59 l0 (ji16)).f0)) = true:=decide_eq_true c19
              clear c19
              obtain rfl:=Option.some.inj H
              have p244 : 0 ≤ (x7_1 : Int):=of_decide_eq_true (by assumption)
              have q244 : x7_1 < (l0.length : Int):=of_decide_eq_true (by assumption)
              obtain ⟨ad244,A244_1,c244_1,e244,hx244_0,hx244_1,hl244_1,hi244_1⟩:=at_T59 HR0.out x7_1 p244 q244
              cases e244
              (try replace hx244_0:=(HB.out.cell (World.block_lt_of_cell? w _ hx244_0)).trans hx244_0)
              (try replace hx244_1:=(HB.out.cell (World.block_lt_of_cell? w _ hx244_1)).trans hx244_1)
              have HR244_1:=Aside0.mk hi244_1
              have HC244_1:=Aside0.mk hl244_1
              clear hi244_1 hl244_1
              replace p244:=eq_true p244
              replace q244:=eq_true q244
              go_wp2_with (first|((with_reducible refine gate_dst (N:=4) rfl ?_);(try (refine gate_guard (by rfl) ?_;dsimp only));refine box_event ?hg (N:=4) ?hd (cs:=#[.int .i64 0,.slice none 0 0]) (t:=59) ?hr ?_;(case hd=>rfl);(case hg=>rfl);(case hr=>first|(go_simp;done)|(go_simp;rfl));intro gb245 hg w20 hbox hb;have n0_:=Aside0.mk (below_step (by repeat (first|exact HB.out|apply below_alloc|apply pw_below_drewN|apply below_drew1)) hb);have n1_:=Aside0.mk (hbox);have n2_:=Aside0.mk ((by rw [hg];exact (below_size (by repeat (first|exact HB.out|apply below_alloc|apply pw_below_drewN|apply below_drew1))) : w.heap.size ≤ gb245));have n3_:=Aside0.mk ((by rw [hg];exact (below_size (by repeat (first|exact HB.out|apply below_alloc|apply pw_below_drewN|apply below_drew1))) : w.heap.size ≤ gb245));clear HB;have HB:=n0_;have BK245:=n1_;have GW245:=n2_;have GE245:=n3_;clear n0_ n1_ n2_ n3_;clear hb hbox hg;have hcz21_0 : w20.cell? ⟨gb245,0,none⟩ = some (.int .i64 0):=(blk_cell BK245.out 0).trans rfl;have hcz21_1 : w20.cell? ⟨gb245,1,none⟩ = some (.slice none 0 0):=(blk_cell BK245.out 1).trans rfl;have hfz21_0:=blk_frozen BK245.out 0;have hfz21_1:=blk_frozen BK245.out 1;have p246 : 0 ≤ ((ji16) : Int):=of_decide_eq_true (by assumption);have q246 : (ji16) < (l0.length : Int):=of_decide_eq_true (by assumption);obtain ⟨ad246,A246_1,c246_1,e246,hx246_0,hx246_1,hl246_1,hi246_1⟩:=at_T59 HR0.out (ji16) p246 q246;obtain rfl : ad244 = ad246:=(by injection e246);have hn246_0 : ad244.block ≠ gb245:=Nat.ne_of_lt (Nat.lt_of_lt_of_le (by have:=World.block_lt_of_cell? _ _ hx246_0;first|rwa [add_block] at this|exact this) GW245.out);have hn246_1 : ad244.block ≠ gb245:=Nat.ne_of_lt (Nat.lt_of_lt_of_le (by have:=World.block_lt_of_cell? _ _ hx246_0;first|rwa [add_block] at this|exact this) GW245.out);(try replace hx246_0:=(HB.out.cell (World.block_lt_of_cell? w _ hx246_0)).trans hx246_0);(try replace hx246_1:=(HB.out.cell (World.block_lt_of_cell? w _ hx246_1)).trans hx246_1);have HR246_1:=Aside0.mk hi246_1;have HC246_1:=Aside0.mk hl246_1;clear hi246_1 hl246_1;replace hx246_0:=(cell_far (p:=⟨gb245,0,none⟩) (by first|(rw [add_block];exact hn246_0)|(show (Addr.add _ _).block ≠ _;rw [add_block];exact hn246_0)|exact hn246_0) (.int .i64 ((rd_T59 l0 x7_1).f0))).trans hx246_0;replace hx246_1:=(cell_far (p:=⟨gb245,0,none⟩) (by first|(rw [add_block];exact hn246_0)|(show (Addr.add _ _).block ≠ _;rw [add_block];exact hn246_0)|exact hn246_0) (.int .i64 ((rd_T59 l0 x7_1).f0))).trans hx246_1;replace hx246_0:=(cell_far (p:=⟨gb245,1,none⟩) (by first|(rw [add_block];exact hn246_1)|(show (Addr.add _ _).block ≠ _;rw [add_block];exact hn246_1)|exact hn246_1) (.slice A244_1 ((rd_T59 l0 x7_1).f1).length c244_1)).trans hx246_0;replace hx246_1:=(cell_far (p:=⟨gb245,1,none⟩) (by first|(rw [add_block];exact hn246_1)|(show (Addr.add _ _).block ≠ _;rw [add_block];exact hn246_1)|exact hn246_1) (.slice A244_1 ((rd_T59 l0 x7_1).f1).length c244_1)).trans hx246_1;(try have hy246_0:=fun (n_ : Nat)=>(show ((((w20.drewN n_).setCell ⟨gb245,0,none⟩ (.int .i64 ((rd_T59 l0 x7_1).f0))).setCell ⟨gb245,1,none⟩ (.slice A244_1 ((rd_T59 l0 x7_1).f1).length c244_1))).cell? _ = some _ from hx246_0));(try have hy246_1:=fun (n_ : Nat)=>(show ((((w20.drewN n_).setCell ⟨gb245,0,none⟩ (.int .i64 ((rd_T59 l0 x7_1).f0))).setCell ⟨gb245,1,none⟩ (.slice A244_1 ((rd_T59 l0 x7_1).f1).length c244_1))).cell? _ = some _ from hx246_1));clear hn246_0;clear hn246_1;replace p246:=eq_true p246;replace q246:=eq_true q246))
              repeat (go_quiet (first|((with_reducible refine gate_dst (N:=4) rfl ?_);(try (refine gate_guard (by rfl) ?_;dsimp only));refine box_event ?hg (N:=4) ?hd (cs:=#[.int .i64 0,.slice none 0 0]) (t:=59) ?hr ?_;(case hd=>rfl);(case hg=>rfl);(case hr=>first|(go_simp;done)|(go_simp;rfl));intro gb245 hg w20 hbox hb;have n0_:=Aside0.mk (below_step (by repeat (first|exact HB.out|apply below_alloc|apply pw_below_drewN|apply below_drew1)) hb);have n1_:=Aside0.mk (hbox);have n2_:=Aside0.mk ((by rw [hg];exact (below_size (by repeat (first|exact HB.out|apply below_alloc|apply pw_below_drewN|apply below_drew1))) : w.heap.size ≤ gb245));have n3_:=Aside0.mk ((by rw [hg];exact (below_size (by repeat (first|exact HB.out|apply below_alloc|apply pw_below_drewN|apply below_drew1))) : w.heap.size ≤ gb245));clear HB;have HB:=n0_;have BK245:=n1_;have GW245:=n2_;have GE245:=n3_;clear n0_ n1_ n2_ n3_;clear hb hbox hg;have hcz21_0 : w20.cell? ⟨gb245,0,none⟩ = some (.int .i64 0):=(blk_cell BK245.out 0).trans rfl;have hcz21_1 : w20.cell? ⟨gb245,1,none⟩ = some (.slice none 0 0):=(blk_cell BK245.out 1).trans rfl;have hfz21_0:=blk_frozen BK245.out 0;have hfz21_1:=blk_frozen BK245.out 1;have p246 : 0 ≤ ((ji16) : Int):=of_decide_eq_true (by assumption);have q246 : (ji16) < (l0.length : Int):=of_decide_eq_true (by assumption);obtain ⟨ad246,A246_1,c246_1,e246,hx246_0,hx246_1,hl246_1,hi246_1⟩:=at_T59 HR0.out (ji16) p246 q246;obtain rfl : ad244 = ad246:=(by injection e246);have hn246_0 : ad244.block ≠ gb245:=Nat.ne_of_lt (Nat.lt_of_lt_of_le (by have:=World.block_lt_of_cell? _ _ hx246_0;first|rwa [add_block] at this|exact this) GW245.out);have hn246_1 : ad244.block ≠ gb245:=Nat.ne_of_lt (Nat.lt_of_lt_of_le (by have:=World.block_lt_of_cell? _ _ hx246_0;first|rwa [add_block] at this|exact this) GW245.out);(try replace hx246_0:=(HB.out.cell (World.block_lt_of_cell? w _ hx246_0)).trans hx246_0);(try replace hx246_1:=(HB.out.cell (World.block_lt_of_cell? w _ hx246_1)).trans hx246_1);have HR246_1:=Aside0.mk hi246_1;have HC246_1:=Aside0.mk hl246_1;clear hi246_1 hl246_1;replace hx246_0:=(cell_far (p:=⟨gb245,0,none⟩) (by first|(rw [add_block];exact hn246_0)|(show (Addr.add _ _).block ≠ _;rw [add_block];exact hn246_0)|exact hn246_0) (.int .i64 ((rd_T59 l0 x7_1).f0))).trans hx246_0;replace hx246_1:=(cell_far (p:=⟨gb245,0,none⟩) (by first|(rw [add_block];exact hn246_0)|(show (Addr.add _ _).block ≠ _;rw [add_block];exact hn246_0)|exact hn246_0) (.int .i64 ((rd_T59 l0 x7_1).f0))).trans hx246_1;replace hx246_0:=(cell_far (p:=⟨gb245,1,none⟩) (by first|(rw [add_block];exact hn246_1)|(show (Addr.add _ _).block ≠ _;rw [add_block];exact hn246_1)|exact hn246_1) (.slice A244_1 ((rd_T59 l0 x7_1).f1).length c244_1)).trans hx246_0;replace hx246_1:=(cell_far (p:=⟨gb245,1,none⟩) (by first|(rw [add_block];exact hn246_1)|(show (Addr.add _ _).block ≠ _;rw [add_block];exact hn246_1)|exact hn246_1) (.slice A244_1 ((rd_T59 l0 x7_1).f1).length c244_1)).trans hx246_1;(try have hy246_0:=fun (n_ : Nat)=>(show ((((w20.drewN n_).setCell ⟨gb245,0,none⟩ (.int .i64 ((rd_T59 l0 x7_1).f0))).setCell ⟨gb245,1,none⟩ (.slice A244_1 ((rd_T59 l0 x7_1).f1).length c244_1))).cell? _ = some _ from hx246_0));(try have hy246_1:=fun (n_ : Nat)=>(show ((((w20.drewN n_).setCell ⟨gb245,0,none⟩ (.int .i64 ((rd_T59 l0 x7_1).f0))).setCell ⟨gb245,1,none⟩ (.slice A244_1 ((rd_T59 l0 x7_1).f1).length c244_1))).cell? _ = some _ from hx246_1));clear hn246_0;clear hn246_1;replace p246:=eq_true p246;replace q246:=eq_true q246));try go_wp2_with (first|((with_reducible refine gate_dst (N:=4) rfl ?_);(try (refine gate_guard (by rfl) ?_;dsimp only));refine box_event ?hg (N:=4) ?hd (cs:=#[.int .i64 0,.slice none 0 0]) (t:=59) ?hr ?_;(case hd=>rfl);(case hg=>rfl);(case hr=>first|(go_simp;done)|(go_simp;rfl));intro gb245 hg w20 hbox hb;have n0_:=Aside0.mk (below_step (by repeat (first|exact HB.out|apply below_alloc|apply pw_below_drewN|apply below_drew1)) hb);have n1_:=Aside0.mk (hbox);have n2_:=Aside0.mk ((by rw [hg];exact (below_size (by repeat (first|exact HB.out|apply below_alloc|apply pw_below_drewN|apply below_drew1))) : w.heap.size ≤ gb245));have n3_:=Aside0.mk ((by rw [hg];exact (below_size (by repeat (first|exact HB.out|apply below_alloc|apply pw_below_drewN|apply below_drew1))) : w.heap.size ≤ gb245));clear HB;have HB:=n0_;have BK245:=n1_;have GW245:=n2_;have GE245:=n3_;clear n0_ n1_ n2_ n3_;clear hb hbox hg;have hcz21_0 : w20.cell? ⟨gb245,0,none⟩ = some (.int .i64 0):=(blk_cell BK245.out 0).trans rfl;have hcz21_1 : w20.cell? ⟨gb245,1,none⟩ = some (.slice none 0 0):=(blk_cell BK245.out 1).trans rfl;have hfz21_0:=blk_frozen BK245.out 0;have hfz21_1:=blk_frozen BK245.out 1;have p246 : 0 ≤ ((ji16) : Int):=of_decide_eq_true (by assumption);have q246 : (ji16) < (l0.length : Int):=of_decide_eq_true (by assumption);obtain ⟨ad246,A246_1,c246_1,e246,hx246_0,hx246_1,hl246_1,hi246_1⟩:=at_T59 HR0.out (ji16) p246 q246;obtain rfl : ad244 = ad246:=(by injection e246);have hn246_0 : ad244.block ≠ gb245:=Nat.ne_of_lt (Nat.lt_of_lt_of_le (by have:=World.block_lt_of_cell? _ _ hx246_0;first|rwa [add_block] at this|exact this) GW245.out);have hn246_1 : ad244.block ≠ gb245:=Nat.ne_of_lt (Nat.lt_of_lt_of_le (by have:=World.block_lt_of_cell? _ _ hx246_0;first|rwa [add_block] at this|exact this) GW245.out);(try replace hx246_0:=(HB.out.cell (World.block_lt_of_cell? w _ hx246_0)).trans hx246_0);(try replace hx246_1:=(HB.out.cell (World.block_lt_of_cell? w _ hx246_1)).trans hx246_1);have HR246_1:=Aside0.mk hi246_1;have HC246_1:=Aside0.mk hl246_1;clear hi246_1 hl246_1;replace hx246_0:=(cell_far (p:=⟨gb245,0,none⟩) (by first|(rw [add_block];exact hn246_0)|(show (Addr.add _ _).block ≠ _;rw [add_block];exact hn246_0)|exact hn246_0) (.int .i64 ((rd_T59 l0 x7_1).f0))).trans hx246_0;replace hx246_1:=(cell_far (p:=⟨gb245,0,none⟩) (by first|(rw [add_block];exact hn246_0)|(show (Addr.add _ _).block ≠ _;rw [add_block];exact hn246_0)|exact hn246_0) (.int .i64 ((rd_T59 l0 x7_1).f0))).trans hx246_1;replace hx246_0:=(cell_far (p:=⟨gb245,1,none⟩) (by first|(rw [add_block];exact hn246_1)|(show (Addr.add _ _).block ≠ _;rw [add_block];exact hn246_1)|exact hn246_1) (.slice A244_1 ((rd_T59 l0 x7_1).f1).length c244_1)).trans hx246_0;replace hx246_1:=(cell_far (p:=⟨gb245,1,none⟩) (by first|(rw [add_block];exact hn246_1)|(show (Addr.add _ _).block ≠ _;rw [add_block];exact hn246_1)|exact hn246_1) (.slice A244_1 ((rd_T59 l0 x7_1).f1).length c244_1)).trans hx246_1;(try have hy246_0:=fun (n_ : Nat)=>(show ((((w20.drewN n_).setCell ⟨gb245,0,none⟩ (.int .i64 ((rd_T59 l0 x7_1).f0))).setCell ⟨gb245,1,none⟩ (.slice A244_1 ((rd_T59 l0 x7_1).f1).length c244_1))).cell? _ = some _ from hx246_0));(try have hy246_1:=fun (n_ : Nat)=>(show ((((w20.drewN n_).setCell ⟨gb245,0,none⟩ (.int .i64 ((rd_T59 l0 x7_1).f0))).setCell ⟨gb245,1,none⟩ (.slice A244_1 ((rd_T59 l0 x7_1).f1).length c244_1))).cell? _ = some _ from hx246_1));clear hn246_0;clear hn246_1;replace p246:=eq_true p246;replace q246:=eq_true q246)))
              go_ret
              exact ⟨by first|rfl|(simp [errW_none,errW_some] <;> rfl)|(simp only [← hji16];first|rfl|(simp [errW_none,errW_some] <;> rfl))|(simp [*,errW_none,errW_some] <;> rfl),by repeat (first|(with_reducible first|exact HB.out|apply below_alloc|apply pw_below_drewN|apply below_drew1|refine below_set ?_ GE245.out)|exact HB.out)⟩
             ·rw [if_neg c19] at H
              have c19b0 : decide (((rd_T59 l0 x7_1).f0) ≤ ((rd_T59 l0 (ji16)).f0)) = false:=decide_eq_false c19
              clear c19
              by_cases c22 : (((rd_T59 l0 x7_1).f1).length : Int) = 128
              ·rw [if_pos c22] at H
               have c22b0 : ((((rd_T59 l0 x7_1).f1).length : Int) == 128) = true:=beq_iff_eq.mpr c22
               have c22b1 : ((((rd_T59 l0 x7_1).f1).length : Int) != 128) = false:=bne_eq_false_iff_eq.mpr c22
               clear c22
               have H':=Aside0.mk H
               clear H
               have p244 : 0 ≤ (x7_1 : Int):=of_decide_eq_true (by assumption)
               have q244 : x7_1 < (l0.length : Int):=of_decide_eq_true (by assumption)
               obtain ⟨ad244,A244_1,c244_1,e244,hx244_0,hx244_1,hl244_1,hi244_1⟩:=at_T59 HR0.out x7_1 p244 q244
               cases e244
               (try replace hx244_0:=(HB.out.cell (World.block_lt_of_cell? w _ hx244_0)).trans hx244_0)
               (try replace hx244_1:=(HB.out.cell (World.block_lt_of_cell? w _ hx244_1)).trans hx244_1)
               have HR244_1:=Aside0.mk hi244_1
               have HC244_1:=Aside0.mk hl244_1
               clear hi244_1 hl244_1
               replace p244:=eq_true p244
               replace q244:=eq_true q244
               go_wp2_with (first|((with_reducible refine gate_dst (N:=4) rfl ?_);(try (refine gate_guard (by rfl) ?_;dsimp only));refine box_event ?hg (N:=4) ?hd (cs:=#[.int .i64 0,.slice none 0 0]) (t:=59) ?hr ?_;(case hd=>rfl);(case hg=>rfl);(case hr=>first|(go_simp;done)|(go_simp;rfl));intro gb245 hg w23 hbox hb;have n0_:=Aside0.mk (below_step (by repeat (first|exact HB.out|apply below_alloc|apply pw_below_drewN|apply below_drew1)) hb);have n1_:=Aside0.mk (hbox);have n2_:=Aside0.mk ((by rw [hg];exact (below_size (by repeat (first|exact HB.out|apply below_alloc|apply pw_below_drewN|apply below_drew1))) : w.heap.size ≤ gb245));have n3_:=Aside0.mk ((by rw [hg];exact (below_size (by repeat (first|exact HB.out|apply below_alloc|apply pw_below_drewN|apply below_drew1))) : w.heap.size ≤ gb245));clear HB;have HB:=n0_;have BK245:=n1_;have GW245:=n2_;have GE245:=n3_;clear n0_ n1_ n2_ n3_;clear hb hbox hg;have hcz24_0 : w23.cell? ⟨gb245,0,none⟩ = some (.int .i64 0):=(blk_cell BK245.out 0).trans rfl;have hcz24_1 : w23.cell? ⟨gb245,1,none⟩ = some (.slice none 0 0):=(blk_cell BK245.out 1).trans rfl;have hfz24_0:=blk_frozen BK245.out 0;have hfz24_1:=blk_frozen BK245.out 1;have p246 : 0 ≤ ((ji16) : Int):=of_decide_eq_true (by assumption);have q246 : (ji16) < (l0.length : Int):=of_decide_eq_true (by assumption);obtain ⟨ad246,A246_1,c246_1,e246,hx246_0,hx246_1,hl246_1,hi246_1⟩:=at_T59 HR0.out (ji16) p246 q246;obtain rfl : ad244 = ad246:=(by injection e246);have hn246_0 : ad244.block ≠ gb245:=Nat.ne_of_lt (Nat.lt_of_lt_of_le (by have:=World.block_lt_of_cell? _ _ hx246_0;first|rwa [add_block] at this|exact this) GW245.out);have hn246_1 : ad244.block ≠ gb245:=Nat.ne_of_lt (Nat.lt_of_lt_of_le (by have:=World.block_lt_of_cell? _ _ hx246_0;first|rwa [add_block] at this|exact this) GW245.out);(try replace hx246_0:=(HB.out.cell (World.block_lt_of_cell? w _ hx246_0)).trans hx246_0);(try replace hx246_1:=(HB.out.cell (World.block_lt_of_cell? w _ hx246_1)).trans hx246_1);have HR246_1:=Aside0.mk hi246_1;have HC246_1:=Aside0.mk hl246_1;clear hi246_1 hl246_1;replace hx246_0:=(cell_far (p:=⟨gb245,0,none⟩) (by first|(rw [add_block];exact hn246_0)|(show (Addr.add _ _).block ≠ _;rw [add_block];exact hn246_0)|exact hn246_0) (.int .i64 ((rd_T59 l0 x7_1).f0))).trans hx246_0;replace hx246_1:=(cell_far (p:=⟨gb245,0,none⟩) (by first|(rw [add_block];exact hn246_0)|(show (Addr.add _ _).block ≠ _;rw [add_block];exact hn246_0)|exact hn246_0) (.int .i64 ((rd_T59 l0 x7_1).f0))).trans hx246_1;replace hx246_0:=(cell_far (p:=⟨gb245,1,none⟩) (by first|(rw [add_block];exact hn246_1)|(show (Addr.add _ _).block ≠ _;rw [add_block];exact hn246_1)|exact hn246_1) (.slice A244_1 ((rd_T59 l0 x7_1).f1).length c244_1)).trans hx246_0;replace hx246_1:=(cell_far (p:=⟨gb245,1,none⟩) (by first|(rw [add_block];exact hn246_1)|(show (Addr.add _ _).block ≠ _;rw [add_block];exact hn246_1)|exact hn246_1) (.slice A244_1 ((rd_T59 l0 x7_1).f1).length c244_1)).trans hx246_1;(try have hy246_0:=fun (n_ : Nat)=>(show ((((w23.drewN n_).setCell ⟨gb245,0,none⟩ (.int .i64 ((rd_T59 l0 x7_1).f0))).setCell ⟨gb245,1,none⟩ (.slice A244_1 ((rd_T59 l0 x7_1).f1).length c244_1))).cell? _ = some _ from hx246_0));(try have hy246_1:=fun (n_ : Nat)=>(show ((((w23.drewN n_).setCell ⟨gb245,0,none⟩ (.int .i64 ((rd_T59 l0 x7_1).f0))).setCell ⟨gb245,1,none⟩ (.slice A244_1 ((rd_T59 l0 x7_1).f1).length c244_1))).cell? _ = some _ from hx246_1));clear hn246_0;clear hn246_1;replace p246:=eq_true p246;replace q246:=eq_true q246))
               repeat (go_quiet (first|((with_reducible refine gate_dst (N:=4) rfl ?_);(try (refine gate_guard (by rfl) ?_;dsimp only));refine box_event ?hg (N:=4) ?hd (cs:=#[.int .i64 0,.slice none 0 0]) (t:=59) ?hr ?_;(case hd=>rfl);(case hg=>rfl);(case hr=>first|(go_simp;done)|(go_simp;rfl));intro gb245 hg w23 hbox hb;have n0_:=Aside0.mk (below_step (by repeat (first|exact HB.out|apply below_alloc|apply pw_below_drewN|apply below_drew1)) hb);have n1_:=Aside0.mk (hbox);have n2_:=Aside0.mk ((by rw [hg];exact (below_size (by repeat (first|exact HB.out|apply below_alloc|apply pw_below_drewN|apply below_drew1))) : w.heap.size ≤ gb245));have n3_:=Aside0.mk ((by rw [hg];exact (below_size (by repeat (first|exact HB.out|apply below_alloc|apply pw_below_drewN|apply below_drew1))) : w.heap.size ≤ gb245));clear HB;have HB:=n0_;have BK245:=n1_;have GW245:=n2_;have GE245:=n3_;clear n0_ n1_ n2_ n3_;clear hb hbox hg;have hcz24_0 : w23.cell? ⟨gb245,0,none⟩ = some (.int .i64 0):=(blk_cell BK245.out 0).trans rfl;have hcz24_1 : w23.cell? ⟨gb245,1,none⟩ = some (.slice none 0 0):=(blk_cell BK245.out 1).trans rfl;have hfz24_0:=blk_frozen BK245.out 0;have hfz24_1:=blk_frozen BK245.out 1;have p246 : 0 ≤ ((ji16) : Int):=of_decide_eq_true (by assumption);have q246 : (ji16) < (l0.length : Int):=of_decide_eq_true (by assumption);obtain ⟨ad246,A246_1,c246_1,e246,hx246_0,hx246_1,hl246_1,hi246_1⟩:=at_T59 HR0.out (ji16) p246 q246;obtain rfl : ad244 = ad246:=(by injection e246);have hn246_0 : ad244.block ≠ gb245:=Nat.ne_of_lt (Nat.lt_of_lt_of_le (by have:=World.block_lt_of_cell? _ _ hx246_0;first|rwa [add_block] at this|exact this) GW245.out);have hn246_1 : ad244.block ≠ gb245:=Nat.ne_of_lt (Nat.lt_of_lt_of_le (by have:=World.block_lt_of_cell? _ _ hx246_0;first|rwa [add_block] at this|exact this) GW245.out);(try replace hx246_0:=(HB.out.cell (World.block_lt_of_cell? w _ hx246_0)).trans hx246_0);(try replace hx246_1:=(HB.out.cell (World.block_lt_of_cell? w _ hx246_1)).trans hx246_1);have HR246_1:=Aside0.mk hi246_1;have HC246_1:=Aside0.mk hl246_1;clear hi246_1 hl246_1;replace hx246_0:=(cell_far (p:=⟨gb245,0,none⟩) (by first|(rw [add_block];exact hn246_0)|(show (Addr.add _ _).block ≠ _;rw [add_block];exact hn246_0)|exact hn246_0) (.int .i64 ((rd_T59 l0 x7_1).f0))).trans hx246_0;replace hx246_1:=(cell_far (p:=⟨gb245,0,none⟩) (by first|(rw [add_block];exact hn246_0)|(show (Addr.add _ _).block ≠ _;rw [add_block];exact hn246_0)|exact hn246_0) (.int .i64 ((rd_T59 l0 x7_1).f0))).trans hx246_1;replace hx246_0:=(cell_far (p:=⟨gb245,1,none⟩) (by first|(rw [add_block];exact hn246_1)|(show (Addr.add _ _).block ≠ _;rw [add_block];exact hn246_1)|exact hn246_1) (.slice A244_1 ((rd_T59 l0 x7_1).f1).length c244_1)).trans hx246_0;replace hx246_1:=(cell_far (p:=⟨gb245,1,none⟩) (by first|(rw [add_block];exact hn246_1)|(show (Addr.add _ _).block ≠ _;rw [add_block];exact hn246_1)|exact hn246_1) (.slice A244_1 ((rd_T59 l0 x7_1).f1).length c244_1)).trans hx246_1;(try have hy246_0:=fun (n_ : Nat)=>(show ((((w23.drewN n_).setCell ⟨gb245,0,none⟩ (.int .i64 ((rd_T59 l0 x7_1).f0))).setCell ⟨gb245,1,none⟩ (.slice A244_1 ((rd_T59 l0 x7_1).f1).length c244_1))).cell? _ = some _ from hx246_0));(try have hy246_1:=fun (n_ : Nat)=>(show ((((w23.drewN n_).setCell ⟨gb245,0,none⟩ (.int .i64 ((rd_T59 l0 x7_1).f0))).setCell ⟨gb245,1,none⟩ (.slice A244_1 ((rd_T59 l0 x7_1).f1).length c244_1))).cell? _ = some _ from hx246_1));clear hn246_0;clear hn246_1;replace p246:=eq_true p246;replace q246:=eq_true q246));try go_wp2_with (first|((with_reducible refine gate_dst (N:=4) rfl ?_);(try (refine gate_guard (by rfl) ?_;dsimp only));refine box_event ?hg (N:=4) ?hd (cs:=#[.int .i64 0,.slice none 0 0]) (t:=59) ?hr ?_;(case hd=>rfl);(case hg=>rfl);(case hr=>first|(go_simp;done)|(go_simp;rfl));intro gb245 hg w23 hbox hb;have n0_:=Aside0.mk (below_step (by repeat (first|exact HB.out|apply below_alloc|apply pw_below_drewN|apply below_drew1)) hb);have n1_:=Aside0.mk (hbox);have n2_:=Aside0.mk ((by rw [hg];exact (below_size (by repeat (first|exact HB.out|apply below_alloc|apply pw_below_drewN|apply below_drew1))) : w.heap.size ≤ gb245));have n3_:=Aside0.mk ((by rw [hg];exact (below_size (by repeat (first|exact HB.out|apply below_alloc|apply pw_below_drewN|apply below_drew1))) : w.heap.size ≤ gb245));clear HB;have HB:=n0_;have BK245:=n1_;have GW245:=n2_;have GE245:=n3_;clear n0_ n1_ n2_ n3_;clear hb hbox hg;have hcz24_0 : w23.cell? ⟨gb245,0,none⟩ = some (.int .i64 0):=(blk_cell BK245.out 0).trans rfl;have hcz24_1 : w23.cell? ⟨gb245,1,none⟩ = some (.slice none 0 0):=(blk_cell BK245.out 1).trans rfl;have hfz24_0:=blk_frozen BK245.out 0;have hfz24_1:=blk_frozen BK245.out 1;have p246 : 0 ≤ ((ji16) : Int):=of_decide_eq_true (by assumption);have q246 : (ji16) < (l0.length : Int):=of_decide_eq_true (by assumption);obtain ⟨ad246,A246_1,c246_1,e246,hx246_0,hx246_1,hl246_1,hi246_1⟩:=at_T59 HR0.out (ji16) p246 q246;obtain rfl : ad244 = ad246:=(by injection e246);have hn246_0 : ad244.block ≠ gb245:=Nat.ne_of_lt (Nat.lt_of_lt_of_le (by have:=World.block_lt_of_cell? _ _ hx246_0;first|rwa [add_block] at this|exact this) GW245.out);have hn246_1 : ad244.block ≠ gb245:=Nat.ne_of_lt (Nat.lt_of_lt_of_le (by have:=World.block_lt_of_cell? _ _ hx246_0;first|rwa [add_block] at this|exact this) GW245.out);(try replace hx246_0:=(HB.out.cell (World.block_lt_of_cell? w _ hx246_0)).trans hx246_0);(try replace hx246_1:=(HB.out.cell (World.block_lt_of_cell? w _ hx246_1)).trans hx246_1);have HR246_1:=Aside0.mk hi246_1;have HC246_1:=Aside0.mk hl246_1;clear hi246_1 hl246_1;replace hx246_0:=(cell_far (p:=⟨gb245,0,none⟩) (by first|(rw [add_block];exact hn246_0)|(show (Addr.add _ _).block ≠ _;rw [add_block];exact hn246_0)|exact hn246_0) (.int .i64 ((rd_T59 l0 x7_1).f0))).trans hx246_0;replace hx246_1:=(cell_far (p:=⟨gb245,0,none⟩) (by first|(rw [add_block];exact hn246_0)|(show (Addr.add _ _).block ≠ _;rw [add_block];exact hn246_0)|exact hn246_0) (.int .i64 ((rd_T59 l0 x7_1).f0))).trans hx246_1;replace hx246_0:=(cell_far (p:=⟨gb245,1,none⟩) (by first|(rw [add_block];exact hn246_1)|(show (Addr.add _ _).block ≠ _;rw [add_block];exact hn246_1)|exact hn246_1) (.slice A244_1 ((rd_T59 l0 x7_1).f1).length c244_1)).trans hx246_0;replace hx246_1:=(cell_far (p:=⟨gb245,1,none⟩) (by first|(rw [add_block];exact hn246_1)|(show (Addr.add _ _).block ≠ _;rw [add_block];exact hn246_1)|exact hn246_1) (.slice A244_1 ((rd_T59 l0 x7_1).f1).length c244_1)).trans hx246_1;(try have hy246_0:=fun (n_ : Nat)=>(show ((((w23.drewN n_).setCell ⟨gb245,0,none⟩ (.int .i64 ((rd_T59 l0 x7_1).f0))).setCell ⟨gb245,1,none⟩ (.slice A244_1 ((rd_T59 l0 x7_1).f1).length c244_1))).cell? _ = some _ from hx246_0));(try have hy246_1:=fun (n_ : Nat)=>(show ((((w23.drewN n_).setCell ⟨gb245,0,none⟩ (.int .i64 ((rd_T59 l0 x7_1).f0))).setCell ⟨gb245,1,none⟩ (.slice A244_1 ((rd_T59 l0 x7_1).f1).length c244_1))).cell? _ = some _ from hx246_1));clear hn246_0;clear hn246_1;replace p246:=eq_true p246;replace q246:=eq_true q246)))
               go_roundg k1
               case measure=>have:=HK1.out;omega
               case rel=>exact ⟨(wrap64 (x7_1 + 1)),(by first|rfl|(simp;done)|(simp [*];done)),H',⟨by have:=HK1.out;omega⟩,⟨by repeat (first|(with_reducible first|exact HB.out|apply below_alloc|apply pw_below_drewN|apply below_drew1|refine below_set ?_ GE245.out)|exact HB.out)⟩⟩
              ·rw [if_neg c22] at H
               have c22b0 : ((((rd_T59 l0 x7_1).f1).length : Int) == 128) = false:=beq_eq_false_iff_ne.mpr c22
               have c22b1 : ((((rd_T59 l0 x7_1).f1).length : Int) != 128) = true:=bne_iff_ne.mpr c22
               obtain rfl:=Option.some.inj H
               have p244 : 0 ≤ (x7_1 : Int):=of_decide_eq_true (by assumption)
               have q244 : x7_1 < (l0.length : Int):=of_decide_eq_true (by assumption)
               obtain ⟨ad244,A244_1,c244_1,e244,hx244_0,hx244_1,hl244_1,hi244_1⟩:=at_T59 HR0.out x7_1 p244 q244
               cases e244
               (try replace hx244_0:=(HB.out.cell (World.block_lt_of_cell? w _ hx244_0)).trans hx244_0)
               (try replace hx244_1:=(HB.out.cell (World.block_lt_of_cell? w _ hx244_1)).trans hx244_1)
               have HR244_1:=Aside0.mk hi244_1
               have HC244_1:=Aside0.mk hl244_1
               clear hi244_1 hl244_1
               replace p244:=eq_true p244
               replace q244:=eq_true q244
               go_wp2_with (first|((with_reducible refine gate_dst (N:=4) rfl ?_);(try (refine gate_guard (by rfl) ?_;dsimp only));refine box_event ?hg (N:=4) ?hd (cs:=#[.int .i64 0,.slice none 0 0]) (t:=59) ?hr ?_;(case hd=>rfl);(case hg=>rfl);(case hr=>first|(go_simp;done)|(go_simp;rfl));intro gb245 hg w25 hbox hb;have n0_:=Aside0.mk (below_step (by repeat (first|exact HB.out|apply below_alloc|apply pw_below_drewN|apply below_drew1)) hb);have n1_:=Aside0.mk (hbox);have n2_:=Aside0.mk ((by rw [hg];exact (below_size (by repeat (first|exact HB.out|apply below_alloc|apply pw_below_drewN|apply below_drew1))) : w.heap.size ≤ gb245));have n3_:=Aside0.mk ((by rw [hg];exact (below_size (by repeat (first|exact HB.out|apply below_alloc|apply pw_below_drewN|apply below_drew1))) : w.heap.size ≤ gb245));clear HB;have HB:=n0_;have BK245:=n1_;have GW245:=n2_;have GE245:=n3_;clear n0_ n1_ n2_ n3_;clear hb hbox hg;have hcz26_0 : w25.cell? ⟨gb245,0,none⟩ = some (.int .i64 0):=(blk_cell BK245.out 0).trans rfl;have hcz26_1 : w25.cell? ⟨gb245,1,none⟩ = some (.slice none 0 0):=(blk_cell BK245.out 1).trans rfl;have hfz26_0:=blk_frozen BK245.out 0;have hfz26_1:=blk_frozen BK245.out 1;have p246 : 0 ≤ ((ji16) : Int):=of_decide_eq_true (by assumption);have q246 : (ji16) < (l0.length : Int):=of_decide_eq_true (by assumption);obtain ⟨ad246,A246_1,c246_1,e246,hx246_0,hx246_1,hl246_1,hi246_1⟩:=at_T59 HR0.out (ji16) p246 q246;obtain rfl : ad244 = ad246:=(by injection e246);have hn246_0 : ad244.block ≠ gb245:=Nat.ne_of_lt (Nat.lt_of_lt_of_le (by have:=World.block_lt_of_cell? _ _ hx246_0;first|rwa [add_block] at this|exact this) GW245.out);have hn246_1 : ad244.block ≠ gb245:=Nat.ne_of_lt (Nat.lt_of_lt_of_le (by have:=World.block_lt_of_cell? _ _ hx246_0;first|rwa [add_block] at this|exact this) GW245.out);(try replace hx246_0:=(HB.out.cell (World.block_lt_of_cell? w _ hx246_0)).trans hx246_0);(try replace hx246_1:=(HB.out.cell (World.block_lt_of_cell? w _ hx246_1)).trans hx246_1);have HR246_1:=Aside0.mk hi246_1;have HC246_1:=Aside0.mk hl246_1;clear hi246_1 hl246_1;replace hx246_0:=(cell_far (p:=⟨gb245,0,none⟩) (by first|(rw [add_block];exact hn246_0)|(show (Addr.add _ _).block ≠ _;rw [add_block];exact hn246_0)|exact hn246_0) (.int .i64 ((rd_T59 l0 x7_1).f0))).trans hx246_0;replace hx246_1:=(cell_far (p:=⟨gb245,0,none⟩) (by first|(rw [add_block];exact hn246_0)|(show (Addr.add _ _).block ≠ _;rw [add_block];exact hn246_0)|exact hn246_0) (.int .i64 ((rd_T59 l0 x7_1).f0))).trans hx246_1;replace hx246_0:=(cell_far (p:=⟨gb245,1,none⟩) (by first|(rw [add_block];exact hn246_1)|(show (Addr.add _ _).block ≠ _;rw [add_block];exact hn246_1)|exact hn246_1) (.slice A244_1 ((rd_T59 l0 x7_1).f1).length c244_1)).trans hx246_0;replace hx246_1:=(cell_far (p:=⟨gb245,1,none⟩) (by first|(rw [add_block];exact hn246_1)|(show (Addr.add _ _).block ≠ _;rw [add_block];exact hn246_1)|exact hn246_1) (.slice A244_1 ((rd_T59 l0 x7_1).f1).length c244_1)).trans hx246_1;(try have hy246_0:=fun (n_ : Nat)=>(show ((((w25.drewN n_).setCell ⟨gb245,0,none⟩ (.int .i64 ((rd_T59 l0 x7_1).f0))).setCell ⟨gb245,1,none⟩ (.slice A244_1 ((rd_T59 l0 x7_1).f1).length c244_1))).cell? _ = some _ from hx246_0));(try have hy246_1:=fun (n_ : Nat)=>(show ((((w25.drewN n_).setCell ⟨gb245,0,none⟩ (.int .i64 ((rd_T59 l0 x7_1).f0))).setCell ⟨gb245,1,none⟩ (.slice A244_1 ((rd_T59 l0 x7_1).f1).length c244_1))).cell? _ = some _ from hx246_1));clear hn246_0;clear hn246_1;replace p246:=eq_true p246;replace q246:=eq_true q246))
               repeat (go_quiet (first|((with_reducible refine gate_dst (N:=4) rfl ?_);(try (refine gate_guard (by rfl) ?_;dsimp only));refine box_event ?hg (N:=4) ?hd (cs:=#[.int .i64 0,.slice none 0 0]) (t:=59) ?hr ?_;(case hd=>rfl);(case hg=>rfl);(case hr=>first|(go_simp;done)|(go_simp;rfl));intro gb245 hg w25 hbox hb;have n0_:=Aside0.mk (below_step (by repeat (first|exact HB.out|apply below_alloc|apply pw_below_drewN|apply below_drew1)) hb);have n1_:=Aside0.mk (hbox);have n2_:=Aside0.mk ((by rw [hg];exact (below_size (by repeat (first|exact HB.out|apply below_alloc|apply pw_below_drewN|apply below_drew1))) : w.heap.size ≤ gb245));have n3_:=Aside0.mk ((by rw [hg];exact (below_size (by repeat (first|exact HB.out|apply below_alloc|apply pw_below_drewN|apply below_drew1))) : w.heap.size ≤ gb245));clear HB;have HB:=n0_;have BK245:=n1_;have GW245:=n2_;have GE245:=n3_;clear n0_ n1_ n2_ n3_;clear hb hbox hg;have hcz26_0 : w25.cell? ⟨gb245,0,none⟩ = some (.int .i64 0):=(blk_cell BK245.out 0).trans rfl;have hcz26_1 : w25.cell? ⟨gb245,1,none⟩ = some (.slice none 0 0):=(blk_cell BK245.out 1).trans rfl;have hfz26_0:=blk_frozen BK245.out 0;have hfz26_1:=blk_frozen BK245.out 1;have p246 : 0 ≤ ((ji16) : Int):=of_decide_eq_true (by assumption);have q246 : (ji16) < (l0.length : Int):=of_decide_eq_true (by assumption);obtain ⟨ad246,A246_1,c246_1,e246,hx246_0,hx246_1,hl246_1,hi246_1⟩:=at_T59 HR0.out (ji16) p246 q246;obtain rfl : ad244 = ad246:=(by injection e246);have hn246_0 : ad244.block ≠ gb245:=Nat.ne_of_lt (Nat.lt_of_lt_of_le (by have:=World.block_lt_of_cell? _ _ hx246_0;first|rwa [add_block] at this|exact this) GW245.out);have hn246_1 : ad244.block ≠ gb245:=Nat.ne_of_lt (Nat.lt_of_lt_of_le (by have:=World.block_lt_of_cell? _ _ hx246_0;first|rwa [add_block] at this|exact this) GW245.out);(try replace hx246_0:=(HB.out.cell (World.block_lt_of_cell? w _ hx246_0)).trans hx246_0);(try replace hx246_1:=(HB.out.cell (World.block_lt_of_cell? w _ hx246_1)).trans hx246_1);have HR246_1:=Aside0.mk hi246_1;have HC246_1:=Aside0.mk hl246_1;clear hi246_1 hl246_1;replace hx246_0:=(cell_far (p:=⟨gb245,0,none⟩) (by first|(rw [add_block];exact hn246_0)|(show (Addr.add _ _).block ≠ _;rw [add_block];exact hn246_0)|exact hn246_0) (.int .i64 ((rd_T59 l0 x7_1).f0))).trans hx246_0;replace hx246_1:=(cell_far (p:=⟨gb245,0,none⟩) (by first|(rw [add_block];exact hn246_0)|(show (Addr.add _ _).block ≠ _;rw [add_block];exact hn246_0)|exact hn246_0) (.int .i64 ((rd_T59 l0 x7_1).f0))).trans hx246_1;replace hx246_0:=(cell_far (p:=⟨gb245,1,none⟩) (by first|(rw [add_block];exact hn246_1)|(show (Addr.add _ _).block ≠ _;rw [add_block];exact hn246_1)|exact hn246_1) (.slice A244_1 ((rd_T59 l0 x7_1).f1).length c244_1)).trans hx246_0;replace hx246_1:=(cell_far (p:=⟨gb245,1,none⟩) (by first|(rw [add_block];exact hn246_1)|(show (Addr.add _ _).block ≠ _;rw [add_block];exact hn246_1)|exact hn246_1) (.slice A244_1 ((rd_T59 l0 x7_1).f1).length c244_1)).trans hx246_1;(try have hy246_0:=fun (n_ : Nat)=>(show ((((w25.drewN n_).setCell ⟨gb245,0,none⟩ (.int .i64 ((rd_T59 l0 x7_1).f0))).setCell ⟨gb245,1,none⟩ (.slice A244_1 ((rd_T59 l0 x7_1).f1).length c244_1))).cell? _ = some _ from hx246_0));(try have hy246_1:=fun (n_ : Nat)=>(show ((((w25.drewN n_).setCell ⟨gb245,0,none⟩ (.int .i64 ((rd_T59 l0 x7_1).f0))).setCell ⟨gb245,1,none⟩ (.slice A244_1 ((rd_T59 l0 x7_1).f1).length c244_1))).cell? _ = some _ from hx246_1));clear hn246_0;clear hn246_1;replace p246:=eq_true p246;replace q246:=eq_true q246));try go_wp2_with (first|((with_reducible refine gate_dst (N:=4) rfl ?_);(try (refine gate_guard (by rfl) ?_;dsimp only));refine box_event ?hg (N:=4) ?hd (cs:=#[.int .i64 0,.slice none 0 0]) (t:=59) ?hr ?_;(case hd=>rfl);(case hg=>rfl);(case hr=>first|(go_simp;done)|(go_simp;rfl));intro gb245 hg w25 hbox hb;have n0_:=Aside0.mk (below_step (by repeat (first|exact HB.out|apply below_alloc|apply pw_below_drewN|apply below_drew1)) hb);have n1_:=Aside0.mk (hbox);have n2_:=Aside0.mk ((by rw [hg];exact (below_size (by repeat (first|exact HB.out|apply below_alloc|apply pw_below_drewN|apply below_drew1))) : w.heap.size ≤ gb245));have n3_:=Aside0.mk ((by rw [hg];exact (below_size (by repeat (first|exact HB.out|apply below_alloc|apply pw_below_drewN|apply below_drew1))) : w.heap.size ≤ gb245));clear HB;have HB:=n0_;have BK245:=n1_;have GW245:=n2_;have GE245:=n3_;clear n0_ n1_ n2_ n3_;clear hb hbox hg;have hcz26_0 : w25.cell? ⟨gb245,0,none⟩ = some (.int .i64 0):=(blk_cell BK245.out 0).trans rfl;have hcz26_1 : w25.cell? ⟨gb245,1,none⟩ = some (.slice none 0 0):=(blk_cell BK245.out 1).trans rfl;have hfz26_0:=blk_frozen BK245.out 0;have hfz26_1:=blk_frozen BK245.out 1;have p246 : 0 ≤ ((ji16) : Int):=of_decide_eq_true (by assumption);have q246 : (ji16) < (l0.length : Int):=of_decide_eq_true (by assumption);obtain ⟨ad246,A246_1,c246_1,e246,hx246_0,hx246_1,hl246_1,hi246_1⟩:=at_T59 HR0.out (ji16) p246 q246;obtain rfl : ad244 = ad246:=(by injection e246);have hn246_0 : ad244.block ≠ gb245:=Nat.ne_of_lt (Nat.lt_of_lt_of_le (by have:=World.block_lt_of_cell? _ _ hx246_0;first|rwa [add_block] at this|exact this) GW245.out);have hn246_1 : ad244.block ≠ gb245:=Nat.ne_of_lt (Nat.lt_of_lt_of_le (by have:=World.block_lt_of_cell? _ _ hx246_0;first|rwa [add_block] at this|exact this) GW245.out);(try replace hx246_0:=(HB.out.cell (World.block_lt_of_cell? w _ hx246_0)).trans hx246_0);(try replace hx246_1:=(HB.out.cell (World.block_lt_of_cell? w _ hx246_1)).trans hx246_1);have HR246_1:=Aside0.mk hi246_1;have HC246_1:=Aside0.mk hl246_1;clear hi246_1 hl246_1;replace hx246_0:=(cell_far (p:=⟨gb245,0,none⟩) (by first|(rw [add_block];exact hn246_0)|(show (Addr.add _ _).block ≠ _;rw [add_block];exact hn246_0)|exact hn246_0) (.int .i64 ((rd_T59 l0 x7_1).f0))).trans hx246_0;replace hx246_1:=(cell_far (p:=⟨gb245,0,none⟩) (by first|(rw [add_block];exact hn246_0)|(show (Addr.add _ _).block ≠ _;rw [add_block];exact hn246_0)|exact hn246_0) (.int .i64 ((rd_T59 l0 x7_1).f0))).trans hx246_1;replace hx246_0:=(cell_far (p:=⟨gb245,1,none⟩) (by first|(rw [add_block];exact hn246_1)|(show (Addr.add _ _).block ≠ _;rw [add_block];exact hn246_1)|exact hn246_1) (.slice A244_1 ((rd_T59 l0 x7_1).f1).length c244_1)).trans hx246_0;replace hx246_1:=(cell_far (p:=⟨gb245,1,none⟩) (by first|(rw [add_block];exact hn246_1)|(show (Addr.add _ _).block ≠ _;rw [add_block];exact hn246_1)|exact hn246_1) (.slice A244_1 ((rd_T59 l0 x7_1).f1).length c244_1)).trans hx246_1;(try have hy246_0:=fun (n_ : Nat)=>(show ((((w25.drewN n_).setCell ⟨gb245,0,none⟩ (.int .i64 ((rd_T59 l0 x7_1).f0))).setCell ⟨gb245,1,none⟩ (.slice A244_1 ((rd_T59 l0 x7_1).f1).length c244_1))).cell? _ = some _ from hx246_0));(try have hy246_1:=fun (n_ : Nat)=>(show ((((w25.drewN n_).setCell ⟨gb245,0,none⟩ (.int .i64 ((rd_T59 l0 x7_1).f0))).setCell ⟨gb245,1,none⟩ (.slice A244_1 ((rd_T59 l0 x7_1).f1).length c244_1))).cell? _ = some _ from hx246_1));clear hn246_0;clear hn246_1;replace p246:=eq_true p246;replace q246:=eq_true q246)))
               go_ret
               exact ⟨by first|rfl|(simp [errW_none,errW_some] <;> rfl)|(simp only [← hji16];first|rfl|(simp [errW_none,errW_some] <;> rfl))|(simp [*,errW_none,errW_some] <;> rfl),by repeat (first|(with_reducible first|exact HB.out|apply below_alloc|apply pw_below_drewN|apply below_drew1|refine below_set ?_ GE245.out)|exact HB.out)⟩
            ·rw [if_neg c18] at H
             exact absurd H (by simp)
           ·rw [if_neg c17] at H
            exact absurd H (by simp)
          ·rw [if_neg c15] at H
           have c15b0 : decide (0 < x7_1) = false:=decide_eq_false c15
           clear c15
           by_cases c27 : (((rd_T59 l0 x7_1).f1).length : Int) = 128
           ·rw [if_pos c27] at H
            have c27b0 : ((((rd_T59 l0 x7_1).f1).length : Int) == 128) = true:=beq_iff_eq.mpr c27
            have c27b1 : ((((rd_T59 l0 x7_1).f1).length : Int) != 128) = false:=bne_eq_false_iff_eq.mpr c27
            clear c27
            have H':=Aside0.mk H
            clear H
            have p244 : 0 ≤ (x7_1 : Int):=of_decide_eq_true (by assumption)
            have q244 : x7_1 < (l0.length : Int):=of_decide_eq_true (by assumption)
            obtain ⟨ad244,A244_1,c244_1,e244,hx244_0,hx244_1,hl244_1,hi244_1⟩:=at_T59 HR0.out x7_1 p244 q244
            cases e244
            (try replace hx244_0:=(HB.out.cell (World.block_lt_of_cell? w _ hx244_0)).trans hx244_0)
            (try replace hx244_1:=(HB.out.cell (World.block_lt_of_cell? w _ hx244_1)).trans hx244_1)
            have HR244_1:=Aside0.mk hi244_1
            have HC244_1:=Aside0.mk hl244_1
            clear hi244_1 hl244_1
            replace p244:=eq_true p244
            replace q244:=eq_true q244
            go_wp2_with (first|((with_reducible refine gate_dst (N:=4) rfl ?_);(try (refine gate_guard (by rfl) ?_;dsimp only));refine box_event ?hg (N:=4) ?hd (cs:=#[.int .i64 0,.slice none 0 0]) (t:=59) ?hr ?_;(case hd=>rfl);(case hg=>rfl);(case hr=>first|(go_simp;done)|(go_simp;rfl));intro gb245 hg w28 hbox hb;have n0_:=Aside0.mk (below_step (by repeat (first|exact HB.out|apply below_alloc|apply pw_below_drewN|apply below_drew1)) hb);have n1_:=Aside0.mk (hbox);have n2_:=Aside0.mk ((by rw [hg];exact (below_size (by repeat (first|exact HB.out|apply below_alloc|apply pw_below_drewN|apply below_drew1))) : w.heap.size ≤ gb245));have n3_:=Aside0.mk ((by rw [hg];exact (below_size (by repeat (first|exact HB.out|apply below_alloc|apply pw_below_drewN|apply below_drew1))) : w.heap.size ≤ gb245));clear HB;have HB:=n0_;have BK245:=n1_;have GW245:=n2_;have GE245:=n3_;clear n0_ n1_ n2_ n3_;clear hb hbox hg;have hcz29_0 : w28.cell? ⟨gb245,0,none⟩ = some (.int .i64 0):=(blk_cell BK245.out 0).trans rfl;have hcz29_1 : w28.cell? ⟨gb245,1,none⟩ = some (.slice none 0 0):=(blk_cell BK245.out 1).trans rfl;have hfz29_0:=blk_frozen BK245.out 0;have hfz29_1:=blk_frozen BK245.out 1))
            repeat (go_quiet (first|((with_reducible refine gate_dst (N:=4) rfl ?_);(try (refine gate_guard (by rfl) ?_;dsimp only));refine box_event ?hg (N:=4) ?hd (cs:=#[.int .i64 0,.slice none 0 0]) (t:=59) ?hr ?_;(case hd=>rfl);(case hg=>rfl);(case hr=>first|(go_simp;done)|(go_simp;rfl));intro gb245 hg w28 hbox hb;have n0_:=Aside0.mk (below_step (by repeat (first|exact HB.out|apply below_alloc|apply pw_below_drewN|apply below_drew1)) hb);have n1_:=Aside0.mk (hbox);have n2_:=Aside0.mk ((by rw [hg];exact (below_size (by repeat (first|exact HB.out|apply below_alloc|apply pw_below_drewN|apply below_drew1))) : w.heap.size ≤ gb245));have n3_:=Aside0.mk ((by rw [hg];exact (below_size (by repeat (first|exact HB.out|apply below_alloc|apply pw_below_drewN|apply below_drew1))) : w.heap.size ≤ gb245));clear HB;have HB:=n0_;have BK245:=n1_;have GW245:=n2_;have GE245:=n3_;clear n0_ n1_ n2_ n3_;clear hb hbox hg;have hcz29_0 : w28.cell? ⟨gb245,0,none⟩ = some (.int .i64 0):=(blk_cell BK245.out 0).trans rfl;have hcz29_1 : w28.cell? ⟨gb245,1,none⟩ = some (.slice none 0 0):=(blk_cell BK245.out 1).trans rfl;have hfz29_0:=blk_frozen BK245.out 0;have hfz29_1:=blk_frozen BK245.out 1));try go_wp2_with (first|((with_reducible refine gate_dst (N:=4) rfl ?_);(try (refine gate_guard (by rfl) ?_;dsimp only));refine box_event ?hg (N:=4) ?hd (cs:=#[.int .i64 0,.slice none 0 0]) (t:=59) ?hr ?_;(case hd=>rfl);(case hg=>rfl);(case hr=>first|(go_simp;done)|(go_simp;rfl));intro gb245 hg w28 hbox hb;have n0_:=Aside0.mk (below_step (by repeat (first|exact HB.out|apply below_alloc|apply pw_below_drewN|apply below_drew1)) hb);have n1_:=Aside0.mk (hbox);have n2_:=Aside0.mk ((by rw [hg];exact (below_size (by repeat (first|exact HB.out|apply below_alloc|apply pw_below_drewN|apply below_drew1))) : w.heap.size ≤ gb245));have n3_:=Aside0.mk ((by rw [hg];exact (below_size (by repeat (first|exact HB.out|apply below_alloc|apply pw_below_drewN|apply below_drew1))) : w.heap.size ≤ gb245));clear HB;have HB:=n0_;have BK245:=n1_;have GW245:=n2_;have GE245:=n3_;clear n0_ n1_ n2_ n3_;clear hb hbox hg;have hcz29_0 : w28.cell? ⟨gb245,0,none⟩ = some (.int .i64 0):=(blk_cell BK245.out 0).trans rfl;have hcz29_1 : w28.cell? ⟨gb245,1,none⟩ = some (.slice none 0 0):=(blk_cell BK245.out 1).trans rfl;have hfz29_0:=blk_frozen BK245.out 0;have hfz29_1:=blk_frozen BK245.out 1)))
            go_roundg k1
            case measure=>have:=HK1.out;omega
            case rel=>exact ⟨(wrap64 (x7_1 + 1)),(by first|rfl|(simp;done)|(simp [*];done)),H',⟨by have:=HK1.out;omega⟩,⟨by repeat (first|(with_reducible first|exact HB.out|apply below_alloc|apply pw_below_drewN|apply below_drew1|refine below_set ?_ GE245.out)|exact HB.out)⟩⟩
           ·rw [if_neg c27] at H
            have c27b0 : ((((rd_T59 l0 x7_1).f1).length : Int) == 128) = false:=beq_eq_false_iff_ne.mpr c27
            have c27b1 : ((((rd_T59 l0 x7_1).f1).length : Int) != 128) = true:=bne_iff_ne.mpr c27
            obtain rfl:=Option.some.inj H
            have p244 : 0 ≤ (x7_1 : Int):=of_decide_eq_true (by assumption)
            have q244 : x7_1 < (l0.length : Int):=of_decide_eq_true (by assumption)
            obtain ⟨ad244,A244_1,c244_1,e244,hx244_0,hx244_1,hl244_1,hi244_1⟩:=at_T59 HR0.out x7_1 p244 q244
            cases e244
            (try replace hx244_0:=(HB.out.cell (World.block_lt_of_cell? w _ hx244_0)).trans hx244_0)
            (try replace hx244_1:=(HB.out.cell (World.block_lt_of_cell? w _ hx244_1)).trans hx244_1)
            have HR244_1:=Aside0.mk hi244_1
            have HC244_1:=Aside0.mk hl244_1
            clear hi244_1 hl244_1
            replace p244:=eq_true p244
            replace q244:=eq_true q244
            go_wp2_with (first|((with_reducible refine gate_dst (N:=4) rfl ?_);(try (refine gate_guard (by rfl) ?_;dsimp only));refine box_event ?hg (N:=4) ?hd (cs:=#[.int .i64 0,.slice none 0 0]) (t:=59) ?hr ?_;(case hd=>rfl);(case hg=>rfl);(case hr=>first|(go_simp;done)|(go_simp;rfl));intro gb245 hg w30 hbox hb;have n0_:=Aside0.mk (below_step (by repeat (first|exact HB.out|apply below_alloc|apply pw_below_drewN|apply below_drew1)) hb);have n1_:=Aside0.mk (hbox);have n2_:=Aside0.mk ((by rw [hg];exact (below_size (by repeat (first|exact HB.out|apply below_alloc|apply pw_below_drewN|apply below_drew1))) : w.heap.size ≤ gb245));have n3_:=Aside0.mk ((by rw [hg];exact (below_size (by repeat (first|exact HB.out|apply below_alloc|apply pw_below_drewN|apply below_drew1))) : w.heap.size ≤ gb245));clear HB;have HB:=n0_;have BK245:=n1_;have GW245:=n2_;have GE245:=n3_;clear n0_ n1_ n2_ n3_;clear hb hbox hg;have hcz31_0 : w30.cell? ⟨gb245,0,none⟩ = some (.int .i64 0):=(blk_cell BK245.out 0).trans rfl;have hcz31_1 : w30.cell? ⟨gb245,1,none⟩ = some (.slice none 0 0):=(blk_cell BK245.out 1).trans rfl;have hfz31_0:=blk_frozen BK245.out 0;have hfz31_1:=blk_frozen BK245.out 1))
            repeat (go_quiet (first|((with_reducible refine gate_dst (N:=4) rfl ?_);(try (refine gate_guard (by rfl) ?_;dsimp only));refine box_event ?hg (N:=4) ?hd (cs:=#[.int .i64 0,.slice none 0 0]) (t:=59) ?hr ?_;(case hd=>rfl);(case hg=>rfl);(case hr=>first|(go_simp;done)|(go_simp;rfl));intro gb245 hg w30 hbox hb;have n0_:=Aside0.mk (below_step (by repeat (first|exact HB.out|apply below_alloc|apply pw_below_drewN|apply below_drew1)) hb);have n1_:=Aside0.mk (hbox);have n2_:=Aside0.mk ((by rw [hg];exact (below_size (by repeat (first|exact HB.out|apply below_alloc|apply pw_below_drewN|apply below_drew1))) : w.heap.size ≤ gb245));have n3_:=Aside0.mk ((by rw [hg];exact (below_size (by repeat (first|exact HB.out|apply below_alloc|apply pw_below_drewN|apply below_drew1))) : w.heap.size ≤ gb245));clear HB;have HB:=n0_;have BK245:=n1_;have GW245:=n2_;have GE245:=n3_;clear n0_ n1_ n2_ n3_;clear hb hbox hg;have hcz31_0 : w30.cell? ⟨gb245,0,none⟩ = some (.int .i64 0):=(blk_cell BK245.out 0).trans rfl;have hcz31_1 : w30.cell? ⟨gb245,1,none⟩ = some (.slice none 0 0):=(blk_cell BK245.out 1).trans rfl;have hfz31_0:=blk_frozen BK245.out 0;have hfz31_1:=blk_frozen BK245.out 1));try go_wp2_with (first|((with_reducible refine gate_dst (N:=4) rfl ?_);(try (refine gate_guard (by rfl) ?_;dsimp only));refine box_event ?hg (N:=4) ?hd (cs:=#[.int .i64 0,.slice none 0 0]) (t:=59) ?hr ?_;(case hd=>rfl);(case hg=>rfl);(case hr=>first|(go_simp;done)|(go_simp;rfl));intro gb245 hg w30 hbox hb;have n0_:=Aside0.mk (below_step (by repeat (first|exact HB.out|apply below_alloc|apply pw_below_drewN|apply below_drew1)) hb);have n1_:=Aside0.mk (hbox);have n2_:=Aside0.mk ((by rw [hg];exact (below_size (by repeat (first|exact HB.out|apply below_alloc|apply pw_below_drewN|apply below_drew1))) : w.heap.size ≤ gb245));have n3_:=Aside0.mk ((by rw [hg];exact (below_size (by repeat (first|exact HB.out|apply below_alloc|apply pw_below_drewN|apply below_drew1))) : w.heap.size ≤ gb245));clear HB;have HB:=n0_;have BK245:=n1_;have GW245:=n2_;have GE245:=n3_;clear n0_ n1_ n2_ n3_;clear hb hbox hg;have hcz31_0 : w30.cell? ⟨gb245,0,none⟩ = some (.int .i64 0):=(blk_cell BK245.out 0).trans rfl;have hcz31_1 : w30.cell? ⟨gb245,1,none⟩ = some (.slice none 0 0):=(blk_cell BK245.out 1).trans rfl;have hfz31_0:=blk_frozen BK245.out 0;have hfz31_1:=blk_frozen BK245.out 1)))
            go_ret
            exact ⟨by first|rfl|(simp [*,errW_none,errW_some] <;> rfl),by repeat (first|(with_reducible first|exact HB.out|apply below_alloc|apply pw_below_drewN|apply below_drew1|refine below_set ?_ GE245.out)|exact HB.out)⟩
        ·rw [if_neg c11] at H
         have c11b0 : decide (1 < ((rd_T59 l0 x7_1).f0)) = false:=decide_eq_false c11
         clear c11
         by_cases c32 : x7_1 > 0
         ·rw [if_pos c32] at H
          have c32b0 : decide (0 < x7_1) = true:=decide_eq_true c32
          clear c32
          obtain ⟨ji33,hji33⟩ : ∃ j_ : Int,(wrap64 (x7_1 - 1)) = j_:=⟨_,rfl⟩
          replace H : (if 0 ≤ (ji33) then (if (ji33) < (l0.length : Int) then (if ((rd_T59 l0 x7_1).f0) ≤ ((rd_T59 l0 (ji33)).f0) then (some false) else (if (((rd_T59 l0 x7_1).f1).length : Int) = 128 then (impl_isGroup.l0 k1 l0 l0 (l0.length : Int) (wrap64 (x7_1 + 1))) else (some false))) else (none)) else (none)) = some r:=by first|(rw [hji33] at H;exact H)|(simp only [hji33] at H ⊢;exact H)
          have hji33w : (IntKind.i64.wrap (x7_1 - 1)) = ji33:=(i64_w _).trans hji33
          by_cases c34 : 0 ≤ (ji33)
          ·rw [if_pos c34] at H
           have c34b0 : decide (0 ≤ (ji33)) = true:=decide_eq_true c34
           clear c34
           by_cases c35 : (ji33) < (l0.length : Int)
           ·rw [if_pos c35] at H
            have c35b0 : decide ((ji33) < (l0.length : Int)) = true:=decide_eq_true c35
            clear c35
            by_cases c36 : ((rd_T59 l0 x7_1).f0) ≤ ((rd_T59 l0 (ji33)).f0)
            ·rw [if_pos c36] at H
             have c36b0 : decide (((rd_T59 l0 x7_1).f0) ≤ ((rd_T59 l0 (ji33)).f0)) = true:=decide_eq_true c36
             clear c36
             obtain rfl:=Option.some.inj H
             have p244 : 0 ≤ (x7_1 : Int):=of_decide_eq_true (by assumption)
             have q244 : x7_1 < (l0.length : Int):=of_decide_eq_true (by assumption)
             obtain ⟨ad244,A244_1,c244_1,e244,hx244_0,hx244_1,hl244_1,hi244_1⟩:=at_T59 HR0.out x7_1 p244 q244
             cases e244
             (try replace hx244_0:=(HB.out.cell (World.block_lt_of_cell? w _ hx244_0)).trans hx244_0)
             (try replace hx244_1:=(HB.out.cell (World.block_lt_of_cell? w _ hx244_1)).trans hx244_1)
             have HR244_1:=Aside0.mk hi244_1
             have HC244_1:=Aside0.mk hl244_1
             clear hi244_1 hl244_1
             replace p244:=eq_true p244
             replace q244:=eq_true q244
             go_wp2_with (first|((with_reducible refine gate_dst (N:=4) rfl ?_);(try (refine gate_guard (by rfl) ?_;dsimp only));refine box_event ?hg (N:=4) ?hd (cs:=#[.int .i64 0,.slice none 0 0]) (t:=59) ?hr ?_;(case hd=>rfl);(case hg=>rfl);(case hr=>first|(go_simp;done)|(go_simp;rfl));intro gb245 hg w37 hbox hb;have n0_:=Aside0.mk (below_step (by repeat (first|exact HB.out|apply below_alloc|apply pw_below_drewN|apply below_drew1)) hb);have n1_:=Aside0.mk (hbox);have n2_:=Aside0.mk ((by rw [hg];exact (below_size (by repeat (first|exact HB.out|apply below_alloc|apply pw_below_drewN|apply below_drew1))) : w.heap.size ≤ gb245));have n3_:=Aside0.mk ((by rw [hg];exact (below_size (by repeat (first|exact HB.out|apply below_alloc|apply pw_below_drewN|apply below_drew1))) : w.heap.size ≤ gb245));clear HB;have HB:=n0_;have BK245:=n1_;have GW245:=n2_;have GE245:=n3_;clear n0_ n1_ n2_ n3_;clear hb hbox hg;have hcz38_0 : w37.cell? ⟨gb245,0,none⟩ = some (.int .i64 0):=(blk_cell BK245.out 0).trans rfl;have hcz38_1 : w37.cell? ⟨gb245,1,none⟩ = some (.slice none 0 0):=(blk_cell BK245.out 1).trans rfl;have hfz38_0:=blk_frozen BK245.out 0;have hfz38_1:=blk_frozen BK245.out 1;have p247 : 0 ≤ ((ji33) : Int):=of_decide_eq_true (by assumption);have q247 : (ji33) < (l0.length : Int):=of_decide_eq_true (by assumption);obtain ⟨ad247,A247_1,c247_1,e247,hx247_0,hx247_1,hl247_1,hi247_1⟩:=at_T59 HR0.out (ji33) p247 q247;obtain rfl : ad244 = ad247:=(by injection e247);have hn247_0 : ad244.block ≠ gb245:=Nat.ne_of_lt (Nat.lt_of_lt_of_le (by have:=World.block_lt_of_cell? _ _ hx247_0;first|rwa [add_block] at this|exact this) GW245.out);have hn247_1 : ad244.block ≠ gb245:=Nat.ne_of_lt (Nat.lt_of_lt_of_le (by have:=World.block_lt_of_cell? _ _ hx247_0;first|rwa [add_block] at this|exact this) GW245.out);(try replace hx247_0:=(HB.out.cell (World.block_lt_of_cell? w _ hx247_0)).trans hx247_0);(try replace hx247_1:=(HB.out.cell (World.block_lt_of_cell? w _ hx247_1)).trans hx247_1);have HR247_1:=Aside0.mk hi247_1;have HC247_1:=Aside0.mk hl247_1;clear hi247_1 hl247_1;replace hx247_0:=(cell_far (p:=⟨gb245,0,none⟩) (by first|(rw [add_block];exact hn247_0)|(show (Addr.add _ _).block ≠ _;rw [add_block];exact hn247_0)|exact hn247_0) (.int .i64 ((rd_T59 l0 x7_1).f0))).trans hx247_0;replace hx247_1:=(cell_far (p:=⟨gb245,0,none⟩) (by first|(rw [add_block];exact hn247_0)|(show (Addr.add _ _).block ≠ _;rw [add_block];exact hn247_0)|exact hn247_0) (.int .i64 ((rd_T59 l0 x7_1).f0))).trans hx247_1;replace hx247_0:=(cell_far (p:=⟨gb245,1,none⟩) (by first|(rw [add_block];exact hn247_1)|(show (Addr.add _ _).block ≠ _;rw [add_block];exact hn247_1)|exact hn247_1) (.slice A244_1 ((rd_T59 l0 x7_1).f1).length c244_1)).trans hx247_0;replace hx247_1:=(cell_far (p:=⟨gb245,1,none⟩) (by first|(rw [add_block];exact hn247_1)|(show (Addr.add _ _).block ≠ _;rw [add_block];exact hn247_1)|exact hn247_1) (.slice A244_1 ((rd_T59 l0 x7_1).f1).length c244_1)).trans hx247_1;(try have hy247_0:=fun (n_ : Nat)=>(show ((((w37.drewN n_).setCell ⟨gb245,0,none⟩ (.int .i64 ((rd_T59 l0 x7_1).f0))).setCell ⟨gb245,1,none⟩ (.slice A244_1 ((rd_T59 l0 x7_1).f1).length c244_1))).cell? _ = some _ from hx247_0));(try have hy247_1:=fun (n_ : Nat)=>(show ((((w37.drewN n_).setCell ⟨gb245,0,none⟩ (.int .i64 ((rd_T59 l0 x7_1).f0))).setCell ⟨gb245,1,none⟩ (.slice A244_1 ((rd_T59 l0 x7_1).f1).length c244_1))).cell? _ = some _ from hx247_1));clear hn247_0;clear hn247_1;replace p247:=eq_true p247;replace q247:=eq_true q247))
             repeat (go_quiet (first|((with_reducible refine gate_dst (N:=4) rfl ?_);(try (refine gate_guard (by rfl) ?_;dsimp only));refine box_event ?hg (N:=4) ?hd (cs:=#[.int .i64 0,.slice none 0 0]) (t:=59) ?hr ?_;(case hd=>rfl);(case hg=>rfl);(case hr=>first|(go_simp;done)|(go_simp;rfl));intro gb245 hg w37 hbox hb;have n0_:=Aside0.mk (below_step (by repeat (first|exact HB.out|apply below_alloc|apply pw_below_drewN|apply below_drew1)) hb);have n1_:=Aside0.mk (hbox);have n2_:=Aside0.mk ((by rw [hg];exact (below_size (by repeat (first|exact HB.out|apply below_alloc|apply pw_below_drewN|apply below_drew1))) : w.heap.size ≤ gb245));have n3_:=Aside0.mk ((by rw [hg];exact (below_size (by repeat (first|exact HB.out|apply below_alloc|apply pw_below_drewN|apply below_drew1))) : w.heap.size ≤ gb245));clear HB;have HB:=n0_;have BK245:=n1_;have GW245:=n2_;have GE245:=n3_;clear n0_ n1_ n2_ n3_;clear hb hbox hg;have hcz38_0 : w37.cell? ⟨gb245,0,none⟩ = some (.int .i64 0):=(blk_cell BK245.out 0).trans rfl;have hcz38_1 : w37.cell? ⟨gb245,1,none⟩ = some (.slice none 0 0):=(blk_cell BK245.out 1).trans rfl;have hfz38_0:=blk_frozen BK245.out 0;have hfz38_1:=blk_frozen BK245.out 1;have p247 : 0 ≤ ((ji33) : Int):=of_decide_eq_true (by assumption);have q247 : (ji33) < (l0.length : Int):=of_decide_eq_true (by assumption);obtain ⟨ad247,A247_1,c247_1,e247,hx247_0,hx247_1,hl247_1,hi247_1⟩:=at_T59 HR0.out (ji33) p247 q247;obtain rfl : ad244 = ad247:=(by injection e247);have hn247_0 : ad244.block ≠ gb245:=Nat.ne_of_lt (Nat.lt_of_lt_of_le (by have:=World.block_lt_of_cell? _ _ hx247_0;first|rwa [add_block] at this|exact this) GW245.out);have hn247_1 : ad244.block ≠ gb245:=Nat.ne_of_lt (Nat.lt_of_lt_of_le (by have:=World.block_lt_of_cell? _ _ hx247_0;first|rwa [add_block] at this|exact this) GW245.out);(try replace hx247_0:=(HB.out.cell (World.block_lt_of_cell? w _ hx247_0)).trans hx247_0);(try replace hx247_1:=(HB.out.cell (World.block_lt_of_cell? w _ hx247_1)).trans hx247_1);have HR247_1:=Aside0.mk hi247_1;have HC247_1:=Aside0.mk hl247_1;clear hi247_1 hl247_1;replace hx247_0:=(cell_far (p:=⟨gb245,0,none⟩) (by first|(rw [add_block];exact hn247_0)|(show (Addr.add _ _).block ≠ _;rw [add_block];exact hn247_0)|exact hn247_0) (.int .i64 ((rd_T59 l0 x7_1).f0))).trans hx247_0;replace hx247_1:=(cell_far (p:=⟨gb245,0,none⟩) (by first|(rw [add_block];exact hn247_0)|(show (Addr.add _ _).block ≠ _;rw [add_block];exact hn247_0)|exact hn247_0) (.int .i64 ((rd_T59 l0 x7_1).f0))).trans hx247_1;replace hx247_0:=(cell_far (p:=⟨gb245,1,none⟩) (by first|(rw [add_block];exact hn247_1)|(show (Addr.add _ _).block ≠ _;rw [add_block];exact hn247_1)|exact hn247_1) (.slice A244_1 ((rd_T59 l0 x7_1).f1).length c244_1)).trans hx247_0;replace hx247_1:=(cell_far (p:=⟨gb245,1,none⟩) (by first|(rw [add_block];exact hn247_1)|(show (Addr.add _ _).block ≠ _;rw [add_block];exact hn247_1)|exact hn247_1) (.slice A244_1 ((rd_T59 l0 x7_1).f1).length c244_1)).trans hx247_1;(try have hy247_0:=fun (n_ : Nat)=>(show ((((w37.drewN n_).setCell ⟨gb245,0,none⟩ (.int .i64 ((rd_T59 l0 x7_1).f0))).setCell ⟨gb245,1,none⟩ (.slice A244_1 ((rd_T59 l0 x7_1).f1).length c244_1))).cell? _ = some _ from hx247_0));(try have hy247_1:=fun (n_ : Nat)=>(show ((((w37.drewN n_).setCell ⟨gb245,0,none⟩ (.int .i64 ((rd_T59 l0 x7_1).f0))).setCell ⟨gb245,1,none⟩ (.slice A244_1 ((rd_T59 l0 x7_1).f1).length c244_1))).cell? _ = some _ from hx247_1));clear hn247_0;clear hn247_1;replace p247:=eq_true p247;replace q247:=eq_true q247));try go_wp2_with (first|((with_reducible refine gate_dst (N:=4) rfl ?_);(try (refine gate_guard (by rfl) ?_;dsimp only));refine box_event ?hg (N:=4) ?hd (cs:=#[.int .i64 0,.slice none 0 0]) (t:=59) ?hr ?_;(case hd=>rfl);(case hg=>rfl);(case hr=>first|(go_simp;done)|(go_simp;rfl));intro gb245 hg w37 hbox hb;have n0_:=Aside0.mk (below_step (by repeat (first|exact HB.out|apply below_alloc|apply pw_below_drewN|apply below_drew1)) hb);have n1_:=Aside0.mk (hbox);have n2_:=Aside0.mk ((by rw [hg];exact (below_size (by repeat (first|exact HB.out|apply below_alloc|apply pw_below_drewN|apply below_drew1))) : w.heap.size ≤ gb245));have n3_:=Aside0.mk ((by rw [hg];exact (below_size (by repeat (first|exact HB.out|apply below_alloc|apply pw_below_drewN|apply below_drew1))) : w.heap.size ≤ gb245));clear HB;have HB:=n0_;have BK245:=n1_;have GW245:=n2_;have GE245:=n3_;clear n0_ n1_ n2_ n3_;clear hb hbox hg;have hcz38_0 : w37.cell? ⟨gb245,0,none⟩ = some (.int .i64 0):=(blk_cell BK245.out 0).trans rfl;have hcz38_1 : w37.cell? ⟨gb245,1,none⟩ = some (.slice none 0 0):=(blk_cell BK245.out 1).trans rfl;have hfz38_0:=blk_frozen BK245.out 0;have hfz38_1:=blk_frozen BK245.out 1;have p247 : 0 ≤ ((ji33) : Int):=of_decide_eq_true (by assumption);have q247 : (ji33) < (l0.length : Int):=of_decide_eq_true (by assumption);obtain ⟨ad247,A247_1,c247_1,e247,hx247_0,hx247_1,hl247_1,hi247_1⟩:=at_T59 HR0.out (ji33) p247 q247;obtain rfl : ad244 = ad247:=(by injection e247);have hn247_0 : ad244.block ≠ gb245:=Nat.ne_of_lt (Nat.lt_of_lt_of_le (by have:=World.block_lt_of_cell? _ _ hx247_0;first|rwa [add_block] at this|exact this) GW245.out);have hn247_1 : ad244.block ≠ gb245:=Nat.ne_of_lt (Nat.lt_of_lt_of_le (by have:=World.block_lt_of_cell? _ _ hx247_0;first|rwa [add_block] at this|exact this) GW245.out);(try replace hx247_0:=(HB.out.cell (World.block_lt_of_cell? w _ hx247_0)).trans hx247_0);(try replace hx247_1:=(HB.out.cell (World.block_lt_of_cell? w _ hx247_1)).trans hx247_1);have HR247_1:=Aside0.mk hi247_1;have HC247_1:=Aside0.mk hl247_1;clear hi247_1 hl247_1;replace hx247_0:=(cell_far (p:=⟨gb245,0,none⟩) (by first|(rw [add_block];exact hn247_0)|(show (Addr.add _ _).block ≠ _;rw [add_block];exact hn247_0)|exact hn247_0) (.int .i64 ((rd_T59 l0 x7_1).f0))).trans hx247_0;replace hx247_1:=(cell_far (p:=⟨gb245,0,none⟩) (by first|(rw [add_block];exact hn247_0)|(show (Addr.add _ _).block ≠ _;rw [add_block];exact hn247_0)|exact hn247_0) (.int .i64 ((rd_T59 l0 x7_1).f0))).trans hx247_1;replace hx247_0:=(cell_far (p:=⟨gb245,1,none⟩) (by first|(rw [add_block];exact hn247_1)|(show (Addr.add _ _).block ≠ _;rw [add_block];exact hn247_1)|exact hn247_1) (.slice A244_1 ((rd_T59 l0 x7_1).f1).length c244_1)).trans hx247_0;replace hx247_1:=(cell_far (p:=⟨gb245,1,none⟩) (by first|(rw [add_block];exact hn247_1)|(show (Addr.add _ _).block ≠ _;rw [add_block];exact hn247_1)|exact hn247_1) (.slice A244_1 ((rd_T59 l0 x7_1).f1).length c244_1)).trans hx247_1;(try have hy247_0:=fun (n_ : Nat)=>(show ((((w37.drewN n_).setCell ⟨gb245,0,none⟩ (.int .i64 ((rd_T59 l0 x7_1).f0))).setCell ⟨gb245,1,none⟩ (.slice A244_1 ((rd_T59 l0 x7_1).f1).length c244_1))).cell? _ = some _ from hx247_0));(try have hy247_1:=fun (n_ : Nat)=>(show ((((w37.drewN n_).setCell ⟨gb245,0,none⟩ (.int .i64 ((rd_T59 l0 x7_1).f0))).setCell ⟨gb245,1,none⟩ (.slice A244_1 ((rd_T59 l0 x7_1).f1).length c244_1))).cell? _ = some _ from hx247_1));clear hn247_0;clear hn247_1;replace p247:=eq_true p247;replace q247:=eq_true q247)))
             go_ret
             exact ⟨by first|rfl|(simp [errW_none,errW_some] <;> rfl)|(simp only [← hji33];first|rfl|(simp [errW_none,errW_some] <;> rfl))|(simp [*,errW_none,errW_some] <;> rfl),by repeat (first|(with_reducible first|exact HB.out|apply below_alloc|apply pw_below_drewN|apply below_drew1|refine below_set ?_ GE245.out)|exact HB.out)⟩
            ·rw [if_neg c36] at H
             have c36b0 : decide (((rd_T59 l0 x7_1).f0) ≤ ((rd_T59 l0 (ji33)).f0)) = false:=decide_eq_false c36
             clear c36
             by_cases c39 : (((rd_T59 l0 x7_1).f1).length : Int) = 128
             ·rw [if_pos c39] at H
              have c39b0 : ((((rd_T59 l0 x7_1).f1).length : Int) == 128) = true:=beq_iff_eq.mpr c39
              have c39b1 : ((((rd_T59 l0 x7_1).f1).length : Int) != 128) = false:=bne_eq_false_iff_eq.mpr c39
              clear c39
              have H':=Aside0.mk H
              clear H
              have p244 : 0 ≤ (x7_1 : Int):=of_decide_eq_true (by assumption)
              have q244 : x7_1 < (l0.length : Int):=of_decide_eq_true (by assumption)
              obtain ⟨ad244,A244_1,c244_1,e244,hx244_0,hx244_1,hl244_1,hi244_1⟩:=at_T59 HR0.out x7_1 p244 q244
              cases e244
              (try replace hx244_0:=(HB.out.cell (World.block_lt_of_cell? w _ hx244_0)).trans hx244_0)
              (try replace hx244_1:=(HB.out.cell (World.block_lt_of_cell? w _ hx244_1)).trans hx244_1)
              have HR244_1:=Aside0.mk hi244_1
              have HC244_1:=Aside0.mk hl244_1
              clear hi244_1 hl244_1
              replace p244:=eq_true p244
              replace q244:=eq_true q244
              go_wp2_with (first|((with_reducible refine gate_dst (N:=4) rfl ?_);(try (refine gate_guard (by rfl) ?_;dsimp only));refine box_event ?hg (N:=4) ?hd (cs:=#[.int .i64 0,.slice none 0 0]) (t:=59) ?hr ?_;(case hd=>rfl);(case hg=>rfl);(case hr=>first|(go_simp;done)|(go_simp;rfl));intro gb245 hg w40 hbox hb;have n0_:=Aside0.mk (below_step (by repeat (first|exact HB.out|apply below_alloc|apply pw_below_drewN|apply below_drew1)) hb);have n1_:=Aside0.mk (hbox);have n2_:=Aside0.mk ((by rw [hg];exact (below_size (by repeat (first|exact HB.out|apply below_alloc|apply pw_below_drewN|apply below_drew1))) : w.heap.size ≤ gb245));have n3_:=Aside0.mk ((by rw [hg];exact (below_size (by repeat (first|exact HB.out|apply below_alloc|apply pw_below_drewN|apply below_drew1))) : w.heap.size ≤ gb245));clear HB;have HB:=n0_;have BK245:=n1_;have GW245:=n2_;have GE245:=n3_;clear n0_ n1_ n2_ n3_;clear hb hbox hg;have hcz41_0 : w40.cell? ⟨gb245,0,none⟩ = some (.int .i64 0):=(blk_cell BK245.out 0).trans rfl;have hcz41_1 : w40.cell? ⟨gb245,1,none⟩ = some (.slice none 0 0):=(blk_cell BK245.out 1).trans rfl;have hfz41_0:=blk_frozen BK245.out 0;have hfz41_1:=blk_frozen BK245.out 1;have p247 : 0 ≤ ((ji33) : Int):=of_decide_eq_true (by assumption);have q247 : (ji33) < (l0.length : Int):=of_decide_eq_true (by assumption);obtain ⟨ad247,A247_1,c247_1,e247,hx247_0,hx247_1,hl247_1,hi247_1⟩:=at_T59 HR0.out (ji33) p247 q247;obtain rfl : ad244 = ad247:=(by injection e247);have hn247_0 : ad244.block ≠ gb245:=Nat.ne_of_lt (Nat.lt_of_lt_of_le (by have:=World.block_lt_of_cell? _ _ hx247_0;first|rwa [add_block] at this|exact this) GW245.out);have hn247_1 : ad244.block ≠ gb245:=Nat.ne_of_lt (Nat.lt_of_lt_of_le (by have:=World.block_lt_of_cell? _ _ hx247_0;first|rwa [add_block] at this|exact this) GW245.out);(try replace hx247_0:=(HB.out.cell (World.block_lt_of_cell? w _ hx247_0)).trans hx247_0);(try replace hx247_1:=(HB.out.cell (World.block_lt_of_cell? w _ hx247_1)).trans hx247_1);have HR247_1:=Aside0.mk hi247_1;have HC247_1:=Aside0.mk hl247_1;clear hi247_1 hl247_1;replace hx247_0:=(cell_far (p:=⟨gb245,0,none⟩) (by first|(rw [add_block];exact hn247_0)|(show (Addr.add _ _).block ≠ _;rw [add_block];exact hn247_0)|exact hn247_0) (.int .i64 ((rd_T59 l0 x7_1).f0))).trans hx247_0;replace hx247_1:=(cell_far (p:=⟨gb245,0,none⟩) (by first|(rw [add_block];exact hn247_0)|(show (Addr.add _ _).block ≠ _;rw [add_block];exact hn247_0)|exact hn247_0) (.int .i64 ((rd_T59 l0 x7_1).f0))).trans hx247_1;replace hx247_0:=(cell_far (p:=⟨gb245,1,none⟩) (by first|(rw [add_block];exact hn247_1)|(show (Addr.add _ _).block ≠ _;rw [add_block];exact hn247_1)|exact hn247_1) (.slice A244_1 ((rd_T59 l0 x7_1).f1).length c244_1)).trans hx247_0;replace hx247_1:=(cell_far (p:=⟨gb245,1,none⟩) (by first|(rw [add_block];exact hn247_1)|(show (Addr.add _ _).block ≠ _;rw [add_block];exact hn247_1)|exact hn247_1) (.slice A244_1 ((rd_T59 l0 x7_1).f1).length c244_1)).trans hx247_1;(try have hy247_0:=fun (n_ : Nat)=>(show ((((w40.drewN n_).setCell ⟨gb245,0,none⟩ (.int .i64 ((rd_T59 l0 x7_1).f0))).setCell ⟨gb245,1,none⟩ (.slice A244_1 ((rd_T59 l0 x7_1).f1).length c244_1))).cell? _ = some _ from hx247_0));(try have hy247_1:=fun (n_ : Nat)=>(show ((((w40.drewN n_).setCell ⟨gb245,0,none⟩ (.int .i64 ((rd_T59 l0 x7_1).f0))).setCell ⟨gb245,1,none⟩ (.slice A244_1 ((rd_T59 l0 x7_1).f1).length c244_1))).cell? _ = some _ from hx247_1));clear hn247_0;clear hn247_1;replace p247:=eq_true p247;replace q247:=eq_true q247))
              repeat (go_quiet (first|((with_reducible refine gate_dst (N:=4) rfl ?_);(try (refine gate_guard (by rfl) ?_;dsimp only));refine box_event ?hg (N:=4) ?hd (cs:=#[.int .i64 0,.slice none 0 0]) (t:=59) ?hr ?_;(case hd=>rfl);(case hg=>rfl);(case hr=>first|(go_simp;done)|(go_simp;rfl));intro gb245 hg w40 hbox hb;have n0_:=Aside0.mk (below_step (by repeat (first|exact HB.out|apply below_alloc|apply pw_below_drewN|apply below_drew1)) hb);have n1_:=Aside0.mk (hbox);have n2_:=Aside0.mk ((by rw [hg];exact (below_size (by repeat (first|exact HB.out|apply below_alloc|apply pw_below_drewN|apply below_drew1))) : w.heap.size ≤ gb245));have n3_:=Aside0.mk ((by rw [hg];exact (below_size (by repeat (first|exact HB.out|apply below_alloc|apply pw_below_drewN|apply below_drew1))) : w.heap.size ≤ gb245));clear HB;have HB:=n0_;have BK245:=n1_;have GW245:=n2_;have GE245:=n3_;clear n0_ n1_ n2_ n3_;clear hb hbox hg;have hcz41_0 : w40.cell? ⟨gb245,0,none⟩ = some (.int .i64 0):=(blk_cell BK245.out 0).trans rfl;have hcz41_1 : w40.cell? ⟨gb245,1,none⟩ = some (.slice none 0 0):=(blk_cell BK245.out 1).trans rfl;have hfz41_0:=blk_frozen BK245.out 0;have hfz41_1:=blk_frozen BK245.out 1;have p247 : 0 ≤ ((ji33) : Int):=of_decide_eq_true (by assumption);have q247 : (ji33) < (l0.length : Int):=of_decide_eq_true (by assumption);obtain ⟨ad247,A247_1,c247_1,e247,hx247_0,hx247_1,hl247_1,hi247_1⟩:=at_T59 HR0.out (ji33) p247 q247;obtain rfl : ad244 = ad247:=(by injection e247);have hn247_0 : ad244.block ≠ gb245:=Nat.ne_of_lt (Nat.lt_of_lt_of_le (by have:=World.block_lt_of_cell? _ _ hx247_0;first|rwa [add_block] at this|exact this) GW245.out);have hn247_1 : ad244.block ≠ gb245:=Nat.ne_of_lt (Nat.lt_of_lt_of_le (by have:=World.block_lt_of_cell? _ _ hx247_0;first|rwa [add_block] at this|exact this) GW245.out);(try replace hx247_0:=(HB.out.cell (World.block_lt_of_cell? w _ hx247_0)).trans hx247_0);(try replace hx247_1:=(HB.out.cell (World.block_lt_of_cell? w _ hx247_1)).trans hx247_1);have HR247_1:=Aside0.mk hi247_1;have HC247_1:=Aside0.mk hl247_1;clear hi247_1 hl247_1;replace hx247_0:=(cell_far (p:=⟨gb245,0,none⟩) (by first|(rw [add_block];exact hn247_0)|(show (Addr.add _ _).block ≠ _;rw [add_block];exact hn247_0)|exact hn247_0) (.int .i64 ((rd_T59 l0 x7_1).f0))).trans hx247_0;replace hx247_1:=(cell_far (p:=⟨gb245,0,none⟩) (by first|(rw [add_block];exact hn247_0)|(show (Addr.add _ _).block ≠ _;rw [add_block];exact hn247_0)|exact hn247_0) (.int .i64 ((rd_T59 l0 x7_1).f0))).trans hx247_1;replace hx247_0:=(cell_far (p:=⟨gb245,1,none⟩) (by first|(rw [add_block];exact hn247_1)|(show (Addr.add _ _).block ≠ _;rw [add_block];exact hn247_1)|exact hn247_1) (.slice A244_1 ((rd_T59 l0 x7_1).f1).length c244_1)).trans hx247_0;replace hx247_1:=(cell_far (p:=⟨gb245,1,none⟩) (by first|(rw [add_block];exact hn247_1)|(show (Addr.add _ _).block ≠ _;rw [add_block];exact hn247_1)|exact hn247_1) (.slice A244_1 ((rd_T59 l0 x7_1).f1).length c244_1)).trans hx247_1;(try have hy247_0:=fun (n_ : Nat)=>(show ((((w40.drewN n_).setCell ⟨gb245,0,none⟩ (.int .i64 ((rd_T59 l0 x7_1).f0))).setCell ⟨gb245,1,none⟩ (.slice A244_1 ((rd_T59 l0 x7_1).f1).length c244_1))).cell? _ = some _ from hx247_0));(try have hy247_1:=fun (n_ : Nat)=>(show ((((w40.drewN n_).setCell ⟨gb245,0,none⟩ (.int .i64 ((rd_T59 l0 x7_1).f0))).setCell ⟨gb245,1,none⟩ (.slice A244_1 ((rd_T59 l0 x7_1).f1).length c244_1))).cell? _ = some _ from hx247_1));clear hn247_0;clear hn247_1;replace p247:=eq_true p247;replace q247:=eq_true q247));try go_wp2_with (first|((with_reducible refine gate_dst (N:=4) rfl ?_);(try (refine gate_guard (by rfl) ?_;dsimp only));refine box_event ?hg (N:=4) ?hd (cs:=#[.int .i64 0,.slice none 0 0]) (t:=59) ?hr ?_;(case hd=>rfl);(case hg=>rfl);(case hr=>first|(go_simp;done)|(go_simp;rfl));intro gb245 hg w40 hbox hb;have n0_:=Aside0.mk (below_step (by repeat (first|exact HB.out|apply below_alloc|apply pw_below_drewN|apply below_drew1)) hb);have n1_:=Aside0.mk (hbox);have n2_:=Aside0.mk ((by rw [hg];exact (below_size (by repeat (first|exact HB.out|apply below_alloc|apply pw_below_drewN|apply below_drew1))) : w.heap.size ≤ gb245));have n3_:=Aside0.mk ((by rw [hg];exact (below_size (by repeat (first|exact HB.out|apply below_alloc|apply pw_below_drewN|apply below_drew1))) : w.heap.size ≤ gb245));clear HB;have HB:=n0_;have BK245:=n1_;have GW245:=n2_;have GE245:=n3_;clear n0_ n1_ n2_ n3_;clear hb hbox hg;have hcz41_0 : w40.cell? ⟨gb245,0,none⟩ = some (.int .i64 0):=(blk_cell BK245.out 0).trans rfl;have hcz41_1 : w40.cell? ⟨gb245,1,none⟩ = some (.slice none 0 0):=(blk_cell BK245.out 1).trans rfl;have hfz41_0:=blk_frozen BK245.out 0;have hfz41_1:=blk_frozen BK245.out 1;have p247 : 0 ≤ ((ji33) : Int):=of_decide_eq_true (by assumption);have q247 : (ji33) < (l0.length : Int):=of_decide_eq_true (by assumption);obtain ⟨ad247,A247_1,c247_1,e247,hx247_0,hx247_1,hl247_1,hi247_1⟩:=at_T59 HR0.out (ji33) p247 q247;obtain rfl : ad244 = ad247:=(by injection e247);have hn247_0 : ad244.block ≠ gb245:=Nat.ne_of_lt (Nat.lt_of_lt_of_le (by have:=World.block_lt_of_cell? _ _ hx247_0;first|rwa [add_block] at this|exact this) GW245.out);have hn247_1 : ad244.block ≠ gb245:=Nat.ne_of_lt (Nat.lt_of_lt_of_le (by have:=World.block_lt_of_cell? _ _ hx247_0;first|rwa [add_block] at this|exact this) GW245.out);(try replace hx247_0:=(HB.out.cell (World.block_lt_of_cell? w _ hx247_0)).trans hx247_0);(try replace hx247_1:=(HB.out.cell (World.block_lt_of_cell? w _ hx247_1)).trans hx247_1);have HR247_1:=Aside0.mk hi247_1;have HC247_1:=Aside0.mk hl247_1;clear hi247_1 hl247_1;replace hx247_0:=(cell_far (p:=⟨gb245,0,none⟩) (by first|(rw [add_block];exact hn247_0)|(show (Addr.add _ _).block ≠ _;rw [add_block];exact hn247_0)|exact hn247_0) (.int .i64 ((rd_T59 l0 x7_1).f0))).trans hx247_0;replace hx247_1:=(cell_far (p:=⟨gb245,0,none⟩) (by first|(rw [add_block];exact hn247_0)|(show (Addr.add _ _).block ≠ _;rw [add_block];exact hn247_0)|exact hn247_0) (.int .i64 ((rd_T59 l0 x7_1).f0))).trans hx247_1;replace hx247_0:=(cell_far (p:=⟨gb245,1,none⟩) (by first|(rw [add_block];exact hn247_1)|(show (Addr.add _ _).block ≠ _;rw [add_block];exact hn247_1)|exact hn247_1) (.slice A244_1 ((rd_T59 l0 x7_1).f1).length c244_1)).trans hx247_0;replace hx247_1:=(cell_far (p:=⟨gb245,1,none⟩) (by first|(rw [add_block];exact hn247_1)|(show (Addr.add _ _).block ≠ _;rw [add_block];exact hn247_1)|exact hn247_1) (.slice A244_1 ((rd_T59 l0 x7_1).f1).length c244_1)).trans hx247_1;(try have hy247_0:=fun (n_ : Nat)=>(show ((((w40.drewN n_).setCell ⟨gb245,0,none⟩ (.int .i64 ((rd_T59 l0 x7_1).f0))).setCell ⟨gb245,1,none⟩ (.slice A244_1 ((rd_T59 l0 x7_1).f1).length c244_1))).cell? _ = some _ from hx247_0));(try have hy247_1:=fun (n_ : Nat)=>(show ((((w40.drewN n_).setCell ⟨gb245,0,none⟩ (.int .i64 ((rd_T59 l0 x7_1).f0))).setCell ⟨gb245,1,none⟩ (.slice A244_1 ((rd_T59 l0 x7_1).f1).length c244_1))).cell? _ = some _ from hx247_1));clear hn247_0;clear hn247_1;replace p247:=eq_true p247;replace q247:=eq_true q247)))
              go_roundg k1
              case measure=>have:=HK1.out;omega
              case rel=>exact ⟨(wrap64 (x7_1 + 1)),(by first|rfl|(simp;done)|(simp [*];done)),H',⟨by have:=HK1.out;omega⟩,⟨by repeat (first|(with_reducible first|exact HB.out|apply below_alloc|apply pw_below_drewN|apply below_drew1|refine below_set ?_ GE245.out)|exact HB.out)⟩⟩
             ·rw [if_neg c39] at H
              have c39b0 : ((((rd_T59 l0 x7_1).f1).length : Int) == 128) = false:=beq_eq_false_iff_ne.mpr c39
              have c39b1 : ((((rd_T59 l0 x7_1).f1).length : Int) != 128) = true:=bne_iff_ne.mpr c39
              obtain rfl:=Option.some.inj H
              have p244 : 0 ≤ (x7_1 : Int):=of_decide_eq_true (by assumption)
              have q244 : x7_1 < (l0.length : Int):=of_decide_eq_true (by assumption)
              obtain ⟨ad244,A244_1,c244_1,e244,hx244_0,hx244_1,hl244_1,hi244_1⟩:=at_T59 HR0.out x7_1 p244 q244
              cases e244
              (try replace hx244_0:=(HB.out.cell (World.block_lt_of_cell? w _ hx244_0)).trans hx244_0)
              (try replace hx244_1:=(HB.out.cell (World.block_lt_of_cell? w _ hx244_1)).trans hx244_1)
              have HR244_1:=Aside0.mk hi244_1
              have HC244_1:=Aside0.mk hl244_1
              clear hi244_1 hl244_1
              replace p244:=eq_true p244
              replace q244:=eq_true q244
              go_wp2_with (first|((with_reducible refine gate_dst (N:=4) rfl ?_);(try (refine gate_guard (by rfl) ?_;dsimp only));refine box_event ?hg (N:=4) ?hd (cs:=#[.int .i64 0,.slice none 0 0]) (t:=59) ?hr ?_;(case hd=>rfl);(case hg=>rfl);(case hr=>first|(go_simp;done)|(go_simp;rfl));intro gb245 hg w42 hbox hb;have n0_:=Aside0.mk (below_step (by repeat (first|exact HB.out|apply below_alloc|apply pw_below_drewN|apply below_drew1)) hb);have n1_:=Aside0.mk (hbox);have n2_:=Aside0.mk ((by rw [hg];exact (below_size (by repeat (first|exact HB.out|apply below_alloc|apply pw_below_drewN|apply below_drew1))) : w.heap.size ≤ gb245));have n3_:=Aside0.mk ((by rw [hg];exact (below_size (by repeat (first|exact HB.out|apply below_alloc|apply pw_below_drewN|apply below_drew1))) : w.heap.size ≤ gb245));clear HB;have HB:=n0_;have BK245:=n1_;have GW245:=n2_;have GE245:=n3_;clear n0_ n1_ n2_ n3_;clear hb hbox hg;have hcz43_0 : w42.cell? ⟨gb245,0,none⟩ = some (.int .i64 0):=(blk_cell BK245.out 0).trans rfl;have hcz43_1 : w42.cell? ⟨gb245,1,none⟩ = some (.slice none 0 0):=(blk_cell BK245.out 1).trans rfl;have hfz43_0:=blk_frozen BK245.out 0;have hfz43_1:=blk_frozen BK245.out 1;have p247 : 0 ≤ ((ji33) : Int):=of_decide_eq_true (by assumption);have q247 : (ji33) < (l0.length : Int):=of_decide_eq_true (by assumption);obtain ⟨ad247,A247_1,c247_1,e247,hx247_0,hx247_1,hl247_1,hi247_1⟩:=at_T59 HR0.out (ji33) p247 q247;obtain rfl : ad244 = ad247:=(by injection e247);have hn247_0 : ad244.block ≠ gb245:=Nat.ne_of_lt (Nat.lt_of_lt_of_le (by have:=World.block_lt_of_cell? _ _ hx247_0;first|rwa [add_block] at this|exact this) GW245.out);have hn247_1 : ad244.block ≠ gb245:=Nat.ne_of_lt (Nat.lt_of_lt_of_le (by have:=World.block_lt_of_cell? _ _ hx247_0;first|rwa [add_block] at this|exact this) GW245.out);(try replace hx247_0:=(HB.out.cell (World.block_lt_of_cell? w _ hx247_0)).trans hx247_0);(try replace hx247_1:=(HB.out.cell (World.block_lt_of_cell? w _ hx247_1)).trans hx247_1);have HR247_1:=Aside0.mk hi247_1;have HC247_1:=Aside0.mk hl247_1;clear hi247_1 hl247_1;replace hx247_0:=(cell_far (p:=⟨gb245,0,none⟩) (by first|(rw [add_block];exact hn247_0)|(show (Addr.add _ _).block ≠ _;rw [add_block];exact hn247_0)|exact hn247_0) (.int .i64 ((rd_T59 l0 x7_1).f0))).trans hx247_0;replace hx247_1:=(cell_far (p:=⟨gb245,0,none⟩) (by first|(rw [add_block];exact hn247_0)|(show (Addr.add _ _).block ≠ _;rw [add_block];exact hn247_0)|exact hn247_0) (.int .i64 ((rd_T59 l0 x7_1).f0))).trans hx247_1;replace hx247_0:=(cell_far (p:=⟨gb245,1,none⟩) (by first|(rw [add_block];exact hn247_1)|(show (Addr.add _ _).block ≠ _;rw [add_block];exact hn247_1)|exact hn247_1) (.slice A244_1 ((rd_T59 l0 x7_1).f1).length c244_1)).trans hx247_0;replace hx247_1:=(cell_far (p:=⟨gb245,1,none⟩) (by first|(rw [add_block];exact hn247_1)|(show (Addr.add _ _).block ≠ _;rw [add_block];exact hn247_1)|exact hn247_1) (.slice A244_1 ((rd_T59 l0 x7_1).f1).length c244_1)).trans hx247_1;(try have hy247_0:=fun (n_ : Nat)=>(show ((((w42.drewN n_).setCell ⟨gb245,0,none⟩ (.int .i64 ((rd_T59 l0 x7_1).f0))).setCell ⟨gb245,1,none⟩ (.slice A244_1 ((rd_T59 l0 x7_1).f1).length c244_1))).cell? _ = some _ from hx247_0));(try have hy247_1:=fun (n_ : Nat)=>(show ((((w42.drewN n_).setCell ⟨gb245,0,none⟩ (.int .i64 ((rd_T59 l0 x7_1).f0))).setCell ⟨gb245,1,none⟩ (.slice A244_1 ((rd_T59 l0 x7_1).f1).length c244_1))).cell? _ = some _ from hx247_1));clear hn247_0;clear hn247_1;replace p247:=eq_true p247;replace q247:=eq_true q247))
              repeat (go_quiet (first|((with_reducible refine gate_dst (N:=4) rfl ?_);(try (refine gate_guard (by rfl) ?_;dsimp only));refine box_event ?hg (N:=4) ?hd (cs:=#[.int .i64 0,.slice none 0 0]) (t:=59) ?hr ?_;(case hd=>rfl);(case hg=>rfl);(case hr=>first|(go_simp;done)|(go_simp;rfl));intro gb245 hg w42 hbox hb;have n0_:=Aside0.mk (below_step (by repeat (first|exact HB.out|apply below_alloc|apply pw_below_drewN|apply below_drew1)) hb);have n1_:=Aside0.mk (hbox);have n2_:=Aside0.mk ((by rw [hg];exact (below_size (by repeat (first|exact HB.out|apply below_alloc|apply pw_below_drewN|apply below_drew1))) : w.heap.size ≤ gb245));have n3_:=Aside0.mk ((by rw [hg];exact (below_size (by repeat (first|exact HB.out|apply below_alloc|apply pw_below_drewN|apply below_drew1))) : w.heap.size ≤ gb245));clear HB;have HB:=n0_;have BK245:=n1_;have GW245:=n2_;have GE245:=n3_;clear n0_ n1_ n2_ n3_;clear hb hbox hg;have hcz43_0 : w42.cell? ⟨gb245,0,none⟩ = some (.int .i64 0):=(blk_cell BK245.out 0).trans rfl;have hcz43_1 : w42.cell? ⟨gb245,1,none⟩ = some (.slice none 0 0):=(blk_cell BK245.out 1).trans rfl;have hfz43_0:=blk_frozen BK245.out 0;have hfz43_1:=blk_frozen BK245.out 1;have p247 : 0 ≤ ((ji33) : Int):=of_decide_eq_true (by assumption);have q247 : (ji33) < (l0.length : Int):=of_decide_eq_true (by assumption);obtain ⟨ad247,A247_1,c247_1,e247,hx247_0,hx247_1,hl247_1,hi247_1⟩:=at_T59 HR0.out (ji33) p247 q247;obtain rfl : ad244 = ad247:=(by injection e247);have hn247_0 : ad244.block ≠ gb245:=Nat.ne_of_lt (Nat.lt_of_lt_of_le (by have:=World.block_lt_of_cell? _ _ hx247_0;first|rwa [add_block] at this|exact this) GW245.out);have hn247_1 : ad244.block ≠ gb245:=Nat.ne_of_lt (Nat.lt_of_lt_of_le (by have:=World.block_lt_of_cell? _ _ hx247_0;first|rwa [add_block] at this|exact this) GW245.out);(try replace hx247_0:=(HB.out.cell (World.block_lt_of_cell? w _ hx247_0)).trans hx247_0);(try replace hx247_1:=(HB.out.cell (World.block_lt_of_cell? w _ hx247_1)).trans hx247_1);have HR247_1:=Aside0.mk hi247_1;have HC247_1:=Aside0.mk hl247_1;clear hi247_1 hl247_1;replace hx247_0:=(cell_far (p:=⟨gb245,0,none⟩) (by first|(rw [add_block];exact hn247_0)|(show (Addr.add _ _).block ≠ _;rw [add_block];exact hn247_0)|exact hn247_0) (.int .i64 ((rd_T59 l0 x7_1).f0))).trans hx247_0;replace hx247_1:=(cell_far (p:=⟨gb245,0,none⟩) (by first|(rw [add_block];exact hn247_0)|(show (Addr.add _ _).block ≠ _;rw [add_block];exact hn247_0)|exact hn247_0) (.int .i64 ((rd_T59 l0 x7_1).f0))).trans hx247_1;replace hx247_0:=(cell_far (p:=⟨gb245,1,none⟩) (by first|(rw [add_block];exact hn247_1)|(show (Addr.add _ _).block ≠ _;rw [add_block];exact hn247_1)|exact hn247_1) (.slice A244_1 ((rd_T59 l0 x7_1).f1).length c244_1)).trans hx247_0;replace hx247_1:=(cell_far (p:=⟨gb245,1,none⟩) (by first|(rw [add_block];exact hn247_1)|(show (Addr.add _ _).block ≠ _;rw [add_block];exact hn247_1)|exact hn247_1) (.slice A244_1 ((rd_T59 l0 x7_1).f1).length c244_1)).trans hx247_1;(try have hy247_0:=fun (n_ : Nat)=>(show ((((w42.drewN n_).setCell ⟨gb245,0,none⟩ (.int .i64 ((rd_T59 l0 x7_1).f0))).setCell ⟨gb245,1,none⟩ (.slice A244_1 ((rd_T59 l0 x7_1).f1).length c244_1))).cell? _ = some _ from hx247_0));(try have hy247_1:=fun (n_ : Nat)=>(show ((((w42.drewN n_).setCell ⟨gb245,0,none⟩ (.int .i64 ((rd_T59 l0 x7_1).f0))).setCell ⟨gb245,1,none⟩ (.slice A244_1 ((rd_T59 l0 x7_1).f1).length c244_1))).cell? _ = some _ from hx247_1));clear hn247_0;clear hn247_1;replace p247:=eq_true p247;replace q247:=eq_true q247));try go_wp2_with (first|((with_reducible refine gate_dst (N:=4) rfl ?_);(try (refine gate_guard (by rfl) ?_;dsimp only));refine box_event ?hg (N:=4) ?hd (cs:=#[.int .i64 0,.slice none 0 0]) (t:=59) ?hr ?_;(case hd=>rfl);(case hg=>rfl);(case hr=>first|(go_simp;done)|(go_simp;rfl));intro gb245 hg w42 hbox hb;have n0_:=Aside0.mk (below_step (by repeat (first|exact HB.out|apply below_alloc|apply pw_below_drewN|apply below_drew1)) hb);have n1_:=Aside0.mk (hbox);have n2_:=Aside0.mk ((by rw [hg];exact (below_size (by repeat (first|exact HB.out|apply below_alloc|apply pw_below_drewN|apply below_drew1))) : w.heap.size ≤ gb245));have n3_:=Aside0.mk ((by rw [hg];exact (below_size (by repeat (first|exact HB.out|apply below_alloc|apply pw_below_drewN|apply below_drew1))) : w.heap.size ≤ gb245));clear HB;have HB:=n0_;have BK245:=n1_;have GW245:=n2_;have GE245:=n3_;clear n0_ n1_ n2_ n3_;clear hb hbox hg;have hcz43_0 : w42.cell? ⟨gb245,0,none⟩ = some (.int .i64 0):=(blk_cell BK245.out 0).trans rfl;have hcz43_1 : w42.cell? ⟨gb245,1,none⟩ = some (.slice none 0 0):=(blk_cell BK245.out 1).trans rfl;have hfz43_0:=blk_frozen BK245.out 0;have hfz43_1:=blk_frozen BK245.out 1;have p247 : 0 ≤ ((ji33) : Int):=of_decide_eq_true (by assumption);have q247 : (ji33) < (l0.length : Int):=of_decide_eq_true (by assumption);obtain ⟨ad247,A247_1,c247_1,e247,hx247_0,hx247_1,hl247_1,hi247_1⟩:=at_T59 HR0.out (ji33) p247 q247;obtain rfl : ad244 = ad247:=(by injection e247);have hn247_0 : ad244.block ≠ gb245:=Nat.ne_of_lt (Nat.lt_of_lt_of_le (by have:=World.block_lt_of_cell? _ _ hx247_0;first|rwa [add_block] at this|exact this) GW245.out);have hn247_1 : ad244.block ≠ gb245:=Nat.ne_of_lt (Nat.lt_of_lt_of_le (by have:=World.block_lt_of_cell? _ _ hx247_0;first|rwa [add_block] at this|exact this) GW245.out);(try replace hx247_0:=(HB.out.cell (World.block_lt_of_cell? w _ hx247_0)).trans hx247_0);(try replace hx247_1:=(HB.out.cell (World.block_lt_of_cell? w _ hx247_1)).trans hx247_1);have HR247_1:=Aside0.mk hi247_1;have HC247_1:=Aside0.mk hl247_1;clear hi247_1 hl247_1;replace hx247_0:=(cell_far (p:=⟨gb245,0,none⟩) (by first|(rw [add_block];exact hn247_0)|(show (Addr.add _ _).block ≠ _;rw [add_block];exact hn247_0)|exact hn247_0) (.int .i64 ((rd_T59 l0 x7_1).f0))).trans hx247_0;replace hx247_1:=(cell_far (p:=⟨gb245,0,none⟩) (by first|(rw [add_block];exact hn247_0)|(show (Addr.add _ _).block ≠ _;rw [add_block];exact hn247_0)|exact hn247_0) (.int .i64 ((rd_T59 l0 x7_1).f0))).trans hx247_1;replace hx247_0:=(cell_far (p:=⟨gb245,1,none⟩) (by first|(rw [add_block];exact hn247_1)|(show (Addr.add _ _).block ≠ _;rw [add_block];exact hn247_1)|exact hn247_1) (.slice A244_1 ((rd_T59 l0 x7_1).f1).length c244_1)).trans hx247_0;replace hx247_1:=(cell_far (p:=⟨gb245,1,none⟩) (by first|(rw [add_block];exact hn247_1)|(show (Addr.add _ _).block ≠ _;rw [add_block];exact hn247_1)|exact hn247_1) (.slice A244_1 ((rd_T59 l0 x7_1).f1).length c244_1)).trans hx247_1;(try have hy247_0:=fun (n_ : Nat)=>(show ((((w42.drewN n_).setCell ⟨gb245,0,none⟩ (.int .i64 ((rd_T59 l0 x7_1).f0))).setCell ⟨gb245,1,none⟩ (.slice A244_1 ((rd_T59 l0 x7_1).f1).length c244_1))).cell? _ = some _ from hx247_0));(try have hy247_1:=fun (n_ : Nat)=>(show ((((w42.drewN n_).setCell ⟨gb245,0,none⟩ (.int .i64 ((rd_T59 l0 x7_1).f0))).setCell ⟨gb245,1,none⟩ (.slice A244_1 ((rd_T59 l0 x7_1).f1).length c244_1))).cell? _ = some _ from hx247_1));clear hn247_0;clear hn247_1;replace p247:=eq_true p247;replace q247:=eq_true q247)))
              go_ret
              exact ⟨by first|rfl|(simp [errW_none,errW_some] <;> rfl)|(simp only [← hji33];first|rfl|(simp [errW_none,errW_some] <;> rfl))|(simp [*,errW_none,errW_some] <;> rfl),by repeat (first|(with_reducible first|exact HB.out|apply below_alloc|apply pw_below_drewN|apply below_drew1|refine below_set ?_ GE245.out)|exact HB.out)⟩
           ·rw [if_neg c35] at H
            exact absurd H (by simp)
          ·rw [if_neg c34] at H
           exact absurd H (by simp)
         ·rw [if_neg c32] at H
          have c32b0 : decide (0 < x7_1) = false:=decide_eq_false c32
          clear c32
          by_cases c44 : (((rd_T59 l0 x7_1).f1).length : Int) = 128
          ·rw [if_pos c44] at H
           have c44b0 : ((((rd_T59 l0 x7_1).f1).length : Int) == 128) = true:=beq_iff_eq.mpr c44
           have c44b1 : ((((rd_T59 l0 x7_1).f1).length : Int) != 128) = false:=bne_eq_false_iff_eq.mpr c44
           clear c44
           have H':=Aside0.mk H
           clear H
           have p244 : 0 ≤ (x7_1 : Int):=of_decide_eq_true (by assumption)
           have q244 : x7_1 < (l0.length : Int):=of_decide_eq_true (by assumption)
           obtain ⟨ad244,A244_1,c244_1,e244,hx244_0,hx244_1,hl244_1,hi244_1⟩:=at_T59 HR0.out x7_1 p244 q244
           cases e244
           (try replace hx244_0:=(HB.out.cell (World.block_lt_of_cell? w _ hx244_0)).trans hx244_0)
           (try replace hx244_1:=(HB.out.cell (World.block_lt_of_cell? w _ hx244_1)).trans hx244_1)
           have HR244_1:=Aside0.mk hi244_1
           have HC244_1:=Aside0.mk hl244_1
           clear hi244_1 hl244_1
           replace p244:=eq_true p244
           replace q244:=eq_true q244
           go_wp2_with (first|((with_reducible refine gate_dst (N:=4) rfl ?_);(try (refine gate_guard (by rfl) ?_;dsimp only));refine box_event ?hg (N:=4) ?hd (cs:=#[.int .i64 0,.slice none 0 0]) (t:=59) ?hr ?_;(case hd=>rfl);(case hg=>rfl);(case hr=>first|(go_simp;done)|(go_simp;rfl));intro gb245 hg w45 hbox hb;have n0_:=Aside0.mk (below_step (by repeat (first|exact HB.out|apply below_alloc|apply pw_below_drewN|apply below_drew1)) hb);have n1_:=Aside0.mk (hbox);have n2_:=Aside0.mk ((by rw [hg];exact (below_size (by repeat (first|exact HB.out|apply below_alloc|apply pw_below_drewN|apply below_drew1))) : w.heap.size ≤ gb245));have n3_:=Aside0.mk ((by rw [hg];exact (below_size (by repeat (first|exact HB.out|apply below_alloc|apply pw_below_drewN|apply below_drew1))) : w.heap.size ≤ gb245));clear HB;have HB:=n0_;have BK245:=n1_;have GW245:=n2_;have GE245:=n3_;clear n0_ n1_ n2_ n3_;clear hb hbox hg;have hcz46_0 : w45.cell? ⟨gb245,0,none⟩ = some (.int .i64 0):=(blk_cell BK245.out 0).trans rfl;have hcz46_1 : w45.cell? ⟨gb245,1,none⟩ = some (.slice none 0 0):=(blk_cell BK245.out 1).trans rfl;have hfz46_0:=blk_frozen BK245.out 0;have hfz46_1:=blk_frozen BK245.out 1))
           repeat (go_quiet (first|((with_reducible refine gate_dst (N:=4) rfl ?_);(try (refine gate_guard (by rfl) ?_;dsimp only));refine box_event ?hg (N:=4) ?hd (cs:=#[.int .i64 0,.slice none 0 0]) (t:=59) ?hr ?_;(case hd=>rfl);(case hg=>rfl);(case hr=>first|(go_simp;done)|(go_simp;rfl));intro gb245 hg w45 hbox hb;have n0_:=Aside0.mk (below_step (by repeat (first|exact HB.out|apply below_alloc|apply pw_below_drewN|apply below_drew1)) hb);have n1_:=Aside0.mk (hbox);have n2_:=Aside0.mk ((by rw [hg];exact (below_size (by repeat (first|exact HB.out|apply below_alloc|apply pw_below_drewN|apply below_drew1))) : w.heap.size ≤ gb245));have n3_:=Aside0.mk ((by rw [hg];exact (below_size (by repeat (first|exact HB.out|apply below_alloc|apply pw_below_drewN|apply below_drew1))) : w.heap.size ≤ gb245));clear HB;have HB:=n0_;have BK245:=n1_;have GW245:=n2_;have GE245:=n3_;clear n0_ n1_ n2_ n3_;clear hb hbox hg;have hcz46_0 : w45.cell? ⟨gb245,0,none⟩ = some (.int .i64 0):=(blk_cell BK245.out 0).trans rfl;have hcz46_1 : w45.cell? ⟨gb245,1,none⟩ = some (.slice none 0 0):=(blk_cell BK245.out 1).trans rfl;have hfz46_0:=blk_frozen BK245.out 0;have hfz46_1:=blk_frozen BK245.out 1));try go_wp2_with (first|((with_reducible refine gate_dst (N:=4) rfl ?_);(try (refine gate_guard (by rfl) ?_;dsimp only));refine box_event ?hg (N:=4) ?hd (cs:=#[.int .i64 0,.slice none 0 0]) (t:=59) ?hr ?_;(case hd=>rfl);(case hg=>rfl);(case hr=>first|(go_simp;done)|(go_simp;rfl));intro gb245 hg w45 hbox hb;have n0_:=Aside0.mk (below_step (by repeat (first|exact HB.out|apply below_alloc|apply pw_below_drewN|apply below_drew1)) hb);have n1_:=Aside0.mk (hbox);have n2_:=Aside0.mk ((by rw [hg];exact (below_size (by repeat (first|exact HB.out|apply below_alloc|apply pw_below_drewN|apply below_drew1))) : w.heap.size ≤ gb245));have n3_:=Aside0.mk ((by rw [hg];exact (below_size (by repeat (first|exact HB.out|apply below_alloc|apply pw_below_drewN|apply below_drew1))) : w.heap.size ≤ gb245));clear HB;have HB:=n0_;have BK245:=n1_;have GW245:=n2_;have GE245:=n3_;clear n0_ n1_ n2_ n3_;clear hb hbox hg;have hcz46_0 : w45.cell? ⟨gb245,0,none⟩ = some (.int .i64 0):=(blk_cell BK245.out 0).trans rfl;have hcz46_1 : w45.cell? ⟨gb245,1,none⟩ = some (.slice none 0 0):=(blk_cell BK245.out 1).trans rfl;have hfz46_0:=blk_frozen BK245.out 0;have hfz46_1:=blk_frozen BK245.out 1)))
           go_roundg k1
           case measure=>have:=HK1.out;omega
           case rel=>exact ⟨(wrap64 (x7_1 + 1)),(by first|rfl|(simp;done)|(simp [*];done)),H',⟨by have:=HK1.out;omega⟩,⟨by repeat (first|(with_reducible first|exact HB.out|apply below_alloc|apply pw_below_drewN|apply below_drew1|refine below_set ?_ GE245.out)|exact HB.out)⟩⟩
          ·rw [if_neg c44] at H
           have c44b0 : ((((rd_T59 l0 x7_1).f1).length : Int) == 128) = false:=beq_eq_false_iff_ne.mpr c44
           have c44b1 : ((((rd_T59 l0 x7_1).f1).length : Int) != 128) = true:=bne_iff_ne.mpr c44
           obtain rfl:=Option.some.inj H
           have p244 : 0 ≤ (x7_1 : Int):=of_decide_eq_true (by assumption)
           have q244 : x7_1 < (l0.length : Int):=of_decide_eq_true (by assumption)
           obtain ⟨ad244,A244_1,c244_1,e244,hx244_0,hx244_1,hl244_1,hi244_1⟩:=at_T59 HR0.out x7_1 p244 q244
           cases e244
           (try replace hx244_0:=(HB.out.cell (World.block_lt_of_cell? w _ hx244_0)).trans hx244_0)
           (try replace hx244_1:=(HB.out.cell (World.block_lt_of_cell? w _ hx244_1)).trans hx244_1)
           have HR244_1:=Aside0.mk hi244_1
           have HC244_1:=Aside0.mk hl244_1
           clear hi244_1 hl244_1
           replace p244:=eq_true p244
           replace q244:=eq_true q244
           go_wp2_with (first|((with_reducible refine gate_dst (N:=4) rfl ?_);(try (refine gate_guard (by rfl) ?_;dsimp only));refine box_event ?hg (N:=4) ?hd (cs:=#[.int .i64 0,.slice none 0 0]) (t:=59) ?hr ?_;(case hd=>rfl);(case hg=>rfl);(case hr=>first|(go_simp;done)|(go_simp;rfl));intro gb245 hg w47 hbox hb;have n0_:=Aside0.mk (below_step (by repeat (first|exact HB.out|apply below_alloc|apply pw_below_drewN|apply below_drew1)) hb);have n1_:=Aside0.mk (hbox);have n2_:=Aside0.mk ((by rw [hg];exact (below_size (by repeat (first|exact HB.out|apply below_alloc|apply pw_below_drewN|apply below_drew1))) : w.heap.size ≤ gb245));have n3_:=Aside0.mk ((by rw [hg];exact (below_size (by repeat (first|exact HB.out|apply below_alloc|apply pw_below_drewN|apply below_drew1))) : w.heap.size ≤ gb245));clear HB;have HB:=n0_;have BK245:=n1_;have GW245:=n2_;have GE245:=n3_;clear n0_ n1_ n2_ n3_;clear hb hbox hg;have hcz48_0 : w47.cell? ⟨gb245,0,none⟩ = some (.int .i64 0):=(blk_cell BK245.out 0).trans rfl;have hcz48_1 : w47.cell? ⟨gb245,1,none⟩ = some (.slice none 0 0):=(blk_cell BK245.out 1).trans rfl;have hfz48_0:=blk_frozen BK245.out 0;have hfz48_1:=blk_frozen BK245.out 1))
           repeat (go_quiet (first|((with_reducible refine gate_dst (N:=4) rfl ?_);(try (refine gate_guard (by rfl) ?_;dsimp only));refine box_event ?hg (N:=4) ?hd (cs:=#[.int .i64 0,.slice none 0 0]) (t:=59) ?hr ?_;(case hd=>rfl);(case hg=>rfl);(case hr=>first|(go_simp;done)|(go_simp;rfl));intro gb245 hg w47 hbox hb;have n0_:=Aside0.mk (below_step (by repeat (first|exact HB.out|apply below_alloc|apply pw_below_drewN|apply below_drew1)) hb);have n1_:=Aside0.mk (hbox);have n2_:=Aside0.mk ((by rw [hg];exact (below_size (by repeat (first|exact HB.out|apply below_alloc|apply pw_below_drewN|apply below_drew1))) : w.heap.size ≤ gb245));have n3_:=Aside0.mk ((by rw [hg];exact (below_size (by repeat (first|exact HB.out|apply below_alloc|apply pw_below_drewN|apply below_drew1))) : w.heap.size ≤ gb245));clear HB;have HB:=n0_;have BK245:=n1_;have GW245:=n2_;have GE245:=n3_;clear n0_ n1_ n2_ n3_;clear hb hbox hg;have hcz48_0 : w47.cell? ⟨gb245,0,none⟩ = some (.int .i64 0):=(blk_cell BK245.out 0).trans rfl;have hcz48_1 : w47.cell? ⟨gb245,1,none⟩ = some (.slice none 0 0):=(blk_cell BK245.out 1).trans rfl;have hfz48_0:=blk_frozen BK245.out 0;have hfz48_1:=blk_frozen BK245.out 1));try go_wp2_with (first|((with_reducible refine gate_dst (N:=4) rfl ?_);(try (refine gate_guard (by rfl) ?_;dsimp only));refine box_event ?hg (N:=4) ?hd (cs:=#[.int .i64 0,.slice none 0 0]) (t:=59) ?hr ?_;(case hd=>rfl);(case hg=>rfl);(case hr=>first|(go_simp;done)|(go_simp;rfl));intro gb245 hg w47 hbox hb;have n0_:=Aside0.mk (below_step (by repeat (first|exact HB.out|apply below_alloc|apply pw_below_drewN|apply below_drew1)) hb);have n1_:=Aside0.mk (hbox);have n2_:=Aside0.mk ((by rw [hg];exact (below_size (by repeat (first|exact HB.out|apply below_alloc|apply pw_below_drewN|apply below_drew1))) : w.heap.size ≤ gb245));have n3_:=Aside0.mk ((by rw [hg];exact (below_size (by repeat (first|exact HB.out|apply below_alloc|apply pw_below_drewN|apply below_drew1))) : w.heap.size ≤ gb245));clear HB;have HB:=n0_;have BK245:=n1_;have GW245:=n2_;have GE245:=n3_;clear n0_ n1_ n2_ n3_;clear hb hbox hg;have hcz48_0 : w47.cell? ⟨gb245,0,none⟩ = some (.int .i64 0):=(blk_cell BK245.out 0).trans rfl;have hcz48_1 : w47.cell? ⟨gb245,1,none⟩ = some (.slice none 0 0):=(blk_cell BK245.out 1).trans rfl;have hfz48_0:=blk_frozen BK245.out 0;have hfz48_1:=blk_frozen BK245.out 1)))
           go_ret
           exact ⟨by first|rfl|(simp [*,errW_none,errW_some] <;> rfl),by repeat (first|(with_reducible first|exact HB.out|apply below_alloc|apply pw_below_drewN|apply below_drew1|refine below_set ?_ GE245.out)|exact HB.out)⟩
     ·rw [if_neg c4] at H
      exact absurd H (by simp)
    ·rw [if_neg c3] at H
     exact absurd H (by simp)
   ·rw [if_neg c2] at H
    have c2b0 : decide (x7_1 < (l0.length : Int)) = false:=decide_eq_false c2
    clear c2
    replace H:=Option.bind_eq_some_iff.mp H
    obtain ⟨t248,A490,H⟩:=H
    replace H : (some t248) = some r:=H
    have A49:=Aside0.mk A490
    clear A490
    obtain rfl:=Option.some.inj H
    go_wp2_with (first|(go_at_call 59;(with_reducible refine (impl_within.calls (l0.length : Int) 1 30 t248 _ A49.out).mono ?_);rintro e w' ⟨rfl,⟨nd,rfl⟩⟩;(try first|exact ⟨rfl,_,World.drewN_drewN _ _ _⟩|exact ⟨rfl,_,Eq.trans (World.drewN_drewN _ _ _) (congrArg (World.drewN _) (Nat.add_assoc _ _ _))⟩)))
    repeat (go_quiet (first|(go_at_call 59;(with_reducible refine (impl_within.calls (l0.length : Int) 1 30 t248 _ A49.out).mono ?_);rintro e w' ⟨rfl,⟨nd,rfl⟩⟩;(try first|exact ⟨rfl,_,World.drewN_drewN _ _ _⟩|exact ⟨rfl,_,Eq.trans (World.drewN_drewN _ _ _) (congrArg (World.drewN _) (Nat.add_assoc _ _ _))⟩)));try go_wp2_with (first|(go_at_call 59;(with_reducible refine (impl_within.calls (l0.length : Int) 1 30 t248 _ A49.out).mono ?_);rintro e w' ⟨rfl,⟨nd,rfl⟩⟩;(try first|exact ⟨rfl,_,World.drewN_drewN _ _ _⟩|exact ⟨rfl,_,Eq.trans (World.drewN_drewN _ _ _) (congrArg (World.drewN _) (Nat.add_assoc _ _ _))⟩))))
    go_ret
    exact ⟨by first|rfl|(simp [*,errW_none,errW_some] <;> rfl),by repeat (first|exact HB.out|apply below_alloc|apply pw_below_drewN|apply below_drew1)⟩

/-! ### impl_areBlocks_1: function 90 -/
def impl_areBlocks_1.f (l0 : List Int) : Option (Bool):=some ((l0.length : Int) != 128)
set_option maxHeartbeats 8000000 in
set_option maxRecDepth 100000 in
theorem impl_areBlocks_1.calls (A0 : Option Addr) (c0 : Nat) (l0 : List Int) (r : Bool) (w : World) (hr0 : Kd.C (Kd.int .u8) w A0 l0.length l0) (hc0 : l0.length ≤ c0) (h : impl_areBlocks_1.f l0 = some r) :
  Calls Try.prog 90 #[.slice A0 l0.length c0] w fun e w'=>e = .returned (.bool r)∧Drawn0 w w':=by
 have HR0:=Aside0.mk hr0
 have HC0:=Aside0.mk hc0
 clear hr0 hc0
 have H : (some ((l0.length : Int) != 128)) = some r:=h
 clear h
 obtain rfl:=Option.some.inj H
 go_enter Try.func90,Try.ntmps90
 go_wp2
 go_ret
 exact ⟨by first|rfl|(simp;done)|(simp [*];done),by repeat (first|exact Drawn0.refl _|apply Drawn0.step)⟩

/-! ### slices_IndexFunc_byte_byte: function 92 -/
def slices_IndexFunc_byte_byte.l0 : Nat → List (List Int) → Int → Int → Option (Int)
 | 0,_,_,_=>none
 | k + 1,x0,x7,x8=>if x8 < x7 then (if 0 ≤ x8 then (if x8 < (x0.length : Int) then ((impl_areBlocks_1.f (rd_L2 x0 x8)).bind fun t250=>(if t250 = true then (some x8) else (slices_IndexFunc_byte_byte.l0 k x0 x7 (wrap64 (x8 + 1))))) else (none)) else (none)) else (some (-1))
def slices_IndexFunc_byte_byte.f (k : Nat) (l0 : List (List Int)) (a1 : Unit) : Option (Int):=slices_IndexFunc_byte_byte.l0 k l0 (l0.length : Int) 0
theorem slices_IndexFunc_byte_byte.mono_l : ∀ k,(∀ y0 y1 y2,LeO (slices_IndexFunc_byte_byte.l0 k y0 y1 y2) (slices_IndexFunc_byte_byte.l0 (k + 1) y0 y1 y2))
 | 0=>fun _ _ _ r h=>by simp [slices_IndexFunc_byte_byte.l0] at h
 | k + 1=>by
  have ih0:=slices_IndexFunc_byte_byte.mono_l k
  ·intro y0 y1 y2
   unfold slices_IndexFunc_byte_byte.l0
   repeat' first
   | (with_reducible exact ih0 _ _ _)
   | (with_reducible exact LeO.refl _)
   | (with_reducible exact LeO.none _)
   | (with_reducible refine LeO.ite ?_ ?_)
   | (with_reducible refine LeO.bind ?_ (fun _=>?_))
   | exact ih0 _ _ _
   | exact LeO.none _
   | refine LeO.ite ?_ ?_
   | refine LeO.bind ?_ (fun _=>?_)
theorem slices_IndexFunc_byte_byte.mono : ∀ a0 a1 k,LeO (slices_IndexFunc_byte_byte.f k a0 a1) (slices_IndexFunc_byte_byte.f (k + 1) a0 a1):=by
 intro a0 a1 k
 have ih0:=slices_IndexFunc_byte_byte.mono_l k
 unfold slices_IndexFunc_byte_byte.f
 repeat' first
   | (with_reducible exact ih0 _ _ _)
   | (with_reducible exact LeO.refl _)
   | (with_reducible exact LeO.none _)
   | (with_reducible refine LeO.ite ?_ ?_)
   | (with_reducible refine LeO.bind ?_ (fun _=>?_))
   | exact ih0 _ _ _
   | exact LeO.none _
   | refine LeO.ite ?_ ?_
   | refine LeO.bind ?_ (fun _=>?_)
set_option maxHeartbeats 8000000 in
set_option maxRecDepth 100000 in
theorem slices_IndexFunc_byte_byte.calls (k : Nat) (A0 : Option Addr) (c0 : Nat) (l0 : List (List Int)) (a1 : Unit) (r : Int) (w : World) (hr0 : Kd.C (Kd.slice 5 (Kd.int .u8)) w A0 l0.length l0) (hc0 : l0.length ≤ c0) (h : slices_IndexFunc_byte_byte.f k l0 a1 = some r) :
  Calls Try.prog 92 #[.slice A0 l0.length c0,.func (.func 90) #[] #[]] w fun e w'=>e = .returned (.int .i64 r)∧Drawn0 w w':=by
 have HR0:=Aside0.mk hr0
 have HC0:=Aside0.mk hc0
 clear hr0 hc0
 have H : (slices_IndexFunc_byte_byte.l0 k l0 (l0.length : Int) 0) = some r:=h
 clear h
 have H':=Aside0.mk H
 clear H
 go_enter Try.func92,Try.ntmps92
 go_wp2
 go_loopg [8] k (fun kq v8 w'=>∃ (x8_1 : Int),v8 = .int .i64 x8_1∧Aside0 (slices_IndexFunc_byte_byte.l0 kq l0 (l0.length : Int) x8_1 = some r)∧Aside0 (kq ≤ k)∧Drawn0 w w')
 case atStart=>exact ⟨(0),(by first|rfl|(simp;done)|(simp [*];done)),H',⟨Nat.le_refl _⟩,by repeat (first|exact Drawn0.refl _|apply Drawn0.step)⟩
 case round =>
  clear H'
  try clear p2
  obtain ⟨x8_1,rfl,HA,HK1,⟨m1,rfl⟩⟩:=hrel
  cases gk with
  | zero=>exact absurd HA.out (by simp [slices_IndexFunc_byte_byte.l0])
  | succ k1 =>
   have H:=HA.out
   clear HA
   simp only [slices_IndexFunc_byte_byte.l0] at H
   by_cases c3 : x8_1 < (l0.length : Int)
   ·rw [if_pos c3] at H
    have c3b0 : decide (x8_1 < (l0.length : Int)) = true:=decide_eq_true c3
    clear c3
    by_cases c4 : 0 ≤ x8_1
    ·rw [if_pos c4] at H
     have c4b0 : decide (0 ≤ x8_1) = true:=decide_eq_true c4
     clear c4
     by_cases c5 : x8_1 < (l0.length : Int)
     ·rw [if_pos c5] at H
      have c5b0 : decide (x8_1 < (l0.length : Int)) = true:=decide_eq_true c5
      clear c5
      replace H:=Option.bind_eq_some_iff.mp H
      obtain ⟨t250,A60,H⟩:=H
      replace H : (if t250 = true then (some x8_1) else (slices_IndexFunc_byte_byte.l0 k1 l0 (l0.length : Int) (wrap64 (x8_1 + 1)))) = some r:=H
      have A6:=Aside0.mk A60
      clear A60
      by_cases c7 : t250 = true
      ·subst c7
       have H1 : (some x8_1) = some r:=by rw [if_pos rfl] at H;exact H
       clear H
       have H:=H1
       clear H1
       obtain rfl:=Option.some.inj H
       have p249 : 0 ≤ (x8_1 : Int):=of_decide_eq_true (by assumption)
       have q249 : x8_1 < (l0.length : Int):=of_decide_eq_true (by assumption)
       obtain ⟨ad249,A249_0,c249_0,e249,hx249_0,hl249_0,hi249_0⟩:=at_L2 HR0.out x8_1 p249 q249
       cases e249
       have HR249_0:=Aside0.mk hi249_0
       have HC249_0:=Aside0.mk hl249_0
       clear hi249_0 hl249_0
       replace p249:=eq_true p249
       replace q249:=eq_true q249
       go_wp2_with (first|((with_reducible refine gate_calleev (c:=.tmp 11) rfl ?_);refine goesLv_ (some 16) rfl rfl Try.func90 (by kernel_rfl) rfl #[.slice A249_0 (rd_L2 l0 x8_1).length c249_0] rfl (by first|rfl|(go_simp;done)) (by (try simp only [List.map_toArray,List.map_cons,List.map_nil]);first|done|rfl|(simp only [List.length_drop,List.length_take];rfl)) ?_;(with_reducible refine (impl_areBlocks_1.calls _ _ (rd_L2 l0 x8_1) true _ ?side1 ?side2 A6.out).mono ?_);(case side1=>repeat (first|exact HR249_0.out|(with_reducible first|apply Kd.C_alloc|apply Kd.C_drewN|apply Kd.C_drew)));(case side2=>exact HC249_0.out);rintro e w' ⟨rfl,⟨nd,rfl⟩⟩;refine ⟨_,rfl,?_⟩))
       go_ret
       exact ⟨by first|rfl|(simp;done)|(simp [*];done),by repeat (first|exact Drawn0.refl _|apply Drawn0.step)⟩
      ·replace c7:=Bool.eq_false_iff.mpr c7
       subst c7
       have H1 : (slices_IndexFunc_byte_byte.l0 k1 l0 (l0.length : Int) (wrap64 (x8_1 + 1))) = some r:=by rw [if_neg (show ¬ (false = true) by decide)] at H;exact H
       clear H
       have H:=H1
       clear H1
       have H':=Aside0.mk H
       clear H
       have p249 : 0 ≤ (x8_1 : Int):=of_decide_eq_true (by assumption)
       have q249 : x8_1 < (l0.length : Int):=of_decide_eq_true (by assumption)
       obtain ⟨ad249,A249_0,c249_0,e249,hx249_0,hl249_0,hi249_0⟩:=at_L2 HR0.out x8_1 p249 q249
       cases e249
       have HR249_0:=Aside0.mk hi249_0
       have HC249_0:=Aside0.mk hl249_0
       clear hi249_0 hl249_0
       replace p249:=eq_true p249
       replace q249:=eq_true q249
       go_wp2_with (first|((with_reducible refine gate_calleev (c:=.tmp 11) rfl ?_);refine goesLv_ (some 16) rfl rfl Try.func90 (by kernel_rfl) rfl #[.slice A249_0 (rd_L2 l0 x8_1).length c249_0] rfl (by first|rfl|(go_simp;done)) (by (try simp only [List.map_toArray,List.map_cons,List.map_nil]);first|done|rfl|(simp only [List.length_drop,List.length_take];rfl)) ?_;(with_reducible refine (impl_areBlocks_1.calls _ _ (rd_L2 l0 x8_1) false _ ?side1 ?side2 A6.out).mono ?_);(case side1=>repeat (first|exact HR249_0.out|(with_reducible first|apply Kd.C_alloc|apply Kd.C_drewN|apply Kd.C_drew)));(case side2=>exact HC249_0.out);rintro e w' ⟨rfl,⟨nd,rfl⟩⟩;refine ⟨_,rfl,?_⟩))
       go_roundg k1
       case measure=>have:=HK1.out;omega
       case rel=>exact ⟨(wrap64 (x8_1 + 1)),(by first|rfl|(simp;done)|(simp [*];done)),H',⟨by have:=HK1.out;omega⟩,by repeat (first|exact Drawn0.refl _|apply Drawn0.step)⟩
     ·rw [if_neg c5] at H
      exact absurd H (by simp)
    ·rw [if_neg c4] at H
     exact absurd H (by simp)
   ·rw [if_neg c3] at H
    have c3b0 : decide (x8_1 < (l0.length : Int)) = false:=decide_eq_false c3
    clear c3
    obtain rfl:=Option.some.inj H
    go_wp2
    go_ret
    exact ⟨by first|rfl|(simp;done)|(simp [*];done),by repeat (first|exact Drawn0.refl _|apply Drawn0.step)⟩

/-! ### slices_ContainsFunc_byte_byte: function 89 -/
def slices_ContainsFunc_byte_byte.f (k : Nat) (l0 : List (List Int)) (a1 : Unit) : Option (Bool):=(slices_IndexFunc_byte_byte.f k l0 a1).bind fun t251=>(some (decide (t251 ≥ 0)))
theorem slices_ContainsFunc_byte_byte.mono : ∀ a0 a1 k,LeO (slices_ContainsFunc_byte_byte.f k a0 a1) (slices_ContainsFunc_byte_byte.f (k + 1) a0 a1):=by
 intro a0 a1 k
 unfold slices_ContainsFunc_byte_byte.f
 repeat' first
   | (with_reducible exact slices_IndexFunc_byte_byte.mono _ _ _)
   | (with_reducible exact LeO.refl _)
   | (with_reducible exact LeO.none _)
   | (with_reducible refine LeO.ite ?_ ?_)
   | (with_reducible refine LeO.bind ?_ (fun _=>?_))
   | exact slices_IndexFunc_byte_byte.mono _ _ _
   | exact LeO.none _
   | refine LeO.ite ?_ ?_
   | refine LeO.bind ?_ (fun _=>?_)
set_option maxHeartbeats 8000000 in
set_option maxRecDepth 100000 in
theorem slices_ContainsFunc_byte_byte.calls (k : Nat) (A0 : Option Addr) (c0 : Nat) (l0 : List (List Int)) (a1 : Unit) (r : Bool) (w : World) (hr0 : Kd.C (Kd.slice 5 (Kd.int .u8)) w A0 l0.length l0) (hc0 : l0.length ≤ c0) (h : slices_ContainsFunc_byte_byte.f k l0 a1 = some r) :
  Calls Try.prog 89 #[.slice A0 l0.length c0,.func (.func 90) #[] #[]] w fun e w'=>e = .returned (.bool r)∧Drawn0 w w':=by
 have HR0:=Aside0.mk hr0
 have HC0:=Aside0.mk hc0
 clear hr0 hc0
 have H : ((slices_IndexFunc_byte_byte.f k l0 a1).bind fun t251=>(some (decide (t251 ≥ 0)))) = some r:=h
 clear h
 replace H:=Option.bind_eq_some_iff.mp H
 obtain ⟨t251,A30,H⟩:=H
 replace H : (some (decide (t251 ≥ 0))) = some r:=H
 have A3:=Aside0.mk A30
 clear A30
 obtain rfl:=Option.some.inj H
 go_enter Try.func89,Try.ntmps89
 go_wp2_with (first|((with_reducible refine gate_callee (f:=92) rfl ?_);refine goesL_ (some 7) rfl rfl Try.func92 (by kernel_rfl) rfl #[.slice A0 l0.length c0,.func (.func 90) #[] #[]] rfl (by (try simp only [List.map_toArray,List.map_cons,List.map_nil]);first|done|rfl|(simp only [List.length_drop,List.length_take];rfl)) ?_;(with_reducible refine (slices_IndexFunc_byte_byte.calls k _ _ l0 a1 t251 _ ?side1 ?side2 A3.out).mono ?_);(case side1=>repeat (first|exact HR0.out|(with_reducible first|apply Kd.C_alloc|apply Kd.C_drewN|apply Kd.C_drew)));(case side2=>exact HC0.out);rintro e w' ⟨rfl,⟨nd,rfl⟩⟩;refine ⟨_,rfl,?_⟩))
 go_ret
 exact ⟨by first|rfl|(simp;done)|(simp [*];done),by repeat (first|exact Drawn0.refl _|apply Drawn0.step)⟩

/-! ### impl_areBlocks: function 77 -/
def impl_areBlocks.f (k : Nat) (l0 : List (List Int)) : Option (Bool):=(impl_within.f (l0.length : Int) 40 160).bind fun t252=>(if t252 = true then ((slices_ContainsFunc_byte_byte.f k l0 ()).bind fun t253=>(some (!t253))) else (some false))
theorem impl_areBlocks.mono : ∀ a0 k,LeO (impl_areBlocks.f k a0) (impl_areBlocks.f (k + 1) a0):=by
 intro a0 k
 unfold impl_areBlocks.f
 repeat' first
   | (with_reducible exact slices_ContainsFunc_byte_byte.mono _ _ _)
   | (with_reducible exact LeO.refl _)
   | (with_reducible exact LeO.none _)
   | (with_reducible refine LeO.ite ?_ ?_)
   | (with_reducible refine LeO.bind ?_ (fun _=>?_))
   | exact slices_ContainsFunc_byte_byte.mono _ _ _
   | exact LeO.none _
   | refine LeO.ite ?_ ?_
   | refine LeO.bind ?_ (fun _=>?_)
set_option maxHeartbeats 8000000 in
set_option maxRecDepth 100000 in
theorem impl_areBlocks.calls (k : Nat) (A0 : Option Addr) (c0 : Nat) (l0 : List (List Int)) (r : Bool) (w : World) (hr0 : Kd.C (Kd.slice 5 (Kd.int .u8)) w A0 l0.length l0) (hc0 : l0.length ≤ c0) (h : impl_areBlocks.f k l0 = some r) :
  Calls Try.prog 77 #[.slice A0 l0.length c0] w fun e w'=>e = .returned (.bool r)∧Drawn0 w w':=by
 have HR0:=Aside0.mk hr0
 have HC0:=Aside0.mk hc0
 clear hr0 hc0
 have H : ((impl_within.f (l0.length : Int) 40 160).bind fun t252=>(if t252 = true then ((slices_ContainsFunc_byte_byte.f k l0 ()).bind fun t253=>(some (!t253))) else (some false))) = some r:=h
 clear h
 replace H:=Option.bind_eq_some_iff.mp H
 obtain ⟨t252,A20,H⟩:=H
 replace H : (if t252 = true then ((slices_ContainsFunc_byte_byte.f k l0 ()).bind fun t253=>(some (!t253))) else (some false)) = some r:=H
 have A2:=Aside0.mk A20
 clear A20
 by_cases c3 : t252 = true
 ·subst c3
  have H1 : ((slices_ContainsFunc_byte_byte.f k l0 ()).bind fun t253=>(some (!t253))) = some r:=by rw [if_pos rfl] at H;exact H
  clear H
  have H:=H1
  clear H1
  replace H:=Option.bind_eq_some_iff.mp H
  obtain ⟨t253,A40,H⟩:=H
  replace H : (some (!t253)) = some r:=H
  have A4:=Aside0.mk A40
  clear A40
  obtain rfl:=Option.some.inj H
  go_enter Try.func77,Try.ntmps77
  go_wp2_with (first|((with_reducible refine gate_callee (f:=59) rfl ?_);refine goesL_ (some 5) rfl rfl Try.func59 (by kernel_rfl) rfl #[.int .i64 (l0.length : Int),.int .i64 40,.int .i64 160] rfl (by (try simp only [List.map_toArray,List.map_cons,List.map_nil]);first|done|rfl|(simp only [List.length_drop,List.length_take];rfl)) ?_;(with_reducible refine (impl_within.calls (l0.length : Int) 40 160 true _ A2.out).mono ?_);rintro e w' ⟨rfl,⟨nd,rfl⟩⟩;refine ⟨_,rfl,?_⟩)|(go_at_call 89;(with_reducible refine (slices_ContainsFunc_byte_byte.calls k _ _ l0 () t253 _ ?side1 ?side2 A4.out).mono ?_);(case side1=>repeat (first|exact HR0.out|(with_reducible first|apply Kd.C_alloc|apply Kd.C_drewN|apply Kd.C_drew)));(case side2=>exact HC0.out);rintro e w' ⟨rfl,⟨nd,rfl⟩⟩))
  go_ret
  exact ⟨by first|rfl|(simp;done)|(simp [*];done),by repeat (first|exact Drawn0.refl _|apply Drawn0.step)⟩
 ·replace c3:=Bool.eq_false_iff.mpr c3
  subst c3
  have H1 : (some false) = some r:=by rw [if_neg (show ¬ (false = true) by decide)] at H;exact H
  clear H
  have H:=H1
  clear H1
  obtain rfl:=Option.some.inj H
  go_enter Try.func77,Try.ntmps77
  go_wp2_with (first|((with_reducible refine gate_callee (f:=59) rfl ?_);refine goesL_ (some 5) rfl rfl Try.func59 (by kernel_rfl) rfl #[.int .i64 (l0.length : Int),.int .i64 40,.int .i64 160] rfl (by (try simp only [List.map_toArray,List.map_cons,List.map_nil]);first|done|rfl|(simp only [List.length_drop,List.length_take];rfl)) ?_;(with_reducible refine (impl_within.calls (l0.length : Int) 40 160 false _ A2.out).mono ?_);rintro e w' ⟨rfl,⟨nd,rfl⟩⟩;refine ⟨_,rfl,?_⟩))
  go_ret
  exact ⟨by first|rfl|(simp;done)|(simp [*];done),by repeat (first|exact Drawn0.refl _|apply Drawn0.step)⟩

/-! ### impl_GoodDisk: function 49 -/
def impl_GoodDisk.f (k : Nat) (l0_0 : List (List Int)) (a0_1 : Int) (a0_2 : Bool) (a0_3 : Int) : Option (Bool):=(impl_areBlocks.f k l0_0).bind fun t255=>(if t255 = true then ((impl_within.f a0_1 0 1000000000).bind fun t256=>(if t256 = true then ((impl_within.f a0_3 (-1) 1000000).bind fun t257=>(some t257)) else (some false))) else (some false))
theorem impl_GoodDisk.mono : ∀ a0 a1 a2 a3 k,LeO (impl_GoodDisk.f k a0 a1 a2 a3) (impl_GoodDisk.f (k + 1) a0 a1 a2 a3):=by
 intro a0 a1 a2 a3 k
 unfold impl_GoodDisk.f
 repeat' first
   | (with_reducible exact impl_areBlocks.mono _ _)
   | (with_reducible exact LeO.refl _)
   | (with_reducible exact LeO.none _)
   | (with_reducible refine LeO.ite ?_ ?_)
   | (with_reducible refine LeO.bind ?_ (fun _=>?_))
   | exact impl_areBlocks.mono _ _
   | exact LeO.none _
   | refine LeO.ite ?_ ?_
   | refine LeO.bind ?_ (fun _=>?_)
set_option maxHeartbeats 8000000 in
set_option maxRecDepth 100000 in
theorem impl_GoodDisk.calls (k : Nat) (A0_0 : Option Addr) (c0_0 : Nat) (l0_0 : List (List Int)) (a0_1 : Int) (a0_2 : Bool) (a0_3 : Int) (r : Bool) (w : World) (hr0_0 : Kd.C (Kd.slice 5 (Kd.int .u8)) w A0_0 l0_0.length l0_0) (hc0_0 : l0_0.length ≤ c0_0) (h : impl_GoodDisk.f k l0_0 a0_1 a0_2 a0_3 = some r) :
  Calls Try.prog 49 #[.agg #[.slice A0_0 l0_0.length c0_0,.int .i64 a0_1,.bool a0_2,.int .i64 a0_3]] w fun e w'=>e = .returned (.bool r)∧Below w.heap.size w w':=by
 have hu39:=Try.underlying39
 have HR0_0:=Aside0.mk hr0_0
 have HC0_0:=Aside0.mk hc0_0
 clear hr0_0 hc0_0
 have HB:=Aside0.mk (Below.refl w.heap.size w)
 have H : ((impl_areBlocks.f k l0_0).bind fun t255=>(if t255 = true then ((impl_within.f a0_1 0 1000000000).bind fun t256=>(if t256 = true then ((impl_within.f a0_3 (-1) 1000000).bind fun t257=>(some t257)) else (some false))) else (some false))) = some r:=h
 clear h
 replace H:=Option.bind_eq_some_iff.mp H
 obtain ⟨t255,A20,H⟩:=H
 replace H : (if t255 = true then ((impl_within.f a0_1 0 1000000000).bind fun t256=>(if t256 = true then ((impl_within.f a0_3 (-1) 1000000).bind fun t257=>(some t257)) else (some false))) else (some false)) = some r:=H
 have A2:=Aside0.mk A20
 clear A20
 by_cases c3 : t255 = true
 ·subst c3
  have H1 : ((impl_within.f a0_1 0 1000000000).bind fun t256=>(if t256 = true then ((impl_within.f a0_3 (-1) 1000000).bind fun t257=>(some t257)) else (some false))) = some r:=by rw [if_pos rfl] at H;exact H
  clear H
  have H:=H1
  clear H1
  replace H:=Option.bind_eq_some_iff.mp H
  obtain ⟨t256,A40,H⟩:=H
  replace H : (if t256 = true then ((impl_within.f a0_3 (-1) 1000000).bind fun t257=>(some t257)) else (some false)) = some r:=H
  have A4:=Aside0.mk A40
  clear A40
  by_cases c5 : t256 = true
  ·subst c5
   have H1 : ((impl_within.f a0_3 (-1) 1000000).bind fun t257=>(some t257)) = some r:=by rw [if_pos rfl] at H;exact H
   clear H
   have H:=H1
   clear H1
   replace H:=Option.bind_eq_some_iff.mp H
   obtain ⟨t257,A60,H⟩:=H
   replace H : (some t257) = some r:=H
   have A6:=Aside0.mk A60
   clear A60
   obtain rfl:=Option.some.inj H
   go_enter Try.func49,Try.ntmps49
   go_wp2_with (first|((with_reducible refine gate_dst (N:=1) rfl ?_);refine box_event ?hg (N:=1) ?hd (cs:=#[.slice A0_0 l0_0.length c0_0,.int .i64 a0_1,.bool a0_2,.int .i64 a0_3]) (t:=39) ?hr ?_;(case hd=>rfl);(case hg=>rfl);(case hr=>first|(go_simp;done)|(go_simp;rfl));intro gb254 hg w7 hbox hb;have n0_:=Aside0.mk (below_step (by repeat (first|exact HB.out|apply below_alloc|apply pw_below_drewN|apply below_drew1)) hb);have n1_:=Aside0.mk (hbox);have n2_:=Aside0.mk ((by rw [hg];exact (below_size (by repeat (first|exact HB.out|apply below_alloc|apply pw_below_drewN|apply below_drew1))) : w.heap.size ≤ gb254));have n3_:=Aside0.mk ((by rw [hg];exact (below_size (by repeat (first|exact HB.out|apply below_alloc|apply pw_below_drewN|apply below_drew1))) : w.heap.size ≤ gb254));clear HB;have HB:=n0_;have BK254:=n1_;have GW254:=n2_;have GE254:=n3_;clear n0_ n1_ n2_ n3_;clear hb hbox hg;have hcz8_0 : w7.cell? ⟨gb254,0,none⟩ = some (.slice A0_0 l0_0.length c0_0):=(blk_cell BK254.out 0).trans rfl;have hcz8_1 : w7.cell? ⟨gb254,1,none⟩ = some (.int .i64 a0_1):=(blk_cell BK254.out 1).trans rfl;have hcz8_2 : w7.cell? ⟨gb254,2,none⟩ = some (.bool a0_2):=(blk_cell BK254.out 2).trans rfl;have hcz8_3 : w7.cell? ⟨gb254,3,none⟩ = some (.int .i64 a0_3):=(blk_cell BK254.out 3).trans rfl;have hfz8_0:=blk_frozen BK254.out 0;have hfz8_1:=blk_frozen BK254.out 1;have hfz8_2:=blk_frozen BK254.out 2;have hfz8_3:=blk_frozen BK254.out 3)|((with_reducible refine gate_callee (f:=77) rfl ?_);refine goesL_ (some 5) rfl rfl Try.func77 (by kernel_rfl) rfl #[.slice A0_0 l0_0.length c0_0] rfl (by (try simp only [List.map_toArray,List.map_cons,List.map_nil]);first|done|rfl|(simp only [List.length_drop,List.length_take];rfl)) ?_;(with_reducible refine (impl_areBlocks.calls k _ _ l0_0 true _ ?side1 ?side2 A2.out).mono ?_);(case side1=>repeat (first|exact (Kd.C_below HR0_0.out HB.out)|(with_reducible first|apply Kd.C_alloc|apply Kd.C_drewN|apply Kd.C_drew)));(case side2=>exact HC0_0.out);rintro e w' ⟨rfl,⟨nd,rfl⟩⟩;refine ⟨_,rfl,?_⟩)|(go_at_call 59;(with_reducible refine (impl_within.calls a0_1 0 1000000000 true _ A4.out).mono ?_);rintro e w' ⟨rfl,⟨nd,rfl⟩⟩)|(go_at_call 59;(with_reducible refine (impl_within.calls a0_3 (-1) 1000000 t257 _ A6.out).mono ?_);rintro e w' ⟨rfl,⟨nd,rfl⟩⟩))
   go_ret
   exact ⟨by first|rfl|(simp [*,errW_none,errW_some] <;> rfl),by repeat (first|(with_reducible first|exact HB.out|apply below_alloc|apply pw_below_drewN|apply below_drew1|refine below_set ?_ GE254.out)|exact HB.out)⟩
  ·replace c5:=Bool.eq_false_iff.mpr c5
   subst c5
   have H1 : (some false) = some r:=by rw [if_neg (show ¬ (false = true) by decide)] at H;exact H
   clear H
   have H:=H1
   clear H1
   obtain rfl:=Option.some.inj H
   go_enter Try.func49,Try.ntmps49
   go_wp2_with (first|((with_reducible refine gate_dst (N:=1) rfl ?_);refine box_event ?hg (N:=1) ?hd (cs:=#[.slice A0_0 l0_0.length c0_0,.int .i64 a0_1,.bool a0_2,.int .i64 a0_3]) (t:=39) ?hr ?_;(case hd=>rfl);(case hg=>rfl);(case hr=>first|(go_simp;done)|(go_simp;rfl));intro gb254 hg w9 hbox hb;have n0_:=Aside0.mk (below_step (by repeat (first|exact HB.out|apply below_alloc|apply pw_below_drewN|apply below_drew1)) hb);have n1_:=Aside0.mk (hbox);have n2_:=Aside0.mk ((by rw [hg];exact (below_size (by repeat (first|exact HB.out|apply below_alloc|apply pw_below_drewN|apply below_drew1))) : w.heap.size ≤ gb254));have n3_:=Aside0.mk ((by rw [hg];exact (below_size (by repeat (first|exact HB.out|apply below_alloc|apply pw_below_drewN|apply below_drew1))) : w.heap.size ≤ gb254));clear HB;have HB:=n0_;have BK254:=n1_;have GW254:=n2_;have GE254:=n3_;clear n0_ n1_ n2_ n3_;clear hb hbox hg;have hcz10_0 : w9.cell? ⟨gb254,0,none⟩ = some (.slice A0_0 l0_0.length c0_0):=(blk_cell BK254.out 0).trans rfl;have hcz10_1 : w9.cell? ⟨gb254,1,none⟩ = some (.int .i64 a0_1):=(blk_cell BK254.out 1).trans rfl;have hcz10_2 : w9.cell? ⟨gb254,2,none⟩ = some (.bool a0_2):=(blk_cell BK254.out 2).trans rfl;have hcz10_3 : w9.cell? ⟨gb254,3,none⟩ = some (.int .i64 a0_3):=(blk_cell BK254.out 3).trans rfl;have hfz10_0:=blk_frozen BK254.out 0;have hfz10_1:=blk_frozen BK254.out 1;have hfz10_2:=blk_frozen BK254.out 2;have hfz10_3:=blk_frozen BK254.out 3)|((with_reducible refine gate_callee (f:=77) rfl ?_);refine goesL_ (some 5) rfl rfl Try.func77 (by kernel_rfl) rfl #[.slice A0_0 l0_0.length c0_0] rfl (by (try simp only [List.map_toArray,List.map_cons,List.map_nil]);first|done|rfl|(simp only [List.length_drop,List.length_take];rfl)) ?_;(with_reducible refine (impl_areBlocks.calls k _ _ l0_0 true _ ?side1 ?side2 A2.out).mono ?_);(case side1=>repeat (first|exact (Kd.C_below HR0_0.out HB.out)|(with_reducible first|apply Kd.C_alloc|apply Kd.C_drewN|apply Kd.C_drew)));(case side2=>exact HC0_0.out);rintro e w' ⟨rfl,⟨nd,rfl⟩⟩;refine ⟨_,rfl,?_⟩)|(go_at_call 59;(with_reducible refine (impl_within.calls a0_1 0 1000000000 false _ A4.out).mono ?_);rintro e w' ⟨rfl,⟨nd,rfl⟩⟩))
   go_ret
   exact ⟨by first|rfl|(simp [*,errW_none,errW_some] <;> rfl),by repeat (first|(with_reducible first|exact HB.out|apply below_alloc|apply pw_below_drewN|apply below_drew1|refine below_set ?_ GE254.out)|exact HB.out)⟩
 ·replace c3:=Bool.eq_false_iff.mpr c3
  subst c3
  have H1 : (some false) = some r:=by rw [if_neg (show ¬ (false = true) by decide)] at H;exact H
  clear H
  have H:=H1
  clear H1
  obtain rfl:=Option.some.inj H
  go_enter Try.func49,Try.ntmps49
  go_wp2_with (first|((with_reducible refine gate_dst (N:=1) rfl ?_);refine box_event ?hg (N:=1) ?hd (cs:=#[.slice A0_0 l0_0.length c0_0,.int .i64 a0_1,.bool a0_2,.int .i64 a0_3]) (t:=39) ?hr ?_;(case hd=>rfl);(case hg=>rfl);(case hr=>first|(go_simp;done)|(go_simp;rfl));intro gb254 hg w11 hbox hb;have n0_:=Aside0.mk (below_step (by repeat (first|exact HB.out|apply below_alloc|apply pw_below_drewN|apply below_drew1)) hb);have n1_:=Aside0.mk (hbox);have n2_:=Aside0.mk ((by rw [hg];exact (below_size (by repeat (first|exact HB.out|apply below_alloc|apply pw_below_drewN|apply below_drew1))) : w.heap.size ≤ gb254));have n3_:=Aside0.mk ((by rw [hg];exact (below_size (by repeat (first|exact HB.out|apply below_alloc|apply pw_below_drewN|apply below_drew1))) : w.heap.size ≤ gb254));clear HB;have HB:=n0_;have BK254:=n1_;have GW254:=n2_;have GE254:=n3_;clear n0_ n1_ n2_ n3_;clear hb hbox hg;have hcz12_0 : w11.cell? ⟨gb254,0,none⟩ = some (.slice A0_0 l0_0.length c0_0):=(blk_cell BK254.out 0).trans rfl;have hcz12_1 : w11.cell? ⟨gb254,1,none⟩ = some (.int .i64 a0_1):=(blk_cell BK254.out 1).trans rfl;have hcz12_2 : w11.cell? ⟨gb254,2,none⟩ = some (.bool a0_2):=(blk_cell BK254.out 2).trans rfl;have hcz12_3 : w11.cell? ⟨gb254,3,none⟩ = some (.int .i64 a0_3):=(blk_cell BK254.out 3).trans rfl;have hfz12_0:=blk_frozen BK254.out 0;have hfz12_1:=blk_frozen BK254.out 1;have hfz12_2:=blk_frozen BK254.out 2;have hfz12_3:=blk_frozen BK254.out 3)|((with_reducible refine gate_callee (f:=77) rfl ?_);refine goesL_ (some 5) rfl rfl Try.func77 (by kernel_rfl) rfl #[.slice A0_0 l0_0.length c0_0] rfl (by (try simp only [List.map_toArray,List.map_cons,List.map_nil]);first|done|rfl|(simp only [List.length_drop,List.length_take];rfl)) ?_;(with_reducible refine (impl_areBlocks.calls k _ _ l0_0 false _ ?side1 ?side2 A2.out).mono ?_);(case side1=>repeat (first|exact (Kd.C_below HR0_0.out HB.out)|(with_reducible first|apply Kd.C_alloc|apply Kd.C_drewN|apply Kd.C_drew)));(case side2=>exact HC0_0.out);rintro e w' ⟨rfl,⟨nd,rfl⟩⟩;refine ⟨_,rfl,?_⟩))
  go_ret
  exact ⟨by first|rfl|(simp [*,errW_none,errW_some] <;> rfl),by repeat (first|(with_reducible first|exact HB.out|apply below_alloc|apply pw_below_drewN|apply below_drew1|refine below_set ?_ GE254.out)|exact HB.out)⟩

/-! ### impl_Disk_has: function 50 -/
def impl_Disk_has.f (l0_0 : List (List Int)) (a0_1 : Int) (a0_2 : Bool) (a0_3 : Int) (a1 : Int) : Option (Bool):=(impl_within.f a1 0 (wrap64 ((l0_0.length : Int) - 1))).bind fun t259=>(some t259)
set_option maxHeartbeats 8000000 in
set_option maxRecDepth 100000 in
theorem impl_Disk_has.calls (A0_0 : Option Addr) (c0_0 : Nat) (l0_0 : List (List Int)) (a0_1 : Int) (a0_2 : Bool) (a0_3 : Int) (a1 : Int) (r : Bool) (w : World) (hr0_0 : Kd.C (Kd.slice 5 (Kd.int .u8)) w A0_0 l0_0.length l0_0) (hc0_0 : l0_0.length ≤ c0_0) (h : impl_Disk_has.f l0_0 a0_1 a0_2 a0_3 a1 = some r) :
  Calls Try.prog 50 #[.agg #[.slice A0_0 l0_0.length c0_0,.int .i64 a0_1,.bool a0_2,.int .i64 a0_3],.int .i64 a1] w fun e w'=>e = .returned (.bool r)∧Below w.heap.size w w':=by
 have hu39:=Try.underlying39
 have HR0_0:=Aside0.mk hr0_0
 have HC0_0:=Aside0.mk hc0_0
 clear hr0_0 hc0_0
 have HB:=Aside0.mk (Below.refl w.heap.size w)
 have H : ((impl_within.f a1 0 (wrap64 ((l0_0.length : Int) - 1))).bind fun t259=>(some t259)) = some r:=h
 clear h
 replace H:=Option.bind_eq_some_iff.mp H
 obtain ⟨t259,A30,H⟩:=H
 replace H : (some t259) = some r:=H
 have A3:=Aside0.mk A30
 clear A30
 obtain rfl:=Option.some.inj H
 go_enter Try.func50,Try.ntmps50
 go_wp2_with (first|((with_reducible refine gate_dst (N:=2) rfl ?_);refine box_event ?hg (N:=2) ?hd (cs:=#[.slice A0_0 l0_0.length c0_0,.int .i64 a0_1,.bool a0_2,.int .i64 a0_3]) (t:=39) ?hr ?_;(case hd=>rfl);(case hg=>rfl);(case hr=>first|(go_simp;done)|(go_simp;rfl));intro gb258 hg w4 hbox hb;have n0_:=Aside0.mk (below_step (by repeat (first|exact HB.out|apply below_alloc|apply pw_below_drewN|apply below_drew1)) hb);have n1_:=Aside0.mk (hbox);have n2_:=Aside0.mk ((by rw [hg];exact (below_size (by repeat (first|exact HB.out|apply below_alloc|apply pw_below_drewN|apply below_drew1))) : w.heap.size ≤ gb258));have n3_:=Aside0.mk ((by rw [hg];exact (below_size (by repeat (first|exact HB.out|apply below_alloc|apply pw_below_drewN|apply below_drew1))) : w.heap.size ≤ gb258));clear HB;have HB:=n0_;have BK258:=n1_;have GW258:=n2_;have GE258:=n3_;clear n0_ n1_ n2_ n3_;clear hb hbox hg;have hcz5_0 : w4.cell? ⟨gb258,0,none⟩ = some (.slice A0_0 l0_0.length c0_0):=(blk_cell BK258.out 0).trans rfl;have hcz5_1 : w4.cell? ⟨gb258,1,none⟩ = some (.int .i64 a0_1):=(blk_cell BK258.out 1).trans rfl;have hcz5_2 : w4.cell? ⟨gb258,2,none⟩ = some (.bool a0_2):=(blk_cell BK258.out 2).trans rfl;have hcz5_3 : w4.cell? ⟨gb258,3,none⟩ = some (.int .i64 a0_3):=(blk_cell BK258.out 3).trans rfl;have hfz5_0:=blk_frozen BK258.out 0;have hfz5_1:=blk_frozen BK258.out 1;have hfz5_2:=blk_frozen BK258.out 2;have hfz5_3:=blk_frozen BK258.out 3)|((with_reducible refine gate_callee (f:=59) rfl ?_);refine goesL_ (some 10) rfl rfl Try.func59 (by kernel_rfl) rfl #[.int .i64 a1,.int .i64 0,.int .i64 (wrap64 ((l0_0.length : Int) - 1))] rfl (by (try simp only [List.map_toArray,List.map_cons,List.map_nil]);first|done|rfl|(simp only [List.length_drop,List.length_take];rfl)) ?_;(with_reducible refine (impl_within.calls a1 0 (wrap64 ((l0_0.length : Int) - 1)) t259 _ A3.out).mono ?_);rintro e w' ⟨rfl,⟨nd,rfl⟩⟩;refine ⟨_,rfl,?_⟩))
 go_ret
 exact ⟨by first|rfl|(simp [*,errW_none,errW_some] <;> rfl),by repeat (first|(with_reducible first|exact HB.out|apply below_alloc|apply pw_below_drewN|apply below_drew1|refine below_set ?_ GE258.out)|exact HB.out)⟩

end Go.Proofs.Ytfjboeeogjepeaa.PFnExactPlanOf
