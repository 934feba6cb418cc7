-- Written by a program of this session over the print of the kit (wip/t/patch_print.py).
import Derived.Test.YtlphbpaojcdjaaaPFnExactOpenSpacex0
import Derived.Test.YtlphbpaojcdjaaaPFnExactOpenSpacex3
import Derived.Test.YtlphbpaojcdjaaaPFnExactOpenSpacex4
namespace Go.Proofs.Ytlphbpaojcdjaaa.PFnExactOpenSpace
open Go.RowKit Go.Proofs.YtlphbpaojcdjaaaW.PrintWords Go.Proofs.YtlphbpaojcdjaaaW.PrintLast Go.Proofs.YtlphbpaojcdjaaaW.PrintMore
attribute [local go_sem] max2_int min2_int max_two min_two max_three min_three max_four min_four   -- for this text's walks alone
set_option linter.unusedVariables false
set_option linter.unusedSimpArgs false

/-! ### spec_OpenSpace: function 24 -/
def spec_OpenSpace.l0 : Nat → List Int → Int → Int → List (List Int) → List Int → Option ((List (List Int)) × List Int × List Int × List Int × Bool)
 | 0,_,_,_,_,_=>none
 | k + 1,x28,x29,x30,x181000,x181001=>if x30 < x29 then (if 0 ≤ x30 then (if x30 < (x28.length : Int) then (if (rd x28 x30) = 0 then (spec_OpenSpace.l0 k x28 x29 (wrap64 (x30 + 1)) x181000 x181001) else (some (([] : List (List Int)),([] : List Int),([] : List Int),([] : List Int),false))) else (none)) else (none)) else ((spec_GoodSpace.f k x181000 x181001 ([] : List Int) ([] : List Int)).bind fun t187=>(if t187 = true then (some (x181000,x181001,([] : List Int),([] : List Int),true)) else (some (([] : List (List Int)),([] : List Int),([] : List Int),([] : List Int),false))))
def spec_OpenSpace.f (k : Nat) (l0_0 : List (List Int)) (a0_1 : Int) (a0_2 : Bool) (a0_3 : Int) : Option ((List (List Int)) × List Int × List Int × List Int × Bool):=(spec_GoodDisk.f k l0_0 a0_1 a0_2 a0_3).bind fun t161=>(if t161 = true then ((spec_l2Own.f k l0_0 a0_1 a0_2 a0_3).bind fun bt162=>((some (([] : List Int) : List Int)).bind fun y169=>(if 1 < (bt162.1.length : Int) then (if 20 ≤ ((rd_L2 bt162.1 1).length : Int) then ((some ((rd_L2 bt162.1 1).take 20 : List Int)).bind fun y173=>(if y169.length + y173.length < 140737488355328 then ((some ((rd_L2 bt162.1 1).drop 20 : List Int)).bind fun y182=>(spec_OpenSpace.l0 k y182 (y182.length : Int) 0 bt162.1 (y169 ++ y173))) else (none))) else (none)) else (none)))) else (some (([] : List (List Int)),([] : List Int),([] : List Int),([] : List Int),false)))
theorem spec_OpenSpace.mono_l : ∀ k,(∀ y0 y1 y2 y3 y4,LeO (spec_OpenSpace.l0 k y0 y1 y2 y3 y4) (spec_OpenSpace.l0 (k + 1) y0 y1 y2 y3 y4))
 | 0=>fun _ _ _ _ _ r h=>by simp [spec_OpenSpace.l0] at h
 | k + 1=>by
  have ih0:=spec_OpenSpace.mono_l k
  ·intro y0 y1 y2 y3 y4
   unfold spec_OpenSpace.l0
   repeat' first
   | (with_reducible exact ih0 _ _ _ _ _)
   | (with_reducible exact spec_GoodDisk.mono _ _ _ _ _)
   | (with_reducible exact spec_GoodSpace.mono _ _ _ _ _)
   | (with_reducible exact spec_l2Own.mono _ _ _ _ _)
   | (with_reducible exact LeO.refl _)
   | (with_reducible exact LeO.none _)
   | (with_reducible refine LeO.ite ?_ ?_)
   | (with_reducible refine LeO.bind ?_ (fun _=>?_))
   | exact ih0 _ _ _ _ _
   | exact spec_GoodDisk.mono _ _ _ _ _
   | exact spec_GoodSpace.mono _ _ _ _ _
   | exact spec_l2Own.mono _ _ _ _ _
   | exact LeO.none _
   | refine LeO.ite ?_ ?_
   | refine LeO.bind ?_ (fun _=>?_)
theorem spec_OpenSpace.mono : ∀ a0 a1 a2 a3 k,LeO (spec_OpenSpace.f k a0 a1 a2 a3) (spec_OpenSpace.f (k + 1) a0 a1 a2 a3):=by
 intro a0 a1 a2 a3 k
 have ih0:=spec_OpenSpace.mono_l k
 unfold spec_OpenSpace.f
 repeat' first
   | (with_reducible exact ih0 _ _ _ _ _)
   | (with_reducible exact spec_GoodDisk.mono _ _ _ _ _)
   | (with_reducible exact spec_GoodSpace.mono _ _ _ _ _)
   | (with_reducible exact spec_l2Own.mono _ _ _ _ _)
   | (with_reducible exact LeO.refl _)
   | (with_reducible exact LeO.none _)
   | (with_reducible refine LeO.ite ?_ ?_)
   | (with_reducible refine LeO.bind ?_ (fun _=>?_))
   | exact ih0 _ _ _ _ _
   | exact spec_GoodDisk.mono _ _ _ _ _
   | exact spec_GoodSpace.mono _ _ _ _ _
   | exact spec_l2Own.mono _ _ _ _ _
   | exact LeO.none _
   | refine LeO.ite ?_ ?_
   | refine LeO.bind ?_ (fun _=>?_)
def spec_OpenSpace.T4 : Bool × List (List Nat × List Nat):=(true,[([],[]),([0],[0]),([],[]),([],[]),([3],[3]),([4],[4]),([5],[5]),([6],[6]),([2,7],[2,7]),([1,8],[1,8]),([],[]),([10,9,8,0,1,2,3,4,5,6,7,8,9,10],[9,10])])
def spec_OpenSpace.B4 : List Nat:=[0,1,0,0,8,24,56,120,252,511,0,2047]
theorem spec_OpenSpace.tab4 : rtab .any (opsOf Try.f24 4) = spec_OpenSpace.T4:=by kernel_rfl
theorem spec_OpenSpace.bits4 : waitsOk spec_OpenSpace.T4.2 spec_OpenSpace.B4 = true:=by kernel_rfl
set_option maxHeartbeats 8000000 in
set_option maxRecDepth 100000 in
theorem spec_OpenSpace.calls (k : Nat) (A0_0 : Option Addr) (c0_0 : Nat) (l0_0 : List (List Int)) (a0_1 : Int) (a0_2 : Bool) (a0_3 : Int) (r1 : List (List Int)) (r2 : List Int) (r3 : List Int) (r4 : List Int) (r5 : Bool) (w : World) (hr0_0 : Kd.C (Kd.slice 5 (Kd.int .u8)) w A0_0 l0_0.length l0_0) (hc0_0 : l0_0.length ≤ c0_0) (h : spec_OpenSpace.f k l0_0 a0_1 a0_2 a0_3 = some (r1,r2,r3,r4,r5)) :
  Calls Try.prog 24 #[.agg #[.slice A0_0 l0_0.length c0_0,.int .i64 a0_1,.bool a0_2,.int .i64 a0_3]] w fun e w'=>∃ v0_ v1_ v2_ v3_ : Value,e = .returned (.tuple #[.agg #[v0_,v1_,v2_,v3_],.bool r5])∧Kd.S (Kd.slice 5 (Kd.int .u8)) 23 w' w.heap.size (fun k_=>some k_ ≠ (v1_ : Value).ownBlock) v0_ r1∧Kd.R (Kd.int .u8) 5 w' w.heap.size (fun _=>True) v1_ r2∧Kd.R (Kd.int .i64) 3 w' w.heap.size (fun k_=>some k_ ≠ (v3_ : Value).ownBlock) v2_ r3∧Kd.R (Kd.int .i64) 3 w' w.heap.size (fun k_=>some k_ ≠ (v2_ : Value).ownBlock) v3_ r4∧Below w.heap.size w w':=by
 have hu45:=Try.underlying45
 have hu29:=Try.underlying29
 have HR0_0:=Aside0.mk hr0_0
 have HC0_0:=Aside0.mk hc0_0
 clear hr0_0 hc0_0
 have HB:=Aside0.mk (Below.refl w.heap.size w)
 have H : ((spec_GoodDisk.f k l0_0 a0_1 a0_2 a0_3).bind fun t161=>(if t161 = true then ((spec_l2Own.f k l0_0 a0_1 a0_2 a0_3).bind fun bt162=>((some (([] : List Int) : List Int)).bind fun y169=>(if 1 < (bt162.1.length : Int) then (if 20 ≤ ((rd_L2 bt162.1 1).length : Int) then ((some ((rd_L2 bt162.1 1).take 20 : List Int)).bind fun y173=>(if y169.length + y173.length < 140737488355328 then ((some ((rd_L2 bt162.1 1).drop 20 : List Int)).bind fun y182=>(spec_OpenSpace.l0 k y182 (y182.length : Int) 0 bt162.1 (y169 ++ y173))) else (none))) else (none)) else (none)))) else (some (([] : List (List Int)),([] : List Int),([] : List Int),([] : List Int),false)))) = some (r1,r2,r3,r4,r5):=h
 clear h
 replace H:=Option.bind_eq_some_iff.mp H
 obtain ⟨t161,A20,H⟩:=H
 replace H : (if t161 = true then ((spec_l2Own.f k l0_0 a0_1 a0_2 a0_3).bind fun bt162=>((some (([] : List Int) : List Int)).bind fun y169=>(if 1 < (bt162.1.length : Int) then (if 20 ≤ ((rd_L2 bt162.1 1).length : Int) then ((some ((rd_L2 bt162.1 1).take 20 : List Int)).bind fun y173=>(if y169.length + y173.length < 140737488355328 then ((some ((rd_L2 bt162.1 1).drop 20 : List Int)).bind fun y182=>(spec_OpenSpace.l0 k y182 (y182.length : Int) 0 bt162.1 (y169 ++ y173))) else (none))) else (none)) else (none)))) else (some (([] : List (List Int)),([] : List Int),([] : List Int),([] : List Int),false))) = some (r1,r2,r3,r4,r5):=H
 have A2:=Aside0.mk A20
 clear A20
 by_cases c3 : t161 = true
 ·subst c3
  have H1 : ((spec_l2Own.f k l0_0 a0_1 a0_2 a0_3).bind fun bt162=>((some (([] : List Int) : List Int)).bind fun y169=>(if 1 < (bt162.1.length : Int) then (if 20 ≤ ((rd_L2 bt162.1 1).length : Int) then ((some ((rd_L2 bt162.1 1).take 20 : List Int)).bind fun y173=>(if y169.length + y173.length < 140737488355328 then ((some ((rd_L2 bt162.1 1).drop 20 : List Int)).bind fun y182=>(spec_OpenSpace.l0 k y182 (y182.length : Int) 0 bt162.1 (y169 ++ y173))) else (none))) else (none)) else (none)))) = some (r1,r2,r3,r4,r5):=by rw [if_pos rfl] at H;exact H
  clear H
  have H:=H1
  clear H1
  replace H:=Option.bind_eq_some_iff.mp H
  obtain ⟨⟨t162,t165,t166,t167⟩,A40,H⟩:=H
  replace H : ((some (([] : List Int) : List Int)).bind fun y169=>(if 1 < (t162.length : Int) then (if 20 ≤ ((rd_L2 t162 1).length : Int) then ((some ((rd_L2 t162 1).take 20 : List Int)).bind fun y173=>(if y169.length + y173.length < 140737488355328 then ((some ((rd_L2 t162 1).drop 20 : List Int)).bind fun y182=>(spec_OpenSpace.l0 k y182 (y182.length : Int) 0 t162 (y169 ++ y173))) else (none))) else (none)) else (none))) = some (r1,r2,r3,r4,r5):=H
  have A4:=Aside0.mk A40
  clear A40
  obtain ⟨y169,hy169⟩ : ∃ y_ : List Int,y_ = (([] : List Int)):=⟨_,rfl⟩
  replace H : (if 1 < (t162.length : Int) then (if 20 ≤ ((rd_L2 t162 1).length : Int) then ((some ((rd_L2 t162 1).take 20 : List Int)).bind fun y173=>(if y169.length + y173.length < 140737488355328 then ((some ((rd_L2 t162 1).drop 20 : List Int)).bind fun y182=>(spec_OpenSpace.l0 k y182 (y182.length : Int) 0 t162 (y169 ++ y173))) else (none))) else (none)) else (none)) = some (r1,r2,r3,r4,r5):=by first|(rw [hy169];with_reducible exact H)|(have H2_:=(Option.bind_some _ _).symm.trans H;rw [hy169];with_reducible exact H2_)|(have H2_:=(Option.bind_some _ _).symm.trans H;with_reducible exact H2_)|with_reducible exact H|(rw [hy169];exact H)|exact H
  have Ny169:=Aside0.mk hy169
  clear hy169
  by_cases c5 : 1 < (t162.length : Int)
  ·rw [if_pos c5] at H
   have c5b0 : decide (1 < (t162.length : Int)) = true:=decide_eq_true c5
   have c5b1 : decide (1 < t162.length) = true:=decide_eq_true (by omega)
   clear c5
   by_cases c6 : 20 ≤ ((rd_L2 t162 1).length : Int)
   ·rw [if_pos c6] at H
    have c6b0:=eq_true c6
    have c6b1 : decide (20 ≤ ((rd_L2 t162 1).length : Int)) = true:=decide_eq_true c6
    clear c6
    obtain ⟨y173,hy173⟩ : ∃ y_ : List Int,y_ = ((rd_L2 t162 1).take 20):=⟨_,rfl⟩
    replace H : (if y169.length + y173.length < 140737488355328 then ((some ((rd_L2 t162 1).drop 20 : List Int)).bind fun y182=>(spec_OpenSpace.l0 k y182 (y182.length : Int) 0 t162 (y169 ++ y173))) else (none)) = some (r1,r2,r3,r4,r5):=by first|(rw [hy173];with_reducible exact H)|(have H2_:=(Option.bind_some _ _).symm.trans H;rw [hy173];with_reducible exact H2_)|(have H2_:=(Option.bind_some _ _).symm.trans H;with_reducible exact H2_)|with_reducible exact H|(rw [hy173];exact H)|exact H
    have Ny173:=Aside0.mk hy173
    clear hy173
    by_cases c7 : y169.length + y173.length < 140737488355328
    ·rw [if_pos c7] at H
     have LMc7:=Aside0.mk c7
     clear c7
     obtain ⟨y177,hy177⟩ : ∃ y_ : List Int,y_ = (y169 ++ y173):=⟨_,rfl⟩
     replace H : ((some ((rd_L2 t162 1).drop 20 : List Int)).bind fun y182=>(spec_OpenSpace.l0 k y182 (y182.length : Int) 0 t162 y177)) = some (r1,r2,r3,r4,r5):=by first|(rw [hy177];with_reducible exact H)|(have H2_:=(Option.bind_some _ _).symm.trans H;rw [hy177];with_reducible exact H2_)|(have H2_:=(Option.bind_some _ _).symm.trans H;with_reducible exact H2_)|with_reducible exact H|(rw [hy177];exact H)|exact H
     have Ny177:=Aside0.mk hy177
     clear hy177
     have c8b0:=eq_true (of_decide_eq_true (by assumption) : 20 ≤ ((rd_L2 t162 1).length : Int))
     obtain ⟨y182,hy182⟩ : ∃ y_ : List Int,y_ = ((rd_L2 t162 1).drop 20):=⟨_,rfl⟩
     replace H : (spec_OpenSpace.l0 k y182 (y182.length : Int) 0 t162 y177) = some (r1,r2,r3,r4,r5):=by first|(rw [hy182];with_reducible exact H)|(have H2_:=(Option.bind_some _ _).symm.trans H;rw [hy182];with_reducible exact H2_)|(have H2_:=(Option.bind_some _ _).symm.trans H;with_reducible exact H2_)|with_reducible exact H|(rw [hy182];exact H)|exact H
     have Ny182:=Aside0.mk hy182
     clear hy182
     have H':=Aside0.mk H
     clear H
     go_enter Try.func24,Try.ntmps24
     try go_wp2_with (first|((with_reducible refine gate_dst (N:=1) rfl ?_);refine box_event ?hg (N:=1) ?hd (cs:=#[.slice A0_0 l0_0.length c0_0,.int .i64 a0_1,.bool a0_2,.int .i64 a0_3]) (t:=45) ?hr ?_;(case hd=>rfl);(case hg=>rfl);(case hr=>first|(go_simp;done)|(go_simp;rfl));intro gb159 hg w9 hbox hb;have n0_:=Aside0.mk (below_step (by repeat (first|exact HB.out|apply below_alloc|apply pw_below_drewN|apply below_drew1)) hb);have n1_:=Aside0.mk (hbox);have n2_:=Aside0.mk ((by rw [hg];exact (below_size (by repeat (first|exact HB.out|apply below_alloc|apply pw_below_drewN|apply below_drew1))) : w.heap.size ≤ gb159));have n3_:=Aside0.mk ((by rw [hg];exact (below_size (by repeat (first|exact HB.out|apply below_alloc|apply pw_below_drewN|apply below_drew1))) : w.heap.size ≤ gb159));clear HB;have HB:=n0_;have BK159:=n1_;have GW159:=n2_;have GE159:=n3_;clear n0_ n1_ n2_ n3_;clear hb hbox hg)|((with_reducible refine gate_dst (N:=2) rfl ?_);refine box_event ?hg (N:=2) ?hd (cs:=#[.slice none 0 0,.slice none 0 0,.slice none 0 0,.slice none 0 0]) (t:=29) ?hr ?_;(case hd=>rfl);(case hg=>rfl);(case hr=>first|(go_simp;done)|(go_simp;rfl));intro gb160 hg w10 hbox hb;have n0_:=Aside0.mk (blk_below (g:=gb159) (o:=.cells #[.slice A0_0 l0_0.length c0_0,.int .i64 a0_1,.bool a0_2,.int .i64 a0_3] 45 (0,0)) (by (with_reducible repeat first|apply blk_drewN|apply blk_drew|apply blk_alloc);exact BK159.out) hb);have n1_:=Aside0.mk (below_step (by repeat (first|(with_reducible first|exact HB.out|apply below_alloc|apply pw_below_drewN|apply below_drew1|refine below_set ?_ GE159.out)|exact HB.out)) hb);have n2_:=Aside0.mk (hbox);have n3_:=Aside0.mk ((by rw [hg];exact (below_size (by repeat (first|(with_reducible first|exact HB.out|apply below_alloc|apply pw_below_drewN|apply below_drew1|refine below_set ?_ GE159.out)|exact HB.out))) : w.heap.size ≤ gb160));have n4_:=Aside0.mk ((by rw [hg];exact (below_size (by repeat (first|(with_reducible first|exact HB.out|apply below_alloc|apply pw_below_drewN|apply below_drew1|refine below_set ?_ GE159.out)|exact HB.out))) : w.heap.size ≤ gb160));have n5_:=Aside0.mk ((by rw [hg];exact Nat.ne_of_lt (blk_lt (g:=gb159) (o:=.cells #[.slice A0_0 l0_0.length c0_0,.int .i64 a0_1,.bool a0_2,.int .i64 a0_3] 45 (0,0)) (by (with_reducible repeat first|apply blk_drewN|apply blk_drew|apply blk_alloc);exact BK159.out)) : gb159 ≠ gb160));have n6_:=Aside0.mk ((by rw [hg];exact Nat.ne_of_gt (blk_lt (g:=gb159) (o:=.cells #[.slice A0_0 l0_0.length c0_0,.int .i64 a0_1,.bool a0_2,.int .i64 a0_3] 45 (0,0)) (by (with_reducible repeat first|apply blk_drewN|apply blk_drew|apply blk_alloc);exact BK159.out)) : gb160 ≠ gb159));clear BK159;clear HB;have BK159:=n0_;have HB:=n1_;have BK160:=n2_;have GW160:=n3_;have GE160:=n4_;have NB159_160:=n5_;have NB160_159:=n6_;clear n0_ n1_ n2_ n3_ n4_ n5_ n6_;clear hb hbox hg;have hnb11:=NB159_160.out;have hnc11:=NB160_159.out;have hcz12_0 : w10.cell? ⟨gb159,0,none⟩ = some (.slice A0_0 l0_0.length c0_0):=(blk_cell BK159.out 0).trans rfl;have hcz12_1 : w10.cell? ⟨gb159,1,none⟩ = some (.int .i64 a0_1):=(blk_cell BK159.out 1).trans rfl;have hcz12_2 : w10.cell? ⟨gb159,2,none⟩ = some (.bool a0_2):=(blk_cell BK159.out 2).trans rfl;have hcz12_3 : w10.cell? ⟨gb159,3,none⟩ = some (.int .i64 a0_3):=(blk_cell BK159.out 3).trans rfl;have hfz12_0:=blk_frozen BK159.out 0;have hfz12_1:=blk_frozen BK159.out 1;have hfz12_2:=blk_frozen BK159.out 2;have hfz12_3:=blk_frozen BK159.out 3)|((with_reducible refine gate_callee (f:=56) rfl ?_);refine goesL_ (some 9) rfl rfl Try.func56 (by kernel_rfl) rfl #[.agg #[.slice A0_0 l0_0.length c0_0,.int .i64 a0_1,.bool a0_2,.int .i64 a0_3]] rfl (by (try simp only [List.map_toArray,List.map_cons,List.map_nil]);first|done|rfl|(simp only [List.length_drop,List.length_take];rfl)) ?_;(with_reducible refine (spec_GoodDisk.calls k _ _ l0_0 a0_1 a0_2 a0_3 true _ ?side1 ?side2 A2.out).mono ?_);(case side1=>repeat (first|exact (Kd.C_below HR0_0.out HB.out)|(with_reducible first|apply Kd.C_alloc|apply Kd.C_drewN|apply Kd.C_drew)));(case side2=>exact HC0_0.out);rintro e w13 ⟨rfl,hb⟩;refine ⟨_,rfl,?_⟩;have n0_:=Aside0.mk (blk_below (g:=gb159) (o:=.cells #[.slice A0_0 l0_0.length c0_0,.int .i64 a0_1,.bool a0_2,.int .i64 a0_3] 45 (0,0)) (by (with_reducible repeat first|apply blk_drewN|apply blk_drew|apply blk_alloc);exact BK159.out) hb);have n1_:=Aside0.mk (blk_below (g:=gb160) (o:=.cells #[.slice none 0 0,.slice none 0 0,.slice none 0 0,.slice none 0 0] 29 (0,0)) (by (with_reducible repeat first|apply blk_drewN|apply blk_drew|apply blk_alloc);exact BK160.out) hb);have n2_:=Aside0.mk (below_step (by repeat (first|(with_reducible first|exact HB.out|apply below_alloc|apply pw_below_drewN|apply below_drew1|refine below_set ?_ GE159.out|refine below_set ?_ GE160.out)|exact HB.out)) hb);clear BK159;clear BK160;clear HB;have BK159:=n0_;have BK160:=n1_;have HB:=n2_;clear n0_ n1_ n2_;(try clear hb);(try clear hb2);(try clear hk);(try clear hi);have hcz14_0 : w13.cell? ⟨gb159,0,none⟩ = some (.slice A0_0 l0_0.length c0_0):=(blk_cell BK159.out 0).trans rfl;have hcz14_1 : w13.cell? ⟨gb159,1,none⟩ = some (.int .i64 a0_1):=(blk_cell BK159.out 1).trans rfl;have hcz14_2 : w13.cell? ⟨gb159,2,none⟩ = some (.bool a0_2):=(blk_cell BK159.out 2).trans rfl;have hcz14_3 : w13.cell? ⟨gb159,3,none⟩ = some (.int .i64 a0_3):=(blk_cell BK159.out 3).trans rfl;have hfz14_0:=blk_frozen BK159.out 0;have hfz14_1:=blk_frozen BK159.out 1;have hfz14_2:=blk_frozen BK159.out 2;have hfz14_3:=blk_frozen BK159.out 3)|((with_reducible refine gate_callee (f:=57) rfl ?_);refine goesL_ (some 13) rfl rfl Try.func57 (by kernel_rfl) rfl #[.agg #[.slice A0_0 l0_0.length c0_0,.int .i64 a0_1,.bool a0_2,.int .i64 a0_3]] rfl (by (try simp only [List.map_toArray,List.map_cons,List.map_nil]);first|done|rfl|(simp only [List.length_drop,List.length_take];rfl)) ?_;(with_reducible refine (spec_l2Own.calls k _ _ l0_0 a0_1 a0_2 a0_3 t162 t165 t166 t167 _ ?side1 ?side2 A4.out).mono ?_);(case side1=>repeat (first|exact (Kd.C_below HR0_0.out HB.out)|(with_reducible first|apply Kd.C_alloc|apply Kd.C_drewN|apply Kd.C_drew)));(case side2=>exact HC0_0.out);rintro e w15 ⟨v163,rfl,ho0,hb⟩;refine ⟨_,rfl,?_⟩;have n0_:=Aside0.mk (Kd.S_lower ho0 (below_size (by repeat (first|(with_reducible first|exact HB.out|apply below_alloc|apply pw_below_drewN|apply below_drew1|refine below_set ?_ GE159.out|refine below_set ?_ GE160.out)|exact HB.out))));have n1_:=Aside0.mk (blk_below (g:=gb159) (o:=.cells #[.slice A0_0 l0_0.length c0_0,.int .i64 a0_1,.bool a0_2,.int .i64 a0_3] 45 (0,0)) (by (with_reducible repeat first|apply blk_drewN|apply blk_drew|apply blk_alloc);exact BK159.out) hb);have n2_:=Aside0.mk (blk_below (g:=gb160) (o:=.cells #[.slice none 0 0,.slice none 0 0,.slice none 0 0,.slice none 0 0] 29 (0,0)) (by (with_reducible repeat first|apply blk_drewN|apply blk_drew|apply blk_alloc);exact BK160.out) hb);have n3_:=Aside0.mk (below_step (by repeat (first|(with_reducible first|exact HB.out|apply below_alloc|apply pw_below_drewN|apply below_drew1|refine below_set ?_ GE159.out|refine below_set ?_ GE160.out)|exact HB.out)) hb);clear BK159;clear BK160;clear HB;have HO164:=n0_;have BK159:=n1_;have BK160:=n2_;have HB:=n3_;clear n0_ n1_ n2_ n3_;(try clear hb);(try clear hb2);(try clear hk);(try clear hi);(try clear ho0))|((with_reducible refine gate_dst (N:=4) rfl ?_);refine box_event ?hg (N:=4) ?hd (cs:=#[.slice none 0 0,.int .i64 0,.bool false,.int .i64 0]) (t:=45) ?hr ?_;(case hd=>rfl);(case hg=>rfl);(case hr=>first|(go_simp;done)|(go_simp;rfl));intro gb168 hg w16 hbox hb;have n0_:=Aside0.mk (Kd.S_below (by (with_reducible repeat (first|apply Kd.S_alloc|apply Kd.S_drewN|apply Kd.S_drew));exact HO164.out) hb);have n1_:=Aside0.mk (blk_below (g:=gb159) (o:=.cells #[.slice A0_0 l0_0.length c0_0,.int .i64 a0_1,.bool a0_2,.int .i64 a0_3] 45 (0,0)) (by (with_reducible repeat first|apply blk_drewN|apply blk_drew|apply blk_alloc);exact BK159.out) hb);have n2_:=Aside0.mk (blk_below (g:=gb160) (o:=.cells #[.slice none 0 0,.slice none 0 0,.slice none 0 0,.slice none 0 0] 29 (0,0)) (by (with_reducible repeat first|apply blk_drewN|apply blk_drew|apply blk_alloc);exact BK160.out) hb);have n3_:=Aside0.mk (below_step (by repeat (first|(with_reducible first|exact HB.out|apply below_alloc|apply pw_below_drewN|apply below_drew1|refine below_set ?_ GE159.out|refine below_set ?_ GE160.out)|exact HB.out)) hb);have n4_:=Aside0.mk (hbox);have n5_:=Aside0.mk ((by rw [hg];exact (below_size (by repeat (first|(with_reducible first|exact HB.out|apply below_alloc|apply pw_below_drewN|apply below_drew1|refine below_set ?_ GE159.out|refine below_set ?_ GE160.out)|exact HB.out))) : w.heap.size ≤ gb168));have n6_:=Aside0.mk ((by rw [hg];exact (below_size (by repeat (first|(with_reducible first|exact HB.out|apply below_alloc|apply pw_below_drewN|apply below_drew1|refine below_set ?_ GE159.out|refine below_set ?_ GE160.out)|exact HB.out))) : w.heap.size ≤ gb168));have n7_:=Aside0.mk ((by rw [hg];exact Nat.ne_of_lt (blk_lt (g:=gb159) (o:=.cells #[.slice A0_0 l0_0.length c0_0,.int .i64 a0_1,.bool a0_2,.int .i64 a0_3] 45 (0,0)) (by (with_reducible repeat first|apply blk_drewN|apply blk_drew|apply blk_alloc);exact BK159.out)) : gb159 ≠ gb168));have n8_:=Aside0.mk ((by rw [hg];exact Nat.ne_of_gt (blk_lt (g:=gb159) (o:=.cells #[.slice A0_0 l0_0.length c0_0,.int .i64 a0_1,.bool a0_2,.int .i64 a0_3] 45 (0,0)) (by (with_reducible repeat first|apply blk_drewN|apply blk_drew|apply blk_alloc);exact BK159.out)) : gb168 ≠ gb159));have n9_:=Aside0.mk ((by rw [hg];exact Nat.ne_of_lt (blk_lt (g:=gb160) (o:=.cells #[.slice none 0 0,.slice none 0 0,.slice none 0 0,.slice none 0 0] 29 (0,0)) (by (with_reducible repeat first|apply blk_drewN|apply blk_drew|apply blk_alloc);exact BK160.out)) : gb160 ≠ gb168));have n10_:=Aside0.mk ((by rw [hg];exact Nat.ne_of_gt (blk_lt (g:=gb160) (o:=.cells #[.slice none 0 0,.slice none 0 0,.slice none 0 0,.slice none 0 0] 29 (0,0)) (by (with_reducible repeat first|apply blk_drewN|apply blk_drew|apply blk_alloc);exact BK160.out)) : gb168 ≠ gb160));clear HO164;clear BK159;clear BK160;clear HB;have HO164:=n0_;have BK159:=n1_;have BK160:=n2_;have HB:=n3_;have BK168:=n4_;have GW168:=n5_;have GE168:=n6_;have NB159_168:=n7_;have NB168_159:=n8_;have NB160_168:=n9_;have NB168_160:=n10_;clear n0_ n1_ n2_ n3_ n4_ n5_ n6_ n7_ n8_ n9_ n10_;clear hb hbox hg;obtain ⟨Ao17,co17,eo17⟩:=Kd.S_slice HO164.out;subst eo17;have hnb18:=NB168_159.out;have hnc18:=NB159_168.out;have hnb19:=NB168_160.out;have hnc19:=NB160_168.out;have hcz20_0 : w16.cell? ⟨gb168,0,none⟩ = some (.slice none 0 0):=(blk_cell BK168.out 0).trans rfl;have hcz20_1 : w16.cell? ⟨gb168,1,none⟩ = some (.int .i64 0):=(blk_cell BK168.out 1).trans rfl;have hcz20_2 : w16.cell? ⟨gb168,2,none⟩ = some (.bool false):=(blk_cell BK168.out 2).trans rfl;have hcz20_3 : w16.cell? ⟨gb168,3,none⟩ = some (.int .i64 0):=(blk_cell BK168.out 3).trans rfl;have hfz20_0:=blk_frozen BK168.out 0;have hfz20_1:=blk_frozen BK168.out 1;have hfz20_2:=blk_frozen BK168.out 2;have hfz20_3:=blk_frozen BK168.out 3))
     have n0_ : Aside0 (Kd.S (Kd.slice 5 (Kd.int .u8)) 23 ((((w16.setCell ⟨gb168,0,none⟩ (.slice Ao17 t162.length co17)).setCell ⟨gb168,1,none⟩ (.int .i64 t165)).setCell ⟨gb168,2,none⟩ (.bool t166)).setCell ⟨gb168,3,none⟩ (.int .i64 t167)) w.heap.size (fun _=>True) (.slice Ao17 t162.length co17) t162):=⟨by (with_reducible repeat (first|apply Kd.S_alloc|apply Kd.S_drewN|apply Kd.S_drew));exact Kd.S_mono (Kd.S_far (p:=⟨gb168,3,none⟩) (Kd.S_far (p:=⟨gb168,2,none⟩) (Kd.S_far (p:=⟨gb168,1,none⟩) (Kd.S_far (p:=⟨gb168,0,none⟩) (Kd.S_types HO164.out BK168.out (by decide)) (fun _ hk=>hk.2) (.slice Ao17 t162.length co17)) (fun _ hk=>hk.2) (.int .i64 t165)) (fun _ hk=>hk.2) (.bool t166)) (fun _ hk=>hk.2) (.int .i64 t167)) (fun _ hk=>trivial)⟩
     have n1_ : Aside0 (((((w16.setCell ⟨gb168,0,none⟩ (.slice Ao17 t162.length co17)).setCell ⟨gb168,1,none⟩ (.int .i64 t165)).setCell ⟨gb168,2,none⟩ (.bool t166)).setCell ⟨gb168,3,none⟩ (.int .i64 t167)).heap[gb159]? = some (.cells #[.slice A0_0 l0_0.length c0_0,.int .i64 a0_1,.bool a0_2,.int .i64 a0_3] 45 (0,0))):=⟨by (with_reducible repeat first|apply blk_drewN|apply blk_drew|apply blk_alloc);refine blk_far ?_ NB159_168.out _;(with_reducible repeat first|apply blk_drewN|apply blk_drew|apply blk_alloc);refine blk_far ?_ NB159_168.out _;(with_reducible repeat first|apply blk_drewN|apply blk_drew|apply blk_alloc);refine blk_far ?_ NB159_168.out _;(with_reducible repeat first|apply blk_drewN|apply blk_drew|apply blk_alloc);refine blk_far ?_ NB159_168.out _;(with_reducible repeat first|apply blk_drewN|apply blk_drew|apply blk_alloc);exact BK159.out⟩
     have n2_ : Aside0 (((((w16.setCell ⟨gb168,0,none⟩ (.slice Ao17 t162.length co17)).setCell ⟨gb168,1,none⟩ (.int .i64 t165)).setCell ⟨gb168,2,none⟩ (.bool t166)).setCell ⟨gb168,3,none⟩ (.int .i64 t167)).heap[gb160]? = some (.cells #[.slice none 0 0,.slice none 0 0,.slice none 0 0,.slice none 0 0] 29 (0,0))):=⟨by (with_reducible repeat first|apply blk_drewN|apply blk_drew|apply blk_alloc);refine blk_far ?_ NB160_168.out _;(with_reducible repeat first|apply blk_drewN|apply blk_drew|apply blk_alloc);refine blk_far ?_ NB160_168.out _;(with_reducible repeat first|apply blk_drewN|apply blk_drew|apply blk_alloc);refine blk_far ?_ NB160_168.out _;(with_reducible repeat first|apply blk_drewN|apply blk_drew|apply blk_alloc);refine blk_far ?_ NB160_168.out _;(with_reducible repeat first|apply blk_drewN|apply blk_drew|apply blk_alloc);exact BK160.out⟩
     have n3_ : Aside0 (((((w16.setCell ⟨gb168,0,none⟩ (.slice Ao17 t162.length co17)).setCell ⟨gb168,1,none⟩ (.int .i64 t165)).setCell ⟨gb168,2,none⟩ (.bool t166)).setCell ⟨gb168,3,none⟩ (.int .i64 t167)).heap[gb168]? = some (.cells #[.slice Ao17 t162.length co17,.int .i64 t165,.bool t166,.int .i64 t167] 45 (0,0))):=⟨by (with_reducible repeat first|apply blk_drewN|apply blk_drew|apply blk_alloc);refine blk_put (cs:=#[.slice Ao17 t162.length co17,.int .i64 t165,.bool t166,.int .i64 0]) ?_ 3 _ rfl;(with_reducible repeat first|apply blk_drewN|apply blk_drew|apply blk_alloc);refine blk_put (cs:=#[.slice Ao17 t162.length co17,.int .i64 t165,.bool false,.int .i64 0]) ?_ 2 _ rfl;(with_reducible repeat first|apply blk_drewN|apply blk_drew|apply blk_alloc);refine blk_put (cs:=#[.slice Ao17 t162.length co17,.int .i64 0,.bool false,.int .i64 0]) ?_ 1 _ rfl;(with_reducible repeat first|apply blk_drewN|apply blk_drew|apply blk_alloc);refine blk_put (cs:=#[.slice none 0 0,.int .i64 0,.bool false,.int .i64 0]) ?_ 0 _ rfl;(with_reducible repeat first|apply blk_drewN|apply blk_drew|apply blk_alloc);exact BK168.out⟩
     have n4_ : Aside0 (Below w.heap.size w ((((w16.setCell ⟨gb168,0,none⟩ (.slice Ao17 t162.length co17)).setCell ⟨gb168,1,none⟩ (.int .i64 t165)).setCell ⟨gb168,2,none⟩ (.bool t166)).setCell ⟨gb168,3,none⟩ (.int .i64 t167))):=⟨by repeat (first|(with_reducible first|exact HB.out|apply below_alloc|apply pw_below_drewN|apply below_drew1|refine below_set ?_ GE159.out|refine below_set ?_ GE160.out|refine below_set ?_ GE168.out)|exact HB.out)⟩
     (try clear HO164)
     (try clear BK159)
     (try clear BK160)
     (try clear BK168)
     (try clear HB)
     generalize ((((w16.setCell ⟨gb168,0,none⟩ (.slice Ao17 t162.length co17)).setCell ⟨gb168,1,none⟩ (.int .i64 t165)).setCell ⟨gb168,2,none⟩ (.bool t166)).setCell ⟨gb168,3,none⟩ (.int .i64 t167)) = w21 at n0_ n1_ n2_ n3_ n4_ ⊢
     have HO164:=n0_
     have BK159:=n1_
     have BK160:=n2_
     have BK168:=n3_
     have HB:=n4_
     clear n0_ n1_ n2_ n3_ n4_
     have n0_:=Aside0.mk (Kd.S_drew HO164.out)
     have n1_:=Aside0.mk (blk_drew BK159.out)
     have n2_:=Aside0.mk (blk_drew BK160.out)
     have n3_:=Aside0.mk (blk_drew BK168.out)
     have n4_:=Aside0.mk (below_drew1 HB.out)
     clear HO164
     clear BK159
     clear BK160
     clear BK168
     clear HB
     have HO164:=n0_
     have BK159:=n1_
     have BK160:=n2_
     have BK168:=n3_
     have HB:=n4_
     clear n0_ n1_ n2_ n3_ n4_
     have p172 : 0 ≤ (1 : Int):=(by omega)
     have q172 : 1 < (t162.length : Int):=of_decide_eq_true (by assumption)
     obtain ⟨ad172,A172_0,c172_0,e172,hx172_0,hl172_0,hi172_0⟩:=at_L2 (Kd.S_reads' HO164.out).2.2 1 p172 q172
     cases e172
     obtain ⟨ce172,hce172,hMe172,hcc172⟩:=Kd.S_get HO164.out [] 1 p172 (by first|exact q172|exact of_decide_eq_true (by assumption)|(have e_:=(Kd.S_reads' HO164.out).1;omega))
     obtain ⟨ve172_0,rfl,ge172_0⟩:=hMe172
     have hv172_0:=hcc172 0 _ rfl
     rw [Nat.add_zero,show ((Kd.slice 5 (Kd.int .u8))).sz = 1 from rfl,Nat.mul_one] at hv172_0
     replace hv172_0:=Option.some.inj (hv172_0.symm.trans hx172_0)
     rw [hv172_0] at ge172_0
     have HL172_0:=Aside0.mk (show Kd.R (Kd.int .u8) 5 _ _ _ _ (rd_L2 t162 1) from ge172_0)
     clear hv172_0 ge172_0
     clear hcc172 hce172
     (try simp only [show (1 : Int).toNat = 1 from rfl,Nat.reduceMul,Nat.reduceEqDiff,Go.Addr.add,↓reduceIte] at hx172_0)
     have qi172 : (1 < t162.length) = True:=eq_true (by omega)
     (try rw [show ((1 : Int)).toNat = 1 from rfl] at hx172_0)
     have HR172_0:=Aside0.mk hi172_0
     have HC172_0:=Aside0.mk hl172_0
     clear hi172_0 hl172_0
     replace p172:=eq_true p172
     replace q172:=eq_true q172
     have q23 : (20 : Int) ≤ (((rd_L2 t162 1).length : Int) : Int):=of_decide_eq_true (by assumption)
     obtain ⟨i023,hi023,_,hsz23,_⟩:=info_parts info5
     have hroom23 : (rd_L2 t162 1).length ≤ c172_0:=HC172_0.out
     have hC23 : Kd.C (Kd.int .u8) _ A172_0 (rd_L2 t162 1).length (rd_L2 t162 1):=(by repeat (first|(with_reducible exact HR172_0.out)|(with_reducible first|apply Kd.C_alloc|apply Kd.C_drewN|apply Kd.C_drew)|exact HR172_0.out))
     have hcut23:=cut_to (P:=Try.prog) 23 5 .i64 Try.underlying23 hi023 A172_0 (rd_L2 t162 1).length c172_0 20 (by omega) q23 hroom23
     have hr23:=Kd.C_take (m:=20) hC23 (by omega)
     have hy23 : y173.length = (20 : Int).toNat:=(by rw [Ny173.out,List.length_take];omega)
     rw [← Ny173.out] at hr23
     rw [← hy23] at hcut23
     have HR176:=Aside0.mk hr23
     have HC176:=Aside0.mk (show y173.length ≤ c172_0 from by omega)
     clear hr23 hC23 hroom23 hi023 hsz23
     have KY23:=Aside0.mk hy23
     clear hy23
     replace q23:=eq_true q23
     refine start_ (n:=12) (S:=fun w'=>w'.cell? ⟨gb168,0,none⟩ = some (.slice (some ad172) t162.length co17)∧w'.cell? ⟨gb168,1,none⟩ = some (.int .i64 t165)∧w'.cell? ⟨gb168,2,none⟩ = some (.bool t166)∧w'.cell? ⟨gb168,3,none⟩ = some (.int .i64 t167)∧w'.cell? ⟨ad172.block,ad172.off + 1,none⟩ = some (.slice A172_0 (rd_L2 t162 1).length c172_0)) (ds:=[]) #[false,false,false,false,false,false,false,false,false,false,false,false] (by kernel_rfl) rfl rfl ⟨(blk_cell BK168.out 0).trans rfl,(blk_cell BK168.out 1).trans rfl,(blk_cell BK168.out 2).trans rfl,(blk_cell BK168.out 3).trans rfl,hx172_0⟩ (fun hHeld=>?_);refine with_tabW spec_OpenSpace.tab4 spec_OpenSpace.bits4 (fun HT_ HW_=>?_)
     generalize w21.drew = w22 at HO164 BK159 BK160 BK168 HB HL172_0 HR172_0 HR176 hx172_0 hHeld ⊢
     refine pure_ (i:=0) (N:=some 14) (v:=?_) (a':=?_) #[true,false,false,false,false,false,false,false,false,false,false,false] rfl rfl (any_of HT_.out (by kernel_rfl)) (fun _ _ _ h=>h) (Or.inl ⟨by rfl,?_⟩) ?_ ?_
     rotate_left
     ·intro w'
      go_simp
      with_reducible rfl
     rotate_left
     ·simp only [Act.put,List.setIfInBounds_toArray,List.set_cons_zero,List.set_cons_succ,i64_w,i32_w]
      rfl
     refine pure_ (i:=3) (N:=some 17) (v:=?_) (a':=?_) #[true,false,false,true,false,false,false,false,false,false,false,false] rfl rfl (any_of HT_.out (by kernel_rfl)) (fun _ _ _ h=>h) (Or.inl ⟨by rfl,?_⟩) ?_ ?_
     rotate_left
     ·intro w'
      go_simp
      with_reducible rfl
     rotate_left
     ·simp only [Act.put,List.setIfInBounds_toArray,List.set_cons_zero,List.set_cons_succ,i64_w,i32_w]
      rfl
     refine take_ (i:=1) (N:=some 15) (v:=?_) (a':=?_) #[true,true,false,true,false,false,false,false,false,false,false,false] rfl rfl (take_ofW HT_.out HW_.out (by kernel_rfl)) (fun _ _ _ h=>h) (Or.inl ⟨by rfl,?_⟩) hHeld ?_ ?_
     rotate_left
     ·rintro w' ⟨s0,s1,s2,s3,s4⟩
      go_simp
      with_reducible rfl
     rotate_left
     ·simp only [Act.put,List.setIfInBounds_toArray,List.set_cons_zero,List.set_cons_succ,i64_w,i32_w]
      rfl
     refine take_ (i:=4) (N:=some 18) (v:=?_) (a':=?_) #[true,true,false,true,true,false,false,false,false,false,false,false] rfl rfl (take_ofW HT_.out HW_.out (by kernel_rfl)) (fun _ _ _ h=>h) (Or.inl ⟨by rfl,?_⟩) hHeld ?_ ?_
     rotate_left
     ·rintro w' ⟨s0,s1,s2,s3,s4⟩
      go_simp
      with_reducible rfl
     rotate_left
     ·simp only [Act.put,List.setIfInBounds_toArray,List.set_cons_zero,List.set_cons_succ,i64_w,i32_w]
      rfl
     refine pure_ (i:=5) (N:=some 19) (v:=?_) (a':=?_) #[true,true,false,true,true,true,false,false,false,false,false,false] rfl rfl (any_of HT_.out (by kernel_rfl)) (fun _ _ _ h=>h) (Or.inl ⟨by rfl,?_⟩) ?_ ?_
     rotate_left
     ·intro w'
      go_simp
      with_reducible rfl
     rotate_left
     ·simp only [Act.put,List.setIfInBounds_toArray,List.set_cons_zero,List.set_cons_succ,i64_w,i32_w]
      rfl
     refine take_ (i:=6) (N:=some 20) (v:=?_) (a':=?_) #[true,true,false,true,true,true,true,false,false,false,false,false] rfl rfl (take_ofW HT_.out HW_.out (by kernel_rfl)) (fun _ _ _ h=>h) (Or.inl ⟨by rfl,?_⟩) hHeld ?_ ?_
     rotate_left
     ·rintro w' ⟨s0,s1,s2,s3,s4⟩
      go_simp
      with_reducible rfl
     rotate_left
     ·simp only [Act.put,List.setIfInBounds_toArray,List.set_cons_zero,List.set_cons_succ,i64_w,i32_w]
      rfl
     refine pure_ (i:=7) (N:=some 21) (v:=?_) (a':=?_) #[true,true,false,true,true,true,true,true,false,false,false,false] rfl rfl (any_of HT_.out (by kernel_rfl)) (fun _ _ _ h=>h) (Or.inl ⟨by rfl,?_⟩) ?_ ?_
     rotate_left
     ·intro w'
      go_simp
      with_reducible rfl
     rotate_left
     ·simp only [Act.put,List.setIfInBounds_toArray,List.set_cons_zero,List.set_cons_succ,i64_w,i32_w]
      rfl
     refine join_ (σ:=Value × Value × Nat) 1 #[true,true,true,true,true,true,true,true,true,true,true,false] (fun s_=>[(16,s_.1),(22,s_.2.1),(5,.pointer (some ⟨s_.2.2,0,none⟩)),(23,.agg #[.slice (some ad172) t162.length co17,s_.2.1,.slice none 0 0,.slice none 0 0])]) (fun s_ w'=>(w'.cell? ⟨gb168,0,none⟩ = some (.slice (some ad172) t162.length co17)∧w'.cell? ⟨gb168,1,none⟩ = some (.int .i64 t165)∧w'.cell? ⟨gb168,2,none⟩ = some (.bool t166)∧w'.cell? ⟨gb168,3,none⟩ = some (.int .i64 t167)∧w'.cell? ⟨ad172.block,ad172.off + 1,none⟩ = some (.slice A172_0 (rd_L2 t162 1).length c172_0))∧(Kd.R (Kd.int .u8) 5 w' w.heap.size (fun k_=>some k_ ≠ (.slice (some ad172) t162.length co17 : Value).ownBlock∧some k_ ≠ (s_.2.1 : Value).ownBlock) (.slice A172_0 (rd_L2 t162 1).length c172_0) (rd_L2 t162 1))∧(Kd.S (Kd.slice 5 (Kd.int .u8)) 23 w' w.heap.size (fun k_=>some k_ ≠ (s_.2.1 : Value).ownBlock) (.slice (some ad172) t162.length co17) t162)∧(Kd.R (Kd.int .u8) 5 w' w.heap.size (fun k_=>some k_ ≠ (.slice A172_0 (rd_L2 t162 1).length c172_0 : Value).ownBlock) s_.2.1 y177)∧(w'.heap[gb159]? = some (.cells #[.slice A0_0 l0_0.length c0_0,.int .i64 a0_1,.bool a0_2,.int .i64 a0_3] 45 (0,0)))∧(w'.heap[gb160]? = some (.cells #[.slice none 0 0,.slice none 0 0,.slice none 0 0,.slice none 0 0] 29 (0,0)))∧(w'.heap[gb168]? = some (.cells #[.slice (some ad172) t162.length co17,.int .i64 t165,.bool t166,.int .i64 t167] 45 (0,0)))∧(w'.heap[s_.2.2]? = some (.cells #[.slice none 0 0,.slice none 0 0,.slice none 0 0,.slice none 0 0] 29 (0,0)))∧(w.heap.size ≤ s_.2.2)∧(w.heap.size ≤ s_.2.2)∧(gb159 ≠ s_.2.2)∧(s_.2.2 ≠ gb159)∧(gb160 ≠ s_.2.2)∧(s_.2.2 ≠ gb160)∧(gb168 ≠ s_.2.2)∧(s_.2.2 ≠ gb168)∧(Below w.heap.size w w')) ?_ ?_
     rotate_left
     ·intro hCont
      refine two_ (i:=2) (j:=10) (Ni:=some 16) (Nj:=some 5) #[true,true,true,true,true,true,true,true,false,false,false,false] #[true,true,false,true,true,true,true,true,false,false,true,false] rfl rfl rfl rfl (two_of HT_.out (by kernel_rfl)) (by decide) (by decide) (fun K hK=>?_) (fun K hK=>?_)
      ·skip
       refine Kd.R_lit_step (Kd.int .u8) _ 5 ?hg (N:=16) ?hd (xs:=([] : List Int)) (inner:=[]) (ok:=fun _=>True) (okp:=fun _=>True) ?hr ?hp (fun _ hk=>hk) trivial (Below.refl _ _) (Nat.le_refl _) (by simp) ?_;(case hd=>rfl);(case hg=>rfl);(case hr=>first|(go_simp;done)|(go_simp;rfl));(case hp=>exact (Reps.none _ _))
       intro v170 w24 ho25 hb hg_ hnew_
       have HS4_:=(hb.cell (World.block_lt_of_cell? _ _ (hHeld.2.2.2.2))).trans (hHeld.2.2.2.2)
       clear hg_ hnew_
       (first|rw [← Ny169.out] at ho25|(simp only [Int.reduceToNat] at ho25;rw [← Ny169.out] at ho25))
       have n0_:=Aside0.mk (Kd.S_elder' (by (with_reducible repeat (first|apply Kd.S_alloc|apply Kd.S_drewN|apply Kd.S_drew));exact HO164.out) (Kd.R_base ho25) hb)
       have n1_:=Aside0.mk (Kd.R_elder' (by (with_reducible repeat (first|apply Kd.R_alloc|apply Kd.R_drewN|apply Kd.R_drew));exact HL172_0.out) (Kd.R_base ho25) hb)
       have n2_:=Aside0.mk (Kd.R_lower (Kd.R_new' ho25 (Kd.R_lt (by (with_reducible repeat (first|apply Kd.R_alloc|apply Kd.R_drewN|apply Kd.R_drew));exact HL172_0.out))) (below_size (by repeat (first|(with_reducible first|exact HB.out|apply below_alloc|apply pw_below_drewN|apply below_drew1|refine below_set ?_ GE159.out|refine below_set ?_ GE160.out|refine below_set ?_ GE168.out)|exact HB.out))))
       have n3_:=Aside0.mk (blk_below (g:=gb159) (o:=.cells #[.slice A0_0 l0_0.length c0_0,.int .i64 a0_1,.bool a0_2,.int .i64 a0_3] 45 (0,0)) (by (with_reducible repeat first|apply blk_drewN|apply blk_drew|apply blk_alloc);exact BK159.out) hb)
       have n4_:=Aside0.mk (blk_below (g:=gb160) (o:=.cells #[.slice none 0 0,.slice none 0 0,.slice none 0 0,.slice none 0 0] 29 (0,0)) (by (with_reducible repeat first|apply blk_drewN|apply blk_drew|apply blk_alloc);exact BK160.out) hb)
       have n5_:=Aside0.mk (blk_below (g:=gb168) (o:=.cells #[.slice (some ad172) t162.length co17,.int .i64 t165,.bool t166,.int .i64 t167] 45 (0,0)) (by (with_reducible repeat first|apply blk_drewN|apply blk_drew|apply blk_alloc);exact BK168.out) hb)
       have n6_:=Aside0.mk (Kd.C_below (by repeat (first|(with_reducible exact HR172_0.out)|(with_reducible first|apply Kd.C_alloc|apply Kd.C_drewN|apply Kd.C_drew)|exact HR172_0.out)) hb)
       have n7_:=Aside0.mk (Kd.C_below (by repeat (first|(with_reducible exact HR176.out)|(with_reducible first|apply Kd.C_alloc|apply Kd.C_drewN|apply Kd.C_drew)|exact HR176.out)) hb)
       have n8_:=Aside0.mk (below_step (by repeat (first|(with_reducible first|exact HB.out|apply below_alloc|apply pw_below_drewN|apply below_drew1|refine below_set ?_ GE159.out|refine below_set ?_ GE160.out|refine below_set ?_ GE168.out)|exact HB.out)) hb)
       clear HO164
       clear HL172_0
       clear BK159
       clear BK160
       clear BK168
       clear HR172_0
       clear HR176
       clear HB
       have HO164:=n0_
       have HL172_0:=n1_
       have HO171:=n2_
       have BK159:=n3_
       have BK160:=n4_
       have BK168:=n5_
       have HR172_0:=n6_
       have HR176:=n7_
       have HB:=n8_
       clear n0_ n1_ n2_ n3_ n4_ n5_ n6_ n7_ n8_
       clear hb ho25
       refine hK.out _ _ ⟨(blk_cell BK168.out 0).trans rfl,(blk_cell BK168.out 1).trans rfl,(blk_cell BK168.out 2).trans rfl,(blk_cell BK168.out 3).trans rfl,HS4_⟩ (fun hHeld=>?_)
       clear hK K
       refine norm_ (a':=?_) ?_ ?_
       rotate_left
       ·show Act.put _ (some 16) _ = _
        simp only [Act.put,List.setIfInBounds_toArray,List.set_cons_zero,List.set_cons_succ,i64_w,i32_w]
        rfl
       refine two_ (i:=8) (j:=10) (Ni:=some 22) (Nj:=some 5) #[true,true,true,true,true,true,true,true,true,false,false,false] #[true,true,true,true,true,true,true,true,false,false,true,false] rfl rfl rfl rfl (two_of HT_.out (by kernel_rfl)) (by decide) (by decide) (fun K hK=>?_) (fun K hK=>?_)
       ·skip
        refine Kd.R_append_rows_step (Kd.int .u8) (w0:=w) w.heap.size (by rfl) (.tmp 16) (.tmp 21) 23 5 (.int .u8 0) 1 rfl Try.underlying23 info5 rfl (by decide) (by omega) v170 y169 y173 _ _ _ (fun k_=>some k_ ≠ (.slice A172_0 (rd_L2 t162 1).length c172_0 : Value).ownBlock) (fun _=>False) rfl rfl ?aO ?aR (fun _ _ h=>h) (fun _ h=>h.elim) ?aF ?aB ?aS ?aL ?_
        (case aR=>repeat (first|exact (by repeat (first|(with_reducible exact HR176.out)|(with_reducible first|apply Kd.C_alloc|apply Kd.C_drewN|apply Kd.C_drew)|exact HR176.out))|(with_reducible first|apply Kd.C_alloc|apply Kd.C_drewN|apply Kd.C_drew)))
        (case aB=>exact (by repeat (first|(with_reducible first|exact HB.out|apply below_alloc|apply pw_below_drewN|apply below_drew1|refine below_set ?_ GE159.out|refine below_set ?_ GE160.out|refine below_set ?_ GE168.out)|exact HB.out)))
        (case aF=>exact (fun k_ hk=>Kd.fresh' (Kd.R_lt (by (with_reducible repeat (first|apply Kd.R_alloc|apply Kd.R_drewN|apply Kd.R_drew));exact HL172_0.out)) k_ hk))
        (case aO=>exact (by (with_reducible repeat (first|apply Kd.R_alloc|apply Kd.R_drewN|apply Kd.R_drew));exact Kd.R_mono HO171.out (fun _ hk=>hk.2)))
        (case aS=>exact (below_size (by repeat (first|(with_reducible first|exact HB.out|apply below_alloc|apply pw_below_drewN|apply below_drew1|refine below_set ?_ GE159.out|refine below_set ?_ GE160.out|refine below_set ?_ GE168.out)|exact HB.out))))
        (case aL=>have:=LMc7.out;omega)
        intro v178 w26 ho hb hg hat
        (first|have HS4_:=cell_grown hg (hHeld.2.2.2.2) (by first|(rw [add_block];exact ((Kd.S_R HO164.out).1 _ rfl).2)|(show some (Addr.add _ _).block ≠ _;rw [add_block];exact ((Kd.S_R HO164.out).1 _ rfl).2)|exact ((Kd.S_R HO164.out).1 _ rfl).2)|have HS4_:=cell_grown hg (cell_unalloc (hHeld.2.2.2.2) (by first|(rw [add_block];exact (Kd.R_lt (Kd.S_R HO164.out) _ rfl))|(show (Addr.add _ _).block < _;rw [add_block];exact (Kd.R_lt (Kd.S_R HO164.out) _ rfl))|exact (Kd.R_lt (Kd.S_R HO164.out) _ rfl))) (by first|(rw [add_block];exact ((Kd.S_R HO164.out).1 _ rfl).2)|(show some (Addr.add _ _).block ≠ _;rw [add_block];exact ((Kd.S_R HO164.out).1 _ rfl).2)|exact ((Kd.S_R HO164.out).1 _ rfl).2))
        rw [← Ny177.out] at ho
        have n0_:=Aside0.mk (blk_grown (g:=gb159) (o:=.cells #[.slice A0_0 l0_0.length c0_0,.int .i64 a0_1,.bool a0_2,.int .i64 a0_3] 45 (0,0)) (by (with_reducible repeat first|apply blk_drewN|apply blk_drew|apply blk_alloc);exact BK159.out) hg (Kd.R_ne HO171.out BK159.out (by decide)))
        have n1_:=Aside0.mk (blk_grown (g:=gb160) (o:=.cells #[.slice none 0 0,.slice none 0 0,.slice none 0 0,.slice none 0 0] 29 (0,0)) (by (with_reducible repeat first|apply blk_drewN|apply blk_drew|apply blk_alloc);exact BK160.out) hg (Kd.R_ne HO171.out BK160.out (by decide)))
        have n2_:=Aside0.mk (Kd.S_after (ok:=(fun _=>True)) (by (with_reducible repeat (first|apply Kd.S_alloc|apply Kd.S_drewN|apply Kd.S_drew));exact HO164.out) hg hat)
        have n3_:=Aside0.mk (blk_grown (g:=gb168) (o:=.cells #[.slice (some ad172) t162.length co17,.int .i64 t165,.bool t166,.int .i64 t167] 45 (0,0)) (by (with_reducible repeat first|apply blk_drewN|apply blk_drew|apply blk_alloc);exact BK168.out) hg (Kd.R_ne HO171.out BK168.out (by decide)))
        have n4_:=Aside0.mk (Kd.R_after (ok:=(fun k_=>some k_ ≠ (.slice (some ad172) t162.length co17 : Value).ownBlock)) (by (with_reducible repeat (first|apply Kd.R_alloc|apply Kd.R_drewN|apply Kd.R_drew));exact Kd.R_mono HL172_0.out (fun _ hk=>⟨hk.1.2,hk.2⟩)) hg hat)
        have n5_:=Aside0.mk (hb)
        have n6_:=Aside0.mk (ho)
        clear BK159
        clear BK160
        clear HO164
        clear BK168
        clear HL172_0
        clear HB
        clear HO171
        have BK159:=n0_
        have BK160:=n1_
        have HO164:=n2_
        have BK168:=n3_
        have HL172_0:=n4_
        have HB:=n5_
        have HO179:=n6_
        clear n0_ n1_ n2_ n3_ n4_ n5_ n6_
        clear ho hb hg hat
        obtain ⟨Ao27,co27,eo27⟩:=Kd.R_slice HO179.out
        (first|subst eo27|(injection eo27 with f1_ f2_ f3_;have f4_:=f1_.symm;have f5_:=f3_.symm;clear f1_ f2_ f3_;subst f4_;subst f5_))
        refine hK.out _ _ ⟨(blk_cell BK168.out 0).trans rfl,(blk_cell BK168.out 1).trans rfl,(blk_cell BK168.out 2).trans rfl,(blk_cell BK168.out 3).trans rfl,HS4_⟩ (fun hHeld=>?_)
        clear hK K
        refine norm_ (a':=?_) ?_ ?_
        rotate_left
        ·show Act.put _ (some 22) _ = _
         simp only [Act.put,List.setIfInBounds_toArray,List.set_cons_zero,List.set_cons_succ,i64_w,i32_w]
         rfl
        refine pure_ (i:=9) (N:=some 23) (v:=?_) (a':=?_) #[true,true,true,true,true,true,true,true,true,true,false,false] rfl rfl (any_of HT_.out (by kernel_rfl)) (fun _ _ _ h=>h) (Or.inl ⟨by rfl,?_⟩) ?_ ?_
        rotate_left
        ·intro w'
         go_simp
         with_reducible rfl
        rotate_left
        ·simp only [Act.put,List.setIfInBounds_toArray,List.set_cons_zero,List.set_cons_succ,i64_w,i32_w]
         rfl
        refine one_ (i:=10) (N:=some 5) #[true,true,true,true,true,true,true,true,true,true,true,false] rfl rfl (one_of HT_.out (by kernel_rfl)) (by decide) (fun K hK=>?_)
        refine box_step ?hg (N:=5) ?hd (cs:=#[.slice none 0 0,.slice none 0 0,.slice none 0 0,.slice none 0 0]) (t:=29) ?hr ?_;(case hd=>rfl);(case hg=>rfl);(case hr=>first|(go_simp;done)|(go_simp;rfl))
        intro gb180 hg w28 hbox hb
        have HS4_:=(hb.cell (World.block_lt_of_cell? _ _ (hHeld.2.2.2.2))).trans (hHeld.2.2.2.2)
        have n0_:=Aside0.mk (Kd.S_below (by (with_reducible repeat (first|apply Kd.S_alloc|apply Kd.S_drewN|apply Kd.S_drew));exact HO164.out) hb)
        have n1_:=Aside0.mk (Kd.R_below (by (with_reducible repeat (first|apply Kd.R_alloc|apply Kd.R_drewN|apply Kd.R_drew));exact HL172_0.out) hb)
        have n2_:=Aside0.mk (Kd.R_below (by (with_reducible repeat (first|apply Kd.R_alloc|apply Kd.R_drewN|apply Kd.R_drew));exact HO179.out) hb)
        have n3_:=Aside0.mk (blk_below (g:=gb159) (o:=.cells #[.slice A0_0 l0_0.length c0_0,.int .i64 a0_1,.bool a0_2,.int .i64 a0_3] 45 (0,0)) (by (with_reducible repeat first|apply blk_drewN|apply blk_drew|apply blk_alloc);exact BK159.out) hb)
        have n4_:=Aside0.mk (blk_below (g:=gb160) (o:=.cells #[.slice none 0 0,.slice none 0 0,.slice none 0 0,.slice none 0 0] 29 (0,0)) (by (with_reducible repeat first|apply blk_drewN|apply blk_drew|apply blk_alloc);exact BK160.out) hb)
        have n5_:=Aside0.mk (blk_below (g:=gb168) (o:=.cells #[.slice (some ad172) t162.length co17,.int .i64 t165,.bool t166,.int .i64 t167] 45 (0,0)) (by (with_reducible repeat first|apply blk_drewN|apply blk_drew|apply blk_alloc);exact BK168.out) hb)
        have n6_:=Aside0.mk (below_step (by repeat (first|(with_reducible first|exact HB.out|apply below_alloc|apply pw_below_drewN|apply below_drew1|refine below_set ?_ GE159.out|refine below_set ?_ GE160.out|refine below_set ?_ GE168.out)|exact HB.out)) hb)
        have n7_:=Aside0.mk (hbox)
        have n8_:=Aside0.mk ((by rw [hg];exact (below_size (by repeat (first|(with_reducible first|exact HB.out|apply below_alloc|apply pw_below_drewN|apply below_drew1|refine below_set ?_ GE159.out|refine below_set ?_ GE160.out|refine below_set ?_ GE168.out)|exact HB.out))) : w.heap.size ≤ gb180))
        have n9_:=Aside0.mk ((by rw [hg];exact (below_size (by repeat (first|(with_reducible first|exact HB.out|apply below_alloc|apply pw_below_drewN|apply below_drew1|refine below_set ?_ GE159.out|refine below_set ?_ GE160.out|refine below_set ?_ GE168.out)|exact HB.out))) : w.heap.size ≤ gb180))
        have n10_:=Aside0.mk ((by rw [hg];exact Nat.ne_of_lt (blk_lt (g:=gb159) (o:=.cells #[.slice A0_0 l0_0.length c0_0,.int .i64 a0_1,.bool a0_2,.int .i64 a0_3] 45 (0,0)) (by (with_reducible repeat first|apply blk_drewN|apply blk_drew|apply blk_alloc);exact BK159.out)) : gb159 ≠ gb180))
        have n11_:=Aside0.mk ((by rw [hg];exact Nat.ne_of_gt (blk_lt (g:=gb159) (o:=.cells #[.slice A0_0 l0_0.length c0_0,.int .i64 a0_1,.bool a0_2,.int .i64 a0_3] 45 (0,0)) (by (with_reducible repeat first|apply blk_drewN|apply blk_drew|apply blk_alloc);exact BK159.out)) : gb180 ≠ gb159))
        have n12_:=Aside0.mk ((by rw [hg];exact Nat.ne_of_lt (blk_lt (g:=gb160) (o:=.cells #[.slice none 0 0,.slice none 0 0,.slice none 0 0,.slice none 0 0] 29 (0,0)) (by (with_reducible repeat first|apply blk_drewN|apply blk_drew|apply blk_alloc);exact BK160.out)) : gb160 ≠ gb180))
        have n13_:=Aside0.mk ((by rw [hg];exact Nat.ne_of_gt (blk_lt (g:=gb160) (o:=.cells #[.slice none 0 0,.slice none 0 0,.slice none 0 0,.slice none 0 0] 29 (0,0)) (by (with_reducible repeat first|apply blk_drewN|apply blk_drew|apply blk_alloc);exact BK160.out)) : gb180 ≠ gb160))
        have n14_:=Aside0.mk ((by rw [hg];exact Nat.ne_of_lt (blk_lt (g:=gb168) (o:=.cells #[.slice (some ad172) t162.length co17,.int .i64 t165,.bool t166,.int .i64 t167] 45 (0,0)) (by (with_reducible repeat first|apply blk_drewN|apply blk_drew|apply blk_alloc);exact BK168.out)) : gb168 ≠ gb180))
        have n15_:=Aside0.mk ((by rw [hg];exact Nat.ne_of_gt (blk_lt (g:=gb168) (o:=.cells #[.slice (some ad172) t162.length co17,.int .i64 t165,.bool t166,.int .i64 t167] 45 (0,0)) (by (with_reducible repeat first|apply blk_drewN|apply blk_drew|apply blk_alloc);exact BK168.out)) : gb180 ≠ gb168))
        clear HO164
        clear HL172_0
        clear HO179
        clear BK159
        clear BK160
        clear BK168
        clear HB
        have HO164:=n0_
        have HL172_0:=n1_
        have HO179:=n2_
        have BK159:=n3_
        have BK160:=n4_
        have BK168:=n5_
        have HB:=n6_
        have BK180:=n7_
        have GW180:=n8_
        have GE180:=n9_
        have NB159_180:=n10_
        have NB180_159:=n11_
        have NB160_180:=n12_
        have NB180_160:=n13_
        have NB168_180:=n14_
        have NB180_168:=n15_
        clear n0_ n1_ n2_ n3_ n4_ n5_ n6_ n7_ n8_ n9_ n10_ n11_ n12_ n13_ n14_ n15_
        clear hb hbox hg
        refine hK.out _ _ ⟨(blk_cell BK168.out 0).trans rfl,(blk_cell BK168.out 1).trans rfl,(blk_cell BK168.out 2).trans rfl,(blk_cell BK168.out 3).trans rfl,HS4_⟩ (fun hHeld=>?_)
        clear hK K
        refine norm_ (a':=?_) ?_ ?_
        rotate_left
        ·show Act.put _ (some 5) _ = _
         simp only [Act.put,List.setIfInBounds_toArray,List.set_cons_zero,List.set_cons_succ,i64_w,i32_w]
         rfl
        exact norm_ (by simp only [putAll,Act.put,List.setIfInBounds_toArray,List.set_cons_zero,List.set_cons_succ]) (hCont (v170,.slice Ao27 y177.length co27,gb180) _ ⟨hHeld,(by (with_reducible repeat (first|apply Kd.R_alloc|apply Kd.R_drewN|apply Kd.R_drew));exact HL172_0.out),(by (with_reducible repeat (first|apply Kd.S_alloc|apply Kd.S_drewN|apply Kd.S_drew));exact Kd.S_mono HO164.out (fun _ hk=>hk.2)),(by (with_reducible repeat (first|apply Kd.R_alloc|apply Kd.R_drewN|apply Kd.R_drew));exact HO179.out),(by (with_reducible repeat first|apply blk_drewN|apply blk_drew|apply blk_alloc);exact BK159.out),(by (with_reducible repeat first|apply blk_drewN|apply blk_drew|apply blk_alloc);exact BK160.out),(by (with_reducible repeat first|apply blk_drewN|apply blk_drew|apply blk_alloc);exact BK168.out),(by (with_reducible repeat first|apply blk_drewN|apply blk_drew|apply blk_alloc);exact BK180.out),GW180.out,GE180.out,NB159_180.out,NB180_159.out,NB160_180.out,NB180_160.out,NB168_180.out,NB180_168.out,(by repeat (first|(with_reducible first|exact HB.out|apply below_alloc|apply pw_below_drewN|apply below_drew1|refine below_set ?_ GE159.out|refine below_set ?_ GE160.out|refine below_set ?_ GE168.out|refine below_set ?_ GE180.out)|exact HB.out))⟩)
       ·skip
        refine box_step ?hg (N:=5) ?hd (cs:=#[.slice none 0 0,.slice none 0 0,.slice none 0 0,.slice none 0 0]) (t:=29) ?hr ?_;(case hd=>rfl);(case hg=>rfl);(case hr=>first|(go_simp;done)|(go_simp;rfl))
        intro gb180 hg w26 hbox hb
        have HS4_:=(hb.cell (World.block_lt_of_cell? _ _ (hHeld.2.2.2.2))).trans (hHeld.2.2.2.2)
        have n0_:=Aside0.mk (Kd.S_below (by (with_reducible repeat (first|apply Kd.S_alloc|apply Kd.S_drewN|apply Kd.S_drew));exact HO164.out) hb)
        have n1_:=Aside0.mk (Kd.R_below (by (with_reducible repeat (first|apply Kd.R_alloc|apply Kd.R_drewN|apply Kd.R_drew));exact HL172_0.out) hb)
        have n2_:=Aside0.mk (Kd.R_below (by (with_reducible repeat (first|apply Kd.R_alloc|apply Kd.R_drewN|apply Kd.R_drew));exact HO171.out) hb)
        have n3_:=Aside0.mk (blk_below (g:=gb159) (o:=.cells #[.slice A0_0 l0_0.length c0_0,.int .i64 a0_1,.bool a0_2,.int .i64 a0_3] 45 (0,0)) (by (with_reducible repeat first|apply blk_drewN|apply blk_drew|apply blk_alloc);exact BK159.out) hb)
        have n4_:=Aside0.mk (blk_below (g:=gb160) (o:=.cells #[.slice none 0 0,.slice none 0 0,.slice none 0 0,.slice none 0 0] 29 (0,0)) (by (with_reducible repeat first|apply blk_drewN|apply blk_drew|apply blk_alloc);exact BK160.out) hb)
        have n5_:=Aside0.mk (blk_below (g:=gb168) (o:=.cells #[.slice (some ad172) t162.length co17,.int .i64 t165,.bool t166,.int .i64 t167] 45 (0,0)) (by (with_reducible repeat first|apply blk_drewN|apply blk_drew|apply blk_alloc);exact BK168.out) hb)
        have n6_:=Aside0.mk (Kd.C_below (by repeat (first|(with_reducible exact HR172_0.out)|(with_reducible first|apply Kd.C_alloc|apply Kd.C_drewN|apply Kd.C_drew)|exact HR172_0.out)) hb)
        have n7_:=Aside0.mk (Kd.C_below (by repeat (first|(with_reducible exact HR176.out)|(with_reducible first|apply Kd.C_alloc|apply Kd.C_drewN|apply Kd.C_drew)|exact HR176.out)) hb)
        have n8_:=Aside0.mk (below_step (by repeat (first|(with_reducible first|exact HB.out|apply below_alloc|apply pw_below_drewN|apply below_drew1|refine below_set ?_ GE159.out|refine below_set ?_ GE160.out|refine below_set ?_ GE168.out)|exact HB.out)) hb)
        have n9_:=Aside0.mk (hbox)
        have n10_:=Aside0.mk ((by rw [hg];exact (below_size (by repeat (first|(with_reducible first|exact HB.out|apply below_alloc|apply pw_below_drewN|apply below_drew1|refine below_set ?_ GE159.out|refine below_set ?_ GE160.out|refine below_set ?_ GE168.out)|exact HB.out))) : w.heap.size ≤ gb180))
        have n11_:=Aside0.mk ((by rw [hg];exact (below_size (by repeat (first|(with_reducible first|exact HB.out|apply below_alloc|apply pw_below_drewN|apply below_drew1|refine below_set ?_ GE159.out|refine below_set ?_ GE160.out|refine below_set ?_ GE168.out)|exact HB.out))) : w.heap.size ≤ gb180))
        have n12_:=Aside0.mk ((by rw [hg];exact Nat.ne_of_lt (blk_lt (g:=gb159) (o:=.cells #[.slice A0_0 l0_0.length c0_0,.int .i64 a0_1,.bool a0_2,.int .i64 a0_3] 45 (0,0)) (by (with_reducible repeat first|apply blk_drewN|apply blk_drew|apply blk_alloc);exact BK159.out)) : gb159 ≠ gb180))
        have n13_:=Aside0.mk ((by rw [hg];exact Nat.ne_of_gt (blk_lt (g:=gb159) (o:=.cells #[.slice A0_0 l0_0.length c0_0,.int .i64 a0_1,.bool a0_2,.int .i64 a0_3] 45 (0,0)) (by (with_reducible repeat first|apply blk_drewN|apply blk_drew|apply blk_alloc);exact BK159.out)) : gb180 ≠ gb159))
        have n14_:=Aside0.mk ((by rw [hg];exact Nat.ne_of_lt (blk_lt (g:=gb160) (o:=.cells #[.slice none 0 0,.slice none 0 0,.slice none 0 0,.slice none 0 0] 29 (0,0)) (by (with_reducible repeat first|apply blk_drewN|apply blk_drew|apply blk_alloc);exact BK160.out)) : gb160 ≠ gb180))
        have n15_:=Aside0.mk ((by rw [hg];exact Nat.ne_of_gt (blk_lt (g:=gb160) (o:=.cells #[.slice none 0 0,.slice none 0 0,.slice none 0 0,.slice none 0 0] 29 (0,0)) (by (with_reducible repeat first|apply blk_drewN|apply blk_drew|apply blk_alloc);exact BK160.out)) : gb180 ≠ gb160))
        have n16_:=Aside0.mk ((by rw [hg];exact Nat.ne_of_lt (blk_lt (g:=gb168) (o:=.cells #[.slice (some ad172) t162.length co17,.int .i64 t165,.bool t166,.int .i64 t167] 45 (0,0)) (by (with_reducible repeat first|apply blk_drewN|apply blk_drew|apply blk_alloc);exact BK168.out)) : gb168 ≠ gb180))
        have n17_:=Aside0.mk ((by rw [hg];exact Nat.ne_of_gt (blk_lt (g:=gb168) (o:=.cells #[.slice (some ad172) t162.length co17,.int .i64 t165,.bool t166,.int .i64 t167] 45 (0,0)) (by (with_reducible repeat first|apply blk_drewN|apply blk_drew|apply blk_alloc);exact BK168.out)) : gb180 ≠ gb168))
        clear HO164
        clear HL172_0
        clear HO171
        clear BK159
        clear BK160
        clear BK168
        clear HR172_0
        clear HR176
        clear HB
        have HO164:=n0_
        have HL172_0:=n1_
        have HO171:=n2_
        have BK159:=n3_
        have BK160:=n4_
        have BK168:=n5_
        have HR172_0:=n6_
        have HR176:=n7_
        have HB:=n8_
        have BK180:=n9_
        have GW180:=n10_
        have GE180:=n11_
        have NB159_180:=n12_
        have NB180_159:=n13_
        have NB160_180:=n14_
        have NB180_160:=n15_
        have NB168_180:=n16_
        have NB180_168:=n17_
        clear n0_ n1_ n2_ n3_ n4_ n5_ n6_ n7_ n8_ n9_ n10_ n11_ n12_ n13_ n14_ n15_ n16_ n17_
        clear hb hbox hg
        refine hK.out _ _ ⟨(blk_cell BK168.out 0).trans rfl,(blk_cell BK168.out 1).trans rfl,(blk_cell BK168.out 2).trans rfl,(blk_cell BK168.out 3).trans rfl,HS4_⟩ (fun hHeld=>?_)
        clear hK K
        refine norm_ (a':=?_) ?_ ?_
        rotate_left
        ·show Act.put _ (some 5) _ = _
         simp only [Act.put,List.setIfInBounds_toArray,List.set_cons_zero,List.set_cons_succ,i64_w,i32_w]
         rfl
        refine one_ (i:=8) (N:=some 22) #[true,true,true,true,true,true,true,true,true,false,true,false] rfl rfl (one_of HT_.out (by kernel_rfl)) (by decide) (fun K hK=>?_)
        refine Kd.R_append_rows_step (Kd.int .u8) (w0:=w) w.heap.size (by rfl) (.tmp 16) (.tmp 21) 23 5 (.int .u8 0) 1 rfl Try.underlying23 info5 rfl (by decide) (by omega) v170 y169 y173 _ _ _ (fun k_=>some k_ ≠ (.slice A172_0 (rd_L2 t162 1).length c172_0 : Value).ownBlock) (fun _=>False) rfl rfl ?aO ?aR (fun _ _ h=>h) (fun _ h=>h.elim) ?aF ?aB ?aS ?aL ?_
        (case aR=>repeat (first|exact (by repeat (first|(with_reducible exact HR176.out)|(with_reducible first|apply Kd.C_alloc|apply Kd.C_drewN|apply Kd.C_drew)|exact HR176.out))|(with_reducible first|apply Kd.C_alloc|apply Kd.C_drewN|apply Kd.C_drew)))
        (case aB=>exact (by repeat (first|(with_reducible first|exact HB.out|apply below_alloc|apply pw_below_drewN|apply below_drew1|refine below_set ?_ GE159.out|refine below_set ?_ GE160.out|refine below_set ?_ GE168.out|refine below_set ?_ GE180.out)|exact HB.out)))
        (case aF=>exact (fun k_ hk=>Kd.fresh' (Kd.R_lt (by (with_reducible repeat (first|apply Kd.R_alloc|apply Kd.R_drewN|apply Kd.R_drew));exact HL172_0.out)) k_ hk))
        (case aO=>exact (by (with_reducible repeat (first|apply Kd.R_alloc|apply Kd.R_drewN|apply Kd.R_drew));exact Kd.R_mono HO171.out (fun _ hk=>hk.2)))
        (case aS=>exact (below_size (by repeat (first|(with_reducible first|exact HB.out|apply below_alloc|apply pw_below_drewN|apply below_drew1|refine below_set ?_ GE159.out|refine below_set ?_ GE160.out|refine below_set ?_ GE168.out|refine below_set ?_ GE180.out)|exact HB.out))))
        (case aL=>have:=LMc7.out;omega)
        intro v178 w27 ho hb hg hat
        (first|have HS4_:=cell_grown hg (hHeld.2.2.2.2) (by first|(rw [add_block];exact ((Kd.S_R HO164.out).1 _ rfl).2)|(show some (Addr.add _ _).block ≠ _;rw [add_block];exact ((Kd.S_R HO164.out).1 _ rfl).2)|exact ((Kd.S_R HO164.out).1 _ rfl).2)|have HS4_:=cell_grown hg (cell_unalloc (hHeld.2.2.2.2) (by first|(rw [add_block];exact (Kd.R_lt (Kd.S_R HO164.out) _ rfl))|(show (Addr.add _ _).block < _;rw [add_block];exact (Kd.R_lt (Kd.S_R HO164.out) _ rfl))|exact (Kd.R_lt (Kd.S_R HO164.out) _ rfl))) (by first|(rw [add_block];exact ((Kd.S_R HO164.out).1 _ rfl).2)|(show some (Addr.add _ _).block ≠ _;rw [add_block];exact ((Kd.S_R HO164.out).1 _ rfl).2)|exact ((Kd.S_R HO164.out).1 _ rfl).2))
        rw [← Ny177.out] at ho
        have n0_:=Aside0.mk (blk_grown (g:=gb159) (o:=.cells #[.slice A0_0 l0_0.length c0_0,.int .i64 a0_1,.bool a0_2,.int .i64 a0_3] 45 (0,0)) (by (with_reducible repeat first|apply blk_drewN|apply blk_drew|apply blk_alloc);exact BK159.out) hg (Kd.R_ne HO171.out BK159.out (by decide)))
        have n1_:=Aside0.mk (blk_grown (g:=gb160) (o:=.cells #[.slice none 0 0,.slice none 0 0,.slice none 0 0,.slice none 0 0] 29 (0,0)) (by (with_reducible repeat first|apply blk_drewN|apply blk_drew|apply blk_alloc);exact BK160.out) hg (Kd.R_ne HO171.out BK160.out (by decide)))
        have n2_:=Aside0.mk (Kd.S_after (ok:=(fun _=>True)) (by (with_reducible repeat (first|apply Kd.S_alloc|apply Kd.S_drewN|apply Kd.S_drew));exact HO164.out) hg hat)
        have n3_:=Aside0.mk (blk_grown (g:=gb168) (o:=.cells #[.slice (some ad172) t162.length co17,.int .i64 t165,.bool t166,.int .i64 t167] 45 (0,0)) (by (with_reducible repeat first|apply blk_drewN|apply blk_drew|apply blk_alloc);exact BK168.out) hg (Kd.R_ne HO171.out BK168.out (by decide)))
        have n4_:=Aside0.mk (Kd.R_after (ok:=(fun k_=>some k_ ≠ (.slice (some ad172) t162.length co17 : Value).ownBlock)) (by (with_reducible repeat (first|apply Kd.R_alloc|apply Kd.R_drewN|apply Kd.R_drew));exact Kd.R_mono HL172_0.out (fun _ hk=>⟨hk.1.2,hk.2⟩)) hg hat)
        have n5_:=Aside0.mk (blk_grown (g:=gb180) (o:=.cells #[.slice none 0 0,.slice none 0 0,.slice none 0 0,.slice none 0 0] 29 (0,0)) (by (with_reducible repeat first|apply blk_drewN|apply blk_drew|apply blk_alloc);exact BK180.out) hg (Kd.R_ne HO171.out BK180.out (by decide)))
        have n6_:=Aside0.mk (hb)
        have n7_:=Aside0.mk (ho)
        clear BK159
        clear BK160
        clear HO164
        clear BK168
        clear HL172_0
        clear BK180
        clear HB
        clear HO171
        have BK159:=n0_
        have BK160:=n1_
        have HO164:=n2_
        have BK168:=n3_
        have HL172_0:=n4_
        have BK180:=n5_
        have HB:=n6_
        have HO179:=n7_
        clear n0_ n1_ n2_ n3_ n4_ n5_ n6_ n7_
        clear ho hb hg hat
        obtain ⟨Ao28,co28,eo28⟩:=Kd.R_slice HO179.out
        (first|subst eo28|(injection eo28 with f1_ f2_ f3_;have f4_:=f1_.symm;have f5_:=f3_.symm;clear f1_ f2_ f3_;subst f4_;subst f5_))
        refine hK.out _ _ ⟨(blk_cell BK168.out 0).trans rfl,(blk_cell BK168.out 1).trans rfl,(blk_cell BK168.out 2).trans rfl,(blk_cell BK168.out 3).trans rfl,HS4_⟩ (fun hHeld=>?_)
        clear hK K
        refine norm_ (a':=?_) ?_ ?_
        rotate_left
        ·show Act.put _ (some 22) _ = _
         simp only [Act.put,List.setIfInBounds_toArray,List.set_cons_zero,List.set_cons_succ,i64_w,i32_w]
         rfl
        refine pure_ (i:=9) (N:=some 23) (v:=?_) (a':=?_) #[true,true,true,true,true,true,true,true,true,true,true,false] rfl rfl (any_of HT_.out (by kernel_rfl)) (fun _ _ _ h=>h) (Or.inl ⟨by rfl,?_⟩) ?_ ?_
        rotate_left
        ·intro w'
         go_simp
         with_reducible rfl
        rotate_left
        ·simp only [Act.put,List.setIfInBounds_toArray,List.set_cons_zero,List.set_cons_succ,i64_w,i32_w]
         rfl
        exact norm_ (by simp only [putAll,Act.put,List.setIfInBounds_toArray,List.set_cons_zero,List.set_cons_succ]) (hCont (v170,.slice Ao28 y177.length co28,gb180) _ ⟨hHeld,(by (with_reducible repeat (first|apply Kd.R_alloc|apply Kd.R_drewN|apply Kd.R_drew));exact HL172_0.out),(by (with_reducible repeat (first|apply Kd.S_alloc|apply Kd.S_drewN|apply Kd.S_drew));exact Kd.S_mono HO164.out (fun _ hk=>hk.2)),(by (with_reducible repeat (first|apply Kd.R_alloc|apply Kd.R_drewN|apply Kd.R_drew));exact HO179.out),(by (with_reducible repeat first|apply blk_drewN|apply blk_drew|apply blk_alloc);exact BK159.out),(by (with_reducible repeat first|apply blk_drewN|apply blk_drew|apply blk_alloc);exact BK160.out),(by (with_reducible repeat first|apply blk_drewN|apply blk_drew|apply blk_alloc);exact BK168.out),(by (with_reducible repeat first|apply blk_drewN|apply blk_drew|apply blk_alloc);exact BK180.out),GW180.out,GE180.out,NB159_180.out,NB180_159.out,NB160_180.out,NB180_160.out,NB168_180.out,NB180_168.out,(by repeat (first|(with_reducible first|exact HB.out|apply below_alloc|apply pw_below_drewN|apply below_drew1|refine below_set ?_ GE159.out|refine below_set ?_ GE160.out|refine below_set ?_ GE168.out|refine below_set ?_ GE180.out)|exact HB.out))⟩)
      ·skip
       refine box_step ?hg (N:=5) ?hd (cs:=#[.slice none 0 0,.slice none 0 0,.slice none 0 0,.slice none 0 0]) (t:=29) ?hr ?_;(case hd=>rfl);(case hg=>rfl);(case hr=>first|(go_simp;done)|(go_simp;rfl))
       intro gb180 hg w24 hbox hb
       have HS4_:=(hb.cell (World.block_lt_of_cell? _ _ (hHeld.2.2.2.2))).trans (hHeld.2.2.2.2)
       have n0_:=Aside0.mk (Kd.S_below (by (with_reducible repeat (first|apply Kd.S_alloc|apply Kd.S_drewN|apply Kd.S_drew));exact HO164.out) hb)
       have n1_:=Aside0.mk (Kd.R_below (by (with_reducible repeat (first|apply Kd.R_alloc|apply Kd.R_drewN|apply Kd.R_drew));exact HL172_0.out) hb)
       have n2_:=Aside0.mk (blk_below (g:=gb159) (o:=.cells #[.slice A0_0 l0_0.length c0_0,.int .i64 a0_1,.bool a0_2,.int .i64 a0_3] 45 (0,0)) (by (with_reducible repeat first|apply blk_drewN|apply blk_drew|apply blk_alloc);exact BK159.out) hb)
       have n3_:=Aside0.mk (blk_below (g:=gb160) (o:=.cells #[.slice none 0 0,.slice none 0 0,.slice none 0 0,.slice none 0 0] 29 (0,0)) (by (with_reducible repeat first|apply blk_drewN|apply blk_drew|apply blk_alloc);exact BK160.out) hb)
       have n4_:=Aside0.mk (blk_below (g:=gb168) (o:=.cells #[.slice (some ad172) t162.length co17,.int .i64 t165,.bool t166,.int .i64 t167] 45 (0,0)) (by (with_reducible repeat first|apply blk_drewN|apply blk_drew|apply blk_alloc);exact BK168.out) hb)
       have n5_:=Aside0.mk (Kd.C_below (by repeat (first|(with_reducible exact HR172_0.out)|(with_reducible first|apply Kd.C_alloc|apply Kd.C_drewN|apply Kd.C_drew)|exact HR172_0.out)) hb)
       have n6_:=Aside0.mk (Kd.C_below (by repeat (first|(with_reducible exact HR176.out)|(with_reducible first|apply Kd.C_alloc|apply Kd.C_drewN|apply Kd.C_drew)|exact HR176.out)) hb)
       have n7_:=Aside0.mk (below_step (by repeat (first|(with_reducible first|exact HB.out|apply below_alloc|apply pw_below_drewN|apply below_drew1|refine below_set ?_ GE159.out|refine below_set ?_ GE160.out|refine below_set ?_ GE168.out)|exact HB.out)) hb)
       have n8_:=Aside0.mk (hbox)
       have n9_:=Aside0.mk ((by rw [hg];exact (below_size (by repeat (first|(with_reducible first|exact HB.out|apply below_alloc|apply pw_below_drewN|apply below_drew1|refine below_set ?_ GE159.out|refine below_set ?_ GE160.out|refine below_set ?_ GE168.out)|exact HB.out))) : w.heap.size ≤ gb180))
       have n10_:=Aside0.mk ((by rw [hg];exact (below_size (by repeat (first|(with_reducible first|exact HB.out|apply below_alloc|apply pw_below_drewN|apply below_drew1|refine below_set ?_ GE159.out|refine below_set ?_ GE160.out|refine below_set ?_ GE168.out)|exact HB.out))) : w.heap.size ≤ gb180))
       have n11_:=Aside0.mk ((by rw [hg];exact Nat.ne_of_lt (blk_lt (g:=gb159) (o:=.cells #[.slice A0_0 l0_0.length c0_0,.int .i64 a0_1,.bool a0_2,.int .i64 a0_3] 45 (0,0)) (by (with_reducible repeat first|apply blk_drewN|apply blk_drew|apply blk_alloc);exact BK159.out)) : gb159 ≠ gb180))
       have n12_:=Aside0.mk ((by rw [hg];exact Nat.ne_of_gt (blk_lt (g:=gb159) (o:=.cells #[.slice A0_0 l0_0.length c0_0,.int .i64 a0_1,.bool a0_2,.int .i64 a0_3] 45 (0,0)) (by (with_reducible repeat first|apply blk_drewN|apply blk_drew|apply blk_alloc);exact BK159.out)) : gb180 ≠ gb159))
       have n13_:=Aside0.mk ((by rw [hg];exact Nat.ne_of_lt (blk_lt (g:=gb160) (o:=.cells #[.slice none 0 0,.slice none 0 0,.slice none 0 0,.slice none 0 0] 29 (0,0)) (by (with_reducible repeat first|apply blk_drewN|apply blk_drew|apply blk_alloc);exact BK160.out)) : gb160 ≠ gb180))
       have n14_:=Aside0.mk ((by rw [hg];exact Nat.ne_of_gt (blk_lt (g:=gb160) (o:=.cells #[.slice none 0 0,.slice none 0 0,.slice none 0 0,.slice none 0 0] 29 (0,0)) (by (with_reducible repeat first|apply blk_drewN|apply blk_drew|apply blk_alloc);exact BK160.out)) : gb180 ≠ gb160))
       have n15_:=Aside0.mk ((by rw [hg];exact Nat.ne_of_lt (blk_lt (g:=gb168) (o:=.cells #[.slice (some ad172) t162.length co17,.int .i64 t165,.bool t166,.int .i64 t167] 45 (0,0)) (by (with_reducible repeat first|apply blk_drewN|apply blk_drew|apply blk_alloc);exact BK168.out)) : gb168 ≠ gb180))
       have n16_:=Aside0.mk ((by rw [hg];exact Nat.ne_of_gt (blk_lt (g:=gb168) (o:=.cells #[.slice (some ad172) t162.length co17,.int .i64 t165,.bool t166,.int .i64 t167] 45 (0,0)) (by (with_reducible repeat first|apply blk_drewN|apply blk_drew|apply blk_alloc);exact BK168.out)) : gb180 ≠ gb168))
       clear HO164
       clear HL172_0
       clear BK159
       clear BK160
       clear BK168
       clear HR172_0
       clear HR176
       clear HB
       have HO164:=n0_
       have HL172_0:=n1_
       have BK159:=n2_
       have BK160:=n3_
       have BK168:=n4_
       have HR172_0:=n5_
       have HR176:=n6_
       have HB:=n7_
       have BK180:=n8_
       have GW180:=n9_
       have GE180:=n10_
       have NB159_180:=n11_
       have NB180_159:=n12_
       have NB160_180:=n13_
       have NB180_160:=n14_
       have NB168_180:=n15_
       have NB180_168:=n16_
       clear n0_ n1_ n2_ n3_ n4_ n5_ n6_ n7_ n8_ n9_ n10_ n11_ n12_ n13_ n14_ n15_ n16_
       clear hb hbox hg
       refine hK.out _ _ ⟨(blk_cell BK168.out 0).trans rfl,(blk_cell BK168.out 1).trans rfl,(blk_cell BK168.out 2).trans rfl,(blk_cell BK168.out 3).trans rfl,HS4_⟩ (fun hHeld=>?_)
       clear hK K
       refine norm_ (a':=?_) ?_ ?_
       rotate_left
       ·show Act.put _ (some 5) _ = _
        simp only [Act.put,List.setIfInBounds_toArray,List.set_cons_zero,List.set_cons_succ,i64_w,i32_w]
        rfl
       refine one_ (i:=2) (N:=some 16) #[true,true,true,true,true,true,true,true,false,false,true,false] rfl rfl (one_of HT_.out (by kernel_rfl)) (by decide) (fun K hK=>?_)
       refine Kd.R_lit_step (Kd.int .u8) _ 5 ?hg (N:=16) ?hd (xs:=([] : List Int)) (inner:=[]) (ok:=fun _=>True) (okp:=fun _=>True) ?hr ?hp (fun _ hk=>hk) trivial (Below.refl _ _) (Nat.le_refl _) (by simp) ?_;(case hd=>rfl);(case hg=>rfl);(case hr=>first|(go_simp;done)|(go_simp;rfl));(case hp=>exact (Reps.none _ _))
       intro v170 w25 ho26 hb hg_ hnew_
       have HS4_:=(hb.cell (World.block_lt_of_cell? _ _ (hHeld.2.2.2.2))).trans (hHeld.2.2.2.2)
       clear hg_ hnew_
       (first|rw [← Ny169.out] at ho26|(simp only [Int.reduceToNat] at ho26;rw [← Ny169.out] at ho26))
       have n0_:=Aside0.mk (Kd.S_elder' (by (with_reducible repeat (first|apply Kd.S_alloc|apply Kd.S_drewN|apply Kd.S_drew));exact HO164.out) (Kd.R_base ho26) hb)
       have n1_:=Aside0.mk (Kd.R_elder' (by (with_reducible repeat (first|apply Kd.R_alloc|apply Kd.R_drewN|apply Kd.R_drew));exact HL172_0.out) (Kd.R_base ho26) hb)
       have n2_:=Aside0.mk (Kd.R_lower (Kd.R_new' ho26 (Kd.R_lt (by (with_reducible repeat (first|apply Kd.R_alloc|apply Kd.R_drewN|apply Kd.R_drew));exact HL172_0.out))) (below_size (by repeat (first|(with_reducible first|exact HB.out|apply below_alloc|apply pw_below_drewN|apply below_drew1|refine below_set ?_ GE159.out|refine below_set ?_ GE160.out|refine below_set ?_ GE168.out|refine below_set ?_ GE180.out)|exact HB.out))))
       have n3_:=Aside0.mk (blk_below (g:=gb159) (o:=.cells #[.slice A0_0 l0_0.length c0_0,.int .i64 a0_1,.bool a0_2,.int .i64 a0_3] 45 (0,0)) (by (with_reducible repeat first|apply blk_drewN|apply blk_drew|apply blk_alloc);exact BK159.out) hb)
       have n4_:=Aside0.mk (blk_below (g:=gb160) (o:=.cells #[.slice none 0 0,.slice none 0 0,.slice none 0 0,.slice none 0 0] 29 (0,0)) (by (with_reducible repeat first|apply blk_drewN|apply blk_drew|apply blk_alloc);exact BK160.out) hb)
       have n5_:=Aside0.mk (blk_below (g:=gb168) (o:=.cells #[.slice (some ad172) t162.length co17,.int .i64 t165,.bool t166,.int .i64 t167] 45 (0,0)) (by (with_reducible repeat first|apply blk_drewN|apply blk_drew|apply blk_alloc);exact BK168.out) hb)
       have n6_:=Aside0.mk (Kd.C_below (by repeat (first|(with_reducible exact HR172_0.out)|(with_reducible first|apply Kd.C_alloc|apply Kd.C_drewN|apply Kd.C_drew)|exact HR172_0.out)) hb)
       have n7_:=Aside0.mk (Kd.C_below (by repeat (first|(with_reducible exact HR176.out)|(with_reducible first|apply Kd.C_alloc|apply Kd.C_drewN|apply Kd.C_drew)|exact HR176.out)) hb)
       have n8_:=Aside0.mk (blk_below (g:=gb180) (o:=.cells #[.slice none 0 0,.slice none 0 0,.slice none 0 0,.slice none 0 0] 29 (0,0)) (by (with_reducible repeat first|apply blk_drewN|apply blk_drew|apply blk_alloc);exact BK180.out) hb)
       have n9_:=Aside0.mk (below_step (by repeat (first|(with_reducible first|exact HB.out|apply below_alloc|apply pw_below_drewN|apply below_drew1|refine below_set ?_ GE159.out|refine below_set ?_ GE160.out|refine below_set ?_ GE168.out|refine below_set ?_ GE180.out)|exact HB.out)) hb)
       clear HO164
       clear HL172_0
       clear BK159
       clear BK160
       clear BK168
       clear HR172_0
       clear HR176
       clear BK180
       clear HB
       have HO164:=n0_
       have HL172_0:=n1_
       have HO171:=n2_
       have BK159:=n3_
       have BK160:=n4_
       have BK168:=n5_
       have HR172_0:=n6_
       have HR176:=n7_
       have BK180:=n8_
       have HB:=n9_
       clear n0_ n1_ n2_ n3_ n4_ n5_ n6_ n7_ n8_ n9_
       clear hb ho26
       refine hK.out _ _ ⟨(blk_cell BK168.out 0).trans rfl,(blk_cell BK168.out 1).trans rfl,(blk_cell BK168.out 2).trans rfl,(blk_cell BK168.out 3).trans rfl,HS4_⟩ (fun hHeld=>?_)
       clear hK K
       refine norm_ (a':=?_) ?_ ?_
       rotate_left
       ·show Act.put _ (some 16) _ = _
        simp only [Act.put,List.setIfInBounds_toArray,List.set_cons_zero,List.set_cons_succ,i64_w,i32_w]
        rfl
       refine one_ (i:=8) (N:=some 22) #[true,true,true,true,true,true,true,true,true,false,true,false] rfl rfl (one_of HT_.out (by kernel_rfl)) (by decide) (fun K hK=>?_)
       refine Kd.R_append_rows_step (Kd.int .u8) (w0:=w) w.heap.size (by rfl) (.tmp 16) (.tmp 21) 23 5 (.int .u8 0) 1 rfl Try.underlying23 info5 rfl (by decide) (by omega) v170 y169 y173 _ _ _ (fun k_=>some k_ ≠ (.slice A172_0 (rd_L2 t162 1).length c172_0 : Value).ownBlock) (fun _=>False) rfl rfl ?aO ?aR (fun _ _ h=>h) (fun _ h=>h.elim) ?aF ?aB ?aS ?aL ?_
       (case aR=>repeat (first|exact (by repeat (first|(with_reducible exact HR176.out)|(with_reducible first|apply Kd.C_alloc|apply Kd.C_drewN|apply Kd.C_drew)|exact HR176.out))|(with_reducible first|apply Kd.C_alloc|apply Kd.C_drewN|apply Kd.C_drew)))
       (case aB=>exact (by repeat (first|(with_reducible first|exact HB.out|apply below_alloc|apply pw_below_drewN|apply below_drew1|refine below_set ?_ GE159.out|refine below_set ?_ GE160.out|refine below_set ?_ GE168.out|refine below_set ?_ GE180.out)|exact HB.out)))
       (case aF=>exact (fun k_ hk=>Kd.fresh' (Kd.R_lt (by (with_reducible repeat (first|apply Kd.R_alloc|apply Kd.R_drewN|apply Kd.R_drew));exact HL172_0.out)) k_ hk))
       (case aO=>exact (by (with_reducible repeat (first|apply Kd.R_alloc|apply Kd.R_drewN|apply Kd.R_drew));exact Kd.R_mono HO171.out (fun _ hk=>hk.2)))
       (case aS=>exact (below_size (by repeat (first|(with_reducible first|exact HB.out|apply below_alloc|apply pw_below_drewN|apply below_drew1|refine below_set ?_ GE159.out|refine below_set ?_ GE160.out|refine below_set ?_ GE168.out|refine below_set ?_ GE180.out)|exact HB.out))))
       (case aL=>have:=LMc7.out;omega)
       intro v178 w27 ho hb hg hat
       (first|have HS4_:=cell_grown hg (hHeld.2.2.2.2) (by first|(rw [add_block];exact ((Kd.S_R HO164.out).1 _ rfl).2)|(show some (Addr.add _ _).block ≠ _;rw [add_block];exact ((Kd.S_R HO164.out).1 _ rfl).2)|exact ((Kd.S_R HO164.out).1 _ rfl).2)|have HS4_:=cell_grown hg (cell_unalloc (hHeld.2.2.2.2) (by first|(rw [add_block];exact (Kd.R_lt (Kd.S_R HO164.out) _ rfl))|(show (Addr.add _ _).block < _;rw [add_block];exact (Kd.R_lt (Kd.S_R HO164.out) _ rfl))|exact (Kd.R_lt (Kd.S_R HO164.out) _ rfl))) (by first|(rw [add_block];exact ((Kd.S_R HO164.out).1 _ rfl).2)|(show some (Addr.add _ _).block ≠ _;rw [add_block];exact ((Kd.S_R HO164.out).1 _ rfl).2)|exact ((Kd.S_R HO164.out).1 _ rfl).2))
       rw [← Ny177.out] at ho
       have n0_:=Aside0.mk (blk_grown (g:=gb159) (o:=.cells #[.slice A0_0 l0_0.length c0_0,.int .i64 a0_1,.bool a0_2,.int .i64 a0_3] 45 (0,0)) (by (with_reducible repeat first|apply blk_drewN|apply blk_drew|apply blk_alloc);exact BK159.out) hg (Kd.R_ne HO171.out BK159.out (by decide)))
       have n1_:=Aside0.mk (blk_grown (g:=gb160) (o:=.cells #[.slice none 0 0,.slice none 0 0,.slice none 0 0,.slice none 0 0] 29 (0,0)) (by (with_reducible repeat first|apply blk_drewN|apply blk_drew|apply blk_alloc);exact BK160.out) hg (Kd.R_ne HO171.out BK160.out (by decide)))
       have n2_:=Aside0.mk (Kd.S_after (ok:=(fun _=>True)) (by (with_reducible repeat (first|apply Kd.S_alloc|apply Kd.S_drewN|apply Kd.S_drew));exact HO164.out) hg hat)
       have n3_:=Aside0.mk (blk_grown (g:=gb168) (o:=.cells #[.slice (some ad172) t162.length co17,.int .i64 t165,.bool t166,.int .i64 t167] 45 (0,0)) (by (with_reducible repeat first|apply blk_drewN|apply blk_drew|apply blk_alloc);exact BK168.out) hg (Kd.R_ne HO171.out BK168.out (by decide)))
       have n4_:=Aside0.mk (Kd.R_after (ok:=(fun k_=>some k_ ≠ (.slice (some ad172) t162.length co17 : Value).ownBlock)) (by (with_reducible repeat (first|apply Kd.R_alloc|apply Kd.R_drewN|apply Kd.R_drew));exact Kd.R_mono HL172_0.out (fun _ hk=>⟨hk.1.2,hk.2⟩)) hg hat)
       have n5_:=Aside0.mk (blk_grown (g:=gb180) (o:=.cells #[.slice none 0 0,.slice none 0 0,.slice none 0 0,.slice none 0 0] 29 (0,0)) (by (with_reducible repeat first|apply blk_drewN|apply blk_drew|apply blk_alloc);exact BK180.out) hg (Kd.R_ne HO171.out BK180.out (by decide)))
       have n6_:=Aside0.mk (hb)
       have n7_:=Aside0.mk (ho)
       clear BK159
       clear BK160
       clear HO164
       clear BK168
       clear HL172_0
       clear BK180
       clear HB
       clear HO171
       have BK159:=n0_
       have BK160:=n1_
       have HO164:=n2_
       have BK168:=n3_
       have HL172_0:=n4_
       have BK180:=n5_
       have HB:=n6_
       have HO179:=n7_
       clear n0_ n1_ n2_ n3_ n4_ n5_ n6_ n7_
       clear ho hb hg hat
       obtain ⟨Ao28,co28,eo28⟩:=Kd.R_slice HO179.out
       (first|subst eo28|(injection eo28 with f1_ f2_ f3_;have f4_:=f1_.symm;have f5_:=f3_.symm;clear f1_ f2_ f3_;subst f4_;subst f5_))
       refine hK.out _ _ ⟨(blk_cell BK168.out 0).trans rfl,(blk_cell BK168.out 1).trans rfl,(blk_cell BK168.out 2).trans rfl,(blk_cell BK168.out 3).trans rfl,HS4_⟩ (fun hHeld=>?_)
       clear hK K
       refine norm_ (a':=?_) ?_ ?_
       rotate_left
       ·show Act.put _ (some 22) _ = _
        simp only [Act.put,List.setIfInBounds_toArray,List.set_cons_zero,List.set_cons_succ,i64_w,i32_w]
        rfl
       refine pure_ (i:=9) (N:=some 23) (v:=?_) (a':=?_) #[true,true,true,true,true,true,true,true,true,true,true,false] rfl rfl (any_of HT_.out (by kernel_rfl)) (fun _ _ _ h=>h) (Or.inl ⟨by rfl,?_⟩) ?_ ?_
       rotate_left
       ·intro w'
        go_simp
        with_reducible rfl
       rotate_left
       ·simp only [Act.put,List.setIfInBounds_toArray,List.set_cons_zero,List.set_cons_succ,i64_w,i32_w]
        rfl
       exact norm_ (by simp only [putAll,Act.put,List.setIfInBounds_toArray,List.set_cons_zero,List.set_cons_succ]) (hCont (v170,.slice Ao28 y177.length co28,gb180) _ ⟨hHeld,(by (with_reducible repeat (first|apply Kd.R_alloc|apply Kd.R_drewN|apply Kd.R_drew));exact HL172_0.out),(by (with_reducible repeat (first|apply Kd.S_alloc|apply Kd.S_drewN|apply Kd.S_drew));exact Kd.S_mono HO164.out (fun _ hk=>hk.2)),(by (with_reducible repeat (first|apply Kd.R_alloc|apply Kd.R_drewN|apply Kd.R_drew));exact HO179.out),(by (with_reducible repeat first|apply blk_drewN|apply blk_drew|apply blk_alloc);exact BK159.out),(by (with_reducible repeat first|apply blk_drewN|apply blk_drew|apply blk_alloc);exact BK160.out),(by (with_reducible repeat first|apply blk_drewN|apply blk_drew|apply blk_alloc);exact BK168.out),(by (with_reducible repeat first|apply blk_drewN|apply blk_drew|apply blk_alloc);exact BK180.out),GW180.out,GE180.out,NB159_180.out,NB180_159.out,NB160_180.out,NB180_160.out,NB168_180.out,NB180_168.out,(by repeat (first|(with_reducible first|exact HB.out|apply below_alloc|apply pw_below_drewN|apply below_drew1|refine below_set ?_ GE159.out|refine below_set ?_ GE160.out|refine below_set ?_ GE168.out|refine below_set ?_ GE180.out)|exact HB.out))⟩)
     rintro ⟨v170,v178,gb180⟩ w29 ⟨hS_,h0_,h1_,h2_,h3_,h4_,h5_,h6_,h7_,h8_,h9_,h10_,h11_,h12_,h13_,h14_,h15_⟩
     have n0_ : Aside0 (Kd.R (Kd.int .u8) 5 w29 w.heap.size (fun k_=>some k_ ≠ (.slice (some ad172) t162.length co17 : Value).ownBlock∧some k_ ≠ (v178 : Value).ownBlock) (.slice A172_0 (rd_L2 t162 1).length c172_0) (rd_L2 t162 1)):=⟨h0_⟩
     have n1_ : Aside0 (Kd.S (Kd.slice 5 (Kd.int .u8)) 23 w29 w.heap.size (fun k_=>some k_ ≠ (v178 : Value).ownBlock) (.slice (some ad172) t162.length co17) t162):=⟨h1_⟩
     have n2_ : Aside0 (Kd.R (Kd.int .u8) 5 w29 w.heap.size (fun k_=>some k_ ≠ (.slice A172_0 (rd_L2 t162 1).length c172_0 : Value).ownBlock) v178 y177):=⟨h2_⟩
     have n3_ : Aside0 (w29.heap[gb159]? = some (.cells #[.slice A0_0 l0_0.length c0_0,.int .i64 a0_1,.bool a0_2,.int .i64 a0_3] 45 (0,0))):=⟨h3_⟩
     have n4_ : Aside0 (w29.heap[gb160]? = some (.cells #[.slice none 0 0,.slice none 0 0,.slice none 0 0,.slice none 0 0] 29 (0,0))):=⟨h4_⟩
     have n5_ : Aside0 (w29.heap[gb168]? = some (.cells #[.slice (some ad172) t162.length co17,.int .i64 t165,.bool t166,.int .i64 t167] 45 (0,0))):=⟨h5_⟩
     have n6_ : Aside0 (w29.heap[gb180]? = some (.cells #[.slice none 0 0,.slice none 0 0,.slice none 0 0,.slice none 0 0] 29 (0,0))):=⟨h6_⟩
     have n7_ : Aside0 (w.heap.size ≤ gb180):=⟨h7_⟩
     have n8_ : Aside0 (w.heap.size ≤ gb180):=⟨h8_⟩
     have n9_ : Aside0 (gb159 ≠ gb180):=⟨h9_⟩
     have n10_ : Aside0 (gb180 ≠ gb159):=⟨h10_⟩
     have n11_ : Aside0 (gb160 ≠ gb180):=⟨h11_⟩
     have n12_ : Aside0 (gb180 ≠ gb160):=⟨h12_⟩
     have n13_ : Aside0 (gb168 ≠ gb180):=⟨h13_⟩
     have n14_ : Aside0 (gb180 ≠ gb168):=⟨h14_⟩
     have n15_ : Aside0 (Below w.heap.size w w29):=⟨h15_⟩
     clear HO164
     clear BK159
     clear BK160
     clear BK168
     clear HB
     clear h0_ h1_ h2_ h3_ h4_ h5_ h6_ h7_ h8_ h9_ h10_ h11_ h12_ h13_ h14_ h15_
     have HL172_0:=n0_
     have HO164:=n1_
     have HO179:=n2_
     have BK159:=n3_
     have BK160:=n4_
     have BK168:=n5_
     have BK180:=n6_
     have GW180:=n7_
     have GE180:=n8_
     have NB159_180:=n9_
     have NB180_159:=n10_
     have NB160_180:=n11_
     have NB180_160:=n12_
     have NB168_180:=n13_
     have NB180_168:=n14_
     have HB:=n15_
     clear n0_ n1_ n2_ n3_ n4_ n5_ n6_ n7_ n8_ n9_ n10_ n11_ n12_ n13_ n14_ n15_
     have hHeld : w29.cell? ⟨gb168,0,none⟩ = some (.slice (some ad172) t162.length co17)∧w29.cell? ⟨gb168,1,none⟩ = some (.int .i64 t165)∧w29.cell? ⟨gb168,2,none⟩ = some (.bool t166)∧w29.cell? ⟨gb168,3,none⟩ = some (.int .i64 t167)∧w29.cell? ⟨ad172.block,ad172.off + 1,none⟩ = some (.slice A172_0 (rd_L2 t162 1).length c172_0):=hS_
     obtain ⟨Ao30,co30,eo30⟩:=Kd.R_slice HO179.out
     (first|subst eo30|(injection eo30 with f1_ f2_ f3_;have f4_:=f1_.symm;have f5_:=f3_.symm;clear f1_ f2_ f3_;subst f4_;subst f5_))
     refine norm_ (a':=?_) ?_ ?_
     rotate_left
     ·simp only [putAll,Act.put,List.setIfInBounds_toArray,List.set_cons_zero,List.set_cons_succ]
      rfl
     refine one_ (i:=11) (N:=none) #[true,true,true,true,true,true,true,true,true,true,true,true] rfl rfl (one_of HT_.out (by kernel_rfl)) (by decide) (fun K hK=>?_)
     have hs31 : w29.cell? ⟨gb180,0,none⟩ = some (.slice none 0 0):=(blk_cell BK180.out 0).trans rfl
     have hfs31:=blk_frozen BK180.out 0
     have hns31_0:=NB159_180.out
     have hns31_1:=NB160_180.out
     have hns31_2:=NB168_180.out
     have hms31_0:=NB180_159.out
     have hms31_1:=NB180_160.out
     have hms31_2:=NB180_168.out
     have hs32 : w29.cell? ⟨gb180,1,none⟩ = some (.slice none 0 0):=(blk_cell BK180.out 1).trans rfl
     have hfs32:=blk_frozen BK180.out 1
     have hns32_0:=NB159_180.out
     have hns32_1:=NB160_180.out
     have hns32_2:=NB168_180.out
     have hms32_0:=NB180_159.out
     have hms32_1:=NB180_160.out
     have hms32_2:=NB180_168.out
     have hs33 : w29.cell? ⟨gb180,2,none⟩ = some (.slice none 0 0):=(blk_cell BK180.out 2).trans rfl
     have hfs33:=blk_frozen BK180.out 2
     have hns33_0:=NB159_180.out
     have hns33_1:=NB160_180.out
     have hns33_2:=NB168_180.out
     have hms33_0:=NB180_159.out
     have hms33_1:=NB180_160.out
     have hms33_2:=NB180_168.out
     have hs34 : w29.cell? ⟨gb180,3,none⟩ = some (.slice none 0 0):=(blk_cell BK180.out 3).trans rfl
     have hfs34:=blk_frozen BK180.out 3
     have hns34_0:=NB159_180.out
     have hns34_1:=NB160_180.out
     have hns34_2:=NB168_180.out
     have hms34_0:=NB180_159.out
     have hms34_1:=NB180_160.out
     have hms34_2:=NB180_168.out
     refine skip_ (w1:=?_) (by rfl) rfl ?_ ?_
     rotate_left
     ·go_simp
      rfl
     refine hK.out _ _ ⟨((cell_far (p:=⟨gb180,_,none⟩) NB168_180.out _).trans (((cell_far (p:=⟨gb180,_,none⟩) NB168_180.out _).trans (((cell_far (p:=⟨gb180,_,none⟩) NB168_180.out _).trans (((cell_far (p:=⟨gb180,_,none⟩) NB168_180.out _).trans (hHeld.1)))))))),((cell_far (p:=⟨gb180,_,none⟩) NB168_180.out _).trans (((cell_far (p:=⟨gb180,_,none⟩) NB168_180.out _).trans (((cell_far (p:=⟨gb180,_,none⟩) NB168_180.out _).trans (((cell_far (p:=⟨gb180,_,none⟩) NB168_180.out _).trans (hHeld.2.1)))))))),((cell_far (p:=⟨gb180,_,none⟩) NB168_180.out _).trans (((cell_far (p:=⟨gb180,_,none⟩) NB168_180.out _).trans (((cell_far (p:=⟨gb180,_,none⟩) NB168_180.out _).trans (((cell_far (p:=⟨gb180,_,none⟩) NB168_180.out _).trans (hHeld.2.2.1)))))))),((cell_far (p:=⟨gb180,_,none⟩) NB168_180.out _).trans (((cell_far (p:=⟨gb180,_,none⟩) NB168_180.out _).trans (((cell_far (p:=⟨gb180,_,none⟩) NB168_180.out _).trans (((cell_far (p:=⟨gb180,_,none⟩) NB168_180.out _).trans (hHeld.2.2.2.1)))))))),((cell_far (p:=⟨gb180,_,none⟩) (by first|exact Kd.own_blk (Kd.S_ne HO164.out BK180.out (by decide))|(rw [add_block];exact Kd.own_blk (Kd.S_ne HO164.out BK180.out (by decide)))|(show (Addr.add _ _).block ≠ _;rw [add_block];exact Kd.own_blk (Kd.S_ne HO164.out BK180.out (by decide)))|(dsimp only;exact Kd.own_blk (Kd.S_ne HO164.out BK180.out (by decide)))) _).trans (((cell_far (p:=⟨gb180,_,none⟩) (by first|exact Kd.own_blk (Kd.S_ne HO164.out BK180.out (by decide))|(rw [add_block];exact Kd.own_blk (Kd.S_ne HO164.out BK180.out (by decide)))|(show (Addr.add _ _).block ≠ _;rw [add_block];exact Kd.own_blk (Kd.S_ne HO164.out BK180.out (by decide)))|(dsimp only;exact Kd.own_blk (Kd.S_ne HO164.out BK180.out (by decide)))) _).trans (((cell_far (p:=⟨gb180,_,none⟩) (by first|exact Kd.own_blk (Kd.S_ne HO164.out BK180.out (by decide))|(rw [add_block];exact Kd.own_blk (Kd.S_ne HO164.out BK180.out (by decide)))|(show (Addr.add _ _).block ≠ _;rw [add_block];exact Kd.own_blk (Kd.S_ne HO164.out BK180.out (by decide)))|(dsimp only;exact Kd.own_blk (Kd.S_ne HO164.out BK180.out (by decide)))) _).trans (((cell_far (p:=⟨gb180,_,none⟩) (by first|exact Kd.own_blk (Kd.S_ne HO164.out BK180.out (by decide))|(rw [add_block];exact Kd.own_blk (Kd.S_ne HO164.out BK180.out (by decide)))|(show (Addr.add _ _).block ≠ _;rw [add_block];exact Kd.own_blk (Kd.S_ne HO164.out BK180.out (by decide)))|(dsimp only;exact Kd.own_blk (Kd.S_ne HO164.out BK180.out (by decide)))) _).trans (hHeld.2.2.2.2))))))))⟩ (fun hHeld=>?_)
     clear hK K
     refine done_ (done_of HT_.out (by kernel_rfl)) ?_
     have n0_ : Aside0 (Kd.S (Kd.slice 5 (Kd.int .u8)) 23 ((((w29.setCell ⟨gb180,0,none⟩ (.slice (some ad172) t162.length co17)).setCell ⟨gb180,1,none⟩ (.slice Ao30 y177.length co30)).setCell ⟨gb180,2,none⟩ (.slice none 0 0)).setCell ⟨gb180,3,none⟩ (.slice none 0 0)) w.heap.size (fun k_=>some k_ ≠ (.slice Ao30 y177.length co30 : Value).ownBlock) (.slice (some ad172) t162.length co17) t162):=⟨by (with_reducible repeat (first|apply Kd.S_alloc|apply Kd.S_drewN|apply Kd.S_drew));exact Kd.S_mono (Kd.S_far (p:=⟨gb180,3,none⟩) (Kd.S_far (p:=⟨gb180,2,none⟩) (Kd.S_far (p:=⟨gb180,1,none⟩) (Kd.S_far (p:=⟨gb180,0,none⟩) (Kd.S_types HO164.out BK180.out (by decide)) (fun _ hk=>hk.2) (.slice (some ad172) t162.length co17)) (fun _ hk=>hk.2) (.slice Ao30 y177.length co30)) (fun _ hk=>hk.2) (.slice none 0 0)) (fun _ hk=>hk.2) (.slice none 0 0)) (fun _ hk=>hk.1)⟩
     have n1_ : Aside0 (Kd.R (Kd.int .u8) 5 ((((w29.setCell ⟨gb180,0,none⟩ (.slice (some ad172) t162.length co17)).setCell ⟨gb180,1,none⟩ (.slice Ao30 y177.length co30)).setCell ⟨gb180,2,none⟩ (.slice none 0 0)).setCell ⟨gb180,3,none⟩ (.slice none 0 0)) w.heap.size (fun k_=>some k_ ≠ (.slice (some ad172) t162.length co17 : Value).ownBlock∧some k_ ≠ (.slice Ao30 y177.length co30 : Value).ownBlock) (.slice A172_0 (rd_L2 t162 1).length c172_0) (rd_L2 t162 1)):=⟨by (with_reducible repeat (first|apply Kd.R_alloc|apply Kd.R_drewN|apply Kd.R_drew));exact Kd.R_mono (Kd.R_far (p:=⟨gb180,3,none⟩) (Kd.R_far (p:=⟨gb180,2,none⟩) (Kd.R_far (p:=⟨gb180,1,none⟩) (Kd.R_far (p:=⟨gb180,0,none⟩) (Kd.R_types HL172_0.out BK180.out (by decide)) (fun _ hk=>hk.2) (.slice (some ad172) t162.length co17)) (fun _ hk=>hk.2) (.slice Ao30 y177.length co30)) (fun _ hk=>hk.2) (.slice none 0 0)) (fun _ hk=>hk.2) (.slice none 0 0)) (fun _ hk=>⟨hk.1.1,hk.1.2⟩)⟩
     have n2_ : Aside0 (Kd.R (Kd.int .u8) 5 ((((w29.setCell ⟨gb180,0,none⟩ (.slice (some ad172) t162.length co17)).setCell ⟨gb180,1,none⟩ (.slice Ao30 y177.length co30)).setCell ⟨gb180,2,none⟩ (.slice none 0 0)).setCell ⟨gb180,3,none⟩ (.slice none 0 0)) w.heap.size (fun k_=>some k_ ≠ (.slice A172_0 (rd_L2 t162 1).length c172_0 : Value).ownBlock) (.slice Ao30 y177.length co30) y177):=⟨by (with_reducible repeat (first|apply Kd.R_alloc|apply Kd.R_drewN|apply Kd.R_drew));exact Kd.R_mono (Kd.R_far (p:=⟨gb180,3,none⟩) (Kd.R_far (p:=⟨gb180,2,none⟩) (Kd.R_far (p:=⟨gb180,1,none⟩) (Kd.R_far (p:=⟨gb180,0,none⟩) (Kd.R_types HO179.out BK180.out (by decide)) (fun _ hk=>hk.2) (.slice (some ad172) t162.length co17)) (fun _ hk=>hk.2) (.slice Ao30 y177.length co30)) (fun _ hk=>hk.2) (.slice none 0 0)) (fun _ hk=>hk.2) (.slice none 0 0)) (fun _ hk=>hk.1)⟩
     have n3_ : Aside0 (((((w29.setCell ⟨gb180,0,none⟩ (.slice (some ad172) t162.length co17)).setCell ⟨gb180,1,none⟩ (.slice Ao30 y177.length co30)).setCell ⟨gb180,2,none⟩ (.slice none 0 0)).setCell ⟨gb180,3,none⟩ (.slice none 0 0)).heap[gb159]? = some (.cells #[.slice A0_0 l0_0.length c0_0,.int .i64 a0_1,.bool a0_2,.int .i64 a0_3] 45 (0,0))):=⟨by (with_reducible repeat first|apply blk_drewN|apply blk_drew|apply blk_alloc);refine blk_far ?_ NB159_180.out _;(with_reducible repeat first|apply blk_drewN|apply blk_drew|apply blk_alloc);refine blk_far ?_ NB159_180.out _;(with_reducible repeat first|apply blk_drewN|apply blk_drew|apply blk_alloc);refine blk_far ?_ NB159_180.out _;(with_reducible repeat first|apply blk_drewN|apply blk_drew|apply blk_alloc);refine blk_far ?_ NB159_180.out _;(with_reducible repeat first|apply blk_drewN|apply blk_drew|apply blk_alloc);exact BK159.out⟩
     have n4_ : Aside0 (((((w29.setCell ⟨gb180,0,none⟩ (.slice (some ad172) t162.length co17)).setCell ⟨gb180,1,none⟩ (.slice Ao30 y177.length co30)).setCell ⟨gb180,2,none⟩ (.slice none 0 0)).setCell ⟨gb180,3,none⟩ (.slice none 0 0)).heap[gb160]? = some (.cells #[.slice none 0 0,.slice none 0 0,.slice none 0 0,.slice none 0 0] 29 (0,0))):=⟨by (with_reducible repeat first|apply blk_drewN|apply blk_drew|apply blk_alloc);refine blk_far ?_ NB160_180.out _;(with_reducible repeat first|apply blk_drewN|apply blk_drew|apply blk_alloc);refine blk_far ?_ NB160_180.out _;(with_reducible repeat first|apply blk_drewN|apply blk_drew|apply blk_alloc);refine blk_far ?_ NB160_180.out _;(with_reducible repeat first|apply blk_drewN|apply blk_drew|apply blk_alloc);refine blk_far ?_ NB160_180.out _;(with_reducible repeat first|apply blk_drewN|apply blk_drew|apply blk_alloc);exact BK160.out⟩
     have n5_ : Aside0 (((((w29.setCell ⟨gb180,0,none⟩ (.slice (some ad172) t162.length co17)).setCell ⟨gb180,1,none⟩ (.slice Ao30 y177.length co30)).setCell ⟨gb180,2,none⟩ (.slice none 0 0)).setCell ⟨gb180,3,none⟩ (.slice none 0 0)).heap[gb168]? = some (.cells #[.slice (some ad172) t162.length co17,.int .i64 t165,.bool t166,.int .i64 t167] 45 (0,0))):=⟨by (with_reducible repeat first|apply blk_drewN|apply blk_drew|apply blk_alloc);refine blk_far ?_ NB168_180.out _;(with_reducible repeat first|apply blk_drewN|apply blk_drew|apply blk_alloc);refine blk_far ?_ NB168_180.out _;(with_reducible repeat first|apply blk_drewN|apply blk_drew|apply blk_alloc);refine blk_far ?_ NB168_180.out _;(with_reducible repeat first|apply blk_drewN|apply blk_drew|apply blk_alloc);refine blk_far ?_ NB168_180.out _;(with_reducible repeat first|apply blk_drewN|apply blk_drew|apply blk_alloc);exact BK168.out⟩
     have n6_ : Aside0 (((((w29.setCell ⟨gb180,0,none⟩ (.slice (some ad172) t162.length co17)).setCell ⟨gb180,1,none⟩ (.slice Ao30 y177.length co30)).setCell ⟨gb180,2,none⟩ (.slice none 0 0)).setCell ⟨gb180,3,none⟩ (.slice none 0 0)).heap[gb180]? = some (.cells #[.slice (some ad172) t162.length co17,.slice Ao30 y177.length co30,.slice none 0 0,.slice none 0 0] 29 (0,0))):=⟨by (with_reducible repeat first|apply blk_drewN|apply blk_drew|apply blk_alloc);refine blk_put (cs:=#[.slice (some ad172) t162.length co17,.slice Ao30 y177.length co30,.slice none 0 0,.slice none 0 0]) ?_ 3 _ rfl;(with_reducible repeat first|apply blk_drewN|apply blk_drew|apply blk_alloc);refine blk_put (cs:=#[.slice (some ad172) t162.length co17,.slice Ao30 y177.length co30,.slice none 0 0,.slice none 0 0]) ?_ 2 _ rfl;(with_reducible repeat first|apply blk_drewN|apply blk_drew|apply blk_alloc);refine blk_put (cs:=#[.slice (some ad172) t162.length co17,.slice none 0 0,.slice none 0 0,.slice none 0 0]) ?_ 1 _ rfl;(with_reducible repeat first|apply blk_drewN|apply blk_drew|apply blk_alloc);refine blk_put (cs:=#[.slice none 0 0,.slice none 0 0,.slice none 0 0,.slice none 0 0]) ?_ 0 _ rfl;(with_reducible repeat first|apply blk_drewN|apply blk_drew|apply blk_alloc);exact BK180.out⟩
     have n7_ : Aside0 (Below w.heap.size w ((((w29.setCell ⟨gb180,0,none⟩ (.slice (some ad172) t162.length co17)).setCell ⟨gb180,1,none⟩ (.slice Ao30 y177.length co30)).setCell ⟨gb180,2,none⟩ (.slice none 0 0)).setCell ⟨gb180,3,none⟩ (.slice none 0 0))):=⟨by repeat (first|(with_reducible first|exact HB.out|apply below_alloc|apply pw_below_drewN|apply below_drew1|refine below_set ?_ GE159.out|refine below_set ?_ GE160.out|refine below_set ?_ GE168.out|refine below_set ?_ GE180.out)|exact HB.out)⟩
     (try clear HO164)
     (try clear HL172_0)
     (try clear HO179)
     (try clear BK159)
     (try clear BK160)
     (try clear BK168)
     (try clear BK180)
     (try clear HB)
     generalize ((((w29.setCell ⟨gb180,0,none⟩ (.slice (some ad172) t162.length co17)).setCell ⟨gb180,1,none⟩ (.slice Ao30 y177.length co30)).setCell ⟨gb180,2,none⟩ (.slice none 0 0)).setCell ⟨gb180,3,none⟩ (.slice none 0 0)) = w35 at n0_ n1_ n2_ n3_ n4_ n5_ n6_ n7_ ⊢
     have HO164:=n0_
     have HL172_0:=n1_
     have HO179:=n2_
     have BK159:=n3_
     have BK160:=n4_
     have BK168:=n5_
     have BK180:=n6_
     have HB:=n7_
     clear n0_ n1_ n2_ n3_ n4_ n5_ n6_ n7_
     have hnb36:=NB168_180.out
     have hnc36:=NB180_168.out
     have hcz37_0 : w35.cell? ⟨gb168,0,none⟩ = some (.slice (some ad172) t162.length co17):=(blk_cell BK168.out 0).trans rfl
     have hcz37_1 : w35.cell? ⟨gb168,1,none⟩ = some (.int .i64 t165):=(blk_cell BK168.out 1).trans rfl
     have hcz37_2 : w35.cell? ⟨gb168,2,none⟩ = some (.bool t166):=(blk_cell BK168.out 2).trans rfl
     have hcz37_3 : w35.cell? ⟨gb168,3,none⟩ = some (.int .i64 t167):=(blk_cell BK168.out 3).trans rfl
     have hfz37_0:=blk_frozen BK168.out 0
     have hfz37_1:=blk_frozen BK168.out 1
     have hfz37_2:=blk_frozen BK168.out 2
     have hfz37_3:=blk_frozen BK168.out 3
     have p181 : 0 ≤ (1 : Int):=(by omega)
     have q181 : 1 < (t162.length : Int):=of_decide_eq_true (by assumption)
     obtain ⟨ad181,A181_0,c181_0,e181,hx181_0,hl181_0,hi181_0⟩:=at_L2 (Kd.S_reads' HO164.out).2.2 1 p181 q181
     obtain rfl : ad172 = ad181:=(by injection e181)
     obtain ⟨ce181,hce181,hMe181,hcc181⟩:=Kd.S_get HO164.out [] 1 p181 (by first|exact q181|exact of_decide_eq_true (by assumption)|(have e_:=(Kd.S_reads' HO164.out).1;omega))
     obtain ⟨ve181_0,rfl,ge181_0⟩:=hMe181
     have hv181_0:=hcc181 0 _ rfl
     rw [Nat.add_zero,show ((Kd.slice 5 (Kd.int .u8))).sz = 1 from rfl,Nat.mul_one] at hv181_0
     replace hv181_0:=Option.some.inj (hv181_0.symm.trans hx181_0)
     rw [hv181_0] at ge181_0
     have HL181_0:=Aside0.mk (show Kd.R (Kd.int .u8) 5 _ _ _ _ (rd_L2 t162 1) from ge181_0)
     clear hv181_0 ge181_0
     clear hcc181 hce181
     (try simp only [show (1 : Int).toNat = 1 from rfl,Nat.reduceMul,Nat.reduceEqDiff,Go.Addr.add,↓reduceIte] at hx181_0)
     have qi181 : (1 < t162.length) = True:=eq_true (by omega)
     (try rw [show ((1 : Int)).toNat = 1 from rfl] at hx181_0)
     have HR181_0:=Aside0.mk hi181_0
     have HC181_0:=Aside0.mk hl181_0
     clear hi181_0 hl181_0
     replace p181:=eq_true p181
     replace q181:=eq_true q181
     have q38 : (20 : Int) ≤ (((rd_L2 t162 1).length : Int) : Int):=of_decide_eq_true (by assumption)
     obtain ⟨i038,hi038,_,hsz38,_⟩:=info_parts info5
     have hroom38 : (rd_L2 t162 1).length ≤ c181_0:=HC181_0.out
     have hC38 : Kd.C (Kd.int .u8) _ A181_0 (rd_L2 t162 1).length (rd_L2 t162 1):=(by repeat (first|(with_reducible exact HR181_0.out)|(with_reducible first|apply Kd.C_alloc|apply Kd.C_drewN|apply Kd.C_drew)|exact HR181_0.out))
     have hcut38:=cut_from (P:=Try.prog) 23 5 .i64 Try.underlying23 hi038 1 hsz38 A181_0 (rd_L2 t162 1).length c181_0 20 (by omega) q38
     have hr38:=Kd.C_drop (m:=(20 : Int).toNat) (c:=c181_0) hC38 (by omega) hroom38
     obtain ⟨A38,hA38⟩ : ∃ A1,A1 = (if c181_0 = (20 : Int).toNat then A181_0 else (A181_0 : Option Addr).map (·.add ((20 : Int).toNat * 1))):=⟨_,rfl⟩
     obtain ⟨c38,hc38⟩ : ∃ c1,c1 = c181_0 - (20 : Int).toNat:=⟨_,rfl⟩
     have hy38 : y182.length = (rd_L2 t162 1).length - (20 : Int).toNat:=(by rw [Ny182.out,List.length_drop] <;> omega)
     rw [show (rd_L2 t162 1).drop (20 : Int).toNat = y182 from Ny182.out.symm] at hr38
     replace hr38 : Kd.C (Kd.int .u8) _ A38 y182.length y182:=(by rw [hA38];exact hr38)
     rw [← hy38,← hA38,← hc38] at hcut38
     have HR185:=Aside0.mk hr38
     have HC185:=Aside0.mk (show y182.length ≤ c38 from by rw [hy38,hc38];exact Nat.sub_le_sub_right hroom38 _)
     clear hr38 hC38 hroom38 hi038 hsz38 hc38
     have KY38:=Aside0.mk hy38
     have KA38:=Aside0.mk hA38
     clear hy38 hA38
     replace q38:=eq_true q38
     try go_wp2
     go_loopg [30] k (fun kq v30 w'=>∃ (x30_1 : Int),v30 = .int .i64 x30_1∧Aside0 (spec_OpenSpace.l0 kq y182 (y182.length : Int) x30_1 t162 y177 = some (r1,r2,r3,r4,r5))∧Aside0 (kq ≤ k)∧Aside0 (Kd.S (Kd.slice 5 (Kd.int .u8)) 23 w' w.heap.size (fun k_=>some k_ ≠ ((.slice Ao30 y177.length co30) : Value).ownBlock) (.slice (some ad172) t162.length co17) t162)∧Aside0 (Kd.S (Kd.slice 5 (Kd.int .u8)) 23 w' w.heap.size (fun k_=>some k_ ≠ ((.slice Ao30 y177.length co30) : Value).ownBlock) (.slice (some ad172) t162.length co17) t162)∧Aside0 (Kd.R (Kd.int .u8) 5 w' w.heap.size (fun _=>True) (.slice Ao30 y177.length co30) y177)∧Aside0 (w'.heap[gb159]? = some (.cells #[(.slice A0_0 l0_0.length c0_0),.int .i64 a0_1,.bool a0_2,.int .i64 a0_3] 45 (0,0)))∧Aside0 (w'.heap[gb160]? = some (.cells #[(.slice none 0 0),(.slice none 0 0),(.slice none 0 0),(.slice none 0 0)] 29 (0,0)))∧Aside0 (w'.heap[gb168]? = some (.cells #[(.slice (some ad172) t162.length co17),.int .i64 t165,.bool t166,.int .i64 t167] 45 (0,0)))∧Aside0 (w'.heap[gb180]? = some (.cells #[(.slice (some ad172) t162.length co17),(.slice Ao30 y177.length co30),(.slice none 0 0),(.slice none 0 0)] 29 (0,0)))∧Aside0 (Kd.C (Kd.int .u8) w' A181_0 (rd_L2 t162 1).length (rd_L2 t162 1))∧Aside0 (Kd.C (Kd.int .u8) w' A38 y182.length y182)∧Aside0 (Below w.heap.size w w'))
     case atStart=>exact ⟨(0),(by first|rfl|(simp;done)|(simp [*];done)),H',⟨Nat.le_refl _⟩,⟨by (with_reducible repeat (first|apply Kd.S_alloc|apply Kd.S_drewN|apply Kd.S_drew));exact HO164.out⟩,⟨by (with_reducible repeat (first|apply Kd.S_alloc|apply Kd.S_drewN|apply Kd.S_drew));exact HO164.out⟩,⟨by (with_reducible repeat (first|apply Kd.R_alloc|apply Kd.R_drewN|apply Kd.R_drew));exact Kd.R_mono HO179.out (fun _ hk=>trivial)⟩,⟨by (with_reducible repeat first|apply blk_drewN|apply blk_drew|apply blk_alloc);exact BK159.out⟩,⟨by (with_reducible repeat first|apply blk_drewN|apply blk_drew|apply blk_alloc);exact BK160.out⟩,⟨by (with_reducible repeat first|apply blk_drewN|apply blk_drew|apply blk_alloc);exact BK168.out⟩,⟨by (with_reducible repeat first|apply blk_drewN|apply blk_drew|apply blk_alloc);exact BK180.out⟩,⟨by repeat (first|(with_reducible exact HR181_0.out)|(with_reducible first|apply Kd.C_alloc|apply Kd.C_drewN|apply Kd.C_drew)|exact HR181_0.out)⟩,⟨by repeat (first|(with_reducible exact HR185.out)|(with_reducible first|apply Kd.C_alloc|apply Kd.C_drewN|apply Kd.C_drew)|exact HR185.out)⟩,⟨by repeat (first|(with_reducible first|exact HB.out|apply below_alloc|apply pw_below_drewN|apply below_drew1|refine below_set ?_ GE159.out|refine below_set ?_ GE160.out|refine below_set ?_ GE168.out|refine below_set ?_ GE180.out)|exact HB.out)⟩⟩
     case round =>
      clear H'
      try clear c1;try clear p1;try clear q1;try clear hx1;try clear qi1;try clear p2;try clear c3;try clear q3;try clear c7;try clear c17;try clear c18;try clear p18;try clear q18;try clear hx18;try clear qi18;try clear c36;try clear c38;try clear q38;try clear hcz37_0;try clear hcz37_1;try clear hcz37_2;try clear hcz37_3;try clear hfz37_0;try clear hfz37_1;try clear hfz37_2;try clear hfz37_3;try clear hx181_0;try clear p181;try clear q181;try clear q38
      obtain ⟨x30_1,rfl,HA,HK1,HO_169000,HO_181000,HO_181001,BK159,BK160,BK168,BK180,HR181_0,HR185,HB⟩:=hrel
      cases gk with
      | zero=>exact absurd HA.out (by simp [spec_OpenSpace.l0])
      | succ k1 =>
       have H:=HA.out
       clear HA
       simp only [spec_OpenSpace.l0] at H
       by_cases c39 : x30_1 < (y182.length : Int)
       ·rw [if_pos c39] at H
        have c39b0 : decide (x30_1 < (y182.length : Int)) = true:=decide_eq_true c39
        clear c39
        by_cases c40 : 0 ≤ x30_1
        ·rw [if_pos c40] at H
         have c40b0 : decide (0 ≤ x30_1) = true:=decide_eq_true c40
         clear c40
         by_cases c41 : x30_1 < (y182.length : Int)
         ·rw [if_pos c41] at H
          have c41b0 : decide (x30_1 < (y182.length : Int)) = true:=decide_eq_true c41
          clear c41
          by_cases c42 : (rd y182 x30_1) = 0
          ·rw [if_pos c42] at H
           have c42b0 : ((rd y182 x30_1) == 0) = true:=beq_iff_eq.mpr c42
           have c42b1 : ((rd y182 x30_1) != 0) = false:=bne_eq_false_iff_eq.mpr c42
           clear c42
           have H':=Aside0.mk H
           clear H
           have p186 : 0 ≤ (x30_1 : Int):=of_decide_eq_true (by assumption)
           have q186 : x30_1 < (y182.length : Int):=of_decide_eq_true (by assumption)
           obtain ⟨ad186,e186,hx186_0⟩:=Kd.at_int HR185.out x30_1 p186 q186
           cases e186
           (try replace hx186_0:=(HB.out.cell (World.block_lt_of_cell? w _ hx186_0)).trans hx186_0)
           replace p186:=eq_true p186
           replace q186:=eq_true q186
           go_wp2
           go_roundg k1
           case measure=>have:=HK1.out;omega
           case rel=>exact ⟨(wrap64 (x30_1 + 1)),(by first|rfl|(simp;done)|(simp [*];done)),H',⟨by have:=HK1.out;omega⟩,⟨by (with_reducible repeat (first|apply Kd.S_alloc|apply Kd.S_drewN|apply Kd.S_drew));exact HO_169000.out⟩,⟨by (with_reducible repeat (first|apply Kd.S_alloc|apply Kd.S_drewN|apply Kd.S_drew));exact HO_181000.out⟩,⟨by (with_reducible repeat (first|apply Kd.R_alloc|apply Kd.R_drewN|apply Kd.R_drew));exact HO_181001.out⟩,⟨by (with_reducible repeat first|apply blk_drewN|apply blk_drew|apply blk_alloc);exact BK159.out⟩,⟨by (with_reducible repeat first|apply blk_drewN|apply blk_drew|apply blk_alloc);exact BK160.out⟩,⟨by (with_reducible repeat first|apply blk_drewN|apply blk_drew|apply blk_alloc);exact BK168.out⟩,⟨by (with_reducible repeat first|apply blk_drewN|apply blk_drew|apply blk_alloc);exact BK180.out⟩,⟨by repeat (first|(with_reducible exact HR181_0.out)|(with_reducible first|apply Kd.C_alloc|apply Kd.C_drewN|apply Kd.C_drew)|exact HR181_0.out)⟩,⟨by repeat (first|(with_reducible exact HR185.out)|(with_reducible first|apply Kd.C_alloc|apply Kd.C_drewN|apply Kd.C_drew)|exact HR185.out)⟩,⟨by repeat (first|(with_reducible first|exact HB.out|apply below_alloc|apply pw_below_drewN|apply below_drew1|refine below_set ?_ GE159.out|refine below_set ?_ GE160.out|refine below_set ?_ GE168.out|refine below_set ?_ GE180.out)|exact HB.out)⟩⟩
          ·rw [if_neg c42] at H
           have c42b0 : ((rd y182 x30_1) == 0) = false:=beq_eq_false_iff_ne.mpr c42
           have c42b1 : ((rd y182 x30_1) != 0) = true:=bne_iff_ne.mpr c42
           simp only [Option.some.injEq,Prod.mk.injEq] at H
           obtain ⟨rfl,rfl,rfl,rfl,rfl⟩:=H
           have p186 : 0 ≤ (x30_1 : Int):=of_decide_eq_true (by assumption)
           have q186 : x30_1 < (y182.length : Int):=of_decide_eq_true (by assumption)
           obtain ⟨ad186,e186,hx186_0⟩:=Kd.at_int HR185.out x30_1 p186 q186
           cases e186
           (try replace hx186_0:=(HB.out.cell (World.block_lt_of_cell? w _ hx186_0)).trans hx186_0)
           replace p186:=eq_true p186
           replace q186:=eq_true q186
           have hnb43:=NB160_159.out
           have hnc43:=NB159_160.out
           have hnb44:=NB160_168.out
           have hnc44:=NB168_160.out
           have hnb45:=NB160_180.out
           have hnc45:=NB180_160.out
           have hcz46_0 : wr.cell? ⟨gb160,0,none⟩ = some (.slice none 0 0):=(blk_cell BK160.out 0).trans rfl
           have hcz46_1 : wr.cell? ⟨gb160,1,none⟩ = some (.slice none 0 0):=(blk_cell BK160.out 1).trans rfl
           have hcz46_2 : wr.cell? ⟨gb160,2,none⟩ = some (.slice none 0 0):=(blk_cell BK160.out 2).trans rfl
           have hcz46_3 : wr.cell? ⟨gb160,3,none⟩ = some (.slice none 0 0):=(blk_cell BK160.out 3).trans rfl
           have hfz46_0:=blk_frozen BK160.out 0
           have hfz46_1:=blk_frozen BK160.out 1
           have hfz46_2:=blk_frozen BK160.out 2
           have hfz46_3:=blk_frozen BK160.out 3
           go_wp2
           refine bodyPost_ret (results_ct rfl _ _ gb160 29 #[.slice none 0 0,.slice none 0 0,.slice none 0 0,.slice none 0 0] (0,0) _ rfl (by (with_reducible repeat first|apply blk_drewN|apply blk_drew|apply blk_alloc);refine blk_put (cs:=#[.slice none 0 0,.slice none 0 0,.slice none 0 0,.slice none 0 0]) ?_ 3 _ rfl;(with_reducible repeat first|apply blk_drewN|apply blk_drew|apply blk_alloc);refine blk_put (cs:=#[.slice none 0 0,.slice none 0 0,.slice none 0 0,.slice none 0 0]) ?_ 2 _ rfl;(with_reducible repeat first|apply blk_drewN|apply blk_drew|apply blk_alloc);refine blk_put (cs:=#[.slice none 0 0,.slice none 0 0,.slice none 0 0,.slice none 0 0]) ?_ 1 _ rfl;(with_reducible repeat first|apply blk_drewN|apply blk_drew|apply blk_alloc);refine blk_put (cs:=#[.slice none 0 0,.slice none 0 0,.slice none 0 0,.slice none 0 0]) ?_ 0 _ rfl;(with_reducible repeat first|apply blk_drewN|apply blk_drew|apply blk_alloc);exact BK160.out) Try.underlying29 rfl (by kernel_rfl)) rfl ?_
           exact ⟨_,_,_,_,by first|rfl|(simp [*,errW_none,errW_some] <;> rfl),by first|exact Kd.S_nil _ _ _ _ _|exact Kd.N_nil _ _ _ _ _|exact Kd.V_nil _ _ _ _ _|exact Kd.Q_nil _ _ _ _ _|exact Kd.R_nil _ _ _ _ _,by first|exact Kd.R_nil _ _ _ _ _|exact Kd.N_nil _ _ _ _ _|exact Kd.V_nil _ _ _ _ _|exact Kd.Q_nil _ _ _ _ _|exact Kd.S_nil _ _ _ _ _,by first|exact Kd.R_nil _ _ _ _ _|exact Kd.N_nil _ _ _ _ _|exact Kd.V_nil _ _ _ _ _|exact Kd.Q_nil _ _ _ _ _|exact Kd.S_nil _ _ _ _ _,by first|exact Kd.R_nil _ _ _ _ _|exact Kd.N_nil _ _ _ _ _|exact Kd.V_nil _ _ _ _ _|exact Kd.Q_nil _ _ _ _ _|exact Kd.S_nil _ _ _ _ _,by repeat (first|(with_reducible first|exact HB.out|apply below_alloc|apply pw_below_drewN|apply below_drew1|refine below_set ?_ GE159.out|refine below_set ?_ GE160.out|refine below_set ?_ GE168.out|refine below_set ?_ GE180.out)|exact HB.out)⟩
         ·rw [if_neg c41] at H
          exact absurd H (by simp)
        ·rw [if_neg c40] at H
         exact absurd H (by simp)
       ·rw [if_neg c39] at H
        have c39b0 : decide (x30_1 < (y182.length : Int)) = false:=decide_eq_false c39
        clear c39
        replace H:=Option.bind_eq_some_iff.mp H
        obtain ⟨t187,A470,H⟩:=H
        replace H : (if t187 = true then (some (t162,y177,([] : List Int),([] : List Int),true)) else (some (([] : List (List Int)),([] : List Int),([] : List Int),([] : List Int),false))) = some (r1,r2,r3,r4,r5):=H
        have A47:=Aside0.mk A470
        clear A470
        by_cases c48 : t187 = true
        ·subst c48
         have H1 : (some (t162,y177,([] : List Int),([] : List Int),true)) = some (r1,r2,r3,r4,r5):=by rw [if_pos rfl] at H;exact H
         clear H
         have H:=H1
         clear H1
         simp only [Option.some.injEq,Prod.mk.injEq] at H
         obtain ⟨rfl,rfl,rfl,rfl,rfl⟩:=H
         have hnb49:=NB180_159.out
         have hnc49:=NB159_180.out
         have hnb50:=NB180_160.out
         have hnc50:=NB160_180.out
         have hnb51:=NB180_168.out
         have hnc51:=NB168_180.out
         have hcz52_0 : wr.cell? ⟨gb180,0,none⟩ = some (.slice (some ad172) t162.length co17):=(blk_cell BK180.out 0).trans rfl
         have hcz52_1 : wr.cell? ⟨gb180,1,none⟩ = some (.slice Ao30 y177.length co30):=(blk_cell BK180.out 1).trans rfl
         have hcz52_2 : wr.cell? ⟨gb180,2,none⟩ = some (.slice none 0 0):=(blk_cell BK180.out 2).trans rfl
         have hcz52_3 : wr.cell? ⟨gb180,3,none⟩ = some (.slice none 0 0):=(blk_cell BK180.out 3).trans rfl
         have hfz52_0:=blk_frozen BK180.out 0
         have hfz52_1:=blk_frozen BK180.out 1
         have hfz52_2:=blk_frozen BK180.out 2
         have hfz52_3:=blk_frozen BK180.out 3
         go_wp2_with (first|((with_reducible refine gate_callee (f:=11) rfl ?_);refine goesL_ (some 39) rfl rfl Try.func11 (by kernel_rfl) rfl #[.agg #[.slice (some ad172) t162.length co17,.slice Ao30 y177.length co30,.slice none 0 0,.slice none 0 0]] rfl (by (try simp only [List.map_toArray,List.map_cons,List.map_nil]);first|done|rfl|(simp only [List.length_drop,List.length_take];rfl)) ?_;(refine (spec_GoodSpace.calls k1 _ _ t162 _ _ y177 (fun k_=>False) _ _ ([] : List Int) (fun k_=>False) _ _ ([] : List Int) true _ ?side1 ?side2 ?side3 ?side4 ?side5 ?side6 A47.out).mono ?_);(case side1=>repeat (first|exact (Kd.S_reads' HO_181000.out).2.2|(with_reducible first|apply Kd.C_alloc|apply Kd.C_drewN|apply Kd.C_drew)));(case side2=>exact (Kd.S_reads' HO_181000.out).2.1);(case side3=>repeat (first|exact (Kd.R_reads' HO_181001.out).2.2|(with_reducible first|apply Kd.C_alloc|apply Kd.C_drewN|apply Kd.C_drew)));(case side4=>exact (Kd.R_reads' HO_181001.out).2.1);(case side5=>exact Kd.V_nil _ _ _ _ _);(case side6=>exact Kd.V_nil _ _ _ _ _);rintro e w53 ⟨rfl,hb⟩;refine ⟨_,rfl,?_⟩;have n0_:=Aside0.mk (Kd.S_below (by (with_reducible repeat (first|apply Kd.S_alloc|apply Kd.S_drewN|apply Kd.S_drew));exact HO_169000.out) hb);have n1_:=Aside0.mk (Kd.S_below (by (with_reducible repeat (first|apply Kd.S_alloc|apply Kd.S_drewN|apply Kd.S_drew));exact HO_181000.out) hb);have n2_:=Aside0.mk (Kd.R_below (by (with_reducible repeat (first|apply Kd.R_alloc|apply Kd.R_drewN|apply Kd.R_drew));exact HO_181001.out) hb);have n3_:=Aside0.mk (blk_below (g:=gb159) (o:=.cells #[.slice A0_0 l0_0.length c0_0,.int .i64 a0_1,.bool a0_2,.int .i64 a0_3] 45 (0,0)) (by (with_reducible repeat first|apply blk_drewN|apply blk_drew|apply blk_alloc);exact BK159.out) hb);have n4_:=Aside0.mk (blk_below (g:=gb160) (o:=.cells #[.slice none 0 0,.slice none 0 0,.slice none 0 0,.slice none 0 0] 29 (0,0)) (by (with_reducible repeat first|apply blk_drewN|apply blk_drew|apply blk_alloc);exact BK160.out) hb);have n5_:=Aside0.mk (blk_below (g:=gb168) (o:=.cells #[.slice (some ad172) t162.length co17,.int .i64 t165,.bool t166,.int .i64 t167] 45 (0,0)) (by (with_reducible repeat first|apply blk_drewN|apply blk_drew|apply blk_alloc);exact BK168.out) hb);have n6_:=Aside0.mk (blk_below (g:=gb180) (o:=.cells #[.slice (some ad172) t162.length co17,.slice Ao30 y177.length co30,.slice none 0 0,.slice none 0 0] 29 (0,0)) (by (with_reducible repeat first|apply blk_drewN|apply blk_drew|apply blk_alloc);exact BK180.out) hb);have n7_:=Aside0.mk (Kd.C_below (by repeat (first|(with_reducible exact HR181_0.out)|(with_reducible first|apply Kd.C_alloc|apply Kd.C_drewN|apply Kd.C_drew)|exact HR181_0.out)) hb);have n8_:=Aside0.mk (Kd.C_below (by repeat (first|(with_reducible exact HR185.out)|(with_reducible first|apply Kd.C_alloc|apply Kd.C_drewN|apply Kd.C_drew)|exact HR185.out)) hb);have n9_:=Aside0.mk (below_step (by repeat (first|(with_reducible first|exact HB.out|apply below_alloc|apply pw_below_drewN|apply below_drew1|refine below_set ?_ GE159.out|refine below_set ?_ GE160.out|refine below_set ?_ GE168.out|refine below_set ?_ GE180.out)|exact HB.out)) hb);clear HO_169000;clear HO_181000;clear HO_181001;clear BK159;clear BK160;clear BK168;clear BK180;clear HR181_0;clear HR185;clear HB;have HO_169000:=n0_;have HO_181000:=n1_;have HO_181001:=n2_;have BK159:=n3_;have BK160:=n4_;have BK168:=n5_;have BK180:=n6_;have HR181_0:=n7_;have HR185:=n8_;have HB:=n9_;clear n0_ n1_ n2_ n3_ n4_ n5_ n6_ n7_ n8_ n9_;(try clear hb);(try clear hb2);(try clear hk);(try clear hi);have hcz54_0 : w53.cell? ⟨gb180,0,none⟩ = some (.slice (some ad172) t162.length co17):=(blk_cell BK180.out 0).trans rfl;have hcz54_1 : w53.cell? ⟨gb180,1,none⟩ = some (.slice Ao30 y177.length co30):=(blk_cell BK180.out 1).trans rfl;have hcz54_2 : w53.cell? ⟨gb180,2,none⟩ = some (.slice none 0 0):=(blk_cell BK180.out 2).trans rfl;have hcz54_3 : w53.cell? ⟨gb180,3,none⟩ = some (.slice none 0 0):=(blk_cell BK180.out 3).trans rfl;have hfz54_0:=blk_frozen BK180.out 0;have hfz54_1:=blk_frozen BK180.out 1;have hfz54_2:=blk_frozen BK180.out 2;have hfz54_3:=blk_frozen BK180.out 3;have hnb55:=NB160_159.out;have hnc55:=NB159_160.out;have hnb56:=NB160_168.out;have hnc56:=NB168_160.out;have hcz57_0 : w53.cell? ⟨gb160,0,none⟩ = some (.slice none 0 0):=(blk_cell BK160.out 0).trans rfl;have hcz57_1 : w53.cell? ⟨gb160,1,none⟩ = some (.slice none 0 0):=(blk_cell BK160.out 1).trans rfl;have hcz57_2 : w53.cell? ⟨gb160,2,none⟩ = some (.slice none 0 0):=(blk_cell BK160.out 2).trans rfl;have hcz57_3 : w53.cell? ⟨gb160,3,none⟩ = some (.slice none 0 0):=(blk_cell BK160.out 3).trans rfl;have hfz57_0:=blk_frozen BK160.out 0;have hfz57_1:=blk_frozen BK160.out 1;have hfz57_2:=blk_frozen BK160.out 2;have hfz57_3:=blk_frozen BK160.out 3))
         refine bodyPost_ret (results_ct rfl _ _ gb160 29 #[.slice (some ad172) t162.length co17,.slice Ao30 y177.length co30,.slice none 0 0,.slice none 0 0] (0,0) _ rfl (by (with_reducible repeat first|apply blk_drewN|apply blk_drew|apply blk_alloc);refine blk_put (cs:=#[.slice (some ad172) t162.length co17,.slice Ao30 y177.length co30,.slice none 0 0,.slice none 0 0]) ?_ 3 _ rfl;(with_reducible repeat first|apply blk_drewN|apply blk_drew|apply blk_alloc);refine blk_put (cs:=#[.slice (some ad172) t162.length co17,.slice Ao30 y177.length co30,.slice none 0 0,.slice none 0 0]) ?_ 2 _ rfl;(with_reducible repeat first|apply blk_drewN|apply blk_drew|apply blk_alloc);refine blk_put (cs:=#[.slice (some ad172) t162.length co17,.slice none 0 0,.slice none 0 0,.slice none 0 0]) ?_ 1 _ rfl;(with_reducible repeat first|apply blk_drewN|apply blk_drew|apply blk_alloc);refine blk_put (cs:=#[.slice none 0 0,.slice none 0 0,.slice none 0 0,.slice none 0 0]) ?_ 0 _ rfl;(with_reducible repeat first|apply blk_drewN|apply blk_drew|apply blk_alloc);exact BK160.out) Try.underlying29 rfl (by kernel_rfl)) rfl ?_
         exact ⟨_,_,_,_,by first|rfl|(simp [*,errW_none,errW_some] <;> rfl),by (with_reducible repeat (first|apply Kd.S_alloc|apply Kd.S_drewN|apply Kd.S_drew));exact Kd.S_mono (Kd.S_far (p:=⟨gb160,3,none⟩) (Kd.S_far (p:=⟨gb160,2,none⟩) (Kd.S_far (p:=⟨gb160,1,none⟩) (Kd.S_far (p:=⟨gb160,0,none⟩) (Kd.S_types HO_181000.out BK160.out (by decide)) (fun _ hk=>hk.2) (.slice (some ad172) t162.length co17)) (fun _ hk=>hk.2) (.slice Ao30 y177.length co30)) (fun _ hk=>hk.2) (.slice none 0 0)) (fun _ hk=>hk.2) (.slice none 0 0)) (fun _ hk=>hk.1),by (with_reducible repeat (first|apply Kd.R_alloc|apply Kd.R_drewN|apply Kd.R_drew));exact Kd.R_mono (Kd.R_far (p:=⟨gb160,3,none⟩) (Kd.R_far (p:=⟨gb160,2,none⟩) (Kd.R_far (p:=⟨gb160,1,none⟩) (Kd.R_far (p:=⟨gb160,0,none⟩) (Kd.R_types HO_181001.out BK160.out (by decide)) (fun _ hk=>hk.2) (.slice (some ad172) t162.length co17)) (fun _ hk=>hk.2) (.slice Ao30 y177.length co30)) (fun _ hk=>hk.2) (.slice none 0 0)) (fun _ hk=>hk.2) (.slice none 0 0)) (fun _ hk=>trivial),by first|exact Kd.R_nil _ _ _ _ _|exact Kd.N_nil _ _ _ _ _|exact Kd.V_nil _ _ _ _ _|exact Kd.Q_nil _ _ _ _ _|exact Kd.S_nil _ _ _ _ _,by first|exact Kd.R_nil _ _ _ _ _|exact Kd.N_nil _ _ _ _ _|exact Kd.V_nil _ _ _ _ _|exact Kd.Q_nil _ _ _ _ _|exact Kd.S_nil _ _ _ _ _,by repeat (first|(with_reducible first|exact HB.out|apply below_alloc|apply pw_below_drewN|apply below_drew1|refine below_set ?_ GE159.out|refine below_set ?_ GE160.out|refine below_set ?_ GE168.out|refine below_set ?_ GE180.out)|exact HB.out)⟩
        ·replace c48:=Bool.eq_false_iff.mpr c48
         subst c48
         have H1 : (some (([] : List (List Int)),([] : List Int),([] : List Int),([] : List Int),false)) = some (r1,r2,r3,r4,r5):=by rw [if_neg (show ¬ (false = true) by decide)] at H;exact H
         clear H
         have H:=H1
         clear H1
         simp only [Option.some.injEq,Prod.mk.injEq] at H
         obtain ⟨rfl,rfl,rfl,rfl,rfl⟩:=H
         have hnb58:=NB180_159.out
         have hnc58:=NB159_180.out
         have hnb59:=NB180_160.out
         have hnc59:=NB160_180.out
         have hnb60:=NB180_168.out
         have hnc60:=NB168_180.out
         have hcz61_0 : wr.cell? ⟨gb180,0,none⟩ = some (.slice (some ad172) t162.length co17):=(blk_cell BK180.out 0).trans rfl
         have hcz61_1 : wr.cell? ⟨gb180,1,none⟩ = some (.slice Ao30 y177.length co30):=(blk_cell BK180.out 1).trans rfl
         have hcz61_2 : wr.cell? ⟨gb180,2,none⟩ = some (.slice none 0 0):=(blk_cell BK180.out 2).trans rfl
         have hcz61_3 : wr.cell? ⟨gb180,3,none⟩ = some (.slice none 0 0):=(blk_cell BK180.out 3).trans rfl
         have hfz61_0:=blk_frozen BK180.out 0
         have hfz61_1:=blk_frozen BK180.out 1
         have hfz61_2:=blk_frozen BK180.out 2
         have hfz61_3:=blk_frozen BK180.out 3
         go_wp2_with (first|((with_reducible refine gate_callee (f:=11) rfl ?_);refine goesL_ (some 39) rfl rfl Try.func11 (by kernel_rfl) rfl #[.agg #[.slice (some ad172) t162.length co17,.slice Ao30 y177.length co30,.slice none 0 0,.slice none 0 0]] rfl (by (try simp only [List.map_toArray,List.map_cons,List.map_nil]);first|done|rfl|(simp only [List.length_drop,List.length_take];rfl)) ?_;(refine (spec_GoodSpace.calls k1 _ _ t162 _ _ y177 (fun k_=>False) _ _ ([] : List Int) (fun k_=>False) _ _ ([] : List Int) false _ ?side1 ?side2 ?side3 ?side4 ?side5 ?side6 A47.out).mono ?_);(case side1=>repeat (first|exact (Kd.S_reads' HO_181000.out).2.2|(with_reducible first|apply Kd.C_alloc|apply Kd.C_drewN|apply Kd.C_drew)));(case side2=>exact (Kd.S_reads' HO_181000.out).2.1);(case side3=>repeat (first|exact (Kd.R_reads' HO_181001.out).2.2|(with_reducible first|apply Kd.C_alloc|apply Kd.C_drewN|apply Kd.C_drew)));(case side4=>exact (Kd.R_reads' HO_181001.out).2.1);(case side5=>exact Kd.V_nil _ _ _ _ _);(case side6=>exact Kd.V_nil _ _ _ _ _);rintro e w62 ⟨rfl,hb⟩;refine ⟨_,rfl,?_⟩;have n0_:=Aside0.mk (Kd.S_below (by (with_reducible repeat (first|apply Kd.S_alloc|apply Kd.S_drewN|apply Kd.S_drew));exact HO_169000.out) hb);have n1_:=Aside0.mk (Kd.S_below (by (with_reducible repeat (first|apply Kd.S_alloc|apply Kd.S_drewN|apply Kd.S_drew));exact HO_181000.out) hb);have n2_:=Aside0.mk (Kd.R_below (by (with_reducible repeat (first|apply Kd.R_alloc|apply Kd.R_drewN|apply Kd.R_drew));exact HO_181001.out) hb);have n3_:=Aside0.mk (blk_below (g:=gb159) (o:=.cells #[.slice A0_0 l0_0.length c0_0,.int .i64 a0_1,.bool a0_2,.int .i64 a0_3] 45 (0,0)) (by (with_reducible repeat first|apply blk_drewN|apply blk_drew|apply blk_alloc);exact BK159.out) hb);have n4_:=Aside0.mk (blk_below (g:=gb160) (o:=.cells #[.slice none 0 0,.slice none 0 0,.slice none 0 0,.slice none 0 0] 29 (0,0)) (by (with_reducible repeat first|apply blk_drewN|apply blk_drew|apply blk_alloc);exact BK160.out) hb);have n5_:=Aside0.mk (blk_below (g:=gb168) (o:=.cells #[.slice (some ad172) t162.length co17,.int .i64 t165,.bool t166,.int .i64 t167] 45 (0,0)) (by (with_reducible repeat first|apply blk_drewN|apply blk_drew|apply blk_alloc);exact BK168.out) hb);have n6_:=Aside0.mk (blk_below (g:=gb180) (o:=.cells #[.slice (some ad172) t162.length co17,.slice Ao30 y177.length co30,.slice none 0 0,.slice none 0 0] 29 (0,0)) (by (with_reducible repeat first|apply blk_drewN|apply blk_drew|apply blk_alloc);exact BK180.out) hb);have n7_:=Aside0.mk (Kd.C_below (by repeat (first|(with_reducible exact HR181_0.out)|(with_reducible first|apply Kd.C_alloc|apply Kd.C_drewN|apply Kd.C_drew)|exact HR181_0.out)) hb);have n8_:=Aside0.mk (Kd.C_below (by repeat (first|(with_reducible exact HR185.out)|(with_reducible first|apply Kd.C_alloc|apply Kd.C_drewN|apply Kd.C_drew)|exact HR185.out)) hb);have n9_:=Aside0.mk (below_step (by repeat (first|(with_reducible first|exact HB.out|apply below_alloc|apply pw_below_drewN|apply below_drew1|refine below_set ?_ GE159.out|refine below_set ?_ GE160.out|refine below_set ?_ GE168.out|refine below_set ?_ GE180.out)|exact HB.out)) hb);clear HO_169000;clear HO_181000;clear HO_181001;clear BK159;clear BK160;clear BK168;clear BK180;clear HR181_0;clear HR185;clear HB;have HO_169000:=n0_;have HO_181000:=n1_;have HO_181001:=n2_;have BK159:=n3_;have BK160:=n4_;have BK168:=n5_;have BK180:=n6_;have HR181_0:=n7_;have HR185:=n8_;have HB:=n9_;clear n0_ n1_ n2_ n3_ n4_ n5_ n6_ n7_ n8_ n9_;(try clear hb);(try clear hb2);(try clear hk);(try clear hi);have hnb63:=NB160_159.out;have hnc63:=NB159_160.out;have hnb64:=NB160_168.out;have hnc64:=NB168_160.out;have hcz65_0 : w62.cell? ⟨gb160,0,none⟩ = some (.slice none 0 0):=(blk_cell BK160.out 0).trans rfl;have hcz65_1 : w62.cell? ⟨gb160,1,none⟩ = some (.slice none 0 0):=(blk_cell BK160.out 1).trans rfl;have hcz65_2 : w62.cell? ⟨gb160,2,none⟩ = some (.slice none 0 0):=(blk_cell BK160.out 2).trans rfl;have hcz65_3 : w62.cell? ⟨gb160,3,none⟩ = some (.slice none 0 0):=(blk_cell BK160.out 3).trans rfl;have hfz65_0:=blk_frozen BK160.out 0;have hfz65_1:=blk_frozen BK160.out 1;have hfz65_2:=blk_frozen BK160.out 2;have hfz65_3:=blk_frozen BK160.out 3))
         refine bodyPost_ret (results_ct rfl _ _ gb160 29 #[.slice none 0 0,.slice none 0 0,.slice none 0 0,.slice none 0 0] (0,0) _ rfl (by (with_reducible repeat first|apply blk_drewN|apply blk_drew|apply blk_alloc);refine blk_put (cs:=#[.slice none 0 0,.slice none 0 0,.slice none 0 0,.slice none 0 0]) ?_ 3 _ rfl;(with_reducible repeat first|apply blk_drewN|apply blk_drew|apply blk_alloc);refine blk_put (cs:=#[.slice none 0 0,.slice none 0 0,.slice none 0 0,.slice none 0 0]) ?_ 2 _ rfl;(with_reducible repeat first|apply blk_drewN|apply blk_drew|apply blk_alloc);refine blk_put (cs:=#[.slice none 0 0,.slice none 0 0,.slice none 0 0,.slice none 0 0]) ?_ 1 _ rfl;(with_reducible repeat first|apply blk_drewN|apply blk_drew|apply blk_alloc);refine blk_put (cs:=#[.slice none 0 0,.slice none 0 0,.slice none 0 0,.slice none 0 0]) ?_ 0 _ rfl;(with_reducible repeat first|apply blk_drewN|apply blk_drew|apply blk_alloc);exact BK160.out) Try.underlying29 rfl (by kernel_rfl)) rfl ?_
         exact ⟨_,_,_,_,by first|rfl|(simp [*,errW_none,errW_some] <;> rfl),by first|exact Kd.S_nil _ _ _ _ _|exact Kd.N_nil _ _ _ _ _|exact Kd.V_nil _ _ _ _ _|exact Kd.Q_nil _ _ _ _ _|exact Kd.R_nil _ _ _ _ _,by first|exact Kd.R_nil _ _ _ _ _|exact Kd.N_nil _ _ _ _ _|exact Kd.V_nil _ _ _ _ _|exact Kd.Q_nil _ _ _ _ _|exact Kd.S_nil _ _ _ _ _,by first|exact Kd.R_nil _ _ _ _ _|exact Kd.N_nil _ _ _ _ _|exact Kd.V_nil _ _ _ _ _|exact Kd.Q_nil _ _ _ _ _|exact Kd.S_nil _ _ _ _ _,by first|exact Kd.R_nil _ _ _ _ _|exact Kd.N_nil _ _ _ _ _|exact Kd.V_nil _ _ _ _ _|exact Kd.Q_nil _ _ _ _ _|exact Kd.S_nil _ _ _ _ _,by repeat (first|(with_reducible first|exact HB.out|apply below_alloc|apply pw_below_drewN|apply below_drew1|refine below_set ?_ GE159.out|refine below_set ?_ GE160.out|refine below_set ?_ GE168.out|refine below_set ?_ GE180.out)|exact HB.out)⟩
    ·rw [if_neg c7] at H
     exact absurd H (by simp)
   ·rw [if_neg c6] at H
    exact absurd H (by simp)
  ·rw [if_neg c5] at H
   exact absurd H (by simp)
 ·replace c3:=Bool.eq_false_iff.mpr c3
  subst c3
  have H1 : (some (([] : List (List Int)),([] : List Int),([] : List Int),([] : List Int),false)) = some (r1,r2,r3,r4,r5):=by rw [if_neg (show ¬ (false = true) by decide)] at H;exact H
  clear H
  have H:=H1
  clear H1
  simp only [Option.some.injEq,Prod.mk.injEq] at H
  obtain ⟨rfl,rfl,rfl,rfl,rfl⟩:=H
  go_enter Try.func24,Try.ntmps24
  go_wp2_with (first|((with_reducible refine gate_dst (N:=1) rfl ?_);refine box_event ?hg (N:=1) ?hd (cs:=#[.slice A0_0 l0_0.length c0_0,.int .i64 a0_1,.bool a0_2,.int .i64 a0_3]) (t:=45) ?hr ?_;(case hd=>rfl);(case hg=>rfl);(case hr=>first|(go_simp;done)|(go_simp;rfl));intro gb159 hg w66 hbox hb;have n0_:=Aside0.mk (below_step (by repeat (first|exact HB.out|apply below_alloc|apply pw_below_drewN|apply below_drew1)) hb);have n1_:=Aside0.mk (hbox);have n2_:=Aside0.mk ((by rw [hg];exact (below_size (by repeat (first|exact HB.out|apply below_alloc|apply pw_below_drewN|apply below_drew1))) : w.heap.size ≤ gb159));have n3_:=Aside0.mk ((by rw [hg];exact (below_size (by repeat (first|exact HB.out|apply below_alloc|apply pw_below_drewN|apply below_drew1))) : w.heap.size ≤ gb159));clear HB;have HB:=n0_;have BK159:=n1_;have GW159:=n2_;have GE159:=n3_;clear n0_ n1_ n2_ n3_;clear hb hbox hg)|((with_reducible refine gate_dst (N:=2) rfl ?_);refine box_event ?hg (N:=2) ?hd (cs:=#[.slice none 0 0,.slice none 0 0,.slice none 0 0,.slice none 0 0]) (t:=29) ?hr ?_;(case hd=>rfl);(case hg=>rfl);(case hr=>first|(go_simp;done)|(go_simp;rfl));intro gb160 hg w67 hbox hb;have n0_:=Aside0.mk (blk_below (g:=gb159) (o:=.cells #[.slice A0_0 l0_0.length c0_0,.int .i64 a0_1,.bool a0_2,.int .i64 a0_3] 45 (0,0)) (by (with_reducible repeat first|apply blk_drewN|apply blk_drew|apply blk_alloc);exact BK159.out) hb);have n1_:=Aside0.mk (below_step (by repeat (first|(with_reducible first|exact HB.out|apply below_alloc|apply pw_below_drewN|apply below_drew1|refine below_set ?_ GE159.out)|exact HB.out)) hb);have n2_:=Aside0.mk (hbox);have n3_:=Aside0.mk ((by rw [hg];exact (below_size (by repeat (first|(with_reducible first|exact HB.out|apply below_alloc|apply pw_below_drewN|apply below_drew1|refine below_set ?_ GE159.out)|exact HB.out))) : w.heap.size ≤ gb160));have n4_:=Aside0.mk ((by rw [hg];exact (below_size (by repeat (first|(with_reducible first|exact HB.out|apply below_alloc|apply pw_below_drewN|apply below_drew1|refine below_set ?_ GE159.out)|exact HB.out))) : w.heap.size ≤ gb160));have n5_:=Aside0.mk ((by rw [hg];exact Nat.ne_of_lt (blk_lt (g:=gb159) (o:=.cells #[.slice A0_0 l0_0.length c0_0,.int .i64 a0_1,.bool a0_2,.int .i64 a0_3] 45 (0,0)) (by (with_reducible repeat first|apply blk_drewN|apply blk_drew|apply blk_alloc);exact BK159.out)) : gb159 ≠ gb160));have n6_:=Aside0.mk ((by rw [hg];exact Nat.ne_of_gt (blk_lt (g:=gb159) (o:=.cells #[.slice A0_0 l0_0.length c0_0,.int .i64 a0_1,.bool a0_2,.int .i64 a0_3] 45 (0,0)) (by (with_reducible repeat first|apply blk_drewN|apply blk_drew|apply blk_alloc);exact BK159.out)) : gb160 ≠ gb159));clear BK159;clear HB;have BK159:=n0_;have HB:=n1_;have BK160:=n2_;have GW160:=n3_;have GE160:=n4_;have NB159_160:=n5_;have NB160_159:=n6_;clear n0_ n1_ n2_ n3_ n4_ n5_ n6_;clear hb hbox hg;have hnb68:=NB159_160.out;have hnc68:=NB160_159.out;have hcz69_0 : w67.cell? ⟨gb159,0,none⟩ = some (.slice A0_0 l0_0.length c0_0):=(blk_cell BK159.out 0).trans rfl;have hcz69_1 : w67.cell? ⟨gb159,1,none⟩ = some (.int .i64 a0_1):=(blk_cell BK159.out 1).trans rfl;have hcz69_2 : w67.cell? ⟨gb159,2,none⟩ = some (.bool a0_2):=(blk_cell BK159.out 2).trans rfl;have hcz69_3 : w67.cell? ⟨gb159,3,none⟩ = some (.int .i64 a0_3):=(blk_cell BK159.out 3).trans rfl;have hfz69_0:=blk_frozen BK159.out 0;have hfz69_1:=blk_frozen BK159.out 1;have hfz69_2:=blk_frozen BK159.out 2;have hfz69_3:=blk_frozen BK159.out 3)|((with_reducible refine gate_callee (f:=56) rfl ?_);refine goesL_ (some 9) rfl rfl Try.func56 (by kernel_rfl) rfl #[.agg #[.slice A0_0 l0_0.length c0_0,.int .i64 a0_1,.bool a0_2,.int .i64 a0_3]] rfl (by (try simp only [List.map_toArray,List.map_cons,List.map_nil]);first|done|rfl|(simp only [List.length_drop,List.length_take];rfl)) ?_;(with_reducible refine (spec_GoodDisk.calls k _ _ l0_0 a0_1 a0_2 a0_3 false _ ?side1 ?side2 A2.out).mono ?_);(case side1=>repeat (first|exact (Kd.C_below HR0_0.out HB.out)|(with_reducible first|apply Kd.C_alloc|apply Kd.C_drewN|apply Kd.C_drew)));(case side2=>exact HC0_0.out);rintro e w70 ⟨rfl,hb⟩;refine ⟨_,rfl,?_⟩;have n0_:=Aside0.mk (blk_below (g:=gb159) (o:=.cells #[.slice A0_0 l0_0.length c0_0,.int .i64 a0_1,.bool a0_2,.int .i64 a0_3] 45 (0,0)) (by (with_reducible repeat first|apply blk_drewN|apply blk_drew|apply blk_alloc);exact BK159.out) hb);have n1_:=Aside0.mk (blk_below (g:=gb160) (o:=.cells #[.slice none 0 0,.slice none 0 0,.slice none 0 0,.slice none 0 0] 29 (0,0)) (by (with_reducible repeat first|apply blk_drewN|apply blk_drew|apply blk_alloc);exact BK160.out) hb);have n2_:=Aside0.mk (below_step (by repeat (first|(with_reducible first|exact HB.out|apply below_alloc|apply pw_below_drewN|apply below_drew1|refine below_set ?_ GE159.out|refine below_set ?_ GE160.out)|exact HB.out)) hb);clear BK159;clear BK160;clear HB;have BK159:=n0_;have BK160:=n1_;have HB:=n2_;clear n0_ n1_ n2_;(try clear hb);(try clear hb2);(try clear hk);(try clear hi);have hcz71_0 : w70.cell? ⟨gb160,0,none⟩ = some (.slice none 0 0):=(blk_cell BK160.out 0).trans rfl;have hcz71_1 : w70.cell? ⟨gb160,1,none⟩ = some (.slice none 0 0):=(blk_cell BK160.out 1).trans rfl;have hcz71_2 : w70.cell? ⟨gb160,2,none⟩ = some (.slice none 0 0):=(blk_cell BK160.out 2).trans rfl;have hcz71_3 : w70.cell? ⟨gb160,3,none⟩ = some (.slice none 0 0):=(blk_cell BK160.out 3).trans rfl;have hfz71_0:=blk_frozen BK160.out 0;have hfz71_1:=blk_frozen BK160.out 1;have hfz71_2:=blk_frozen BK160.out 2;have hfz71_3:=blk_frozen BK160.out 3))
  refine bodyPost_ret (results_ct rfl _ _ gb160 29 #[.slice none 0 0,.slice none 0 0,.slice none 0 0,.slice none 0 0] (0,0) _ rfl (by (with_reducible repeat first|apply blk_drewN|apply blk_drew|apply blk_alloc);refine blk_put (cs:=#[.slice none 0 0,.slice none 0 0,.slice none 0 0,.slice none 0 0]) ?_ 3 _ rfl;(with_reducible repeat first|apply blk_drewN|apply blk_drew|apply blk_alloc);refine blk_put (cs:=#[.slice none 0 0,.slice none 0 0,.slice none 0 0,.slice none 0 0]) ?_ 2 _ rfl;(with_reducible repeat first|apply blk_drewN|apply blk_drew|apply blk_alloc);refine blk_put (cs:=#[.slice none 0 0,.slice none 0 0,.slice none 0 0,.slice none 0 0]) ?_ 1 _ rfl;(with_reducible repeat first|apply blk_drewN|apply blk_drew|apply blk_alloc);refine blk_put (cs:=#[.slice none 0 0,.slice none 0 0,.slice none 0 0,.slice none 0 0]) ?_ 0 _ rfl;(with_reducible repeat first|apply blk_drewN|apply blk_drew|apply blk_alloc);exact BK160.out) Try.underlying29 rfl (by kernel_rfl)) rfl ?_
  exact ⟨_,_,_,_,by first|rfl|(simp [*,errW_none,errW_some] <;> rfl),by first|exact Kd.S_nil _ _ _ _ _|exact Kd.N_nil _ _ _ _ _|exact Kd.V_nil _ _ _ _ _|exact Kd.Q_nil _ _ _ _ _|exact Kd.R_nil _ _ _ _ _,by first|exact Kd.R_nil _ _ _ _ _|exact Kd.N_nil _ _ _ _ _|exact Kd.V_nil _ _ _ _ _|exact Kd.Q_nil _ _ _ _ _|exact Kd.S_nil _ _ _ _ _,by first|exact Kd.R_nil _ _ _ _ _|exact Kd.N_nil _ _ _ _ _|exact Kd.V_nil _ _ _ _ _|exact Kd.Q_nil _ _ _ _ _|exact Kd.S_nil _ _ _ _ _,by first|exact Kd.R_nil _ _ _ _ _|exact Kd.N_nil _ _ _ _ _|exact Kd.V_nil _ _ _ _ _|exact Kd.Q_nil _ _ _ _ _|exact Kd.S_nil _ _ _ _ _,by repeat (first|(with_reducible first|exact HB.out|apply below_alloc|apply pw_below_drewN|apply below_drew1|refine below_set ?_ GE159.out|refine below_set ?_ GE160.out)|exact HB.out)⟩

end Go.Proofs.Ytlphbpaojcdjaaa.PFnExactOpenSpace
