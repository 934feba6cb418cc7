-- Written by a program of this session over the print of the kit (wip/t/patch_print.py).
import Derived.Test.YtebmncdjlmnbnaaPFnExactComposeChangesx0
import Derived.Test.YtebmncdjlmnbnaaPFnExactComposeChangesx1
import Derived.Test.YtebmncdjlmnbnaaPFnExactComposeChangesx9
namespace Go.Proofs.Ytebmncdjlmnbnaa.PFnExactComposeChanges
open Go.RowKit Go.Proofs.YtebmncdjlmnbnaaW.PrintWords Go.Proofs.YtebmncdjlmnbnaaW.PrintLast Go.Proofs.YtebmncdjlmnbnaaW.PrintMore
attribute [local go_sem] max2_int min2_int max_two min_two max_three min_three max_four min_four   -- for this text's walks alone
set_option linter.unusedVariables false
set_option linter.unusedSimpArgs false

attribute [local go_sem high] eqA74
/-! ### impl_builder_add: function 73 -/
def impl_builder_add.f (k : Nat) (l0_0 : List (S74)) (a1_0 : Int) (a1_1 : Int) (a1_2 : ByteArray) : Option ((List (S74))):=if (a1_0 == 0 && (a1_1 == 0 && (a1_2.toList == ([] : List UInt8)))) = true then (some l0_0) else (if (l0_0.length : Int) > 0 then (if 0 ≤ (wrap64 ((l0_0.length : Int) - 1)) then (if (wrap64 ((l0_0.length : Int) - 1)) < (l0_0.length : Int) then ((impl_Part_kind.f k ((rd_T74 l0_0 (wrap64 ((l0_0.length : Int) - 1))).f0) ((rd_T74 l0_0 (wrap64 ((l0_0.length : Int) - 1))).f1) ((rd_T74 l0_0 (wrap64 ((l0_0.length : Int) - 1))).f2)).bind fun t276=>((impl_Part_kind.f k a1_0 a1_1 a1_2).bind fun t277=>(if t276 = t277 then (if ((rd_T74 l0_0 (wrap64 ((l0_0.length : Int) - 1))).f2).size + a1_2.size ≤ 9223372036854775807 then ((some (l0_0.set ((wrap64 ((l0_0.length : Int) - 1)) : Int).toNat (⟨wrap64 (((rd_T74 l0_0 (wrap64 ((l0_0.length : Int) - 1))).f0) + a1_0),(rd_T74 l0_0 (wrap64 ((l0_0.length : Int) - 1))).f1,(rd_T74 l0_0 (wrap64 ((l0_0.length : Int) - 1))).f2⟩ : S74) : List (S74))).bind fun y279=>((some (y279.set ((wrap64 ((l0_0.length : Int) - 1)) : Int).toNat (⟨(rd_T74 y279 (wrap64 ((l0_0.length : Int) - 1))).f0,wrap64 (((rd_T74 l0_0 (wrap64 ((l0_0.length : Int) - 1))).f1) + a1_1),(rd_T74 y279 (wrap64 ((l0_0.length : Int) - 1))).f2⟩ : S74) : List (S74))).bind fun y280=>(some (y280.set ((wrap64 ((l0_0.length : Int) - 1)) : Int).toNat (⟨(rd_T74 y280 (wrap64 ((l0_0.length : Int) - 1))).f0,(rd_T74 y280 (wrap64 ((l0_0.length : Int) - 1))).f1,((rd_T74 l0_0 (wrap64 ((l0_0.length : Int) - 1))).f2) ++ a1_2⟩ : S74))))) else (none)) else (if l0_0.length < 4398046511104 then (some (l0_0 ++ [(⟨a1_0,a1_1,a1_2⟩ : S74)])) else (none))))) else (none)) else (none)) else (if l0_0.length < 4398046511104 then (some (l0_0 ++ [(⟨a1_0,a1_1,a1_2⟩ : S74)])) else (none)))
theorem impl_builder_add.mono : ∀ a0 a1 a2 a3 k,LeO (impl_builder_add.f k a0 a1 a2 a3) (impl_builder_add.f (k + 1) a0 a1 a2 a3):=by
 intro a0 a1 a2 a3 k
 unfold impl_builder_add.f
 repeat' first
   | (with_reducible exact impl_Part_kind.mono _ _ _ _)
   | (with_reducible exact LeO.refl _)
   | (with_reducible exact LeO.none _)
   | (with_reducible refine LeO.ite ?_ ?_)
   | (with_reducible refine LeO.bind ?_ (fun _=>?_))
   | exact impl_Part_kind.mono _ _ _ _
   | exact LeO.none _
   | refine LeO.ite ?_ ?_
   | refine LeO.bind ?_ (fun _=>?_)
def impl_builder_add.T2 : Bool × List (List Nat × List Nat):=(true,[([],[]),([],[]),([1],[1]),([2],[2]),([3],[3]),([],[]),([5],[5]),([4,6],[4,6]),([0,0,1,2,3,4,5,6,7],[0]),([8,0,1,2,3,4,5,6,7],[8]),([9,7,7,0,1,2,3,4,5,6,7],[7,9])])
def impl_builder_add.B2 : List Nat:=[0,0,2,6,14,0,32,126,255,511,1023]
theorem impl_builder_add.tab2 : rtab .any (opsOf Try.f73 2) = impl_builder_add.T2:=by kernel_rfl
theorem impl_builder_add.bits2 : waitsOk impl_builder_add.T2.2 impl_builder_add.B2 = true:=by kernel_rfl
def impl_builder_add.T4 : Bool × List (List Nat × List Nat):=(true,[([],[]),([0],[0]),([1],[1]),([2],[2]),([3,2],[2,3]),([4,2],[2,4]),([5,2],[2,5]),([2],[2]),([7,2],[2,7]),([6,8,2],[2,6,8]),([9,2],[2,9]),([10,2,2],[2,10]),([2],[2]),([12,11,2],[2,12]),([11,13,2],[2,11,13]),([2,14],[2,14]),([15,13],[15])])
def impl_builder_add.B4 : List Nat:=[0,1,3,7,15,31,63,7,135,511,1023,2047,7,8191,16383,32767,65535]
theorem impl_builder_add.tab4 : rtab .any (opsOf Try.f73 4) = impl_builder_add.T4:=by kernel_rfl
theorem impl_builder_add.bits4 : waitsOk impl_builder_add.T4.2 impl_builder_add.B4 = true:=by kernel_rfl
def impl_builder_add.T6 : Bool × List (List Nat × List Nat):=(true,[([],[]),([],[]),([],[]),([],[]),([3],[3]),([4],[4]),([5],[5]),([],[]),([7],[7]),([6,8],[6,8]),([],[]),([10],[10]),([11],[11]),([12],[12]),([],[]),([14],[14]),([13,15],[13,15]),([],[]),([17],[17]),([18],[18]),([19],[19]),([],[]),([21],[21]),([20,22],[20,22]),([0,0,3,4,5,6,7,8,9,13,20],[0]),([24,0,3,4,5,6,7,8,9,13,20],[24]),([25,9,0,3,4,5,6,7,8,9,13,20],[9,25]),([1,0,1,3,4,5,6,7,8,9,10,11,12,13,14,15,16,20,24,25,26],[1]),([27,0,1,3,4,5,6,7,8,9,10,11,12,13,14,15,16,20,24,25,26],[27]),([28,16,26,0,1,3,4,5,6,7,8,9,10,11,12,13,14,15,16,20,24,25,26],[16,28]),([2,0,1,2,3,4,5,6,7,8,9,10,11,12,13,14,15,16,17,18,19,20,21,22,23,24,25,26,27,28,29],[2]),([30,0,1,2,3,4,5,6,7,8,9,10,11,12,13,14,15,16,17,18,19,20,21,22,23,24,25,26,27,28,29],[30]),([31,23,29,0,1,2,3,4,5,6,7,8,9,10,11,12,13,14,15,16,17,18,19,20,21,22,23,24,25,26,27,28,29],[23,31])])
def impl_builder_add.B6 : List Nat:=[0,0,0,0,8,24,56,0,128,504,0,1024,3072,7168,0,16384,64512,0,131072,393216,917504,0,2097152,8257536,1982457,18759673,52314105,119537659,253755387,522190843,1073741823,2147483647,4294967295]
theorem impl_builder_add.tab6 : rtab .any (opsOf Try.f73 6) = impl_builder_add.T6:=by kernel_rfl
theorem impl_builder_add.bits6 : waitsOk impl_builder_add.T6.2 impl_builder_add.B6 = true:=by kernel_rfl
set_option maxHeartbeats 8000000 in
set_option maxRecDepth 100000 in
theorem impl_builder_add.calls (k : Nat) (g0_ : Nat) (P0_0_ : Nat → Prop) (u9000_ : Value) (l0_0 : List (S74)) (a1_0 : Int) (a1_1 : Int) (a1_2 : ByteArray) (r : List (S74)) (w0 w : World) (hB : Below w0.heap.size w0 w) (hg0_ : w.heap[g0_]? = some (.cells #[u9000_] 92 (0,0))) (hge0_ : w0.heap.size ≤ g0_) (ho0_0 : Kd.R k74 74 w w0.heap.size P0_0_ u9000_ l0_0) (h : impl_builder_add.f k l0_0 a1_0 a1_1 a1_2 = some r) :
  Calls Try.prog 73 #[.pointer (some ⟨g0_,0,none⟩),.agg #[.int .i64 a1_0,.int .i64 a1_1,.string a1_2]] w fun e w'=>∃ v0_ : Value,e = .returned (.tuple #[])∧Kd.R k74 74 w' w0.heap.size (fun k_=>(P0_0_ k_ ∨ w.heap.size ≤ k_)) v0_ r∧w'.heap[g0_]? = some (.cells #[v0_] 92 (0,0))∧Below w0.heap.size w0 w'∧Kept w w' (fun k_=>(P0_0_ k_) ∨ k_ = g0_):=by
 have hu74:=Try.underlying74
 have HO0_0:=Aside0.mk (show Kd.R k74 74 w w0.heap.size (fun k_=>(P0_0_ k_ ∨ w.heap.size ≤ k_)) u9000_ l0_0 from Kd.R_mono ho0_0 (fun k_ hk=>(.inl hk)))
 have BK0:=Aside0.mk hg0_
 clear hg0_
 have GE0:=Aside0.mk hge0_
 clear hge0_
 have HK:=Aside0.mk (Kept.refl w (fun k_=>(P0_0_ k_) ∨ k_ = g0_))
 have HW0:=Aside0.mk hB.size
 have HB:=Aside0.mk hB
 clear hB
 have H : (if (a1_0 == 0 && (a1_1 == 0 && (a1_2.toList == ([] : List UInt8)))) = true then (some l0_0) else (if (l0_0.length : Int) > 0 then (if 0 ≤ (wrap64 ((l0_0.length : Int) - 1)) then (if (wrap64 ((l0_0.length : Int) - 1)) < (l0_0.length : Int) then ((impl_Part_kind.f k ((rd_T74 l0_0 (wrap64 ((l0_0.length : Int) - 1))).f0) ((rd_T74 l0_0 (wrap64 ((l0_0.length : Int) - 1))).f1) ((rd_T74 l0_0 (wrap64 ((l0_0.length : Int) - 1))).f2)).bind fun t276=>((impl_Part_kind.f k a1_0 a1_1 a1_2).bind fun t277=>(if t276 = t277 then (if ((rd_T74 l0_0 (wrap64 ((l0_0.length : Int) - 1))).f2).size + a1_2.size ≤ 9223372036854775807 then ((some (l0_0.set ((wrap64 ((l0_0.length : Int) - 1)) : Int).toNat (⟨wrap64 (((rd_T74 l0_0 (wrap64 ((l0_0.length : Int) - 1))).f0) + a1_0),(rd_T74 l0_0 (wrap64 ((l0_0.length : Int) - 1))).f1,(rd_T74 l0_0 (wrap64 ((l0_0.length : Int) - 1))).f2⟩ : S74) : List (S74))).bind fun y279=>((some (y279.set ((wrap64 ((l0_0.length : Int) - 1)) : Int).toNat (⟨(rd_T74 y279 (wrap64 ((l0_0.length : Int) - 1))).f0,wrap64 (((rd_T74 l0_0 (wrap64 ((l0_0.length : Int) - 1))).f1) + a1_1),(rd_T74 y279 (wrap64 ((l0_0.length : Int) - 1))).f2⟩ : S74) : List (S74))).bind fun y280=>(some (y280.set ((wrap64 ((l0_0.length : Int) - 1)) : Int).toNat (⟨(rd_T74 y280 (wrap64 ((l0_0.length : Int) - 1))).f0,(rd_T74 y280 (wrap64 ((l0_0.length : Int) - 1))).f1,((rd_T74 l0_0 (wrap64 ((l0_0.length : Int) - 1))).f2) ++ a1_2⟩ : S74))))) else (none)) else (if l0_0.length < 4398046511104 then (some (l0_0 ++ [(⟨a1_0,a1_1,a1_2⟩ : S74)])) else (none))))) else (none)) else (none)) else (if l0_0.length < 4398046511104 then (some (l0_0 ++ [(⟨a1_0,a1_1,a1_2⟩ : S74)])) else (none)))) = some r:=h
 clear h
 by_cases c3 : (a1_0 == 0 && (a1_1 == 0 && (a1_2.toList == ([] : List UInt8)))) = true
 ·rw [if_pos c3] at H
  have c3b0 : (a1_0 == 0 && (a1_1 == 0 && (a1_2.toList == ([] : List UInt8)))) = true:=c3
  (try (have c3b1 : decide (a1_0 = 0 && (a1_1 == 0 && (a1_2.toList == ([] : List UInt8)))) = true:=by simpa using c3))
  (try (have c3b2 : (a1_0 == 0 && (a1_1 == 0 && (a1_2.toList == ([] : List UInt8)))) = true:=by simpa using c3))
  (try (have c3b3 : (a1_0 == 0 && (a1_1 == 0 && (a1_2.toList.isEmpty))) = true:=by simpa using c3))
  clear c3
  obtain rfl:=Option.some.inj H
  go_enter Try.func73,Try.ntmps73
  go_wp2_with (first|((with_reducible refine gate_dst (N:=3) rfl ?_);refine box_event ?hg (N:=3) ?hd (cs:=#[.int .i64 a1_0,.int .i64 a1_1,.string a1_2]) (t:=74) ?hr ?_;(case hd=>rfl);(case hg=>rfl);(case hr=>first|(go_simp;done)|(go_simp;rfl));intro gb274 hg w4 hbox hb;have n0_:=Aside0.mk (Kd.R_below (Kd.R_elderB (by (with_reducible repeat (first|apply Kd.R_alloc|apply Kd.R_drewN|apply Kd.R_drew));exact HO0_0.out) gb274 (Nat.le_of_eq hg.symm)) hb);have n1_:=Aside0.mk (blk_below (g:=g0_) (o:=.cells #[u9000_] 92 (0,0)) (by (with_reducible repeat first|apply blk_drewN|apply blk_drew|apply blk_alloc);exact BK0.out) hb);have n2_:=Aside0.mk (Kept.below (S:=(fun k_=>(P0_0_ k_) ∨ k_ = g0_)) (by repeat (first|(with_reducible first|exact HK.out|apply Kept.alloc|apply Kept.drewN|apply Kept.drew|refine Kept.setCell ?_ (.inl (.inr rfl)) _)|exact HK.out)) hb);have n3_:=Aside0.mk (below_step (by repeat (first|(with_reducible first|exact HB.out|apply below_alloc|apply pw_below_drewN|apply below_drew1|refine below_set ?_ GE0.out)|exact HB.out)) hb);have n4_:=Aside0.mk (hbox);have n5_:=Aside0.mk ((by rw [hg];exact (by first|exact HK.out.1|exact (show Kept w _ (fun k_=>(P0_0_ k_) ∨ k_ = g0_) from by repeat (first|(with_reducible first|exact HK.out|apply Kept.alloc|apply Kept.drewN|apply Kept.drew|refine Kept.setCell ?_ (.inl (.inr rfl)) _)|exact HK.out)).1) : w.heap.size ≤ gb274));have n6_:=Aside0.mk ((by rw [hg];exact (below_size (by repeat (first|(with_reducible first|exact HB.out|apply below_alloc|apply pw_below_drewN|apply below_drew1|refine below_set ?_ GE0.out)|exact HB.out))) : w0.heap.size ≤ gb274));have n7_:=Aside0.mk ((by rw [hg];exact Nat.ne_of_lt (blk_lt (g:=g0_) (o:=.cells #[u9000_] 92 (0,0)) (by (with_reducible repeat first|apply blk_drewN|apply blk_drew|apply blk_alloc);exact BK0.out)) : g0_ ≠ gb274));have n8_:=Aside0.mk ((by rw [hg];exact Nat.ne_of_gt (blk_lt (g:=g0_) (o:=.cells #[u9000_] 92 (0,0)) (by (with_reducible repeat first|apply blk_drewN|apply blk_drew|apply blk_alloc);exact BK0.out)) : gb274 ≠ g0_));clear HO0_0;clear BK0;clear HK;clear HB;have HO0_0:=n0_;have BK0:=n1_;have HK:=n2_;have HB:=n3_;have BK274:=n4_;have GW274:=n5_;have GE274:=n6_;have NB0_274:=n7_;have NB274_0:=n8_;clear n0_ n1_ n2_ n3_ n4_ n5_ n6_ n7_ n8_;clear hb hbox hg;have hnb5:=NB0_274.out;have hnc5:=NB274_0.out;have hcz6_0 : w4.cell? ⟨g0_,0,none⟩ = some (u9000_):=(blk_cell BK0.out 0).trans rfl;have hfz6_0:=blk_frozen BK0.out 0;obtain ⟨Ao7,co7,eo7⟩:=Kd.R_slice HO0_0.out;subst eo7;have hcz8_0 : w4.cell? ⟨gb274,0,none⟩ = some (.int .i64 a1_0):=(blk_cell BK274.out 0).trans rfl;have hcz8_1 : w4.cell? ⟨gb274,1,none⟩ = some (.int .i64 a1_1):=(blk_cell BK274.out 1).trans rfl;have hcz8_2 : w4.cell? ⟨gb274,2,none⟩ = some (.string a1_2):=(blk_cell BK274.out 2).trans rfl;have hfz8_0:=blk_frozen BK274.out 0;have hfz8_1:=blk_frozen BK274.out 1;have hfz8_2:=blk_frozen BK274.out 2))
  first|go_end0|((try simp only [Exit.inBlock,Exit.then]);refine bodyPost_ret (results_none rfl _ _ _) rfl ?_)
  (first|refine ⟨(.slice Ao7 l0_0.length co7 : Value),?e_,?r_⟩|refine ⟨?e_,(.slice Ao7 l0_0.length co7 : Value),?r_⟩)
  (case e_=>first|rfl|(simp [errW_none,errW_some] <;> rfl)|(simp [*,errW_none,errW_some] <;> rfl))
  (case r_=>exact ⟨by (with_reducible repeat (first|apply Kd.R_alloc|apply Kd.R_drewN|apply Kd.R_drew));exact Kd.R_mono HO0_0.out (fun _ hk=>hk.1),by (with_reducible repeat first|apply blk_drewN|apply blk_drew|apply blk_alloc);exact BK0.out,by repeat (first|(with_reducible first|exact HB.out|apply below_alloc|apply pw_below_drewN|apply below_drew1|refine below_set ?_ GE0.out|refine below_set ?_ GE274.out)|exact HB.out),by repeat (first|(with_reducible first|exact HK.out|apply Kept.alloc|apply Kept.drewN|apply Kept.drew|refine Kept.setCell ?_ (.inl (.inr rfl)) _|refine Kept.setCell ?_ (.inr GW274.out) _)|exact HK.out)⟩)
 ·rw [if_neg c3] at H
  have c3b0 : (a1_0 == 0 && (a1_1 == 0 && (a1_2.toList == ([] : List UInt8)))) = false:=by simpa using c3
  (try (have c3b1 : decide (a1_0 = 0 && (a1_1 == 0 && (a1_2.toList == ([] : List UInt8)))) = false:=by simpa using c3))
  (try (have c3b2 : (a1_0 == 0 && (a1_1 == 0 && (a1_2.toList == ([] : List UInt8)))) = false:=by simpa using c3))
  (try (have c3b3 : ¬ (a1_0 = 0 && (a1_1 == 0 && (a1_2.toList == ([] : List UInt8)))):=by simpa using c3))
  (try (have c3b4 : (a1_0 == 0 && (a1_1 == 0 && (a1_2.toList.isEmpty))) = false:=by simpa using c3))
  clear c3
  by_cases c9 : (l0_0.length : Int) > 0
  ·rw [if_pos c9] at H
   have c9b0 : decide (0 < (l0_0.length : Int)) = true:=decide_eq_true c9
   have c9b1 : decide (0 < l0_0.length) = true:=decide_eq_true (by omega)
   clear c9
   obtain ⟨ji10,hji10⟩ : ∃ j_ : Int,(wrap64 ((l0_0.length : Int) - 1)) = j_:=⟨_,rfl⟩
   replace H : (if 0 ≤ (ji10) then (if (ji10) < (l0_0.length : Int) then ((impl_Part_kind.f k ((rd_T74 l0_0 (ji10)).f0) ((rd_T74 l0_0 (ji10)).f1) ((rd_T74 l0_0 (ji10)).f2)).bind fun t276=>((impl_Part_kind.f k a1_0 a1_1 a1_2).bind fun t277=>(if t276 = t277 then (if ((rd_T74 l0_0 (ji10)).f2).size + a1_2.size ≤ 9223372036854775807 then ((some (l0_0.set ((ji10) : Int).toNat (⟨wrap64 (((rd_T74 l0_0 (ji10)).f0) + a1_0),(rd_T74 l0_0 (ji10)).f1,(rd_T74 l0_0 (ji10)).f2⟩ : S74) : List (S74))).bind fun y279=>((some (y279.set ((ji10) : Int).toNat (⟨(rd_T74 y279 (ji10)).f0,wrap64 (((rd_T74 l0_0 (ji10)).f1) + a1_1),(rd_T74 y279 (ji10)).f2⟩ : S74) : List (S74))).bind fun y280=>(some (y280.set ((ji10) : Int).toNat (⟨(rd_T74 y280 (ji10)).f0,(rd_T74 y280 (ji10)).f1,((rd_T74 l0_0 (ji10)).f2) ++ a1_2⟩ : S74))))) else (none)) else (if l0_0.length < 4398046511104 then (some (l0_0 ++ [(⟨a1_0,a1_1,a1_2⟩ : S74)])) else (none))))) else (none)) else (none)) = some r:=by first|(rw [hji10] at H;exact H)|(simp only [hji10] at H ⊢;exact H)
   have hji10w : (IntKind.i64.wrap ((l0_0.length : Int) - 1)) = ji10:=(i64_w _).trans hji10
   by_cases c11 : 0 ≤ (ji10)
   ·rw [if_pos c11] at H
    have c11b0 : decide (0 ≤ (ji10)) = true:=decide_eq_true c11
    clear c11
    by_cases c12 : (ji10) < (l0_0.length : Int)
    ·rw [if_pos c12] at H
     have c12b0 : decide ((ji10) < (l0_0.length : Int)) = true:=decide_eq_true c12
     clear c12
     replace H:=Option.bind_eq_some_iff.mp H
     obtain ⟨t276,A130,H⟩:=H
     replace H : ((impl_Part_kind.f k a1_0 a1_1 a1_2).bind fun t277=>(if t276 = t277 then (if ((rd_T74 l0_0 (ji10)).f2).size + a1_2.size ≤ 9223372036854775807 then ((some (l0_0.set ((ji10) : Int).toNat (⟨wrap64 (((rd_T74 l0_0 (ji10)).f0) + a1_0),(rd_T74 l0_0 (ji10)).f1,(rd_T74 l0_0 (ji10)).f2⟩ : S74) : List (S74))).bind fun y279=>((some (y279.set ((ji10) : Int).toNat (⟨(rd_T74 y279 (ji10)).f0,wrap64 (((rd_T74 l0_0 (ji10)).f1) + a1_1),(rd_T74 y279 (ji10)).f2⟩ : S74) : List (S74))).bind fun y280=>(some (y280.set ((ji10) : Int).toNat (⟨(rd_T74 y280 (ji10)).f0,(rd_T74 y280 (ji10)).f1,((rd_T74 l0_0 (ji10)).f2) ++ a1_2⟩ : S74))))) else (none)) else (if l0_0.length < 4398046511104 then (some (l0_0 ++ [(⟨a1_0,a1_1,a1_2⟩ : S74)])) else (none)))) = some r:=H
     have A13:=Aside0.mk A130
     clear A130
     replace H:=Option.bind_eq_some_iff.mp H
     obtain ⟨t277,A140,H⟩:=H
     replace H : (if t276 = t277 then (if ((rd_T74 l0_0 (ji10)).f2).size + a1_2.size ≤ 9223372036854775807 then ((some (l0_0.set ((ji10) : Int).toNat (⟨wrap64 (((rd_T74 l0_0 (ji10)).f0) + a1_0),(rd_T74 l0_0 (ji10)).f1,(rd_T74 l0_0 (ji10)).f2⟩ : S74) : List (S74))).bind fun y279=>((some (y279.set ((ji10) : Int).toNat (⟨(rd_T74 y279 (ji10)).f0,wrap64 (((rd_T74 l0_0 (ji10)).f1) + a1_1),(rd_T74 y279 (ji10)).f2⟩ : S74) : List (S74))).bind fun y280=>(some (y280.set ((ji10) : Int).toNat (⟨(rd_T74 y280 (ji10)).f0,(rd_T74 y280 (ji10)).f1,((rd_T74 l0_0 (ji10)).f2) ++ a1_2⟩ : S74))))) else (none)) else (if l0_0.length < 4398046511104 then (some (l0_0 ++ [(⟨a1_0,a1_1,a1_2⟩ : S74)])) else (none))) = some r:=H
     have A14:=Aside0.mk A140
     clear A140
     by_cases c15 : t276 = t277
     ·rw [if_pos c15] at H
      have c15b0 : (t276 == t277) = true:=beq_iff_eq.mpr c15
      have c15b1 : (t276 != t277) = false:=bne_eq_false_iff_eq.mpr c15
      clear c15
      by_cases c18 : ((rd_T74 l0_0 (ji10)).f2).size + a1_2.size ≤ 9223372036854775807
      ·rw [if_pos c18] at H
       have c18b0:=eq_true c18
       have c18b1 : decide (((rd_T74 l0_0 (ji10)).f2).size + a1_2.size ≤ 9223372036854775807) = true:=decide_eq_true c18
       try have c18b2 : (9223372036854775807 < ((rd_T74 l0_0 (ji10)).f2).size + a1_2.size) = False:=eq_false (Nat.not_lt.2 c18)
       obtain ⟨y279,hy279⟩ : ∃ y_ : List (S74),y_ = (l0_0.set ((ji10) : Int).toNat (⟨wrap64 (((rd_T74 l0_0 (ji10)).f0) + a1_0),(rd_T74 l0_0 (ji10)).f1,(rd_T74 l0_0 (ji10)).f2⟩ : S74)):=⟨_,rfl⟩
       replace H : ((some (y279.set ((ji10) : Int).toNat (⟨(rd_T74 y279 (ji10)).f0,wrap64 (((rd_T74 l0_0 (ji10)).f1) + a1_1),(rd_T74 y279 (ji10)).f2⟩ : S74) : List (S74))).bind fun y280=>(some (y280.set ((ji10) : Int).toNat (⟨(rd_T74 y280 (ji10)).f0,(rd_T74 y280 (ji10)).f1,((rd_T74 l0_0 (ji10)).f2) ++ a1_2⟩ : S74)))) = some r:=by first|(rw [hy279];with_reducible exact H)|(have H2_:=(Option.bind_some _ _).symm.trans H;rw [hy279];with_reducible exact H2_)|(have H2_:=(Option.bind_some _ _).symm.trans H;with_reducible exact H2_)|with_reducible exact H|(rw [hy279];exact H)|exact H
       have Ny279:=Aside0.mk hy279
       clear hy279
       obtain ⟨y280,hy280⟩ : ∃ y_ : List (S74),y_ = (y279.set ((ji10) : Int).toNat (⟨(rd_T74 y279 (ji10)).f0,wrap64 (((rd_T74 l0_0 (ji10)).f1) + a1_1),(rd_T74 y279 (ji10)).f2⟩ : S74)):=⟨_,rfl⟩
       replace H : (some (y280.set ((ji10) : Int).toNat (⟨(rd_T74 y280 (ji10)).f0,(rd_T74 y280 (ji10)).f1,((rd_T74 l0_0 (ji10)).f2) ++ a1_2⟩ : S74))) = some r:=by first|(rw [hy280];with_reducible exact H)|(have H2_:=(Option.bind_some _ _).symm.trans H;rw [hy280];with_reducible exact H2_)|(have H2_:=(Option.bind_some _ _).symm.trans H;with_reducible exact H2_)|with_reducible exact H|(rw [hy280];exact H)|exact H
       have Ny280:=Aside0.mk hy280
       clear hy280
       obtain ⟨y281,hy281⟩ : ∃ y_ : List (S74),y_ = (y280.set ((ji10) : Int).toNat (⟨(rd_T74 y280 (ji10)).f0,(rd_T74 y280 (ji10)).f1,((rd_T74 l0_0 (ji10)).f2) ++ a1_2⟩ : S74)):=⟨_,rfl⟩
       replace H : (some y281) = some r:=by first|(rw [hy281];with_reducible exact H)|(have H2_:=(Option.bind_some _ _).symm.trans H;rw [hy281];with_reducible exact H2_)|(have H2_:=(Option.bind_some _ _).symm.trans H;with_reducible exact H2_)|with_reducible exact H|(rw [hy281];exact H)|exact H
       have Ny281:=Aside0.mk hy281
       clear hy281
       obtain rfl:=Option.some.inj H
       go_enter Try.func73,Try.ntmps73
       try go_wp2_with (first|((with_reducible refine gate_dst (N:=3) rfl ?_);refine box_event ?hg (N:=3) ?hd (cs:=#[.int .i64 a1_0,.int .i64 a1_1,.string a1_2]) (t:=74) ?hr ?_;(case hd=>rfl);(case hg=>rfl);(case hr=>first|(go_simp;done)|(go_simp;rfl));intro gb274 hg w19 hbox hb;have n0_:=Aside0.mk (Kd.R_below (Kd.R_elderB (by (with_reducible repeat (first|apply Kd.R_alloc|apply Kd.R_drewN|apply Kd.R_drew));exact HO0_0.out) gb274 (Nat.le_of_eq hg.symm)) hb);have n1_:=Aside0.mk (blk_below (g:=g0_) (o:=.cells #[u9000_] 92 (0,0)) (by (with_reducible repeat first|apply blk_drewN|apply blk_drew|apply blk_alloc);exact BK0.out) hb);have n2_:=Aside0.mk (Kept.below (S:=(fun k_=>(P0_0_ k_) ∨ k_ = g0_)) (by repeat (first|(with_reducible first|exact HK.out|apply Kept.alloc|apply Kept.drewN|apply Kept.drew|refine Kept.setCell ?_ (.inl (.inr rfl)) _)|exact HK.out)) hb);have n3_:=Aside0.mk (below_step (by repeat (first|(with_reducible first|exact HB.out|apply below_alloc|apply pw_below_drewN|apply below_drew1|refine below_set ?_ GE0.out)|exact HB.out)) hb);have n4_:=Aside0.mk (hbox);have n5_:=Aside0.mk ((by rw [hg];exact (by first|exact HK.out.1|exact (show Kept w _ (fun k_=>(P0_0_ k_) ∨ k_ = g0_) from by repeat (first|(with_reducible first|exact HK.out|apply Kept.alloc|apply Kept.drewN|apply Kept.drew|refine Kept.setCell ?_ (.inl (.inr rfl)) _)|exact HK.out)).1) : w.heap.size ≤ gb274));have n6_:=Aside0.mk ((by rw [hg];exact (below_size (by repeat (first|(with_reducible first|exact HB.out|apply below_alloc|apply pw_below_drewN|apply below_drew1|refine below_set ?_ GE0.out)|exact HB.out))) : w0.heap.size ≤ gb274));have n7_:=Aside0.mk ((by rw [hg];exact Nat.ne_of_lt (blk_lt (g:=g0_) (o:=.cells #[u9000_] 92 (0,0)) (by (with_reducible repeat first|apply blk_drewN|apply blk_drew|apply blk_alloc);exact BK0.out)) : g0_ ≠ gb274));have n8_:=Aside0.mk ((by rw [hg];exact Nat.ne_of_gt (blk_lt (g:=g0_) (o:=.cells #[u9000_] 92 (0,0)) (by (with_reducible repeat first|apply blk_drewN|apply blk_drew|apply blk_alloc);exact BK0.out)) : gb274 ≠ g0_));clear HO0_0;clear BK0;clear HK;clear HB;have HO0_0:=n0_;have BK0:=n1_;have HK:=n2_;have HB:=n3_;have BK274:=n4_;have GW274:=n5_;have GE274:=n6_;have NB0_274:=n7_;have NB274_0:=n8_;clear n0_ n1_ n2_ n3_ n4_ n5_ n6_ n7_ n8_;clear hb hbox hg;have hnb20:=NB0_274.out;have hnc20:=NB274_0.out;have hcz21_0 : w19.cell? ⟨g0_,0,none⟩ = some (u9000_):=(blk_cell BK0.out 0).trans rfl;have hfz21_0:=blk_frozen BK0.out 0;obtain ⟨Ao22,co22,eo22⟩:=Kd.R_slice HO0_0.out;subst eo22;have hcz23_0 : w19.cell? ⟨gb274,0,none⟩ = some (.int .i64 a1_0):=(blk_cell BK274.out 0).trans rfl;have hcz23_1 : w19.cell? ⟨gb274,1,none⟩ = some (.int .i64 a1_1):=(blk_cell BK274.out 1).trans rfl;have hcz23_2 : w19.cell? ⟨gb274,2,none⟩ = some (.string a1_2):=(blk_cell BK274.out 2).trans rfl;have hfz23_0:=blk_frozen BK274.out 0;have hfz23_1:=blk_frozen BK274.out 1;have hfz23_2:=blk_frozen BK274.out 2))
       have n0_:=Aside0.mk (Kd.R_drew HO0_0.out)
       have n1_:=Aside0.mk (blk_drew BK0.out)
       have n2_:=Aside0.mk (blk_drew BK274.out)
       have n3_:=Aside0.mk (Kept.drew HK.out)
       have n4_:=Aside0.mk (below_drew1 HB.out)
       clear HO0_0
       clear BK0
       clear BK274
       clear HK
       clear HB
       have HO0_0:=n0_
       have BK0:=n1_
       have BK274:=n2_
       have HK:=n3_
       have HB:=n4_
       clear n0_ n1_ n2_ n3_ n4_
       have p275 : 0 ≤ ((ji10) : Int):=of_decide_eq_true (by assumption)
       have q275 : (ji10) < (l0_0.length : Int):=of_decide_eq_true (by assumption)
       obtain ⟨ad275,e275,hx275_0,hx275_1,hx275_2⟩:=at_T74 (Kd.R_reads' HO0_0.out).2.2 (ji10) p275 q275
       cases e275
       replace p275:=eq_true p275
       replace q275:=eq_true q275
       refine start_ (n:=17) (S:=fun w'=>w'.cell? ⟨g0_,0,none⟩ = some (.slice (some ad275) l0_0.length co22)∧w'.cell? ⟨gb274,0,none⟩ = some (.int .i64 a1_0)∧w'.cell? ⟨gb274,1,none⟩ = some (.int .i64 a1_1)∧w'.cell? ⟨gb274,2,none⟩ = some (.string a1_2)∧w'.cell? (ad275.add (((ji10)).toNat * 3)) = some (.int .i64 ((rd_T74 l0_0 (ji10)).f0))∧w'.cell? ⟨(ad275.add (((ji10)).toNat * 3)).block,(ad275.add (((ji10)).toNat * 3)).off + 1,none⟩ = some (.int .i64 ((rd_T74 l0_0 (ji10)).f1))∧w'.cell? ⟨(ad275.add (((ji10)).toNat * 3)).block,(ad275.add (((ji10)).toNat * 3)).off + 2,none⟩ = some (.string ((rd_T74 l0_0 (ji10)).f2))) (ds:=[]) #[false,false,false,false,false,false,false,false,false,false,false,false,false,false,false,false,false] (by kernel_rfl) rfl rfl ⟨(blk_cell BK0.out 0).trans rfl,(blk_cell BK274.out 0).trans rfl,(blk_cell BK274.out 1).trans rfl,(blk_cell BK274.out 2).trans rfl,hx275_0,hx275_1,hx275_2⟩ (fun hHeld=>?_);refine with_tabW impl_builder_add.tab4 impl_builder_add.bits4 (fun HT_ HW_=>?_)
       generalize w19.drew = w24 at HO0_0 BK0 BK274 HK HB hx275_0 hx275_1 hx275_2 hHeld ⊢
       refine pure_ (i:=0) (N:=some 26) (v:=?_) (a':=?_) #[true,false,false,false,false,false,false,false,false,false,false,false,false,false,false,false,false] rfl rfl (any_of HT_.out (by kernel_rfl)) (fun _ _ _ h=>h) (Or.inl ⟨by rfl,?_⟩) ?_ ?_
       rotate_left
       ·intro w'
        go_simp
        with_reducible rfl
       rotate_left
       ·simp only [Act.put,List.setIfInBounds_toArray,List.set_cons_zero,List.set_cons_succ,i64_w,i32_w]
        rfl
       refine pure_ (i:=1) (N:=some 27) (v:=?_) (a':=?_) #[true,true,false,false,false,false,false,false,false,false,false,false,false,false,false,false,false] rfl rfl (any_of HT_.out (by kernel_rfl)) (fun _ _ _ h=>h) (Or.inl ⟨by rfl,?_⟩) ?_ ?_
       rotate_left
       ·intro w'
        go_simp
        with_reducible rfl
       rotate_left
       ·simp only [Act.put,List.setIfInBounds_toArray,List.set_cons_zero,List.set_cons_succ,i64_w,i32_w]
        rfl
       refine pure_ (i:=2) (N:=some 28) (v:=?_) (a':=?_) #[true,true,true,false,false,false,false,false,false,false,false,false,false,false,false,false,false] rfl rfl (any_of HT_.out (by kernel_rfl)) (fun _ _ _ h=>h) (Or.inl ⟨by rfl,?_⟩) ?_ ?_
       rotate_left
       ·intro w'
        go_simp
        with_reducible rfl
       rotate_left
       ·simp only [Act.put,List.setIfInBounds_toArray,List.set_cons_zero,List.set_cons_succ,i64_w,i32_w]
        rfl
       refine pure_ (i:=3) (N:=some 29) (v:=?_) (a':=?_) #[true,true,true,true,false,false,false,false,false,false,false,false,false,false,false,false,false] rfl rfl (any_of HT_.out (by kernel_rfl)) (fun _ _ _ h=>h) (Or.inl ⟨by rfl,?_⟩) ?_ ?_
       rotate_left
       ·intro w'
        go_simp
        with_reducible rfl
       rotate_left
       ·simp only [Act.put,List.setIfInBounds_toArray,List.set_cons_zero,List.set_cons_succ,i64_w,i32_w]
        rfl
       refine pure_ (i:=4) (N:=some 30) (v:=?_) (a':=?_) #[true,true,true,true,true,false,false,false,false,false,false,false,false,false,false,false,false] rfl rfl (any_of HT_.out (by kernel_rfl)) (fun _ _ _ h=>h) (Or.inl ⟨by rfl,?_⟩) ?_ ?_
       rotate_left
       ·intro w'
        go_simp
        with_reducible rfl
       rotate_left
       ·simp only [Act.put,List.setIfInBounds_toArray,List.set_cons_zero,List.set_cons_succ,i64_w,i32_w]
        rfl
       refine pure_ (i:=5) (N:=some 31) (v:=?_) (a':=?_) #[true,true,true,true,true,true,false,false,false,false,false,false,false,false,false,false,false] rfl rfl (any_of HT_.out (by kernel_rfl)) (fun _ _ _ h=>h) (Or.inl ⟨by rfl,?_⟩) ?_ ?_
       rotate_left
       ·intro w'
        go_simp
        with_reducible rfl
       rotate_left
       ·simp only [Act.put,List.setIfInBounds_toArray,List.set_cons_zero,List.set_cons_succ,i64_w,i32_w]
        rfl
       refine pure_ (i:=7) (N:=some 33) (v:=?_) (a':=?_) #[true,true,true,true,true,true,false,true,false,false,false,false,false,false,false,false,false] rfl rfl (any_of HT_.out (by kernel_rfl)) (fun _ _ _ h=>h) (Or.inl ⟨by rfl,?_⟩) ?_ ?_
       rotate_left
       ·intro w'
        go_simp
        with_reducible rfl
       rotate_left
       ·simp only [Act.put,List.setIfInBounds_toArray,List.set_cons_zero,List.set_cons_succ,i64_w,i32_w]
        rfl
       refine pure_ (i:=8) (N:=some 34) (v:=?_) (a':=?_) #[true,true,true,true,true,true,false,true,true,false,false,false,false,false,false,false,false] rfl rfl (any_of HT_.out (by kernel_rfl)) (fun _ _ _ h=>h) (Or.inl ⟨by rfl,?_⟩) ?_ ?_
       rotate_left
       ·intro w'
        go_simp
        with_reducible rfl
       rotate_left
       ·simp only [Act.put,List.setIfInBounds_toArray,List.set_cons_zero,List.set_cons_succ,i64_w,i32_w]
        rfl
       refine take_ (i:=6) (N:=some 32) (v:=?_) (a':=?_) #[true,true,true,true,true,true,true,true,true,false,false,false,false,false,false,false,false] rfl rfl (take_ofW HT_.out HW_.out (by kernel_rfl)) (fun _ _ _ h=>h) (Or.inl ⟨by rfl,?_⟩) hHeld ?_ ?_
       rotate_left
       ·rintro w' ⟨s0,s1,s2,s3,s4,s5,s6⟩
        go_simp
        with_reducible rfl
       rotate_left
       ·simp only [Act.put,List.setIfInBounds_toArray,List.set_cons_zero,List.set_cons_succ,i64_w,i32_w]
        rfl
       refine pure_ (i:=9) (N:=some 35) (v:=?_) (a':=?_) #[true,true,true,true,true,true,true,true,true,true,false,false,false,false,false,false,false] rfl rfl (any_of HT_.out (by kernel_rfl)) (fun _ _ _ h=>h) (Or.inl ⟨by rfl,?_⟩) ?_ ?_
       rotate_left
       ·intro w'
        go_simp
        with_reducible rfl
       rotate_left
       ·simp only [Act.put,List.setIfInBounds_toArray,List.set_cons_zero,List.set_cons_succ,i64_w,i32_w]
        rfl
       refine take_ (i:=10) (N:=some 36) (v:=?_) (a':=?_) #[true,true,true,true,true,true,true,true,true,true,true,false,false,false,false,false,false] rfl rfl (take_ofW HT_.out HW_.out (by kernel_rfl)) (fun _ _ _ h=>h) (Or.inl ⟨by rfl,?_⟩) hHeld ?_ ?_
       rotate_left
       ·rintro w' ⟨s0,s1,s2,s3,s4,s5,s6⟩
        go_simp
        with_reducible rfl
       rotate_left
       ·simp only [Act.put,List.setIfInBounds_toArray,List.set_cons_zero,List.set_cons_succ,i64_w,i32_w]
        rfl
       refine take_ (i:=12) (N:=some 38) (v:=?_) (a':=?_) #[true,true,true,true,true,true,true,true,true,true,true,false,true,false,false,false,false] rfl rfl (take_ofW HT_.out HW_.out (by kernel_rfl)) (fun _ _ _ h=>h) (Or.inl ⟨by rfl,?_⟩) hHeld ?_ ?_
       rotate_left
       ·rintro w' ⟨s0,s1,s2,s3,s4,s5,s6⟩
        go_simp
        with_reducible rfl
       rotate_left
       ·simp only [Act.put,List.setIfInBounds_toArray,List.set_cons_zero,List.set_cons_succ,i64_w,i32_w]
        rfl
       refine one_ (i:=11) (N:=some 37) #[true,true,true,true,true,true,true,true,true,true,true,true,true,false,false,false,false] rfl rfl (one_of HT_.out (by kernel_rfl)) (by decide) (fun K hK=>?_)
       refine goes_ Try.func58 (by kernel_rfl) rfl #[.agg #[.int .i64 ((rd_T74 l0_0 (ji10)).f0),.int .i64 ((rd_T74 l0_0 (ji10)).f1),.string ((rd_T74 l0_0 (ji10)).f2)]] (by rfl) rfl rfl (by (try simp only [List.map_toArray,List.map_cons,List.map_nil]);first|done|(simp only [hji10];rfl)|rfl|(simp only [List.length_drop,List.length_take];rfl)) ?_
       with_reducible refine (impl_Part_kind.calls k ((rd_T74 l0_0 (ji10)).f0) ((rd_T74 l0_0 (ji10)).f1) ((rd_T74 l0_0 (ji10)).f2) t276 _ A13.out).mono ?_
       rintro e w25 ⟨rfl,hb⟩
       have HS4_:=(hb.cell (World.block_lt_of_cell? _ _ (hHeld.2.2.2.2.1))).trans (hHeld.2.2.2.2.1)
       have HS5_:=(hb.cell (World.block_lt_of_cell? _ _ (hHeld.2.2.2.2.2.1))).trans (hHeld.2.2.2.2.2.1)
       have HS6_:=(hb.cell (World.block_lt_of_cell? _ _ (hHeld.2.2.2.2.2.2))).trans (hHeld.2.2.2.2.2.2)
       refine ⟨_,rfl,?_⟩
       have n0_:=Aside0.mk (Kd.R_below (by (with_reducible repeat (first|apply Kd.R_alloc|apply Kd.R_drewN|apply Kd.R_drew));exact HO0_0.out) hb)
       have n1_:=Aside0.mk (blk_below (g:=g0_) (o:=.cells #[.slice (some ad275) l0_0.length co22] 92 (0,0)) (by (with_reducible repeat first|apply blk_drewN|apply blk_drew|apply blk_alloc);exact BK0.out) hb)
       have n2_:=Aside0.mk (blk_below (g:=gb274) (o:=.cells #[.int .i64 a1_0,.int .i64 a1_1,.string a1_2] 74 (0,0)) (by (with_reducible repeat first|apply blk_drewN|apply blk_drew|apply blk_alloc);exact BK274.out) hb)
       have n3_:=Aside0.mk (Kept.below (S:=(fun k_=>(P0_0_ k_) ∨ k_ = g0_)) (by repeat (first|(with_reducible first|exact HK.out|apply Kept.alloc|apply Kept.drewN|apply Kept.drew|refine Kept.setCell ?_ (.inl (.inr rfl)) _|refine Kept.setCell ?_ (.inr GW274.out) _)|exact HK.out)) hb)
       have n4_:=Aside0.mk (below_step (by repeat (first|(with_reducible first|exact HB.out|apply below_alloc|apply pw_below_drewN|apply below_drew1|refine below_set ?_ GE0.out|refine below_set ?_ GE274.out)|exact HB.out)) hb)
       clear HO0_0
       clear BK0
       clear BK274
       clear HK
       clear HB
       have HO0_0:=n0_
       have BK0:=n1_
       have BK274:=n2_
       have HK:=n3_
       have HB:=n4_
       clear n0_ n1_ n2_ n3_ n4_
       (try clear hb)
       (try clear hb2)
       (try clear hk)
       (try clear hi)
       refine hK.out _ _ ⟨(blk_cell BK0.out 0).trans rfl,(blk_cell BK274.out 0).trans rfl,(blk_cell BK274.out 1).trans rfl,(blk_cell BK274.out 2).trans rfl,HS4_,HS5_,HS6_⟩ (fun hHeld=>?_)
       clear hK K
       refine norm_ (a':=?_) ?_ ?_
       rotate_left
       ·show Act.put _ (some 37) _ = _
        simp only [Act.put,List.setIfInBounds_toArray,List.set_cons_zero,List.set_cons_succ,i64_w,i32_w]
        rfl
       refine one_ (i:=13) (N:=some 39) #[true,true,true,true,true,true,true,true,true,true,true,true,true,true,false,false,false] rfl rfl (one_of HT_.out (by kernel_rfl)) (by decide) (fun K hK=>?_)
       refine goes_ Try.func58 (by kernel_rfl) rfl #[.agg #[.int .i64 a1_0,.int .i64 a1_1,.string a1_2]] (by rfl) rfl rfl (by (try simp only [List.map_toArray,List.map_cons,List.map_nil]);first|done|rfl|(simp only [List.length_drop,List.length_take];rfl)) ?_
       with_reducible refine (impl_Part_kind.calls k a1_0 a1_1 a1_2 t277 _ A14.out).mono ?_
       rintro e w26 ⟨rfl,hb⟩
       have HS4_:=(hb.cell (World.block_lt_of_cell? _ _ (hHeld.2.2.2.2.1))).trans (hHeld.2.2.2.2.1)
       have HS5_:=(hb.cell (World.block_lt_of_cell? _ _ (hHeld.2.2.2.2.2.1))).trans (hHeld.2.2.2.2.2.1)
       have HS6_:=(hb.cell (World.block_lt_of_cell? _ _ (hHeld.2.2.2.2.2.2))).trans (hHeld.2.2.2.2.2.2)
       refine ⟨_,rfl,?_⟩
       have n0_:=Aside0.mk (Kd.R_below (by (with_reducible repeat (first|apply Kd.R_alloc|apply Kd.R_drewN|apply Kd.R_drew));exact HO0_0.out) hb)
       have n1_:=Aside0.mk (blk_below (g:=g0_) (o:=.cells #[.slice (some ad275) l0_0.length co22] 92 (0,0)) (by (with_reducible repeat first|apply blk_drewN|apply blk_drew|apply blk_alloc);exact BK0.out) hb)
       have n2_:=Aside0.mk (blk_below (g:=gb274) (o:=.cells #[.int .i64 a1_0,.int .i64 a1_1,.string a1_2] 74 (0,0)) (by (with_reducible repeat first|apply blk_drewN|apply blk_drew|apply blk_alloc);exact BK274.out) hb)
       have n3_:=Aside0.mk (Kept.below (S:=(fun k_=>(P0_0_ k_) ∨ k_ = g0_)) (by repeat (first|(with_reducible first|exact HK.out|apply Kept.alloc|apply Kept.drewN|apply Kept.drew|refine Kept.setCell ?_ (.inl (.inr rfl)) _|refine Kept.setCell ?_ (.inr GW274.out) _)|exact HK.out)) hb)
       have n4_:=Aside0.mk (below_step (by repeat (first|(with_reducible first|exact HB.out|apply below_alloc|apply pw_below_drewN|apply below_drew1|refine below_set ?_ GE0.out|refine below_set ?_ GE274.out)|exact HB.out)) hb)
       clear HO0_0
       clear BK0
       clear BK274
       clear HK
       clear HB
       have HO0_0:=n0_
       have BK0:=n1_
       have BK274:=n2_
       have HK:=n3_
       have HB:=n4_
       clear n0_ n1_ n2_ n3_ n4_
       (try clear hb)
       (try clear hb2)
       (try clear hk)
       (try clear hi)
       refine hK.out _ _ ⟨(blk_cell BK0.out 0).trans rfl,(blk_cell BK274.out 0).trans rfl,(blk_cell BK274.out 1).trans rfl,(blk_cell BK274.out 2).trans rfl,HS4_,HS5_,HS6_⟩ (fun hHeld=>?_)
       clear hK K
       refine norm_ (a':=?_) ?_ ?_
       rotate_left
       ·show Act.put _ (some 39) _ = _
        simp only [Act.put,List.setIfInBounds_toArray,List.set_cons_zero,List.set_cons_succ,i64_w,i32_w]
        rfl
       refine pure_ (i:=14) (N:=some 40) (v:=?_) (a':=?_) #[true,true,true,true,true,true,true,true,true,true,true,true,true,true,true,false,false] rfl rfl (any_of HT_.out (by kernel_rfl)) (fun _ _ _ h=>h) (Or.inl ⟨by rfl,?_⟩) ?_ ?_
       rotate_left
       ·intro w'
        go_simp
        with_reducible rfl
       rotate_left
       ·simp only [Act.put,List.setIfInBounds_toArray,List.set_cons_zero,List.set_cons_succ,i64_w,i32_w]
        rfl
       refine pure_ (i:=15) (N:=some 41) (v:=?_) (a':=?_) #[true,true,true,true,true,true,true,true,true,true,true,true,true,true,true,true,false] rfl rfl (any_of HT_.out (by kernel_rfl)) (fun _ _ _ h=>h) (Or.inl ⟨by rfl,?_⟩) ?_ ?_
       rotate_left
       ·intro w'
        go_simp
        with_reducible rfl
       rotate_left
       ·simp only [Act.put,List.setIfInBounds_toArray,List.set_cons_zero,List.set_cons_succ,i64_w,i32_w]
        rfl
       refine pure_ (i:=16) (N:=some 25) (v:=?_) (a':=?_) #[true,true,true,true,true,true,true,true,true,true,true,true,true,true,true,true,true] rfl rfl (any_of HT_.out (by kernel_rfl)) (fun _ _ _ h=>h) (Or.inl ⟨by rfl,?_⟩) ?_ ?_
       rotate_left
       ·intro w'
        go_simp
        with_reducible rfl
       rotate_left
       ·simp only [Act.put,List.setIfInBounds_toArray,List.set_cons_zero,List.set_cons_succ,i64_w,i32_w]
        rfl
       refine done_ (done_of HT_.out (by kernel_rfl)) ?_
       have hcz27_0 : w26.cell? ⟨g0_,0,none⟩ = some (.slice (some ad275) l0_0.length co22):=(blk_cell BK0.out 0).trans rfl
       have hfz27_0:=blk_frozen BK0.out 0
       have p16 : 0 ≤ ((ji10) : Int):=of_decide_eq_true (by assumption)
       have q16 : ((ji10) : Int) < ((l0_0.length : Int) : Int):=of_decide_eq_true (by assumption)
       obtain ⟨go16,co16,eo16,gb16,gl16,cl16,HG16⟩:=Kd.R_form HO0_0.out (by omega)
       (first|cases eo16|(injection eo16 with ea_ en_ ec_;(first|subst ea_|(injection ea_ with ea_;subst ea_));subst ec_;clear en_))
       have GB16:=Aside0.mk gb16
       have GG16:=Aside0.mk HG16
       clear gb16 gl16 HG16
       have HMgo16:=Aside0.mk (show (P0_0_ go16 ∨ w.heap.size ≤ go16) from (HO0_0.out.1 _ rfl).1)
       (first|simp only [add_plain] at hx275_0|skip)
       (first|simp only [add_plain] at hx275_1|skip)
       (first|simp only [add_plain] at hx275_2|skip)
       obtain ⟨ce16,hcl16,hM16,hcc16,hfr16⟩:=Kd.R_elem HO0_0.out z74 ((ji10) : Int) p16 q16
       obtain rfl:=k74_openM hM16
       have hx16_0 : w26.cell? ⟨go16,((ji10) : Int).toNat * 3,none⟩ = some (.int .i64 ((rd_T74 l0_0 (ji10)).f0)):=hcc16 0 _ rfl
       have hx16_1 : w26.cell? ⟨go16,((ji10) : Int).toNat * 3 + 1,none⟩ = some (.int .i64 ((rd_T74 l0_0 (ji10)).f1)):=hcc16 1 _ rfl
       have hx16_2 : w26.cell? ⟨go16,((ji10) : Int).toNat * 3 + 2,none⟩ = some (.string ((rd_T74 l0_0 (ji10)).f2)):=hcc16 2 _ rfl
       have hf16_0 : w26.frozen? ⟨go16,((ji10) : Int).toNat * 3,none⟩ = false:=hfr16 0
       have hf16_1 : w26.frozen? ⟨go16,((ji10) : Int).toNat * 3 + 1,none⟩ = false:=hfr16 1
       have hf16_2 : w26.frozen? ⟨go16,((ji10) : Int).toNat * 3 + 2,none⟩ = false:=hfr16 2
       (try clear hM16);clear hcl16 hcc16 hfr16
       replace p16:=eq_true p16
       replace q16:=eq_true q16
       try go_wp2
       have n0_:=Aside0.mk (Kd.R_drew HO0_0.out)
       have n1_:=Aside0.mk (blk_drew BK0.out)
       have n2_:=Aside0.mk (blk_drew BK274.out)
       have n3_:=Aside0.mk (Kept.drew HK.out)
       have n4_:=Aside0.mk (below_drew1 HB.out)
       clear HO0_0
       clear BK0
       clear BK274
       clear HK
       clear HB
       have HO0_0:=n0_
       have BK0:=n1_
       have BK274:=n2_
       have HK:=n3_
       have HB:=n4_
       clear n0_ n1_ n2_ n3_ n4_
       have p278 : 0 ≤ ((ji10) : Int):=of_decide_eq_true (by assumption)
       have q278 : (ji10) < (l0_0.length : Int):=of_decide_eq_true (by assumption)
       obtain ⟨ad278,e278,hx278_0,hx278_1,hx278_2⟩:=at_T74 (Kd.R_reads' HO0_0.out).2.2 (ji10) p278 q278
       obtain rfl : (⟨go16,0,none⟩ : Addr) = ad278:=(by injection e278)
       (first|simp only [add_plain] at hx278_0|simp only [add_at] at hx278_0|simp only [Addr.add,Nat.zero_add] at hx278_0|skip)
       (first|simp only [add_plain] at hx278_1|simp only [add_at] at hx278_1|simp only [Addr.add,Nat.zero_add] at hx278_1|skip)
       (first|simp only [add_plain] at hx278_2|simp only [add_at] at hx278_2|simp only [Addr.add,Nat.zero_add] at hx278_2|skip)
       replace p278:=eq_true p278
       replace q278:=eq_true q278
       have p17 : 0 ≤ ((ji10) : Int):=of_decide_eq_true (by assumption)
       have q17 : ((ji10) : Int) < ((l0_0.length : Int) : Int):=of_decide_eq_true (by assumption)
       obtain ⟨ce17,hcl17,hM17,hcc17,hfr17⟩:=Kd.R_elem HO0_0.out z74 ((ji10) : Int) p17 q17
       obtain rfl:=k74_openM hM17
       have hx17_0 : World.cell? _ ⟨go16,((ji10) : Int).toNat * 3,none⟩ = some (.int .i64 ((rd_T74 l0_0 (ji10)).f0)):=hcc17 0 _ rfl
       have hx17_1 : World.cell? _ ⟨go16,((ji10) : Int).toNat * 3 + 1,none⟩ = some (.int .i64 ((rd_T74 l0_0 (ji10)).f1)):=hcc17 1 _ rfl
       have hx17_2 : World.cell? _ ⟨go16,((ji10) : Int).toNat * 3 + 2,none⟩ = some (.string ((rd_T74 l0_0 (ji10)).f2)):=hcc17 2 _ rfl
       have hf17_0 : World.frozen? _ ⟨go16,((ji10) : Int).toNat * 3,none⟩ = false:=hfr17 0
       have hf17_1 : World.frozen? _ ⟨go16,((ji10) : Int).toNat * 3 + 1,none⟩ = false:=hfr17 1
       have hf17_2 : World.frozen? _ ⟨go16,((ji10) : Int).toNat * 3 + 2,none⟩ = false:=hfr17 2
       (try clear hM17);clear hcl17 hcc17 hfr17
       replace p17:=eq_true p17
       replace q17:=eq_true q17
       refine start_ (n:=33) (S:=fun w'=>True) (ds:=[]) #[false,false,false,false,false,false,false,false,false,false,false,false,false,false,false,false,false,false,false,false,false,false,false,false,false,false,false,false,false,false,false,false,false] (by kernel_rfl) rfl rfl trivial (fun hHeld=>?_);refine with_tabW impl_builder_add.tab6 impl_builder_add.bits6 (fun HT_ HW_=>?_)
       generalize w26.drew = w28 at HO0_0 BK0 BK274 HK HB hHeld ⊢
       refine inv_at [0,1,2,3,4,5,6,7,8,9,10,11,12,13,14,15,16,17,18,19,20,21,22,23,24,25,26,27,28,29,30,31,32] (fun a0_ b a w'=>a = putSel a0_ b [(0,49,.pointer (some ⟨go16,((ji10) : Int).toNat * 3,none⟩)),(1,50,.pointer (some ⟨go16,((ji10) : Int).toNat * 3,none⟩)),(2,51,.pointer (some ⟨go16,((ji10) : Int).toNat * 3,none⟩)),(3,52,.pointer (some ⟨go16,((ji10) : Int).toNat * 3,none⟩)),(4,53,.pointer (some ⟨go16,((ji10) : Int).toNat * 3,none⟩)),(5,54,.pointer (some ⟨go16,((ji10) : Int).toNat * 3,none⟩)),(6,55,.int .i64 ((rd_T74 l0_0 (ji10)).f0)),(7,56,.pointer (some ⟨gb274,0,none⟩)),(8,57,.int .i64 a1_0),(9,58,.int .i64 (wrap64 (((rd_T74 l0_0 (ji10)).f0) + a1_0))),(10,59,.pointer (some ⟨go16,((ji10) : Int).toNat * 3,none⟩)),(11,60,.pointer (some ⟨go16,((ji10) : Int).toNat * 3,none⟩)),(12,61,.pointer (some ⟨go16,((ji10) : Int).toNat * 3 + 1,none⟩)),(13,62,.int .i64 ((rd_T74 l0_0 (ji10)).f1)),(14,63,.pointer (some ⟨gb274,1,none⟩)),(15,64,.int .i64 a1_1),(16,65,.int .i64 (wrap64 (((rd_T74 l0_0 (ji10)).f1) + a1_1))),(17,66,.pointer (some ⟨go16,((ji10) : Int).toNat * 3,none⟩)),(18,67,.pointer (some ⟨go16,((ji10) : Int).toNat * 3,none⟩)),(19,68,.pointer (some ⟨go16,((ji10) : Int).toNat * 3 + 2,none⟩)),(20,69,.string ((rd_T74 l0_0 (ji10)).f2)),(21,70,.pointer (some ⟨gb274,2,none⟩)),(22,71,.string a1_2),(23,72,.string (((rd_T74 l0_0 (ji10)).f2) ++ a1_2)),(24,73,.pointer (some ⟨go16,((ji10) : Int).toNat * 3,none⟩)),(25,74,.pointer (some ⟨go16,((ji10) : Int).toNat * 3,none⟩)),(27,75,.pointer (some ⟨go16,((ji10) : Int).toNat * 3,none⟩)),(28,76,.pointer (some ⟨go16,((ji10) : Int).toNat * 3 + 1,none⟩)),(30,77,.pointer (some ⟨go16,((ji10) : Int).toNat * 3,none⟩)),(31,78,.pointer (some ⟨go16,((ji10) : Int).toNat * 3 + 2,none⟩))]∧(b 26 = false → Kd.R k74 74 w' w0.heap.size (fun k_=>(P0_0_ k_ ∨ w.heap.size ≤ k_)∧k_ ≠ gb274) (.slice (some ⟨go16,0,none⟩) l0_0.length co22) l0_0)∧(b 26 = true → b 29 = false → Kd.R k74 74 w' w0.heap.size (fun k_=>(P0_0_ k_ ∨ w.heap.size ≤ k_)∧k_ ≠ gb274) (.slice (some ⟨go16,0,none⟩) l0_0.length co22) y279)∧(b 29 = true → b 32 = false → Kd.R k74 74 w' w0.heap.size (fun k_=>(P0_0_ k_ ∨ w.heap.size ≤ k_)∧k_ ≠ gb274) (.slice (some ⟨go16,0,none⟩) l0_0.length co22) y280)∧(b 32 = true → Kd.R k74 74 w' w0.heap.size (fun k_=>(P0_0_ k_ ∨ w.heap.size ≤ k_)∧k_ ≠ gb274) (.slice (some ⟨go16,0,none⟩) l0_0.length co22) y281)∧(w'.heap[g0_]? = some (.cells #[.slice (some ⟨go16,0,none⟩) l0_0.length co22] 92 (0,0)))∧(w'.heap[gb274]? = some (.cells #[.int .i64 a1_0,.int .i64 a1_1,.string a1_2] 74 (0,0)))∧(Kept w w' (fun k_=>(P0_0_ k_) ∨ k_ = g0_))∧(Below w0.heap.size w0 w')) HT_.out HW_.out (by kernel_rfl) (by kernel_rfl) ?_ ?_ ?_
       ·exact ⟨by simp only [putSel,Bool.false_eq_true,if_false],fun _=>HO0_0.out,fun h_=>absurd h_ (by decide),fun h_=>absurd h_ (by decide),fun h_=>absurd h_ (by decide),BK0.out,BK274.out,HK.out,HB.out⟩
       ·skip
        clear BK0 BK274 HB HK HO0_0
        refine steps_cons ?_ ?_
        ·rintro b a w' ⟨ha,Q_HO0_0,Q_HO0_0_1,Q_HO0_0_2,Q_HO0_0_3,Q_BK0,Q_BK274,Q_HK,Q_HB⟩ hb_ hon hoff
         refine ⟨_,rfl,fun K hK=>?_⟩
         have e5 : a.tmps[5]? = some (.pointer (some ⟨go16,((ji10) : Int).toNat * 3,none⟩)):=by rw [ha];exact (putSel_off rfl).trans rfl
         replace ha:=Aside0.mk ha
         have HO0_0:=Aside0.mk (Q_HO0_0 (hoff 26 (by kernel_rfl)))
         have BK0:=Aside0.mk Q_BK0
         have BK274:=Aside0.mk Q_BK274
         have HK:=Aside0.mk Q_HK
         have HB:=Aside0.mk Q_HB
         refine value_ (w1:=w') (v:=.pointer (some ⟨go16,((ji10) : Int).toNat * 3,none⟩)) (by rfl) rfl ?_ ?_
         ·go_simp
          (try simp only [i64_w])
          try rfl
         refine hK.out _ _ ⟨(by rw [ha.out];exact putSel_upk 0 hb_ rfl rfl rfl),Q_HO0_0,fun h0_ _=>absurd ((hoff 26 (by kernel_rfl)).symm.trans h0_) (by decide),fun h0_ _=>absurd ((hoff 29 (by kernel_rfl)).symm.trans h0_) (by decide),fun h0_=>absurd ((hoff 32 (by kernel_rfl)).symm.trans h0_) (by decide),Q_BK0,Q_BK274,Q_HK,Q_HB⟩
        refine steps_cons ?_ ?_
        ·rintro b a w' ⟨ha,Q_HO0_0,Q_HO0_0_1,Q_HO0_0_2,Q_HO0_0_3,Q_BK0,Q_BK274,Q_HK,Q_HB⟩ hb_ hon hoff
         refine ⟨_,rfl,fun K hK=>?_⟩
         have e5 : a.tmps[5]? = some (.pointer (some ⟨go16,((ji10) : Int).toNat * 3,none⟩)):=by rw [ha];exact (putSel_off rfl).trans rfl
         replace ha:=Aside0.mk ha
         have BK0:=Aside0.mk Q_BK0
         have BK274:=Aside0.mk Q_BK274
         have HK:=Aside0.mk Q_HK
         have HB:=Aside0.mk Q_HB
         refine value_ (w1:=w') (v:=.pointer (some ⟨go16,((ji10) : Int).toNat * 3,none⟩)) (by rfl) rfl ?_ ?_
         ·go_simp
          (try simp only [i64_w])
          try rfl
         refine hK.out _ _ ⟨(by rw [ha.out];exact putSel_upk 1 hb_ rfl rfl rfl),Q_HO0_0,Q_HO0_0_1,fun h0_ _=>absurd ((hoff 29 (by kernel_rfl)).symm.trans h0_) (by decide),fun h0_=>absurd ((hoff 32 (by kernel_rfl)).symm.trans h0_) (by decide),Q_BK0,Q_BK274,Q_HK,Q_HB⟩
        refine steps_cons ?_ ?_
        ·rintro b a w' ⟨ha,Q_HO0_0,Q_HO0_0_1,Q_HO0_0_2,Q_HO0_0_3,Q_BK0,Q_BK274,Q_HK,Q_HB⟩ hb_ hon hoff
         refine ⟨_,rfl,fun K hK=>?_⟩
         have e5 : a.tmps[5]? = some (.pointer (some ⟨go16,((ji10) : Int).toNat * 3,none⟩)):=by rw [ha];exact (putSel_off rfl).trans rfl
         replace ha:=Aside0.mk ha
         have BK0:=Aside0.mk Q_BK0
         have BK274:=Aside0.mk Q_BK274
         have HK:=Aside0.mk Q_HK
         have HB:=Aside0.mk Q_HB
         refine value_ (w1:=w') (v:=.pointer (some ⟨go16,((ji10) : Int).toNat * 3,none⟩)) (by rfl) rfl ?_ ?_
         ·go_simp
          (try simp only [i64_w])
          try rfl
         refine hK.out _ _ ⟨(by rw [ha.out];exact putSel_upk 2 hb_ rfl rfl rfl),Q_HO0_0,Q_HO0_0_1,Q_HO0_0_2,fun h0_=>absurd ((hoff 32 (by kernel_rfl)).symm.trans h0_) (by decide),Q_BK0,Q_BK274,Q_HK,Q_HB⟩
        refine steps_cons ?_ ?_
        ·rintro b a w' ⟨ha,Q_HO0_0,Q_HO0_0_1,Q_HO0_0_2,Q_HO0_0_3,Q_BK0,Q_BK274,Q_HK,Q_HB⟩ hb_ hon hoff
         refine ⟨_,rfl,fun K hK=>?_⟩
         have e5 : a.tmps[5]? = some (.pointer (some ⟨go16,((ji10) : Int).toNat * 3,none⟩)):=by rw [ha];exact (putSel_off rfl).trans rfl
         replace ha:=Aside0.mk ha
         have HO0_0:=Aside0.mk (Q_HO0_0 (hoff 26 (by kernel_rfl)))
         have BK0:=Aside0.mk Q_BK0
         have BK274:=Aside0.mk Q_BK274
         have HK:=Aside0.mk Q_HK
         have HB:=Aside0.mk Q_HB
         refine value_ (w1:=w') (v:=.pointer (some ⟨go16,((ji10) : Int).toNat * 3,none⟩)) (by rfl) rfl ?_ ?_
         ·go_simp
          (try simp only [i64_w])
          try rfl
         refine hK.out _ _ ⟨(by rw [ha.out];exact putSel_upk 3 hb_ rfl rfl rfl),Q_HO0_0,fun h0_ _=>absurd ((hoff 26 (by kernel_rfl)).symm.trans h0_) (by decide),fun h0_ _=>absurd ((hoff 29 (by kernel_rfl)).symm.trans h0_) (by decide),fun h0_=>absurd ((hoff 32 (by kernel_rfl)).symm.trans h0_) (by decide),Q_BK0,Q_BK274,Q_HK,Q_HB⟩
        refine steps_cons ?_ ?_
        ·rintro b a w' ⟨ha,Q_HO0_0,Q_HO0_0_1,Q_HO0_0_2,Q_HO0_0_3,Q_BK0,Q_BK274,Q_HK,Q_HB⟩ hb_ hon hoff
         refine ⟨_,rfl,fun K hK=>?_⟩
         have e52 : a.tmps[52]? = some (.pointer (some ⟨go16,((ji10) : Int).toNat * 3,none⟩)):=by rw [ha];exact putSel_on (e:=(3,52,.pointer (some ⟨go16,((ji10) : Int).toNat * 3,none⟩))) 3 rfl rfl (hon 3 (by kernel_rfl)) rfl
         replace ha:=Aside0.mk ha
         have HO0_0:=Aside0.mk (Q_HO0_0 (hoff 26 (by kernel_rfl)))
         have BK0:=Aside0.mk Q_BK0
         have BK274:=Aside0.mk Q_BK274
         have HK:=Aside0.mk Q_HK
         have HB:=Aside0.mk Q_HB
         refine value_ (w1:=w') (v:=.pointer (some ⟨go16,((ji10) : Int).toNat * 3,none⟩)) (by rfl) rfl ?_ ?_
         ·go_simp
          (try simp only [i64_w])
          try rfl
         refine hK.out _ _ ⟨(by rw [ha.out];exact putSel_upk 4 hb_ rfl rfl rfl),Q_HO0_0,fun h0_ _=>absurd ((hoff 26 (by kernel_rfl)).symm.trans h0_) (by decide),fun h0_ _=>absurd ((hoff 29 (by kernel_rfl)).symm.trans h0_) (by decide),fun h0_=>absurd ((hoff 32 (by kernel_rfl)).symm.trans h0_) (by decide),Q_BK0,Q_BK274,Q_HK,Q_HB⟩
        refine steps_cons ?_ ?_
        ·rintro b a w' ⟨ha,Q_HO0_0,Q_HO0_0_1,Q_HO0_0_2,Q_HO0_0_3,Q_BK0,Q_BK274,Q_HK,Q_HB⟩ hb_ hon hoff
         refine ⟨_,rfl,fun K hK=>?_⟩
         have e53 : a.tmps[53]? = some (.pointer (some ⟨go16,((ji10) : Int).toNat * 3,none⟩)):=by rw [ha];exact putSel_on (e:=(4,53,.pointer (some ⟨go16,((ji10) : Int).toNat * 3,none⟩))) 4 rfl rfl (hon 4 (by kernel_rfl)) rfl
         replace ha:=Aside0.mk ha
         have HO0_0:=Aside0.mk (Q_HO0_0 (hoff 26 (by kernel_rfl)))
         have BK0:=Aside0.mk Q_BK0
         have BK274:=Aside0.mk Q_BK274
         have HK:=Aside0.mk Q_HK
         have HB:=Aside0.mk Q_HB
         refine value_ (w1:=w') (v:=.pointer (some ⟨go16,((ji10) : Int).toNat * 3,none⟩)) (by rfl) rfl ?_ ?_
         ·go_simp
          (try simp only [i64_w])
          try rfl
         refine hK.out _ _ ⟨(by rw [ha.out];exact putSel_upk 5 hb_ rfl rfl rfl),Q_HO0_0,fun h0_ _=>absurd ((hoff 26 (by kernel_rfl)).symm.trans h0_) (by decide),fun h0_ _=>absurd ((hoff 29 (by kernel_rfl)).symm.trans h0_) (by decide),fun h0_=>absurd ((hoff 32 (by kernel_rfl)).symm.trans h0_) (by decide),Q_BK0,Q_BK274,Q_HK,Q_HB⟩
        refine steps_cons ?_ ?_
        ·rintro b a w' ⟨ha,Q_HO0_0,Q_HO0_0_1,Q_HO0_0_2,Q_HO0_0_3,Q_BK0,Q_BK274,Q_HK,Q_HB⟩ hb_ hon hoff
         refine ⟨_,rfl,fun K hK=>?_⟩
         have e54 : a.tmps[54]? = some (.pointer (some ⟨go16,((ji10) : Int).toNat * 3,none⟩)):=by rw [ha];exact putSel_on (e:=(5,54,.pointer (some ⟨go16,((ji10) : Int).toNat * 3,none⟩))) 5 rfl rfl (hon 5 (by kernel_rfl)) rfl
         replace ha:=Aside0.mk ha
         have HO0_0:=Aside0.mk (Q_HO0_0 (hoff 26 (by kernel_rfl)))
         have BK0:=Aside0.mk Q_BK0
         have BK274:=Aside0.mk Q_BK274
         have HK:=Aside0.mk Q_HK
         have HB:=Aside0.mk Q_HB
         obtain ⟨ce_,hcl_,hM_,hcc_,hfr_⟩:=Kd.R_elem HO0_0.out z74 ((ji10) : Int) (of_decide_eq_true (by assumption)) (by have h_ : ((ji10) : Int) < ((l0_0.length : Int) : Int):=of_decide_eq_true (by assumption);first|exact h_|(have e_:=(Kd.R_reads' HO0_0.out).1;omega)|simpa using h_)
         obtain rfl:=k74_openM hM_
         have hx0_ : w'.cell? ⟨go16,((ji10) : Int).toNat * 3,none⟩ = some (.int .i64 ((rd_T74 l0_0 (ji10)).f0)):=hcc_ 0 _ rfl
         refine value_ (w1:=w') (v:=.int .i64 ((rd_T74 l0_0 (ji10)).f0)) (by rfl) rfl ?_ ?_
         ·go_simp
          (try simp only [i64_w])
          try rfl
         refine hK.out _ _ ⟨(by rw [ha.out];exact putSel_upk 6 hb_ rfl rfl rfl),Q_HO0_0,fun h0_ _=>absurd ((hoff 26 (by kernel_rfl)).symm.trans h0_) (by decide),fun h0_ _=>absurd ((hoff 29 (by kernel_rfl)).symm.trans h0_) (by decide),fun h0_=>absurd ((hoff 32 (by kernel_rfl)).symm.trans h0_) (by decide),Q_BK0,Q_BK274,Q_HK,Q_HB⟩
        refine steps_cons ?_ ?_
        ·rintro b a w' ⟨ha,Q_HO0_0,Q_HO0_0_1,Q_HO0_0_2,Q_HO0_0_3,Q_BK0,Q_BK274,Q_HK,Q_HB⟩ hb_ hon hoff
         refine ⟨_,rfl,fun K hK=>?_⟩
         have e3 : a.tmps[3]? = some (.pointer (some ⟨gb274,0,none⟩)):=by rw [ha];exact (putSel_off rfl).trans rfl
         replace ha:=Aside0.mk ha
         have HO0_0:=Aside0.mk (Q_HO0_0 (hoff 26 (by kernel_rfl)))
         have BK0:=Aside0.mk Q_BK0
         have BK274:=Aside0.mk Q_BK274
         have HK:=Aside0.mk Q_HK
         have HB:=Aside0.mk Q_HB
         refine value_ (w1:=w') (v:=.pointer (some ⟨gb274,0,none⟩)) (by rfl) rfl ?_ ?_
         ·go_simp
          (try simp only [i64_w])
          try rfl
         refine hK.out _ _ ⟨(by rw [ha.out];exact putSel_upk 7 hb_ rfl rfl rfl),Q_HO0_0,fun h0_ _=>absurd ((hoff 26 (by kernel_rfl)).symm.trans h0_) (by decide),fun h0_ _=>absurd ((hoff 29 (by kernel_rfl)).symm.trans h0_) (by decide),fun h0_=>absurd ((hoff 32 (by kernel_rfl)).symm.trans h0_) (by decide),Q_BK0,Q_BK274,Q_HK,Q_HB⟩
        refine steps_cons ?_ ?_
        ·rintro b a w' ⟨ha,Q_HO0_0,Q_HO0_0_1,Q_HO0_0_2,Q_HO0_0_3,Q_BK0,Q_BK274,Q_HK,Q_HB⟩ hb_ hon hoff
         refine ⟨_,rfl,fun K hK=>?_⟩
         have e56 : a.tmps[56]? = some (.pointer (some ⟨gb274,0,none⟩)):=by rw [ha];exact putSel_on (e:=(7,56,.pointer (some ⟨gb274,0,none⟩))) 7 rfl rfl (hon 7 (by kernel_rfl)) rfl
         replace ha:=Aside0.mk ha
         have HO0_0:=Aside0.mk (Q_HO0_0 (hoff 26 (by kernel_rfl)))
         have BK0:=Aside0.mk Q_BK0
         have BK274:=Aside0.mk Q_BK274
         have HK:=Aside0.mk Q_HK
         have HB:=Aside0.mk Q_HB
         have hc0_ : w'.cell? ⟨gb274,0,none⟩ = some (.int .i64 a1_0):=(blk_cell BK274.out 0).trans rfl
         have hc1_ : w'.cell? ⟨gb274,1,none⟩ = some (.int .i64 a1_1):=(blk_cell BK274.out 1).trans rfl
         have hc2_ : w'.cell? ⟨gb274,2,none⟩ = some (.string a1_2):=(blk_cell BK274.out 2).trans rfl
         refine value_ (w1:=w') (v:=.int .i64 a1_0) (by rfl) rfl ?_ ?_
         ·go_simp
          (try simp only [i64_w])
          try rfl
         refine hK.out _ _ ⟨(by rw [ha.out];exact putSel_upk 8 hb_ rfl rfl rfl),Q_HO0_0,fun h0_ _=>absurd ((hoff 26 (by kernel_rfl)).symm.trans h0_) (by decide),fun h0_ _=>absurd ((hoff 29 (by kernel_rfl)).symm.trans h0_) (by decide),fun h0_=>absurd ((hoff 32 (by kernel_rfl)).symm.trans h0_) (by decide),Q_BK0,Q_BK274,Q_HK,Q_HB⟩
        refine steps_cons ?_ ?_
        ·rintro b a w' ⟨ha,Q_HO0_0,Q_HO0_0_1,Q_HO0_0_2,Q_HO0_0_3,Q_BK0,Q_BK274,Q_HK,Q_HB⟩ hb_ hon hoff
         refine ⟨_,rfl,fun K hK=>?_⟩
         have e55 : a.tmps[55]? = some (.int .i64 ((rd_T74 l0_0 (ji10)).f0)):=by rw [ha];exact putSel_on (e:=(6,55,.int .i64 ((rd_T74 l0_0 (ji10)).f0))) 6 rfl rfl (hon 6 (by kernel_rfl)) rfl
         have e57 : a.tmps[57]? = some (.int .i64 a1_0):=by rw [ha];exact putSel_on (e:=(8,57,.int .i64 a1_0)) 8 rfl rfl (hon 8 (by kernel_rfl)) rfl
         replace ha:=Aside0.mk ha
         have HO0_0:=Aside0.mk (Q_HO0_0 (hoff 26 (by kernel_rfl)))
         have BK0:=Aside0.mk Q_BK0
         have BK274:=Aside0.mk Q_BK274
         have HK:=Aside0.mk Q_HK
         have HB:=Aside0.mk Q_HB
         refine value_ (w1:=w') (v:=.int .i64 (wrap64 (((rd_T74 l0_0 (ji10)).f0) + a1_0))) (by rfl) rfl ?_ ?_
         ·go_simp
          (try simp only [i64_w])
          try rfl
         refine hK.out _ _ ⟨(by rw [ha.out];exact putSel_upk 9 hb_ rfl rfl rfl),Q_HO0_0,fun h0_ _=>absurd ((hoff 26 (by kernel_rfl)).symm.trans h0_) (by decide),fun h0_ _=>absurd ((hoff 29 (by kernel_rfl)).symm.trans h0_) (by decide),fun h0_=>absurd ((hoff 32 (by kernel_rfl)).symm.trans h0_) (by decide),Q_BK0,Q_BK274,Q_HK,Q_HB⟩
        refine steps_cons ?_ ?_
        ·rintro b a w' ⟨ha,Q_HO0_0,Q_HO0_0_1,Q_HO0_0_2,Q_HO0_0_3,Q_BK0,Q_BK274,Q_HK,Q_HB⟩ hb_ hon hoff
         refine ⟨_,rfl,fun K hK=>?_⟩
         have e5 : a.tmps[5]? = some (.pointer (some ⟨go16,((ji10) : Int).toNat * 3,none⟩)):=by rw [ha];exact (putSel_off rfl).trans rfl
         replace ha:=Aside0.mk ha
         have HO0_0:=Aside0.mk (Q_HO0_0 (hoff 26 (by kernel_rfl)))
         have BK0:=Aside0.mk Q_BK0
         have BK274:=Aside0.mk Q_BK274
         have HK:=Aside0.mk Q_HK
         have HB:=Aside0.mk Q_HB
         refine value_ (w1:=w') (v:=.pointer (some ⟨go16,((ji10) : Int).toNat * 3,none⟩)) (by rfl) rfl ?_ ?_
         ·go_simp
          (try simp only [i64_w])
          try rfl
         refine hK.out _ _ ⟨(by rw [ha.out];exact putSel_upk 10 hb_ rfl rfl rfl),Q_HO0_0,fun h0_ _=>absurd ((hoff 26 (by kernel_rfl)).symm.trans h0_) (by decide),fun h0_ _=>absurd ((hoff 29 (by kernel_rfl)).symm.trans h0_) (by decide),fun h0_=>absurd ((hoff 32 (by kernel_rfl)).symm.trans h0_) (by decide),Q_BK0,Q_BK274,Q_HK,Q_HB⟩
        refine steps_cons ?_ ?_
        ·rintro b a w' ⟨ha,Q_HO0_0,Q_HO0_0_1,Q_HO0_0_2,Q_HO0_0_3,Q_BK0,Q_BK274,Q_HK,Q_HB⟩ hb_ hon hoff
         refine ⟨_,rfl,fun K hK=>?_⟩
         have e59 : a.tmps[59]? = some (.pointer (some ⟨go16,((ji10) : Int).toNat * 3,none⟩)):=by rw [ha];exact putSel_on (e:=(10,59,.pointer (some ⟨go16,((ji10) : Int).toNat * 3,none⟩))) 10 rfl rfl (hon 10 (by kernel_rfl)) rfl
         replace ha:=Aside0.mk ha
         have HO0_0:=Aside0.mk (Q_HO0_0 (hoff 26 (by kernel_rfl)))
         have BK0:=Aside0.mk Q_BK0
         have BK274:=Aside0.mk Q_BK274
         have HK:=Aside0.mk Q_HK
         have HB:=Aside0.mk Q_HB
         refine value_ (w1:=w') (v:=.pointer (some ⟨go16,((ji10) : Int).toNat * 3,none⟩)) (by rfl) rfl ?_ ?_
         ·go_simp
          (try simp only [i64_w])
          try rfl
         refine hK.out _ _ ⟨(by rw [ha.out];exact putSel_upk 11 hb_ rfl rfl rfl),Q_HO0_0,fun h0_ _=>absurd ((hoff 26 (by kernel_rfl)).symm.trans h0_) (by decide),fun h0_ _=>absurd ((hoff 29 (by kernel_rfl)).symm.trans h0_) (by decide),fun h0_=>absurd ((hoff 32 (by kernel_rfl)).symm.trans h0_) (by decide),Q_BK0,Q_BK274,Q_HK,Q_HB⟩
        refine steps_cons ?_ ?_
        ·rintro b a w' ⟨ha,Q_HO0_0,Q_HO0_0_1,Q_HO0_0_2,Q_HO0_0_3,Q_BK0,Q_BK274,Q_HK,Q_HB⟩ hb_ hon hoff
         refine ⟨_,rfl,fun K hK=>?_⟩
         have e60 : a.tmps[60]? = some (.pointer (some ⟨go16,((ji10) : Int).toNat * 3,none⟩)):=by rw [ha];exact putSel_on (e:=(11,60,.pointer (some ⟨go16,((ji10) : Int).toNat * 3,none⟩))) 11 rfl rfl (hon 11 (by kernel_rfl)) rfl
         replace ha:=Aside0.mk ha
         have HO0_0:=Aside0.mk (Q_HO0_0 (hoff 26 (by kernel_rfl)))
         have BK0:=Aside0.mk Q_BK0
         have BK274:=Aside0.mk Q_BK274
         have HK:=Aside0.mk Q_HK
         have HB:=Aside0.mk Q_HB
         refine value_ (w1:=w') (v:=.pointer (some ⟨go16,((ji10) : Int).toNat * 3 + 1,none⟩)) (by rfl) rfl ?_ ?_
         ·go_simp
          (try simp only [i64_w])
          try rfl
         refine hK.out _ _ ⟨(by rw [ha.out];exact putSel_upk 12 hb_ rfl rfl rfl),Q_HO0_0,fun h0_ _=>absurd ((hoff 26 (by kernel_rfl)).symm.trans h0_) (by decide),fun h0_ _=>absurd ((hoff 29 (by kernel_rfl)).symm.trans h0_) (by decide),fun h0_=>absurd ((hoff 32 (by kernel_rfl)).symm.trans h0_) (by decide),Q_BK0,Q_BK274,Q_HK,Q_HB⟩
        refine steps_cons ?_ ?_
        ·rintro b a w' ⟨ha,Q_HO0_0,Q_HO0_0_1,Q_HO0_0_2,Q_HO0_0_3,Q_BK0,Q_BK274,Q_HK,Q_HB⟩ hb_ hon hoff
         refine ⟨_,rfl,fun K hK=>?_⟩
         have e61 : a.tmps[61]? = some (.pointer (some ⟨go16,((ji10) : Int).toNat * 3 + 1,none⟩)):=by rw [ha];exact putSel_on (e:=(12,61,.pointer (some ⟨go16,((ji10) : Int).toNat * 3 + 1,none⟩))) 12 rfl rfl (hon 12 (by kernel_rfl)) rfl
         replace ha:=Aside0.mk ha
         have HO0_0:=Aside0.mk (Q_HO0_0 (hoff 26 (by kernel_rfl)))
         have BK0:=Aside0.mk Q_BK0
         have BK274:=Aside0.mk Q_BK274
         have HK:=Aside0.mk Q_HK
         have HB:=Aside0.mk Q_HB
         obtain ⟨ce_,hcl_,hM_,hcc_,hfr_⟩:=Kd.R_elem HO0_0.out z74 ((ji10) : Int) (of_decide_eq_true (by assumption)) (by have h_ : ((ji10) : Int) < ((l0_0.length : Int) : Int):=of_decide_eq_true (by assumption);first|exact h_|(have e_:=(Kd.R_reads' HO0_0.out).1;omega)|simpa using h_)
         obtain rfl:=k74_openM hM_
         have hx1_ : w'.cell? ⟨go16,((ji10) : Int).toNat * 3 + 1,none⟩ = some (.int .i64 ((rd_T74 l0_0 (ji10)).f1)):=hcc_ 1 _ rfl
         refine value_ (w1:=w') (v:=.int .i64 ((rd_T74 l0_0 (ji10)).f1)) (by rfl) rfl ?_ ?_
         ·go_simp
          (try simp only [i64_w])
          try rfl
         refine hK.out _ _ ⟨(by rw [ha.out];exact putSel_upk 13 hb_ rfl rfl rfl),Q_HO0_0,fun h0_ _=>absurd ((hoff 26 (by kernel_rfl)).symm.trans h0_) (by decide),fun h0_ _=>absurd ((hoff 29 (by kernel_rfl)).symm.trans h0_) (by decide),fun h0_=>absurd ((hoff 32 (by kernel_rfl)).symm.trans h0_) (by decide),Q_BK0,Q_BK274,Q_HK,Q_HB⟩
        refine steps_cons ?_ ?_
        ·rintro b a w' ⟨ha,Q_HO0_0,Q_HO0_0_1,Q_HO0_0_2,Q_HO0_0_3,Q_BK0,Q_BK274,Q_HK,Q_HB⟩ hb_ hon hoff
         refine ⟨_,rfl,fun K hK=>?_⟩
         have e3 : a.tmps[3]? = some (.pointer (some ⟨gb274,0,none⟩)):=by rw [ha];exact (putSel_off rfl).trans rfl
         replace ha:=Aside0.mk ha
         have BK0:=Aside0.mk Q_BK0
         have BK274:=Aside0.mk Q_BK274
         have HK:=Aside0.mk Q_HK
         have HB:=Aside0.mk Q_HB
         refine value_ (w1:=w') (v:=.pointer (some ⟨gb274,1,none⟩)) (by rfl) rfl ?_ ?_
         ·go_simp
          (try simp only [i64_w])
          try rfl
         refine hK.out _ _ ⟨(by rw [ha.out];exact putSel_upk 14 hb_ rfl rfl rfl),Q_HO0_0,Q_HO0_0_1,fun h0_ _=>absurd ((hoff 29 (by kernel_rfl)).symm.trans h0_) (by decide),fun h0_=>absurd ((hoff 32 (by kernel_rfl)).symm.trans h0_) (by decide),Q_BK0,Q_BK274,Q_HK,Q_HB⟩
        refine steps_cons ?_ ?_
        ·rintro b a w' ⟨ha,Q_HO0_0,Q_HO0_0_1,Q_HO0_0_2,Q_HO0_0_3,Q_BK0,Q_BK274,Q_HK,Q_HB⟩ hb_ hon hoff
         refine ⟨_,rfl,fun K hK=>?_⟩
         have e63 : a.tmps[63]? = some (.pointer (some ⟨gb274,1,none⟩)):=by rw [ha];exact putSel_on (e:=(14,63,.pointer (some ⟨gb274,1,none⟩))) 14 rfl rfl (hon 14 (by kernel_rfl)) rfl
         replace ha:=Aside0.mk ha
         have BK0:=Aside0.mk Q_BK0
         have BK274:=Aside0.mk Q_BK274
         have HK:=Aside0.mk Q_HK
         have HB:=Aside0.mk Q_HB
         have hc0_ : w'.cell? ⟨gb274,0,none⟩ = some (.int .i64 a1_0):=(blk_cell BK274.out 0).trans rfl
         have hc1_ : w'.cell? ⟨gb274,1,none⟩ = some (.int .i64 a1_1):=(blk_cell BK274.out 1).trans rfl
         have hc2_ : w'.cell? ⟨gb274,2,none⟩ = some (.string a1_2):=(blk_cell BK274.out 2).trans rfl
         refine value_ (w1:=w') (v:=.int .i64 a1_1) (by rfl) rfl ?_ ?_
         ·go_simp
          (try simp only [i64_w])
          try rfl
         refine hK.out _ _ ⟨(by rw [ha.out];exact putSel_upk 15 hb_ rfl rfl rfl),Q_HO0_0,Q_HO0_0_1,fun h0_ _=>absurd ((hoff 29 (by kernel_rfl)).symm.trans h0_) (by decide),fun h0_=>absurd ((hoff 32 (by kernel_rfl)).symm.trans h0_) (by decide),Q_BK0,Q_BK274,Q_HK,Q_HB⟩
        refine steps_cons ?_ ?_
        ·rintro b a w' ⟨ha,Q_HO0_0,Q_HO0_0_1,Q_HO0_0_2,Q_HO0_0_3,Q_BK0,Q_BK274,Q_HK,Q_HB⟩ hb_ hon hoff
         refine ⟨_,rfl,fun K hK=>?_⟩
         have e62 : a.tmps[62]? = some (.int .i64 ((rd_T74 l0_0 (ji10)).f1)):=by rw [ha];exact putSel_on (e:=(13,62,.int .i64 ((rd_T74 l0_0 (ji10)).f1))) 13 rfl rfl (hon 13 (by kernel_rfl)) rfl
         have e64 : a.tmps[64]? = some (.int .i64 a1_1):=by rw [ha];exact putSel_on (e:=(15,64,.int .i64 a1_1)) 15 rfl rfl (hon 15 (by kernel_rfl)) rfl
         replace ha:=Aside0.mk ha
         have BK0:=Aside0.mk Q_BK0
         have BK274:=Aside0.mk Q_BK274
         have HK:=Aside0.mk Q_HK
         have HB:=Aside0.mk Q_HB
         refine value_ (w1:=w') (v:=.int .i64 (wrap64 (((rd_T74 l0_0 (ji10)).f1) + a1_1))) (by rfl) rfl ?_ ?_
         ·go_simp
          (try simp only [i64_w])
          try rfl
         refine hK.out _ _ ⟨(by rw [ha.out];exact putSel_upk 16 hb_ rfl rfl rfl),Q_HO0_0,Q_HO0_0_1,fun h0_ _=>absurd ((hoff 29 (by kernel_rfl)).symm.trans h0_) (by decide),fun h0_=>absurd ((hoff 32 (by kernel_rfl)).symm.trans h0_) (by decide),Q_BK0,Q_BK274,Q_HK,Q_HB⟩
        refine steps_cons ?_ ?_
        ·rintro b a w' ⟨ha,Q_HO0_0,Q_HO0_0_1,Q_HO0_0_2,Q_HO0_0_3,Q_BK0,Q_BK274,Q_HK,Q_HB⟩ hb_ hon hoff
         refine ⟨_,rfl,fun K hK=>?_⟩
         have e5 : a.tmps[5]? = some (.pointer (some ⟨go16,((ji10) : Int).toNat * 3,none⟩)):=by rw [ha];exact (putSel_off rfl).trans rfl
         replace ha:=Aside0.mk ha
         have HO0_0:=Aside0.mk (Q_HO0_0 (hoff 26 (by kernel_rfl)))
         have BK0:=Aside0.mk Q_BK0
         have BK274:=Aside0.mk Q_BK274
         have HK:=Aside0.mk Q_HK
         have HB:=Aside0.mk Q_HB
         refine value_ (w1:=w') (v:=.pointer (some ⟨go16,((ji10) : Int).toNat * 3,none⟩)) (by rfl) rfl ?_ ?_
         ·go_simp
          (try simp only [i64_w])
          try rfl
         refine hK.out _ _ ⟨(by rw [ha.out];exact putSel_upk 17 hb_ rfl rfl rfl),Q_HO0_0,fun h0_ _=>absurd ((hoff 26 (by kernel_rfl)).symm.trans h0_) (by decide),fun h0_ _=>absurd ((hoff 29 (by kernel_rfl)).symm.trans h0_) (by decide),fun h0_=>absurd ((hoff 32 (by kernel_rfl)).symm.trans h0_) (by decide),Q_BK0,Q_BK274,Q_HK,Q_HB⟩
        refine steps_cons ?_ ?_
        ·rintro b a w' ⟨ha,Q_HO0_0,Q_HO0_0_1,Q_HO0_0_2,Q_HO0_0_3,Q_BK0,Q_BK274,Q_HK,Q_HB⟩ hb_ hon hoff
         refine ⟨_,rfl,fun K hK=>?_⟩
         have e66 : a.tmps[66]? = some (.pointer (some ⟨go16,((ji10) : Int).toNat * 3,none⟩)):=by rw [ha];exact putSel_on (e:=(17,66,.pointer (some ⟨go16,((ji10) : Int).toNat * 3,none⟩))) 17 rfl rfl (hon 17 (by kernel_rfl)) rfl
         replace ha:=Aside0.mk ha
         have HO0_0:=Aside0.mk (Q_HO0_0 (hoff 26 (by kernel_rfl)))
         have BK0:=Aside0.mk Q_BK0
         have BK274:=Aside0.mk Q_BK274
         have HK:=Aside0.mk Q_HK
         have HB:=Aside0.mk Q_HB
         refine value_ (w1:=w') (v:=.pointer (some ⟨go16,((ji10) : Int).toNat * 3,none⟩)) (by rfl) rfl ?_ ?_
         ·go_simp
          (try simp only [i64_w])
          try rfl
         refine hK.out _ _ ⟨(by rw [ha.out];exact putSel_upk 18 hb_ rfl rfl rfl),Q_HO0_0,fun h0_ _=>absurd ((hoff 26 (by kernel_rfl)).symm.trans h0_) (by decide),fun h0_ _=>absurd ((hoff 29 (by kernel_rfl)).symm.trans h0_) (by decide),fun h0_=>absurd ((hoff 32 (by kernel_rfl)).symm.trans h0_) (by decide),Q_BK0,Q_BK274,Q_HK,Q_HB⟩
        refine steps_cons ?_ ?_
        ·rintro b a w' ⟨ha,Q_HO0_0,Q_HO0_0_1,Q_HO0_0_2,Q_HO0_0_3,Q_BK0,Q_BK274,Q_HK,Q_HB⟩ hb_ hon hoff
         refine ⟨_,rfl,fun K hK=>?_⟩
         have e67 : a.tmps[67]? = some (.pointer (some ⟨go16,((ji10) : Int).toNat * 3,none⟩)):=by rw [ha];exact putSel_on (e:=(18,67,.pointer (some ⟨go16,((ji10) : Int).toNat * 3,none⟩))) 18 rfl rfl (hon 18 (by kernel_rfl)) rfl
         replace ha:=Aside0.mk ha
         have HO0_0:=Aside0.mk (Q_HO0_0 (hoff 26 (by kernel_rfl)))
         have BK0:=Aside0.mk Q_BK0
         have BK274:=Aside0.mk Q_BK274
         have HK:=Aside0.mk Q_HK
         have HB:=Aside0.mk Q_HB
         refine value_ (w1:=w') (v:=.pointer (some ⟨go16,((ji10) : Int).toNat * 3 + 2,none⟩)) (by rfl) rfl ?_ ?_
         ·go_simp
          (try simp only [i64_w])
          try rfl
         refine hK.out _ _ ⟨(by rw [ha.out];exact putSel_upk 19 hb_ rfl rfl rfl),Q_HO0_0,fun h0_ _=>absurd ((hoff 26 (by kernel_rfl)).symm.trans h0_) (by decide),fun h0_ _=>absurd ((hoff 29 (by kernel_rfl)).symm.trans h0_) (by decide),fun h0_=>absurd ((hoff 32 (by kernel_rfl)).symm.trans h0_) (by decide),Q_BK0,Q_BK274,Q_HK,Q_HB⟩
        refine steps_cons ?_ ?_
        ·rintro b a w' ⟨ha,Q_HO0_0,Q_HO0_0_1,Q_HO0_0_2,Q_HO0_0_3,Q_BK0,Q_BK274,Q_HK,Q_HB⟩ hb_ hon hoff
         refine ⟨_,rfl,fun K hK=>?_⟩
         have e68 : a.tmps[68]? = some (.pointer (some ⟨go16,((ji10) : Int).toNat * 3 + 2,none⟩)):=by rw [ha];exact putSel_on (e:=(19,68,.pointer (some ⟨go16,((ji10) : Int).toNat * 3 + 2,none⟩))) 19 rfl rfl (hon 19 (by kernel_rfl)) rfl
         replace ha:=Aside0.mk ha
         have HO0_0:=Aside0.mk (Q_HO0_0 (hoff 26 (by kernel_rfl)))
         have BK0:=Aside0.mk Q_BK0
         have BK274:=Aside0.mk Q_BK274
         have HK:=Aside0.mk Q_HK
         have HB:=Aside0.mk Q_HB
         obtain ⟨ce_,hcl_,hM_,hcc_,hfr_⟩:=Kd.R_elem HO0_0.out z74 ((ji10) : Int) (of_decide_eq_true (by assumption)) (by have h_ : ((ji10) : Int) < ((l0_0.length : Int) : Int):=of_decide_eq_true (by assumption);first|exact h_|(have e_:=(Kd.R_reads' HO0_0.out).1;omega)|simpa using h_)
         obtain rfl:=k74_openM hM_
         have hx2_ : w'.cell? ⟨go16,((ji10) : Int).toNat * 3 + 2,none⟩ = some (.string ((rd_T74 l0_0 (ji10)).f2)):=hcc_ 2 _ rfl
         refine value_ (w1:=w') (v:=.string ((rd_T74 l0_0 (ji10)).f2)) (by rfl) rfl ?_ ?_
         ·go_simp
          (try simp only [i64_w])
          try rfl
         refine hK.out _ _ ⟨(by rw [ha.out];exact putSel_upk 20 hb_ rfl rfl rfl),Q_HO0_0,fun h0_ _=>absurd ((hoff 26 (by kernel_rfl)).symm.trans h0_) (by decide),fun h0_ _=>absurd ((hoff 29 (by kernel_rfl)).symm.trans h0_) (by decide),fun h0_=>absurd ((hoff 32 (by kernel_rfl)).symm.trans h0_) (by decide),Q_BK0,Q_BK274,Q_HK,Q_HB⟩
        refine steps_cons ?_ ?_
        ·rintro b a w' ⟨ha,Q_HO0_0,Q_HO0_0_1,Q_HO0_0_2,Q_HO0_0_3,Q_BK0,Q_BK274,Q_HK,Q_HB⟩ hb_ hon hoff
         refine ⟨_,rfl,fun K hK=>?_⟩
         have e3 : a.tmps[3]? = some (.pointer (some ⟨gb274,0,none⟩)):=by rw [ha];exact (putSel_off rfl).trans rfl
         replace ha:=Aside0.mk ha
         have BK0:=Aside0.mk Q_BK0
         have BK274:=Aside0.mk Q_BK274
         have HK:=Aside0.mk Q_HK
         have HB:=Aside0.mk Q_HB
         refine value_ (w1:=w') (v:=.pointer (some ⟨gb274,2,none⟩)) (by rfl) rfl ?_ ?_
         ·go_simp
          (try simp only [i64_w])
          try rfl
         refine hK.out _ _ ⟨(by rw [ha.out];exact putSel_upk 21 hb_ rfl rfl rfl),Q_HO0_0,Q_HO0_0_1,Q_HO0_0_2,fun h0_=>absurd ((hoff 32 (by kernel_rfl)).symm.trans h0_) (by decide),Q_BK0,Q_BK274,Q_HK,Q_HB⟩
        refine steps_cons ?_ ?_
        ·rintro b a w' ⟨ha,Q_HO0_0,Q_HO0_0_1,Q_HO0_0_2,Q_HO0_0_3,Q_BK0,Q_BK274,Q_HK,Q_HB⟩ hb_ hon hoff
         refine ⟨_,rfl,fun K hK=>?_⟩
         have e70 : a.tmps[70]? = some (.pointer (some ⟨gb274,2,none⟩)):=by rw [ha];exact putSel_on (e:=(21,70,.pointer (some ⟨gb274,2,none⟩))) 21 rfl rfl (hon 21 (by kernel_rfl)) rfl
         replace ha:=Aside0.mk ha
         have BK0:=Aside0.mk Q_BK0
         have BK274:=Aside0.mk Q_BK274
         have HK:=Aside0.mk Q_HK
         have HB:=Aside0.mk Q_HB
         have hc0_ : w'.cell? ⟨gb274,0,none⟩ = some (.int .i64 a1_0):=(blk_cell BK274.out 0).trans rfl
         have hc1_ : w'.cell? ⟨gb274,1,none⟩ = some (.int .i64 a1_1):=(blk_cell BK274.out 1).trans rfl
         have hc2_ : w'.cell? ⟨gb274,2,none⟩ = some (.string a1_2):=(blk_cell BK274.out 2).trans rfl
         refine value_ (w1:=w') (v:=.string a1_2) (by rfl) rfl ?_ ?_
         ·go_simp
          (try simp only [i64_w])
          try rfl
         refine hK.out _ _ ⟨(by rw [ha.out];exact putSel_upk 22 hb_ rfl rfl rfl),Q_HO0_0,Q_HO0_0_1,Q_HO0_0_2,fun h0_=>absurd ((hoff 32 (by kernel_rfl)).symm.trans h0_) (by decide),Q_BK0,Q_BK274,Q_HK,Q_HB⟩
        refine steps_cons ?_ ?_
        ·rintro b a w' ⟨ha,Q_HO0_0,Q_HO0_0_1,Q_HO0_0_2,Q_HO0_0_3,Q_BK0,Q_BK274,Q_HK,Q_HB⟩ hb_ hon hoff
         refine ⟨_,rfl,fun K hK=>?_⟩
         have e69 : a.tmps[69]? = some (.string ((rd_T74 l0_0 (ji10)).f2)):=by rw [ha];exact putSel_on (e:=(20,69,.string ((rd_T74 l0_0 (ji10)).f2))) 20 rfl rfl (hon 20 (by kernel_rfl)) rfl
         have e71 : a.tmps[71]? = some (.string a1_2):=by rw [ha];exact putSel_on (e:=(22,71,.string a1_2)) 22 rfl rfl (hon 22 (by kernel_rfl)) rfl
         replace ha:=Aside0.mk ha
         have BK0:=Aside0.mk Q_BK0
         have BK274:=Aside0.mk Q_BK274
         have HK:=Aside0.mk Q_HK
         have HB:=Aside0.mk Q_HB
         refine value_ (w1:=w') (v:=.string (((rd_T74 l0_0 (ji10)).f2) ++ a1_2)) (by rfl) rfl ?_ ?_
         ·go_simp
          (try simp only [i64_w])
          try rfl
         refine hK.out _ _ ⟨(by rw [ha.out];exact putSel_upk 23 hb_ rfl rfl rfl),Q_HO0_0,Q_HO0_0_1,Q_HO0_0_2,fun h0_=>absurd ((hoff 32 (by kernel_rfl)).symm.trans h0_) (by decide),Q_BK0,Q_BK274,Q_HK,Q_HB⟩
        refine steps_cons ?_ ?_
        ·rintro b a w' ⟨ha,Q_HO0_0,Q_HO0_0_1,Q_HO0_0_2,Q_HO0_0_3,Q_BK0,Q_BK274,Q_HK,Q_HB⟩ hb_ hon hoff
         refine ⟨_,rfl,fun K hK=>?_⟩
         have e49 : a.tmps[49]? = some (.pointer (some ⟨go16,((ji10) : Int).toNat * 3,none⟩)):=by rw [ha];exact putSel_on (e:=(0,49,.pointer (some ⟨go16,((ji10) : Int).toNat * 3,none⟩))) 0 rfl rfl (hon 0 (by kernel_rfl)) rfl
         replace ha:=Aside0.mk ha
         have HO0_0:=Aside0.mk (Q_HO0_0 (hoff 26 (by kernel_rfl)))
         have BK0:=Aside0.mk Q_BK0
         have BK274:=Aside0.mk Q_BK274
         have HK:=Aside0.mk Q_HK
         have HB:=Aside0.mk Q_HB
         refine value_ (w1:=w') (v:=.pointer (some ⟨go16,((ji10) : Int).toNat * 3,none⟩)) (by rfl) rfl ?_ ?_
         ·go_simp
          (try simp only [i64_w])
          try rfl
         refine hK.out _ _ ⟨(by rw [ha.out];exact putSel_upk 24 hb_ rfl rfl rfl),Q_HO0_0,fun h0_ _=>absurd ((hoff 26 (by kernel_rfl)).symm.trans h0_) (by decide),fun h0_ _=>absurd ((hoff 29 (by kernel_rfl)).symm.trans h0_) (by decide),fun h0_=>absurd ((hoff 32 (by kernel_rfl)).symm.trans h0_) (by decide),Q_BK0,Q_BK274,Q_HK,Q_HB⟩
        refine steps_cons ?_ ?_
        ·rintro b a w' ⟨ha,Q_HO0_0,Q_HO0_0_1,Q_HO0_0_2,Q_HO0_0_3,Q_BK0,Q_BK274,Q_HK,Q_HB⟩ hb_ hon hoff
         refine ⟨_,rfl,fun K hK=>?_⟩
         have e73 : a.tmps[73]? = some (.pointer (some ⟨go16,((ji10) : Int).toNat * 3,none⟩)):=by rw [ha];exact putSel_on (e:=(24,73,.pointer (some ⟨go16,((ji10) : Int).toNat * 3,none⟩))) 24 rfl rfl (hon 24 (by kernel_rfl)) rfl
         replace ha:=Aside0.mk ha
         have HO0_0:=Aside0.mk (Q_HO0_0 (hoff 26 (by kernel_rfl)))
         have BK0:=Aside0.mk Q_BK0
         have BK274:=Aside0.mk Q_BK274
         have HK:=Aside0.mk Q_HK
         have HB:=Aside0.mk Q_HB
         refine value_ (w1:=w') (v:=.pointer (some ⟨go16,((ji10) : Int).toNat * 3,none⟩)) (by rfl) rfl ?_ ?_
         ·go_simp
          (try simp only [i64_w])
          try rfl
         refine hK.out _ _ ⟨(by rw [ha.out];exact putSel_upk 25 hb_ rfl rfl rfl),Q_HO0_0,fun h0_ _=>absurd ((hoff 26 (by kernel_rfl)).symm.trans h0_) (by decide),fun h0_ _=>absurd ((hoff 29 (by kernel_rfl)).symm.trans h0_) (by decide),fun h0_=>absurd ((hoff 32 (by kernel_rfl)).symm.trans h0_) (by decide),Q_BK0,Q_BK274,Q_HK,Q_HB⟩
        refine steps_cons ?_ ?_
        ·rintro b a w' ⟨ha,Q_HO0_0,Q_HO0_0_1,Q_HO0_0_2,Q_HO0_0_3,Q_BK0,Q_BK274,Q_HK,Q_HB⟩ hb_ hon hoff
         refine ⟨_,rfl,fun K hK=>?_⟩
         have e74 : a.tmps[74]? = some (.pointer (some ⟨go16,((ji10) : Int).toNat * 3,none⟩)):=by rw [ha];exact putSel_on (e:=(25,74,.pointer (some ⟨go16,((ji10) : Int).toNat * 3,none⟩))) 25 rfl rfl (hon 25 (by kernel_rfl)) rfl
         have e58 : a.tmps[58]? = some (.int .i64 (wrap64 (((rd_T74 l0_0 (ji10)).f0) + a1_0))):=by rw [ha];exact putSel_on (e:=(9,58,.int .i64 (wrap64 (((rd_T74 l0_0 (ji10)).f0) + a1_0)))) 9 rfl rfl (hon 9 (by kernel_rfl)) rfl
         replace ha:=Aside0.mk ha
         have HO0_0:=Aside0.mk (Q_HO0_0 hb_)
         have BK0:=Aside0.mk Q_BK0
         have BK274:=Aside0.mk Q_BK274
         have HK:=Aside0.mk Q_HK
         have HB:=Aside0.mk Q_HB
         obtain ⟨ce_,hcl_,hM_,hcc_,hfr_⟩:=Kd.R_elem HO0_0.out z74 ((ji10) : Int) (of_decide_eq_true (by assumption)) (by have h_ : ((ji10) : Int) < ((l0_0.length : Int) : Int):=of_decide_eq_true (by assumption);first|exact h_|(have e_:=(Kd.R_reads' HO0_0.out).1;omega)|simpa using h_)
         obtain rfl:=k74_openM hM_
         have HP_:=(Kd.R_seg HO0_0.out ((ji10) : Int) (of_decide_eq_true (by assumption)) (by have h_ : ((ji10) : Int) < ((l0_0.length : Int) : Int):=of_decide_eq_true (by assumption);first|exact h_|(have e_:=(Kd.R_reads' HO0_0.out).1;omega)|simpa using h_) (seg:=[.int .i64 (wrap64 (((rd_T74 l0_0 (ji10)).f0) + a1_0))]) (j:=0) hcl_ hcc_ (show 1 ≤ 3 from by decide) (x':=(⟨wrap64 (((rd_T74 l0_0 (ji10)).f0) + a1_0),(rd_T74 l0_0 (ji10)).f1,(rd_T74 l0_0 (ji10)).f2⟩ : S74)) (k74_mkM _ _ _ (⟨wrap64 (((rd_T74 l0_0 (ji10)).f0) + a1_0),(rd_T74 l0_0 (ji10)).f1,(rd_T74 l0_0 (ji10)).f2⟩ : S74) ) (fun _ hk=>hk)).1
         rw [← Ny279.out] at HP_
         have hx0_:=hcc_ 0 _ rfl
         have hf0_:=hfr_ 0
         (try simp only [Nat.add_zero] at hx0_ hf0_)
         (try simp only [show (k74).sz = 3 from rfl] at hx0_ hf0_)
         obtain ⟨_,hgg_⟩:=Kd.R_typed HO0_0.out _ rfl
         have hge_:=Kd.R_base HO0_0.out _ rfl
         have hmi_ : (P0_0_ go16 ∨ w.heap.size ≤ go16):=(HO0_0.out.1 _ rfl).1
         refine skip_ (w1:=?_) (by rfl) rfl ?_ ?_
         rotate_left
         ·go_simp
          rfl
         refine hK.out _ _ ⟨(by rw [ha.out];exact putSel_none (v:=undef) rfl),fun h0_=>absurd ((up_self b 26).symm.trans h0_) (by decide),fun _ _=>HP_,fun h0_ _=>absurd ((hoff 29 (by kernel_rfl)).symm.trans h0_) (by decide),fun h0_=>absurd ((hoff 32 (by kernel_rfl)).symm.trans h0_) (by decide),(blk_far BK0.out (by have h_:=Kd.R_ne HO0_0.out BK0.out (by decide);intro e_;exact h_ (by rw [e_];rfl)) _),(blk_far BK274.out (by have h_:=Kd.R_away HO0_0.out (fun _ hk=>hk.2);intro e_;exact h_ (by rw [e_];rfl)) _),(by refine Kept.setCell ?_ (Or.imp_left Or.inl (hmi_)) _;exact HK.out),(below_set HB.out hge_)⟩
        refine steps_cons ?_ ?_
        ·rintro b a w' ⟨ha,Q_HO0_0,Q_HO0_0_1,Q_HO0_0_2,Q_HO0_0_3,Q_BK0,Q_BK274,Q_HK,Q_HB⟩ hb_ hon hoff
         refine ⟨_,rfl,fun K hK=>?_⟩
         have e50 : a.tmps[50]? = some (.pointer (some ⟨go16,((ji10) : Int).toNat * 3,none⟩)):=by rw [ha];exact putSel_on (e:=(1,50,.pointer (some ⟨go16,((ji10) : Int).toNat * 3,none⟩))) 1 rfl rfl (hon 1 (by kernel_rfl)) rfl
         replace ha:=Aside0.mk ha
         have HO0_0:=Aside0.mk (Q_HO0_0_1 (hon 26 (by kernel_rfl)) (hoff 29 (by kernel_rfl)))
         have BK0:=Aside0.mk Q_BK0
         have BK274:=Aside0.mk Q_BK274
         have HK:=Aside0.mk Q_HK
         have HB:=Aside0.mk Q_HB
         refine value_ (w1:=w') (v:=.pointer (some ⟨go16,((ji10) : Int).toNat * 3,none⟩)) (by rfl) rfl ?_ ?_
         ·go_simp
          (try simp only [i64_w])
          try rfl
         refine hK.out _ _ ⟨(by rw [ha.out];exact putSel_upk 26 hb_ rfl rfl rfl),fun h0_=>absurd ((hon 26 (by kernel_rfl)).symm.trans h0_) (by decide),Q_HO0_0_1,fun h0_ _=>absurd ((hoff 29 (by kernel_rfl)).symm.trans h0_) (by decide),fun h0_=>absurd ((hoff 32 (by kernel_rfl)).symm.trans h0_) (by decide),Q_BK0,Q_BK274,Q_HK,Q_HB⟩
        refine steps_cons ?_ ?_
        ·rintro b a w' ⟨ha,Q_HO0_0,Q_HO0_0_1,Q_HO0_0_2,Q_HO0_0_3,Q_BK0,Q_BK274,Q_HK,Q_HB⟩ hb_ hon hoff
         refine ⟨_,rfl,fun K hK=>?_⟩
         have e75 : a.tmps[75]? = some (.pointer (some ⟨go16,((ji10) : Int).toNat * 3,none⟩)):=by rw [ha];exact putSel_on (e:=(27,75,.pointer (some ⟨go16,((ji10) : Int).toNat * 3,none⟩))) 26 rfl rfl (hon 27 (by kernel_rfl)) rfl
         replace ha:=Aside0.mk ha
         have HO0_0:=Aside0.mk (Q_HO0_0_1 (hon 26 (by kernel_rfl)) (hoff 29 (by kernel_rfl)))
         have BK0:=Aside0.mk Q_BK0
         have BK274:=Aside0.mk Q_BK274
         have HK:=Aside0.mk Q_HK
         have HB:=Aside0.mk Q_HB
         refine value_ (w1:=w') (v:=.pointer (some ⟨go16,((ji10) : Int).toNat * 3 + 1,none⟩)) (by rfl) rfl ?_ ?_
         ·go_simp
          (try simp only [i64_w])
          try rfl
         refine hK.out _ _ ⟨(by rw [ha.out];exact putSel_upk 27 hb_ rfl rfl rfl),fun h0_=>absurd ((hon 26 (by kernel_rfl)).symm.trans h0_) (by decide),Q_HO0_0_1,fun h0_ _=>absurd ((hoff 29 (by kernel_rfl)).symm.trans h0_) (by decide),fun h0_=>absurd ((hoff 32 (by kernel_rfl)).symm.trans h0_) (by decide),Q_BK0,Q_BK274,Q_HK,Q_HB⟩
        refine steps_cons ?_ ?_
        ·rintro b a w' ⟨ha,Q_HO0_0,Q_HO0_0_1,Q_HO0_0_2,Q_HO0_0_3,Q_BK0,Q_BK274,Q_HK,Q_HB⟩ hb_ hon hoff
         refine ⟨_,rfl,fun K hK=>?_⟩
         have e76 : a.tmps[76]? = some (.pointer (some ⟨go16,((ji10) : Int).toNat * 3 + 1,none⟩)):=by rw [ha];exact putSel_on (e:=(28,76,.pointer (some ⟨go16,((ji10) : Int).toNat * 3 + 1,none⟩))) 27 rfl rfl (hon 28 (by kernel_rfl)) rfl
         have e65 : a.tmps[65]? = some (.int .i64 (wrap64 (((rd_T74 l0_0 (ji10)).f1) + a1_1))):=by rw [ha];exact putSel_on (e:=(16,65,.int .i64 (wrap64 (((rd_T74 l0_0 (ji10)).f1) + a1_1)))) 16 rfl rfl (hon 16 (by kernel_rfl)) rfl
         replace ha:=Aside0.mk ha
         have HO0_0:=Aside0.mk (Q_HO0_0_1 (hon 26 (by kernel_rfl)) hb_)
         have BK0:=Aside0.mk Q_BK0
         have BK274:=Aside0.mk Q_BK274
         have HK:=Aside0.mk Q_HK
         have HB:=Aside0.mk Q_HB
         obtain ⟨ce_,hcl_,hM_,hcc_,hfr_⟩:=Kd.R_elem HO0_0.out z74 ((ji10) : Int) (of_decide_eq_true (by assumption)) (by have h_ : ((ji10) : Int) < ((l0_0.length : Int) : Int):=of_decide_eq_true (by assumption);first|exact h_|(have e_:=(Kd.R_reads' HO0_0.out).1;omega)|simpa using h_)
         obtain rfl:=k74_openM hM_
         have HP_:=(Kd.R_seg HO0_0.out ((ji10) : Int) (of_decide_eq_true (by assumption)) (by have h_ : ((ji10) : Int) < ((l0_0.length : Int) : Int):=of_decide_eq_true (by assumption);first|exact h_|(have e_:=(Kd.R_reads' HO0_0.out).1;omega)|simpa using h_) (seg:=[.int .i64 (wrap64 (((rd_T74 l0_0 (ji10)).f1) + a1_1))]) (j:=1) hcl_ hcc_ (show 2 ≤ 3 from by decide) (x':=(⟨(rd_T74 y279 (ji10)).f0,wrap64 (((rd_T74 l0_0 (ji10)).f1) + a1_1),(rd_T74 y279 (ji10)).f2⟩ : S74)) (k74_mkM _ _ _ (⟨(rd_T74 y279 (ji10)).f0,wrap64 (((rd_T74 l0_0 (ji10)).f1) + a1_1),(rd_T74 y279 (ji10)).f2⟩ : S74) ) (fun _ hk=>hk)).1
         rw [← Ny280.out] at HP_
         have hx1_:=hcc_ 1 _ rfl
         have hf1_:=hfr_ 1
         (try simp only [show (k74).sz = 3 from rfl] at hx1_ hf1_)
         obtain ⟨_,hgg_⟩:=Kd.R_typed HO0_0.out _ rfl
         have hge_:=Kd.R_base HO0_0.out _ rfl
         have hmi_ : (P0_0_ go16 ∨ w.heap.size ≤ go16):=(HO0_0.out.1 _ rfl).1
         refine skip_ (w1:=?_) (by rfl) rfl ?_ ?_
         rotate_left
         ·go_simp
          rfl
         refine hK.out _ _ ⟨(by rw [ha.out];exact putSel_none (v:=undef) rfl),fun h0_=>absurd ((hon 26 (by kernel_rfl)).symm.trans h0_) (by decide),fun _ h1_=>absurd ((up_self b 29).symm.trans h1_) (by decide),fun _ _=>HP_,fun h0_=>absurd ((hoff 32 (by kernel_rfl)).symm.trans h0_) (by decide),(blk_far BK0.out (by have h_:=Kd.R_ne HO0_0.out BK0.out (by decide);intro e_;exact h_ (by rw [e_];rfl)) _),(blk_far BK274.out (by have h_:=Kd.R_away HO0_0.out (fun _ hk=>hk.2);intro e_;exact h_ (by rw [e_];rfl)) _),(by refine Kept.setCell ?_ (Or.imp_left Or.inl (hmi_)) _;exact HK.out),(below_set HB.out hge_)⟩
        refine steps_cons ?_ ?_
        ·rintro b a w' ⟨ha,Q_HO0_0,Q_HO0_0_1,Q_HO0_0_2,Q_HO0_0_3,Q_BK0,Q_BK274,Q_HK,Q_HB⟩ hb_ hon hoff
         refine ⟨_,rfl,fun K hK=>?_⟩
         have e51 : a.tmps[51]? = some (.pointer (some ⟨go16,((ji10) : Int).toNat * 3,none⟩)):=by rw [ha];exact putSel_on (e:=(2,51,.pointer (some ⟨go16,((ji10) : Int).toNat * 3,none⟩))) 2 rfl rfl (hon 2 (by kernel_rfl)) rfl
         replace ha:=Aside0.mk ha
         have HO0_0:=Aside0.mk (Q_HO0_0_2 (hon 29 (by kernel_rfl)) (hoff 32 (by kernel_rfl)))
         have BK0:=Aside0.mk Q_BK0
         have BK274:=Aside0.mk Q_BK274
         have HK:=Aside0.mk Q_HK
         have HB:=Aside0.mk Q_HB
         refine value_ (w1:=w') (v:=.pointer (some ⟨go16,((ji10) : Int).toNat * 3,none⟩)) (by rfl) rfl ?_ ?_
         ·go_simp
          (try simp only [i64_w])
          try rfl
         refine hK.out _ _ ⟨(by rw [ha.out];exact putSel_upk 28 hb_ rfl rfl rfl),fun h0_=>absurd ((hon 26 (by kernel_rfl)).symm.trans h0_) (by decide),fun _ h1_=>absurd ((hon 29 (by kernel_rfl)).symm.trans h1_) (by decide),Q_HO0_0_2,fun h0_=>absurd ((hoff 32 (by kernel_rfl)).symm.trans h0_) (by decide),Q_BK0,Q_BK274,Q_HK,Q_HB⟩
        refine steps_cons ?_ ?_
        ·rintro b a w' ⟨ha,Q_HO0_0,Q_HO0_0_1,Q_HO0_0_2,Q_HO0_0_3,Q_BK0,Q_BK274,Q_HK,Q_HB⟩ hb_ hon hoff
         refine ⟨_,rfl,fun K hK=>?_⟩
         have e77 : a.tmps[77]? = some (.pointer (some ⟨go16,((ji10) : Int).toNat * 3,none⟩)):=by rw [ha];exact putSel_on (e:=(30,77,.pointer (some ⟨go16,((ji10) : Int).toNat * 3,none⟩))) 28 rfl rfl (hon 30 (by kernel_rfl)) rfl
         replace ha:=Aside0.mk ha
         have HO0_0:=Aside0.mk (Q_HO0_0_2 (hon 29 (by kernel_rfl)) (hoff 32 (by kernel_rfl)))
         have BK0:=Aside0.mk Q_BK0
         have BK274:=Aside0.mk Q_BK274
         have HK:=Aside0.mk Q_HK
         have HB:=Aside0.mk Q_HB
         refine value_ (w1:=w') (v:=.pointer (some ⟨go16,((ji10) : Int).toNat * 3 + 2,none⟩)) (by rfl) rfl ?_ ?_
         ·go_simp
          (try simp only [i64_w])
          try rfl
         refine hK.out _ _ ⟨(by rw [ha.out];exact putSel_upk 29 hb_ rfl rfl rfl),fun h0_=>absurd ((hon 26 (by kernel_rfl)).symm.trans h0_) (by decide),fun _ h1_=>absurd ((hon 29 (by kernel_rfl)).symm.trans h1_) (by decide),Q_HO0_0_2,fun h0_=>absurd ((hoff 32 (by kernel_rfl)).symm.trans h0_) (by decide),Q_BK0,Q_BK274,Q_HK,Q_HB⟩
        refine steps_cons ?_ ?_
        ·rintro b a w' ⟨ha,Q_HO0_0,Q_HO0_0_1,Q_HO0_0_2,Q_HO0_0_3,Q_BK0,Q_BK274,Q_HK,Q_HB⟩ hb_ hon hoff
         refine ⟨_,rfl,fun K hK=>?_⟩
         have e78 : a.tmps[78]? = some (.pointer (some ⟨go16,((ji10) : Int).toNat * 3 + 2,none⟩)):=by rw [ha];exact putSel_on (e:=(31,78,.pointer (some ⟨go16,((ji10) : Int).toNat * 3 + 2,none⟩))) 29 rfl rfl (hon 31 (by kernel_rfl)) rfl
         have e72 : a.tmps[72]? = some (.string (((rd_T74 l0_0 (ji10)).f2) ++ a1_2)):=by rw [ha];exact putSel_on (e:=(23,72,.string (((rd_T74 l0_0 (ji10)).f2) ++ a1_2))) 23 rfl rfl (hon 23 (by kernel_rfl)) rfl
         replace ha:=Aside0.mk ha
         have HO0_0:=Aside0.mk (Q_HO0_0_2 (hon 29 (by kernel_rfl)) hb_)
         have BK0:=Aside0.mk Q_BK0
         have BK274:=Aside0.mk Q_BK274
         have HK:=Aside0.mk Q_HK
         have HB:=Aside0.mk Q_HB
         obtain ⟨ce_,hcl_,hM_,hcc_,hfr_⟩:=Kd.R_elem HO0_0.out z74 ((ji10) : Int) (of_decide_eq_true (by assumption)) (by have h_ : ((ji10) : Int) < ((l0_0.length : Int) : Int):=of_decide_eq_true (by assumption);first|exact h_|(have e_:=(Kd.R_reads' HO0_0.out).1;omega)|simpa using h_)
         obtain rfl:=k74_openM hM_
         have HP_:=(Kd.R_seg HO0_0.out ((ji10) : Int) (of_decide_eq_true (by assumption)) (by have h_ : ((ji10) : Int) < ((l0_0.length : Int) : Int):=of_decide_eq_true (by assumption);first|exact h_|(have e_:=(Kd.R_reads' HO0_0.out).1;omega)|simpa using h_) (seg:=[.string (((rd_T74 l0_0 (ji10)).f2) ++ a1_2)]) (j:=2) hcl_ hcc_ (show 3 ≤ 3 from by decide) (x':=(⟨(rd_T74 y280 (ji10)).f0,(rd_T74 y280 (ji10)).f1,((rd_T74 l0_0 (ji10)).f2) ++ a1_2⟩ : S74)) (k74_mkM _ _ _ (⟨(rd_T74 y280 (ji10)).f0,(rd_T74 y280 (ji10)).f1,((rd_T74 l0_0 (ji10)).f2) ++ a1_2⟩ : S74) ) (fun _ hk=>hk)).1
         rw [← Ny281.out] at HP_
         have hx2_:=hcc_ 2 _ rfl
         have hf2_:=hfr_ 2
         (try simp only [show (k74).sz = 3 from rfl] at hx2_ hf2_)
         obtain ⟨_,hgg_⟩:=Kd.R_typed HO0_0.out _ rfl
         have hge_:=Kd.R_base HO0_0.out _ rfl
         have hmi_ : (P0_0_ go16 ∨ w.heap.size ≤ go16):=(HO0_0.out.1 _ rfl).1
         refine skip_ (w1:=?_) (by rfl) rfl ?_ ?_
         rotate_left
         ·go_simp
          rfl
         refine hK.out _ _ ⟨(by rw [ha.out];exact putSel_none (v:=undef) rfl),fun h0_=>absurd ((hon 26 (by kernel_rfl)).symm.trans h0_) (by decide),fun _ h1_=>absurd ((hon 29 (by kernel_rfl)).symm.trans h1_) (by decide),fun _ h1_=>absurd ((up_self b 32).symm.trans h1_) (by decide),fun _=>HP_,(blk_far BK0.out (by have h_:=Kd.R_ne HO0_0.out BK0.out (by decide);intro e_;exact h_ (by rw [e_];rfl)) _),(blk_far BK274.out (by have h_:=Kd.R_away HO0_0.out (fun _ hk=>hk.2);intro e_;exact h_ (by rw [e_];rfl)) _),(by refine Kept.setCell ?_ (Or.imp_left Or.inl (hmi_)) _;exact HK.out),(below_set HB.out hge_)⟩
        exact steps_nil
       rintro b a w32 hall ⟨ha,Q_HO0_0,Q_HO0_0_1,Q_HO0_0_2,Q_HO0_0_3,Q_BK0,Q_BK274,Q_HK,Q_HB⟩
       clear BK0 BK274 HB HK HO0_0
       have hb0_:=hall 0 (by kernel_rfl)
       have hb1_:=hall 1 (by kernel_rfl)
       have hb2_:=hall 2 (by kernel_rfl)
       have hb3_:=hall 3 (by kernel_rfl)
       have hb4_:=hall 4 (by kernel_rfl)
       have hb5_:=hall 5 (by kernel_rfl)
       have hb6_:=hall 6 (by kernel_rfl)
       have hb7_:=hall 7 (by kernel_rfl)
       have hb8_:=hall 8 (by kernel_rfl)
       have hb9_:=hall 9 (by kernel_rfl)
       have hb10_:=hall 10 (by kernel_rfl)
       have hb11_:=hall 11 (by kernel_rfl)
       have hb12_:=hall 12 (by kernel_rfl)
       have hb13_:=hall 13 (by kernel_rfl)
       have hb14_:=hall 14 (by kernel_rfl)
       have hb15_:=hall 15 (by kernel_rfl)
       have hb16_:=hall 16 (by kernel_rfl)
       have hb17_:=hall 17 (by kernel_rfl)
       have hb18_:=hall 18 (by kernel_rfl)
       have hb19_:=hall 19 (by kernel_rfl)
       have hb20_:=hall 20 (by kernel_rfl)
       have hb21_:=hall 21 (by kernel_rfl)
       have hb22_:=hall 22 (by kernel_rfl)
       have hb23_:=hall 23 (by kernel_rfl)
       have hb24_:=hall 24 (by kernel_rfl)
       have hb25_:=hall 25 (by kernel_rfl)
       have hb26_:=hall 26 (by kernel_rfl)
       have hb27_:=hall 27 (by kernel_rfl)
       have hb28_:=hall 28 (by kernel_rfl)
       have hb29_:=hall 29 (by kernel_rfl)
       have hb30_:=hall 30 (by kernel_rfl)
       have hb31_:=hall 31 (by kernel_rfl)
       have hb32_:=hall 32 (by kernel_rfl)
       subst ha
       simp only [putSel,hb0_,hb1_,hb2_,hb3_,hb4_,hb5_,hb6_,hb7_,hb8_,hb9_,hb10_,hb11_,hb12_,hb13_,hb14_,hb15_,hb16_,hb17_,hb18_,hb19_,hb20_,hb21_,hb22_,hb23_,hb24_,hb25_,hb26_,hb27_,hb28_,hb29_,hb30_,hb31_,hb32_,if_true,Act.put,List.setIfInBounds_toArray,List.set_cons_zero,List.set_cons_succ]
       clear Q_HO0_0
       clear Q_HO0_0_1
       clear Q_HO0_0_2
       have HO0_0:=Aside0.mk (Q_HO0_0_3 hb32_)
       clear Q_HO0_0_3
       have BK0:=Aside0.mk Q_BK0
       clear Q_BK0
       have BK274:=Aside0.mk Q_BK274
       clear Q_BK274
       have HK:=Aside0.mk Q_HK
       clear Q_HK
       have HB:=Aside0.mk Q_HB
       clear Q_HB
       clear hall hb0_ hb1_ hb2_ hb3_ hb4_ hb5_ hb6_ hb7_ hb8_ hb9_ hb10_ hb11_ hb12_ hb13_ hb14_ hb15_ hb16_ hb17_ hb18_ hb19_ hb20_ hb21_ hb22_ hb23_ hb24_ hb25_ hb26_ hb27_ hb28_ hb29_ hb30_ hb31_ hb32_
       try go_wp2
       first|go_end0|((try simp only [Exit.inBlock,Exit.then]);refine bodyPost_ret (results_none rfl _ _ _) rfl ?_)
       (first|refine ⟨(.slice (some ⟨go16,0,none⟩) l0_0.length co22 : Value),?e_,?r_⟩|refine ⟨?e_,(.slice (some ⟨go16,0,none⟩) l0_0.length co22 : Value),?r_⟩)
       (case e_=>first|rfl|(simp [errW_none,errW_some] <;> rfl)|(simp only [← hji10];first|rfl|(simp [errW_none,errW_some] <;> rfl))|(simp [*,errW_none,errW_some] <;> rfl))
       (case r_=>exact ⟨by (with_reducible repeat (first|apply Kd.R_alloc|apply Kd.R_drewN|apply Kd.R_drew));exact Kd.R_mono HO0_0.out (fun _ hk=>hk.1),by (with_reducible repeat first|apply blk_drewN|apply blk_drew|apply blk_alloc);exact BK0.out,by repeat (first|(with_reducible first|exact HB.out|apply below_alloc|apply pw_below_drewN|apply below_drew1|refine below_set ?_ GE0.out|refine below_set ?_ GE274.out)|exact HB.out),by repeat (first|(with_reducible first|exact HK.out|apply Kept.alloc|apply Kept.drewN|apply Kept.drew|refine Kept.setCell ?_ (.inl (.inr rfl)) _|refine Kept.setCell ?_ (.inr GW274.out) _)|exact HK.out)⟩)
      ·rw [if_neg c18] at H
       exact absurd H (by simp)
     ·rw [if_neg c15] at H
      have c15b0 : (t276 == t277) = false:=beq_eq_false_iff_ne.mpr c15
      have c15b1 : (t276 != t277) = true:=bne_iff_ne.mpr c15
      by_cases c33 : l0_0.length < 4398046511104
      ·rw [if_pos c33] at H
       have LMc33:=Aside0.mk c33
       clear c33
       obtain ⟨y282,hy282⟩ : ∃ y_ : List (S74),y_ = (l0_0 ++ [(⟨a1_0,a1_1,a1_2⟩ : S74)]):=⟨_,rfl⟩
       replace H : (some y282) = some r:=by first|(rw [hy282];with_reducible exact H)|(have H2_:=(Option.bind_some _ _).symm.trans H;rw [hy282];with_reducible exact H2_)|(have H2_:=(Option.bind_some _ _).symm.trans H;with_reducible exact H2_)|with_reducible exact H|(rw [hy282];exact H)|exact H
       have Ny282:=Aside0.mk hy282
       clear hy282
       obtain rfl:=Option.some.inj H
       go_enter Try.func73,Try.ntmps73
       try go_wp2_with (first|((with_reducible refine gate_dst (N:=3) rfl ?_);refine box_event ?hg (N:=3) ?hd (cs:=#[.int .i64 a1_0,.int .i64 a1_1,.string a1_2]) (t:=74) ?hr ?_;(case hd=>rfl);(case hg=>rfl);(case hr=>first|(go_simp;done)|(go_simp;rfl));intro gb274 hg w34 hbox hb;have n0_:=Aside0.mk (Kd.R_below (Kd.R_elderB (by (with_reducible repeat (first|apply Kd.R_alloc|apply Kd.R_drewN|apply Kd.R_drew));exact HO0_0.out) gb274 (Nat.le_of_eq hg.symm)) hb);have n1_:=Aside0.mk (blk_below (g:=g0_) (o:=.cells #[u9000_] 92 (0,0)) (by (with_reducible repeat first|apply blk_drewN|apply blk_drew|apply blk_alloc);exact BK0.out) hb);have n2_:=Aside0.mk (Kept.below (S:=(fun k_=>(P0_0_ k_) ∨ k_ = g0_)) (by repeat (first|(with_reducible first|exact HK.out|apply Kept.alloc|apply Kept.drewN|apply Kept.drew|refine Kept.setCell ?_ (.inl (.inr rfl)) _)|exact HK.out)) hb);have n3_:=Aside0.mk (below_step (by repeat (first|(with_reducible first|exact HB.out|apply below_alloc|apply pw_below_drewN|apply below_drew1|refine below_set ?_ GE0.out)|exact HB.out)) hb);have n4_:=Aside0.mk (hbox);have n5_:=Aside0.mk ((by rw [hg];exact (by first|exact HK.out.1|exact (show Kept w _ (fun k_=>(P0_0_ k_) ∨ k_ = g0_) from by repeat (first|(with_reducible first|exact HK.out|apply Kept.alloc|apply Kept.drewN|apply Kept.drew|refine Kept.setCell ?_ (.inl (.inr rfl)) _)|exact HK.out)).1) : w.heap.size ≤ gb274));have n6_:=Aside0.mk ((by rw [hg];exact (below_size (by repeat (first|(with_reducible first|exact HB.out|apply below_alloc|apply pw_below_drewN|apply below_drew1|refine below_set ?_ GE0.out)|exact HB.out))) : w0.heap.size ≤ gb274));have n7_:=Aside0.mk ((by rw [hg];exact Nat.ne_of_lt (blk_lt (g:=g0_) (o:=.cells #[u9000_] 92 (0,0)) (by (with_reducible repeat first|apply blk_drewN|apply blk_drew|apply blk_alloc);exact BK0.out)) : g0_ ≠ gb274));have n8_:=Aside0.mk ((by rw [hg];exact Nat.ne_of_gt (blk_lt (g:=g0_) (o:=.cells #[u9000_] 92 (0,0)) (by (with_reducible repeat first|apply blk_drewN|apply blk_drew|apply blk_alloc);exact BK0.out)) : gb274 ≠ g0_));clear HO0_0;clear BK0;clear HK;clear HB;have HO0_0:=n0_;have BK0:=n1_;have HK:=n2_;have HB:=n3_;have BK274:=n4_;have GW274:=n5_;have GE274:=n6_;have NB0_274:=n7_;have NB274_0:=n8_;clear n0_ n1_ n2_ n3_ n4_ n5_ n6_ n7_ n8_;clear hb hbox hg;have hnb35:=NB0_274.out;have hnc35:=NB274_0.out;have hcz36_0 : w34.cell? ⟨g0_,0,none⟩ = some (u9000_):=(blk_cell BK0.out 0).trans rfl;have hfz36_0:=blk_frozen BK0.out 0;obtain ⟨Ao37,co37,eo37⟩:=Kd.R_slice HO0_0.out;subst eo37;have hcz38_0 : w34.cell? ⟨gb274,0,none⟩ = some (.int .i64 a1_0):=(blk_cell BK274.out 0).trans rfl;have hcz38_1 : w34.cell? ⟨gb274,1,none⟩ = some (.int .i64 a1_1):=(blk_cell BK274.out 1).trans rfl;have hcz38_2 : w34.cell? ⟨gb274,2,none⟩ = some (.string a1_2):=(blk_cell BK274.out 2).trans rfl;have hfz38_0:=blk_frozen BK274.out 0;have hfz38_1:=blk_frozen BK274.out 1;have hfz38_2:=blk_frozen BK274.out 2))
       have n0_:=Aside0.mk (Kd.R_drew HO0_0.out)
       have n1_:=Aside0.mk (blk_drew BK0.out)
       have n2_:=Aside0.mk (blk_drew BK274.out)
       have n3_:=Aside0.mk (Kept.drew HK.out)
       have n4_:=Aside0.mk (below_drew1 HB.out)
       clear HO0_0
       clear BK0
       clear BK274
       clear HK
       clear HB
       have HO0_0:=n0_
       have BK0:=n1_
       have BK274:=n2_
       have HK:=n3_
       have HB:=n4_
       clear n0_ n1_ n2_ n3_ n4_
       have p275 : 0 ≤ ((ji10) : Int):=of_decide_eq_true (by assumption)
       have q275 : (ji10) < (l0_0.length : Int):=of_decide_eq_true (by assumption)
       obtain ⟨ad275,e275,hx275_0,hx275_1,hx275_2⟩:=at_T74 (Kd.R_reads' HO0_0.out).2.2 (ji10) p275 q275
       cases e275
       replace p275:=eq_true p275
       replace q275:=eq_true q275
       refine start_ (n:=17) (S:=fun w'=>w'.cell? ⟨g0_,0,none⟩ = some (.slice (some ad275) l0_0.length co37)∧w'.cell? ⟨gb274,0,none⟩ = some (.int .i64 a1_0)∧w'.cell? ⟨gb274,1,none⟩ = some (.int .i64 a1_1)∧w'.cell? ⟨gb274,2,none⟩ = some (.string a1_2)∧w'.cell? (ad275.add (((ji10)).toNat * 3)) = some (.int .i64 ((rd_T74 l0_0 (ji10)).f0))∧w'.cell? ⟨(ad275.add (((ji10)).toNat * 3)).block,(ad275.add (((ji10)).toNat * 3)).off + 1,none⟩ = some (.int .i64 ((rd_T74 l0_0 (ji10)).f1))∧w'.cell? ⟨(ad275.add (((ji10)).toNat * 3)).block,(ad275.add (((ji10)).toNat * 3)).off + 2,none⟩ = some (.string ((rd_T74 l0_0 (ji10)).f2))) (ds:=[]) #[false,false,false,false,false,false,false,false,false,false,false,false,false,false,false,false,false] (by kernel_rfl) rfl rfl ⟨(blk_cell BK0.out 0).trans rfl,(blk_cell BK274.out 0).trans rfl,(blk_cell BK274.out 1).trans rfl,(blk_cell BK274.out 2).trans rfl,hx275_0,hx275_1,hx275_2⟩ (fun hHeld=>?_);refine with_tabW impl_builder_add.tab4 impl_builder_add.bits4 (fun HT_ HW_=>?_)
       generalize w34.drew = w39 at HO0_0 BK0 BK274 HK HB hx275_0 hx275_1 hx275_2 hHeld ⊢
       refine pure_ (i:=0) (N:=some 26) (v:=?_) (a':=?_) #[true,false,false,false,false,false,false,false,false,false,false,false,false,false,false,false,false] rfl rfl (any_of HT_.out (by kernel_rfl)) (fun _ _ _ h=>h) (Or.inl ⟨by rfl,?_⟩) ?_ ?_
       rotate_left
       ·intro w'
        go_simp
        with_reducible rfl
       rotate_left
       ·simp only [Act.put,List.setIfInBounds_toArray,List.set_cons_zero,List.set_cons_succ,i64_w,i32_w]
        rfl
       refine pure_ (i:=1) (N:=some 27) (v:=?_) (a':=?_) #[true,true,false,false,false,false,false,false,false,false,false,false,false,false,false,false,false] rfl rfl (any_of HT_.out (by kernel_rfl)) (fun _ _ _ h=>h) (Or.inl ⟨by rfl,?_⟩) ?_ ?_
       rotate_left
       ·intro w'
        go_simp
        with_reducible rfl
       rotate_left
       ·simp only [Act.put,List.setIfInBounds_toArray,List.set_cons_zero,List.set_cons_succ,i64_w,i32_w]
        rfl
       refine pure_ (i:=2) (N:=some 28) (v:=?_) (a':=?_) #[true,true,true,false,false,false,false,false,false,false,false,false,false,false,false,false,false] rfl rfl (any_of HT_.out (by kernel_rfl)) (fun _ _ _ h=>h) (Or.inl ⟨by rfl,?_⟩) ?_ ?_
       rotate_left
       ·intro w'
        go_simp
        with_reducible rfl
       rotate_left
       ·simp only [Act.put,List.setIfInBounds_toArray,List.set_cons_zero,List.set_cons_succ,i64_w,i32_w]
        rfl
       refine pure_ (i:=3) (N:=some 29) (v:=?_) (a':=?_) #[true,true,true,true,false,false,false,false,false,false,false,false,false,false,false,false,false] rfl rfl (any_of HT_.out (by kernel_rfl)) (fun _ _ _ h=>h) (Or.inl ⟨by rfl,?_⟩) ?_ ?_
       rotate_left
       ·intro w'
        go_simp
        with_reducible rfl
       rotate_left
       ·simp only [Act.put,List.setIfInBounds_toArray,List.set_cons_zero,List.set_cons_succ,i64_w,i32_w]
        rfl
       refine pure_ (i:=4) (N:=some 30) (v:=?_) (a':=?_) #[true,true,true,true,true,false,false,false,false,false,false,false,false,false,false,false,false] rfl rfl (any_of HT_.out (by kernel_rfl)) (fun _ _ _ h=>h) (Or.inl ⟨by rfl,?_⟩) ?_ ?_
       rotate_left
       ·intro w'
        go_simp
        with_reducible rfl
       rotate_left
       ·simp only [Act.put,List.setIfInBounds_toArray,List.set_cons_zero,List.set_cons_succ,i64_w,i32_w]
        rfl
       refine pure_ (i:=5) (N:=some 31) (v:=?_) (a':=?_) #[true,true,true,true,true,true,false,false,false,false,false,false,false,false,false,false,false] rfl rfl (any_of HT_.out (by kernel_rfl)) (fun _ _ _ h=>h) (Or.inl ⟨by rfl,?_⟩) ?_ ?_
       rotate_left
       ·intro w'
        go_simp
        with_reducible rfl
       rotate_left
       ·simp only [Act.put,List.setIfInBounds_toArray,List.set_cons_zero,List.set_cons_succ,i64_w,i32_w]
        rfl
       refine pure_ (i:=7) (N:=some 33) (v:=?_) (a':=?_) #[true,true,true,true,true,true,false,true,false,false,false,false,false,false,false,false,false] rfl rfl (any_of HT_.out (by kernel_rfl)) (fun _ _ _ h=>h) (Or.inl ⟨by rfl,?_⟩) ?_ ?_
       rotate_left
       ·intro w'
        go_simp
        with_reducible rfl
       rotate_left
       ·simp only [Act.put,List.setIfInBounds_toArray,List.set_cons_zero,List.set_cons_succ,i64_w,i32_w]
        rfl
       refine pure_ (i:=8) (N:=some 34) (v:=?_) (a':=?_) #[true,true,true,true,true,true,false,true,true,false,false,false,false,false,false,false,false] rfl rfl (any_of HT_.out (by kernel_rfl)) (fun _ _ _ h=>h) (Or.inl ⟨by rfl,?_⟩) ?_ ?_
       rotate_left
       ·intro w'
        go_simp
        with_reducible rfl
       rotate_left
       ·simp only [Act.put,List.setIfInBounds_toArray,List.set_cons_zero,List.set_cons_succ,i64_w,i32_w]
        rfl
       refine take_ (i:=6) (N:=some 32) (v:=?_) (a':=?_) #[true,true,true,true,true,true,true,true,true,false,false,false,false,false,false,false,false] rfl rfl (take_ofW HT_.out HW_.out (by kernel_rfl)) (fun _ _ _ h=>h) (Or.inl ⟨by rfl,?_⟩) hHeld ?_ ?_
       rotate_left
       ·rintro w' ⟨s0,s1,s2,s3,s4,s5,s6⟩
        go_simp
        with_reducible rfl
       rotate_left
       ·simp only [Act.put,List.setIfInBounds_toArray,List.set_cons_zero,List.set_cons_succ,i64_w,i32_w]
        rfl
       refine pure_ (i:=9) (N:=some 35) (v:=?_) (a':=?_) #[true,true,true,true,true,true,true,true,true,true,false,false,false,false,false,false,false] rfl rfl (any_of HT_.out (by kernel_rfl)) (fun _ _ _ h=>h) (Or.inl ⟨by rfl,?_⟩) ?_ ?_
       rotate_left
       ·intro w'
        go_simp
        with_reducible rfl
       rotate_left
       ·simp only [Act.put,List.setIfInBounds_toArray,List.set_cons_zero,List.set_cons_succ,i64_w,i32_w]
        rfl
       refine take_ (i:=10) (N:=some 36) (v:=?_) (a':=?_) #[true,true,true,true,true,true,true,true,true,true,true,false,false,false,false,false,false] rfl rfl (take_ofW HT_.out HW_.out (by kernel_rfl)) (fun _ _ _ h=>h) (Or.inl ⟨by rfl,?_⟩) hHeld ?_ ?_
       rotate_left
       ·rintro w' ⟨s0,s1,s2,s3,s4,s5,s6⟩
        go_simp
        with_reducible rfl
       rotate_left
       ·simp only [Act.put,List.setIfInBounds_toArray,List.set_cons_zero,List.set_cons_succ,i64_w,i32_w]
        rfl
       refine take_ (i:=12) (N:=some 38) (v:=?_) (a':=?_) #[true,true,true,true,true,true,true,true,true,true,true,false,true,false,false,false,false] rfl rfl (take_ofW HT_.out HW_.out (by kernel_rfl)) (fun _ _ _ h=>h) (Or.inl ⟨by rfl,?_⟩) hHeld ?_ ?_
       rotate_left
       ·rintro w' ⟨s0,s1,s2,s3,s4,s5,s6⟩
        go_simp
        with_reducible rfl
       rotate_left
       ·simp only [Act.put,List.setIfInBounds_toArray,List.set_cons_zero,List.set_cons_succ,i64_w,i32_w]
        rfl
       refine one_ (i:=11) (N:=some 37) #[true,true,true,true,true,true,true,true,true,true,true,true,true,false,false,false,false] rfl rfl (one_of HT_.out (by kernel_rfl)) (by decide) (fun K hK=>?_)
       refine goes_ Try.func58 (by kernel_rfl) rfl #[.agg #[.int .i64 ((rd_T74 l0_0 (ji10)).f0),.int .i64 ((rd_T74 l0_0 (ji10)).f1),.string ((rd_T74 l0_0 (ji10)).f2)]] (by rfl) rfl rfl (by (try simp only [List.map_toArray,List.map_cons,List.map_nil]);first|done|(simp only [hji10];rfl)|rfl|(simp only [List.length_drop,List.length_take];rfl)) ?_
       with_reducible refine (impl_Part_kind.calls k ((rd_T74 l0_0 (ji10)).f0) ((rd_T74 l0_0 (ji10)).f1) ((rd_T74 l0_0 (ji10)).f2) t276 _ A13.out).mono ?_
       rintro e w40 ⟨rfl,hb⟩
       have HS4_:=(hb.cell (World.block_lt_of_cell? _ _ (hHeld.2.2.2.2.1))).trans (hHeld.2.2.2.2.1)
       have HS5_:=(hb.cell (World.block_lt_of_cell? _ _ (hHeld.2.2.2.2.2.1))).trans (hHeld.2.2.2.2.2.1)
       have HS6_:=(hb.cell (World.block_lt_of_cell? _ _ (hHeld.2.2.2.2.2.2))).trans (hHeld.2.2.2.2.2.2)
       refine ⟨_,rfl,?_⟩
       have n0_:=Aside0.mk (Kd.R_below (by (with_reducible repeat (first|apply Kd.R_alloc|apply Kd.R_drewN|apply Kd.R_drew));exact HO0_0.out) hb)
       have n1_:=Aside0.mk (blk_below (g:=g0_) (o:=.cells #[.slice (some ad275) l0_0.length co37] 92 (0,0)) (by (with_reducible repeat first|apply blk_drewN|apply blk_drew|apply blk_alloc);exact BK0.out) hb)
       have n2_:=Aside0.mk (blk_below (g:=gb274) (o:=.cells #[.int .i64 a1_0,.int .i64 a1_1,.string a1_2] 74 (0,0)) (by (with_reducible repeat first|apply blk_drewN|apply blk_drew|apply blk_alloc);exact BK274.out) hb)
       have n3_:=Aside0.mk (Kept.below (S:=(fun k_=>(P0_0_ k_) ∨ k_ = g0_)) (by repeat (first|(with_reducible first|exact HK.out|apply Kept.alloc|apply Kept.drewN|apply Kept.drew|refine Kept.setCell ?_ (.inl (.inr rfl)) _|refine Kept.setCell ?_ (.inr GW274.out) _)|exact HK.out)) hb)
       have n4_:=Aside0.mk (below_step (by repeat (first|(with_reducible first|exact HB.out|apply below_alloc|apply pw_below_drewN|apply below_drew1|refine below_set ?_ GE0.out|refine below_set ?_ GE274.out)|exact HB.out)) hb)
       clear HO0_0
       clear BK0
       clear BK274
       clear HK
       clear HB
       have HO0_0:=n0_
       have BK0:=n1_
       have BK274:=n2_
       have HK:=n3_
       have HB:=n4_
       clear n0_ n1_ n2_ n3_ n4_
       (try clear hb)
       (try clear hb2)
       (try clear hk)
       (try clear hi)
       refine hK.out _ _ ⟨(blk_cell BK0.out 0).trans rfl,(blk_cell BK274.out 0).trans rfl,(blk_cell BK274.out 1).trans rfl,(blk_cell BK274.out 2).trans rfl,HS4_,HS5_,HS6_⟩ (fun hHeld=>?_)
       clear hK K
       refine norm_ (a':=?_) ?_ ?_
       rotate_left
       ·show Act.put _ (some 37) _ = _
        simp only [Act.put,List.setIfInBounds_toArray,List.set_cons_zero,List.set_cons_succ,i64_w,i32_w]
        rfl
       refine one_ (i:=13) (N:=some 39) #[true,true,true,true,true,true,true,true,true,true,true,true,true,true,false,false,false] rfl rfl (one_of HT_.out (by kernel_rfl)) (by decide) (fun K hK=>?_)
       refine goes_ Try.func58 (by kernel_rfl) rfl #[.agg #[.int .i64 a1_0,.int .i64 a1_1,.string a1_2]] (by rfl) rfl rfl (by (try simp only [List.map_toArray,List.map_cons,List.map_nil]);first|done|rfl|(simp only [List.length_drop,List.length_take];rfl)) ?_
       with_reducible refine (impl_Part_kind.calls k a1_0 a1_1 a1_2 t277 _ A14.out).mono ?_
       rintro e w41 ⟨rfl,hb⟩
       have HS4_:=(hb.cell (World.block_lt_of_cell? _ _ (hHeld.2.2.2.2.1))).trans (hHeld.2.2.2.2.1)
       have HS5_:=(hb.cell (World.block_lt_of_cell? _ _ (hHeld.2.2.2.2.2.1))).trans (hHeld.2.2.2.2.2.1)
       have HS6_:=(hb.cell (World.block_lt_of_cell? _ _ (hHeld.2.2.2.2.2.2))).trans (hHeld.2.2.2.2.2.2)
       refine ⟨_,rfl,?_⟩
       have n0_:=Aside0.mk (Kd.R_below (by (with_reducible repeat (first|apply Kd.R_alloc|apply Kd.R_drewN|apply Kd.R_drew));exact HO0_0.out) hb)
       have n1_:=Aside0.mk (blk_below (g:=g0_) (o:=.cells #[.slice (some ad275) l0_0.length co37] 92 (0,0)) (by (with_reducible repeat first|apply blk_drewN|apply blk_drew|apply blk_alloc);exact BK0.out) hb)
       have n2_:=Aside0.mk (blk_below (g:=gb274) (o:=.cells #[.int .i64 a1_0,.int .i64 a1_1,.string a1_2] 74 (0,0)) (by (with_reducible repeat first|apply blk_drewN|apply blk_drew|apply blk_alloc);exact BK274.out) hb)
       have n3_:=Aside0.mk (Kept.below (S:=(fun k_=>(P0_0_ k_) ∨ k_ = g0_)) (by repeat (first|(with_reducible first|exact HK.out|apply Kept.alloc|apply Kept.drewN|apply Kept.drew|refine Kept.setCell ?_ (.inl (.inr rfl)) _|refine Kept.setCell ?_ (.inr GW274.out) _)|exact HK.out)) hb)
       have n4_:=Aside0.mk (below_step (by repeat (first|(with_reducible first|exact HB.out|apply below_alloc|apply pw_below_drewN|apply below_drew1|refine below_set ?_ GE0.out|refine below_set ?_ GE274.out)|exact HB.out)) hb)
       clear HO0_0
       clear BK0
       clear BK274
       clear HK
       clear HB
       have HO0_0:=n0_
       have BK0:=n1_
       have BK274:=n2_
       have HK:=n3_
       have HB:=n4_
       clear n0_ n1_ n2_ n3_ n4_
       (try clear hb)
       (try clear hb2)
       (try clear hk)
       (try clear hi)
       refine hK.out _ _ ⟨(blk_cell BK0.out 0).trans rfl,(blk_cell BK274.out 0).trans rfl,(blk_cell BK274.out 1).trans rfl,(blk_cell BK274.out 2).trans rfl,HS4_,HS5_,HS6_⟩ (fun hHeld=>?_)
       clear hK K
       refine norm_ (a':=?_) ?_ ?_
       rotate_left
       ·show Act.put _ (some 39) _ = _
        simp only [Act.put,List.setIfInBounds_toArray,List.set_cons_zero,List.set_cons_succ,i64_w,i32_w]
        rfl
       refine pure_ (i:=14) (N:=some 40) (v:=?_) (a':=?_) #[true,true,true,true,true,true,true,true,true,true,true,true,true,true,true,false,false] rfl rfl (any_of HT_.out (by kernel_rfl)) (fun _ _ _ h=>h) (Or.inl ⟨by rfl,?_⟩) ?_ ?_
       rotate_left
       ·intro w'
        go_simp
        with_reducible rfl
       rotate_left
       ·simp only [Act.put,List.setIfInBounds_toArray,List.set_cons_zero,List.set_cons_succ,i64_w,i32_w]
        rfl
       refine pure_ (i:=15) (N:=some 41) (v:=?_) (a':=?_) #[true,true,true,true,true,true,true,true,true,true,true,true,true,true,true,true,false] rfl rfl (any_of HT_.out (by kernel_rfl)) (fun _ _ _ h=>h) (Or.inl ⟨by rfl,?_⟩) ?_ ?_
       rotate_left
       ·intro w'
        go_simp
        with_reducible rfl
       rotate_left
       ·simp only [Act.put,List.setIfInBounds_toArray,List.set_cons_zero,List.set_cons_succ,i64_w,i32_w]
        rfl
       refine pure_ (i:=16) (N:=some 25) (v:=?_) (a':=?_) #[true,true,true,true,true,true,true,true,true,true,true,true,true,true,true,true,true] rfl rfl (any_of HT_.out (by kernel_rfl)) (fun _ _ _ h=>h) (Or.inl ⟨by rfl,?_⟩) ?_ ?_
       rotate_left
       ·intro w'
        go_simp
        with_reducible rfl
       rotate_left
       ·simp only [Act.put,List.setIfInBounds_toArray,List.set_cons_zero,List.set_cons_succ,i64_w,i32_w]
        rfl
       refine done_ (done_of HT_.out (by kernel_rfl)) ?_
       try go_wp2
       have n0_:=Aside0.mk (Kd.R_drew HO0_0.out)
       have n1_:=Aside0.mk (blk_drew BK0.out)
       have n2_:=Aside0.mk (blk_drew BK274.out)
       have n3_:=Aside0.mk (Kept.drew HK.out)
       have n4_:=Aside0.mk (below_drew1 HB.out)
       clear HO0_0
       clear BK0
       clear BK274
       clear HK
       clear HB
       have HO0_0:=n0_
       have BK0:=n1_
       have BK274:=n2_
       have HK:=n3_
       have HB:=n4_
       clear n0_ n1_ n2_ n3_ n4_
       refine start_ (n:=11) (S:=fun w'=>w'.cell? ⟨g0_,0,none⟩ = some (.slice (some ad275) l0_0.length co37)∧w'.cell? ⟨gb274,0,none⟩ = some (.int .i64 a1_0)∧w'.cell? ⟨gb274,1,none⟩ = some (.int .i64 a1_1)∧w'.cell? ⟨gb274,2,none⟩ = some (.string a1_2)) (ds:=[10]) #[false,false,false,false,false,false,false,false,false,false,false] (by kernel_rfl) rfl rfl ⟨(blk_cell BK0.out 0).trans rfl,(blk_cell BK274.out 0).trans rfl,(blk_cell BK274.out 1).trans rfl,(blk_cell BK274.out 2).trans rfl⟩ (fun hHeld=>?_);refine with_tabW impl_builder_add.tab2 impl_builder_add.bits2 (fun HT_ HW_=>?_)
       generalize w41.drew = w42 at HO0_0 BK0 BK274 HK HB hHeld ⊢
       refine pure_ (i:=0) (N:=some 11) (v:=?_) (a':=?_) #[true,false,false,false,false,false,false,false,false,false,false] rfl rfl (any_of HT_.out (by kernel_rfl)) (fun _ _ _ h=>h) (Or.inl ⟨by rfl,?_⟩) ?_ ?_
       rotate_left
       ·intro w'
        go_simp
        with_reducible rfl
       rotate_left
       ·simp only [Act.put,List.setIfInBounds_toArray,List.set_cons_zero,List.set_cons_succ,i64_w,i32_w]
        rfl
       refine pure_ (i:=1) (N:=some 12) (v:=?_) (a':=?_) #[true,true,false,false,false,false,false,false,false,false,false] rfl rfl (any_of HT_.out (by kernel_rfl)) (fun _ _ _ h=>h) (Or.inl ⟨by rfl,?_⟩) ?_ ?_
       rotate_left
       ·intro w'
        go_simp
        with_reducible rfl
       rotate_left
       ·simp only [Act.put,List.setIfInBounds_toArray,List.set_cons_zero,List.set_cons_succ,i64_w,i32_w]
        rfl
       refine pure_ (i:=2) (N:=some 13) (v:=?_) (a':=?_) #[true,true,true,false,false,false,false,false,false,false,false] rfl rfl (any_of HT_.out (by kernel_rfl)) (fun _ _ _ h=>h) (Or.inl ⟨by rfl,?_⟩) ?_ ?_
       rotate_left
       ·intro w'
        go_simp
        with_reducible rfl
       rotate_left
       ·simp only [Act.put,List.setIfInBounds_toArray,List.set_cons_zero,List.set_cons_succ,i64_w,i32_w]
        rfl
       refine pure_ (i:=3) (N:=some 14) (v:=?_) (a':=?_) #[true,true,true,true,false,false,false,false,false,false,false] rfl rfl (any_of HT_.out (by kernel_rfl)) (fun _ _ _ h=>h) (Or.inl ⟨by rfl,?_⟩) ?_ ?_
       rotate_left
       ·intro w'
        go_simp
        with_reducible rfl
       rotate_left
       ·simp only [Act.put,List.setIfInBounds_toArray,List.set_cons_zero,List.set_cons_succ,i64_w,i32_w]
        rfl
       refine take_ (i:=4) (N:=some 15) (v:=?_) (a':=?_) #[true,true,true,true,true,false,false,false,false,false,false] rfl rfl (take_ofW HT_.out HW_.out (by kernel_rfl)) (fun _ _ _ h=>h) (Or.inl ⟨by rfl,?_⟩) hHeld ?_ ?_
       rotate_left
       ·rintro w' ⟨s0,s1,s2,s3⟩
        go_simp
        with_reducible rfl
       rotate_left
       ·simp only [Act.put,List.setIfInBounds_toArray,List.set_cons_zero,List.set_cons_succ,i64_w,i32_w]
        rfl
       refine take_ (i:=5) (N:=some 16) (v:=?_) (a':=?_) #[true,true,true,true,true,true,false,false,false,false,false] rfl rfl (take_ofW HT_.out HW_.out (by kernel_rfl)) (fun _ _ _ h=>h) (Or.inl ⟨by rfl,?_⟩) hHeld ?_ ?_
       rotate_left
       ·rintro w' ⟨s0,s1,s2,s3⟩
        go_simp
        with_reducible rfl
       rotate_left
       ·simp only [Act.put,List.setIfInBounds_toArray,List.set_cons_zero,List.set_cons_succ,i64_w,i32_w]
        rfl
       refine one_ (i:=6) (N:=some 17) #[true,true,true,true,true,true,true,false,false,false,false] rfl rfl (one_of HT_.out (by kernel_rfl)) (by decide) (fun K hK=>?_)
       refine value_ (w1:=?_) (v:=?_) (by rfl) rfl ?_ ?_
       rotate_left 2
       ·go_simp
        constructor
        ·rfl
        ·rfl
       refine hK.out _ _ ⟨(blk_cell (blk_alloc BK0.out _) 0).trans rfl,(blk_cell (blk_alloc BK274.out _) 0).trans rfl,(blk_cell (blk_alloc BK274.out _) 1).trans rfl,(blk_cell (blk_alloc BK274.out _) 2).trans rfl⟩ (fun hHeld=>?_)
       clear hK K
       refine norm_ (a':=?_) ?_ ?_
       rotate_left
       ·show Act.put _ (some 17) _ = _
        simp only [Act.put,List.setIfInBounds_toArray,List.set_cons_zero,List.set_cons_succ,i64_w,i32_w]
        rfl
       refine one_ (i:=7) (N:=some 18) #[true,true,true,true,true,true,true,true,false,false,false] rfl rfl (one_of HT_.out (by kernel_rfl)) (by decide) (fun K hK=>?_)
       refine Kd.R_append_step k74 (w0:=w0) w0.heap.size (by rfl) (.tmp 15) (.tmp 17) 25 74 (.agg #[(.int .i64 0),(.int .i64 0),(.string ⟨#[]⟩)]) 32 rfl Try.underlying25 info74 rfl (by decide) (by omega) (.slice (some ad275) l0_0.length co37) l0_0 (⟨a1_0,a1_1,a1_2⟩ : S74) [.int .i64 a1_0,.int .i64 a1_1,.string a1_2] (fun k_=>(P0_0_ k_ ∨ w.heap.size ≤ k_)∧k_ ≠ gb274) (fun _=>False) rfl rfl ?aP (fun _ hk=>hk.elim) ?aF ?aO ?aB ?aS ?aL ?_
       (case aP=>exact k74_mkM _ _ _ (⟨a1_0,a1_1,a1_2⟩ : S74))
       (case aB=>exact (by repeat (first|(with_reducible first|exact HB.out|apply below_alloc|apply pw_below_drewN|apply below_drew1|refine below_set ?_ GE0.out|refine below_set ?_ GE274.out)|exact HB.out)))
       (case aF=>exact (fun k_ hk=>⟨(.inr (Nat.le_trans (by first|exact HK.out.1|exact (show Kept w _ (fun k_=>(P0_0_ k_) ∨ k_ = g0_) from by repeat (first|(with_reducible first|exact HK.out|apply Kept.alloc|apply Kept.drewN|apply Kept.drew|refine Kept.setCell ?_ (.inl (.inr rfl)) _|refine Kept.setCell ?_ (.inr GW274.out) _)|exact HK.out)).1) hk)),Kd.freshB (g:=gb274) (o:=.cells #[.int .i64 a1_0,.int .i64 a1_1,.string a1_2] 74 (0,0)) (by (with_reducible repeat first|apply blk_drewN|apply blk_drew|apply blk_alloc);exact BK274.out) k_ hk⟩))
       (case aO=>exact (by (with_reducible repeat (first|apply Kd.R_alloc|apply Kd.R_drewN|apply Kd.R_drew));exact HO0_0.out))
       (case aS=>exact (below_size (by repeat (first|(with_reducible first|exact HB.out|apply below_alloc|apply pw_below_drewN|apply below_drew1|refine below_set ?_ GE0.out|refine below_set ?_ GE274.out)|exact HB.out))))
       (case aL=>have:=LMc33.out;omega)
       intro v283 w43 ho hb hg hat
       rw [← Ny282.out] at ho
       have n0_:=Aside0.mk (blk_grown (g:=g0_) (o:=.cells #[.slice (some ad275) l0_0.length co37] 92 (0,0)) (by (with_reducible repeat first|apply blk_drewN|apply blk_drew|apply blk_alloc);exact BK0.out) hg (Kd.R_ne HO0_0.out BK0.out (by decide)))
       have n1_:=Aside0.mk (blk_grown (g:=gb274) (o:=.cells #[.int .i64 a1_0,.int .i64 a1_1,.string a1_2] 74 (0,0)) (by (with_reducible repeat first|apply blk_drewN|apply blk_drew|apply blk_alloc);exact BK274.out) hg (Kd.R_away HO0_0.out (fun _ hk=>hk.2)))
       have n2_:=Aside0.mk (hb)
       have n3_:=Aside0.mk (Kept.of_grown (S:=(fun k_=>(P0_0_ k_) ∨ k_ = g0_)) hg (by repeat (first|(with_reducible first|exact HK.out|apply Kept.alloc|apply Kept.drewN|apply Kept.drew|refine Kept.setCell ?_ (.inl (.inr rfl)) _|refine Kept.setCell ?_ (.inr GW274.out) _)|exact HK.out)) (fun k_ e_=>Or.imp_left Or.inl ((HO0_0.out.1 k_ e_).1)))
       have n4_:=Aside0.mk (ho)
       clear BK0
       clear BK274
       clear HB
       clear HK
       clear HO0_0
       have BK0:=n0_
       have BK274:=n1_
       have HB:=n2_
       have HK:=n3_
       have HO284:=n4_
       clear n0_ n1_ n2_ n3_ n4_
       clear ho hb hg hat
       obtain ⟨Ao44,co44,eo44⟩:=Kd.R_slice HO284.out
       (first|subst eo44|(injection eo44 with f1_ f2_ f3_;have f4_:=f1_.symm;have f5_:=f3_.symm;clear f1_ f2_ f3_;subst f4_;subst f5_))
       refine hK.out _ _ ⟨(blk_cell BK0.out 0).trans rfl,(blk_cell BK274.out 0).trans rfl,(blk_cell BK274.out 1).trans rfl,(blk_cell BK274.out 2).trans rfl⟩ (fun hHeld=>?_)
       clear hK K
       refine norm_ (a':=?_) ?_ ?_
       rotate_left
       ·show Act.put _ (some 18) _ = _
        simp only [Act.put,List.setIfInBounds_toArray,List.set_cons_zero,List.set_cons_succ,i64_w,i32_w]
        rfl
       refine pure_ (i:=8) (N:=some 19) (v:=?_) (a':=?_) #[true,true,true,true,true,true,true,true,true,false,false] rfl rfl (any_of HT_.out (by kernel_rfl)) (fun _ _ _ h=>h) (Or.inl ⟨by rfl,?_⟩) ?_ ?_
       rotate_left
       ·intro w'
        go_simp
        with_reducible rfl
       rotate_left
       ·simp only [Act.put,List.setIfInBounds_toArray,List.set_cons_zero,List.set_cons_succ,i64_w,i32_w]
        rfl
       refine pure_ (i:=9) (N:=some 20) (v:=?_) (a':=?_) #[true,true,true,true,true,true,true,true,true,true,false] rfl rfl (any_of HT_.out (by kernel_rfl)) (fun _ _ _ h=>h) (Or.inl ⟨by rfl,?_⟩) ?_ ?_
       rotate_left
       ·intro w'
        go_simp
        with_reducible rfl
       rotate_left
       ·simp only [Act.put,List.setIfInBounds_toArray,List.set_cons_zero,List.set_cons_succ,i64_w,i32_w]
        rfl
       refine last_ (i:=10) (N:=none) #[true,true,true,true,true,true,true,true,true,true,true] rfl rfl (one_of HT_.out (by kernel_rfl)) (by decide) (fun K hK=>?_)
       have hs45 : w43.cell? ⟨g0_,0,none⟩ = some (.slice (some ad275) l0_0.length co37):=(blk_cell BK0.out 0).trans rfl
       have hfs45:=blk_frozen BK0.out 0
       have hns45_1:=NB274_0.out
       have hms45_1:=NB0_274.out
       refine skip_ (w1:=?_) (by rfl) rfl ?_ ?_
       rotate_left
       ·go_simp
        rfl
       refine hK.out _ _ ?_
       clear hK K
       refine done_ (done_of HT_.out (by kernel_rfl)) ?_
       try go_wp2
       first|go_end0|((try simp only [Exit.inBlock,Exit.then]);refine bodyPost_ret (results_none rfl _ _ _) rfl ?_)
       (first|refine ⟨(.slice Ao44 y282.length co44 : Value),?e_,?r_⟩|refine ⟨?e_,(.slice Ao44 y282.length co44 : Value),?r_⟩)
       (case e_=>first|rfl|(simp [errW_none,errW_some] <;> rfl)|(simp only [← hji10];first|rfl|(simp [errW_none,errW_some] <;> rfl))|(simp [*,errW_none,errW_some] <;> rfl))
       (case r_=>exact ⟨by (with_reducible repeat (first|apply Kd.R_alloc|apply Kd.R_drewN|apply Kd.R_drew));exact Kd.R_mono (Kd.R_far (p:=⟨g0_,0,none⟩) (Kd.R_types HO284.out BK0.out (by decide)) (fun _ hk=>hk.2) (.slice Ao44 y282.length co44)) (fun _ hk=>hk.1.1),by (with_reducible repeat first|apply blk_drewN|apply blk_drew|apply blk_alloc);refine blk_put (cs:=#[.slice (some ad275) l0_0.length co37]) ?_ 0 _ rfl;(with_reducible repeat first|apply blk_drewN|apply blk_drew|apply blk_alloc);exact BK0.out,by repeat (first|(with_reducible first|exact HB.out|apply below_alloc|apply pw_below_drewN|apply below_drew1|refine below_set ?_ GE0.out|refine below_set ?_ GE274.out)|exact HB.out),by repeat (first|(with_reducible first|exact HK.out|apply Kept.alloc|apply Kept.drewN|apply Kept.drew|refine Kept.setCell ?_ (.inl (.inr rfl)) _|refine Kept.setCell ?_ (.inr GW274.out) _)|exact HK.out)⟩)
      ·rw [if_neg c33] at H
       exact absurd H (by simp)
    ·rw [if_neg c12] at H
     exact absurd H (by simp)
   ·rw [if_neg c11] at H
    exact absurd H (by simp)
  ·rw [if_neg c9] at H
   have c9b0 : decide (0 < (l0_0.length : Int)) = false:=decide_eq_false c9
   have c9b1 : decide (0 < l0_0.length) = false:=decide_eq_false (by omega)
   clear c9
   by_cases c46 : l0_0.length < 4398046511104
   ·rw [if_pos c46] at H
    have LMc46:=Aside0.mk c46
    clear c46
    obtain ⟨y285,hy285⟩ : ∃ y_ : List (S74),y_ = (l0_0 ++ [(⟨a1_0,a1_1,a1_2⟩ : S74)]):=⟨_,rfl⟩
    replace H : (some y285) = some r:=by first|(rw [hy285];with_reducible exact H)|(have H2_:=(Option.bind_some _ _).symm.trans H;rw [hy285];with_reducible exact H2_)|(have H2_:=(Option.bind_some _ _).symm.trans H;with_reducible exact H2_)|with_reducible exact H|(rw [hy285];exact H)|exact H
    have Ny285:=Aside0.mk hy285
    clear hy285
    obtain rfl:=Option.some.inj H
    go_enter Try.func73,Try.ntmps73
    try go_wp2_with (first|((with_reducible refine gate_dst (N:=3) rfl ?_);refine box_event ?hg (N:=3) ?hd (cs:=#[.int .i64 a1_0,.int .i64 a1_1,.string a1_2]) (t:=74) ?hr ?_;(case hd=>rfl);(case hg=>rfl);(case hr=>first|(go_simp;done)|(go_simp;rfl));intro gb274 hg w47 hbox hb;have n0_:=Aside0.mk (Kd.R_below (Kd.R_elderB (by (with_reducible repeat (first|apply Kd.R_alloc|apply Kd.R_drewN|apply Kd.R_drew));exact HO0_0.out) gb274 (Nat.le_of_eq hg.symm)) hb);have n1_:=Aside0.mk (blk_below (g:=g0_) (o:=.cells #[u9000_] 92 (0,0)) (by (with_reducible repeat first|apply blk_drewN|apply blk_drew|apply blk_alloc);exact BK0.out) hb);have n2_:=Aside0.mk (Kept.below (S:=(fun k_=>(P0_0_ k_) ∨ k_ = g0_)) (by repeat (first|(with_reducible first|exact HK.out|apply Kept.alloc|apply Kept.drewN|apply Kept.drew|refine Kept.setCell ?_ (.inl (.inr rfl)) _)|exact HK.out)) hb);have n3_:=Aside0.mk (below_step (by repeat (first|(with_reducible first|exact HB.out|apply below_alloc|apply pw_below_drewN|apply below_drew1|refine below_set ?_ GE0.out)|exact HB.out)) hb);have n4_:=Aside0.mk (hbox);have n5_:=Aside0.mk ((by rw [hg];exact (by first|exact HK.out.1|exact (show Kept w _ (fun k_=>(P0_0_ k_) ∨ k_ = g0_) from by repeat (first|(with_reducible first|exact HK.out|apply Kept.alloc|apply Kept.drewN|apply Kept.drew|refine Kept.setCell ?_ (.inl (.inr rfl)) _)|exact HK.out)).1) : w.heap.size ≤ gb274));have n6_:=Aside0.mk ((by rw [hg];exact (below_size (by repeat (first|(with_reducible first|exact HB.out|apply below_alloc|apply pw_below_drewN|apply below_drew1|refine below_set ?_ GE0.out)|exact HB.out))) : w0.heap.size ≤ gb274));have n7_:=Aside0.mk ((by rw [hg];exact Nat.ne_of_lt (blk_lt (g:=g0_) (o:=.cells #[u9000_] 92 (0,0)) (by (with_reducible repeat first|apply blk_drewN|apply blk_drew|apply blk_alloc);exact BK0.out)) : g0_ ≠ gb274));have n8_:=Aside0.mk ((by rw [hg];exact Nat.ne_of_gt (blk_lt (g:=g0_) (o:=.cells #[u9000_] 92 (0,0)) (by (with_reducible repeat first|apply blk_drewN|apply blk_drew|apply blk_alloc);exact BK0.out)) : gb274 ≠ g0_));clear HO0_0;clear BK0;clear HK;clear HB;have HO0_0:=n0_;have BK0:=n1_;have HK:=n2_;have HB:=n3_;have BK274:=n4_;have GW274:=n5_;have GE274:=n6_;have NB0_274:=n7_;have NB274_0:=n8_;clear n0_ n1_ n2_ n3_ n4_ n5_ n6_ n7_ n8_;clear hb hbox hg;have hnb48:=NB0_274.out;have hnc48:=NB274_0.out;have hcz49_0 : w47.cell? ⟨g0_,0,none⟩ = some (u9000_):=(blk_cell BK0.out 0).trans rfl;have hfz49_0:=blk_frozen BK0.out 0;obtain ⟨Ao50,co50,eo50⟩:=Kd.R_slice HO0_0.out;subst eo50;have hcz51_0 : w47.cell? ⟨gb274,0,none⟩ = some (.int .i64 a1_0):=(blk_cell BK274.out 0).trans rfl;have hcz51_1 : w47.cell? ⟨gb274,1,none⟩ = some (.int .i64 a1_1):=(blk_cell BK274.out 1).trans rfl;have hcz51_2 : w47.cell? ⟨gb274,2,none⟩ = some (.string a1_2):=(blk_cell BK274.out 2).trans rfl;have hfz51_0:=blk_frozen BK274.out 0;have hfz51_1:=blk_frozen BK274.out 1;have hfz51_2:=blk_frozen BK274.out 2))
    have n0_:=Aside0.mk (Kd.R_drew HO0_0.out)
    have n1_:=Aside0.mk (blk_drew BK0.out)
    have n2_:=Aside0.mk (blk_drew BK274.out)
    have n3_:=Aside0.mk (Kept.drew HK.out)
    have n4_:=Aside0.mk (below_drew1 HB.out)
    clear HO0_0
    clear BK0
    clear BK274
    clear HK
    clear HB
    have HO0_0:=n0_
    have BK0:=n1_
    have BK274:=n2_
    have HK:=n3_
    have HB:=n4_
    clear n0_ n1_ n2_ n3_ n4_
    refine start_ (n:=17) (S:=fun w'=>True) (ds:=[]) #[false,false,false,false,false,false,false,false,false,false,false,false,false,false,false,false,false] (by kernel_rfl) rfl rfl trivial (fun hHeld=>?_);refine with_tabW impl_builder_add.tab4 impl_builder_add.bits4 (fun HT_ HW_=>?_)
    generalize w47.drew = w52 at HO0_0 BK0 BK274 HK HB hHeld ⊢
    refine pure_ (i:=0) (N:=some 26) (v:=?_) (a':=?_) #[true,false,false,false,false,false,false,false,false,false,false,false,false,false,false,false,false] rfl rfl (any_of HT_.out (by kernel_rfl)) (fun _ _ _ h=>h) (Or.inl ⟨by rfl,?_⟩) ?_ ?_
    rotate_left
    ·intro w'
     go_simp
     with_reducible rfl
    rotate_left
    ·simp only [Act.put,List.setIfInBounds_toArray,List.set_cons_zero,List.set_cons_succ,i64_w,i32_w]
     rfl
    refine pure_ (i:=1) (N:=some 27) (v:=?_) (a':=?_) #[true,true,false,false,false,false,false,false,false,false,false,false,false,false,false,false,false] rfl rfl (any_of HT_.out (by kernel_rfl)) (fun _ _ _ h=>h) (Or.inl ⟨by rfl,?_⟩) ?_ ?_
    rotate_left
    ·intro w'
     go_simp
     with_reducible rfl
    rotate_left
    ·simp only [Act.put,List.setIfInBounds_toArray,List.set_cons_zero,List.set_cons_succ,i64_w,i32_w]
     rfl
    refine pure_ (i:=2) (N:=some 28) (v:=?_) (a':=?_) #[true,true,true,false,false,false,false,false,false,false,false,false,false,false,false,false,false] rfl rfl (any_of HT_.out (by kernel_rfl)) (fun _ _ _ h=>h) (Or.inl ⟨by rfl,?_⟩) ?_ ?_
    rotate_left
    ·intro w'
     go_simp
     with_reducible rfl
    rotate_left
    ·simp only [Act.put,List.setIfInBounds_toArray,List.set_cons_zero,List.set_cons_succ,i64_w,i32_w]
     rfl
    refine pure_ (i:=3) (N:=some 29) (v:=undef) (a':=?_) #[true,true,true,true,false,false,false,false,false,false,false,false,false,false,false,false,false] rfl rfl (any_of HT_.out (by kernel_rfl)) (fun _ _ _ h=>h) (Or.inr ⟨by rfl,rfl⟩) ?_ ?_
    rotate_left
    ·simp only [Act.put,List.setIfInBounds_toArray,List.set_cons_zero,List.set_cons_succ,i64_w,i32_w]
     rfl
    refine pure_ (i:=4) (N:=some 30) (v:=undef) (a':=?_) #[true,true,true,true,true,false,false,false,false,false,false,false,false,false,false,false,false] rfl rfl (any_of HT_.out (by kernel_rfl)) (fun _ _ _ h=>h) (Or.inr ⟨by rfl,rfl⟩) ?_ ?_
    rotate_left
    ·simp only [Act.put,List.setIfInBounds_toArray,List.set_cons_zero,List.set_cons_succ,i64_w,i32_w]
     rfl
    refine pure_ (i:=5) (N:=some 31) (v:=undef) (a':=?_) #[true,true,true,true,true,true,false,false,false,false,false,false,false,false,false,false,false] rfl rfl (any_of HT_.out (by kernel_rfl)) (fun _ _ _ h=>h) (Or.inr ⟨by rfl,rfl⟩) ?_ ?_
    rotate_left
    ·simp only [Act.put,List.setIfInBounds_toArray,List.set_cons_zero,List.set_cons_succ,i64_w,i32_w]
     rfl
    refine pure_ (i:=6) (N:=some 32) (v:=undef) (a':=?_) #[true,true,true,true,true,true,true,false,false,false,false,false,false,false,false,false,false] rfl rfl (any_of HT_.out (by kernel_rfl)) (fun _ _ _ h=>h) (Or.inr ⟨by rfl,rfl⟩) ?_ ?_
    rotate_left
    ·simp only [Act.put,List.setIfInBounds_toArray,List.set_cons_zero,List.set_cons_succ,i64_w,i32_w]
     rfl
    refine pure_ (i:=7) (N:=some 33) (v:=undef) (a':=?_) #[true,true,true,true,true,true,true,true,false,false,false,false,false,false,false,false,false] rfl rfl (any_of HT_.out (by kernel_rfl)) (fun _ _ _ h=>h) (Or.inr ⟨by rfl,rfl⟩) ?_ ?_
    rotate_left
    ·simp only [Act.put,List.setIfInBounds_toArray,List.set_cons_zero,List.set_cons_succ,i64_w,i32_w]
     rfl
    refine pure_ (i:=8) (N:=some 34) (v:=undef) (a':=?_) #[true,true,true,true,true,true,true,true,true,false,false,false,false,false,false,false,false] rfl rfl (any_of HT_.out (by kernel_rfl)) (fun _ _ _ h=>h) (Or.inr ⟨by rfl,rfl⟩) ?_ ?_
    rotate_left
    ·simp only [Act.put,List.setIfInBounds_toArray,List.set_cons_zero,List.set_cons_succ,i64_w,i32_w]
     rfl
    refine pure_ (i:=9) (N:=some 35) (v:=undef) (a':=?_) #[true,true,true,true,true,true,true,true,true,true,false,false,false,false,false,false,false] rfl rfl (any_of HT_.out (by kernel_rfl)) (fun _ _ _ h=>h) (Or.inr ⟨by rfl,rfl⟩) ?_ ?_
    rotate_left
    ·simp only [Act.put,List.setIfInBounds_toArray,List.set_cons_zero,List.set_cons_succ,i64_w,i32_w]
     rfl
    refine pure_ (i:=10) (N:=some 36) (v:=undef) (a':=?_) #[true,true,true,true,true,true,true,true,true,true,true,false,false,false,false,false,false] rfl rfl (any_of HT_.out (by kernel_rfl)) (fun _ _ _ h=>h) (Or.inr ⟨by rfl,rfl⟩) ?_ ?_
    rotate_left
    ·simp only [Act.put,List.setIfInBounds_toArray,List.set_cons_zero,List.set_cons_succ,i64_w,i32_w]
     rfl
    refine pure_ (i:=11) (N:=some 37) (v:=undef) (a':=?_) #[true,true,true,true,true,true,true,true,true,true,true,true,false,false,false,false,false] rfl rfl (any_of HT_.out (by kernel_rfl)) (fun _ _ _ h=>h) (Or.inr ⟨by rfl,rfl⟩) ?_ ?_
    rotate_left
    ·simp only [Act.put,List.setIfInBounds_toArray,List.set_cons_zero,List.set_cons_succ,i64_w,i32_w]
     rfl
    refine pure_ (i:=12) (N:=some 38) (v:=undef) (a':=?_) #[true,true,true,true,true,true,true,true,true,true,true,true,true,false,false,false,false] rfl rfl (any_of HT_.out (by kernel_rfl)) (fun _ _ _ h=>h) (Or.inr ⟨by rfl,rfl⟩) ?_ ?_
    rotate_left
    ·simp only [Act.put,List.setIfInBounds_toArray,List.set_cons_zero,List.set_cons_succ,i64_w,i32_w]
     rfl
    refine pure_ (i:=13) (N:=some 39) (v:=undef) (a':=?_) #[true,true,true,true,true,true,true,true,true,true,true,true,true,true,false,false,false] rfl rfl (any_of HT_.out (by kernel_rfl)) (fun _ _ _ h=>h) (Or.inr ⟨by rfl,rfl⟩) ?_ ?_
    rotate_left
    ·simp only [Act.put,List.setIfInBounds_toArray,List.set_cons_zero,List.set_cons_succ,i64_w,i32_w]
     rfl
    refine pure_ (i:=14) (N:=some 40) (v:=undef) (a':=?_) #[true,true,true,true,true,true,true,true,true,true,true,true,true,true,true,false,false] rfl rfl (any_of HT_.out (by kernel_rfl)) (fun _ _ _ h=>h) (Or.inr ⟨by rfl,rfl⟩) ?_ ?_
    rotate_left
    ·simp only [Act.put,List.setIfInBounds_toArray,List.set_cons_zero,List.set_cons_succ,i64_w,i32_w]
     rfl
    refine pure_ (i:=15) (N:=some 41) (v:=?_) (a':=?_) #[true,true,true,true,true,true,true,true,true,true,true,true,true,true,true,true,false] rfl rfl (any_of HT_.out (by kernel_rfl)) (fun _ _ _ h=>h) (Or.inl ⟨by rfl,?_⟩) ?_ ?_
    rotate_left
    ·intro w'
     go_simp
     with_reducible rfl
    rotate_left
    ·simp only [Act.put,List.setIfInBounds_toArray,List.set_cons_zero,List.set_cons_succ,i64_w,i32_w]
     rfl
    refine pure_ (i:=16) (N:=some 25) (v:=?_) (a':=?_) #[true,true,true,true,true,true,true,true,true,true,true,true,true,true,true,true,true] rfl rfl (any_of HT_.out (by kernel_rfl)) (fun _ _ _ h=>h) (Or.inl ⟨by rfl,?_⟩) ?_ ?_
    rotate_left
    ·intro w'
     go_simp
     with_reducible rfl
    rotate_left
    ·simp only [Act.put,List.setIfInBounds_toArray,List.set_cons_zero,List.set_cons_succ,i64_w,i32_w]
     rfl
    refine done_ (done_of HT_.out (by kernel_rfl)) ?_
    try go_wp2
    have n0_:=Aside0.mk (Kd.R_drew HO0_0.out)
    have n1_:=Aside0.mk (blk_drew BK0.out)
    have n2_:=Aside0.mk (blk_drew BK274.out)
    have n3_:=Aside0.mk (Kept.drew HK.out)
    have n4_:=Aside0.mk (below_drew1 HB.out)
    clear HO0_0
    clear BK0
    clear BK274
    clear HK
    clear HB
    have HO0_0:=n0_
    have BK0:=n1_
    have BK274:=n2_
    have HK:=n3_
    have HB:=n4_
    clear n0_ n1_ n2_ n3_ n4_
    refine start_ (n:=11) (S:=fun w'=>w'.cell? ⟨g0_,0,none⟩ = some (.slice Ao50 l0_0.length co50)∧w'.cell? ⟨gb274,0,none⟩ = some (.int .i64 a1_0)∧w'.cell? ⟨gb274,1,none⟩ = some (.int .i64 a1_1)∧w'.cell? ⟨gb274,2,none⟩ = some (.string a1_2)) (ds:=[10]) #[false,false,false,false,false,false,false,false,false,false,false] (by kernel_rfl) rfl rfl ⟨(blk_cell BK0.out 0).trans rfl,(blk_cell BK274.out 0).trans rfl,(blk_cell BK274.out 1).trans rfl,(blk_cell BK274.out 2).trans rfl⟩ (fun hHeld=>?_);refine with_tabW impl_builder_add.tab2 impl_builder_add.bits2 (fun HT_ HW_=>?_)
    generalize w52.drew = w53 at HO0_0 BK0 BK274 HK HB hHeld ⊢
    refine pure_ (i:=0) (N:=some 11) (v:=?_) (a':=?_) #[true,false,false,false,false,false,false,false,false,false,false] rfl rfl (any_of HT_.out (by kernel_rfl)) (fun _ _ _ h=>h) (Or.inl ⟨by rfl,?_⟩) ?_ ?_
    rotate_left
    ·intro w'
     go_simp
     with_reducible rfl
    rotate_left
    ·simp only [Act.put,List.setIfInBounds_toArray,List.set_cons_zero,List.set_cons_succ,i64_w,i32_w]
     rfl
    refine pure_ (i:=1) (N:=some 12) (v:=?_) (a':=?_) #[true,true,false,false,false,false,false,false,false,false,false] rfl rfl (any_of HT_.out (by kernel_rfl)) (fun _ _ _ h=>h) (Or.inl ⟨by rfl,?_⟩) ?_ ?_
    rotate_left
    ·intro w'
     go_simp
     with_reducible rfl
    rotate_left
    ·simp only [Act.put,List.setIfInBounds_toArray,List.set_cons_zero,List.set_cons_succ,i64_w,i32_w]
     rfl
    refine pure_ (i:=2) (N:=some 13) (v:=?_) (a':=?_) #[true,true,true,false,false,false,false,false,false,false,false] rfl rfl (any_of HT_.out (by kernel_rfl)) (fun _ _ _ h=>h) (Or.inl ⟨by rfl,?_⟩) ?_ ?_
    rotate_left
    ·intro w'
     go_simp
     with_reducible rfl
    rotate_left
    ·simp only [Act.put,List.setIfInBounds_toArray,List.set_cons_zero,List.set_cons_succ,i64_w,i32_w]
     rfl
    refine pure_ (i:=3) (N:=some 14) (v:=?_) (a':=?_) #[true,true,true,true,false,false,false,false,false,false,false] rfl rfl (any_of HT_.out (by kernel_rfl)) (fun _ _ _ h=>h) (Or.inl ⟨by rfl,?_⟩) ?_ ?_
    rotate_left
    ·intro w'
     go_simp
     with_reducible rfl
    rotate_left
    ·simp only [Act.put,List.setIfInBounds_toArray,List.set_cons_zero,List.set_cons_succ,i64_w,i32_w]
     rfl
    refine take_ (i:=4) (N:=some 15) (v:=?_) (a':=?_) #[true,true,true,true,true,false,false,false,false,false,false] rfl rfl (take_ofW HT_.out HW_.out (by kernel_rfl)) (fun _ _ _ h=>h) (Or.inl ⟨by rfl,?_⟩) hHeld ?_ ?_
    rotate_left
    ·rintro w' ⟨s0,s1,s2,s3⟩
     go_simp
     with_reducible rfl
    rotate_left
    ·simp only [Act.put,List.setIfInBounds_toArray,List.set_cons_zero,List.set_cons_succ,i64_w,i32_w]
     rfl
    refine take_ (i:=5) (N:=some 16) (v:=?_) (a':=?_) #[true,true,true,true,true,true,false,false,false,false,false] rfl rfl (take_ofW HT_.out HW_.out (by kernel_rfl)) (fun _ _ _ h=>h) (Or.inl ⟨by rfl,?_⟩) hHeld ?_ ?_
    rotate_left
    ·rintro w' ⟨s0,s1,s2,s3⟩
     go_simp
     with_reducible rfl
    rotate_left
    ·simp only [Act.put,List.setIfInBounds_toArray,List.set_cons_zero,List.set_cons_succ,i64_w,i32_w]
     rfl
    refine one_ (i:=6) (N:=some 17) #[true,true,true,true,true,true,true,false,false,false,false] rfl rfl (one_of HT_.out (by kernel_rfl)) (by decide) (fun K hK=>?_)
    refine value_ (w1:=?_) (v:=?_) (by rfl) rfl ?_ ?_
    rotate_left 2
    ·go_simp
     constructor
     ·rfl
     ·rfl
    refine hK.out _ _ ⟨(blk_cell (blk_alloc BK0.out _) 0).trans rfl,(blk_cell (blk_alloc BK274.out _) 0).trans rfl,(blk_cell (blk_alloc BK274.out _) 1).trans rfl,(blk_cell (blk_alloc BK274.out _) 2).trans rfl⟩ (fun hHeld=>?_)
    clear hK K
    refine norm_ (a':=?_) ?_ ?_
    rotate_left
    ·show Act.put _ (some 17) _ = _
     simp only [Act.put,List.setIfInBounds_toArray,List.set_cons_zero,List.set_cons_succ,i64_w,i32_w]
     rfl
    refine one_ (i:=7) (N:=some 18) #[true,true,true,true,true,true,true,true,false,false,false] rfl rfl (one_of HT_.out (by kernel_rfl)) (by decide) (fun K hK=>?_)
    refine Kd.R_append_step k74 (w0:=w0) w0.heap.size (by rfl) (.tmp 15) (.tmp 17) 25 74 (.agg #[(.int .i64 0),(.int .i64 0),(.string ⟨#[]⟩)]) 32 rfl Try.underlying25 info74 rfl (by decide) (by omega) (.slice Ao50 l0_0.length co50) l0_0 (⟨a1_0,a1_1,a1_2⟩ : S74) [.int .i64 a1_0,.int .i64 a1_1,.string a1_2] (fun k_=>(P0_0_ k_ ∨ w.heap.size ≤ k_)∧k_ ≠ gb274) (fun _=>False) rfl rfl ?aP (fun _ hk=>hk.elim) ?aF ?aO ?aB ?aS ?aL ?_
    (case aP=>exact k74_mkM _ _ _ (⟨a1_0,a1_1,a1_2⟩ : S74))
    (case aB=>exact (by repeat (first|(with_reducible first|exact HB.out|apply below_alloc|apply pw_below_drewN|apply below_drew1|refine below_set ?_ GE0.out|refine below_set ?_ GE274.out)|exact HB.out)))
    (case aF=>exact (fun k_ hk=>⟨(.inr (Nat.le_trans (by first|exact HK.out.1|exact (show Kept w _ (fun k_=>(P0_0_ k_) ∨ k_ = g0_) from by repeat (first|(with_reducible first|exact HK.out|apply Kept.alloc|apply Kept.drewN|apply Kept.drew|refine Kept.setCell ?_ (.inl (.inr rfl)) _|refine Kept.setCell ?_ (.inr GW274.out) _)|exact HK.out)).1) hk)),Kd.freshB (g:=gb274) (o:=.cells #[.int .i64 a1_0,.int .i64 a1_1,.string a1_2] 74 (0,0)) (by (with_reducible repeat first|apply blk_drewN|apply blk_drew|apply blk_alloc);exact BK274.out) k_ hk⟩))
    (case aO=>exact (by (with_reducible repeat (first|apply Kd.R_alloc|apply Kd.R_drewN|apply Kd.R_drew));exact HO0_0.out))
    (case aS=>exact (below_size (by repeat (first|(with_reducible first|exact HB.out|apply below_alloc|apply pw_below_drewN|apply below_drew1|refine below_set ?_ GE0.out|refine below_set ?_ GE274.out)|exact HB.out))))
    (case aL=>have:=LMc46.out;omega)
    intro v286 w54 ho hb hg hat
    rw [← Ny285.out] at ho
    have n0_:=Aside0.mk (blk_grown (g:=g0_) (o:=.cells #[.slice Ao50 l0_0.length co50] 92 (0,0)) (by (with_reducible repeat first|apply blk_drewN|apply blk_drew|apply blk_alloc);exact BK0.out) hg (Kd.R_ne HO0_0.out BK0.out (by decide)))
    have n1_:=Aside0.mk (blk_grown (g:=gb274) (o:=.cells #[.int .i64 a1_0,.int .i64 a1_1,.string a1_2] 74 (0,0)) (by (with_reducible repeat first|apply blk_drewN|apply blk_drew|apply blk_alloc);exact BK274.out) hg (Kd.R_away HO0_0.out (fun _ hk=>hk.2)))
    have n2_:=Aside0.mk (hb)
    have n3_:=Aside0.mk (Kept.of_grown (S:=(fun k_=>(P0_0_ k_) ∨ k_ = g0_)) hg (by repeat (first|(with_reducible first|exact HK.out|apply Kept.alloc|apply Kept.drewN|apply Kept.drew|refine Kept.setCell ?_ (.inl (.inr rfl)) _|refine Kept.setCell ?_ (.inr GW274.out) _)|exact HK.out)) (fun k_ e_=>Or.imp_left Or.inl ((HO0_0.out.1 k_ e_).1)))
    have n4_:=Aside0.mk (ho)
    clear BK0
    clear BK274
    clear HB
    clear HK
    clear HO0_0
    have BK0:=n0_
    have BK274:=n1_
    have HB:=n2_
    have HK:=n3_
    have HO287:=n4_
    clear n0_ n1_ n2_ n3_ n4_
    clear ho hb hg hat
    obtain ⟨Ao55,co55,eo55⟩:=Kd.R_slice HO287.out
    (first|subst eo55|(injection eo55 with f1_ f2_ f3_;have f4_:=f1_.symm;have f5_:=f3_.symm;clear f1_ f2_ f3_;subst f4_;subst f5_))
    refine hK.out _ _ ⟨(blk_cell BK0.out 0).trans rfl,(blk_cell BK274.out 0).trans rfl,(blk_cell BK274.out 1).trans rfl,(blk_cell BK274.out 2).trans rfl⟩ (fun hHeld=>?_)
    clear hK K
    refine norm_ (a':=?_) ?_ ?_
    rotate_left
    ·show Act.put _ (some 18) _ = _
     simp only [Act.put,List.setIfInBounds_toArray,List.set_cons_zero,List.set_cons_succ,i64_w,i32_w]
     rfl
    refine pure_ (i:=8) (N:=some 19) (v:=?_) (a':=?_) #[true,true,true,true,true,true,true,true,true,false,false] rfl rfl (any_of HT_.out (by kernel_rfl)) (fun _ _ _ h=>h) (Or.inl ⟨by rfl,?_⟩) ?_ ?_
    rotate_left
    ·intro w'
     go_simp
     with_reducible rfl
    rotate_left
    ·simp only [Act.put,List.setIfInBounds_toArray,List.set_cons_zero,List.set_cons_succ,i64_w,i32_w]
     rfl
    refine pure_ (i:=9) (N:=some 20) (v:=?_) (a':=?_) #[true,true,true,true,true,true,true,true,true,true,false] rfl rfl (any_of HT_.out (by kernel_rfl)) (fun _ _ _ h=>h) (Or.inl ⟨by rfl,?_⟩) ?_ ?_
    rotate_left
    ·intro w'
     go_simp
     with_reducible rfl
    rotate_left
    ·simp only [Act.put,List.setIfInBounds_toArray,List.set_cons_zero,List.set_cons_succ,i64_w,i32_w]
     rfl
    refine last_ (i:=10) (N:=none) #[true,true,true,true,true,true,true,true,true,true,true] rfl rfl (one_of HT_.out (by kernel_rfl)) (by decide) (fun K hK=>?_)
    have hs56 : w54.cell? ⟨g0_,0,none⟩ = some (.slice Ao50 l0_0.length co50):=(blk_cell BK0.out 0).trans rfl
    have hfs56:=blk_frozen BK0.out 0
    have hns56_1:=NB274_0.out
    have hms56_1:=NB0_274.out
    refine skip_ (w1:=?_) (by rfl) rfl ?_ ?_
    rotate_left
    ·go_simp
     rfl
    refine hK.out _ _ ?_
    clear hK K
    refine done_ (done_of HT_.out (by kernel_rfl)) ?_
    try go_wp2
    first|go_end0|((try simp only [Exit.inBlock,Exit.then]);refine bodyPost_ret (results_none rfl _ _ _) rfl ?_)
    (first|refine ⟨(.slice Ao55 y285.length co55 : Value),?e_,?r_⟩|refine ⟨?e_,(.slice Ao55 y285.length co55 : Value),?r_⟩)
    (case e_=>first|rfl|(simp [errW_none,errW_some] <;> rfl)|(simp [*,errW_none,errW_some] <;> rfl))
    (case r_=>exact ⟨by (with_reducible repeat (first|apply Kd.R_alloc|apply Kd.R_drewN|apply Kd.R_drew));exact Kd.R_mono (Kd.R_far (p:=⟨g0_,0,none⟩) (Kd.R_types HO287.out BK0.out (by decide)) (fun _ hk=>hk.2) (.slice Ao55 y285.length co55)) (fun _ hk=>hk.1.1),by (with_reducible repeat first|apply blk_drewN|apply blk_drew|apply blk_alloc);refine blk_put (cs:=#[.slice Ao50 l0_0.length co50]) ?_ 0 _ rfl;(with_reducible repeat first|apply blk_drewN|apply blk_drew|apply blk_alloc);exact BK0.out,by repeat (first|(with_reducible first|exact HB.out|apply below_alloc|apply pw_below_drewN|apply below_drew1|refine below_set ?_ GE0.out|refine below_set ?_ GE274.out)|exact HB.out),by repeat (first|(with_reducible first|exact HK.out|apply Kept.alloc|apply Kept.drewN|apply Kept.drew|refine Kept.setCell ?_ (.inl (.inr rfl)) _|refine Kept.setCell ?_ (.inr GW274.out) _)|exact HK.out)⟩)
   ·rw [if_neg c46] at H
    exact absurd H (by simp)

end Go.Proofs.Ytebmncdjlmnbnaa.PFnExactComposeChanges
