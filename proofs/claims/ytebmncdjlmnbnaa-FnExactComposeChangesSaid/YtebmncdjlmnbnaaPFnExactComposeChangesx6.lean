-- Written by a program of this session over the print of the kit (wip/t/patch_print.py).
import Derived.Test.YtebmncdjlmnbnaaPFnExactComposeChangesx0
import Derived.Test.YtebmncdjlmnbnaaPFnExactComposeChangesx1
import Derived.Test.YtebmncdjlmnbnaaPFnExactComposeChangesx4
namespace Go.Proofs.Ytebmncdjlmnbnaa.PFnExactComposeChanges
open Go.RowKit Go.Proofs.YtebmncdjlmnbnaaW.PrintWords Go.Proofs.YtebmncdjlmnbnaaW.PrintLast Go.Proofs.YtebmncdjlmnbnaaW.PrintMore
attribute [local go_sem] max2_int min2_int max_two min_two max_three min_three max_four min_four   -- for this text's walks alone
set_option linter.unusedVariables false
set_option linter.unusedSimpArgs false

attribute [local go_sem high] eqA74
/-! ### spec_l1Add: function 72 -/
def spec_l1Add.f (k : Nat) (l0 : List (S74)) (a1_0 : Int) (a1_1 : Int) (a1_2 : ByteArray) : Option ((List (S74))):=if (a1_0 == 0 && (a1_1 == 0 && (a1_2.toList == ([] : List UInt8)))) = true then (some l0) else (if (l0.length : Int) > 0 then (if 0 ≤ (wrap64 ((l0.length : Int) - 1)) then (if (wrap64 ((l0.length : Int) - 1)) < (l0.length : Int) then ((spec_l1Kind.f k ((rd_T74 l0 (wrap64 ((l0.length : Int) - 1))).f0) ((rd_T74 l0 (wrap64 ((l0.length : Int) - 1))).f1) ((rd_T74 l0 (wrap64 ((l0.length : Int) - 1))).f2)).bind fun t158=>((spec_l1Kind.f k a1_0 a1_1 a1_2).bind fun t159=>(if t158 = t159 then (if ((rd_T74 l0 (wrap64 ((l0.length : Int) - 1))).f2).size + a1_2.size ≤ 9223372036854775807 then (some (l0.set ((wrap64 ((l0.length : Int) - 1)) : Int).toNat (⟨wrap64 (((rd_T74 l0 (wrap64 ((l0.length : Int) - 1))).f0) + a1_0),wrap64 (((rd_T74 l0 (wrap64 ((l0.length : Int) - 1))).f1) + a1_1),((rd_T74 l0 (wrap64 ((l0.length : Int) - 1))).f2) ++ a1_2⟩ : S74))) else (none)) else (if l0.length < 4398046511104 then (some (l0 ++ [(⟨a1_0,a1_1,a1_2⟩ : S74)])) else (none))))) else (none)) else (none)) else (if l0.length < 4398046511104 then (some (l0 ++ [(⟨a1_0,a1_1,a1_2⟩ : S74)])) else (none)))
theorem spec_l1Add.mono : ∀ a0 a1 a2 a3 k,LeO (spec_l1Add.f k a0 a1 a2 a3) (spec_l1Add.f (k + 1) a0 a1 a2 a3):=by
 intro a0 a1 a2 a3 k
 unfold spec_l1Add.f
 repeat' first
   | (with_reducible exact spec_l1Kind.mono _ _ _ _)
   | (with_reducible exact LeO.refl _)
   | (with_reducible exact LeO.none _)
   | (with_reducible refine LeO.ite ?_ ?_)
   | (with_reducible refine LeO.bind ?_ (fun _=>?_))
   | exact spec_l1Kind.mono _ _ _ _
   | exact LeO.none _
   | refine LeO.ite ?_ ?_
   | refine LeO.bind ?_ (fun _=>?_)
def spec_l1Add.T4 : Bool × List (List Nat × List Nat):=(true,[([],[]),([0],[0]),([1],[1]),([2],[2]),([2],[2]),([4,2],[2,4]),([3,5,2],[2,3,5]),([6,2],[2,6]),([7,2,2],[2,7]),([2],[2]),([9,8,2],[2,9]),([8,10,2],[2,8,10]),([2,11],[2,11])])
def spec_l1Add.B4 : List Nat:=[0,1,3,7,7,23,63,127,255,7,1023,2047,4095]
theorem spec_l1Add.tab4 : rtab .any (opsOf Try.f72 4) = spec_l1Add.T4:=by kernel_rfl
theorem spec_l1Add.bits4 : waitsOk spec_l1Add.T4.2 spec_l1Add.B4 = true:=by kernel_rfl
def spec_l1Add.T5 : Bool × List (List Nat × List Nat):=(true,[([],[]),([],[]),([1],[1]),([],[]),([],[]),([4],[4]),([3,5],[3,5]),([6],[6]),([7],[7]),([],[]),([9],[9]),([8,10],[8,10]),([],[]),([],[]),([13],[13]),([12,14],[12,14]),([15],[15]),([16],[16]),([],[]),([18],[18]),([17,19],[17,19]),([],[]),([],[]),([22],[22]),([21,23],[21,23]),([24],[24]),([25],[25]),([],[]),([27],[27]),([26,28],[26,28]),([11,20,29],[11,20,29]),([0,2,0,1,2,3,4,5,6,7,8,9,10,11,12,13,14,15,16,17,18,19,20,21,22,23,24,25,26,27,28,29,30],[0,2]),([31,30,0,1,2,3,4,5,6,7,8,9,10,11,12,13,14,15,16,17,18,19,20,21,22,23,24,25,26,27,28,29,30],[30,31])])
def spec_l1Add.B5 : List Nat:=[0,0,2,0,0,16,56,120,248,0,512,2040,0,0,8192,28672,61440,126976,0,262144,1044480,0,0,4194304,14680064,31457280,65011712,0,134217728,534773760,1073741816,2147483647,4294967295]
theorem spec_l1Add.tab5 : rtab .any (opsOf Try.f72 5) = spec_l1Add.T5:=by kernel_rfl
theorem spec_l1Add.bits5 : waitsOk spec_l1Add.T5.2 spec_l1Add.B5 = true:=by kernel_rfl
set_option maxHeartbeats 8000000 in
set_option maxRecDepth 100000 in
theorem spec_l1Add.calls (k : Nat) (P0_ : Nat → Prop) (u9000_ : Value) (l0 : List (S74)) (a1_0 : Int) (a1_1 : Int) (a1_2 : ByteArray) (r : List (S74)) (w0 w : World) (hB : Below w0.heap.size w0 w) (ho0 : Kd.R k74 74 w w0.heap.size P0_ u9000_ l0) (h : spec_l1Add.f k l0 a1_0 a1_1 a1_2 = some r) :
  Calls Try.prog 72 #[u9000_,.agg #[.int .i64 a1_0,.int .i64 a1_1,.string a1_2]] w fun e w'=>∃ v0_ : Value,e = .returned (v0_)∧Kd.R k74 74 w' w0.heap.size (fun k_=>(P0_ k_ ∨ w.heap.size ≤ k_)) v0_ r∧Below w0.heap.size w0 w'∧Kept w w' (fun k_=>P0_ k_):=by
 have hu74:=Try.underlying74
 have HO0:=Aside0.mk (show Kd.R k74 74 w w0.heap.size (fun k_=>(P0_ k_ ∨ w.heap.size ≤ k_)) u9000_ l0 from Kd.R_mono ho0 (fun k_ hk=>(.inl hk)))
 have HK:=Aside0.mk (Kept.refl w (fun k_=>P0_ k_))
 have HW0:=Aside0.mk hB.size
 have HB:=Aside0.mk hB
 clear hB
 have H : (if (a1_0 == 0 && (a1_1 == 0 && (a1_2.toList == ([] : List UInt8)))) = true then (some l0) else (if (l0.length : Int) > 0 then (if 0 ≤ (wrap64 ((l0.length : Int) - 1)) then (if (wrap64 ((l0.length : Int) - 1)) < (l0.length : Int) then ((spec_l1Kind.f k ((rd_T74 l0 (wrap64 ((l0.length : Int) - 1))).f0) ((rd_T74 l0 (wrap64 ((l0.length : Int) - 1))).f1) ((rd_T74 l0 (wrap64 ((l0.length : Int) - 1))).f2)).bind fun t158=>((spec_l1Kind.f k a1_0 a1_1 a1_2).bind fun t159=>(if t158 = t159 then (if ((rd_T74 l0 (wrap64 ((l0.length : Int) - 1))).f2).size + a1_2.size ≤ 9223372036854775807 then (some (l0.set ((wrap64 ((l0.length : Int) - 1)) : Int).toNat (⟨wrap64 (((rd_T74 l0 (wrap64 ((l0.length : Int) - 1))).f0) + a1_0),wrap64 (((rd_T74 l0 (wrap64 ((l0.length : Int) - 1))).f1) + a1_1),((rd_T74 l0 (wrap64 ((l0.length : Int) - 1))).f2) ++ a1_2⟩ : S74))) else (none)) else (if l0.length < 4398046511104 then (some (l0 ++ [(⟨a1_0,a1_1,a1_2⟩ : S74)])) else (none))))) else (none)) else (none)) else (if l0.length < 4398046511104 then (some (l0 ++ [(⟨a1_0,a1_1,a1_2⟩ : S74)])) else (none)))) = some r:=h
 clear h
 by_cases c3 : (a1_0 == 0 && (a1_1 == 0 && (a1_2.toList == ([] : List UInt8)))) = true
 ·rw [if_pos c3] at H
  have c3b0 : (a1_0 == 0 && (a1_1 == 0 && (a1_2.toList == ([] : List UInt8)))) = true:=c3
  (try (have c3b1 : decide (a1_0 = 0 && (a1_1 == 0 && (a1_2.toList == ([] : List UInt8)))) = true:=by simpa using c3))
  (try (have c3b2 : (a1_0 == 0 && (a1_1 == 0 && (a1_2.toList == ([] : List UInt8)))) = true:=by simpa using c3))
  (try (have c3b3 : (a1_0 == 0 && (a1_1 == 0 && (a1_2.toList.isEmpty))) = true:=by simpa using c3))
  clear c3
  obtain rfl:=Option.some.inj H
  go_enter Try.func72,Try.ntmps72
  go_wp2_with (first|((with_reducible refine gate_dst (N:=3) rfl ?_);refine box_event ?hg (N:=3) ?hd (cs:=#[.int .i64 a1_0,.int .i64 a1_1,.string a1_2]) (t:=74) ?hr ?_;(case hd=>rfl);(case hg=>rfl);(case hr=>first|(go_simp;done)|(go_simp;rfl));intro gb156 hg w4 hbox hb;have n0_:=Aside0.mk (Kd.R_below (Kd.R_elderB (by (with_reducible repeat (first|apply Kd.R_alloc|apply Kd.R_drewN|apply Kd.R_drew));exact HO0.out) gb156 (Nat.le_of_eq hg.symm)) hb);have n1_:=Aside0.mk (Kept.below (S:=(fun k_=>P0_ k_)) (by repeat (first|(with_reducible first|exact HK.out|apply Kept.alloc|apply Kept.drewN|apply Kept.drew)|exact HK.out)) hb);have n2_:=Aside0.mk (below_step (by repeat (first|exact HB.out|apply below_alloc|apply pw_below_drewN|apply below_drew1)) hb);have n3_:=Aside0.mk (hbox);have n4_:=Aside0.mk ((by rw [hg];exact (by first|exact HK.out.1|exact (show Kept w _ (fun k_=>P0_ k_) from by repeat (first|(with_reducible first|exact HK.out|apply Kept.alloc|apply Kept.drewN|apply Kept.drew)|exact HK.out)).1) : w.heap.size ≤ gb156));have n5_:=Aside0.mk ((by rw [hg];exact (below_size (by repeat (first|exact HB.out|apply below_alloc|apply pw_below_drewN|apply below_drew1))) : w0.heap.size ≤ gb156));clear HO0;clear HK;clear HB;have HO0:=n0_;have HK:=n1_;have HB:=n2_;have BK156:=n3_;have GW156:=n4_;have GE156:=n5_;clear n0_ n1_ n2_ n3_ n4_ n5_;clear hb hbox hg;have hcz5_0 : w4.cell? ⟨gb156,0,none⟩ = some (.int .i64 a1_0):=(blk_cell BK156.out 0).trans rfl;have hcz5_1 : w4.cell? ⟨gb156,1,none⟩ = some (.int .i64 a1_1):=(blk_cell BK156.out 1).trans rfl;have hcz5_2 : w4.cell? ⟨gb156,2,none⟩ = some (.string a1_2):=(blk_cell BK156.out 2).trans rfl;have hfz5_0:=blk_frozen BK156.out 0;have hfz5_1:=blk_frozen BK156.out 1;have hfz5_2:=blk_frozen BK156.out 2))
  go_ret
  exact ⟨_,by first|rfl|(simp [*,errW_none,errW_some] <;> rfl),by (with_reducible repeat (first|apply Kd.R_alloc|apply Kd.R_drewN|apply Kd.R_drew));exact Kd.R_mono HO0.out (fun _ hk=>hk.1),by repeat (first|(with_reducible first|exact HB.out|apply below_alloc|apply pw_below_drewN|apply below_drew1|refine below_set ?_ GE156.out)|exact HB.out),by repeat (first|(with_reducible first|exact HK.out|apply Kept.alloc|apply Kept.drewN|apply Kept.drew|refine Kept.setCell ?_ (.inr GW156.out) _)|exact HK.out)⟩
 ·rw [if_neg c3] at H
  have c3b0 : (a1_0 == 0 && (a1_1 == 0 && (a1_2.toList == ([] : List UInt8)))) = false:=by simpa using c3
  (try (have c3b1 : decide (a1_0 = 0 && (a1_1 == 0 && (a1_2.toList == ([] : List UInt8)))) = false:=by simpa using c3))
  (try (have c3b2 : (a1_0 == 0 && (a1_1 == 0 && (a1_2.toList == ([] : List UInt8)))) = false:=by simpa using c3))
  (try (have c3b3 : ¬ (a1_0 = 0 && (a1_1 == 0 && (a1_2.toList == ([] : List UInt8)))):=by simpa using c3))
  (try (have c3b4 : (a1_0 == 0 && (a1_1 == 0 && (a1_2.toList.isEmpty))) = false:=by simpa using c3))
  clear c3
  by_cases c6 : (l0.length : Int) > 0
  ·rw [if_pos c6] at H
   have c6b0 : decide (0 < (l0.length : Int)) = true:=decide_eq_true c6
   have c6b1 : decide (0 < l0.length) = true:=decide_eq_true (by omega)
   clear c6
   obtain ⟨ji7,hji7⟩ : ∃ j_ : Int,(wrap64 ((l0.length : Int) - 1)) = j_:=⟨_,rfl⟩
   replace H : (if 0 ≤ (ji7) then (if (ji7) < (l0.length : Int) then ((spec_l1Kind.f k ((rd_T74 l0 (ji7)).f0) ((rd_T74 l0 (ji7)).f1) ((rd_T74 l0 (ji7)).f2)).bind fun t158=>((spec_l1Kind.f k a1_0 a1_1 a1_2).bind fun t159=>(if t158 = t159 then (if ((rd_T74 l0 (ji7)).f2).size + a1_2.size ≤ 9223372036854775807 then (some (l0.set ((ji7) : Int).toNat (⟨wrap64 (((rd_T74 l0 (ji7)).f0) + a1_0),wrap64 (((rd_T74 l0 (ji7)).f1) + a1_1),((rd_T74 l0 (ji7)).f2) ++ a1_2⟩ : S74))) else (none)) else (if l0.length < 4398046511104 then (some (l0 ++ [(⟨a1_0,a1_1,a1_2⟩ : S74)])) else (none))))) else (none)) else (none)) = some r:=by first|(rw [hji7] at H;exact H)|(simp only [hji7] at H ⊢;exact H)
   have hji7w : (IntKind.i64.wrap ((l0.length : Int) - 1)) = ji7:=(i64_w _).trans hji7
   by_cases c8 : 0 ≤ (ji7)
   ·rw [if_pos c8] at H
    have c8b0 : decide (0 ≤ (ji7)) = true:=decide_eq_true c8
    clear c8
    by_cases c9 : (ji7) < (l0.length : Int)
    ·rw [if_pos c9] at H
     have c9b0 : decide ((ji7) < (l0.length : Int)) = true:=decide_eq_true c9
     clear c9
     replace H:=Option.bind_eq_some_iff.mp H
     obtain ⟨t158,A100,H⟩:=H
     replace H : ((spec_l1Kind.f k a1_0 a1_1 a1_2).bind fun t159=>(if t158 = t159 then (if ((rd_T74 l0 (ji7)).f2).size + a1_2.size ≤ 9223372036854775807 then (some (l0.set ((ji7) : Int).toNat (⟨wrap64 (((rd_T74 l0 (ji7)).f0) + a1_0),wrap64 (((rd_T74 l0 (ji7)).f1) + a1_1),((rd_T74 l0 (ji7)).f2) ++ a1_2⟩ : S74))) else (none)) else (if l0.length < 4398046511104 then (some (l0 ++ [(⟨a1_0,a1_1,a1_2⟩ : S74)])) else (none)))) = some r:=H
     have A10:=Aside0.mk A100
     clear A100
     replace H:=Option.bind_eq_some_iff.mp H
     obtain ⟨t159,A110,H⟩:=H
     replace H : (if t158 = t159 then (if ((rd_T74 l0 (ji7)).f2).size + a1_2.size ≤ 9223372036854775807 then (some (l0.set ((ji7) : Int).toNat (⟨wrap64 (((rd_T74 l0 (ji7)).f0) + a1_0),wrap64 (((rd_T74 l0 (ji7)).f1) + a1_1),((rd_T74 l0 (ji7)).f2) ++ a1_2⟩ : S74))) else (none)) else (if l0.length < 4398046511104 then (some (l0 ++ [(⟨a1_0,a1_1,a1_2⟩ : S74)])) else (none))) = some r:=H
     have A11:=Aside0.mk A110
     clear A110
     by_cases c12 : t158 = t159
     ·rw [if_pos c12] at H
      have c12b0 : (t158 == t159) = true:=beq_iff_eq.mpr c12
      have c12b1 : (t158 != t159) = false:=bne_eq_false_iff_eq.mpr c12
      clear c12
      by_cases c13 : ((rd_T74 l0 (ji7)).f2).size + a1_2.size ≤ 9223372036854775807
      ·rw [if_pos c13] at H
       have c13b0:=eq_true c13
       have c13b1 : decide (((rd_T74 l0 (ji7)).f2).size + a1_2.size ≤ 9223372036854775807) = true:=decide_eq_true c13
       try have c13b2 : (9223372036854775807 < ((rd_T74 l0 (ji7)).f2).size + a1_2.size) = False:=eq_false (Nat.not_lt.2 c13)
       obtain ⟨y163,hy163⟩ : ∃ y_ : List (S74),y_ = (l0.set ((ji7) : Int).toNat (⟨wrap64 (((rd_T74 l0 (ji7)).f0) + a1_0),wrap64 (((rd_T74 l0 (ji7)).f1) + a1_1),((rd_T74 l0 (ji7)).f2) ++ a1_2⟩ : S74)):=⟨_,rfl⟩
       replace H : (some y163) = some r:=by first|(rw [hy163];with_reducible exact H)|(have H2_:=(Option.bind_some _ _).symm.trans H;rw [hy163];with_reducible exact H2_)|(have H2_:=(Option.bind_some _ _).symm.trans H;with_reducible exact H2_)|with_reducible exact H|(rw [hy163];exact H)|exact H
       have Ny163:=Aside0.mk hy163
       clear hy163
       obtain rfl:=Option.some.inj H
       go_enter Try.func72,Try.ntmps72
       try go_wp2_with (first|((with_reducible refine gate_dst (N:=3) rfl ?_);refine box_event ?hg (N:=3) ?hd (cs:=#[.int .i64 a1_0,.int .i64 a1_1,.string a1_2]) (t:=74) ?hr ?_;(case hd=>rfl);(case hg=>rfl);(case hr=>first|(go_simp;done)|(go_simp;rfl));intro gb156 hg w15 hbox hb;have n0_:=Aside0.mk (Kd.R_below (Kd.R_elderB (by (with_reducible repeat (first|apply Kd.R_alloc|apply Kd.R_drewN|apply Kd.R_drew));exact HO0.out) gb156 (Nat.le_of_eq hg.symm)) hb);have n1_:=Aside0.mk (Kept.below (S:=(fun k_=>P0_ k_)) (by repeat (first|(with_reducible first|exact HK.out|apply Kept.alloc|apply Kept.drewN|apply Kept.drew)|exact HK.out)) hb);have n2_:=Aside0.mk (below_step (by repeat (first|exact HB.out|apply below_alloc|apply pw_below_drewN|apply below_drew1)) hb);have n3_:=Aside0.mk (hbox);have n4_:=Aside0.mk ((by rw [hg];exact (by first|exact HK.out.1|exact (show Kept w _ (fun k_=>P0_ k_) from by repeat (first|(with_reducible first|exact HK.out|apply Kept.alloc|apply Kept.drewN|apply Kept.drew)|exact HK.out)).1) : w.heap.size ≤ gb156));have n5_:=Aside0.mk ((by rw [hg];exact (below_size (by repeat (first|exact HB.out|apply below_alloc|apply pw_below_drewN|apply below_drew1))) : w0.heap.size ≤ gb156));clear HO0;clear HK;clear HB;have HO0:=n0_;have HK:=n1_;have HB:=n2_;have BK156:=n3_;have GW156:=n4_;have GE156:=n5_;clear n0_ n1_ n2_ n3_ n4_ n5_;clear hb hbox hg;have hcz16_0 : w15.cell? ⟨gb156,0,none⟩ = some (.int .i64 a1_0):=(blk_cell BK156.out 0).trans rfl;have hcz16_1 : w15.cell? ⟨gb156,1,none⟩ = some (.int .i64 a1_1):=(blk_cell BK156.out 1).trans rfl;have hcz16_2 : w15.cell? ⟨gb156,2,none⟩ = some (.string a1_2):=(blk_cell BK156.out 2).trans rfl;have hfz16_0:=blk_frozen BK156.out 0;have hfz16_1:=blk_frozen BK156.out 1;have hfz16_2:=blk_frozen BK156.out 2;obtain ⟨Ao17,co17,eo17⟩:=Kd.R_slice HO0.out;subst eo17))
       have n0_:=Aside0.mk (Kd.R_drew HO0.out)
       have n1_:=Aside0.mk (blk_drew BK156.out)
       have n2_:=Aside0.mk (Kept.drew HK.out)
       have n3_:=Aside0.mk (below_drew1 HB.out)
       clear HO0
       clear BK156
       clear HK
       clear HB
       have HO0:=n0_
       have BK156:=n1_
       have HK:=n2_
       have HB:=n3_
       clear n0_ n1_ n2_ n3_
       have p157 : 0 ≤ ((ji7) : Int):=of_decide_eq_true (by assumption)
       have q157 : (ji7) < (l0.length : Int):=of_decide_eq_true (by assumption)
       obtain ⟨ad157,e157,hx157_0,hx157_1,hx157_2⟩:=at_T74 (Kd.R_reads' HO0.out).2.2 (ji7) p157 q157
       cases e157
       replace p157:=eq_true p157
       replace q157:=eq_true q157
       refine start_ (n:=13) (S:=fun w'=>w'.cell? ⟨gb156,0,none⟩ = some (.int .i64 a1_0)∧w'.cell? ⟨gb156,1,none⟩ = some (.int .i64 a1_1)∧w'.cell? ⟨gb156,2,none⟩ = some (.string a1_2)∧w'.cell? (ad157.add (((ji7)).toNat * 3)) = some (.int .i64 ((rd_T74 l0 (ji7)).f0))∧w'.cell? ⟨(ad157.add (((ji7)).toNat * 3)).block,(ad157.add (((ji7)).toNat * 3)).off + 1,none⟩ = some (.int .i64 ((rd_T74 l0 (ji7)).f1))∧w'.cell? ⟨(ad157.add (((ji7)).toNat * 3)).block,(ad157.add (((ji7)).toNat * 3)).off + 2,none⟩ = some (.string ((rd_T74 l0 (ji7)).f2))) (ds:=[]) #[false,false,false,false,false,false,false,false,false,false,false,false,false] (by kernel_rfl) rfl rfl ⟨(blk_cell BK156.out 0).trans rfl,(blk_cell BK156.out 1).trans rfl,(blk_cell BK156.out 2).trans rfl,hx157_0,hx157_1,hx157_2⟩ (fun hHeld=>?_);refine with_tabW spec_l1Add.tab4 spec_l1Add.bits4 (fun HT_ HW_=>?_)
       generalize w15.drew = w18 at HO0 BK156 HK HB hx157_0 hx157_1 hx157_2 hHeld ⊢
       refine pure_ (i:=0) (N:=some 12) (v:=?_) (a':=?_) #[true,false,false,false,false,false,false,false,false,false,false,false,false] rfl rfl (any_of HT_.out (by kernel_rfl)) (fun _ _ _ h=>h) (Or.inl ⟨by rfl,?_⟩) ?_ ?_
       rotate_left
       ·intro w'
        go_simp
        with_reducible rfl
       rotate_left
       ·simp only [Act.put,List.setIfInBounds_toArray,List.set_cons_zero,List.set_cons_succ,i64_w,i32_w]
        rfl
       refine pure_ (i:=1) (N:=some 13) (v:=?_) (a':=?_) #[true,true,false,false,false,false,false,false,false,false,false,false,false] rfl rfl (any_of HT_.out (by kernel_rfl)) (fun _ _ _ h=>h) (Or.inl ⟨by rfl,?_⟩) ?_ ?_
       rotate_left
       ·intro w'
        go_simp
        with_reducible rfl
       rotate_left
       ·simp only [Act.put,List.setIfInBounds_toArray,List.set_cons_zero,List.set_cons_succ,i64_w,i32_w]
        rfl
       refine pure_ (i:=2) (N:=some 14) (v:=?_) (a':=?_) #[true,true,true,false,false,false,false,false,false,false,false,false,false] rfl rfl (any_of HT_.out (by kernel_rfl)) (fun _ _ _ h=>h) (Or.inl ⟨by rfl,?_⟩) ?_ ?_
       rotate_left
       ·intro w'
        go_simp
        with_reducible rfl
       rotate_left
       ·simp only [Act.put,List.setIfInBounds_toArray,List.set_cons_zero,List.set_cons_succ,i64_w,i32_w]
        rfl
       refine pure_ (i:=3) (N:=some 15) (v:=?_) (a':=?_) #[true,true,true,true,false,false,false,false,false,false,false,false,false] rfl rfl (any_of HT_.out (by kernel_rfl)) (fun _ _ _ h=>h) (Or.inl ⟨by rfl,?_⟩) ?_ ?_
       rotate_left
       ·intro w'
        go_simp
        with_reducible rfl
       rotate_left
       ·simp only [Act.put,List.setIfInBounds_toArray,List.set_cons_zero,List.set_cons_succ,i64_w,i32_w]
        rfl
       refine pure_ (i:=4) (N:=some 16) (v:=?_) (a':=?_) #[true,true,true,true,true,false,false,false,false,false,false,false,false] rfl rfl (any_of HT_.out (by kernel_rfl)) (fun _ _ _ h=>h) (Or.inl ⟨by rfl,?_⟩) ?_ ?_
       rotate_left
       ·intro w'
        go_simp
        with_reducible rfl
       rotate_left
       ·simp only [Act.put,List.setIfInBounds_toArray,List.set_cons_zero,List.set_cons_succ,i64_w,i32_w]
        rfl
       refine pure_ (i:=5) (N:=some 17) (v:=?_) (a':=?_) #[true,true,true,true,true,true,false,false,false,false,false,false,false] rfl rfl (any_of HT_.out (by kernel_rfl)) (fun _ _ _ h=>h) (Or.inl ⟨by rfl,?_⟩) ?_ ?_
       rotate_left
       ·intro w'
        go_simp
        with_reducible rfl
       rotate_left
       ·simp only [Act.put,List.setIfInBounds_toArray,List.set_cons_zero,List.set_cons_succ,i64_w,i32_w]
        rfl
       refine pure_ (i:=6) (N:=some 18) (v:=?_) (a':=?_) #[true,true,true,true,true,true,true,false,false,false,false,false,false] rfl rfl (any_of HT_.out (by kernel_rfl)) (fun _ _ _ h=>h) (Or.inl ⟨by rfl,?_⟩) ?_ ?_
       rotate_left
       ·intro w'
        go_simp
        with_reducible rfl
       rotate_left
       ·simp only [Act.put,List.setIfInBounds_toArray,List.set_cons_zero,List.set_cons_succ,i64_w,i32_w]
        rfl
       refine take_ (i:=7) (N:=some 19) (v:=?_) (a':=?_) #[true,true,true,true,true,true,true,true,false,false,false,false,false] rfl rfl (take_ofW HT_.out HW_.out (by kernel_rfl)) (fun _ _ _ h=>h) (Or.inl ⟨by rfl,?_⟩) hHeld ?_ ?_
       rotate_left
       ·rintro w' ⟨s0,s1,s2,s3,s4,s5⟩
        go_simp
        with_reducible rfl
       rotate_left
       ·simp only [Act.put,List.setIfInBounds_toArray,List.set_cons_zero,List.set_cons_succ,i64_w,i32_w]
        rfl
       refine take_ (i:=9) (N:=some 21) (v:=?_) (a':=?_) #[true,true,true,true,true,true,true,true,false,true,false,false,false] rfl rfl (take_ofW HT_.out HW_.out (by kernel_rfl)) (fun _ _ _ h=>h) (Or.inl ⟨by rfl,?_⟩) hHeld ?_ ?_
       rotate_left
       ·rintro w' ⟨s0,s1,s2,s3,s4,s5⟩
        go_simp
        with_reducible rfl
       rotate_left
       ·simp only [Act.put,List.setIfInBounds_toArray,List.set_cons_zero,List.set_cons_succ,i64_w,i32_w]
        rfl
       refine one_ (i:=8) (N:=some 20) #[true,true,true,true,true,true,true,true,true,true,false,false,false] rfl rfl (one_of HT_.out (by kernel_rfl)) (by decide) (fun K hK=>?_)
       refine goes_ Try.func56 (by kernel_rfl) rfl #[.agg #[.int .i64 ((rd_T74 l0 (ji7)).f0),.int .i64 ((rd_T74 l0 (ji7)).f1),.string ((rd_T74 l0 (ji7)).f2)]] (by rfl) rfl rfl (by (try simp only [List.map_toArray,List.map_cons,List.map_nil]);first|done|(simp only [hji7];rfl)|rfl|(simp only [List.length_drop,List.length_take];rfl)) ?_
       with_reducible refine (spec_l1Kind.calls k ((rd_T74 l0 (ji7)).f0) ((rd_T74 l0 (ji7)).f1) ((rd_T74 l0 (ji7)).f2) t158 _ A10.out).mono ?_
       rintro e w19 ⟨rfl,hb⟩
       have HS3_:=(hb.cell (World.block_lt_of_cell? _ _ (hHeld.2.2.2.1))).trans (hHeld.2.2.2.1)
       have HS4_:=(hb.cell (World.block_lt_of_cell? _ _ (hHeld.2.2.2.2.1))).trans (hHeld.2.2.2.2.1)
       have HS5_:=(hb.cell (World.block_lt_of_cell? _ _ (hHeld.2.2.2.2.2))).trans (hHeld.2.2.2.2.2)
       refine ⟨_,rfl,?_⟩
       have n0_:=Aside0.mk (Kd.R_below (by (with_reducible repeat (first|apply Kd.R_alloc|apply Kd.R_drewN|apply Kd.R_drew));exact HO0.out) hb)
       have n1_:=Aside0.mk (blk_below (g:=gb156) (o:=.cells #[.int .i64 a1_0,.int .i64 a1_1,.string a1_2] 74 (0,0)) (by (with_reducible repeat first|apply blk_drewN|apply blk_drew|apply blk_alloc);exact BK156.out) hb)
       have n2_:=Aside0.mk (Kept.below (S:=(fun k_=>P0_ k_)) (by repeat (first|(with_reducible first|exact HK.out|apply Kept.alloc|apply Kept.drewN|apply Kept.drew|refine Kept.setCell ?_ (.inr GW156.out) _)|exact HK.out)) hb)
       have n3_:=Aside0.mk (below_step (by repeat (first|(with_reducible first|exact HB.out|apply below_alloc|apply pw_below_drewN|apply below_drew1|refine below_set ?_ GE156.out)|exact HB.out)) hb)
       clear HO0
       clear BK156
       clear HK
       clear HB
       have HO0:=n0_
       have BK156:=n1_
       have HK:=n2_
       have HB:=n3_
       clear n0_ n1_ n2_ n3_
       (try clear hb)
       (try clear hb2)
       (try clear hk)
       (try clear hi)
       refine hK.out _ _ ⟨(blk_cell BK156.out 0).trans rfl,(blk_cell BK156.out 1).trans rfl,(blk_cell BK156.out 2).trans rfl,HS3_,HS4_,HS5_⟩ (fun hHeld=>?_)
       clear hK K
       refine norm_ (a':=?_) ?_ ?_
       rotate_left
       ·show Act.put _ (some 20) _ = _
        simp only [Act.put,List.setIfInBounds_toArray,List.set_cons_zero,List.set_cons_succ,i64_w,i32_w]
        rfl
       refine one_ (i:=10) (N:=some 22) #[true,true,true,true,true,true,true,true,true,true,true,false,false] rfl rfl (one_of HT_.out (by kernel_rfl)) (by decide) (fun K hK=>?_)
       refine goes_ Try.func56 (by kernel_rfl) rfl #[.agg #[.int .i64 a1_0,.int .i64 a1_1,.string a1_2]] (by rfl) rfl rfl (by (try simp only [List.map_toArray,List.map_cons,List.map_nil]);first|done|rfl|(simp only [List.length_drop,List.length_take];rfl)) ?_
       with_reducible refine (spec_l1Kind.calls k a1_0 a1_1 a1_2 t159 _ A11.out).mono ?_
       rintro e w20 ⟨rfl,hb⟩
       have HS3_:=(hb.cell (World.block_lt_of_cell? _ _ (hHeld.2.2.2.1))).trans (hHeld.2.2.2.1)
       have HS4_:=(hb.cell (World.block_lt_of_cell? _ _ (hHeld.2.2.2.2.1))).trans (hHeld.2.2.2.2.1)
       have HS5_:=(hb.cell (World.block_lt_of_cell? _ _ (hHeld.2.2.2.2.2))).trans (hHeld.2.2.2.2.2)
       refine ⟨_,rfl,?_⟩
       have n0_:=Aside0.mk (Kd.R_below (by (with_reducible repeat (first|apply Kd.R_alloc|apply Kd.R_drewN|apply Kd.R_drew));exact HO0.out) hb)
       have n1_:=Aside0.mk (blk_below (g:=gb156) (o:=.cells #[.int .i64 a1_0,.int .i64 a1_1,.string a1_2] 74 (0,0)) (by (with_reducible repeat first|apply blk_drewN|apply blk_drew|apply blk_alloc);exact BK156.out) hb)
       have n2_:=Aside0.mk (Kept.below (S:=(fun k_=>P0_ k_)) (by repeat (first|(with_reducible first|exact HK.out|apply Kept.alloc|apply Kept.drewN|apply Kept.drew|refine Kept.setCell ?_ (.inr GW156.out) _)|exact HK.out)) hb)
       have n3_:=Aside0.mk (below_step (by repeat (first|(with_reducible first|exact HB.out|apply below_alloc|apply pw_below_drewN|apply below_drew1|refine below_set ?_ GE156.out)|exact HB.out)) hb)
       clear HO0
       clear BK156
       clear HK
       clear HB
       have HO0:=n0_
       have BK156:=n1_
       have HK:=n2_
       have HB:=n3_
       clear n0_ n1_ n2_ n3_
       (try clear hb)
       (try clear hb2)
       (try clear hk)
       (try clear hi)
       refine hK.out _ _ ⟨(blk_cell BK156.out 0).trans rfl,(blk_cell BK156.out 1).trans rfl,(blk_cell BK156.out 2).trans rfl,HS3_,HS4_,HS5_⟩ (fun hHeld=>?_)
       clear hK K
       refine norm_ (a':=?_) ?_ ?_
       rotate_left
       ·show Act.put _ (some 22) _ = _
        simp only [Act.put,List.setIfInBounds_toArray,List.set_cons_zero,List.set_cons_succ,i64_w,i32_w]
        rfl
       refine pure_ (i:=11) (N:=some 23) (v:=?_) (a':=?_) #[true,true,true,true,true,true,true,true,true,true,true,true,false] rfl rfl (any_of HT_.out (by kernel_rfl)) (fun _ _ _ h=>h) (Or.inl ⟨by rfl,?_⟩) ?_ ?_
       rotate_left
       ·intro w'
        go_simp
        with_reducible rfl
       rotate_left
       ·simp only [Act.put,List.setIfInBounds_toArray,List.set_cons_zero,List.set_cons_succ,i64_w,i32_w]
        rfl
       refine pure_ (i:=12) (N:=some 24) (v:=?_) (a':=?_) #[true,true,true,true,true,true,true,true,true,true,true,true,true] rfl rfl (any_of HT_.out (by kernel_rfl)) (fun _ _ _ h=>h) (Or.inl ⟨by rfl,?_⟩) ?_ ?_
       rotate_left
       ·intro w'
        go_simp
        with_reducible rfl
       rotate_left
       ·simp only [Act.put,List.setIfInBounds_toArray,List.set_cons_zero,List.set_cons_succ,i64_w,i32_w]
        rfl
       refine done_ (done_of HT_.out (by kernel_rfl)) ?_
       try go_wp2
       have n0_:=Aside0.mk (Kd.R_drew HO0.out)
       have n1_:=Aside0.mk (blk_drew BK156.out)
       have n2_:=Aside0.mk (Kept.drew HK.out)
       have n3_:=Aside0.mk (below_drew1 HB.out)
       clear HO0
       clear BK156
       clear HK
       clear HB
       have HO0:=n0_
       have BK156:=n1_
       have HK:=n2_
       have HB:=n3_
       clear n0_ n1_ n2_ n3_
       have p160 : 0 ≤ ((ji7) : Int):=of_decide_eq_true (by assumption)
       have q160 : (ji7) < (l0.length : Int):=of_decide_eq_true (by assumption)
       obtain ⟨ad160,e160,hx160_0,hx160_1,hx160_2⟩:=at_T74 (Kd.R_reads' HO0.out).2.2 (ji7) p160 q160
       obtain rfl : ad157 = ad160:=(by injection e160)
       replace p160:=eq_true p160
       replace q160:=eq_true q160
       have p161 : 0 ≤ ((ji7) : Int):=of_decide_eq_true (by assumption)
       have q161 : (ji7) < (l0.length : Int):=of_decide_eq_true (by assumption)
       obtain ⟨ad161,e161,hx161_0,hx161_1,hx161_2⟩:=at_T74 (Kd.R_reads' HO0.out).2.2 (ji7) p161 q161
       obtain rfl : ad157 = ad161:=(by injection e161)
       replace p161:=eq_true p161
       replace q161:=eq_true q161
       have p162 : 0 ≤ ((ji7) : Int):=of_decide_eq_true (by assumption)
       have q162 : (ji7) < (l0.length : Int):=of_decide_eq_true (by assumption)
       obtain ⟨ad162,e162,hx162_0,hx162_1,hx162_2⟩:=at_T74 (Kd.R_reads' HO0.out).2.2 (ji7) p162 q162
       obtain rfl : ad157 = ad162:=(by injection e162)
       replace p162:=eq_true p162
       replace q162:=eq_true q162
       have p14 : 0 ≤ ((ji7) : Int):=of_decide_eq_true (by assumption)
       have q14 : ((ji7) : Int) < ((l0.length : Int) : Int):=of_decide_eq_true (by assumption)
       obtain ⟨go14,co14,eo14,gb14,gl14,cl14,HG14⟩:=Kd.R_form HO0.out (by omega)
       (first|cases eo14|(injection eo14 with ea_ en_ ec_;(first|subst ea_|(injection ea_ with ea_;subst ea_));subst ec_;clear en_))
       have GB14:=Aside0.mk gb14
       have GG14:=Aside0.mk HG14
       clear gb14 gl14 HG14
       have HMgo14:=Aside0.mk (show (P0_ go14 ∨ w.heap.size ≤ go14) from (HO0.out.1 _ rfl).1)
       (first|simp only [add_plain] at hx157_0|skip)
       (first|simp only [add_plain] at hx157_1|skip)
       (first|simp only [add_plain] at hx157_2|skip)
       (first|simp only [add_plain] at hx160_0|skip)
       (first|simp only [add_plain] at hx160_1|skip)
       (first|simp only [add_plain] at hx160_2|skip)
       (first|simp only [add_plain] at hx161_0|skip)
       (first|simp only [add_plain] at hx161_1|skip)
       (first|simp only [add_plain] at hx161_2|skip)
       (first|simp only [add_plain] at hx162_0|skip)
       (first|simp only [add_plain] at hx162_1|skip)
       (first|simp only [add_plain] at hx162_2|skip)
       obtain ⟨ce14,hcl14,hM14,hcc14,hfr14⟩:=Kd.R_elem HO0.out z74 ((ji7) : Int) p14 q14
       obtain rfl:=k74_openM hM14
       have hx14_0 : World.cell? _ ⟨go14,((ji7) : Int).toNat * 3,none⟩ = some (.int .i64 ((rd_T74 l0 (ji7)).f0)):=hcc14 0 _ rfl
       have hx14_1 : World.cell? _ ⟨go14,((ji7) : Int).toNat * 3 + 1,none⟩ = some (.int .i64 ((rd_T74 l0 (ji7)).f1)):=hcc14 1 _ rfl
       have hx14_2 : World.cell? _ ⟨go14,((ji7) : Int).toNat * 3 + 2,none⟩ = some (.string ((rd_T74 l0 (ji7)).f2)):=hcc14 2 _ rfl
       have hf14_0 : World.frozen? _ ⟨go14,((ji7) : Int).toNat * 3,none⟩ = false:=hfr14 0
       have hf14_1 : World.frozen? _ ⟨go14,((ji7) : Int).toNat * 3 + 1,none⟩ = false:=hfr14 1
       have hf14_2 : World.frozen? _ ⟨go14,((ji7) : Int).toNat * 3 + 2,none⟩ = false:=hfr14 2
       (try clear hM14);clear hcl14 hcc14 hfr14
       replace p14:=eq_true p14
       replace q14:=eq_true q14
       obtain ⟨ce22,hcl22,hM22,hcc22,hfr22⟩:=Kd.R_elem HO0.out z74 ((ji7) : Int) (of_decide_eq_true (by assumption)) (by have h_ : ((ji7) : Int) < ((l0.length : Int) : Int):=of_decide_eq_true (by assumption);first|exact h_|(have e_:=(Kd.R_reads' HO0.out).1;omega)|simpa using h_)
       obtain rfl:=k74_openM hM22
       have HP22:=(Kd.R_seg HO0.out ((ji7) : Int) (of_decide_eq_true (by assumption)) (by have h_ : ((ji7) : Int) < ((l0.length : Int) : Int):=of_decide_eq_true (by assumption);first|exact h_|(have e_:=(Kd.R_reads' HO0.out).1;omega)|simpa using h_) (seg:=[.int .i64 (wrap64 (((rd_T74 l0 (ji7)).f0) + a1_0)),.int .i64 (wrap64 (((rd_T74 l0 (ji7)).f1) + a1_1)),.string (((rd_T74 l0 (ji7)).f2) ++ a1_2)]) (j:=0) hcl22 hcc22 (show 3 ≤ 3 from by decide) (x':=(⟨wrap64 (((rd_T74 l0 (ji7)).f0) + a1_0),wrap64 (((rd_T74 l0 (ji7)).f1) + a1_1),((rd_T74 l0 (ji7)).f2) ++ a1_2⟩ : S74)) (k74_mkM _ _ _ (⟨wrap64 (((rd_T74 l0 (ji7)).f0) + a1_0),wrap64 (((rd_T74 l0 (ji7)).f1) + a1_1),((rd_T74 l0 (ji7)).f2) ++ a1_2⟩ : S74) ) (fun _ hk=>hk)).1
       rw [← Ny163.out] at HP22
       have HQ22:=Aside0.mk HP22
       (try clear hM22);clear hcl22 hcc22 hfr22 HP22
       refine start_ (n:=33) (S:=fun w'=>w'.cell? ⟨gb156,0,none⟩ = some (.int .i64 a1_0)∧w'.cell? ⟨gb156,1,none⟩ = some (.int .i64 a1_1)∧w'.cell? ⟨gb156,2,none⟩ = some (.string a1_2)∧w'.cell? ⟨go14,(((ji7)).toNat * 3),none⟩ = some (.int .i64 ((rd_T74 l0 (ji7)).f0))∧w'.cell? ⟨go14,(((ji7)).toNat * 3) + 1,none⟩ = some (.int .i64 ((rd_T74 l0 (ji7)).f1))∧w'.cell? ⟨go14,(((ji7)).toNat * 3) + 2,none⟩ = some (.string ((rd_T74 l0 (ji7)).f2))∧w'.cell? ⟨go14,(((ji7)).toNat * 3),none⟩ = some (.int .i64 ((rd_T74 l0 (ji7)).f0))∧w'.cell? ⟨go14,(((ji7)).toNat * 3) + 1,none⟩ = some (.int .i64 ((rd_T74 l0 (ji7)).f1))∧w'.cell? ⟨go14,(((ji7)).toNat * 3) + 2,none⟩ = some (.string ((rd_T74 l0 (ji7)).f2))∧w'.cell? ⟨go14,(((ji7)).toNat * 3),none⟩ = some (.int .i64 ((rd_T74 l0 (ji7)).f0))∧w'.cell? ⟨go14,(((ji7)).toNat * 3) + 1,none⟩ = some (.int .i64 ((rd_T74 l0 (ji7)).f1))∧w'.cell? ⟨go14,(((ji7)).toNat * 3) + 2,none⟩ = some (.string ((rd_T74 l0 (ji7)).f2))) (ds:=[32]) #[false,false,false,false,false,false,false,false,false,false,false,false,false,false,false,false,false,false,false,false,false,false,false,false,false,false,false,false,false,false,false,false,false] (by kernel_rfl) rfl rfl ⟨(blk_cell BK156.out 0).trans rfl,(blk_cell BK156.out 1).trans rfl,(blk_cell BK156.out 2).trans rfl,hx160_0,hx160_1,hx160_2,hx161_0,hx161_1,hx161_2,hx162_0,hx162_1,hx162_2⟩ (fun hHeld=>?_);refine with_tabW spec_l1Add.tab5 spec_l1Add.bits5 (fun HT_ HW_=>?_)
       generalize w20.drew = w21 at HO0 BK156 HK HB GG14 HQ22 hf14_0 hf14_1 hf14_2 hx14_0 hx14_1 hx14_2 hx157_0 hx157_1 hx157_2 hx160_0 hx160_1 hx160_2 hx161_0 hx161_1 hx161_2 hx162_0 hx162_1 hx162_2 hHeld ⊢
       refine pure_ (i:=0) (N:=some 25) (v:=?_) (a':=?_) #[true,false,false,false,false,false,false,false,false,false,false,false,false,false,false,false,false,false,false,false,false,false,false,false,false,false,false,false,false,false,false,false,false] rfl rfl (any_of HT_.out (by kernel_rfl)) (fun _ _ _ h=>h) (Or.inl ⟨by rfl,?_⟩) ?_ ?_
       rotate_left
       ·intro w'
        go_simp
        with_reducible rfl
       rotate_left
       ·simp only [Act.put,List.setIfInBounds_toArray,List.set_cons_zero,List.set_cons_succ,i64_w,i32_w]
        rfl
       refine pure_ (i:=1) (N:=some 26) (v:=?_) (a':=?_) #[true,true,false,false,false,false,false,false,false,false,false,false,false,false,false,false,false,false,false,false,false,false,false,false,false,false,false,false,false,false,false,false,false] rfl rfl (any_of HT_.out (by kernel_rfl)) (fun _ _ _ h=>h) (Or.inl ⟨by rfl,?_⟩) ?_ ?_
       rotate_left
       ·intro w'
        go_simp
        with_reducible rfl
       rotate_left
       ·simp only [Act.put,List.setIfInBounds_toArray,List.set_cons_zero,List.set_cons_succ,i64_w,i32_w]
        rfl
       refine pure_ (i:=2) (N:=some 27) (v:=?_) (a':=?_) #[true,true,true,false,false,false,false,false,false,false,false,false,false,false,false,false,false,false,false,false,false,false,false,false,false,false,false,false,false,false,false,false,false] rfl rfl (any_of HT_.out (by kernel_rfl)) (fun _ _ _ h=>h) (Or.inl ⟨by rfl,?_⟩) ?_ ?_
       rotate_left
       ·intro w'
        go_simp
        with_reducible rfl
       rotate_left
       ·simp only [Act.put,List.setIfInBounds_toArray,List.set_cons_zero,List.set_cons_succ,i64_w,i32_w]
        rfl
       refine pure_ (i:=3) (N:=some 28) (v:=?_) (a':=?_) #[true,true,true,true,false,false,false,false,false,false,false,false,false,false,false,false,false,false,false,false,false,false,false,false,false,false,false,false,false,false,false,false,false] rfl rfl (any_of HT_.out (by kernel_rfl)) (fun _ _ _ h=>h) (Or.inl ⟨by rfl,?_⟩) ?_ ?_
       rotate_left
       ·intro w'
        go_simp
        with_reducible rfl
       rotate_left
       ·simp only [Act.put,List.setIfInBounds_toArray,List.set_cons_zero,List.set_cons_succ,i64_w,i32_w]
        rfl
       refine pure_ (i:=4) (N:=some 29) (v:=?_) (a':=?_) #[true,true,true,true,true,false,false,false,false,false,false,false,false,false,false,false,false,false,false,false,false,false,false,false,false,false,false,false,false,false,false,false,false] rfl rfl (any_of HT_.out (by kernel_rfl)) (fun _ _ _ h=>h) (Or.inl ⟨by rfl,?_⟩) ?_ ?_
       rotate_left
       ·intro w'
        go_simp
        with_reducible rfl
       rotate_left
       ·simp only [Act.put,List.setIfInBounds_toArray,List.set_cons_zero,List.set_cons_succ,i64_w,i32_w]
        rfl
       refine pure_ (i:=5) (N:=some 30) (v:=?_) (a':=?_) #[true,true,true,true,true,true,false,false,false,false,false,false,false,false,false,false,false,false,false,false,false,false,false,false,false,false,false,false,false,false,false,false,false] rfl rfl (any_of HT_.out (by kernel_rfl)) (fun _ _ _ h=>h) (Or.inl ⟨by rfl,?_⟩) ?_ ?_
       rotate_left
       ·intro w'
        go_simp
        with_reducible rfl
       rotate_left
       ·simp only [Act.put,List.setIfInBounds_toArray,List.set_cons_zero,List.set_cons_succ,i64_w,i32_w]
        rfl
       refine pure_ (i:=6) (N:=some 31) (v:=?_) (a':=?_) #[true,true,true,true,true,true,true,false,false,false,false,false,false,false,false,false,false,false,false,false,false,false,false,false,false,false,false,false,false,false,false,false,false] rfl rfl (any_of HT_.out (by kernel_rfl)) (fun _ _ _ h=>h) (Or.inl ⟨by rfl,?_⟩) ?_ ?_
       rotate_left
       ·intro w'
        go_simp
        with_reducible rfl
       rotate_left
       ·simp only [Act.put,List.setIfInBounds_toArray,List.set_cons_zero,List.set_cons_succ,i64_w,i32_w]
        rfl
       refine pure_ (i:=7) (N:=some 32) (v:=?_) (a':=?_) #[true,true,true,true,true,true,true,true,false,false,false,false,false,false,false,false,false,false,false,false,false,false,false,false,false,false,false,false,false,false,false,false,false] rfl rfl (any_of HT_.out (by kernel_rfl)) (fun _ _ _ h=>h) (Or.inl ⟨by rfl,?_⟩) ?_ ?_
       rotate_left
       ·intro w'
        go_simp
        with_reducible rfl
       rotate_left
       ·simp only [Act.put,List.setIfInBounds_toArray,List.set_cons_zero,List.set_cons_succ,i64_w,i32_w]
        rfl
       refine pure_ (i:=9) (N:=some 34) (v:=?_) (a':=?_) #[true,true,true,true,true,true,true,true,false,true,false,false,false,false,false,false,false,false,false,false,false,false,false,false,false,false,false,false,false,false,false,false,false] rfl rfl (any_of HT_.out (by kernel_rfl)) (fun _ _ _ h=>h) (Or.inl ⟨by rfl,?_⟩) ?_ ?_
       rotate_left
       ·intro w'
        go_simp
        with_reducible rfl
       rotate_left
       ·simp only [Act.put,List.setIfInBounds_toArray,List.set_cons_zero,List.set_cons_succ,i64_w,i32_w]
        rfl
       refine pure_ (i:=12) (N:=some 37) (v:=?_) (a':=?_) #[true,true,true,true,true,true,true,true,false,true,false,false,true,false,false,false,false,false,false,false,false,false,false,false,false,false,false,false,false,false,false,false,false] rfl rfl (any_of HT_.out (by kernel_rfl)) (fun _ _ _ h=>h) (Or.inl ⟨by rfl,?_⟩) ?_ ?_
       rotate_left
       ·intro w'
        go_simp
        with_reducible rfl
       rotate_left
       ·simp only [Act.put,List.setIfInBounds_toArray,List.set_cons_zero,List.set_cons_succ,i64_w,i32_w]
        rfl
       refine pure_ (i:=13) (N:=some 38) (v:=?_) (a':=?_) #[true,true,true,true,true,true,true,true,false,true,false,false,true,true,false,false,false,false,false,false,false,false,false,false,false,false,false,false,false,false,false,false,false] rfl rfl (any_of HT_.out (by kernel_rfl)) (fun _ _ _ h=>h) (Or.inl ⟨by rfl,?_⟩) ?_ ?_
       rotate_left
       ·intro w'
        go_simp
        with_reducible rfl
       rotate_left
       ·simp only [Act.put,List.setIfInBounds_toArray,List.set_cons_zero,List.set_cons_succ,i64_w,i32_w]
        rfl
       refine pure_ (i:=14) (N:=some 39) (v:=?_) (a':=?_) #[true,true,true,true,true,true,true,true,false,true,false,false,true,true,true,false,false,false,false,false,false,false,false,false,false,false,false,false,false,false,false,false,false] rfl rfl (any_of HT_.out (by kernel_rfl)) (fun _ _ _ h=>h) (Or.inl ⟨by rfl,?_⟩) ?_ ?_
       rotate_left
       ·intro w'
        go_simp
        with_reducible rfl
       rotate_left
       ·simp only [Act.put,List.setIfInBounds_toArray,List.set_cons_zero,List.set_cons_succ,i64_w,i32_w]
        rfl
       refine pure_ (i:=15) (N:=some 40) (v:=?_) (a':=?_) #[true,true,true,true,true,true,true,true,false,true,false,false,true,true,true,true,false,false,false,false,false,false,false,false,false,false,false,false,false,false,false,false,false] rfl rfl (any_of HT_.out (by kernel_rfl)) (fun _ _ _ h=>h) (Or.inl ⟨by rfl,?_⟩) ?_ ?_
       rotate_left
       ·intro w'
        go_simp
        with_reducible rfl
       rotate_left
       ·simp only [Act.put,List.setIfInBounds_toArray,List.set_cons_zero,List.set_cons_succ,i64_w,i32_w]
        rfl
       refine pure_ (i:=16) (N:=some 41) (v:=?_) (a':=?_) #[true,true,true,true,true,true,true,true,false,true,false,false,true,true,true,true,true,false,false,false,false,false,false,false,false,false,false,false,false,false,false,false,false] rfl rfl (any_of HT_.out (by kernel_rfl)) (fun _ _ _ h=>h) (Or.inl ⟨by rfl,?_⟩) ?_ ?_
       rotate_left
       ·intro w'
        go_simp
        with_reducible rfl
       rotate_left
       ·simp only [Act.put,List.setIfInBounds_toArray,List.set_cons_zero,List.set_cons_succ,i64_w,i32_w]
        rfl
       refine pure_ (i:=18) (N:=some 43) (v:=?_) (a':=?_) #[true,true,true,true,true,true,true,true,false,true,false,false,true,true,true,true,true,false,true,false,false,false,false,false,false,false,false,false,false,false,false,false,false] rfl rfl (any_of HT_.out (by kernel_rfl)) (fun _ _ _ h=>h) (Or.inl ⟨by rfl,?_⟩) ?_ ?_
       rotate_left
       ·intro w'
        go_simp
        with_reducible rfl
       rotate_left
       ·simp only [Act.put,List.setIfInBounds_toArray,List.set_cons_zero,List.set_cons_succ,i64_w,i32_w]
        rfl
       refine pure_ (i:=21) (N:=some 46) (v:=?_) (a':=?_) #[true,true,true,true,true,true,true,true,false,true,false,false,true,true,true,true,true,false,true,false,false,true,false,false,false,false,false,false,false,false,false,false,false] rfl rfl (any_of HT_.out (by kernel_rfl)) (fun _ _ _ h=>h) (Or.inl ⟨by rfl,?_⟩) ?_ ?_
       rotate_left
       ·intro w'
        go_simp
        with_reducible rfl
       rotate_left
       ·simp only [Act.put,List.setIfInBounds_toArray,List.set_cons_zero,List.set_cons_succ,i64_w,i32_w]
        rfl
       refine pure_ (i:=22) (N:=some 47) (v:=?_) (a':=?_) #[true,true,true,true,true,true,true,true,false,true,false,false,true,true,true,true,true,false,true,false,false,true,true,false,false,false,false,false,false,false,false,false,false] rfl rfl (any_of HT_.out (by kernel_rfl)) (fun _ _ _ h=>h) (Or.inl ⟨by rfl,?_⟩) ?_ ?_
       rotate_left
       ·intro w'
        go_simp
        with_reducible rfl
       rotate_left
       ·simp only [Act.put,List.setIfInBounds_toArray,List.set_cons_zero,List.set_cons_succ,i64_w,i32_w]
        rfl
       refine pure_ (i:=23) (N:=some 48) (v:=?_) (a':=?_) #[true,true,true,true,true,true,true,true,false,true,false,false,true,true,true,true,true,false,true,false,false,true,true,true,false,false,false,false,false,false,false,false,false] rfl rfl (any_of HT_.out (by kernel_rfl)) (fun _ _ _ h=>h) (Or.inl ⟨by rfl,?_⟩) ?_ ?_
       rotate_left
       ·intro w'
        go_simp
        with_reducible rfl
       rotate_left
       ·simp only [Act.put,List.setIfInBounds_toArray,List.set_cons_zero,List.set_cons_succ,i64_w,i32_w]
        rfl
       refine pure_ (i:=24) (N:=some 49) (v:=?_) (a':=?_) #[true,true,true,true,true,true,true,true,false,true,false,false,true,true,true,true,true,false,true,false,false,true,true,true,true,false,false,false,false,false,false,false,false] rfl rfl (any_of HT_.out (by kernel_rfl)) (fun _ _ _ h=>h) (Or.inl ⟨by rfl,?_⟩) ?_ ?_
       rotate_left
       ·intro w'
        go_simp
        with_reducible rfl
       rotate_left
       ·simp only [Act.put,List.setIfInBounds_toArray,List.set_cons_zero,List.set_cons_succ,i64_w,i32_w]
        rfl
       refine pure_ (i:=25) (N:=some 50) (v:=?_) (a':=?_) #[true,true,true,true,true,true,true,true,false,true,false,false,true,true,true,true,true,false,true,false,false,true,true,true,true,true,false,false,false,false,false,false,false] rfl rfl (any_of HT_.out (by kernel_rfl)) (fun _ _ _ h=>h) (Or.inl ⟨by rfl,?_⟩) ?_ ?_
       rotate_left
       ·intro w'
        go_simp
        with_reducible rfl
       rotate_left
       ·simp only [Act.put,List.setIfInBounds_toArray,List.set_cons_zero,List.set_cons_succ,i64_w,i32_w]
        rfl
       refine pure_ (i:=27) (N:=some 52) (v:=?_) (a':=?_) #[true,true,true,true,true,true,true,true,false,true,false,false,true,true,true,true,true,false,true,false,false,true,true,true,true,true,false,true,false,false,false,false,false] rfl rfl (any_of HT_.out (by kernel_rfl)) (fun _ _ _ h=>h) (Or.inl ⟨by rfl,?_⟩) ?_ ?_
       rotate_left
       ·intro w'
        go_simp
        with_reducible rfl
       rotate_left
       ·simp only [Act.put,List.setIfInBounds_toArray,List.set_cons_zero,List.set_cons_succ,i64_w,i32_w]
        rfl
       refine take_ (i:=8) (N:=some 33) (v:=?_) (a':=?_) #[true,true,true,true,true,true,true,true,true,true,false,false,true,true,true,true,true,false,true,false,false,true,true,true,true,true,false,true,false,false,false,false,false] rfl rfl (take_ofW HT_.out HW_.out (by kernel_rfl)) (fun _ _ _ h=>h) (Or.inl ⟨by rfl,?_⟩) hHeld ?_ ?_
       rotate_left
       ·rintro w' ⟨s0,s1,s2,s3,s4,s5,s6,s7,s8,s9,s10,s11⟩
        go_simp
        with_reducible rfl
       rotate_left
       ·simp only [Act.put,List.setIfInBounds_toArray,List.set_cons_zero,List.set_cons_succ,i64_w,i32_w]
        rfl
       refine take_ (i:=10) (N:=some 35) (v:=?_) (a':=?_) #[true,true,true,true,true,true,true,true,true,true,true,false,true,true,true,true,true,false,true,false,false,true,true,true,true,true,false,true,false,false,false,false,false] rfl rfl (take_ofW HT_.out HW_.out (by kernel_rfl)) (fun _ _ _ h=>h) (Or.inl ⟨by rfl,?_⟩) hHeld ?_ ?_
       rotate_left
       ·rintro w' ⟨s0,s1,s2,s3,s4,s5,s6,s7,s8,s9,s10,s11⟩
        go_simp
        with_reducible rfl
       rotate_left
       ·simp only [Act.put,List.setIfInBounds_toArray,List.set_cons_zero,List.set_cons_succ,i64_w,i32_w]
        rfl
       refine pure_ (i:=11) (N:=some 36) (v:=?_) (a':=?_) #[true,true,true,true,true,true,true,true,true,true,true,true,true,true,true,true,true,false,true,false,false,true,true,true,true,true,false,true,false,false,false,false,false] rfl rfl (any_of HT_.out (by kernel_rfl)) (fun _ _ _ h=>h) (Or.inl ⟨by rfl,?_⟩) ?_ ?_
       rotate_left
       ·intro w'
        go_simp
        with_reducible rfl
       rotate_left
       ·simp only [Act.put,List.setIfInBounds_toArray,List.set_cons_zero,List.set_cons_succ,i64_w,i32_w]
        rfl
       refine take_ (i:=17) (N:=some 42) (v:=?_) (a':=?_) #[true,true,true,true,true,true,true,true,true,true,true,true,true,true,true,true,true,true,true,false,false,true,true,true,true,true,false,true,false,false,false,false,false] rfl rfl (take_ofW HT_.out HW_.out (by kernel_rfl)) (fun _ _ _ h=>h) (Or.inl ⟨by rfl,?_⟩) hHeld ?_ ?_
       rotate_left
       ·rintro w' ⟨s0,s1,s2,s3,s4,s5,s6,s7,s8,s9,s10,s11⟩
        go_simp
        with_reducible rfl
       rotate_left
       ·simp only [Act.put,List.setIfInBounds_toArray,List.set_cons_zero,List.set_cons_succ,i64_w,i32_w]
        rfl
       refine take_ (i:=19) (N:=some 44) (v:=?_) (a':=?_) #[true,true,true,true,true,true,true,true,true,true,true,true,true,true,true,true,true,true,true,true,false,true,true,true,true,true,false,true,false,false,false,false,false] rfl rfl (take_ofW HT_.out HW_.out (by kernel_rfl)) (fun _ _ _ h=>h) (Or.inl ⟨by rfl,?_⟩) hHeld ?_ ?_
       rotate_left
       ·rintro w' ⟨s0,s1,s2,s3,s4,s5,s6,s7,s8,s9,s10,s11⟩
        go_simp
        with_reducible rfl
       rotate_left
       ·simp only [Act.put,List.setIfInBounds_toArray,List.set_cons_zero,List.set_cons_succ,i64_w,i32_w]
        rfl
       refine pure_ (i:=20) (N:=some 45) (v:=?_) (a':=?_) #[true,true,true,true,true,true,true,true,true,true,true,true,true,true,true,true,true,true,true,true,true,true,true,true,true,true,false,true,false,false,false,false,false] rfl rfl (any_of HT_.out (by kernel_rfl)) (fun _ _ _ h=>h) (Or.inl ⟨by rfl,?_⟩) ?_ ?_
       rotate_left
       ·intro w'
        go_simp
        with_reducible rfl
       rotate_left
       ·simp only [Act.put,List.setIfInBounds_toArray,List.set_cons_zero,List.set_cons_succ,i64_w,i32_w]
        rfl
       refine take_ (i:=26) (N:=some 51) (v:=?_) (a':=?_) #[true,true,true,true,true,true,true,true,true,true,true,true,true,true,true,true,true,true,true,true,true,true,true,true,true,true,true,true,false,false,false,false,false] rfl rfl (take_ofW HT_.out HW_.out (by kernel_rfl)) (fun _ _ _ h=>h) (Or.inl ⟨by rfl,?_⟩) hHeld ?_ ?_
       rotate_left
       ·rintro w' ⟨s0,s1,s2,s3,s4,s5,s6,s7,s8,s9,s10,s11⟩
        go_simp
        with_reducible rfl
       rotate_left
       ·simp only [Act.put,List.setIfInBounds_toArray,List.set_cons_zero,List.set_cons_succ,i64_w,i32_w]
        rfl
       refine take_ (i:=28) (N:=some 53) (v:=?_) (a':=?_) #[true,true,true,true,true,true,true,true,true,true,true,true,true,true,true,true,true,true,true,true,true,true,true,true,true,true,true,true,true,false,false,false,false] rfl rfl (take_ofW HT_.out HW_.out (by kernel_rfl)) (fun _ _ _ h=>h) (Or.inl ⟨by rfl,?_⟩) hHeld ?_ ?_
       rotate_left
       ·rintro w' ⟨s0,s1,s2,s3,s4,s5,s6,s7,s8,s9,s10,s11⟩
        go_simp
        with_reducible rfl
       rotate_left
       ·simp only [Act.put,List.setIfInBounds_toArray,List.set_cons_zero,List.set_cons_succ,i64_w,i32_w]
        rfl
       refine pure_ (i:=29) (N:=some 54) (v:=?_) (a':=?_) #[true,true,true,true,true,true,true,true,true,true,true,true,true,true,true,true,true,true,true,true,true,true,true,true,true,true,true,true,true,true,false,false,false] rfl rfl (any_of HT_.out (by kernel_rfl)) (fun _ _ _ h=>h) (Or.inl ⟨by rfl,?_⟩) ?_ ?_
       rotate_left
       ·intro w'
        go_simp
        with_reducible rfl
       rotate_left
       ·simp only [Act.put,List.setIfInBounds_toArray,List.set_cons_zero,List.set_cons_succ,i64_w,i32_w]
        rfl
       refine pure_ (i:=30) (N:=some 55) (v:=?_) (a':=?_) #[true,true,true,true,true,true,true,true,true,true,true,true,true,true,true,true,true,true,true,true,true,true,true,true,true,true,true,true,true,true,true,false,false] rfl rfl (any_of HT_.out (by kernel_rfl)) (fun _ _ _ h=>h) (Or.inl ⟨by rfl,?_⟩) ?_ ?_
       rotate_left
       ·intro w'
        go_simp
        with_reducible rfl
       rotate_left
       ·simp only [Act.put,List.setIfInBounds_toArray,List.set_cons_zero,List.set_cons_succ,i64_w,i32_w]
        rfl
       refine pure_ (i:=31) (N:=some 56) (v:=?_) (a':=?_) #[true,true,true,true,true,true,true,true,true,true,true,true,true,true,true,true,true,true,true,true,true,true,true,true,true,true,true,true,true,true,true,true,false] rfl rfl (any_of HT_.out (by kernel_rfl)) (fun _ _ _ h=>h) (Or.inl ⟨by rfl,?_⟩) ?_ ?_
       rotate_left
       ·intro w'
        go_simp
        with_reducible rfl
       rotate_left
       ·simp only [Act.put,List.setIfInBounds_toArray,List.set_cons_zero,List.set_cons_succ,i64_w,i32_w]
        rfl
       refine last_ (i:=32) (N:=none) #[true,true,true,true,true,true,true,true,true,true,true,true,true,true,true,true,true,true,true,true,true,true,true,true,true,true,true,true,true,true,true,true,true] rfl rfl (one_of HT_.out (by kernel_rfl)) (by decide) (fun K hK=>?_)
       refine skip_ (w1:=?_) (by rfl) rfl ?_ ?_
       rotate_left
       ·go_simp
        rfl
       refine hK.out _ _ ?_
       clear hK K
       refine done_ (done_of HT_.out (by kernel_rfl)) ?_
       try go_wp2
       go_ret
       exact ⟨_,by first|rfl|(simp [errW_none,errW_some] <;> rfl)|(simp only [← hji7];first|rfl|(simp [errW_none,errW_some] <;> rfl))|(simp [*,errW_none,errW_some] <;> rfl),by (with_reducible repeat (first|apply Kd.R_alloc|apply Kd.R_drewN|apply Kd.R_drew));exact Kd.R_mono HQ22.out (fun _ hk=>hk.1),by repeat (first|(with_reducible first|exact HB.out|apply below_alloc|apply pw_below_drewN|apply below_drew1|refine below_set ?_ GB14.out|refine below_set ?_ GB14.out|refine below_set ?_ GB14.out|refine below_set ?_ GE156.out)|exact HB.out),by repeat (first|(with_reducible first|exact HK.out|apply Kept.alloc|apply Kept.drewN|apply Kept.drew|refine Kept.setCell ?_ HMgo14.out _|refine Kept.setCell ?_ HMgo14.out _|refine Kept.setCell ?_ HMgo14.out _|refine Kept.setCell ?_ (.inr GW156.out) _)|exact HK.out)⟩
      ·rw [if_neg c13] at H
       exact absurd H (by simp)
     ·rw [if_neg c12] at H
      have c12b0 : (t158 == t159) = false:=beq_eq_false_iff_ne.mpr c12
      have c12b1 : (t158 != t159) = true:=bne_iff_ne.mpr c12
      by_cases c23 : l0.length < 4398046511104
      ·rw [if_pos c23] at H
       have LMc23:=Aside0.mk c23
       clear c23
       obtain ⟨y164,hy164⟩ : ∃ y_ : List (S74),y_ = (l0 ++ [(⟨a1_0,a1_1,a1_2⟩ : S74)]):=⟨_,rfl⟩
       replace H : (some y164) = some r:=by first|(rw [hy164];with_reducible exact H)|(have H2_:=(Option.bind_some _ _).symm.trans H;rw [hy164];with_reducible exact H2_)|(have H2_:=(Option.bind_some _ _).symm.trans H;with_reducible exact H2_)|with_reducible exact H|(rw [hy164];exact H)|exact H
       have Ny164:=Aside0.mk hy164
       clear hy164
       obtain rfl:=Option.some.inj H
       go_enter Try.func72,Try.ntmps72
       try go_wp2_with (first|((with_reducible refine gate_dst (N:=3) rfl ?_);refine box_event ?hg (N:=3) ?hd (cs:=#[.int .i64 a1_0,.int .i64 a1_1,.string a1_2]) (t:=74) ?hr ?_;(case hd=>rfl);(case hg=>rfl);(case hr=>first|(go_simp;done)|(go_simp;rfl));intro gb156 hg w24 hbox hb;have n0_:=Aside0.mk (Kd.R_below (Kd.R_elderB (by (with_reducible repeat (first|apply Kd.R_alloc|apply Kd.R_drewN|apply Kd.R_drew));exact HO0.out) gb156 (Nat.le_of_eq hg.symm)) hb);have n1_:=Aside0.mk (Kept.below (S:=(fun k_=>P0_ k_)) (by repeat (first|(with_reducible first|exact HK.out|apply Kept.alloc|apply Kept.drewN|apply Kept.drew)|exact HK.out)) hb);have n2_:=Aside0.mk (below_step (by repeat (first|exact HB.out|apply below_alloc|apply pw_below_drewN|apply below_drew1)) hb);have n3_:=Aside0.mk (hbox);have n4_:=Aside0.mk ((by rw [hg];exact (by first|exact HK.out.1|exact (show Kept w _ (fun k_=>P0_ k_) from by repeat (first|(with_reducible first|exact HK.out|apply Kept.alloc|apply Kept.drewN|apply Kept.drew)|exact HK.out)).1) : w.heap.size ≤ gb156));have n5_:=Aside0.mk ((by rw [hg];exact (below_size (by repeat (first|exact HB.out|apply below_alloc|apply pw_below_drewN|apply below_drew1))) : w0.heap.size ≤ gb156));clear HO0;clear HK;clear HB;have HO0:=n0_;have HK:=n1_;have HB:=n2_;have BK156:=n3_;have GW156:=n4_;have GE156:=n5_;clear n0_ n1_ n2_ n3_ n4_ n5_;clear hb hbox hg;have hcz25_0 : w24.cell? ⟨gb156,0,none⟩ = some (.int .i64 a1_0):=(blk_cell BK156.out 0).trans rfl;have hcz25_1 : w24.cell? ⟨gb156,1,none⟩ = some (.int .i64 a1_1):=(blk_cell BK156.out 1).trans rfl;have hcz25_2 : w24.cell? ⟨gb156,2,none⟩ = some (.string a1_2):=(blk_cell BK156.out 2).trans rfl;have hfz25_0:=blk_frozen BK156.out 0;have hfz25_1:=blk_frozen BK156.out 1;have hfz25_2:=blk_frozen BK156.out 2;obtain ⟨Ao26,co26,eo26⟩:=Kd.R_slice HO0.out;subst eo26))
       have n0_:=Aside0.mk (Kd.R_drew HO0.out)
       have n1_:=Aside0.mk (blk_drew BK156.out)
       have n2_:=Aside0.mk (Kept.drew HK.out)
       have n3_:=Aside0.mk (below_drew1 HB.out)
       clear HO0
       clear BK156
       clear HK
       clear HB
       have HO0:=n0_
       have BK156:=n1_
       have HK:=n2_
       have HB:=n3_
       clear n0_ n1_ n2_ n3_
       have p157 : 0 ≤ ((ji7) : Int):=of_decide_eq_true (by assumption)
       have q157 : (ji7) < (l0.length : Int):=of_decide_eq_true (by assumption)
       obtain ⟨ad157,e157,hx157_0,hx157_1,hx157_2⟩:=at_T74 (Kd.R_reads' HO0.out).2.2 (ji7) p157 q157
       cases e157
       replace p157:=eq_true p157
       replace q157:=eq_true q157
       refine start_ (n:=13) (S:=fun w'=>w'.cell? ⟨gb156,0,none⟩ = some (.int .i64 a1_0)∧w'.cell? ⟨gb156,1,none⟩ = some (.int .i64 a1_1)∧w'.cell? ⟨gb156,2,none⟩ = some (.string a1_2)∧w'.cell? (ad157.add (((ji7)).toNat * 3)) = some (.int .i64 ((rd_T74 l0 (ji7)).f0))∧w'.cell? ⟨(ad157.add (((ji7)).toNat * 3)).block,(ad157.add (((ji7)).toNat * 3)).off + 1,none⟩ = some (.int .i64 ((rd_T74 l0 (ji7)).f1))∧w'.cell? ⟨(ad157.add (((ji7)).toNat * 3)).block,(ad157.add (((ji7)).toNat * 3)).off + 2,none⟩ = some (.string ((rd_T74 l0 (ji7)).f2))) (ds:=[]) #[false,false,false,false,false,false,false,false,false,false,false,false,false] (by kernel_rfl) rfl rfl ⟨(blk_cell BK156.out 0).trans rfl,(blk_cell BK156.out 1).trans rfl,(blk_cell BK156.out 2).trans rfl,hx157_0,hx157_1,hx157_2⟩ (fun hHeld=>?_);refine with_tabW spec_l1Add.tab4 spec_l1Add.bits4 (fun HT_ HW_=>?_)
       generalize w24.drew = w27 at HO0 BK156 HK HB hx157_0 hx157_1 hx157_2 hHeld ⊢
       refine pure_ (i:=0) (N:=some 12) (v:=?_) (a':=?_) #[true,false,false,false,false,false,false,false,false,false,false,false,false] rfl rfl (any_of HT_.out (by kernel_rfl)) (fun _ _ _ h=>h) (Or.inl ⟨by rfl,?_⟩) ?_ ?_
       rotate_left
       ·intro w'
        go_simp
        with_reducible rfl
       rotate_left
       ·simp only [Act.put,List.setIfInBounds_toArray,List.set_cons_zero,List.set_cons_succ,i64_w,i32_w]
        rfl
       refine pure_ (i:=1) (N:=some 13) (v:=?_) (a':=?_) #[true,true,false,false,false,false,false,false,false,false,false,false,false] rfl rfl (any_of HT_.out (by kernel_rfl)) (fun _ _ _ h=>h) (Or.inl ⟨by rfl,?_⟩) ?_ ?_
       rotate_left
       ·intro w'
        go_simp
        with_reducible rfl
       rotate_left
       ·simp only [Act.put,List.setIfInBounds_toArray,List.set_cons_zero,List.set_cons_succ,i64_w,i32_w]
        rfl
       refine pure_ (i:=2) (N:=some 14) (v:=?_) (a':=?_) #[true,true,true,false,false,false,false,false,false,false,false,false,false] rfl rfl (any_of HT_.out (by kernel_rfl)) (fun _ _ _ h=>h) (Or.inl ⟨by rfl,?_⟩) ?_ ?_
       rotate_left
       ·intro w'
        go_simp
        with_reducible rfl
       rotate_left
       ·simp only [Act.put,List.setIfInBounds_toArray,List.set_cons_zero,List.set_cons_succ,i64_w,i32_w]
        rfl
       refine pure_ (i:=3) (N:=some 15) (v:=?_) (a':=?_) #[true,true,true,true,false,false,false,false,false,false,false,false,false] rfl rfl (any_of HT_.out (by kernel_rfl)) (fun _ _ _ h=>h) (Or.inl ⟨by rfl,?_⟩) ?_ ?_
       rotate_left
       ·intro w'
        go_simp
        with_reducible rfl
       rotate_left
       ·simp only [Act.put,List.setIfInBounds_toArray,List.set_cons_zero,List.set_cons_succ,i64_w,i32_w]
        rfl
       refine pure_ (i:=4) (N:=some 16) (v:=?_) (a':=?_) #[true,true,true,true,true,false,false,false,false,false,false,false,false] rfl rfl (any_of HT_.out (by kernel_rfl)) (fun _ _ _ h=>h) (Or.inl ⟨by rfl,?_⟩) ?_ ?_
       rotate_left
       ·intro w'
        go_simp
        with_reducible rfl
       rotate_left
       ·simp only [Act.put,List.setIfInBounds_toArray,List.set_cons_zero,List.set_cons_succ,i64_w,i32_w]
        rfl
       refine pure_ (i:=5) (N:=some 17) (v:=?_) (a':=?_) #[true,true,true,true,true,true,false,false,false,false,false,false,false] rfl rfl (any_of HT_.out (by kernel_rfl)) (fun _ _ _ h=>h) (Or.inl ⟨by rfl,?_⟩) ?_ ?_
       rotate_left
       ·intro w'
        go_simp
        with_reducible rfl
       rotate_left
       ·simp only [Act.put,List.setIfInBounds_toArray,List.set_cons_zero,List.set_cons_succ,i64_w,i32_w]
        rfl
       refine pure_ (i:=6) (N:=some 18) (v:=?_) (a':=?_) #[true,true,true,true,true,true,true,false,false,false,false,false,false] rfl rfl (any_of HT_.out (by kernel_rfl)) (fun _ _ _ h=>h) (Or.inl ⟨by rfl,?_⟩) ?_ ?_
       rotate_left
       ·intro w'
        go_simp
        with_reducible rfl
       rotate_left
       ·simp only [Act.put,List.setIfInBounds_toArray,List.set_cons_zero,List.set_cons_succ,i64_w,i32_w]
        rfl
       refine take_ (i:=7) (N:=some 19) (v:=?_) (a':=?_) #[true,true,true,true,true,true,true,true,false,false,false,false,false] rfl rfl (take_ofW HT_.out HW_.out (by kernel_rfl)) (fun _ _ _ h=>h) (Or.inl ⟨by rfl,?_⟩) hHeld ?_ ?_
       rotate_left
       ·rintro w' ⟨s0,s1,s2,s3,s4,s5⟩
        go_simp
        with_reducible rfl
       rotate_left
       ·simp only [Act.put,List.setIfInBounds_toArray,List.set_cons_zero,List.set_cons_succ,i64_w,i32_w]
        rfl
       refine take_ (i:=9) (N:=some 21) (v:=?_) (a':=?_) #[true,true,true,true,true,true,true,true,false,true,false,false,false] rfl rfl (take_ofW HT_.out HW_.out (by kernel_rfl)) (fun _ _ _ h=>h) (Or.inl ⟨by rfl,?_⟩) hHeld ?_ ?_
       rotate_left
       ·rintro w' ⟨s0,s1,s2,s3,s4,s5⟩
        go_simp
        with_reducible rfl
       rotate_left
       ·simp only [Act.put,List.setIfInBounds_toArray,List.set_cons_zero,List.set_cons_succ,i64_w,i32_w]
        rfl
       refine one_ (i:=8) (N:=some 20) #[true,true,true,true,true,true,true,true,true,true,false,false,false] rfl rfl (one_of HT_.out (by kernel_rfl)) (by decide) (fun K hK=>?_)
       refine goes_ Try.func56 (by kernel_rfl) rfl #[.agg #[.int .i64 ((rd_T74 l0 (ji7)).f0),.int .i64 ((rd_T74 l0 (ji7)).f1),.string ((rd_T74 l0 (ji7)).f2)]] (by rfl) rfl rfl (by (try simp only [List.map_toArray,List.map_cons,List.map_nil]);first|done|(simp only [hji7];rfl)|rfl|(simp only [List.length_drop,List.length_take];rfl)) ?_
       with_reducible refine (spec_l1Kind.calls k ((rd_T74 l0 (ji7)).f0) ((rd_T74 l0 (ji7)).f1) ((rd_T74 l0 (ji7)).f2) t158 _ A10.out).mono ?_
       rintro e w28 ⟨rfl,hb⟩
       have HS3_:=(hb.cell (World.block_lt_of_cell? _ _ (hHeld.2.2.2.1))).trans (hHeld.2.2.2.1)
       have HS4_:=(hb.cell (World.block_lt_of_cell? _ _ (hHeld.2.2.2.2.1))).trans (hHeld.2.2.2.2.1)
       have HS5_:=(hb.cell (World.block_lt_of_cell? _ _ (hHeld.2.2.2.2.2))).trans (hHeld.2.2.2.2.2)
       refine ⟨_,rfl,?_⟩
       have n0_:=Aside0.mk (Kd.R_below (by (with_reducible repeat (first|apply Kd.R_alloc|apply Kd.R_drewN|apply Kd.R_drew));exact HO0.out) hb)
       have n1_:=Aside0.mk (blk_below (g:=gb156) (o:=.cells #[.int .i64 a1_0,.int .i64 a1_1,.string a1_2] 74 (0,0)) (by (with_reducible repeat first|apply blk_drewN|apply blk_drew|apply blk_alloc);exact BK156.out) hb)
       have n2_:=Aside0.mk (Kept.below (S:=(fun k_=>P0_ k_)) (by repeat (first|(with_reducible first|exact HK.out|apply Kept.alloc|apply Kept.drewN|apply Kept.drew|refine Kept.setCell ?_ (.inr GW156.out) _)|exact HK.out)) hb)
       have n3_:=Aside0.mk (below_step (by repeat (first|(with_reducible first|exact HB.out|apply below_alloc|apply pw_below_drewN|apply below_drew1|refine below_set ?_ GE156.out)|exact HB.out)) hb)
       clear HO0
       clear BK156
       clear HK
       clear HB
       have HO0:=n0_
       have BK156:=n1_
       have HK:=n2_
       have HB:=n3_
       clear n0_ n1_ n2_ n3_
       (try clear hb)
       (try clear hb2)
       (try clear hk)
       (try clear hi)
       refine hK.out _ _ ⟨(blk_cell BK156.out 0).trans rfl,(blk_cell BK156.out 1).trans rfl,(blk_cell BK156.out 2).trans rfl,HS3_,HS4_,HS5_⟩ (fun hHeld=>?_)
       clear hK K
       refine norm_ (a':=?_) ?_ ?_
       rotate_left
       ·show Act.put _ (some 20) _ = _
        simp only [Act.put,List.setIfInBounds_toArray,List.set_cons_zero,List.set_cons_succ,i64_w,i32_w]
        rfl
       refine one_ (i:=10) (N:=some 22) #[true,true,true,true,true,true,true,true,true,true,true,false,false] rfl rfl (one_of HT_.out (by kernel_rfl)) (by decide) (fun K hK=>?_)
       refine goes_ Try.func56 (by kernel_rfl) rfl #[.agg #[.int .i64 a1_0,.int .i64 a1_1,.string a1_2]] (by rfl) rfl rfl (by (try simp only [List.map_toArray,List.map_cons,List.map_nil]);first|done|rfl|(simp only [List.length_drop,List.length_take];rfl)) ?_
       with_reducible refine (spec_l1Kind.calls k a1_0 a1_1 a1_2 t159 _ A11.out).mono ?_
       rintro e w29 ⟨rfl,hb⟩
       have HS3_:=(hb.cell (World.block_lt_of_cell? _ _ (hHeld.2.2.2.1))).trans (hHeld.2.2.2.1)
       have HS4_:=(hb.cell (World.block_lt_of_cell? _ _ (hHeld.2.2.2.2.1))).trans (hHeld.2.2.2.2.1)
       have HS5_:=(hb.cell (World.block_lt_of_cell? _ _ (hHeld.2.2.2.2.2))).trans (hHeld.2.2.2.2.2)
       refine ⟨_,rfl,?_⟩
       have n0_:=Aside0.mk (Kd.R_below (by (with_reducible repeat (first|apply Kd.R_alloc|apply Kd.R_drewN|apply Kd.R_drew));exact HO0.out) hb)
       have n1_:=Aside0.mk (blk_below (g:=gb156) (o:=.cells #[.int .i64 a1_0,.int .i64 a1_1,.string a1_2] 74 (0,0)) (by (with_reducible repeat first|apply blk_drewN|apply blk_drew|apply blk_alloc);exact BK156.out) hb)
       have n2_:=Aside0.mk (Kept.below (S:=(fun k_=>P0_ k_)) (by repeat (first|(with_reducible first|exact HK.out|apply Kept.alloc|apply Kept.drewN|apply Kept.drew|refine Kept.setCell ?_ (.inr GW156.out) _)|exact HK.out)) hb)
       have n3_:=Aside0.mk (below_step (by repeat (first|(with_reducible first|exact HB.out|apply below_alloc|apply pw_below_drewN|apply below_drew1|refine below_set ?_ GE156.out)|exact HB.out)) hb)
       clear HO0
       clear BK156
       clear HK
       clear HB
       have HO0:=n0_
       have BK156:=n1_
       have HK:=n2_
       have HB:=n3_
       clear n0_ n1_ n2_ n3_
       (try clear hb)
       (try clear hb2)
       (try clear hk)
       (try clear hi)
       refine hK.out _ _ ⟨(blk_cell BK156.out 0).trans rfl,(blk_cell BK156.out 1).trans rfl,(blk_cell BK156.out 2).trans rfl,HS3_,HS4_,HS5_⟩ (fun hHeld=>?_)
       clear hK K
       refine norm_ (a':=?_) ?_ ?_
       rotate_left
       ·show Act.put _ (some 22) _ = _
        simp only [Act.put,List.setIfInBounds_toArray,List.set_cons_zero,List.set_cons_succ,i64_w,i32_w]
        rfl
       refine pure_ (i:=11) (N:=some 23) (v:=?_) (a':=?_) #[true,true,true,true,true,true,true,true,true,true,true,true,false] rfl rfl (any_of HT_.out (by kernel_rfl)) (fun _ _ _ h=>h) (Or.inl ⟨by rfl,?_⟩) ?_ ?_
       rotate_left
       ·intro w'
        go_simp
        with_reducible rfl
       rotate_left
       ·simp only [Act.put,List.setIfInBounds_toArray,List.set_cons_zero,List.set_cons_succ,i64_w,i32_w]
        rfl
       refine pure_ (i:=12) (N:=some 24) (v:=?_) (a':=?_) #[true,true,true,true,true,true,true,true,true,true,true,true,true] rfl rfl (any_of HT_.out (by kernel_rfl)) (fun _ _ _ h=>h) (Or.inl ⟨by rfl,?_⟩) ?_ ?_
       rotate_left
       ·intro w'
        go_simp
        with_reducible rfl
       rotate_left
       ·simp only [Act.put,List.setIfInBounds_toArray,List.set_cons_zero,List.set_cons_succ,i64_w,i32_w]
        rfl
       refine done_ (done_of HT_.out (by kernel_rfl)) ?_
       have hcz30_0 : w29.cell? ⟨gb156,0,none⟩ = some (.int .i64 a1_0):=(blk_cell BK156.out 0).trans rfl
       have hcz30_1 : w29.cell? ⟨gb156,1,none⟩ = some (.int .i64 a1_1):=(blk_cell BK156.out 1).trans rfl
       have hcz30_2 : w29.cell? ⟨gb156,2,none⟩ = some (.string a1_2):=(blk_cell BK156.out 2).trans rfl
       have hfz30_0:=blk_frozen BK156.out 0
       have hfz30_1:=blk_frozen BK156.out 1
       have hfz30_2:=blk_frozen BK156.out 2
       try go_wp2_with (first|((with_reducible refine gate_builtin (b:=.append) (xs:=#[.tmp 58,.tmp 60]) rfl ?_);at_builtin;refine Kd.R_append k74 (w0:=w0) w0.heap.size rfl (.tmp 58) (.tmp 60) 25 74 (.agg #[(.int .i64 0),(.int .i64 0),(.string ⟨#[]⟩)]) 32 rfl Try.underlying25 info74 rfl (by decide) (by omega) (.slice (some ad157) l0.length co26) l0 (⟨a1_0,a1_1,a1_2⟩ : S74) [.int .i64 a1_0,.int .i64 a1_1,.string a1_2] (fun k_=>(P0_ k_ ∨ w.heap.size ≤ k_)∧k_ ≠ gb156) (fun _=>False) rfl rfl ?aP (fun _ hk=>hk.elim) ?aF ?aO ?aB ?aS ?aL ?_;(case aP=>exact k74_mkM _ _ _ (⟨a1_0,a1_1,a1_2⟩ : S74));(case aB=>exact (by repeat (first|(with_reducible first|exact HB.out|apply below_alloc|apply pw_below_drewN|apply below_drew1|refine below_set ?_ GE156.out)|exact HB.out)));(case aF=>exact (fun k_ hk=>⟨(.inr (Nat.le_trans (by first|exact HK.out.1|exact (show Kept w _ (fun k_=>P0_ k_) from by repeat (first|(with_reducible first|exact HK.out|apply Kept.alloc|apply Kept.drewN|apply Kept.drew|refine Kept.setCell ?_ (.inr GW156.out) _)|exact HK.out)).1) hk)),Kd.freshB (g:=gb156) (o:=.cells #[.int .i64 a1_0,.int .i64 a1_1,.string a1_2] 74 (0,0)) (by (with_reducible repeat first|apply blk_drewN|apply blk_drew|apply blk_alloc);exact BK156.out) k_ hk⟩));(case aO=>exact (by (with_reducible repeat (first|apply Kd.R_alloc|apply Kd.R_drewN|apply Kd.R_drew));exact HO0.out));(case aS=>exact (below_size (by repeat (first|(with_reducible first|exact HB.out|apply below_alloc|apply pw_below_drewN|apply below_drew1|refine below_set ?_ GE156.out)|exact HB.out))));(case aL=>have:=LMc23.out;omega);intro v165 w31 ho hb hg hat;rw [← Ny164.out] at ho;have n0_:=Aside0.mk (blk_grown (g:=gb156) (o:=.cells #[.int .i64 a1_0,.int .i64 a1_1,.string a1_2] 74 (0,0)) (by (with_reducible repeat first|apply blk_drewN|apply blk_drew|apply blk_alloc);exact BK156.out) hg (Kd.R_away HO0.out (fun _ hk=>hk.2)));have n1_:=Aside0.mk (hb);have n2_:=Aside0.mk (Kept.of_grown (S:=(fun k_=>P0_ k_)) hg (by repeat (first|(with_reducible first|exact HK.out|apply Kept.alloc|apply Kept.drewN|apply Kept.drew|refine Kept.setCell ?_ (.inr GW156.out) _)|exact HK.out)) (fun k_ e_=>(HO0.out.1 k_ e_).1));have n3_:=Aside0.mk (ho);clear BK156;clear HB;clear HK;clear HO0;have BK156:=n0_;have HB:=n1_;have HK:=n2_;have HO166:=n3_;clear n0_ n1_ n2_ n3_;clear ho hb hg hat))
       go_ret
       exact ⟨_,by first|rfl|(simp [errW_none,errW_some] <;> rfl)|(simp only [← hji7];first|rfl|(simp [errW_none,errW_some] <;> rfl))|(simp [*,errW_none,errW_some] <;> rfl),by (with_reducible repeat (first|apply Kd.R_alloc|apply Kd.R_drewN|apply Kd.R_drew));exact Kd.R_mono HO166.out (fun _ hk=>hk.1),by repeat (first|(with_reducible first|exact HB.out|apply below_alloc|apply pw_below_drewN|apply below_drew1|refine below_set ?_ GE156.out)|exact HB.out),by repeat (first|(with_reducible first|exact HK.out|apply Kept.alloc|apply Kept.drewN|apply Kept.drew|refine Kept.setCell ?_ (.inr GW156.out) _)|exact HK.out)⟩
      ·rw [if_neg c23] at H
       exact absurd H (by simp)
    ·rw [if_neg c9] at H
     exact absurd H (by simp)
   ·rw [if_neg c8] at H
    exact absurd H (by simp)
  ·rw [if_neg c6] at H
   have c6b0 : decide (0 < (l0.length : Int)) = false:=decide_eq_false c6
   have c6b1 : decide (0 < l0.length) = false:=decide_eq_false (by omega)
   clear c6
   by_cases c32 : l0.length < 4398046511104
   ·rw [if_pos c32] at H
    have LMc32:=Aside0.mk c32
    clear c32
    obtain ⟨y167,hy167⟩ : ∃ y_ : List (S74),y_ = (l0 ++ [(⟨a1_0,a1_1,a1_2⟩ : S74)]):=⟨_,rfl⟩
    replace H : (some y167) = some r:=by first|(rw [hy167];with_reducible exact H)|(have H2_:=(Option.bind_some _ _).symm.trans H;rw [hy167];with_reducible exact H2_)|(have H2_:=(Option.bind_some _ _).symm.trans H;with_reducible exact H2_)|with_reducible exact H|(rw [hy167];exact H)|exact H
    have Ny167:=Aside0.mk hy167
    clear hy167
    obtain rfl:=Option.some.inj H
    go_enter Try.func72,Try.ntmps72
    try go_wp2_with (first|((with_reducible refine gate_dst (N:=3) rfl ?_);refine box_event ?hg (N:=3) ?hd (cs:=#[.int .i64 a1_0,.int .i64 a1_1,.string a1_2]) (t:=74) ?hr ?_;(case hd=>rfl);(case hg=>rfl);(case hr=>first|(go_simp;done)|(go_simp;rfl));intro gb156 hg w33 hbox hb;have n0_:=Aside0.mk (Kd.R_below (Kd.R_elderB (by (with_reducible repeat (first|apply Kd.R_alloc|apply Kd.R_drewN|apply Kd.R_drew));exact HO0.out) gb156 (Nat.le_of_eq hg.symm)) hb);have n1_:=Aside0.mk (Kept.below (S:=(fun k_=>P0_ k_)) (by repeat (first|(with_reducible first|exact HK.out|apply Kept.alloc|apply Kept.drewN|apply Kept.drew)|exact HK.out)) hb);have n2_:=Aside0.mk (below_step (by repeat (first|exact HB.out|apply below_alloc|apply pw_below_drewN|apply below_drew1)) hb);have n3_:=Aside0.mk (hbox);have n4_:=Aside0.mk ((by rw [hg];exact (by first|exact HK.out.1|exact (show Kept w _ (fun k_=>P0_ k_) from by repeat (first|(with_reducible first|exact HK.out|apply Kept.alloc|apply Kept.drewN|apply Kept.drew)|exact HK.out)).1) : w.heap.size ≤ gb156));have n5_:=Aside0.mk ((by rw [hg];exact (below_size (by repeat (first|exact HB.out|apply below_alloc|apply pw_below_drewN|apply below_drew1))) : w0.heap.size ≤ gb156));clear HO0;clear HK;clear HB;have HO0:=n0_;have HK:=n1_;have HB:=n2_;have BK156:=n3_;have GW156:=n4_;have GE156:=n5_;clear n0_ n1_ n2_ n3_ n4_ n5_;clear hb hbox hg;have hcz34_0 : w33.cell? ⟨gb156,0,none⟩ = some (.int .i64 a1_0):=(blk_cell BK156.out 0).trans rfl;have hcz34_1 : w33.cell? ⟨gb156,1,none⟩ = some (.int .i64 a1_1):=(blk_cell BK156.out 1).trans rfl;have hcz34_2 : w33.cell? ⟨gb156,2,none⟩ = some (.string a1_2):=(blk_cell BK156.out 2).trans rfl;have hfz34_0:=blk_frozen BK156.out 0;have hfz34_1:=blk_frozen BK156.out 1;have hfz34_2:=blk_frozen BK156.out 2;obtain ⟨Ao35,co35,eo35⟩:=Kd.R_slice HO0.out;subst eo35))
    have n0_:=Aside0.mk (Kd.R_drew HO0.out)
    have n1_:=Aside0.mk (blk_drew BK156.out)
    have n2_:=Aside0.mk (Kept.drew HK.out)
    have n3_:=Aside0.mk (below_drew1 HB.out)
    clear HO0
    clear BK156
    clear HK
    clear HB
    have HO0:=n0_
    have BK156:=n1_
    have HK:=n2_
    have HB:=n3_
    clear n0_ n1_ n2_ n3_
    refine start_ (n:=13) (S:=fun w'=>True) (ds:=[]) #[false,false,false,false,false,false,false,false,false,false,false,false,false] (by kernel_rfl) rfl rfl trivial (fun hHeld=>?_);refine with_tabW spec_l1Add.tab4 spec_l1Add.bits4 (fun HT_ HW_=>?_)
    generalize w33.drew = w36 at HO0 BK156 HK HB hHeld ⊢
    refine pure_ (i:=0) (N:=some 12) (v:=?_) (a':=?_) #[true,false,false,false,false,false,false,false,false,false,false,false,false] rfl rfl (any_of HT_.out (by kernel_rfl)) (fun _ _ _ h=>h) (Or.inl ⟨by rfl,?_⟩) ?_ ?_
    rotate_left
    ·intro w'
     go_simp
     with_reducible rfl
    rotate_left
    ·simp only [Act.put,List.setIfInBounds_toArray,List.set_cons_zero,List.set_cons_succ,i64_w,i32_w]
     rfl
    refine pure_ (i:=1) (N:=some 13) (v:=?_) (a':=?_) #[true,true,false,false,false,false,false,false,false,false,false,false,false] rfl rfl (any_of HT_.out (by kernel_rfl)) (fun _ _ _ h=>h) (Or.inl ⟨by rfl,?_⟩) ?_ ?_
    rotate_left
    ·intro w'
     go_simp
     with_reducible rfl
    rotate_left
    ·simp only [Act.put,List.setIfInBounds_toArray,List.set_cons_zero,List.set_cons_succ,i64_w,i32_w]
     rfl
    refine pure_ (i:=2) (N:=some 14) (v:=?_) (a':=?_) #[true,true,true,false,false,false,false,false,false,false,false,false,false] rfl rfl (any_of HT_.out (by kernel_rfl)) (fun _ _ _ h=>h) (Or.inl ⟨by rfl,?_⟩) ?_ ?_
    rotate_left
    ·intro w'
     go_simp
     with_reducible rfl
    rotate_left
    ·simp only [Act.put,List.setIfInBounds_toArray,List.set_cons_zero,List.set_cons_succ,i64_w,i32_w]
     rfl
    refine pure_ (i:=3) (N:=some 15) (v:=undef) (a':=?_) #[true,true,true,true,false,false,false,false,false,false,false,false,false] rfl rfl (any_of HT_.out (by kernel_rfl)) (fun _ _ _ h=>h) (Or.inr ⟨by rfl,rfl⟩) ?_ ?_
    rotate_left
    ·simp only [Act.put,List.setIfInBounds_toArray,List.set_cons_zero,List.set_cons_succ,i64_w,i32_w]
     rfl
    refine pure_ (i:=4) (N:=some 16) (v:=undef) (a':=?_) #[true,true,true,true,true,false,false,false,false,false,false,false,false] rfl rfl (any_of HT_.out (by kernel_rfl)) (fun _ _ _ h=>h) (Or.inr ⟨by rfl,rfl⟩) ?_ ?_
    rotate_left
    ·simp only [Act.put,List.setIfInBounds_toArray,List.set_cons_zero,List.set_cons_succ,i64_w,i32_w]
     rfl
    refine pure_ (i:=5) (N:=some 17) (v:=undef) (a':=?_) #[true,true,true,true,true,true,false,false,false,false,false,false,false] rfl rfl (any_of HT_.out (by kernel_rfl)) (fun _ _ _ h=>h) (Or.inr ⟨by rfl,rfl⟩) ?_ ?_
    rotate_left
    ·simp only [Act.put,List.setIfInBounds_toArray,List.set_cons_zero,List.set_cons_succ,i64_w,i32_w]
     rfl
    refine pure_ (i:=6) (N:=some 18) (v:=undef) (a':=?_) #[true,true,true,true,true,true,true,false,false,false,false,false,false] rfl rfl (any_of HT_.out (by kernel_rfl)) (fun _ _ _ h=>h) (Or.inr ⟨by rfl,rfl⟩) ?_ ?_
    rotate_left
    ·simp only [Act.put,List.setIfInBounds_toArray,List.set_cons_zero,List.set_cons_succ,i64_w,i32_w]
     rfl
    refine pure_ (i:=7) (N:=some 19) (v:=undef) (a':=?_) #[true,true,true,true,true,true,true,true,false,false,false,false,false] rfl rfl (any_of HT_.out (by kernel_rfl)) (fun _ _ _ h=>h) (Or.inr ⟨by rfl,rfl⟩) ?_ ?_
    rotate_left
    ·simp only [Act.put,List.setIfInBounds_toArray,List.set_cons_zero,List.set_cons_succ,i64_w,i32_w]
     rfl
    refine pure_ (i:=8) (N:=some 20) (v:=undef) (a':=?_) #[true,true,true,true,true,true,true,true,true,false,false,false,false] rfl rfl (any_of HT_.out (by kernel_rfl)) (fun _ _ _ h=>h) (Or.inr ⟨by rfl,rfl⟩) ?_ ?_
    rotate_left
    ·simp only [Act.put,List.setIfInBounds_toArray,List.set_cons_zero,List.set_cons_succ,i64_w,i32_w]
     rfl
    refine pure_ (i:=9) (N:=some 21) (v:=undef) (a':=?_) #[true,true,true,true,true,true,true,true,true,true,false,false,false] rfl rfl (any_of HT_.out (by kernel_rfl)) (fun _ _ _ h=>h) (Or.inr ⟨by rfl,rfl⟩) ?_ ?_
    rotate_left
    ·simp only [Act.put,List.setIfInBounds_toArray,List.set_cons_zero,List.set_cons_succ,i64_w,i32_w]
     rfl
    refine pure_ (i:=10) (N:=some 22) (v:=undef) (a':=?_) #[true,true,true,true,true,true,true,true,true,true,true,false,false] rfl rfl (any_of HT_.out (by kernel_rfl)) (fun _ _ _ h=>h) (Or.inr ⟨by rfl,rfl⟩) ?_ ?_
    rotate_left
    ·simp only [Act.put,List.setIfInBounds_toArray,List.set_cons_zero,List.set_cons_succ,i64_w,i32_w]
     rfl
    refine pure_ (i:=11) (N:=some 23) (v:=undef) (a':=?_) #[true,true,true,true,true,true,true,true,true,true,true,true,false] rfl rfl (any_of HT_.out (by kernel_rfl)) (fun _ _ _ h=>h) (Or.inr ⟨by rfl,rfl⟩) ?_ ?_
    rotate_left
    ·simp only [Act.put,List.setIfInBounds_toArray,List.set_cons_zero,List.set_cons_succ,i64_w,i32_w]
     rfl
    refine pure_ (i:=12) (N:=some 24) (v:=?_) (a':=?_) #[true,true,true,true,true,true,true,true,true,true,true,true,true] rfl rfl (any_of HT_.out (by kernel_rfl)) (fun _ _ _ h=>h) (Or.inl ⟨by rfl,?_⟩) ?_ ?_
    rotate_left
    ·intro w'
     go_simp
     with_reducible rfl
    rotate_left
    ·simp only [Act.put,List.setIfInBounds_toArray,List.set_cons_zero,List.set_cons_succ,i64_w,i32_w]
     rfl
    refine done_ (done_of HT_.out (by kernel_rfl)) ?_
    have hcz37_0 : w36.cell? ⟨gb156,0,none⟩ = some (.int .i64 a1_0):=(blk_cell BK156.out 0).trans rfl
    have hcz37_1 : w36.cell? ⟨gb156,1,none⟩ = some (.int .i64 a1_1):=(blk_cell BK156.out 1).trans rfl
    have hcz37_2 : w36.cell? ⟨gb156,2,none⟩ = some (.string a1_2):=(blk_cell BK156.out 2).trans rfl
    have hfz37_0:=blk_frozen BK156.out 0
    have hfz37_1:=blk_frozen BK156.out 1
    have hfz37_2:=blk_frozen BK156.out 2
    try go_wp2_with (first|((with_reducible refine gate_builtin (b:=.append) (xs:=#[.tmp 58,.tmp 60]) rfl ?_);at_builtin;refine Kd.R_append k74 (w0:=w0) w0.heap.size rfl (.tmp 58) (.tmp 60) 25 74 (.agg #[(.int .i64 0),(.int .i64 0),(.string ⟨#[]⟩)]) 32 rfl Try.underlying25 info74 rfl (by decide) (by omega) (.slice Ao35 l0.length co35) l0 (⟨a1_0,a1_1,a1_2⟩ : S74) [.int .i64 a1_0,.int .i64 a1_1,.string a1_2] (fun k_=>(P0_ k_ ∨ w.heap.size ≤ k_)∧k_ ≠ gb156) (fun _=>False) rfl rfl ?aP (fun _ hk=>hk.elim) ?aF ?aO ?aB ?aS ?aL ?_;(case aP=>exact k74_mkM _ _ _ (⟨a1_0,a1_1,a1_2⟩ : S74));(case aB=>exact (by repeat (first|(with_reducible first|exact HB.out|apply below_alloc|apply pw_below_drewN|apply below_drew1|refine below_set ?_ GE156.out)|exact HB.out)));(case aF=>exact (fun k_ hk=>⟨(.inr (Nat.le_trans (by first|exact HK.out.1|exact (show Kept w _ (fun k_=>P0_ k_) from by repeat (first|(with_reducible first|exact HK.out|apply Kept.alloc|apply Kept.drewN|apply Kept.drew|refine Kept.setCell ?_ (.inr GW156.out) _)|exact HK.out)).1) hk)),Kd.freshB (g:=gb156) (o:=.cells #[.int .i64 a1_0,.int .i64 a1_1,.string a1_2] 74 (0,0)) (by (with_reducible repeat first|apply blk_drewN|apply blk_drew|apply blk_alloc);exact BK156.out) k_ hk⟩));(case aO=>exact (by (with_reducible repeat (first|apply Kd.R_alloc|apply Kd.R_drewN|apply Kd.R_drew));exact HO0.out));(case aS=>exact (below_size (by repeat (first|(with_reducible first|exact HB.out|apply below_alloc|apply pw_below_drewN|apply below_drew1|refine below_set ?_ GE156.out)|exact HB.out))));(case aL=>have:=LMc32.out;omega);intro v168 w38 ho hb hg hat;rw [← Ny167.out] at ho;have n0_:=Aside0.mk (blk_grown (g:=gb156) (o:=.cells #[.int .i64 a1_0,.int .i64 a1_1,.string a1_2] 74 (0,0)) (by (with_reducible repeat first|apply blk_drewN|apply blk_drew|apply blk_alloc);exact BK156.out) hg (Kd.R_away HO0.out (fun _ hk=>hk.2)));have n1_:=Aside0.mk (hb);have n2_:=Aside0.mk (Kept.of_grown (S:=(fun k_=>P0_ k_)) hg (by repeat (first|(with_reducible first|exact HK.out|apply Kept.alloc|apply Kept.drewN|apply Kept.drew|refine Kept.setCell ?_ (.inr GW156.out) _)|exact HK.out)) (fun k_ e_=>(HO0.out.1 k_ e_).1));have n3_:=Aside0.mk (ho);clear BK156;clear HB;clear HK;clear HO0;have BK156:=n0_;have HB:=n1_;have HK:=n2_;have HO169:=n3_;clear n0_ n1_ n2_ n3_;clear ho hb hg hat))
    go_ret
    exact ⟨_,by first|rfl|(simp [*,errW_none,errW_some] <;> rfl),by (with_reducible repeat (first|apply Kd.R_alloc|apply Kd.R_drewN|apply Kd.R_drew));exact Kd.R_mono HO169.out (fun _ hk=>hk.1),by repeat (first|(with_reducible first|exact HB.out|apply below_alloc|apply pw_below_drewN|apply below_drew1|refine below_set ?_ GE156.out)|exact HB.out),by repeat (first|(with_reducible first|exact HK.out|apply Kept.alloc|apply Kept.drewN|apply Kept.drew|refine Kept.setCell ?_ (.inr GW156.out) _)|exact HK.out)⟩
   ·rw [if_neg c32] at H
    exact absurd H (by simp)

end Go.Proofs.Ytebmncdjlmnbnaa.PFnExactComposeChanges
