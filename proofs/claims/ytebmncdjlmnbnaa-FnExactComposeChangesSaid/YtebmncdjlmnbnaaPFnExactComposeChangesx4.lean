-- Written by a program of this session over the print of the kit (wip/t/patch_print.py).
import Derived.Test.YtebmncdjlmnbnaaPFnExactComposeChangesx0
namespace Go.Proofs.Ytebmncdjlmnbnaa.PFnExactComposeChanges
open Go.RowKit Go.Proofs.YtebmncdjlmnbnaaW.PrintWords Go.Proofs.YtebmncdjlmnbnaaW.PrintLast Go.Proofs.YtebmncdjlmnbnaaW.PrintMore
attribute [local go_sem] max2_int min2_int max_two min_two max_three min_three max_four min_four   -- for this text's walks alone
set_option linter.unusedVariables false
set_option linter.unusedSimpArgs false

/-! ### spec_l1Kind: function 56 -/
mutual
def spec_l1Kind.j0 : Nat → Bool → Int → Int → ByteArray → Option (Int)
 | 0,_,_,_,_=>none
 | k + 1,x3,x132000,x132001,x132002=>if x3 = true then (some 1) else (if x132000 = 0 then (if x132001 > 0 then (spec_l1Kind.j1 k (x132002.toList == ([] : List UInt8)) x132000 x132001 x132002) else (spec_l1Kind.j1 k false x132000 x132001 x132002)) else (spec_l1Kind.j1 k false x132000 x132001 x132002))
def spec_l1Kind.j1 : Nat → Bool → Int → Int → ByteArray → Option (Int)
 | 0,_,_,_,_=>none
 | k + 1,x17,x132000,x132001,x132002=>if x17 = true then (some 2) else (if x132000 = 0 then (if x132001 = 0 then (if x132002.toList = ([] : List UInt8) then (some 0) else (some 3)) else (some 0)) else (some 0))
end
def spec_l1Kind.f (k : Nat) (a0_0 : Int) (a0_1 : Int) (a0_2 : ByteArray) : Option (Int):=if a0_0 > 0 then (if a0_1 = 0 then (spec_l1Kind.j0 k (a0_2.toList == ([] : List UInt8)) a0_0 a0_1 a0_2) else (spec_l1Kind.j0 k false a0_0 a0_1 a0_2)) else (spec_l1Kind.j0 k false a0_0 a0_1 a0_2)
theorem spec_l1Kind.mono_l : ∀ k,(∀ y0 y1 y2 y3,LeO (spec_l1Kind.j0 k y0 y1 y2 y3) (spec_l1Kind.j0 (k + 1) y0 y1 y2 y3))∧(∀ y0 y1 y2 y3,LeO (spec_l1Kind.j1 k y0 y1 y2 y3) (spec_l1Kind.j1 (k + 1) y0 y1 y2 y3))
 | 0=>⟨fun _ _ _ _ r h=>by simp [spec_l1Kind.j0] at h,fun _ _ _ _ r h=>by simp [spec_l1Kind.j1] at h⟩
 | k + 1=>by
  obtain ⟨ih0,ih1⟩:=spec_l1Kind.mono_l k
  refine ⟨?_,?_⟩
  ·intro y0 y1 y2 y3
   unfold spec_l1Kind.j0
   repeat' first
   | (with_reducible exact ih0 _ _ _ _)
   | (with_reducible exact ih1 _ _ _ _)
   | (with_reducible exact LeO.refl _)
   | (with_reducible exact LeO.none _)
   | (with_reducible refine LeO.ite ?_ ?_)
   | (with_reducible refine LeO.bind ?_ (fun _=>?_))
   | exact ih0 _ _ _ _
   | exact ih1 _ _ _ _
   | exact LeO.none _
   | refine LeO.ite ?_ ?_
   | refine LeO.bind ?_ (fun _=>?_)
  ·intro y0 y1 y2 y3
   unfold spec_l1Kind.j1
   repeat' first
   | (with_reducible exact ih0 _ _ _ _)
   | (with_reducible exact ih1 _ _ _ _)
   | (with_reducible exact LeO.refl _)
   | (with_reducible exact LeO.none _)
   | (with_reducible refine LeO.ite ?_ ?_)
   | (with_reducible refine LeO.bind ?_ (fun _=>?_))
   | exact ih0 _ _ _ _
   | exact ih1 _ _ _ _
   | exact LeO.none _
   | refine LeO.ite ?_ ?_
   | refine LeO.bind ?_ (fun _=>?_)
theorem spec_l1Kind.mono : ∀ a0 a1 a2 k,LeO (spec_l1Kind.f k a0 a1 a2) (spec_l1Kind.f (k + 1) a0 a1 a2):=by
 intro a0 a1 a2 k
 obtain ⟨ih0,ih1⟩:=spec_l1Kind.mono_l k
 unfold spec_l1Kind.f
 repeat' first
   | (with_reducible exact ih0 _ _ _ _)
   | (with_reducible exact ih1 _ _ _ _)
   | (with_reducible exact LeO.refl _)
   | (with_reducible exact LeO.none _)
   | (with_reducible refine LeO.ite ?_ ?_)
   | (with_reducible refine LeO.bind ?_ (fun _=>?_))
   | exact ih0 _ _ _ _
   | exact ih1 _ _ _ _
   | exact LeO.none _
   | refine LeO.ite ?_ ?_
   | refine LeO.bind ?_ (fun _=>?_)
set_option maxHeartbeats 8000000 in
set_option maxRecDepth 100000 in
theorem spec_l1Kind.calls (k : Nat) (a0_0 : Int) (a0_1 : Int) (a0_2 : ByteArray) (r : Int) (w : World) (h : spec_l1Kind.f k a0_0 a0_1 a0_2 = some r) :
  Calls Try.prog 56 #[.agg #[.int .i64 a0_0,.int .i64 a0_1,.string a0_2]] w fun e w'=>e = .returned (.int .i64 r)∧Below w.heap.size w w':=by
 have hu74:=Try.underlying74
 have HB:=Aside0.mk (Below.refl w.heap.size w)
 have H : (if a0_0 > 0 then (if a0_1 = 0 then (spec_l1Kind.j0 k (a0_2.toList == ([] : List UInt8)) a0_0 a0_1 a0_2) else (spec_l1Kind.j0 k false a0_0 a0_1 a0_2)) else (spec_l1Kind.j0 k false a0_0 a0_1 a0_2)) = some r:=h
 clear h
 have HC2:=Aside0.mk H
 clear H
 go_enter Try.func56,Try.ntmps56
 go_upto_region 1 with (first|((with_reducible refine gate_dst (N:=1) rfl ?_);refine box_event ?hg (N:=1) ?hd (cs:=#[.int .i64 a0_0,.int .i64 a0_1,.string a0_2]) (t:=74) ?hr ?_;(case hd=>rfl);(case hg=>rfl);(case hr=>first|(go_simp;done)|(go_simp;rfl));intro gb131 hg w3 hbox hb;have n0_:=Aside0.mk (below_step (by repeat (first|exact HB.out|apply below_alloc|apply pw_below_drewN|apply below_drew1)) hb);have n1_:=Aside0.mk (hbox);have n2_:=Aside0.mk ((by rw [hg];exact (below_size (by repeat (first|exact HB.out|apply below_alloc|apply pw_below_drewN|apply below_drew1))) : w.heap.size ≤ gb131));have n3_:=Aside0.mk ((by rw [hg];exact (below_size (by repeat (first|exact HB.out|apply below_alloc|apply pw_below_drewN|apply below_drew1))) : w.heap.size ≤ gb131));clear HB;have HB:=n0_;have BK131:=n1_;have GW131:=n2_;have GE131:=n3_;clear n0_ n1_ n2_ n3_;clear hb hbox hg))
 (try simp only [Act.put,List.setIfInBounds_toArray,List.set_cons_zero,List.set_cons_succ])
 go_cut [3] (fun v3 wc=>∃ (kq : Nat) (x3_1 : Bool),v3 = .bool x3_1∧Aside0 (spec_l1Kind.j0 kq x3_1 a0_0 a0_1 a0_2 = some r)∧Aside0 (kq ≤ k)∧Aside0 (wc.heap[gb131]? = some (.cells #[.int .i64 a0_0,.int .i64 a0_1,.string a0_2] 74 (0,0)))∧Aside0 (Below w.heap.size w wc))
 case first =>
  have H:=HC2.out
  clear HC2
  by_cases c4 : a0_0 > 0
  ·rw [if_pos c4] at H
   have c4b0 : decide (0 < a0_0) = true:=decide_eq_true c4
   clear c4
   (first|rw [c4b0]|(simp only [i64_w,i32_w];rw [c4b0])|skip)
   by_cases c5 : a0_1 = 0
   ·rw [if_pos c5] at H
    have c5b0 : (a0_1 == 0) = true:=beq_iff_eq.mpr c5
    have c5b1 : (a0_1 != 0) = false:=bne_eq_false_iff_eq.mpr c5
    clear c5
    have H':=Aside0.mk H
    clear H
    have hcz6_0 : w3.cell? ⟨gb131,0,none⟩ = some (.int .i64 a0_0):=(blk_cell BK131.out 0).trans rfl
    have hcz6_1 : w3.cell? ⟨gb131,1,none⟩ = some (.int .i64 a0_1):=(blk_cell BK131.out 1).trans rfl
    have hcz6_2 : w3.cell? ⟨gb131,2,none⟩ = some (.string a0_2):=(blk_cell BK131.out 2).trans rfl
    have hfz6_0:=blk_frozen BK131.out 0
    have hfz6_1:=blk_frozen BK131.out 1
    have hfz6_2:=blk_frozen BK131.out 2
    go_wp2
    go_meet
    case rel=>exact ⟨_,((a0_2.toList == ([] : List UInt8))),(by first|rfl|(simp;done)|(simp [*];done)),H',⟨by first|omega|exact Nat.le_refl _⟩,⟨by (with_reducible repeat first|apply blk_drewN|apply blk_drew|apply blk_alloc);exact BK131.out⟩,⟨by repeat (first|(with_reducible first|exact HB.out|apply below_alloc|apply pw_below_drewN|apply below_drew1|refine below_set ?_ GE131.out)|exact HB.out)⟩⟩
   ·rw [if_neg c5] at H
    have c5b0 : (a0_1 == 0) = false:=beq_eq_false_iff_ne.mpr c5
    have c5b1 : (a0_1 != 0) = true:=bne_iff_ne.mpr c5
    have H':=Aside0.mk H
    clear H
    have hcz7_0 : w3.cell? ⟨gb131,0,none⟩ = some (.int .i64 a0_0):=(blk_cell BK131.out 0).trans rfl
    have hcz7_1 : w3.cell? ⟨gb131,1,none⟩ = some (.int .i64 a0_1):=(blk_cell BK131.out 1).trans rfl
    have hcz7_2 : w3.cell? ⟨gb131,2,none⟩ = some (.string a0_2):=(blk_cell BK131.out 2).trans rfl
    have hfz7_0:=blk_frozen BK131.out 0
    have hfz7_1:=blk_frozen BK131.out 1
    have hfz7_2:=blk_frozen BK131.out 2
    go_wp2
    go_meet
    case rel=>exact ⟨_,(false),(by first|rfl|(simp;done)|(simp [*];done)),H',⟨by first|omega|exact Nat.le_refl _⟩,⟨by (with_reducible repeat first|apply blk_drewN|apply blk_drew|apply blk_alloc);exact BK131.out⟩,⟨by repeat (first|(with_reducible first|exact HB.out|apply below_alloc|apply pw_below_drewN|apply below_drew1|refine below_set ?_ GE131.out)|exact HB.out)⟩⟩
  ·rw [if_neg c4] at H
   have c4b0 : decide (0 < a0_0) = false:=decide_eq_false c4
   clear c4
   (first|rw [c4b0]|(simp only [i64_w,i32_w];rw [c4b0])|skip)
   have H':=Aside0.mk H
   clear H
   have hcz8_0 : w3.cell? ⟨gb131,0,none⟩ = some (.int .i64 a0_0):=(blk_cell BK131.out 0).trans rfl
   have hcz8_1 : w3.cell? ⟨gb131,1,none⟩ = some (.int .i64 a0_1):=(blk_cell BK131.out 1).trans rfl
   have hcz8_2 : w3.cell? ⟨gb131,2,none⟩ = some (.string a0_2):=(blk_cell BK131.out 2).trans rfl
   have hfz8_0:=blk_frozen BK131.out 0
   have hfz8_1:=blk_frozen BK131.out 1
   have hfz8_2:=blk_frozen BK131.out 2
   go_wp2
   go_meet
   case rel=>exact ⟨_,(false),(by first|rfl|(simp;done)|(simp [*];done)),H',⟨by first|omega|exact Nat.le_refl _⟩,⟨by (with_reducible repeat first|apply blk_drewN|apply blk_drew|apply blk_alloc);exact BK131.out⟩,⟨by repeat (first|(with_reducible first|exact HB.out|apply below_alloc|apply pw_below_drewN|apply below_drew1|refine below_set ?_ GE131.out)|exact HB.out)⟩⟩
 case rest =>
  clear HC2
  try clear p2;try clear c4;try clear c4b0;try clear c5;try clear c5b0;try clear c5b1;try clear hcz6_0;try clear hcz6_1;try clear hcz6_2;try clear hcz7_0;try clear hcz7_1;try clear hcz7_2;try clear hcz8_0;try clear hcz8_1;try clear hcz8_2;try clear hfz6_0;try clear hfz6_1;try clear hfz6_2;try clear hfz7_0;try clear hfz7_1;try clear hfz7_2;try clear hfz8_0;try clear hfz8_1;try clear hfz8_2
  obtain ⟨kq,x3_1,rfl,HA,HJ1,BK131,HB⟩:=hcut
  cases kq with
  | zero=>exact absurd HA.out (by simp [spec_l1Kind.j0])
  | succ kj1 =>
   have H:=HA.out
   clear HA
   simp only [spec_l1Kind.j0] at H
   by_cases c9 : x3_1 = true
   ·subst c9
    have H1 : (some 1) = some r:=by rw [if_pos rfl] at H;exact H
    clear H
    have H:=H1
    clear H1
    obtain rfl:=Option.some.inj H
    go_wp2
    go_ret
    exact ⟨by first|rfl|(simp [*,errW_none,errW_some] <;> rfl),by repeat (first|(with_reducible first|exact HB.out|apply below_alloc|apply pw_below_drewN|apply below_drew1|refine below_set ?_ GE131.out)|exact HB.out)⟩
   ·replace c9:=Bool.eq_false_iff.mpr c9
    subst c9
    have H1 : (if a0_0 = 0 then (if a0_1 > 0 then (spec_l1Kind.j1 kj1 (a0_2.toList == ([] : List UInt8)) a0_0 a0_1 a0_2) else (spec_l1Kind.j1 kj1 false a0_0 a0_1 a0_2)) else (spec_l1Kind.j1 kj1 false a0_0 a0_1 a0_2)) = some r:=by rw [if_neg (show ¬ (false = true) by decide)] at H;exact H
    clear H
    have H:=H1
    clear H1
    have HC10:=Aside0.mk H
    clear H
    go_upto_region 3 with (fail)
    go_cut [17] (fun v17 wc=>∃ (kq : Nat) (x17_9 : Bool),v17 = .bool x17_9∧Aside0 (spec_l1Kind.j1 kq x17_9 a0_0 a0_1 a0_2 = some r)∧Aside0 (kq ≤ kj1)∧Aside0 (wc.heap[gb131]? = some (.cells #[.int .i64 a0_0,.int .i64 a0_1,.string a0_2] 74 (0,0)))∧Aside0 (Below w.heap.size w wc))
    case first =>
     have H:=HC10.out
     clear HC10
     by_cases c11 : a0_0 = 0
     ·rw [if_pos c11] at H
      have c11b0 : (a0_0 == 0) = true:=beq_iff_eq.mpr c11
      have c11b1 : (a0_0 != 0) = false:=bne_eq_false_iff_eq.mpr c11
      clear c11
      (first|rw [c11b0]|(simp only [i64_w,i32_w];rw [c11b0])|skip)
      by_cases c12 : a0_1 > 0
      ·rw [if_pos c12] at H
       have c12b0 : decide (0 < a0_1) = true:=decide_eq_true c12
       clear c12
       have H':=Aside0.mk H
       clear H
       have hcz13_0 : wc.cell? ⟨gb131,0,none⟩ = some (.int .i64 a0_0):=(blk_cell BK131.out 0).trans rfl
       have hcz13_1 : wc.cell? ⟨gb131,1,none⟩ = some (.int .i64 a0_1):=(blk_cell BK131.out 1).trans rfl
       have hcz13_2 : wc.cell? ⟨gb131,2,none⟩ = some (.string a0_2):=(blk_cell BK131.out 2).trans rfl
       have hfz13_0:=blk_frozen BK131.out 0
       have hfz13_1:=blk_frozen BK131.out 1
       have hfz13_2:=blk_frozen BK131.out 2
       go_wp2
       go_meet
       case rel=>exact ⟨_,((a0_2.toList == ([] : List UInt8))),(by first|rfl|(simp;done)|(simp [*];done)),H',⟨by have:=HJ1.out;first|omega|exact Nat.le_refl _⟩,⟨by (with_reducible repeat first|apply blk_drewN|apply blk_drew|apply blk_alloc);exact BK131.out⟩,⟨by repeat (first|(with_reducible first|exact HB.out|apply below_alloc|apply pw_below_drewN|apply below_drew1|refine below_set ?_ GE131.out)|exact HB.out)⟩⟩
      ·rw [if_neg c12] at H
       have c12b0 : decide (0 < a0_1) = false:=decide_eq_false c12
       clear c12
       have H':=Aside0.mk H
       clear H
       have hcz14_0 : wc.cell? ⟨gb131,0,none⟩ = some (.int .i64 a0_0):=(blk_cell BK131.out 0).trans rfl
       have hcz14_1 : wc.cell? ⟨gb131,1,none⟩ = some (.int .i64 a0_1):=(blk_cell BK131.out 1).trans rfl
       have hcz14_2 : wc.cell? ⟨gb131,2,none⟩ = some (.string a0_2):=(blk_cell BK131.out 2).trans rfl
       have hfz14_0:=blk_frozen BK131.out 0
       have hfz14_1:=blk_frozen BK131.out 1
       have hfz14_2:=blk_frozen BK131.out 2
       go_wp2
       go_meet
       case rel=>exact ⟨_,(false),(by first|rfl|(simp;done)|(simp [*];done)),H',⟨by have:=HJ1.out;first|omega|exact Nat.le_refl _⟩,⟨by (with_reducible repeat first|apply blk_drewN|apply blk_drew|apply blk_alloc);exact BK131.out⟩,⟨by repeat (first|(with_reducible first|exact HB.out|apply below_alloc|apply pw_below_drewN|apply below_drew1|refine below_set ?_ GE131.out)|exact HB.out)⟩⟩
     ·rw [if_neg c11] at H
      have c11b0 : (a0_0 == 0) = false:=beq_eq_false_iff_ne.mpr c11
      have c11b1 : (a0_0 != 0) = true:=bne_iff_ne.mpr c11
      (first|rw [c11b0]|(simp only [i64_w,i32_w];rw [c11b0])|skip)
      have H':=Aside0.mk H
      clear H
      have hcz15_0 : wc.cell? ⟨gb131,0,none⟩ = some (.int .i64 a0_0):=(blk_cell BK131.out 0).trans rfl
      have hcz15_1 : wc.cell? ⟨gb131,1,none⟩ = some (.int .i64 a0_1):=(blk_cell BK131.out 1).trans rfl
      have hcz15_2 : wc.cell? ⟨gb131,2,none⟩ = some (.string a0_2):=(blk_cell BK131.out 2).trans rfl
      have hfz15_0:=blk_frozen BK131.out 0
      have hfz15_1:=blk_frozen BK131.out 1
      have hfz15_2:=blk_frozen BK131.out 2
      go_wp2
      go_meet
      case rel=>exact ⟨_,(false),(by first|rfl|(simp;done)|(simp [*];done)),H',⟨by have:=HJ1.out;first|omega|exact Nat.le_refl _⟩,⟨by (with_reducible repeat first|apply blk_drewN|apply blk_drew|apply blk_alloc);exact BK131.out⟩,⟨by repeat (first|(with_reducible first|exact HB.out|apply below_alloc|apply pw_below_drewN|apply below_drew1|refine below_set ?_ GE131.out)|exact HB.out)⟩⟩
    case rest =>
     clear HC10
     try clear c1;try clear p2;try clear c4;try clear c4b0;try clear c5;try clear c5b0;try clear c5b1;try clear c9;try clear c11;try clear c11b0;try clear c11b1;try clear c12;try clear c12b0;try clear hcz13_0;try clear hcz13_1;try clear hcz13_2;try clear hcz14_0;try clear hcz14_1;try clear hcz14_2;try clear hcz15_0;try clear hcz15_1;try clear hcz15_2;try clear hcz6_0;try clear hcz6_1;try clear hcz6_2;try clear hcz7_0;try clear hcz7_1;try clear hcz7_2;try clear hcz8_0;try clear hcz8_1;try clear hcz8_2;try clear hfz13_0;try clear hfz13_1;try clear hfz13_2;try clear hfz14_0;try clear hfz14_1;try clear hfz14_2;try clear hfz15_0;try clear hfz15_1;try clear hfz15_2;try clear hfz6_0;try clear hfz6_1;try clear hfz6_2;try clear hfz7_0;try clear hfz7_1;try clear hfz7_2;try clear hfz8_0;try clear hfz8_1;try clear hfz8_2;try clear p2
     obtain ⟨kq,x17_9,rfl,HA,HJ9,BK131,HB⟩:=hcut
     cases kq with
     | zero=>exact absurd HA.out (by simp [spec_l1Kind.j1])
     | succ kj9 =>
      have H:=HA.out
      clear HA
      simp only [spec_l1Kind.j1] at H
      by_cases c16 : x17_9 = true
      ·subst c16
       have H1 : (some 2) = some r:=by rw [if_pos rfl] at H;exact H
       clear H
       have H:=H1
       clear H1
       obtain rfl:=Option.some.inj H
       go_wp2
       go_ret
       exact ⟨by first|rfl|(simp [*,errW_none,errW_some] <;> rfl),by repeat (first|(with_reducible first|exact HB.out|apply below_alloc|apply pw_below_drewN|apply below_drew1|refine below_set ?_ GE131.out)|exact HB.out)⟩
      ·replace c16:=Bool.eq_false_iff.mpr c16
       subst c16
       have H1 : (if a0_0 = 0 then (if a0_1 = 0 then (if a0_2.toList = ([] : List UInt8) then (some 0) else (some 3)) else (some 0)) else (some 0)) = some r:=by rw [if_neg (show ¬ (false = true) by decide)] at H;exact H
       clear H
       have H:=H1
       clear H1
       by_cases c17 : a0_0 = 0
       ·rw [if_pos c17] at H
        have c17b0 : (a0_0 == 0) = true:=beq_iff_eq.mpr c17
        have c17b1 : (a0_0 != 0) = false:=bne_eq_false_iff_eq.mpr c17
        clear c17
        by_cases c18 : a0_1 = 0
        ·rw [if_pos c18] at H
         have c18b0 : (a0_1 == 0) = true:=beq_iff_eq.mpr c18
         have c18b1 : (a0_1 != 0) = false:=bne_eq_false_iff_eq.mpr c18
         clear c18
         by_cases c19 : a0_2.toList = ([] : List UInt8)
         ·rw [if_pos c19] at H
          have c19b0 : (a0_2.toList == ([] : List UInt8) ) = true:=beq_iff_eq.mpr c19
          have c19b1 : (a0_2.toList != ([] : List UInt8) ) = false:=bne_eq_false_iff_eq.mpr c19
          (try (have c19b2 : a0_2.toList.isEmpty = true:=by simpa using c19))
          clear c19
          obtain rfl:=Option.some.inj H
          have hcz20_0 : wc.cell? ⟨gb131,0,none⟩ = some (.int .i64 a0_0):=(blk_cell BK131.out 0).trans rfl
          have hcz20_1 : wc.cell? ⟨gb131,1,none⟩ = some (.int .i64 a0_1):=(blk_cell BK131.out 1).trans rfl
          have hcz20_2 : wc.cell? ⟨gb131,2,none⟩ = some (.string a0_2):=(blk_cell BK131.out 2).trans rfl
          have hfz20_0:=blk_frozen BK131.out 0
          have hfz20_1:=blk_frozen BK131.out 1
          have hfz20_2:=blk_frozen BK131.out 2
          go_wp2
          go_ret
          exact ⟨by first|rfl|(simp [*,errW_none,errW_some] <;> rfl),by repeat (first|(with_reducible first|exact HB.out|apply below_alloc|apply pw_below_drewN|apply below_drew1|refine below_set ?_ GE131.out)|exact HB.out)⟩
         ·rw [if_neg c19] at H
          have c19b0 : (a0_2.toList == ([] : List UInt8) ) = false:=beq_eq_false_iff_ne.mpr c19
          have c19b1 : (a0_2.toList != ([] : List UInt8) ) = true:=bne_iff_ne.mpr c19
          (try (have c19b2 : a0_2.toList.isEmpty = false:=by simpa using c19))
          obtain rfl:=Option.some.inj H
          have hcz21_0 : wc.cell? ⟨gb131,0,none⟩ = some (.int .i64 a0_0):=(blk_cell BK131.out 0).trans rfl
          have hcz21_1 : wc.cell? ⟨gb131,1,none⟩ = some (.int .i64 a0_1):=(blk_cell BK131.out 1).trans rfl
          have hcz21_2 : wc.cell? ⟨gb131,2,none⟩ = some (.string a0_2):=(blk_cell BK131.out 2).trans rfl
          have hfz21_0:=blk_frozen BK131.out 0
          have hfz21_1:=blk_frozen BK131.out 1
          have hfz21_2:=blk_frozen BK131.out 2
          go_wp2
          go_ret
          exact ⟨by first|rfl|(simp [*,errW_none,errW_some] <;> rfl),by repeat (first|(with_reducible first|exact HB.out|apply below_alloc|apply pw_below_drewN|apply below_drew1|refine below_set ?_ GE131.out)|exact HB.out)⟩
        ·rw [if_neg c18] at H
         have c18b0 : (a0_1 == 0) = false:=beq_eq_false_iff_ne.mpr c18
         have c18b1 : (a0_1 != 0) = true:=bne_iff_ne.mpr c18
         obtain rfl:=Option.some.inj H
         have hcz22_0 : wc.cell? ⟨gb131,0,none⟩ = some (.int .i64 a0_0):=(blk_cell BK131.out 0).trans rfl
         have hcz22_1 : wc.cell? ⟨gb131,1,none⟩ = some (.int .i64 a0_1):=(blk_cell BK131.out 1).trans rfl
         have hcz22_2 : wc.cell? ⟨gb131,2,none⟩ = some (.string a0_2):=(blk_cell BK131.out 2).trans rfl
         have hfz22_0:=blk_frozen BK131.out 0
         have hfz22_1:=blk_frozen BK131.out 1
         have hfz22_2:=blk_frozen BK131.out 2
         go_wp2
         go_ret
         exact ⟨by first|rfl|(simp [*,errW_none,errW_some] <;> rfl),by repeat (first|(with_reducible first|exact HB.out|apply below_alloc|apply pw_below_drewN|apply below_drew1|refine below_set ?_ GE131.out)|exact HB.out)⟩
       ·rw [if_neg c17] at H
        have c17b0 : (a0_0 == 0) = false:=beq_eq_false_iff_ne.mpr c17
        have c17b1 : (a0_0 != 0) = true:=bne_iff_ne.mpr c17
        obtain rfl:=Option.some.inj H
        have hcz23_0 : wc.cell? ⟨gb131,0,none⟩ = some (.int .i64 a0_0):=(blk_cell BK131.out 0).trans rfl
        have hcz23_1 : wc.cell? ⟨gb131,1,none⟩ = some (.int .i64 a0_1):=(blk_cell BK131.out 1).trans rfl
        have hcz23_2 : wc.cell? ⟨gb131,2,none⟩ = some (.string a0_2):=(blk_cell BK131.out 2).trans rfl
        have hfz23_0:=blk_frozen BK131.out 0
        have hfz23_1:=blk_frozen BK131.out 1
        have hfz23_2:=blk_frozen BK131.out 2
        go_wp2
        go_ret
        exact ⟨by first|rfl|(simp [*,errW_none,errW_some] <;> rfl),by repeat (first|(with_reducible first|exact HB.out|apply below_alloc|apply pw_below_drewN|apply below_drew1|refine below_set ?_ GE131.out)|exact HB.out)⟩

/-! ### spec_GoodChange: function 16 -/
mutual
def spec_GoodChange.l0 : Nat → List (S74) → Int → Int → List (S74) → Int → Int → Option (Bool)
 | 0,_,_,_,_,_,_=>none
 | k + 1,x0,x3,x4,x8,x9,x10=>if x10 < x9 then (if 0 ≤ x10 then (if x10 < (x8.length : Int) then ((spec_l1Kind.f k ((rd_T74 x8 x10).f0) ((rd_T74 x8 x10).f1) ((rd_T74 x8 x10).f2)).bind fun t134=>(if t134 = 0 then (spec_GoodChange.j1 k x0 x3 x4 x8 x9 x10 true ((rd_T74 x8 x10).f0) ((rd_T74 x8 x10).f1) ((rd_T74 x8 x10).f2)) else (if x10 > 0 then (if 0 ≤ (wrap64 (x10 - 1)) then (if (wrap64 (x10 - 1)) < (x0.length : Int) then ((spec_l1Kind.f k ((rd_T74 x0 (wrap64 (x10 - 1))).f0) ((rd_T74 x0 (wrap64 (x10 - 1))).f1) ((rd_T74 x0 (wrap64 (x10 - 1))).f2)).bind fun t136=>(if t136 = t134 then (spec_GoodChange.j1 k x0 x3 x4 x8 x9 x10 true ((rd_T74 x8 x10).f0) ((rd_T74 x8 x10).f1) ((rd_T74 x8 x10).f2)) else (if ((rd_T74 x8 x10).f0) > 120 then (spec_GoodChange.j1 k x0 x3 x4 x8 x9 x10 true ((rd_T74 x8 x10).f0) ((rd_T74 x8 x10).f1) ((rd_T74 x8 x10).f2)) else (if ((rd_T74 x8 x10).f1) > 120 then (spec_GoodChange.j1 k x0 x3 x4 x8 x9 x10 true ((rd_T74 x8 x10).f0) ((rd_T74 x8 x10).f1) ((rd_T74 x8 x10).f2)) else (spec_GoodChange.j1 k x0 x3 x4 x8 x9 x10 (decide ((((rd_T74 x8 x10).f2).size : Int) > 120)) ((rd_T74 x8 x10).f0) ((rd_T74 x8 x10).f1) ((rd_T74 x8 x10).f2)))))) else (none)) else (none)) else (if ((rd_T74 x8 x10).f0) > 120 then (spec_GoodChange.j1 k x0 x3 x4 x8 x9 x10 true ((rd_T74 x8 x10).f0) ((rd_T74 x8 x10).f1) ((rd_T74 x8 x10).f2)) else (if ((rd_T74 x8 x10).f1) > 120 then (spec_GoodChange.j1 k x0 x3 x4 x8 x9 x10 true ((rd_T74 x8 x10).f0) ((rd_T74 x8 x10).f1) ((rd_T74 x8 x10).f2)) else (spec_GoodChange.j1 k x0 x3 x4 x8 x9 x10 (decide ((((rd_T74 x8 x10).f2).size : Int) > 120)) ((rd_T74 x8 x10).f0) ((rd_T74 x8 x10).f1) ((rd_T74 x8 x10).f2))))))) else (none)) else (none)) else (some true)
def spec_GoodChange.j1 : Nat → List (S74) → Int → Int → List (S74) → Int → Int → Bool → Int → Int → ByteArray → Option (Bool)
 | 0,_,_,_,_,_,_,_,_,_,_=>none
 | k + 1,x0,x3,x4,x8,x9,x10,x48,x134000,x134001,x134002=>if x48 = true then (some false) else (if (wrap64 (x3 + (wrap64 (x134000 + x134001)))) > 120 then (some false) else (if (wrap64 (x4 + (wrap64 (x134000 + (x134002.size : Int))))) > 120 then (some false) else (spec_GoodChange.l0 k x0 (wrap64 (x3 + (wrap64 (x134000 + x134001)))) (wrap64 (x4 + (wrap64 (x134000 + (x134002.size : Int))))) x8 x9 (wrap64 (x10 + 1)))))
end
def spec_GoodChange.f (k : Nat) (l0 : List (S74)) : Option (Bool):=spec_GoodChange.l0 k l0 0 0 l0 (l0.length : Int) 0
theorem spec_GoodChange.mono_l : ∀ k,(∀ y0 y1 y2 y3 y4 y5,LeO (spec_GoodChange.l0 k y0 y1 y2 y3 y4 y5) (spec_GoodChange.l0 (k + 1) y0 y1 y2 y3 y4 y5))∧(∀ y0 y1 y2 y3 y4 y5 y6 y7 y8 y9,LeO (spec_GoodChange.j1 k y0 y1 y2 y3 y4 y5 y6 y7 y8 y9) (spec_GoodChange.j1 (k + 1) y0 y1 y2 y3 y4 y5 y6 y7 y8 y9))
 | 0=>⟨fun _ _ _ _ _ _ r h=>by simp [spec_GoodChange.l0] at h,fun _ _ _ _ _ _ _ _ _ _ r h=>by simp [spec_GoodChange.j1] at h⟩
 | k + 1=>by
  obtain ⟨ih0,ih1⟩:=spec_GoodChange.mono_l k
  refine ⟨?_,?_⟩
  ·intro y0 y1 y2 y3 y4 y5
   unfold spec_GoodChange.l0
   repeat' first
   | (with_reducible exact ih0 _ _ _ _ _ _)
   | (with_reducible exact ih1 _ _ _ _ _ _ _ _ _ _)
   | (with_reducible exact spec_l1Kind.mono _ _ _ _)
   | (with_reducible exact LeO.refl _)
   | (with_reducible exact LeO.none _)
   | (with_reducible refine LeO.ite ?_ ?_)
   | (with_reducible refine LeO.bind ?_ (fun _=>?_))
   | exact ih0 _ _ _ _ _ _
   | exact ih1 _ _ _ _ _ _ _ _ _ _
   | exact spec_l1Kind.mono _ _ _ _
   | exact LeO.none _
   | refine LeO.ite ?_ ?_
   | refine LeO.bind ?_ (fun _=>?_)
  ·intro y0 y1 y2 y3 y4 y5 y6 y7 y8 y9
   unfold spec_GoodChange.j1
   repeat' first
   | (with_reducible exact ih0 _ _ _ _ _ _)
   | (with_reducible exact ih1 _ _ _ _ _ _ _ _ _ _)
   | (with_reducible exact spec_l1Kind.mono _ _ _ _)
   | (with_reducible exact LeO.refl _)
   | (with_reducible exact LeO.none _)
   | (with_reducible refine LeO.ite ?_ ?_)
   | (with_reducible refine LeO.bind ?_ (fun _=>?_))
   | exact ih0 _ _ _ _ _ _
   | exact ih1 _ _ _ _ _ _ _ _ _ _
   | exact spec_l1Kind.mono _ _ _ _
   | exact LeO.none _
   | refine LeO.ite ?_ ?_
   | refine LeO.bind ?_ (fun _=>?_)
theorem spec_GoodChange.mono : ∀ a0 k,LeO (spec_GoodChange.f k a0) (spec_GoodChange.f (k + 1) a0):=by
 intro a0 k
 obtain ⟨ih0,ih1⟩:=spec_GoodChange.mono_l k
 unfold spec_GoodChange.f
 repeat' first
   | (with_reducible exact ih0 _ _ _ _ _ _)
   | (with_reducible exact ih1 _ _ _ _ _ _ _ _ _ _)
   | (with_reducible exact spec_l1Kind.mono _ _ _ _)
   | (with_reducible exact LeO.refl _)
   | (with_reducible exact LeO.none _)
   | (with_reducible refine LeO.ite ?_ ?_)
   | (with_reducible refine LeO.bind ?_ (fun _=>?_))
   | exact ih0 _ _ _ _ _ _
   | exact ih1 _ _ _ _ _ _ _ _ _ _
   | exact spec_l1Kind.mono _ _ _ _
   | exact LeO.none _
   | refine LeO.ite ?_ ?_
   | refine LeO.bind ?_ (fun _=>?_)
set_option maxHeartbeats 8000000 in
set_option maxRecDepth 100000 in
theorem spec_GoodChange.calls (k : Nat) (A0 : Option Addr) (c0 : Nat) (l0 : List (S74)) (r : Bool) (w : World) (hr0 : Kd.C k74 w A0 l0.length l0) (hc0 : l0.length ≤ c0) (h : spec_GoodChange.f k l0 = some r) :
  Calls Try.prog 16 #[.slice A0 l0.length c0] w fun e w'=>e = .returned (.bool r)∧Below w.heap.size w w':=by
 have hu74:=Try.underlying74
 have HR0:=Aside0.mk hr0
 have HC0:=Aside0.mk hc0
 clear hr0 hc0
 have HB:=Aside0.mk (Below.refl w.heap.size w)
 have H : (spec_GoodChange.l0 k l0 0 0 l0 (l0.length : Int) 0) = some r:=h
 clear h
 have H':=Aside0.mk H
 clear H
 go_enter Try.func16,Try.ntmps16
 go_wp2
 go_loopg [3,4,10] k (fun kq v3 v4 v10 w'=>∃ (x3_1 : Int) (x4_1 : Int) (x10_1 : Int),v3 = .int .i64 x3_1∧v4 = .int .i64 x4_1∧v10 = .int .i64 x10_1∧Aside0 (spec_GoodChange.l0 kq l0 x3_1 x4_1 l0 (l0.length : Int) x10_1 = some r)∧Aside0 (kq ≤ k)∧Aside0 (Below w.heap.size w w'))
 case atStart=>exact ⟨(0),(0),(0),(by first|rfl|(simp;done)|(simp [*];done)),(by first|rfl|(simp;done)|(simp [*];done)),(by first|rfl|(simp;done)|(simp [*];done)),H',⟨Nat.le_refl _⟩,⟨by repeat (first|exact HB.out|apply below_alloc|apply pw_below_drewN|apply below_drew1)⟩⟩
 case round =>
  clear H'
  try clear c1
  obtain ⟨x3_1,x4_1,x10_1,rfl,rfl,rfl,HA,HK1,HB⟩:=hrel
  cases gk with
  | zero=>exact absurd HA.out (by simp [spec_GoodChange.l0])
  | succ k1 =>
   have H:=HA.out
   clear HA
   simp only [spec_GoodChange.l0] at H
   by_cases c2 : x10_1 < (l0.length : Int)
   ·rw [if_pos c2] at H
    have c2b0 : decide (x10_1 < (l0.length : Int)) = true:=decide_eq_true c2
    clear c2
    by_cases c3 : 0 ≤ x10_1
    ·rw [if_pos c3] at H
     have c3b0 : decide (0 ≤ x10_1) = true:=decide_eq_true c3
     clear c3
     by_cases c4 : x10_1 < (l0.length : Int)
     ·rw [if_pos c4] at H
      have c4b0 : decide (x10_1 < (l0.length : Int)) = true:=decide_eq_true c4
      clear c4
      replace H:=Option.bind_eq_some_iff.mp H
      obtain ⟨t134,A50,H⟩:=H
      replace H : (if t134 = 0 then (spec_GoodChange.j1 k1 l0 x3_1 x4_1 l0 (l0.length : Int) x10_1 true ((rd_T74 l0 x10_1).f0) ((rd_T74 l0 x10_1).f1) ((rd_T74 l0 x10_1).f2)) else (if x10_1 > 0 then (if 0 ≤ (wrap64 (x10_1 - 1)) then (if (wrap64 (x10_1 - 1)) < (l0.length : Int) then ((spec_l1Kind.f k1 ((rd_T74 l0 (wrap64 (x10_1 - 1))).f0) ((rd_T74 l0 (wrap64 (x10_1 - 1))).f1) ((rd_T74 l0 (wrap64 (x10_1 - 1))).f2)).bind fun t136=>(if t136 = t134 then (spec_GoodChange.j1 k1 l0 x3_1 x4_1 l0 (l0.length : Int) x10_1 true ((rd_T74 l0 x10_1).f0) ((rd_T74 l0 x10_1).f1) ((rd_T74 l0 x10_1).f2)) else (if ((rd_T74 l0 x10_1).f0) > 120 then (spec_GoodChange.j1 k1 l0 x3_1 x4_1 l0 (l0.length : Int) x10_1 true ((rd_T74 l0 x10_1).f0) ((rd_T74 l0 x10_1).f1) ((rd_T74 l0 x10_1).f2)) else (if ((rd_T74 l0 x10_1).f1) > 120 then (spec_GoodChange.j1 k1 l0 x3_1 x4_1 l0 (l0.length : Int) x10_1 true ((rd_T74 l0 x10_1).f0) ((rd_T74 l0 x10_1).f1) ((rd_T74 l0 x10_1).f2)) else (spec_GoodChange.j1 k1 l0 x3_1 x4_1 l0 (l0.length : Int) x10_1 (decide ((((rd_T74 l0 x10_1).f2).size : Int) > 120)) ((rd_T74 l0 x10_1).f0) ((rd_T74 l0 x10_1).f1) ((rd_T74 l0 x10_1).f2)))))) else (none)) else (none)) else (if ((rd_T74 l0 x10_1).f0) > 120 then (spec_GoodChange.j1 k1 l0 x3_1 x4_1 l0 (l0.length : Int) x10_1 true ((rd_T74 l0 x10_1).f0) ((rd_T74 l0 x10_1).f1) ((rd_T74 l0 x10_1).f2)) else (if ((rd_T74 l0 x10_1).f1) > 120 then (spec_GoodChange.j1 k1 l0 x3_1 x4_1 l0 (l0.length : Int) x10_1 true ((rd_T74 l0 x10_1).f0) ((rd_T74 l0 x10_1).f1) ((rd_T74 l0 x10_1).f2)) else (spec_GoodChange.j1 k1 l0 x3_1 x4_1 l0 (l0.length : Int) x10_1 (decide ((((rd_T74 l0 x10_1).f2).size : Int) > 120)) ((rd_T74 l0 x10_1).f0) ((rd_T74 l0 x10_1).f1) ((rd_T74 l0 x10_1).f2)))))) = some r:=H
      have A5:=Aside0.mk A50
      clear A50
      have HC6:=Aside0.mk H
      clear H
      have p132 : 0 ≤ (x10_1 : Int):=of_decide_eq_true (by assumption)
      have q132 : x10_1 < (l0.length : Int):=of_decide_eq_true (by assumption)
      obtain ⟨ad132,e132,hx132_0,hx132_1,hx132_2⟩:=at_T74 HR0.out x10_1 p132 q132
      cases e132
      (try replace hx132_0:=(HB.out.cell (World.block_lt_of_cell? w _ hx132_0)).trans hx132_0)
      (try replace hx132_1:=(HB.out.cell (World.block_lt_of_cell? w _ hx132_1)).trans hx132_1)
      (try replace hx132_2:=(HB.out.cell (World.block_lt_of_cell? w _ hx132_2)).trans hx132_2)
      replace p132:=eq_true p132
      replace q132:=eq_true q132
      go_upto_region 7 with (first|((with_reducible refine gate_dst (N:=6) rfl ?_);(try (refine gate_guard (by rfl) ?_;dsimp only));refine box_event ?hg (N:=6) ?hd (cs:=#[.int .i64 0,.int .i64 0,.string (⟨#[]⟩ : ByteArray)]) (t:=74) ?hr ?_;(case hd=>rfl);(case hg=>rfl);(case hr=>first|(go_simp;done)|(go_simp;rfl));intro gb133 hg w7 hbox hb;have n0_:=Aside0.mk (below_step (by repeat (first|exact HB.out|apply below_alloc|apply pw_below_drewN|apply below_drew1)) hb);have n1_:=Aside0.mk (hbox);have n2_:=Aside0.mk ((by rw [hg];exact (below_size (by repeat (first|exact HB.out|apply below_alloc|apply pw_below_drewN|apply below_drew1))) : w.heap.size ≤ gb133));have n3_:=Aside0.mk ((by rw [hg];exact (below_size (by repeat (first|exact HB.out|apply below_alloc|apply pw_below_drewN|apply below_drew1))) : w.heap.size ≤ gb133));clear HB;have HB:=n0_;have BK133:=n1_;have GW133:=n2_;have GE133:=n3_;clear n0_ n1_ n2_ n3_;clear hb hbox hg;have hcz8_0 : w7.cell? ⟨gb133,0,none⟩ = some (.int .i64 0):=(blk_cell BK133.out 0).trans rfl;have hcz8_1 : w7.cell? ⟨gb133,1,none⟩ = some (.int .i64 0):=(blk_cell BK133.out 1).trans rfl;have hcz8_2 : w7.cell? ⟨gb133,2,none⟩ = some (.string (⟨#[]⟩ : ByteArray)):=(blk_cell BK133.out 2).trans rfl;have hfz8_0:=blk_frozen BK133.out 0;have hfz8_1:=blk_frozen BK133.out 1;have hfz8_2:=blk_frozen BK133.out 2)|((with_reducible refine gate_callee (f:=56) rfl ?_);refine goesL_ (some 16) rfl rfl Try.func56 (by kernel_rfl) rfl #[.agg #[.int .i64 ((rd_T74 l0 x10_1).f0),.int .i64 ((rd_T74 l0 x10_1).f1),.string ((rd_T74 l0 x10_1).f2)]] rfl (by (try simp only [List.map_toArray,List.map_cons,List.map_nil]);first|done|rfl|(simp only [List.length_drop,List.length_take];rfl)) ?_;(with_reducible refine (spec_l1Kind.calls k1 ((rd_T74 l0 x10_1).f0) ((rd_T74 l0 x10_1).f1) ((rd_T74 l0 x10_1).f2) t134 _ A5.out).mono ?_);rintro e w9 ⟨rfl,hb⟩;refine ⟨_,rfl,?_⟩;have n0_:=Aside0.mk (blk_below (g:=gb133) (o:=.cells #[.int .i64 ((rd_T74 l0 x10_1).f0),.int .i64 ((rd_T74 l0 x10_1).f1),.string ((rd_T74 l0 x10_1).f2)] 74 (0,0)) (by (with_reducible repeat first|apply blk_drewN|apply blk_drew|apply blk_alloc);refine blk_put (cs:=#[.int .i64 ((rd_T74 l0 x10_1).f0),.int .i64 ((rd_T74 l0 x10_1).f1),.string (⟨#[]⟩ : ByteArray)]) ?_ 2 _ rfl;(with_reducible repeat first|apply blk_drewN|apply blk_drew|apply blk_alloc);refine blk_put (cs:=#[.int .i64 ((rd_T74 l0 x10_1).f0),.int .i64 0,.string (⟨#[]⟩ : ByteArray)]) ?_ 1 _ rfl;(with_reducible repeat first|apply blk_drewN|apply blk_drew|apply blk_alloc);refine blk_put (cs:=#[.int .i64 0,.int .i64 0,.string (⟨#[]⟩ : ByteArray)]) ?_ 0 _ rfl;(with_reducible repeat first|apply blk_drewN|apply blk_drew|apply blk_alloc);exact BK133.out) hb);have n1_:=Aside0.mk (below_step (by repeat (first|(with_reducible first|exact HB.out|apply below_alloc|apply pw_below_drewN|apply below_drew1|refine below_set ?_ GE133.out)|exact HB.out)) hb);clear BK133;clear HB;have BK133:=n0_;have HB:=n1_;clear n0_ n1_;(try clear hb);(try clear hb2);(try clear hk);(try clear hi)))
      (try simp only [Act.put,List.setIfInBounds_toArray,List.set_cons_zero,List.set_cons_succ])
      go_cut [48] (fun v48 wc=>∃ (kq : Nat) (x48_5 : Bool),v48 = .bool x48_5∧Aside0 (spec_GoodChange.j1 kq l0 x3_1 x4_1 l0 (l0.length : Int) x10_1 x48_5 ((rd_T74 l0 x10_1).f0) ((rd_T74 l0 x10_1).f1) ((rd_T74 l0 x10_1).f2) = some r)∧Aside0 (kq ≤ k1)∧Aside0 (wc.heap[gb133]? = some (.cells #[.int .i64 ((rd_T74 l0 x10_1).f0),.int .i64 ((rd_T74 l0 x10_1).f1),.string ((rd_T74 l0 x10_1).f2)] 74 (0,0)))∧Aside0 (Below w.heap.size w wc))
      case first =>
       have H:=HC6.out
       clear HC6
       by_cases c10 : t134 = 0
       ·rw [if_pos c10] at H
        have c10b0 : (t134 == 0) = true:=beq_iff_eq.mpr c10
        have c10b1 : (t134 != 0) = false:=bne_eq_false_iff_eq.mpr c10
        clear c10
        (first|rw [c10b0]|(simp only [i64_w,i32_w];rw [c10b0])|skip)
        have H':=Aside0.mk H
        clear H
        go_wp2
        go_meet
        case rel=>exact ⟨_,(true),(by first|rfl|(simp;done)|(simp [*];done)),H',⟨by have:=HK1.out;first|omega|exact Nat.le_refl _⟩,⟨by (with_reducible repeat first|apply blk_drewN|apply blk_drew|apply blk_alloc);exact BK133.out⟩,⟨by repeat (first|(with_reducible first|exact HB.out|apply below_alloc|apply pw_below_drewN|apply below_drew1|refine below_set ?_ GE133.out)|exact HB.out)⟩⟩
       ·rw [if_neg c10] at H
        have c10b0 : (t134 == 0) = false:=beq_eq_false_iff_ne.mpr c10
        have c10b1 : (t134 != 0) = true:=bne_iff_ne.mpr c10
        (first|rw [c10b0]|(simp only [i64_w,i32_w];rw [c10b0])|skip)
        by_cases c11 : x10_1 > 0
        ·rw [if_pos c11] at H
         have c11b0 : decide (0 < x10_1) = true:=decide_eq_true c11
         clear c11
         obtain ⟨ji12,hji12⟩ : ∃ j_ : Int,(wrap64 (x10_1 - 1)) = j_:=⟨_,rfl⟩
         replace H : (if 0 ≤ (ji12) then (if (ji12) < (l0.length : Int) then ((spec_l1Kind.f k1 ((rd_T74 l0 (ji12)).f0) ((rd_T74 l0 (ji12)).f1) ((rd_T74 l0 (ji12)).f2)).bind fun t136=>(if t136 = t134 then (spec_GoodChange.j1 k1 l0 x3_1 x4_1 l0 (l0.length : Int) x10_1 true ((rd_T74 l0 x10_1).f0) ((rd_T74 l0 x10_1).f1) ((rd_T74 l0 x10_1).f2)) else (if ((rd_T74 l0 x10_1).f0) > 120 then (spec_GoodChange.j1 k1 l0 x3_1 x4_1 l0 (l0.length : Int) x10_1 true ((rd_T74 l0 x10_1).f0) ((rd_T74 l0 x10_1).f1) ((rd_T74 l0 x10_1).f2)) else (if ((rd_T74 l0 x10_1).f1) > 120 then (spec_GoodChange.j1 k1 l0 x3_1 x4_1 l0 (l0.length : Int) x10_1 true ((rd_T74 l0 x10_1).f0) ((rd_T74 l0 x10_1).f1) ((rd_T74 l0 x10_1).f2)) else (spec_GoodChange.j1 k1 l0 x3_1 x4_1 l0 (l0.length : Int) x10_1 (decide ((((rd_T74 l0 x10_1).f2).size : Int) > 120)) ((rd_T74 l0 x10_1).f0) ((rd_T74 l0 x10_1).f1) ((rd_T74 l0 x10_1).f2)))))) else (none)) else (none)) = some r:=by first|(rw [hji12] at H;exact H)|(simp only [hji12] at H ⊢;exact H)
         have hji12w : (IntKind.i64.wrap (x10_1 - 1)) = ji12:=(i64_w _).trans hji12
         by_cases c13 : 0 ≤ (ji12)
         ·rw [if_pos c13] at H
          have c13b0 : decide (0 ≤ (ji12)) = true:=decide_eq_true c13
          clear c13
          by_cases c14 : (ji12) < (l0.length : Int)
          ·rw [if_pos c14] at H
           have c14b0 : decide ((ji12) < (l0.length : Int)) = true:=decide_eq_true c14
           clear c14
           replace H:=Option.bind_eq_some_iff.mp H
           obtain ⟨t136,A150,H⟩:=H
           replace H : (if t136 = t134 then (spec_GoodChange.j1 k1 l0 x3_1 x4_1 l0 (l0.length : Int) x10_1 true ((rd_T74 l0 x10_1).f0) ((rd_T74 l0 x10_1).f1) ((rd_T74 l0 x10_1).f2)) else (if ((rd_T74 l0 x10_1).f0) > 120 then (spec_GoodChange.j1 k1 l0 x3_1 x4_1 l0 (l0.length : Int) x10_1 true ((rd_T74 l0 x10_1).f0) ((rd_T74 l0 x10_1).f1) ((rd_T74 l0 x10_1).f2)) else (if ((rd_T74 l0 x10_1).f1) > 120 then (spec_GoodChange.j1 k1 l0 x3_1 x4_1 l0 (l0.length : Int) x10_1 true ((rd_T74 l0 x10_1).f0) ((rd_T74 l0 x10_1).f1) ((rd_T74 l0 x10_1).f2)) else (spec_GoodChange.j1 k1 l0 x3_1 x4_1 l0 (l0.length : Int) x10_1 (decide ((((rd_T74 l0 x10_1).f2).size : Int) > 120)) ((rd_T74 l0 x10_1).f0) ((rd_T74 l0 x10_1).f1) ((rd_T74 l0 x10_1).f2))))) = some r:=H
           have A15:=Aside0.mk A150
           clear A150
           by_cases c16 : t136 = t134
           ·rw [if_pos c16] at H
            have c16b0 : (t136 == t134) = true:=beq_iff_eq.mpr c16
            have c16b1 : (t136 != t134) = false:=bne_eq_false_iff_eq.mpr c16
            clear c16
            have H':=Aside0.mk H
            clear H
            have p135 : 0 ≤ ((ji12) : Int):=of_decide_eq_true (by assumption)
            have q135 : (ji12) < (l0.length : Int):=of_decide_eq_true (by assumption)
            obtain ⟨ad135,e135,hx135_0,hx135_1,hx135_2⟩:=at_T74 HR0.out (ji12) p135 q135
            obtain rfl : ad132 = ad135:=(by injection e135)
            (try replace hx135_0:=(HB.out.cell (World.block_lt_of_cell? w _ hx135_0)).trans hx135_0)
            (try replace hx135_1:=(HB.out.cell (World.block_lt_of_cell? w _ hx135_1)).trans hx135_1)
            (try replace hx135_2:=(HB.out.cell (World.block_lt_of_cell? w _ hx135_2)).trans hx135_2)
            replace p135:=eq_true p135
            replace q135:=eq_true q135
            go_wp2_with (first|(go_at_call 56;(with_reducible refine (spec_l1Kind.calls k1 ((rd_T74 l0 (ji12)).f0) ((rd_T74 l0 (ji12)).f1) ((rd_T74 l0 (ji12)).f2) t136 _ A15.out).mono ?_);rintro e w17 ⟨rfl,hb⟩;have n0_:=Aside0.mk (blk_below (g:=gb133) (o:=.cells #[.int .i64 ((rd_T74 l0 x10_1).f0),.int .i64 ((rd_T74 l0 x10_1).f1),.string ((rd_T74 l0 x10_1).f2)] 74 (0,0)) (by (with_reducible repeat first|apply blk_drewN|apply blk_drew|apply blk_alloc);exact BK133.out) hb);have n1_:=Aside0.mk (below_step (by repeat (first|(with_reducible first|exact HB.out|apply below_alloc|apply pw_below_drewN|apply below_drew1|refine below_set ?_ GE133.out)|exact HB.out)) hb);clear BK133;clear HB;have BK133:=n0_;have HB:=n1_;clear n0_ n1_;(try clear hb);(try clear hb2);(try clear hk);(try clear hi)))
            go_meet
            case rel=>exact ⟨_,(true),(by first|rfl|(simp;done)|(simp [*];done)),H',⟨by have:=HK1.out;first|omega|exact Nat.le_refl _⟩,⟨by (with_reducible repeat first|apply blk_drewN|apply blk_drew|apply blk_alloc);exact BK133.out⟩,⟨by repeat (first|(with_reducible first|exact HB.out|apply below_alloc|apply pw_below_drewN|apply below_drew1|refine below_set ?_ GE133.out)|exact HB.out)⟩⟩
           ·rw [if_neg c16] at H
            have c16b0 : (t136 == t134) = false:=beq_eq_false_iff_ne.mpr c16
            have c16b1 : (t136 != t134) = true:=bne_iff_ne.mpr c16
            by_cases c18 : ((rd_T74 l0 x10_1).f0) > 120
            ·rw [if_pos c18] at H
             have c18b0 : decide (120 < ((rd_T74 l0 x10_1).f0)) = true:=decide_eq_true c18
             clear c18
             have H':=Aside0.mk H
             clear H
             have p135 : 0 ≤ ((ji12) : Int):=of_decide_eq_true (by assumption)
             have q135 : (ji12) < (l0.length : Int):=of_decide_eq_true (by assumption)
             obtain ⟨ad135,e135,hx135_0,hx135_1,hx135_2⟩:=at_T74 HR0.out (ji12) p135 q135
             obtain rfl : ad132 = ad135:=(by injection e135)
             (try replace hx135_0:=(HB.out.cell (World.block_lt_of_cell? w _ hx135_0)).trans hx135_0)
             (try replace hx135_1:=(HB.out.cell (World.block_lt_of_cell? w _ hx135_1)).trans hx135_1)
             (try replace hx135_2:=(HB.out.cell (World.block_lt_of_cell? w _ hx135_2)).trans hx135_2)
             replace p135:=eq_true p135
             replace q135:=eq_true q135
             go_wp2_with (first|(go_at_call 56;(with_reducible refine (spec_l1Kind.calls k1 ((rd_T74 l0 (ji12)).f0) ((rd_T74 l0 (ji12)).f1) ((rd_T74 l0 (ji12)).f2) t136 _ A15.out).mono ?_);rintro e w19 ⟨rfl,hb⟩;have n0_:=Aside0.mk (blk_below (g:=gb133) (o:=.cells #[.int .i64 ((rd_T74 l0 x10_1).f0),.int .i64 ((rd_T74 l0 x10_1).f1),.string ((rd_T74 l0 x10_1).f2)] 74 (0,0)) (by (with_reducible repeat first|apply blk_drewN|apply blk_drew|apply blk_alloc);exact BK133.out) hb);have n1_:=Aside0.mk (below_step (by repeat (first|(with_reducible first|exact HB.out|apply below_alloc|apply pw_below_drewN|apply below_drew1|refine below_set ?_ GE133.out)|exact HB.out)) hb);clear BK133;clear HB;have BK133:=n0_;have HB:=n1_;clear n0_ n1_;(try clear hb);(try clear hb2);(try clear hk);(try clear hi);have hcz20_0 : w19.cell? ⟨gb133,0,none⟩ = some (.int .i64 ((rd_T74 l0 x10_1).f0)):=(blk_cell BK133.out 0).trans rfl;have hcz20_1 : w19.cell? ⟨gb133,1,none⟩ = some (.int .i64 ((rd_T74 l0 x10_1).f1)):=(blk_cell BK133.out 1).trans rfl;have hcz20_2 : w19.cell? ⟨gb133,2,none⟩ = some (.string ((rd_T74 l0 x10_1).f2)):=(blk_cell BK133.out 2).trans rfl;have hfz20_0:=blk_frozen BK133.out 0;have hfz20_1:=blk_frozen BK133.out 1;have hfz20_2:=blk_frozen BK133.out 2))
             go_meet
             case rel=>exact ⟨_,(true),(by first|rfl|(simp;done)|(simp [*];done)),H',⟨by have:=HK1.out;first|omega|exact Nat.le_refl _⟩,⟨by (with_reducible repeat first|apply blk_drewN|apply blk_drew|apply blk_alloc);exact BK133.out⟩,⟨by repeat (first|(with_reducible first|exact HB.out|apply below_alloc|apply pw_below_drewN|apply below_drew1|refine below_set ?_ GE133.out)|exact HB.out)⟩⟩
            ·rw [if_neg c18] at H
             have c18b0 : decide (120 < ((rd_T74 l0 x10_1).f0)) = false:=decide_eq_false c18
             clear c18
             by_cases c21 : ((rd_T74 l0 x10_1).f1) > 120
             ·rw [if_pos c21] at H
              have c21b0 : decide (120 < ((rd_T74 l0 x10_1).f1)) = true:=decide_eq_true c21
              clear c21
              have H':=Aside0.mk H
              clear H
              have p135 : 0 ≤ ((ji12) : Int):=of_decide_eq_true (by assumption)
              have q135 : (ji12) < (l0.length : Int):=of_decide_eq_true (by assumption)
              obtain ⟨ad135,e135,hx135_0,hx135_1,hx135_2⟩:=at_T74 HR0.out (ji12) p135 q135
              obtain rfl : ad132 = ad135:=(by injection e135)
              (try replace hx135_0:=(HB.out.cell (World.block_lt_of_cell? w _ hx135_0)).trans hx135_0)
              (try replace hx135_1:=(HB.out.cell (World.block_lt_of_cell? w _ hx135_1)).trans hx135_1)
              (try replace hx135_2:=(HB.out.cell (World.block_lt_of_cell? w _ hx135_2)).trans hx135_2)
              replace p135:=eq_true p135
              replace q135:=eq_true q135
              go_wp2_with (first|(go_at_call 56;(with_reducible refine (spec_l1Kind.calls k1 ((rd_T74 l0 (ji12)).f0) ((rd_T74 l0 (ji12)).f1) ((rd_T74 l0 (ji12)).f2) t136 _ A15.out).mono ?_);rintro e w22 ⟨rfl,hb⟩;have n0_:=Aside0.mk (blk_below (g:=gb133) (o:=.cells #[.int .i64 ((rd_T74 l0 x10_1).f0),.int .i64 ((rd_T74 l0 x10_1).f1),.string ((rd_T74 l0 x10_1).f2)] 74 (0,0)) (by (with_reducible repeat first|apply blk_drewN|apply blk_drew|apply blk_alloc);exact BK133.out) hb);have n1_:=Aside0.mk (below_step (by repeat (first|(with_reducible first|exact HB.out|apply below_alloc|apply pw_below_drewN|apply below_drew1|refine below_set ?_ GE133.out)|exact HB.out)) hb);clear BK133;clear HB;have BK133:=n0_;have HB:=n1_;clear n0_ n1_;(try clear hb);(try clear hb2);(try clear hk);(try clear hi);have hcz23_0 : w22.cell? ⟨gb133,0,none⟩ = some (.int .i64 ((rd_T74 l0 x10_1).f0)):=(blk_cell BK133.out 0).trans rfl;have hcz23_1 : w22.cell? ⟨gb133,1,none⟩ = some (.int .i64 ((rd_T74 l0 x10_1).f1)):=(blk_cell BK133.out 1).trans rfl;have hcz23_2 : w22.cell? ⟨gb133,2,none⟩ = some (.string ((rd_T74 l0 x10_1).f2)):=(blk_cell BK133.out 2).trans rfl;have hfz23_0:=blk_frozen BK133.out 0;have hfz23_1:=blk_frozen BK133.out 1;have hfz23_2:=blk_frozen BK133.out 2))
              go_meet
              case rel=>exact ⟨_,(true),(by first|rfl|(simp;done)|(simp [*];done)),H',⟨by have:=HK1.out;first|omega|exact Nat.le_refl _⟩,⟨by (with_reducible repeat first|apply blk_drewN|apply blk_drew|apply blk_alloc);exact BK133.out⟩,⟨by repeat (first|(with_reducible first|exact HB.out|apply below_alloc|apply pw_below_drewN|apply below_drew1|refine below_set ?_ GE133.out)|exact HB.out)⟩⟩
             ·rw [if_neg c21] at H
              have c21b0 : decide (120 < ((rd_T74 l0 x10_1).f1)) = false:=decide_eq_false c21
              clear c21
              have H':=Aside0.mk H
              clear H
              have p135 : 0 ≤ ((ji12) : Int):=of_decide_eq_true (by assumption)
              have q135 : (ji12) < (l0.length : Int):=of_decide_eq_true (by assumption)
              obtain ⟨ad135,e135,hx135_0,hx135_1,hx135_2⟩:=at_T74 HR0.out (ji12) p135 q135
              obtain rfl : ad132 = ad135:=(by injection e135)
              (try replace hx135_0:=(HB.out.cell (World.block_lt_of_cell? w _ hx135_0)).trans hx135_0)
              (try replace hx135_1:=(HB.out.cell (World.block_lt_of_cell? w _ hx135_1)).trans hx135_1)
              (try replace hx135_2:=(HB.out.cell (World.block_lt_of_cell? w _ hx135_2)).trans hx135_2)
              replace p135:=eq_true p135
              replace q135:=eq_true q135
              go_wp2_with (first|(go_at_call 56;(with_reducible refine (spec_l1Kind.calls k1 ((rd_T74 l0 (ji12)).f0) ((rd_T74 l0 (ji12)).f1) ((rd_T74 l0 (ji12)).f2) t136 _ A15.out).mono ?_);rintro e w24 ⟨rfl,hb⟩;have n0_:=Aside0.mk (blk_below (g:=gb133) (o:=.cells #[.int .i64 ((rd_T74 l0 x10_1).f0),.int .i64 ((rd_T74 l0 x10_1).f1),.string ((rd_T74 l0 x10_1).f2)] 74 (0,0)) (by (with_reducible repeat first|apply blk_drewN|apply blk_drew|apply blk_alloc);exact BK133.out) hb);have n1_:=Aside0.mk (below_step (by repeat (first|(with_reducible first|exact HB.out|apply below_alloc|apply pw_below_drewN|apply below_drew1|refine below_set ?_ GE133.out)|exact HB.out)) hb);clear BK133;clear HB;have BK133:=n0_;have HB:=n1_;clear n0_ n1_;(try clear hb);(try clear hb2);(try clear hk);(try clear hi);have hcz25_0 : w24.cell? ⟨gb133,0,none⟩ = some (.int .i64 ((rd_T74 l0 x10_1).f0)):=(blk_cell BK133.out 0).trans rfl;have hcz25_1 : w24.cell? ⟨gb133,1,none⟩ = some (.int .i64 ((rd_T74 l0 x10_1).f1)):=(blk_cell BK133.out 1).trans rfl;have hcz25_2 : w24.cell? ⟨gb133,2,none⟩ = some (.string ((rd_T74 l0 x10_1).f2)):=(blk_cell BK133.out 2).trans rfl;have hfz25_0:=blk_frozen BK133.out 0;have hfz25_1:=blk_frozen BK133.out 1;have hfz25_2:=blk_frozen BK133.out 2))
              go_meet
              case rel=>exact ⟨_,(decide ((((rd_T74 l0 x10_1).f2).size : Int) > 120)),(by first|rfl|(simp;done)|(simp [*];done)),H',⟨by have:=HK1.out;first|omega|exact Nat.le_refl _⟩,⟨by (with_reducible repeat first|apply blk_drewN|apply blk_drew|apply blk_alloc);exact BK133.out⟩,⟨by repeat (first|(with_reducible first|exact HB.out|apply below_alloc|apply pw_below_drewN|apply below_drew1|refine below_set ?_ GE133.out)|exact HB.out)⟩⟩
          ·rw [if_neg c14] at H
           exact absurd H (by simp)
         ·rw [if_neg c13] at H
          exact absurd H (by simp)
        ·rw [if_neg c11] at H
         have c11b0 : decide (0 < x10_1) = false:=decide_eq_false c11
         clear c11
         by_cases c26 : ((rd_T74 l0 x10_1).f0) > 120
         ·rw [if_pos c26] at H
          have c26b0 : decide (120 < ((rd_T74 l0 x10_1).f0)) = true:=decide_eq_true c26
          clear c26
          have H':=Aside0.mk H
          clear H
          have hcz27_0 : w9.cell? ⟨gb133,0,none⟩ = some (.int .i64 ((rd_T74 l0 x10_1).f0)):=(blk_cell BK133.out 0).trans rfl
          have hcz27_1 : w9.cell? ⟨gb133,1,none⟩ = some (.int .i64 ((rd_T74 l0 x10_1).f1)):=(blk_cell BK133.out 1).trans rfl
          have hcz27_2 : w9.cell? ⟨gb133,2,none⟩ = some (.string ((rd_T74 l0 x10_1).f2)):=(blk_cell BK133.out 2).trans rfl
          have hfz27_0:=blk_frozen BK133.out 0
          have hfz27_1:=blk_frozen BK133.out 1
          have hfz27_2:=blk_frozen BK133.out 2
          go_wp2
          go_meet
          case rel=>exact ⟨_,(true),(by first|rfl|(simp;done)|(simp [*];done)),H',⟨by have:=HK1.out;first|omega|exact Nat.le_refl _⟩,⟨by (with_reducible repeat first|apply blk_drewN|apply blk_drew|apply blk_alloc);exact BK133.out⟩,⟨by repeat (first|(with_reducible first|exact HB.out|apply below_alloc|apply pw_below_drewN|apply below_drew1|refine below_set ?_ GE133.out)|exact HB.out)⟩⟩
         ·rw [if_neg c26] at H
          have c26b0 : decide (120 < ((rd_T74 l0 x10_1).f0)) = false:=decide_eq_false c26
          clear c26
          by_cases c28 : ((rd_T74 l0 x10_1).f1) > 120
          ·rw [if_pos c28] at H
           have c28b0 : decide (120 < ((rd_T74 l0 x10_1).f1)) = true:=decide_eq_true c28
           clear c28
           have H':=Aside0.mk H
           clear H
           have hcz29_0 : w9.cell? ⟨gb133,0,none⟩ = some (.int .i64 ((rd_T74 l0 x10_1).f0)):=(blk_cell BK133.out 0).trans rfl
           have hcz29_1 : w9.cell? ⟨gb133,1,none⟩ = some (.int .i64 ((rd_T74 l0 x10_1).f1)):=(blk_cell BK133.out 1).trans rfl
           have hcz29_2 : w9.cell? ⟨gb133,2,none⟩ = some (.string ((rd_T74 l0 x10_1).f2)):=(blk_cell BK133.out 2).trans rfl
           have hfz29_0:=blk_frozen BK133.out 0
           have hfz29_1:=blk_frozen BK133.out 1
           have hfz29_2:=blk_frozen BK133.out 2
           go_wp2
           go_meet
           case rel=>exact ⟨_,(true),(by first|rfl|(simp;done)|(simp [*];done)),H',⟨by have:=HK1.out;first|omega|exact Nat.le_refl _⟩,⟨by (with_reducible repeat first|apply blk_drewN|apply blk_drew|apply blk_alloc);exact BK133.out⟩,⟨by repeat (first|(with_reducible first|exact HB.out|apply below_alloc|apply pw_below_drewN|apply below_drew1|refine below_set ?_ GE133.out)|exact HB.out)⟩⟩
          ·rw [if_neg c28] at H
           have c28b0 : decide (120 < ((rd_T74 l0 x10_1).f1)) = false:=decide_eq_false c28
           clear c28
           have H':=Aside0.mk H
           clear H
           have hcz30_0 : w9.cell? ⟨gb133,0,none⟩ = some (.int .i64 ((rd_T74 l0 x10_1).f0)):=(blk_cell BK133.out 0).trans rfl
           have hcz30_1 : w9.cell? ⟨gb133,1,none⟩ = some (.int .i64 ((rd_T74 l0 x10_1).f1)):=(blk_cell BK133.out 1).trans rfl
           have hcz30_2 : w9.cell? ⟨gb133,2,none⟩ = some (.string ((rd_T74 l0 x10_1).f2)):=(blk_cell BK133.out 2).trans rfl
           have hfz30_0:=blk_frozen BK133.out 0
           have hfz30_1:=blk_frozen BK133.out 1
           have hfz30_2:=blk_frozen BK133.out 2
           go_wp2
           go_meet
           case rel=>exact ⟨_,(decide ((((rd_T74 l0 x10_1).f2).size : Int) > 120)),(by first|rfl|(simp;done)|(simp [*];done)),H',⟨by have:=HK1.out;first|omega|exact Nat.le_refl _⟩,⟨by (with_reducible repeat first|apply blk_drewN|apply blk_drew|apply blk_alloc);exact BK133.out⟩,⟨by repeat (first|(with_reducible first|exact HB.out|apply below_alloc|apply pw_below_drewN|apply below_drew1|refine below_set ?_ GE133.out)|exact HB.out)⟩⟩
      case rest =>
       clear HC6
       try clear c1;try clear p1;try clear q1;try clear hx1;try clear c2;try clear c2b0;try clear p2;try clear c3;try clear c3b0;try clear c4;try clear c4b0;try clear c5;try clear p6;try clear c10;try clear c10b0;try clear c10b1;try clear c11;try clear c11b0;try clear c13;try clear c13b0;try clear p13;try clear q13;try clear hx13;try clear c14;try clear c14b0;try clear c16;try clear c16b0;try clear c16b1;try clear c18;try clear c18b0;try clear c21;try clear c21b0;try clear c26;try clear c26b0;try clear c28;try clear c28b0;try clear hcz20_0;try clear hcz20_1;try clear hcz20_2;try clear hcz23_0;try clear hcz23_1;try clear hcz23_2;try clear hcz25_0;try clear hcz25_1;try clear hcz25_2;try clear hcz27_0;try clear hcz27_1;try clear hcz27_2;try clear hcz29_0;try clear hcz29_1;try clear hcz29_2;try clear hcz30_0;try clear hcz30_1;try clear hcz30_2;try clear hcz8_0;try clear hcz8_1;try clear hcz8_2;try clear hfz20_0;try clear hfz20_1;try clear hfz20_2;try clear hfz23_0;try clear hfz23_1;try clear hfz23_2;try clear hfz25_0;try clear hfz25_1;try clear hfz25_2;try clear hfz27_0;try clear hfz27_1;try clear hfz27_2;try clear hfz29_0;try clear hfz29_1;try clear hfz29_2;try clear hfz30_0;try clear hfz30_1;try clear hfz30_2;try clear hfz8_0;try clear hfz8_1;try clear hfz8_2;try clear hx132_0;try clear hx132_1;try clear hx132_2;try clear hx135_0;try clear hx135_1;try clear hx135_2;try clear p132;try clear p135;try clear q132;try clear q135
       obtain ⟨kq,x48_5,rfl,HA,HJ5,BK133,HB⟩:=hcut
       cases kq with
       | zero=>exact absurd HA.out (by simp [spec_GoodChange.j1])
       | succ kj5 =>
        have H:=HA.out
        clear HA
        simp only [spec_GoodChange.j1] at H
        by_cases c31 : x48_5 = true
        ·subst c31
         have H1 : (some false) = some r:=by rw [if_pos rfl] at H;exact H
         clear H
         have H:=H1
         clear H1
         obtain rfl:=Option.some.inj H
         go_wp2
         go_ret
         exact ⟨by first|rfl|(simp [*,errW_none,errW_some] <;> rfl),by repeat (first|(with_reducible first|exact HB.out|apply below_alloc|apply pw_below_drewN|apply below_drew1|refine below_set ?_ GE133.out)|exact HB.out)⟩
        ·replace c31:=Bool.eq_false_iff.mpr c31
         subst c31
         have H1 : (if (wrap64 (x3_1 + (wrap64 (((rd_T74 l0 x10_1).f0) + ((rd_T74 l0 x10_1).f1))))) > 120 then (some false) else (if (wrap64 (x4_1 + (wrap64 (((rd_T74 l0 x10_1).f0) + (((rd_T74 l0 x10_1).f2).size : Int))))) > 120 then (some false) else (spec_GoodChange.l0 kj5 l0 (wrap64 (x3_1 + (wrap64 (((rd_T74 l0 x10_1).f0) + ((rd_T74 l0 x10_1).f1))))) (wrap64 (x4_1 + (wrap64 (((rd_T74 l0 x10_1).f0) + (((rd_T74 l0 x10_1).f2).size : Int))))) l0 (l0.length : Int) (wrap64 (x10_1 + 1))))) = some r:=by rw [if_neg (show ¬ (false = true) by decide)] at H;exact H
         clear H
         have H:=H1
         clear H1
         by_cases c32 : (wrap64 (x3_1 + (wrap64 (((rd_T74 l0 x10_1).f0) + ((rd_T74 l0 x10_1).f1))))) > 120
         ·rw [if_pos c32] at H
          have c32b0 : decide (120 < (wrap64 (x3_1 + (wrap64 (((rd_T74 l0 x10_1).f0) + ((rd_T74 l0 x10_1).f1)))))) = true:=decide_eq_true c32
          clear c32
          obtain rfl:=Option.some.inj H
          have hcz33_0 : wc.cell? ⟨gb133,0,none⟩ = some (.int .i64 ((rd_T74 l0 x10_1).f0)):=(blk_cell BK133.out 0).trans rfl
          have hcz33_1 : wc.cell? ⟨gb133,1,none⟩ = some (.int .i64 ((rd_T74 l0 x10_1).f1)):=(blk_cell BK133.out 1).trans rfl
          have hcz33_2 : wc.cell? ⟨gb133,2,none⟩ = some (.string ((rd_T74 l0 x10_1).f2)):=(blk_cell BK133.out 2).trans rfl
          have hfz33_0:=blk_frozen BK133.out 0
          have hfz33_1:=blk_frozen BK133.out 1
          have hfz33_2:=blk_frozen BK133.out 2
          go_wp2
          go_ret
          exact ⟨by first|rfl|(simp [*,errW_none,errW_some] <;> rfl),by repeat (first|(with_reducible first|exact HB.out|apply below_alloc|apply pw_below_drewN|apply below_drew1|refine below_set ?_ GE133.out)|exact HB.out)⟩
         ·rw [if_neg c32] at H
          have c32b0 : decide (120 < (wrap64 (x3_1 + (wrap64 (((rd_T74 l0 x10_1).f0) + ((rd_T74 l0 x10_1).f1)))))) = false:=decide_eq_false c32
          clear c32
          by_cases c34 : (wrap64 (x4_1 + (wrap64 (((rd_T74 l0 x10_1).f0) + (((rd_T74 l0 x10_1).f2).size : Int))))) > 120
          ·rw [if_pos c34] at H
           have c34b0 : decide (120 < (wrap64 (x4_1 + (wrap64 (((rd_T74 l0 x10_1).f0) + (((rd_T74 l0 x10_1).f2).size : Int)))))) = true:=decide_eq_true c34
           clear c34
           obtain rfl:=Option.some.inj H
           have hcz35_0 : wc.cell? ⟨gb133,0,none⟩ = some (.int .i64 ((rd_T74 l0 x10_1).f0)):=(blk_cell BK133.out 0).trans rfl
           have hcz35_1 : wc.cell? ⟨gb133,1,none⟩ = some (.int .i64 ((rd_T74 l0 x10_1).f1)):=(blk_cell BK133.out 1).trans rfl
           have hcz35_2 : wc.cell? ⟨gb133,2,none⟩ = some (.string ((rd_T74 l0 x10_1).f2)):=(blk_cell BK133.out 2).trans rfl
           have hfz35_0:=blk_frozen BK133.out 0
           have hfz35_1:=blk_frozen BK133.out 1
           have hfz35_2:=blk_frozen BK133.out 2
           go_wp2
           go_ret
           exact ⟨by first|rfl|(simp [*,errW_none,errW_some] <;> rfl),by repeat (first|(with_reducible first|exact HB.out|apply below_alloc|apply pw_below_drewN|apply below_drew1|refine below_set ?_ GE133.out)|exact HB.out)⟩
          ·rw [if_neg c34] at H
           have c34b0 : decide (120 < (wrap64 (x4_1 + (wrap64 (((rd_T74 l0 x10_1).f0) + (((rd_T74 l0 x10_1).f2).size : Int)))))) = false:=decide_eq_false c34
           clear c34
           have H':=Aside0.mk H
           clear H
           have hcz36_0 : wc.cell? ⟨gb133,0,none⟩ = some (.int .i64 ((rd_T74 l0 x10_1).f0)):=(blk_cell BK133.out 0).trans rfl
           have hcz36_1 : wc.cell? ⟨gb133,1,none⟩ = some (.int .i64 ((rd_T74 l0 x10_1).f1)):=(blk_cell BK133.out 1).trans rfl
           have hcz36_2 : wc.cell? ⟨gb133,2,none⟩ = some (.string ((rd_T74 l0 x10_1).f2)):=(blk_cell BK133.out 2).trans rfl
           have hfz36_0:=blk_frozen BK133.out 0
           have hfz36_1:=blk_frozen BK133.out 1
           have hfz36_2:=blk_frozen BK133.out 2
           go_wp2
           go_roundg kj5
           case measure=>have:=HK1.out;have:=HJ5.out;omega
           case rel=>exact ⟨(wrap64 (x3_1 + (wrap64 (((rd_T74 l0 x10_1).f0) + ((rd_T74 l0 x10_1).f1))))),(wrap64 (x4_1 + (wrap64 (((rd_T74 l0 x10_1).f0) + (((rd_T74 l0 x10_1).f2).size : Int))))),(wrap64 (x10_1 + 1)),(by first|rfl|(simp;done)|(simp [*];done)),(by first|rfl|(simp;done)|(simp [*];done)),(by first|rfl|(simp;done)|(simp [*];done)),H',⟨by have:=HK1.out;have:=HJ5.out;omega⟩,⟨by repeat (first|(with_reducible first|exact HB.out|apply below_alloc|apply pw_below_drewN|apply below_drew1|refine below_set ?_ GE133.out)|exact HB.out)⟩⟩
     ·rw [if_neg c4] at H
      exact absurd H (by simp)
    ·rw [if_neg c3] at H
     exact absurd H (by simp)
   ·rw [if_neg c2] at H
    have c2b0 : decide (x10_1 < (l0.length : Int)) = false:=decide_eq_false c2
    clear c2
    obtain rfl:=Option.some.inj H
    go_wp2
    go_ret
    exact ⟨by first|rfl|(simp [*,errW_none,errW_some] <;> rfl),by repeat (first|exact HB.out|apply below_alloc|apply pw_below_drewN|apply below_drew1)⟩

end Go.Proofs.Ytebmncdjlmnbnaa.PFnExactComposeChanges
