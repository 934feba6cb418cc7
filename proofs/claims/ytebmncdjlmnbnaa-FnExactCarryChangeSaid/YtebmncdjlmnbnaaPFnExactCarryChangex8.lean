-- Written by a program of this session over the print of the kit (wip/t/patch_print.py).
import Derived.Test.YtebmncdjlmnbnaaPFnExactCarryChangex0
namespace Go.Proofs.Ytebmncdjlmnbnaa.PFnExactCarryChange
open Go.RowKit Go.Proofs.YtebmncdjlmnbnaaW.PrintWords Go.Proofs.YtebmncdjlmnbnaaW.PrintLast Go.Proofs.YtebmncdjlmnbnaaW.PrintMore
attribute [local go_sem] max2_int min2_int max_two min_two max_three min_three max_four min_four   -- for this text's walks alone
set_option linter.unusedVariables false
set_option linter.unusedSimpArgs false

/-! ### impl_Part_kind: function 58 -/
mutual
def impl_Part_kind.j0 : Nat → Bool → Int → Int → ByteArray → Option (Int)
 | 0,_,_,_,_=>none
 | k + 1,x3,x210000,x210001,x210002=>if x3 = true then (some 1) else (if x210001 > 0 then (if x210000 = 0 then (impl_Part_kind.j1 k (x210002.toList == ([] : List UInt8)) x210000 x210001 x210002) else (impl_Part_kind.j1 k false x210000 x210001 x210002)) else (impl_Part_kind.j1 k false x210000 x210001 x210002))
def impl_Part_kind.j1 : Nat → Bool → Int → Int → ByteArray → Option (Int)
 | 0,_,_,_,_=>none
 | k + 1,x17,x210000,x210001,x210002=>if x17 = true then (some 2) else (if x210002.toList = ([] : List UInt8) then (some 0) else (if x210000 = 0 then (if x210001 = 0 then (some 3) else (some 0)) else (some 0)))
end
def impl_Part_kind.f (k : Nat) (a0_0 : Int) (a0_1 : Int) (a0_2 : ByteArray) : Option (Int):=if a0_0 > 0 then (if a0_1 = 0 then (impl_Part_kind.j0 k (a0_2.toList == ([] : List UInt8)) a0_0 a0_1 a0_2) else (impl_Part_kind.j0 k false a0_0 a0_1 a0_2)) else (impl_Part_kind.j0 k false a0_0 a0_1 a0_2)
theorem impl_Part_kind.mono_l : ∀ k,(∀ y0 y1 y2 y3,LeO (impl_Part_kind.j0 k y0 y1 y2 y3) (impl_Part_kind.j0 (k + 1) y0 y1 y2 y3))∧(∀ y0 y1 y2 y3,LeO (impl_Part_kind.j1 k y0 y1 y2 y3) (impl_Part_kind.j1 (k + 1) y0 y1 y2 y3))
 | 0=>⟨fun _ _ _ _ r h=>by simp [impl_Part_kind.j0] at h,fun _ _ _ _ r h=>by simp [impl_Part_kind.j1] at h⟩
 | k + 1=>by
  obtain ⟨ih0,ih1⟩:=impl_Part_kind.mono_l k
  refine ⟨?_,?_⟩
  ·intro y0 y1 y2 y3
   unfold impl_Part_kind.j0
   repeat' first
   | (with_reducible exact ih0 _ _ _ _)
   | (with_reducible exact ih1 _ _ _ _)
   | (with_reducible exact LeO.refl _)
   | (with_reducible exact LeO.none _)
   | (with_reducible refine LeO.ite ?_ ?_)
   | (with_reducible refine LeO.bind ?_ (fun _=>?_))
   | exact ih0 _ _ _ _
   | exact ih1 _ _ _ _
   | exact LeO.none _
   | refine LeO.ite ?_ ?_
   | refine LeO.bind ?_ (fun _=>?_)
  ·intro y0 y1 y2 y3
   unfold impl_Part_kind.j1
   repeat' first
   | (with_reducible exact ih0 _ _ _ _)
   | (with_reducible exact ih1 _ _ _ _)
   | (with_reducible exact LeO.refl _)
   | (with_reducible exact LeO.none _)
   | (with_reducible refine LeO.ite ?_ ?_)
   | (with_reducible refine LeO.bind ?_ (fun _=>?_))
   | exact ih0 _ _ _ _
   | exact ih1 _ _ _ _
   | exact LeO.none _
   | refine LeO.ite ?_ ?_
   | refine LeO.bind ?_ (fun _=>?_)
theorem impl_Part_kind.mono : ∀ a0 a1 a2 k,LeO (impl_Part_kind.f k a0 a1 a2) (impl_Part_kind.f (k + 1) a0 a1 a2):=by
 intro a0 a1 a2 k
 obtain ⟨ih0,ih1⟩:=impl_Part_kind.mono_l k
 unfold impl_Part_kind.f
 repeat' first
   | (with_reducible exact ih0 _ _ _ _)
   | (with_reducible exact ih1 _ _ _ _)
   | (with_reducible exact LeO.refl _)
   | (with_reducible exact LeO.none _)
   | (with_reducible refine LeO.ite ?_ ?_)
   | (with_reducible refine LeO.bind ?_ (fun _=>?_))
   | exact ih0 _ _ _ _
   | exact ih1 _ _ _ _
   | exact LeO.none _
   | refine LeO.ite ?_ ?_
   | refine LeO.bind ?_ (fun _=>?_)
set_option maxHeartbeats 8000000 in
set_option maxRecDepth 100000 in
theorem impl_Part_kind.calls (k : Nat) (a0_0 : Int) (a0_1 : Int) (a0_2 : ByteArray) (r : Int) (w : World) (h : impl_Part_kind.f k a0_0 a0_1 a0_2 = some r) :
  Calls Try.prog 58 #[.agg #[.int .i64 a0_0,.int .i64 a0_1,.string a0_2]] w fun e w'=>e = .returned (.int .i64 r)∧Below w.heap.size w w':=by
 have hu74:=Try.underlying74
 have HB:=Aside0.mk (Below.refl w.heap.size w)
 have H : (if a0_0 > 0 then (if a0_1 = 0 then (impl_Part_kind.j0 k (a0_2.toList == ([] : List UInt8)) a0_0 a0_1 a0_2) else (impl_Part_kind.j0 k false a0_0 a0_1 a0_2)) else (impl_Part_kind.j0 k false a0_0 a0_1 a0_2)) = some r:=h
 clear h
 have HC2:=Aside0.mk H
 clear H
 go_enter Try.func58,Try.ntmps58
 go_upto_region 1 with (first|((with_reducible refine gate_dst (N:=1) rfl ?_);refine box_event ?hg (N:=1) ?hd (cs:=#[.int .i64 a0_0,.int .i64 a0_1,.string a0_2]) (t:=74) ?hr ?_;(case hd=>rfl);(case hg=>rfl);(case hr=>first|(go_simp;done)|(go_simp;rfl));intro gb209 hg w3 hbox hb;have n0_:=Aside0.mk (below_step (by repeat (first|exact HB.out|apply below_alloc|apply pw_below_drewN|apply below_drew1)) hb);have n1_:=Aside0.mk (hbox);have n2_:=Aside0.mk ((by rw [hg];exact (below_size (by repeat (first|exact HB.out|apply below_alloc|apply pw_below_drewN|apply below_drew1))) : w.heap.size ≤ gb209));have n3_:=Aside0.mk ((by rw [hg];exact (below_size (by repeat (first|exact HB.out|apply below_alloc|apply pw_below_drewN|apply below_drew1))) : w.heap.size ≤ gb209));clear HB;have HB:=n0_;have BK209:=n1_;have GW209:=n2_;have GE209:=n3_;clear n0_ n1_ n2_ n3_;clear hb hbox hg))
 (try simp only [Act.put,List.setIfInBounds_toArray,List.set_cons_zero,List.set_cons_succ])
 go_cut [3] (fun v3 wc=>∃ (kq : Nat) (x3_1 : Bool),v3 = .bool x3_1∧Aside0 (impl_Part_kind.j0 kq x3_1 a0_0 a0_1 a0_2 = some r)∧Aside0 (kq ≤ k)∧Aside0 (wc.heap[gb209]? = some (.cells #[.int .i64 a0_0,.int .i64 a0_1,.string a0_2] 74 (0,0)))∧Aside0 (Below w.heap.size w wc))
 case first =>
  have H:=HC2.out
  clear HC2
  by_cases c4 : a0_0 > 0
  ·rw [if_pos c4] at H
   have c4b0 : decide (0 < a0_0) = true:=decide_eq_true c4
   clear c4
   (first|rw [c4b0]|(simp only [i64_w,i32_w];rw [c4b0])|skip)
   by_cases c5 : a0_1 = 0
   ·rw [if_pos c5] at H
    have c5b0 : (a0_1 == 0) = true:=beq_iff_eq.mpr c5
    have c5b1 : (a0_1 != 0) = false:=bne_eq_false_iff_eq.mpr c5
    clear c5
    have H':=Aside0.mk H
    clear H
    have hcz6_0 : w3.cell? ⟨gb209,0,none⟩ = some (.int .i64 a0_0):=(blk_cell BK209.out 0).trans rfl
    have hcz6_1 : w3.cell? ⟨gb209,1,none⟩ = some (.int .i64 a0_1):=(blk_cell BK209.out 1).trans rfl
    have hcz6_2 : w3.cell? ⟨gb209,2,none⟩ = some (.string a0_2):=(blk_cell BK209.out 2).trans rfl
    have hfz6_0:=blk_frozen BK209.out 0
    have hfz6_1:=blk_frozen BK209.out 1
    have hfz6_2:=blk_frozen BK209.out 2
    go_wp2
    go_meet
    case rel=>exact ⟨_,((a0_2.toList == ([] : List UInt8))),(by first|rfl|(simp;done)|(simp [*];done)),H',⟨by first|omega|exact Nat.le_refl _⟩,⟨by (with_reducible repeat first|apply blk_drewN|apply blk_drew|apply blk_alloc);exact BK209.out⟩,⟨by repeat (first|(with_reducible first|exact HB.out|apply below_alloc|apply pw_below_drewN|apply below_drew1|refine below_set ?_ GE209.out)|exact HB.out)⟩⟩
   ·rw [if_neg c5] at H
    have c5b0 : (a0_1 == 0) = false:=beq_eq_false_iff_ne.mpr c5
    have c5b1 : (a0_1 != 0) = true:=bne_iff_ne.mpr c5
    have H':=Aside0.mk H
    clear H
    have hcz7_0 : w3.cell? ⟨gb209,0,none⟩ = some (.int .i64 a0_0):=(blk_cell BK209.out 0).trans rfl
    have hcz7_1 : w3.cell? ⟨gb209,1,none⟩ = some (.int .i64 a0_1):=(blk_cell BK209.out 1).trans rfl
    have hcz7_2 : w3.cell? ⟨gb209,2,none⟩ = some (.string a0_2):=(blk_cell BK209.out 2).trans rfl
    have hfz7_0:=blk_frozen BK209.out 0
    have hfz7_1:=blk_frozen BK209.out 1
    have hfz7_2:=blk_frozen BK209.out 2
    go_wp2
    go_meet
    case rel=>exact ⟨_,(false),(by first|rfl|(simp;done)|(simp [*];done)),H',⟨by first|omega|exact Nat.le_refl _⟩,⟨by (with_reducible repeat first|apply blk_drewN|apply blk_drew|apply blk_alloc);exact BK209.out⟩,⟨by repeat (first|(with_reducible first|exact HB.out|apply below_alloc|apply pw_below_drewN|apply below_drew1|refine below_set ?_ GE209.out)|exact HB.out)⟩⟩
  ·rw [if_neg c4] at H
   have c4b0 : decide (0 < a0_0) = false:=decide_eq_false c4
   clear c4
   (first|rw [c4b0]|(simp only [i64_w,i32_w];rw [c4b0])|skip)
   have H':=Aside0.mk H
   clear H
   have hcz8_0 : w3.cell? ⟨gb209,0,none⟩ = some (.int .i64 a0_0):=(blk_cell BK209.out 0).trans rfl
   have hcz8_1 : w3.cell? ⟨gb209,1,none⟩ = some (.int .i64 a0_1):=(blk_cell BK209.out 1).trans rfl
   have hcz8_2 : w3.cell? ⟨gb209,2,none⟩ = some (.string a0_2):=(blk_cell BK209.out 2).trans rfl
   have hfz8_0:=blk_frozen BK209.out 0
   have hfz8_1:=blk_frozen BK209.out 1
   have hfz8_2:=blk_frozen BK209.out 2
   go_wp2
   go_meet
   case rel=>exact ⟨_,(false),(by first|rfl|(simp;done)|(simp [*];done)),H',⟨by first|omega|exact Nat.le_refl _⟩,⟨by (with_reducible repeat first|apply blk_drewN|apply blk_drew|apply blk_alloc);exact BK209.out⟩,⟨by repeat (first|(with_reducible first|exact HB.out|apply below_alloc|apply pw_below_drewN|apply below_drew1|refine below_set ?_ GE209.out)|exact HB.out)⟩⟩
 case rest =>
  clear HC2
  try clear p2;try clear c4;try clear c4b0;try clear c5;try clear c5b0;try clear c5b1;try clear hcz6_0;try clear hcz6_1;try clear hcz6_2;try clear hcz7_0;try clear hcz7_1;try clear hcz7_2;try clear hcz8_0;try clear hcz8_1;try clear hcz8_2;try clear hfz6_0;try clear hfz6_1;try clear hfz6_2;try clear hfz7_0;try clear hfz7_1;try clear hfz7_2;try clear hfz8_0;try clear hfz8_1;try clear hfz8_2
  obtain ⟨kq,x3_1,rfl,HA,HJ1,BK209,HB⟩:=hcut
  cases kq with
  | zero=>exact absurd HA.out (by simp [impl_Part_kind.j0])
  | succ kj1 =>
   have H:=HA.out
   clear HA
   simp only [impl_Part_kind.j0] at H
   by_cases c9 : x3_1 = true
   ·subst c9
    have H1 : (some 1) = some r:=by rw [if_pos rfl] at H;exact H
    clear H
    have H:=H1
    clear H1
    obtain rfl:=Option.some.inj H
    go_wp2
    go_ret
    exact ⟨by first|rfl|(simp [*,errW_none,errW_some] <;> rfl),by repeat (first|(with_reducible first|exact HB.out|apply below_alloc|apply pw_below_drewN|apply below_drew1|refine below_set ?_ GE209.out)|exact HB.out)⟩
   ·replace c9:=Bool.eq_false_iff.mpr c9
    subst c9
    have H1 : (if a0_1 > 0 then (if a0_0 = 0 then (impl_Part_kind.j1 kj1 (a0_2.toList == ([] : List UInt8)) a0_0 a0_1 a0_2) else (impl_Part_kind.j1 kj1 false a0_0 a0_1 a0_2)) else (impl_Part_kind.j1 kj1 false a0_0 a0_1 a0_2)) = some r:=by rw [if_neg (show ¬ (false = true) by decide)] at H;exact H
    clear H
    have H:=H1
    clear H1
    have HC10:=Aside0.mk H
    clear H
    go_upto_region 3 with (fail)
    go_cut [17] (fun v17 wc=>∃ (kq : Nat) (x17_9 : Bool),v17 = .bool x17_9∧Aside0 (impl_Part_kind.j1 kq x17_9 a0_0 a0_1 a0_2 = some r)∧Aside0 (kq ≤ kj1)∧Aside0 (wc.heap[gb209]? = some (.cells #[.int .i64 a0_0,.int .i64 a0_1,.string a0_2] 74 (0,0)))∧Aside0 (Below w.heap.size w wc))
    case first =>
     have H:=HC10.out
     clear HC10
     by_cases c11 : a0_1 > 0
     ·rw [if_pos c11] at H
      have c11b0 : decide (0 < a0_1) = true:=decide_eq_true c11
      clear c11
      (first|rw [c11b0]|(simp only [i64_w,i32_w];rw [c11b0])|skip)
      by_cases c12 : a0_0 = 0
      ·rw [if_pos c12] at H
       have c12b0 : (a0_0 == 0) = true:=beq_iff_eq.mpr c12
       have c12b1 : (a0_0 != 0) = false:=bne_eq_false_iff_eq.mpr c12
       clear c12
       have H':=Aside0.mk H
       clear H
       have hcz13_0 : wc.cell? ⟨gb209,0,none⟩ = some (.int .i64 a0_0):=(blk_cell BK209.out 0).trans rfl
       have hcz13_1 : wc.cell? ⟨gb209,1,none⟩ = some (.int .i64 a0_1):=(blk_cell BK209.out 1).trans rfl
       have hcz13_2 : wc.cell? ⟨gb209,2,none⟩ = some (.string a0_2):=(blk_cell BK209.out 2).trans rfl
       have hfz13_0:=blk_frozen BK209.out 0
       have hfz13_1:=blk_frozen BK209.out 1
       have hfz13_2:=blk_frozen BK209.out 2
       go_wp2
       go_meet
       case rel=>exact ⟨_,((a0_2.toList == ([] : List UInt8))),(by first|rfl|(simp;done)|(simp [*];done)),H',⟨by have:=HJ1.out;first|omega|exact Nat.le_refl _⟩,⟨by (with_reducible repeat first|apply blk_drewN|apply blk_drew|apply blk_alloc);exact BK209.out⟩,⟨by repeat (first|(with_reducible first|exact HB.out|apply below_alloc|apply pw_below_drewN|apply below_drew1|refine below_set ?_ GE209.out)|exact HB.out)⟩⟩
      ·rw [if_neg c12] at H
       have c12b0 : (a0_0 == 0) = false:=beq_eq_false_iff_ne.mpr c12
       have c12b1 : (a0_0 != 0) = true:=bne_iff_ne.mpr c12
       have H':=Aside0.mk H
       clear H
       have hcz14_0 : wc.cell? ⟨gb209,0,none⟩ = some (.int .i64 a0_0):=(blk_cell BK209.out 0).trans rfl
       have hcz14_1 : wc.cell? ⟨gb209,1,none⟩ = some (.int .i64 a0_1):=(blk_cell BK209.out 1).trans rfl
       have hcz14_2 : wc.cell? ⟨gb209,2,none⟩ = some (.string a0_2):=(blk_cell BK209.out 2).trans rfl
       have hfz14_0:=blk_frozen BK209.out 0
       have hfz14_1:=blk_frozen BK209.out 1
       have hfz14_2:=blk_frozen BK209.out 2
       go_wp2
       go_meet
       case rel=>exact ⟨_,(false),(by first|rfl|(simp;done)|(simp [*];done)),H',⟨by have:=HJ1.out;first|omega|exact Nat.le_refl _⟩,⟨by (with_reducible repeat first|apply blk_drewN|apply blk_drew|apply blk_alloc);exact BK209.out⟩,⟨by repeat (first|(with_reducible first|exact HB.out|apply below_alloc|apply pw_below_drewN|apply below_drew1|refine below_set ?_ GE209.out)|exact HB.out)⟩⟩
     ·rw [if_neg c11] at H
      have c11b0 : decide (0 < a0_1) = false:=decide_eq_false c11
      clear c11
      (first|rw [c11b0]|(simp only [i64_w,i32_w];rw [c11b0])|skip)
      have H':=Aside0.mk H
      clear H
      have hcz15_0 : wc.cell? ⟨gb209,0,none⟩ = some (.int .i64 a0_0):=(blk_cell BK209.out 0).trans rfl
      have hcz15_1 : wc.cell? ⟨gb209,1,none⟩ = some (.int .i64 a0_1):=(blk_cell BK209.out 1).trans rfl
      have hcz15_2 : wc.cell? ⟨gb209,2,none⟩ = some (.string a0_2):=(blk_cell BK209.out 2).trans rfl
      have hfz15_0:=blk_frozen BK209.out 0
      have hfz15_1:=blk_frozen BK209.out 1
      have hfz15_2:=blk_frozen BK209.out 2
      go_wp2
      go_meet
      case rel=>exact ⟨_,(false),(by first|rfl|(simp;done)|(simp [*];done)),H',⟨by have:=HJ1.out;first|omega|exact Nat.le_refl _⟩,⟨by (with_reducible repeat first|apply blk_drewN|apply blk_drew|apply blk_alloc);exact BK209.out⟩,⟨by repeat (first|(with_reducible first|exact HB.out|apply below_alloc|apply pw_below_drewN|apply below_drew1|refine below_set ?_ GE209.out)|exact HB.out)⟩⟩
    case rest =>
     clear HC10
     try clear c1;try clear p2;try clear c4;try clear c4b0;try clear c5;try clear c5b0;try clear c5b1;try clear c9;try clear c11;try clear c11b0;try clear c12;try clear c12b0;try clear c12b1;try clear hcz13_0;try clear hcz13_1;try clear hcz13_2;try clear hcz14_0;try clear hcz14_1;try clear hcz14_2;try clear hcz15_0;try clear hcz15_1;try clear hcz15_2;try clear hcz6_0;try clear hcz6_1;try clear hcz6_2;try clear hcz7_0;try clear hcz7_1;try clear hcz7_2;try clear hcz8_0;try clear hcz8_1;try clear hcz8_2;try clear hfz13_0;try clear hfz13_1;try clear hfz13_2;try clear hfz14_0;try clear hfz14_1;try clear hfz14_2;try clear hfz15_0;try clear hfz15_1;try clear hfz15_2;try clear hfz6_0;try clear hfz6_1;try clear hfz6_2;try clear hfz7_0;try clear hfz7_1;try clear hfz7_2;try clear hfz8_0;try clear hfz8_1;try clear hfz8_2;try clear p2
     obtain ⟨kq,x17_9,rfl,HA,HJ9,BK209,HB⟩:=hcut
     cases kq with
     | zero=>exact absurd HA.out (by simp [impl_Part_kind.j1])
     | succ kj9 =>
      have H:=HA.out
      clear HA
      simp only [impl_Part_kind.j1] at H
      by_cases c16 : x17_9 = true
      ·subst c16
       have H1 : (some 2) = some r:=by rw [if_pos rfl] at H;exact H
       clear H
       have H:=H1
       clear H1
       obtain rfl:=Option.some.inj H
       go_wp2
       go_ret
       exact ⟨by first|rfl|(simp [*,errW_none,errW_some] <;> rfl),by repeat (first|(with_reducible first|exact HB.out|apply below_alloc|apply pw_below_drewN|apply below_drew1|refine below_set ?_ GE209.out)|exact HB.out)⟩
      ·replace c16:=Bool.eq_false_iff.mpr c16
       subst c16
       have H1 : (if a0_2.toList = ([] : List UInt8) then (some 0) else (if a0_0 = 0 then (if a0_1 = 0 then (some 3) else (some 0)) else (some 0))) = some r:=by rw [if_neg (show ¬ (false = true) by decide)] at H;exact H
       clear H
       have H:=H1
       clear H1
       by_cases c17 : a0_2.toList = ([] : List UInt8)
       ·rw [if_pos c17] at H
        have c17b0 : (a0_2.toList == ([] : List UInt8)) = true:=beq_iff_eq.mpr c17
        have c17b1 : (a0_2.toList != ([] : List UInt8)) = false:=bne_eq_false_iff_eq.mpr c17
        clear c17
        obtain rfl:=Option.some.inj H
        have hcz18_0 : wc.cell? ⟨gb209,0,none⟩ = some (.int .i64 a0_0):=(blk_cell BK209.out 0).trans rfl
        have hcz18_1 : wc.cell? ⟨gb209,1,none⟩ = some (.int .i64 a0_1):=(blk_cell BK209.out 1).trans rfl
        have hcz18_2 : wc.cell? ⟨gb209,2,none⟩ = some (.string a0_2):=(blk_cell BK209.out 2).trans rfl
        have hfz18_0:=blk_frozen BK209.out 0
        have hfz18_1:=blk_frozen BK209.out 1
        have hfz18_2:=blk_frozen BK209.out 2
        go_wp2
        go_ret
        exact ⟨by first|rfl|(simp [*,errW_none,errW_some] <;> rfl),by repeat (first|(with_reducible first|exact HB.out|apply below_alloc|apply pw_below_drewN|apply below_drew1|refine below_set ?_ GE209.out)|exact HB.out)⟩
       ·rw [if_neg c17] at H
        have c17b0 : (a0_2.toList == ([] : List UInt8)) = false:=beq_eq_false_iff_ne.mpr c17
        have c17b1 : (a0_2.toList != ([] : List UInt8)) = true:=bne_iff_ne.mpr c17
        by_cases c19 : a0_0 = 0
        ·rw [if_pos c19] at H
         have c19b0 : (a0_0 == 0) = true:=beq_iff_eq.mpr c19
         have c19b1 : (a0_0 != 0) = false:=bne_eq_false_iff_eq.mpr c19
         clear c19
         by_cases c20 : a0_1 = 0
         ·rw [if_pos c20] at H
          have c20b0 : (a0_1 == 0) = true:=beq_iff_eq.mpr c20
          have c20b1 : (a0_1 != 0) = false:=bne_eq_false_iff_eq.mpr c20
          clear c20
          obtain rfl:=Option.some.inj H
          have hcz21_0 : wc.cell? ⟨gb209,0,none⟩ = some (.int .i64 a0_0):=(blk_cell BK209.out 0).trans rfl
          have hcz21_1 : wc.cell? ⟨gb209,1,none⟩ = some (.int .i64 a0_1):=(blk_cell BK209.out 1).trans rfl
          have hcz21_2 : wc.cell? ⟨gb209,2,none⟩ = some (.string a0_2):=(blk_cell BK209.out 2).trans rfl
          have hfz21_0:=blk_frozen BK209.out 0
          have hfz21_1:=blk_frozen BK209.out 1
          have hfz21_2:=blk_frozen BK209.out 2
          go_wp2
          go_ret
          exact ⟨by first|rfl|(simp [*,errW_none,errW_some] <;> rfl),by repeat (first|(with_reducible first|exact HB.out|apply below_alloc|apply pw_below_drewN|apply below_drew1|refine below_set ?_ GE209.out)|exact HB.out)⟩
         ·rw [if_neg c20] at H
          have c20b0 : (a0_1 == 0) = false:=beq_eq_false_iff_ne.mpr c20
          have c20b1 : (a0_1 != 0) = true:=bne_iff_ne.mpr c20
          obtain rfl:=Option.some.inj H
          have hcz22_0 : wc.cell? ⟨gb209,0,none⟩ = some (.int .i64 a0_0):=(blk_cell BK209.out 0).trans rfl
          have hcz22_1 : wc.cell? ⟨gb209,1,none⟩ = some (.int .i64 a0_1):=(blk_cell BK209.out 1).trans rfl
          have hcz22_2 : wc.cell? ⟨gb209,2,none⟩ = some (.string a0_2):=(blk_cell BK209.out 2).trans rfl
          have hfz22_0:=blk_frozen BK209.out 0
          have hfz22_1:=blk_frozen BK209.out 1
          have hfz22_2:=blk_frozen BK209.out 2
          go_wp2
          go_ret
          exact ⟨by first|rfl|(simp [*,errW_none,errW_some] <;> rfl),by repeat (first|(with_reducible first|exact HB.out|apply below_alloc|apply pw_below_drewN|apply below_drew1|refine below_set ?_ GE209.out)|exact HB.out)⟩
        ·rw [if_neg c19] at H
         have c19b0 : (a0_0 == 0) = false:=beq_eq_false_iff_ne.mpr c19
         have c19b1 : (a0_0 != 0) = true:=bne_iff_ne.mpr c19
         obtain rfl:=Option.some.inj H
         have hcz23_0 : wc.cell? ⟨gb209,0,none⟩ = some (.int .i64 a0_0):=(blk_cell BK209.out 0).trans rfl
         have hcz23_1 : wc.cell? ⟨gb209,1,none⟩ = some (.int .i64 a0_1):=(blk_cell BK209.out 1).trans rfl
         have hcz23_2 : wc.cell? ⟨gb209,2,none⟩ = some (.string a0_2):=(blk_cell BK209.out 2).trans rfl
         have hfz23_0:=blk_frozen BK209.out 0
         have hfz23_1:=blk_frozen BK209.out 1
         have hfz23_2:=blk_frozen BK209.out 2
         go_wp2
         go_ret
         exact ⟨by first|rfl|(simp [*,errW_none,errW_some] <;> rfl),by repeat (first|(with_reducible first|exact HB.out|apply below_alloc|apply pw_below_drewN|apply below_drew1|refine below_set ?_ GE209.out)|exact HB.out)⟩

/-! ### impl_lengths: function 59 -/
mutual
def impl_lengths.l0 : Nat → Int → Int → List (S74) → Int → Int → Option (Int × Int × Bool)
 | 0,_,_,_,_,_=>none
 | k + 1,x5,x6,x9,x10,x11=>if x11 < x10 then (if 0 ≤ x11 then (if x11 < (x9.length : Int) then (if ((rd_T74 x9 x11).f0) > 120 then (impl_lengths.j1 k x5 x6 x9 x10 x11 true ((rd_T74 x9 x11).f0) ((rd_T74 x9 x11).f1) ((rd_T74 x9 x11).f2)) else (impl_lengths.j1 k x5 x6 x9 x10 x11 (decide (((rd_T74 x9 x11).f1) > 120)) ((rd_T74 x9 x11).f0) ((rd_T74 x9 x11).f1) ((rd_T74 x9 x11).f2))) else (none)) else (none)) else (some (x5,x6,true))
def impl_lengths.j1 : Nat → Int → Int → List (S74) → Int → Int → Bool → Int → Int → ByteArray → Option (Int × Int × Bool)
 | 0,_,_,_,_,_,_,_,_,_=>none
 | k + 1,x5,x6,x9,x10,x11,x22,x212000,x212001,x212002=>if x22 = true then (some (0,0,false)) else (if (wrap64 (x5 + (wrap64 (x212000 + x212001)))) > 120 then (some (0,0,false)) else (if (wrap64 (x6 + (wrap64 (x212000 + (x212002.size : Int))))) > 120 then (some (0,0,false)) else (impl_lengths.l0 k (wrap64 (x5 + (wrap64 (x212000 + x212001)))) (wrap64 (x6 + (wrap64 (x212000 + (x212002.size : Int))))) x9 x10 (wrap64 (x11 + 1)))))
end
def impl_lengths.f (k : Nat) (l0 : List (S74)) : Option (Int × Int × Bool):=impl_lengths.l0 k 0 0 l0 (l0.length : Int) 0
theorem impl_lengths.mono_l : ∀ k,(∀ y0 y1 y2 y3 y4,LeO (impl_lengths.l0 k y0 y1 y2 y3 y4) (impl_lengths.l0 (k + 1) y0 y1 y2 y3 y4))∧(∀ y0 y1 y2 y3 y4 y5 y6 y7 y8,LeO (impl_lengths.j1 k y0 y1 y2 y3 y4 y5 y6 y7 y8) (impl_lengths.j1 (k + 1) y0 y1 y2 y3 y4 y5 y6 y7 y8))
 | 0=>⟨fun _ _ _ _ _ r h=>by simp [impl_lengths.l0] at h,fun _ _ _ _ _ _ _ _ _ r h=>by simp [impl_lengths.j1] at h⟩
 | k + 1=>by
  obtain ⟨ih0,ih1⟩:=impl_lengths.mono_l k
  refine ⟨?_,?_⟩
  ·intro y0 y1 y2 y3 y4
   unfold impl_lengths.l0
   repeat' first
   | (with_reducible exact ih0 _ _ _ _ _)
   | (with_reducible exact ih1 _ _ _ _ _ _ _ _ _)
   | (with_reducible exact LeO.refl _)
   | (with_reducible exact LeO.none _)
   | (with_reducible refine LeO.ite ?_ ?_)
   | (with_reducible refine LeO.bind ?_ (fun _=>?_))
   | exact ih0 _ _ _ _ _
   | exact ih1 _ _ _ _ _ _ _ _ _
   | exact LeO.none _
   | refine LeO.ite ?_ ?_
   | refine LeO.bind ?_ (fun _=>?_)
  ·intro y0 y1 y2 y3 y4 y5 y6 y7 y8
   unfold impl_lengths.j1
   repeat' first
   | (with_reducible exact ih0 _ _ _ _ _)
   | (with_reducible exact ih1 _ _ _ _ _ _ _ _ _)
   | (with_reducible exact LeO.refl _)
   | (with_reducible exact LeO.none _)
   | (with_reducible refine LeO.ite ?_ ?_)
   | (with_reducible refine LeO.bind ?_ (fun _=>?_))
   | exact ih0 _ _ _ _ _
   | exact ih1 _ _ _ _ _ _ _ _ _
   | exact LeO.none _
   | refine LeO.ite ?_ ?_
   | refine LeO.bind ?_ (fun _=>?_)
theorem impl_lengths.mono : ∀ a0 k,LeO (impl_lengths.f k a0) (impl_lengths.f (k + 1) a0):=by
 intro a0 k
 obtain ⟨ih0,ih1⟩:=impl_lengths.mono_l k
 unfold impl_lengths.f
 repeat' first
   | (with_reducible exact ih0 _ _ _ _ _)
   | (with_reducible exact ih1 _ _ _ _ _ _ _ _ _)
   | (with_reducible exact LeO.refl _)
   | (with_reducible exact LeO.none _)
   | (with_reducible refine LeO.ite ?_ ?_)
   | (with_reducible refine LeO.bind ?_ (fun _=>?_))
   | exact ih0 _ _ _ _ _
   | exact ih1 _ _ _ _ _ _ _ _ _
   | exact LeO.none _
   | refine LeO.ite ?_ ?_
   | refine LeO.bind ?_ (fun _=>?_)
set_option maxHeartbeats 8000000 in
set_option maxRecDepth 100000 in
theorem impl_lengths.calls (k : Nat) (A0 : Option Addr) (c0 : Nat) (l0 : List (S74)) (r1 : Int) (r2 : Int) (r3 : Bool) (w : World) (hr0 : Kd.C k74 w A0 l0.length l0) (hc0 : l0.length ≤ c0) (h : impl_lengths.f k l0 = some (r1,r2,r3)) :
  Calls Try.prog 59 #[.slice A0 l0.length c0] w fun e w'=>e = .returned (.tuple #[.int .i64 r1,.int .i64 r2,.bool r3])∧Below w.heap.size w w':=by
 have hu74:=Try.underlying74
 have HR0:=Aside0.mk hr0
 have HC0:=Aside0.mk hc0
 clear hr0 hc0
 have HB:=Aside0.mk (Below.refl w.heap.size w)
 have H : (impl_lengths.l0 k 0 0 l0 (l0.length : Int) 0) = some (r1,r2,r3):=h
 clear h
 have H':=Aside0.mk H
 clear H
 go_enter Try.func59,Try.ntmps59
 go_wp2
 go_loopg [5,6,11] k (fun kq v5 v6 v11 w'=>∃ (x5_1 : Int) (x6_1 : Int) (x11_1 : Int),v5 = .int .i64 x5_1∧v6 = .int .i64 x6_1∧v11 = .int .i64 x11_1∧Aside0 (impl_lengths.l0 kq x5_1 x6_1 l0 (l0.length : Int) x11_1 = some (r1,r2,r3))∧Aside0 (kq ≤ k)∧Aside0 (Below w.heap.size w w'))
 case atStart=>exact ⟨(0),(0),(0),(by first|rfl|(simp;done)|(simp [*];done)),(by first|rfl|(simp;done)|(simp [*];done)),(by first|rfl|(simp;done)|(simp [*];done)),H',⟨Nat.le_refl _⟩,⟨by repeat (first|exact HB.out|apply below_alloc|apply pw_below_drewN|apply below_drew1)⟩⟩
 case round =>
  clear H'
  obtain ⟨x5_1,x6_1,x11_1,rfl,rfl,rfl,HA,HK1,HB⟩:=hrel
  cases gk with
  | zero=>exact absurd HA.out (by simp [impl_lengths.l0])
  | succ k1 =>
   have H:=HA.out
   clear HA
   simp only [impl_lengths.l0] at H
   by_cases c2 : x11_1 < (l0.length : Int)
   ·rw [if_pos c2] at H
    have c2b0 : decide (x11_1 < (l0.length : Int)) = true:=decide_eq_true c2
    clear c2
    by_cases c3 : 0 ≤ x11_1
    ·rw [if_pos c3] at H
     have c3b0 : decide (0 ≤ x11_1) = true:=decide_eq_true c3
     clear c3
     by_cases c4 : x11_1 < (l0.length : Int)
     ·rw [if_pos c4] at H
      have c4b0 : decide (x11_1 < (l0.length : Int)) = true:=decide_eq_true c4
      clear c4
      have HC5:=Aside0.mk H
      clear H
      have p210 : 0 ≤ (x11_1 : Int):=of_decide_eq_true (by assumption)
      have q210 : x11_1 < (l0.length : Int):=of_decide_eq_true (by assumption)
      obtain ⟨ad210,e210,hx210_0,hx210_1,hx210_2⟩:=at_T74 HR0.out x11_1 p210 q210
      cases e210
      (try replace hx210_0:=(HB.out.cell (World.block_lt_of_cell? w _ hx210_0)).trans hx210_0)
      (try replace hx210_1:=(HB.out.cell (World.block_lt_of_cell? w _ hx210_1)).trans hx210_1)
      (try replace hx210_2:=(HB.out.cell (World.block_lt_of_cell? w _ hx210_2)).trans hx210_2)
      replace p210:=eq_true p210
      replace q210:=eq_true q210
      go_upto_region 5 with (first|((with_reducible refine gate_dst (N:=8) rfl ?_);refine box_event ?hg (N:=8) ?hd (cs:=#[.int .i64 0,.int .i64 0,.string (⟨#[]⟩ : ByteArray)]) (t:=74) ?hr ?_;(case hd=>rfl);(case hg=>rfl);(case hr=>first|(go_simp;done)|(go_simp;rfl));intro gb211 hg w6 hbox hb;have n0_:=Aside0.mk (below_step (by repeat (first|exact HB.out|apply below_alloc|apply pw_below_drewN|apply below_drew1)) hb);have n1_:=Aside0.mk (hbox);have n2_:=Aside0.mk ((by rw [hg];exact (below_size (by repeat (first|exact HB.out|apply below_alloc|apply pw_below_drewN|apply below_drew1))) : w.heap.size ≤ gb211));have n3_:=Aside0.mk ((by rw [hg];exact (below_size (by repeat (first|exact HB.out|apply below_alloc|apply pw_below_drewN|apply below_drew1))) : w.heap.size ≤ gb211));clear HB;have HB:=n0_;have BK211:=n1_;have GW211:=n2_;have GE211:=n3_;clear n0_ n1_ n2_ n3_;clear hb hbox hg;have hcz7_0 : w6.cell? ⟨gb211,0,none⟩ = some (.int .i64 0):=(blk_cell BK211.out 0).trans rfl;have hcz7_1 : w6.cell? ⟨gb211,1,none⟩ = some (.int .i64 0):=(blk_cell BK211.out 1).trans rfl;have hcz7_2 : w6.cell? ⟨gb211,2,none⟩ = some (.string (⟨#[]⟩ : ByteArray)):=(blk_cell BK211.out 2).trans rfl;have hfz7_0:=blk_frozen BK211.out 0;have hfz7_1:=blk_frozen BK211.out 1;have hfz7_2:=blk_frozen BK211.out 2))
      (try simp only [Act.put,List.setIfInBounds_toArray,List.set_cons_zero,List.set_cons_succ])
      go_cut [22] (fun v22 wc=>∃ (kq : Nat) (x22_4 : Bool),v22 = .bool x22_4∧Aside0 (impl_lengths.j1 kq x5_1 x6_1 l0 (l0.length : Int) x11_1 x22_4 ((rd_T74 l0 x11_1).f0) ((rd_T74 l0 x11_1).f1) ((rd_T74 l0 x11_1).f2) = some (r1,r2,r3))∧Aside0 (kq ≤ k1)∧Aside0 (wc.heap[gb211]? = some (.cells #[.int .i64 ((rd_T74 l0 x11_1).f0),.int .i64 ((rd_T74 l0 x11_1).f1),.string ((rd_T74 l0 x11_1).f2)] 74 (0,0)))∧Aside0 (Below w.heap.size w wc))
      case first =>
       have H:=HC5.out
       clear HC5
       by_cases c8 : ((rd_T74 l0 x11_1).f0) > 120
       ·rw [if_pos c8] at H
        have c8b0 : decide (120 < ((rd_T74 l0 x11_1).f0)) = true:=decide_eq_true c8
        clear c8
        (first|rw [c8b0]|(simp only [i64_w,i32_w];rw [c8b0])|skip)
        have H':=Aside0.mk H
        clear H
        have hcz9_0 : w6.cell? ⟨gb211,0,none⟩ = some (.int .i64 0):=(blk_cell BK211.out 0).trans rfl
        have hcz9_1 : w6.cell? ⟨gb211,1,none⟩ = some (.int .i64 0):=(blk_cell BK211.out 1).trans rfl
        have hcz9_2 : w6.cell? ⟨gb211,2,none⟩ = some (.string (⟨#[]⟩ : ByteArray)):=(blk_cell BK211.out 2).trans rfl
        have hfz9_0:=blk_frozen BK211.out 0
        have hfz9_1:=blk_frozen BK211.out 1
        have hfz9_2:=blk_frozen BK211.out 2
        go_wp2
        go_meet
        case rel=>exact ⟨_,(true),(by first|rfl|(simp;done)|(simp [*];done)),H',⟨by have:=HK1.out;first|omega|exact Nat.le_refl _⟩,⟨by (with_reducible repeat first|apply blk_drewN|apply blk_drew|apply blk_alloc);refine blk_put (cs:=#[.int .i64 ((rd_T74 l0 x11_1).f0),.int .i64 ((rd_T74 l0 x11_1).f1),.string (⟨#[]⟩ : ByteArray)]) ?_ 2 _ rfl;(with_reducible repeat first|apply blk_drewN|apply blk_drew|apply blk_alloc);refine blk_put (cs:=#[.int .i64 ((rd_T74 l0 x11_1).f0),.int .i64 0,.string (⟨#[]⟩ : ByteArray)]) ?_ 1 _ rfl;(with_reducible repeat first|apply blk_drewN|apply blk_drew|apply blk_alloc);refine blk_put (cs:=#[.int .i64 0,.int .i64 0,.string (⟨#[]⟩ : ByteArray)]) ?_ 0 _ rfl;(with_reducible repeat first|apply blk_drewN|apply blk_drew|apply blk_alloc);exact BK211.out⟩,⟨by repeat (first|(with_reducible first|exact HB.out|apply below_alloc|apply pw_below_drewN|apply below_drew1|refine below_set ?_ GE211.out)|exact HB.out)⟩⟩
       ·rw [if_neg c8] at H
        have c8b0 : decide (120 < ((rd_T74 l0 x11_1).f0)) = false:=decide_eq_false c8
        clear c8
        (first|rw [c8b0]|(simp only [i64_w,i32_w];rw [c8b0])|skip)
        have H':=Aside0.mk H
        clear H
        have hcz10_0 : w6.cell? ⟨gb211,0,none⟩ = some (.int .i64 0):=(blk_cell BK211.out 0).trans rfl
        have hcz10_1 : w6.cell? ⟨gb211,1,none⟩ = some (.int .i64 0):=(blk_cell BK211.out 1).trans rfl
        have hcz10_2 : w6.cell? ⟨gb211,2,none⟩ = some (.string (⟨#[]⟩ : ByteArray)):=(blk_cell BK211.out 2).trans rfl
        have hfz10_0:=blk_frozen BK211.out 0
        have hfz10_1:=blk_frozen BK211.out 1
        have hfz10_2:=blk_frozen BK211.out 2
        go_wp2
        go_meet
        case rel=>exact ⟨_,(decide (((rd_T74 l0 x11_1).f1) > 120)),(by first|rfl|(simp;done)|(simp [*];done)),H',⟨by have:=HK1.out;first|omega|exact Nat.le_refl _⟩,⟨by (with_reducible repeat first|apply blk_drewN|apply blk_drew|apply blk_alloc);refine blk_put (cs:=#[.int .i64 ((rd_T74 l0 x11_1).f0),.int .i64 ((rd_T74 l0 x11_1).f1),.string (⟨#[]⟩ : ByteArray)]) ?_ 2 _ rfl;(with_reducible repeat first|apply blk_drewN|apply blk_drew|apply blk_alloc);refine blk_put (cs:=#[.int .i64 ((rd_T74 l0 x11_1).f0),.int .i64 0,.string (⟨#[]⟩ : ByteArray)]) ?_ 1 _ rfl;(with_reducible repeat first|apply blk_drewN|apply blk_drew|apply blk_alloc);refine blk_put (cs:=#[.int .i64 0,.int .i64 0,.string (⟨#[]⟩ : ByteArray)]) ?_ 0 _ rfl;(with_reducible repeat first|apply blk_drewN|apply blk_drew|apply blk_alloc);exact BK211.out⟩,⟨by repeat (first|(with_reducible first|exact HB.out|apply below_alloc|apply pw_below_drewN|apply below_drew1|refine below_set ?_ GE211.out)|exact HB.out)⟩⟩
      case rest =>
       clear HC5
       try clear c2;try clear c2b0;try clear p2;try clear q2;try clear hx2;try clear c3;try clear c3b0;try clear c4;try clear c4b0;try clear c5;try clear c8;try clear c8b0;try clear hcz10_0;try clear hcz10_1;try clear hcz10_2;try clear hcz7_0;try clear hcz7_1;try clear hcz7_2;try clear hcz9_0;try clear hcz9_1;try clear hcz9_2;try clear hfz10_0;try clear hfz10_1;try clear hfz10_2;try clear hfz7_0;try clear hfz7_1;try clear hfz7_2;try clear hfz9_0;try clear hfz9_1;try clear hfz9_2;try clear hx210_0;try clear hx210_1;try clear hx210_2;try clear p210;try clear q210
       obtain ⟨kq,x22_4,rfl,HA,HJ4,BK211,HB⟩:=hcut
       cases kq with
       | zero=>exact absurd HA.out (by simp [impl_lengths.j1])
       | succ kj4 =>
        have H:=HA.out
        clear HA
        simp only [impl_lengths.j1] at H
        by_cases c11 : x22_4 = true
        ·subst c11
         have H1 : (some (0,0,false)) = some (r1,r2,r3):=by rw [if_pos rfl] at H;exact H
         clear H
         have H:=H1
         clear H1
         simp only [Option.some.injEq,Prod.mk.injEq] at H
         obtain ⟨rfl,rfl,rfl⟩:=H
         go_wp2
         go_ret3
         exact ⟨by first|rfl|(simp [*,errW_none,errW_some] <;> rfl),by repeat (first|(with_reducible first|exact HB.out|apply below_alloc|apply pw_below_drewN|apply below_drew1|refine below_set ?_ GE211.out)|exact HB.out)⟩
        ·replace c11:=Bool.eq_false_iff.mpr c11
         subst c11
         have H1 : (if (wrap64 (x5_1 + (wrap64 (((rd_T74 l0 x11_1).f0) + ((rd_T74 l0 x11_1).f1))))) > 120 then (some (0,0,false)) else (if (wrap64 (x6_1 + (wrap64 (((rd_T74 l0 x11_1).f0) + (((rd_T74 l0 x11_1).f2).size : Int))))) > 120 then (some (0,0,false)) else (impl_lengths.l0 kj4 (wrap64 (x5_1 + (wrap64 (((rd_T74 l0 x11_1).f0) + ((rd_T74 l0 x11_1).f1))))) (wrap64 (x6_1 + (wrap64 (((rd_T74 l0 x11_1).f0) + (((rd_T74 l0 x11_1).f2).size : Int))))) l0 (l0.length : Int) (wrap64 (x11_1 + 1))))) = some (r1,r2,r3):=by rw [if_neg (show ¬ (false = true) by decide)] at H;exact H
         clear H
         have H:=H1
         clear H1
         by_cases c12 : (wrap64 (x5_1 + (wrap64 (((rd_T74 l0 x11_1).f0) + ((rd_T74 l0 x11_1).f1))))) > 120
         ·rw [if_pos c12] at H
          have c12b0 : decide (120 < (wrap64 (x5_1 + (wrap64 (((rd_T74 l0 x11_1).f0) + ((rd_T74 l0 x11_1).f1)))))) = true:=decide_eq_true c12
          clear c12
          simp only [Option.some.injEq,Prod.mk.injEq] at H
          obtain ⟨rfl,rfl,rfl⟩:=H
          have hcz13_0 : wc.cell? ⟨gb211,0,none⟩ = some (.int .i64 ((rd_T74 l0 x11_1).f0)):=(blk_cell BK211.out 0).trans rfl
          have hcz13_1 : wc.cell? ⟨gb211,1,none⟩ = some (.int .i64 ((rd_T74 l0 x11_1).f1)):=(blk_cell BK211.out 1).trans rfl
          have hcz13_2 : wc.cell? ⟨gb211,2,none⟩ = some (.string ((rd_T74 l0 x11_1).f2)):=(blk_cell BK211.out 2).trans rfl
          have hfz13_0:=blk_frozen BK211.out 0
          have hfz13_1:=blk_frozen BK211.out 1
          have hfz13_2:=blk_frozen BK211.out 2
          go_wp2
          go_ret3
          exact ⟨by first|rfl|(simp [*,errW_none,errW_some] <;> rfl),by repeat (first|(with_reducible first|exact HB.out|apply below_alloc|apply pw_below_drewN|apply below_drew1|refine below_set ?_ GE211.out)|exact HB.out)⟩
         ·rw [if_neg c12] at H
          have c12b0 : decide (120 < (wrap64 (x5_1 + (wrap64 (((rd_T74 l0 x11_1).f0) + ((rd_T74 l0 x11_1).f1)))))) = false:=decide_eq_false c12
          clear c12
          by_cases c14 : (wrap64 (x6_1 + (wrap64 (((rd_T74 l0 x11_1).f0) + (((rd_T74 l0 x11_1).f2).size : Int))))) > 120
          ·rw [if_pos c14] at H
           have c14b0 : decide (120 < (wrap64 (x6_1 + (wrap64 (((rd_T74 l0 x11_1).f0) + (((rd_T74 l0 x11_1).f2).size : Int)))))) = true:=decide_eq_true c14
           clear c14
           simp only [Option.some.injEq,Prod.mk.injEq] at H
           obtain ⟨rfl,rfl,rfl⟩:=H
           have hcz15_0 : wc.cell? ⟨gb211,0,none⟩ = some (.int .i64 ((rd_T74 l0 x11_1).f0)):=(blk_cell BK211.out 0).trans rfl
           have hcz15_1 : wc.cell? ⟨gb211,1,none⟩ = some (.int .i64 ((rd_T74 l0 x11_1).f1)):=(blk_cell BK211.out 1).trans rfl
           have hcz15_2 : wc.cell? ⟨gb211,2,none⟩ = some (.string ((rd_T74 l0 x11_1).f2)):=(blk_cell BK211.out 2).trans rfl
           have hfz15_0:=blk_frozen BK211.out 0
           have hfz15_1:=blk_frozen BK211.out 1
           have hfz15_2:=blk_frozen BK211.out 2
           go_wp2
           go_ret3
           exact ⟨by first|rfl|(simp [*,errW_none,errW_some] <;> rfl),by repeat (first|(with_reducible first|exact HB.out|apply below_alloc|apply pw_below_drewN|apply below_drew1|refine below_set ?_ GE211.out)|exact HB.out)⟩
          ·rw [if_neg c14] at H
           have c14b0 : decide (120 < (wrap64 (x6_1 + (wrap64 (((rd_T74 l0 x11_1).f0) + (((rd_T74 l0 x11_1).f2).size : Int)))))) = false:=decide_eq_false c14
           clear c14
           have H':=Aside0.mk H
           clear H
           have hcz16_0 : wc.cell? ⟨gb211,0,none⟩ = some (.int .i64 ((rd_T74 l0 x11_1).f0)):=(blk_cell BK211.out 0).trans rfl
           have hcz16_1 : wc.cell? ⟨gb211,1,none⟩ = some (.int .i64 ((rd_T74 l0 x11_1).f1)):=(blk_cell BK211.out 1).trans rfl
           have hcz16_2 : wc.cell? ⟨gb211,2,none⟩ = some (.string ((rd_T74 l0 x11_1).f2)):=(blk_cell BK211.out 2).trans rfl
           have hfz16_0:=blk_frozen BK211.out 0
           have hfz16_1:=blk_frozen BK211.out 1
           have hfz16_2:=blk_frozen BK211.out 2
           go_wp2
           go_roundg kj4
           case measure=>have:=HK1.out;have:=HJ4.out;omega
           case rel=>exact ⟨(wrap64 (x5_1 + (wrap64 (((rd_T74 l0 x11_1).f0) + ((rd_T74 l0 x11_1).f1))))),(wrap64 (x6_1 + (wrap64 (((rd_T74 l0 x11_1).f0) + (((rd_T74 l0 x11_1).f2).size : Int))))),(wrap64 (x11_1 + 1)),(by first|rfl|(simp;done)|(simp [*];done)),(by first|rfl|(simp;done)|(simp [*];done)),(by first|rfl|(simp;done)|(simp [*];done)),H',⟨by have:=HK1.out;have:=HJ4.out;omega⟩,⟨by repeat (first|(with_reducible first|exact HB.out|apply below_alloc|apply pw_below_drewN|apply below_drew1|refine below_set ?_ GE211.out)|exact HB.out)⟩⟩
     ·rw [if_neg c4] at H
      exact absurd H (by simp)
    ·rw [if_neg c3] at H
     exact absurd H (by simp)
   ·rw [if_neg c2] at H
    have c2b0 : decide (x11_1 < (l0.length : Int)) = false:=decide_eq_false c2
    clear c2
    simp only [Option.some.injEq,Prod.mk.injEq] at H
    obtain ⟨rfl,rfl,rfl⟩:=H
    go_wp2
    go_ret3
    exact ⟨by first|rfl|(simp [*,errW_none,errW_some] <;> rfl),by repeat (first|exact HB.out|apply below_alloc|apply pw_below_drewN|apply below_drew1)⟩

/-! ### impl_GoodChange: function 18 -/
def impl_GoodChange.l0 : Nat → List (S74) → List (S74) → Int → Int → Option (Bool)
 | 0,_,_,_,_=>none
 | k + 1,x0,x9,x10,x11=>if x11 < x10 then (if 0 ≤ x11 then (if x11 < (x9.length : Int) then ((impl_Part_kind.f k ((rd_T74 x9 x11).f0) ((rd_T74 x9 x11).f1) ((rd_T74 x9 x11).f2)).bind fun t217=>(if t217 = 0 then (some false) else (if x11 > 0 then (if 0 ≤ (wrap64 (x11 - 1)) then (if (wrap64 (x11 - 1)) < (x0.length : Int) then ((impl_Part_kind.f k ((rd_T74 x0 (wrap64 (x11 - 1))).f0) ((rd_T74 x0 (wrap64 (x11 - 1))).f1) ((rd_T74 x0 (wrap64 (x11 - 1))).f2)).bind fun t219=>(if t219 = t217 then (some false) else (impl_GoodChange.l0 k x0 x9 x10 (wrap64 (x11 + 1))))) else (none)) else (none)) else (impl_GoodChange.l0 k x0 x9 x10 (wrap64 (x11 + 1)))))) else (none)) else (none)) else ((impl_lengths.f k x0).bind fun bt212=>(some bt212.2.2))
def impl_GoodChange.f (k : Nat) (l0 : List (S74)) : Option (Bool):=impl_GoodChange.l0 k l0 l0 (l0.length : Int) 0
theorem impl_GoodChange.mono_l : ∀ k,(∀ y0 y1 y2 y3,LeO (impl_GoodChange.l0 k y0 y1 y2 y3) (impl_GoodChange.l0 (k + 1) y0 y1 y2 y3))
 | 0=>fun _ _ _ _ r h=>by simp [impl_GoodChange.l0] at h
 | k + 1=>by
  have ih0:=impl_GoodChange.mono_l k
  ·intro y0 y1 y2 y3
   unfold impl_GoodChange.l0
   repeat' first
   | (with_reducible exact ih0 _ _ _ _)
   | (with_reducible exact impl_Part_kind.mono _ _ _ _)
   | (with_reducible exact impl_lengths.mono _ _)
   | (with_reducible exact LeO.refl _)
   | (with_reducible exact LeO.none _)
   | (with_reducible refine LeO.ite ?_ ?_)
   | (with_reducible refine LeO.bind ?_ (fun _=>?_))
   | exact ih0 _ _ _ _
   | exact impl_Part_kind.mono _ _ _ _
   | exact impl_lengths.mono _ _
   | exact LeO.none _
   | refine LeO.ite ?_ ?_
   | refine LeO.bind ?_ (fun _=>?_)
theorem impl_GoodChange.mono : ∀ a0 k,LeO (impl_GoodChange.f k a0) (impl_GoodChange.f (k + 1) a0):=by
 intro a0 k
 have ih0:=impl_GoodChange.mono_l k
 unfold impl_GoodChange.f
 repeat' first
   | (with_reducible exact ih0 _ _ _ _)
   | (with_reducible exact impl_Part_kind.mono _ _ _ _)
   | (with_reducible exact impl_lengths.mono _ _)
   | (with_reducible exact LeO.refl _)
   | (with_reducible exact LeO.none _)
   | (with_reducible refine LeO.ite ?_ ?_)
   | (with_reducible refine LeO.bind ?_ (fun _=>?_))
   | exact ih0 _ _ _ _
   | exact impl_Part_kind.mono _ _ _ _
   | exact impl_lengths.mono _ _
   | exact LeO.none _
   | refine LeO.ite ?_ ?_
   | refine LeO.bind ?_ (fun _=>?_)
set_option maxHeartbeats 8000000 in
set_option maxRecDepth 100000 in
theorem impl_GoodChange.calls (k : Nat) (A0 : Option Addr) (c0 : Nat) (l0 : List (S74)) (r : Bool) (w : World) (hr0 : Kd.C k74 w A0 l0.length l0) (hc0 : l0.length ≤ c0) (h : impl_GoodChange.f k l0 = some r) :
  Calls Try.prog 18 #[.slice A0 l0.length c0] w fun e w'=>e = .returned (.bool r)∧Below w.heap.size w w':=by
 have hu74:=Try.underlying74
 have HR0:=Aside0.mk hr0
 have HC0:=Aside0.mk hc0
 clear hr0 hc0
 have HB:=Aside0.mk (Below.refl w.heap.size w)
 have H : (impl_GoodChange.l0 k l0 l0 (l0.length : Int) 0) = some r:=h
 clear h
 have H':=Aside0.mk H
 clear H
 go_enter Try.func18,Try.ntmps18
 go_wp2
 go_loopg [11] k (fun kq v11 w'=>∃ (x11_1 : Int),v11 = .int .i64 x11_1∧Aside0 (impl_GoodChange.l0 kq l0 l0 (l0.length : Int) x11_1 = some r)∧Aside0 (kq ≤ k)∧Aside0 (Below w.heap.size w w'))
 case atStart=>exact ⟨(0),(by first|rfl|(simp;done)|(simp [*];done)),H',⟨Nat.le_refl _⟩,⟨by repeat (first|exact HB.out|apply below_alloc|apply pw_below_drewN|apply below_drew1)⟩⟩
 case round =>
  clear H'
  try clear c1
  obtain ⟨x11_1,rfl,HA,HK1,HB⟩:=hrel
  cases gk with
  | zero=>exact absurd HA.out (by simp [impl_GoodChange.l0])
  | succ k1 =>
   have H:=HA.out
   clear HA
   simp only [impl_GoodChange.l0] at H
   by_cases c2 : x11_1 < (l0.length : Int)
   ·rw [if_pos c2] at H
    have c2b0 : decide (x11_1 < (l0.length : Int)) = true:=decide_eq_true c2
    clear c2
    by_cases c3 : 0 ≤ x11_1
    ·rw [if_pos c3] at H
     have c3b0 : decide (0 ≤ x11_1) = true:=decide_eq_true c3
     clear c3
     by_cases c4 : x11_1 < (l0.length : Int)
     ·rw [if_pos c4] at H
      have c4b0 : decide (x11_1 < (l0.length : Int)) = true:=decide_eq_true c4
      clear c4
      replace H:=Option.bind_eq_some_iff.mp H
      obtain ⟨t217,A50,H⟩:=H
      replace H : (if t217 = 0 then (some false) else (if x11_1 > 0 then (if 0 ≤ (wrap64 (x11_1 - 1)) then (if (wrap64 (x11_1 - 1)) < (l0.length : Int) then ((impl_Part_kind.f k1 ((rd_T74 l0 (wrap64 (x11_1 - 1))).f0) ((rd_T74 l0 (wrap64 (x11_1 - 1))).f1) ((rd_T74 l0 (wrap64 (x11_1 - 1))).f2)).bind fun t219=>(if t219 = t217 then (some false) else (impl_GoodChange.l0 k1 l0 l0 (l0.length : Int) (wrap64 (x11_1 + 1))))) else (none)) else (none)) else (impl_GoodChange.l0 k1 l0 l0 (l0.length : Int) (wrap64 (x11_1 + 1))))) = some r:=H
      have A5:=Aside0.mk A50
      clear A50
      by_cases c6 : t217 = 0
      ·rw [if_pos c6] at H
       have c6b0 : (t217 == 0) = true:=beq_iff_eq.mpr c6
       have c6b1 : (t217 != 0) = false:=bne_eq_false_iff_eq.mpr c6
       clear c6
       obtain rfl:=Option.some.inj H
       have p215 : 0 ≤ (x11_1 : Int):=of_decide_eq_true (by assumption)
       have q215 : x11_1 < (l0.length : Int):=of_decide_eq_true (by assumption)
       obtain ⟨ad215,e215,hx215_0,hx215_1,hx215_2⟩:=at_T74 HR0.out x11_1 p215 q215
       cases e215
       (try replace hx215_0:=(HB.out.cell (World.block_lt_of_cell? w _ hx215_0)).trans hx215_0)
       (try replace hx215_1:=(HB.out.cell (World.block_lt_of_cell? w _ hx215_1)).trans hx215_1)
       (try replace hx215_2:=(HB.out.cell (World.block_lt_of_cell? w _ hx215_2)).trans hx215_2)
       replace p215:=eq_true p215
       replace q215:=eq_true q215
       go_wp2_with (first|((with_reducible refine gate_dst (N:=4) rfl ?_);refine box_event ?hg (N:=4) ?hd (cs:=#[.int .i64 0,.int .i64 0,.string (⟨#[]⟩ : ByteArray)]) (t:=74) ?hr ?_;(case hd=>rfl);(case hg=>rfl);(case hr=>first|(go_simp;done)|(go_simp;rfl));intro gb216 hg w7 hbox hb;have n0_:=Aside0.mk (below_step (by repeat (first|exact HB.out|apply below_alloc|apply pw_below_drewN|apply below_drew1)) hb);have n1_:=Aside0.mk (hbox);have n2_:=Aside0.mk ((by rw [hg];exact (below_size (by repeat (first|exact HB.out|apply below_alloc|apply pw_below_drewN|apply below_drew1))) : w.heap.size ≤ gb216));have n3_:=Aside0.mk ((by rw [hg];exact (below_size (by repeat (first|exact HB.out|apply below_alloc|apply pw_below_drewN|apply below_drew1))) : w.heap.size ≤ gb216));clear HB;have HB:=n0_;have BK216:=n1_;have GW216:=n2_;have GE216:=n3_;clear n0_ n1_ n2_ n3_;clear hb hbox hg;have hcz8_0 : w7.cell? ⟨gb216,0,none⟩ = some (.int .i64 0):=(blk_cell BK216.out 0).trans rfl;have hcz8_1 : w7.cell? ⟨gb216,1,none⟩ = some (.int .i64 0):=(blk_cell BK216.out 1).trans rfl;have hcz8_2 : w7.cell? ⟨gb216,2,none⟩ = some (.string (⟨#[]⟩ : ByteArray)):=(blk_cell BK216.out 2).trans rfl;have hfz8_0:=blk_frozen BK216.out 0;have hfz8_1:=blk_frozen BK216.out 1;have hfz8_2:=blk_frozen BK216.out 2)|((with_reducible refine gate_callee (f:=58) rfl ?_);refine goesL_ (some 17) rfl rfl Try.func58 (by kernel_rfl) rfl #[.agg #[.int .i64 ((rd_T74 l0 x11_1).f0),.int .i64 ((rd_T74 l0 x11_1).f1),.string ((rd_T74 l0 x11_1).f2)]] rfl (by (try simp only [List.map_toArray,List.map_cons,List.map_nil]);first|done|rfl|(simp only [List.length_drop,List.length_take];rfl)) ?_;(with_reducible refine (impl_Part_kind.calls k1 ((rd_T74 l0 x11_1).f0) ((rd_T74 l0 x11_1).f1) ((rd_T74 l0 x11_1).f2) t217 _ A5.out).mono ?_);rintro e w9 ⟨rfl,hb⟩;refine ⟨_,rfl,?_⟩;have n0_:=Aside0.mk (blk_below (g:=gb216) (o:=.cells #[.int .i64 ((rd_T74 l0 x11_1).f0),.int .i64 ((rd_T74 l0 x11_1).f1),.string ((rd_T74 l0 x11_1).f2)] 74 (0,0)) (by (with_reducible repeat first|apply blk_drewN|apply blk_drew|apply blk_alloc);refine blk_put (cs:=#[.int .i64 ((rd_T74 l0 x11_1).f0),.int .i64 ((rd_T74 l0 x11_1).f1),.string (⟨#[]⟩ : ByteArray)]) ?_ 2 _ rfl;(with_reducible repeat first|apply blk_drewN|apply blk_drew|apply blk_alloc);refine blk_put (cs:=#[.int .i64 ((rd_T74 l0 x11_1).f0),.int .i64 0,.string (⟨#[]⟩ : ByteArray)]) ?_ 1 _ rfl;(with_reducible repeat first|apply blk_drewN|apply blk_drew|apply blk_alloc);refine blk_put (cs:=#[.int .i64 0,.int .i64 0,.string (⟨#[]⟩ : ByteArray)]) ?_ 0 _ rfl;(with_reducible repeat first|apply blk_drewN|apply blk_drew|apply blk_alloc);exact BK216.out) hb);have n1_:=Aside0.mk (below_step (by repeat (first|(with_reducible first|exact HB.out|apply below_alloc|apply pw_below_drewN|apply below_drew1|refine below_set ?_ GE216.out)|exact HB.out)) hb);clear BK216;clear HB;have BK216:=n0_;have HB:=n1_;clear n0_ n1_;(try clear hb);(try clear hb2);(try clear hk);(try clear hi)))
       go_ret
       exact ⟨by first|rfl|(simp [*,errW_none,errW_some] <;> rfl),by repeat (first|(with_reducible first|exact HB.out|apply below_alloc|apply pw_below_drewN|apply below_drew1|refine below_set ?_ GE216.out)|exact HB.out)⟩
      ·rw [if_neg c6] at H
       have c6b0 : (t217 == 0) = false:=beq_eq_false_iff_ne.mpr c6
       have c6b1 : (t217 != 0) = true:=bne_iff_ne.mpr c6
       by_cases c10 : x11_1 > 0
       ·rw [if_pos c10] at H
        have c10b0 : decide (0 < x11_1) = true:=decide_eq_true c10
        clear c10
        obtain ⟨ji11,hji11⟩ : ∃ j_ : Int,(wrap64 (x11_1 - 1)) = j_:=⟨_,rfl⟩
        replace H : (if 0 ≤ (ji11) then (if (ji11) < (l0.length : Int) then ((impl_Part_kind.f k1 ((rd_T74 l0 (ji11)).f0) ((rd_T74 l0 (ji11)).f1) ((rd_T74 l0 (ji11)).f2)).bind fun t219=>(if t219 = t217 then (some false) else (impl_GoodChange.l0 k1 l0 l0 (l0.length : Int) (wrap64 (x11_1 + 1))))) else (none)) else (none)) = some r:=by first|(rw [hji11] at H;exact H)|(simp only [hji11] at H ⊢;exact H)
        (try rw [hji11] at A5)
        have hji11w : (IntKind.i64.wrap (x11_1 - 1)) = ji11:=(i64_w _).trans hji11
        by_cases c12 : 0 ≤ (ji11)
        ·rw [if_pos c12] at H
         have c12b0 : decide (0 ≤ (ji11)) = true:=decide_eq_true c12
         clear c12
         by_cases c13 : (ji11) < (l0.length : Int)
         ·rw [if_pos c13] at H
          have c13b0 : decide ((ji11) < (l0.length : Int)) = true:=decide_eq_true c13
          clear c13
          replace H:=Option.bind_eq_some_iff.mp H
          obtain ⟨t219,A140,H⟩:=H
          replace H : (if t219 = t217 then (some false) else (impl_GoodChange.l0 k1 l0 l0 (l0.length : Int) (wrap64 (x11_1 + 1)))) = some r:=H
          have A14:=Aside0.mk A140
          clear A140
          by_cases c15 : t219 = t217
          ·rw [if_pos c15] at H
           have c15b0 : (t219 == t217) = true:=beq_iff_eq.mpr c15
           have c15b1 : (t219 != t217) = false:=bne_eq_false_iff_eq.mpr c15
           clear c15
           obtain rfl:=Option.some.inj H
           have p215 : 0 ≤ (x11_1 : Int):=of_decide_eq_true (by assumption)
           have q215 : x11_1 < (l0.length : Int):=of_decide_eq_true (by assumption)
           obtain ⟨ad215,e215,hx215_0,hx215_1,hx215_2⟩:=at_T74 HR0.out x11_1 p215 q215
           cases e215
           (try replace hx215_0:=(HB.out.cell (World.block_lt_of_cell? w _ hx215_0)).trans hx215_0)
           (try replace hx215_1:=(HB.out.cell (World.block_lt_of_cell? w _ hx215_1)).trans hx215_1)
           (try replace hx215_2:=(HB.out.cell (World.block_lt_of_cell? w _ hx215_2)).trans hx215_2)
           replace p215:=eq_true p215
           replace q215:=eq_true q215
           go_wp2_with (first|((with_reducible refine gate_dst (N:=4) rfl ?_);refine box_event ?hg (N:=4) ?hd (cs:=#[.int .i64 0,.int .i64 0,.string (⟨#[]⟩ : ByteArray)]) (t:=74) ?hr ?_;(case hd=>rfl);(case hg=>rfl);(case hr=>first|(go_simp;done)|(go_simp;rfl));intro gb216 hg w16 hbox hb;have n0_:=Aside0.mk (below_step (by repeat (first|exact HB.out|apply below_alloc|apply pw_below_drewN|apply below_drew1)) hb);have n1_:=Aside0.mk (hbox);have n2_:=Aside0.mk ((by rw [hg];exact (below_size (by repeat (first|exact HB.out|apply below_alloc|apply pw_below_drewN|apply below_drew1))) : w.heap.size ≤ gb216));have n3_:=Aside0.mk ((by rw [hg];exact (below_size (by repeat (first|exact HB.out|apply below_alloc|apply pw_below_drewN|apply below_drew1))) : w.heap.size ≤ gb216));clear HB;have HB:=n0_;have BK216:=n1_;have GW216:=n2_;have GE216:=n3_;clear n0_ n1_ n2_ n3_;clear hb hbox hg;have hcz17_0 : w16.cell? ⟨gb216,0,none⟩ = some (.int .i64 0):=(blk_cell BK216.out 0).trans rfl;have hcz17_1 : w16.cell? ⟨gb216,1,none⟩ = some (.int .i64 0):=(blk_cell BK216.out 1).trans rfl;have hcz17_2 : w16.cell? ⟨gb216,2,none⟩ = some (.string (⟨#[]⟩ : ByteArray)):=(blk_cell BK216.out 2).trans rfl;have hfz17_0:=blk_frozen BK216.out 0;have hfz17_1:=blk_frozen BK216.out 1;have hfz17_2:=blk_frozen BK216.out 2)|((with_reducible refine gate_callee (f:=58) rfl ?_);refine goesL_ (some 17) rfl rfl Try.func58 (by kernel_rfl) rfl #[.agg #[.int .i64 ((rd_T74 l0 x11_1).f0),.int .i64 ((rd_T74 l0 x11_1).f1),.string ((rd_T74 l0 x11_1).f2)]] rfl (by (try simp only [List.map_toArray,List.map_cons,List.map_nil]);first|done|rfl|(simp only [List.length_drop,List.length_take];rfl)) ?_;(with_reducible refine (impl_Part_kind.calls k1 ((rd_T74 l0 x11_1).f0) ((rd_T74 l0 x11_1).f1) ((rd_T74 l0 x11_1).f2) t217 _ A5.out).mono ?_);rintro e w18 ⟨rfl,hb⟩;refine ⟨_,rfl,?_⟩;have n0_:=Aside0.mk (blk_below (g:=gb216) (o:=.cells #[.int .i64 ((rd_T74 l0 x11_1).f0),.int .i64 ((rd_T74 l0 x11_1).f1),.string ((rd_T74 l0 x11_1).f2)] 74 (0,0)) (by (with_reducible repeat first|apply blk_drewN|apply blk_drew|apply blk_alloc);refine blk_put (cs:=#[.int .i64 ((rd_T74 l0 x11_1).f0),.int .i64 ((rd_T74 l0 x11_1).f1),.string (⟨#[]⟩ : ByteArray)]) ?_ 2 _ rfl;(with_reducible repeat first|apply blk_drewN|apply blk_drew|apply blk_alloc);refine blk_put (cs:=#[.int .i64 ((rd_T74 l0 x11_1).f0),.int .i64 0,.string (⟨#[]⟩ : ByteArray)]) ?_ 1 _ rfl;(with_reducible repeat first|apply blk_drewN|apply blk_drew|apply blk_alloc);refine blk_put (cs:=#[.int .i64 0,.int .i64 0,.string (⟨#[]⟩ : ByteArray)]) ?_ 0 _ rfl;(with_reducible repeat first|apply blk_drewN|apply blk_drew|apply blk_alloc);exact BK216.out) hb);have n1_:=Aside0.mk (below_step (by repeat (first|(with_reducible first|exact HB.out|apply below_alloc|apply pw_below_drewN|apply below_drew1|refine below_set ?_ GE216.out)|exact HB.out)) hb);clear BK216;clear HB;have BK216:=n0_;have HB:=n1_;clear n0_ n1_;(try clear hb);(try clear hb2);(try clear hk);(try clear hi);have p218 : 0 ≤ ((ji11) : Int):=of_decide_eq_true (by assumption);have q218 : (ji11) < (l0.length : Int):=of_decide_eq_true (by assumption);obtain ⟨ad218,e218,hx218_0,hx218_1,hx218_2⟩:=at_T74 HR0.out (ji11) p218 q218;obtain rfl : ad215 = ad218:=(by injection e218);(try replace hx218_0:=(HB.out.cell (World.block_lt_of_cell? w _ hx218_0)).trans hx218_0);(try replace hx218_1:=(HB.out.cell (World.block_lt_of_cell? w _ hx218_1)).trans hx218_1);(try replace hx218_2:=(HB.out.cell (World.block_lt_of_cell? w _ hx218_2)).trans hx218_2);replace p218:=eq_true p218;replace q218:=eq_true q218)|(go_at_call 58;(with_reducible refine (impl_Part_kind.calls k1 ((rd_T74 l0 (ji11)).f0) ((rd_T74 l0 (ji11)).f1) ((rd_T74 l0 (ji11)).f2) t219 _ A14.out).mono ?_);rintro e w19 ⟨rfl,hb⟩;have n0_:=Aside0.mk (blk_below (g:=gb216) (o:=.cells #[.int .i64 ((rd_T74 l0 x11_1).f0),.int .i64 ((rd_T74 l0 x11_1).f1),.string ((rd_T74 l0 x11_1).f2)] 74 (0,0)) (by (with_reducible repeat first|apply blk_drewN|apply blk_drew|apply blk_alloc);exact BK216.out) hb);have n1_:=Aside0.mk (below_step (by repeat (first|(with_reducible first|exact HB.out|apply below_alloc|apply pw_below_drewN|apply below_drew1|refine below_set ?_ GE216.out)|exact HB.out)) hb);clear BK216;clear HB;have BK216:=n0_;have HB:=n1_;clear n0_ n1_;(try clear hb);(try clear hb2);(try clear hk);(try clear hi)))
           go_ret
           exact ⟨by first|rfl|(simp [errW_none,errW_some] <;> rfl)|(simp only [← hji11];first|rfl|(simp [errW_none,errW_some] <;> rfl))|(simp [*,errW_none,errW_some] <;> rfl),by repeat (first|(with_reducible first|exact HB.out|apply below_alloc|apply pw_below_drewN|apply below_drew1|refine below_set ?_ GE216.out)|exact HB.out)⟩
          ·rw [if_neg c15] at H
           have c15b0 : (t219 == t217) = false:=beq_eq_false_iff_ne.mpr c15
           have c15b1 : (t219 != t217) = true:=bne_iff_ne.mpr c15
           have H':=Aside0.mk H
           clear H
           have p215 : 0 ≤ (x11_1 : Int):=of_decide_eq_true (by assumption)
           have q215 : x11_1 < (l0.length : Int):=of_decide_eq_true (by assumption)
           obtain ⟨ad215,e215,hx215_0,hx215_1,hx215_2⟩:=at_T74 HR0.out x11_1 p215 q215
           cases e215
           (try replace hx215_0:=(HB.out.cell (World.block_lt_of_cell? w _ hx215_0)).trans hx215_0)
           (try replace hx215_1:=(HB.out.cell (World.block_lt_of_cell? w _ hx215_1)).trans hx215_1)
           (try replace hx215_2:=(HB.out.cell (World.block_lt_of_cell? w _ hx215_2)).trans hx215_2)
           replace p215:=eq_true p215
           replace q215:=eq_true q215
           go_wp2_with (first|((with_reducible refine gate_dst (N:=4) rfl ?_);refine box_event ?hg (N:=4) ?hd (cs:=#[.int .i64 0,.int .i64 0,.string (⟨#[]⟩ : ByteArray)]) (t:=74) ?hr ?_;(case hd=>rfl);(case hg=>rfl);(case hr=>first|(go_simp;done)|(go_simp;rfl));intro gb216 hg w20 hbox hb;have n0_:=Aside0.mk (below_step (by repeat (first|exact HB.out|apply below_alloc|apply pw_below_drewN|apply below_drew1)) hb);have n1_:=Aside0.mk (hbox);have n2_:=Aside0.mk ((by rw [hg];exact (below_size (by repeat (first|exact HB.out|apply below_alloc|apply pw_below_drewN|apply below_drew1))) : w.heap.size ≤ gb216));have n3_:=Aside0.mk ((by rw [hg];exact (below_size (by repeat (first|exact HB.out|apply below_alloc|apply pw_below_drewN|apply below_drew1))) : w.heap.size ≤ gb216));clear HB;have HB:=n0_;have BK216:=n1_;have GW216:=n2_;have GE216:=n3_;clear n0_ n1_ n2_ n3_;clear hb hbox hg;have hcz21_0 : w20.cell? ⟨gb216,0,none⟩ = some (.int .i64 0):=(blk_cell BK216.out 0).trans rfl;have hcz21_1 : w20.cell? ⟨gb216,1,none⟩ = some (.int .i64 0):=(blk_cell BK216.out 1).trans rfl;have hcz21_2 : w20.cell? ⟨gb216,2,none⟩ = some (.string (⟨#[]⟩ : ByteArray)):=(blk_cell BK216.out 2).trans rfl;have hfz21_0:=blk_frozen BK216.out 0;have hfz21_1:=blk_frozen BK216.out 1;have hfz21_2:=blk_frozen BK216.out 2)|((with_reducible refine gate_callee (f:=58) rfl ?_);refine goesL_ (some 17) rfl rfl Try.func58 (by kernel_rfl) rfl #[.agg #[.int .i64 ((rd_T74 l0 x11_1).f0),.int .i64 ((rd_T74 l0 x11_1).f1),.string ((rd_T74 l0 x11_1).f2)]] rfl (by (try simp only [List.map_toArray,List.map_cons,List.map_nil]);first|done|rfl|(simp only [List.length_drop,List.length_take];rfl)) ?_;(with_reducible refine (impl_Part_kind.calls k1 ((rd_T74 l0 x11_1).f0) ((rd_T74 l0 x11_1).f1) ((rd_T74 l0 x11_1).f2) t217 _ A5.out).mono ?_);rintro e w22 ⟨rfl,hb⟩;refine ⟨_,rfl,?_⟩;have n0_:=Aside0.mk (blk_below (g:=gb216) (o:=.cells #[.int .i64 ((rd_T74 l0 x11_1).f0),.int .i64 ((rd_T74 l0 x11_1).f1),.string ((rd_T74 l0 x11_1).f2)] 74 (0,0)) (by (with_reducible repeat first|apply blk_drewN|apply blk_drew|apply blk_alloc);refine blk_put (cs:=#[.int .i64 ((rd_T74 l0 x11_1).f0),.int .i64 ((rd_T74 l0 x11_1).f1),.string (⟨#[]⟩ : ByteArray)]) ?_ 2 _ rfl;(with_reducible repeat first|apply blk_drewN|apply blk_drew|apply blk_alloc);refine blk_put (cs:=#[.int .i64 ((rd_T74 l0 x11_1).f0),.int .i64 0,.string (⟨#[]⟩ : ByteArray)]) ?_ 1 _ rfl;(with_reducible repeat first|apply blk_drewN|apply blk_drew|apply blk_alloc);refine blk_put (cs:=#[.int .i64 0,.int .i64 0,.string (⟨#[]⟩ : ByteArray)]) ?_ 0 _ rfl;(with_reducible repeat first|apply blk_drewN|apply blk_drew|apply blk_alloc);exact BK216.out) hb);have n1_:=Aside0.mk (below_step (by repeat (first|(with_reducible first|exact HB.out|apply below_alloc|apply pw_below_drewN|apply below_drew1|refine below_set ?_ GE216.out)|exact HB.out)) hb);clear BK216;clear HB;have BK216:=n0_;have HB:=n1_;clear n0_ n1_;(try clear hb);(try clear hb2);(try clear hk);(try clear hi);have p218 : 0 ≤ ((ji11) : Int):=of_decide_eq_true (by assumption);have q218 : (ji11) < (l0.length : Int):=of_decide_eq_true (by assumption);obtain ⟨ad218,e218,hx218_0,hx218_1,hx218_2⟩:=at_T74 HR0.out (ji11) p218 q218;obtain rfl : ad215 = ad218:=(by injection e218);(try replace hx218_0:=(HB.out.cell (World.block_lt_of_cell? w _ hx218_0)).trans hx218_0);(try replace hx218_1:=(HB.out.cell (World.block_lt_of_cell? w _ hx218_1)).trans hx218_1);(try replace hx218_2:=(HB.out.cell (World.block_lt_of_cell? w _ hx218_2)).trans hx218_2);replace p218:=eq_true p218;replace q218:=eq_true q218)|(go_at_call 58;(with_reducible refine (impl_Part_kind.calls k1 ((rd_T74 l0 (ji11)).f0) ((rd_T74 l0 (ji11)).f1) ((rd_T74 l0 (ji11)).f2) t219 _ A14.out).mono ?_);rintro e w23 ⟨rfl,hb⟩;have n0_:=Aside0.mk (blk_below (g:=gb216) (o:=.cells #[.int .i64 ((rd_T74 l0 x11_1).f0),.int .i64 ((rd_T74 l0 x11_1).f1),.string ((rd_T74 l0 x11_1).f2)] 74 (0,0)) (by (with_reducible repeat first|apply blk_drewN|apply blk_drew|apply blk_alloc);exact BK216.out) hb);have n1_:=Aside0.mk (below_step (by repeat (first|(with_reducible first|exact HB.out|apply below_alloc|apply pw_below_drewN|apply below_drew1|refine below_set ?_ GE216.out)|exact HB.out)) hb);clear BK216;clear HB;have BK216:=n0_;have HB:=n1_;clear n0_ n1_;(try clear hb);(try clear hb2);(try clear hk);(try clear hi)))
           go_roundg k1
           case measure=>have:=HK1.out;omega
           case rel=>exact ⟨(wrap64 (x11_1 + 1)),(by first|rfl|(simp;done)|(simp [*];done)),H',⟨by have:=HK1.out;omega⟩,⟨by repeat (first|(with_reducible first|exact HB.out|apply below_alloc|apply pw_below_drewN|apply below_drew1|refine below_set ?_ GE216.out)|exact HB.out)⟩⟩
         ·rw [if_neg c13] at H
          exact absurd H (by simp)
        ·rw [if_neg c12] at H
         exact absurd H (by simp)
       ·rw [if_neg c10] at H
        have c10b0 : decide (0 < x11_1) = false:=decide_eq_false c10
        clear c10
        have H':=Aside0.mk H
        clear H
        have p215 : 0 ≤ (x11_1 : Int):=of_decide_eq_true (by assumption)
        have q215 : x11_1 < (l0.length : Int):=of_decide_eq_true (by assumption)
        obtain ⟨ad215,e215,hx215_0,hx215_1,hx215_2⟩:=at_T74 HR0.out x11_1 p215 q215
        cases e215
        (try replace hx215_0:=(HB.out.cell (World.block_lt_of_cell? w _ hx215_0)).trans hx215_0)
        (try replace hx215_1:=(HB.out.cell (World.block_lt_of_cell? w _ hx215_1)).trans hx215_1)
        (try replace hx215_2:=(HB.out.cell (World.block_lt_of_cell? w _ hx215_2)).trans hx215_2)
        replace p215:=eq_true p215
        replace q215:=eq_true q215
        go_wp2_with (first|((with_reducible refine gate_dst (N:=4) rfl ?_);refine box_event ?hg (N:=4) ?hd (cs:=#[.int .i64 0,.int .i64 0,.string (⟨#[]⟩ : ByteArray)]) (t:=74) ?hr ?_;(case hd=>rfl);(case hg=>rfl);(case hr=>first|(go_simp;done)|(go_simp;rfl));intro gb216 hg w24 hbox hb;have n0_:=Aside0.mk (below_step (by repeat (first|exact HB.out|apply below_alloc|apply pw_below_drewN|apply below_drew1)) hb);have n1_:=Aside0.mk (hbox);have n2_:=Aside0.mk ((by rw [hg];exact (below_size (by repeat (first|exact HB.out|apply below_alloc|apply pw_below_drewN|apply below_drew1))) : w.heap.size ≤ gb216));have n3_:=Aside0.mk ((by rw [hg];exact (below_size (by repeat (first|exact HB.out|apply below_alloc|apply pw_below_drewN|apply below_drew1))) : w.heap.size ≤ gb216));clear HB;have HB:=n0_;have BK216:=n1_;have GW216:=n2_;have GE216:=n3_;clear n0_ n1_ n2_ n3_;clear hb hbox hg;have hcz25_0 : w24.cell? ⟨gb216,0,none⟩ = some (.int .i64 0):=(blk_cell BK216.out 0).trans rfl;have hcz25_1 : w24.cell? ⟨gb216,1,none⟩ = some (.int .i64 0):=(blk_cell BK216.out 1).trans rfl;have hcz25_2 : w24.cell? ⟨gb216,2,none⟩ = some (.string (⟨#[]⟩ : ByteArray)):=(blk_cell BK216.out 2).trans rfl;have hfz25_0:=blk_frozen BK216.out 0;have hfz25_1:=blk_frozen BK216.out 1;have hfz25_2:=blk_frozen BK216.out 2)|((with_reducible refine gate_callee (f:=58) rfl ?_);refine goesL_ (some 17) rfl rfl Try.func58 (by kernel_rfl) rfl #[.agg #[.int .i64 ((rd_T74 l0 x11_1).f0),.int .i64 ((rd_T74 l0 x11_1).f1),.string ((rd_T74 l0 x11_1).f2)]] rfl (by (try simp only [List.map_toArray,List.map_cons,List.map_nil]);first|done|rfl|(simp only [List.length_drop,List.length_take];rfl)) ?_;(with_reducible refine (impl_Part_kind.calls k1 ((rd_T74 l0 x11_1).f0) ((rd_T74 l0 x11_1).f1) ((rd_T74 l0 x11_1).f2) t217 _ A5.out).mono ?_);rintro e w26 ⟨rfl,hb⟩;refine ⟨_,rfl,?_⟩;have n0_:=Aside0.mk (blk_below (g:=gb216) (o:=.cells #[.int .i64 ((rd_T74 l0 x11_1).f0),.int .i64 ((rd_T74 l0 x11_1).f1),.string ((rd_T74 l0 x11_1).f2)] 74 (0,0)) (by (with_reducible repeat first|apply blk_drewN|apply blk_drew|apply blk_alloc);refine blk_put (cs:=#[.int .i64 ((rd_T74 l0 x11_1).f0),.int .i64 ((rd_T74 l0 x11_1).f1),.string (⟨#[]⟩ : ByteArray)]) ?_ 2 _ rfl;(with_reducible repeat first|apply blk_drewN|apply blk_drew|apply blk_alloc);refine blk_put (cs:=#[.int .i64 ((rd_T74 l0 x11_1).f0),.int .i64 0,.string (⟨#[]⟩ : ByteArray)]) ?_ 1 _ rfl;(with_reducible repeat first|apply blk_drewN|apply blk_drew|apply blk_alloc);refine blk_put (cs:=#[.int .i64 0,.int .i64 0,.string (⟨#[]⟩ : ByteArray)]) ?_ 0 _ rfl;(with_reducible repeat first|apply blk_drewN|apply blk_drew|apply blk_alloc);exact BK216.out) hb);have n1_:=Aside0.mk (below_step (by repeat (first|(with_reducible first|exact HB.out|apply below_alloc|apply pw_below_drewN|apply below_drew1|refine below_set ?_ GE216.out)|exact HB.out)) hb);clear BK216;clear HB;have BK216:=n0_;have HB:=n1_;clear n0_ n1_;(try clear hb);(try clear hb2);(try clear hk);(try clear hi)))
        go_roundg k1
        case measure=>have:=HK1.out;omega
        case rel=>exact ⟨(wrap64 (x11_1 + 1)),(by first|rfl|(simp;done)|(simp [*];done)),H',⟨by have:=HK1.out;omega⟩,⟨by repeat (first|(with_reducible first|exact HB.out|apply below_alloc|apply pw_below_drewN|apply below_drew1|refine below_set ?_ GE216.out)|exact HB.out)⟩⟩
     ·rw [if_neg c4] at H
      exact absurd H (by simp)
    ·rw [if_neg c3] at H
     exact absurd H (by simp)
   ·rw [if_neg c2] at H
    have c2b0 : decide (x11_1 < (l0.length : Int)) = false:=decide_eq_false c2
    clear c2
    replace H:=Option.bind_eq_some_iff.mp H
    obtain ⟨⟨t212,t213,t214⟩,A270,H⟩:=H
    replace H : (some t214) = some r:=H
    have A27:=Aside0.mk A270
    clear A270
    obtain rfl:=Option.some.inj H
    go_wp2_with (first|((with_reducible refine gate_callee (f:=59) rfl ?_);refine goesL_ (some 37) rfl rfl Try.func59 (by kernel_rfl) rfl #[.slice A0 l0.length c0] rfl (by (try simp only [List.map_toArray,List.map_cons,List.map_nil]);first|done|rfl|(simp only [List.length_drop,List.length_take];rfl)) ?_;(with_reducible refine (impl_lengths.calls k1 _ _ l0 t212 t213 t214 _ ?side1 ?side2 A27.out).mono ?_);(case side1=>repeat (first|exact (Kd.C_below HR0.out HB.out)|(with_reducible first|apply Kd.C_alloc|apply Kd.C_drewN|apply Kd.C_drew)));(case side2=>exact HC0.out);rintro e w28 ⟨rfl,hb⟩;refine ⟨_,rfl,?_⟩;have n0_:=Aside0.mk (below_step (by repeat (first|exact HB.out|apply below_alloc|apply pw_below_drewN|apply below_drew1)) hb);clear HB;have HB:=n0_;clear n0_;(try clear hb);(try clear hb2);(try clear hk);(try clear hi)))
    go_ret
    exact ⟨by first|rfl|(simp [*,errW_none,errW_some] <;> rfl),by repeat (first|exact HB.out|apply below_alloc|apply pw_below_drewN|apply below_drew1)⟩

end Go.Proofs.Ytebmncdjlmnbnaa.PFnExactCarryChange
