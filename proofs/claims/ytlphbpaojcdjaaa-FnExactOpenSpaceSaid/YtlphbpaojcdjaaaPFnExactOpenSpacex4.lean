-- Written by a program of this session over the print of the kit (wip/t/patch_print.py).
import Derived.Test.YtlphbpaojcdjaaaPFnExactOpenSpacex0
import Derived.Test.YtlphbpaojcdjaaaPFnExactOpenSpacex2
namespace Go.Proofs.Ytlphbpaojcdjaaa.PFnExactOpenSpace
open Go.RowKit Go.Proofs.YtlphbpaojcdjaaaW.PrintWords Go.Proofs.YtlphbpaojcdjaaaW.PrintLast Go.Proofs.YtlphbpaojcdjaaaW.PrintMore
attribute [local go_sem] max2_int min2_int max_two min_two max_three min_three max_four min_four   -- for this text's walks alone
set_option linter.unusedVariables false
set_option linter.unusedSimpArgs false

/-! ### spec_GoodDisk: function 56 -/
mutual
def spec_GoodDisk.j0 : Nat → Bool → List (List Int) → Int → Bool → Int → Option (Bool)
 | 0,_,_,_,_,_=>none
 | k + 1,x21,x143000,x143001,x143002,x143003=>if x21 = true then (some false) else (spec_GoodDisk.l0 k x143000 (x143000.length : Int) 0)
def spec_GoodDisk.l0 : Nat → List (List Int) → Int → Int → Option (Bool)
 | 0,_,_,_=>none
 | k + 1,x23,x24,x25=>if x25 < x24 then (if 0 ≤ x25 then (if x25 < (x23.length : Int) then (if ((rd_L2 x23 x25).length : Int) = 128 then (spec_GoodDisk.l0 k x23 x24 (wrap64 (x25 + 1))) else (some false)) else (none)) else (none)) else (some true)
end
def spec_GoodDisk.f (k : Nat) (l0_0 : List (List Int)) (a0_1 : Int) (a0_2 : Bool) (a0_3 : Int) : Option (Bool):=(spec_l1In.f (l0_0.length : Int) 40 160).bind fun t143=>(if t143 = true then ((spec_l1In.f a0_1 0 1000000000).bind fun t144=>(if t144 = true then ((spec_l1In.f a0_3 (-1) 1000000).bind fun t145=>(spec_GoodDisk.j0 k (!t145) l0_0 a0_1 a0_2 a0_3)) else (spec_GoodDisk.j0 k true l0_0 a0_1 a0_2 a0_3))) else (spec_GoodDisk.j0 k true l0_0 a0_1 a0_2 a0_3))
theorem spec_GoodDisk.mono_l : ∀ k,(∀ y0 y1 y2 y3 y4,LeO (spec_GoodDisk.j0 k y0 y1 y2 y3 y4) (spec_GoodDisk.j0 (k + 1) y0 y1 y2 y3 y4))∧(∀ y0 y1 y2,LeO (spec_GoodDisk.l0 k y0 y1 y2) (spec_GoodDisk.l0 (k + 1) y0 y1 y2))
 | 0=>⟨fun _ _ _ _ _ r h=>by simp [spec_GoodDisk.j0] at h,fun _ _ _ r h=>by simp [spec_GoodDisk.l0] at h⟩
 | k + 1=>by
  obtain ⟨ih0,ih1⟩:=spec_GoodDisk.mono_l k
  refine ⟨?_,?_⟩
  ·intro y0 y1 y2 y3 y4
   unfold spec_GoodDisk.j0
   repeat' first
   | (with_reducible exact ih0 _ _ _ _ _)
   | (with_reducible exact ih1 _ _ _)
   | (with_reducible exact LeO.refl _)
   | (with_reducible exact LeO.none _)
   | (with_reducible refine LeO.ite ?_ ?_)
   | (with_reducible refine LeO.bind ?_ (fun _=>?_))
   | exact ih0 _ _ _ _ _
   | exact ih1 _ _ _
   | exact LeO.none _
   | refine LeO.ite ?_ ?_
   | refine LeO.bind ?_ (fun _=>?_)
  ·intro y0 y1 y2
   unfold spec_GoodDisk.l0
   repeat' first
   | (with_reducible exact ih0 _ _ _ _ _)
   | (with_reducible exact ih1 _ _ _)
   | (with_reducible exact LeO.refl _)
   | (with_reducible exact LeO.none _)
   | (with_reducible refine LeO.ite ?_ ?_)
   | (with_reducible refine LeO.bind ?_ (fun _=>?_))
   | exact ih0 _ _ _ _ _
   | exact ih1 _ _ _
   | exact LeO.none _
   | refine LeO.ite ?_ ?_
   | refine LeO.bind ?_ (fun _=>?_)
theorem spec_GoodDisk.mono : ∀ a0 a1 a2 a3 k,LeO (spec_GoodDisk.f k a0 a1 a2 a3) (spec_GoodDisk.f (k + 1) a0 a1 a2 a3):=by
 intro a0 a1 a2 a3 k
 obtain ⟨ih0,ih1⟩:=spec_GoodDisk.mono_l k
 unfold spec_GoodDisk.f
 repeat' first
   | (with_reducible exact ih0 _ _ _ _ _)
   | (with_reducible exact ih1 _ _ _)
   | (with_reducible exact LeO.refl _)
   | (with_reducible exact LeO.none _)
   | (with_reducible refine LeO.ite ?_ ?_)
   | (with_reducible refine LeO.bind ?_ (fun _=>?_))
   | exact ih0 _ _ _ _ _
   | exact ih1 _ _ _
   | exact LeO.none _
   | refine LeO.ite ?_ ?_
   | refine LeO.bind ?_ (fun _=>?_)
set_option maxHeartbeats 8000000 in
set_option maxRecDepth 100000 in
theorem spec_GoodDisk.calls (k : Nat) (A0_0 : Option Addr) (c0_0 : Nat) (l0_0 : List (List Int)) (a0_1 : Int) (a0_2 : Bool) (a0_3 : Int) (r : Bool) (w : World) (hr0_0 : Kd.C (Kd.slice 5 (Kd.int .u8)) w A0_0 l0_0.length l0_0) (hc0_0 : l0_0.length ≤ c0_0) (h : spec_GoodDisk.f k l0_0 a0_1 a0_2 a0_3 = some r) :
  Calls Try.prog 56 #[.agg #[.slice A0_0 l0_0.length c0_0,.int .i64 a0_1,.bool a0_2,.int .i64 a0_3]] w fun e w'=>e = .returned (.bool r)∧Below w.heap.size w w':=by
 have hu45:=Try.underlying45
 have HR0_0:=Aside0.mk hr0_0
 have HC0_0:=Aside0.mk hc0_0
 clear hr0_0 hc0_0
 have HB:=Aside0.mk (Below.refl w.heap.size w)
 have H : ((spec_l1In.f (l0_0.length : Int) 40 160).bind fun t143=>(if t143 = true then ((spec_l1In.f a0_1 0 1000000000).bind fun t144=>(if t144 = true then ((spec_l1In.f a0_3 (-1) 1000000).bind fun t145=>(spec_GoodDisk.j0 k (!t145) l0_0 a0_1 a0_2 a0_3)) else (spec_GoodDisk.j0 k true l0_0 a0_1 a0_2 a0_3))) else (spec_GoodDisk.j0 k true l0_0 a0_1 a0_2 a0_3))) = some r:=h
 clear h
 have HC2:=Aside0.mk H
 clear H
 go_enter Try.func56,Try.ntmps56
 go_upto_region 1 with (first|((with_reducible refine gate_dst (N:=1) rfl ?_);refine box_event ?hg (N:=1) ?hd (cs:=#[.slice A0_0 l0_0.length c0_0,.int .i64 a0_1,.bool a0_2,.int .i64 a0_3]) (t:=45) ?hr ?_;(case hd=>rfl);(case hg=>rfl);(case hr=>first|(go_simp;done)|(go_simp;rfl));intro gb142 hg w3 hbox hb;have n0_:=Aside0.mk (below_step (by repeat (first|exact HB.out|apply below_alloc|apply pw_below_drewN|apply below_drew1)) hb);have n1_:=Aside0.mk (hbox);have n2_:=Aside0.mk ((by rw [hg];exact (below_size (by repeat (first|exact HB.out|apply below_alloc|apply pw_below_drewN|apply below_drew1))) : w.heap.size ≤ gb142));have n3_:=Aside0.mk ((by rw [hg];exact (below_size (by repeat (first|exact HB.out|apply below_alloc|apply pw_below_drewN|apply below_drew1))) : w.heap.size ≤ gb142));clear HB;have HB:=n0_;have BK142:=n1_;have GW142:=n2_;have GE142:=n3_;clear n0_ n1_ n2_ n3_;clear hb hbox hg))
 (try simp only [Act.put,List.setIfInBounds_toArray,List.set_cons_zero,List.set_cons_succ])
 go_cut [21] (fun v21 wc=>∃ (kq : Nat) (x21_1 : Bool),v21 = .bool x21_1∧Aside0 (spec_GoodDisk.j0 kq x21_1 l0_0 a0_1 a0_2 a0_3 = some r)∧Aside0 (kq ≤ k)∧Aside0 (wc.heap[gb142]? = some (.cells #[(.slice A0_0 l0_0.length c0_0),.int .i64 a0_1,.bool a0_2,.int .i64 a0_3] 45 (0,0)))∧Aside0 (Below w.heap.size w wc))
 case first =>
  have H:=HC2.out
  clear HC2
  replace H:=Option.bind_eq_some_iff.mp H
  obtain ⟨t143,A40,H⟩:=H
  replace H : (if t143 = true then ((spec_l1In.f a0_1 0 1000000000).bind fun t144=>(if t144 = true then ((spec_l1In.f a0_3 (-1) 1000000).bind fun t145=>(spec_GoodDisk.j0 k (!t145) l0_0 a0_1 a0_2 a0_3)) else (spec_GoodDisk.j0 k true l0_0 a0_1 a0_2 a0_3))) else (spec_GoodDisk.j0 k true l0_0 a0_1 a0_2 a0_3)) = some r:=H
  have A4:=Aside0.mk A40
  clear A40
  by_cases c5 : t143 = true
  ·subst c5
   have H1 : ((spec_l1In.f a0_1 0 1000000000).bind fun t144=>(if t144 = true then ((spec_l1In.f a0_3 (-1) 1000000).bind fun t145=>(spec_GoodDisk.j0 k (!t145) l0_0 a0_1 a0_2 a0_3)) else (spec_GoodDisk.j0 k true l0_0 a0_1 a0_2 a0_3))) = some r:=by rw [if_pos rfl] at H;exact H
   clear H
   have H:=H1
   clear H1
   replace H:=Option.bind_eq_some_iff.mp H
   obtain ⟨t144,A60,H⟩:=H
   replace H : (if t144 = true then ((spec_l1In.f a0_3 (-1) 1000000).bind fun t145=>(spec_GoodDisk.j0 k (!t145) l0_0 a0_1 a0_2 a0_3)) else (spec_GoodDisk.j0 k true l0_0 a0_1 a0_2 a0_3)) = some r:=H
   have A6:=Aside0.mk A60
   clear A60
   by_cases c7 : t144 = true
   ·subst c7
    have H1 : ((spec_l1In.f a0_3 (-1) 1000000).bind fun t145=>(spec_GoodDisk.j0 k (!t145) l0_0 a0_1 a0_2 a0_3)) = some r:=by rw [if_pos rfl] at H;exact H
    clear H
    have H:=H1
    clear H1
    replace H:=Option.bind_eq_some_iff.mp H
    obtain ⟨t145,A80,H⟩:=H
    replace H : (spec_GoodDisk.j0 k (!t145) l0_0 a0_1 a0_2 a0_3) = some r:=H
    have A8:=Aside0.mk A80
    clear A80
    have H':=Aside0.mk H
    clear H
    have hcz9_0 : w3.cell? ⟨gb142,0,none⟩ = some (.slice A0_0 l0_0.length c0_0):=(blk_cell BK142.out 0).trans rfl
    have hcz9_1 : w3.cell? ⟨gb142,1,none⟩ = some (.int .i64 a0_1):=(blk_cell BK142.out 1).trans rfl
    have hcz9_2 : w3.cell? ⟨gb142,2,none⟩ = some (.bool a0_2):=(blk_cell BK142.out 2).trans rfl
    have hcz9_3 : w3.cell? ⟨gb142,3,none⟩ = some (.int .i64 a0_3):=(blk_cell BK142.out 3).trans rfl
    have hfz9_0:=blk_frozen BK142.out 0
    have hfz9_1:=blk_frozen BK142.out 1
    have hfz9_2:=blk_frozen BK142.out 2
    have hfz9_3:=blk_frozen BK142.out 3
    go_wp2_with (first|((with_reducible refine gate_callee (f:=45) rfl ?_);refine goesL_ (some 8) rfl rfl Try.func45 (by kernel_rfl) rfl #[.int .i64 (l0_0.length : Int),.int .i64 40,.int .i64 160] rfl (by (try simp only [List.map_toArray,List.map_cons,List.map_nil]);first|done|rfl|(simp only [List.length_drop,List.length_take];rfl)) ?_;(with_reducible refine (spec_l1In.calls (l0_0.length : Int) 40 160 true _ A4.out).mono ?_);rintro e w' ⟨rfl,⟨nd,rfl⟩⟩;refine ⟨_,rfl,?_⟩)|(go_at_call 45;(with_reducible refine (spec_l1In.calls a0_1 0 1000000000 true _ A6.out).mono ?_);rintro e w' ⟨rfl,⟨nd,rfl⟩⟩)|(go_at_call 45;(with_reducible refine (spec_l1In.calls a0_3 (-1) 1000000 t145 _ A8.out).mono ?_);rintro e w' ⟨rfl,⟨nd,rfl⟩⟩))
    go_meet
    case rel=>exact ⟨_,(!t145),(by first|rfl|(simp;done)|(simp [*];done)),H',⟨by first|omega|exact Nat.le_refl _⟩,⟨by (with_reducible repeat first|apply blk_drewN|apply blk_drew|apply blk_alloc);exact BK142.out⟩,⟨by repeat (first|(with_reducible first|exact HB.out|apply below_alloc|apply pw_below_drewN|apply below_drew1|refine below_set ?_ GE142.out)|exact HB.out)⟩⟩
   ·replace c7:=Bool.eq_false_iff.mpr c7
    subst c7
    have H1 : (spec_GoodDisk.j0 k true l0_0 a0_1 a0_2 a0_3) = some r:=by rw [if_neg (show ¬ (false = true) by decide)] at H;exact H
    clear H
    have H:=H1
    clear H1
    have H':=Aside0.mk H
    clear H
    have hcz10_0 : w3.cell? ⟨gb142,0,none⟩ = some (.slice A0_0 l0_0.length c0_0):=(blk_cell BK142.out 0).trans rfl
    have hcz10_1 : w3.cell? ⟨gb142,1,none⟩ = some (.int .i64 a0_1):=(blk_cell BK142.out 1).trans rfl
    have hcz10_2 : w3.cell? ⟨gb142,2,none⟩ = some (.bool a0_2):=(blk_cell BK142.out 2).trans rfl
    have hcz10_3 : w3.cell? ⟨gb142,3,none⟩ = some (.int .i64 a0_3):=(blk_cell BK142.out 3).trans rfl
    have hfz10_0:=blk_frozen BK142.out 0
    have hfz10_1:=blk_frozen BK142.out 1
    have hfz10_2:=blk_frozen BK142.out 2
    have hfz10_3:=blk_frozen BK142.out 3
    go_wp2_with (first|((with_reducible refine gate_callee (f:=45) rfl ?_);refine goesL_ (some 8) rfl rfl Try.func45 (by kernel_rfl) rfl #[.int .i64 (l0_0.length : Int),.int .i64 40,.int .i64 160] rfl (by (try simp only [List.map_toArray,List.map_cons,List.map_nil]);first|done|rfl|(simp only [List.length_drop,List.length_take];rfl)) ?_;(with_reducible refine (spec_l1In.calls (l0_0.length : Int) 40 160 true _ A4.out).mono ?_);rintro e w' ⟨rfl,⟨nd,rfl⟩⟩;refine ⟨_,rfl,?_⟩)|(go_at_call 45;(with_reducible refine (spec_l1In.calls a0_1 0 1000000000 false _ A6.out).mono ?_);rintro e w' ⟨rfl,⟨nd,rfl⟩⟩))
    go_meet
    case rel=>exact ⟨_,(true),(by first|rfl|(simp;done)|(simp [*];done)),H',⟨by first|omega|exact Nat.le_refl _⟩,⟨by (with_reducible repeat first|apply blk_drewN|apply blk_drew|apply blk_alloc);exact BK142.out⟩,⟨by repeat (first|(with_reducible first|exact HB.out|apply below_alloc|apply pw_below_drewN|apply below_drew1|refine below_set ?_ GE142.out)|exact HB.out)⟩⟩
  ·replace c5:=Bool.eq_false_iff.mpr c5
   subst c5
   have H1 : (spec_GoodDisk.j0 k true l0_0 a0_1 a0_2 a0_3) = some r:=by rw [if_neg (show ¬ (false = true) by decide)] at H;exact H
   clear H
   have H:=H1
   clear H1
   have H':=Aside0.mk H
   clear H
   have hcz11_0 : w3.cell? ⟨gb142,0,none⟩ = some (.slice A0_0 l0_0.length c0_0):=(blk_cell BK142.out 0).trans rfl
   have hcz11_1 : w3.cell? ⟨gb142,1,none⟩ = some (.int .i64 a0_1):=(blk_cell BK142.out 1).trans rfl
   have hcz11_2 : w3.cell? ⟨gb142,2,none⟩ = some (.bool a0_2):=(blk_cell BK142.out 2).trans rfl
   have hcz11_3 : w3.cell? ⟨gb142,3,none⟩ = some (.int .i64 a0_3):=(blk_cell BK142.out 3).trans rfl
   have hfz11_0:=blk_frozen BK142.out 0
   have hfz11_1:=blk_frozen BK142.out 1
   have hfz11_2:=blk_frozen BK142.out 2
   have hfz11_3:=blk_frozen BK142.out 3
   go_wp2_with (first|((with_reducible refine gate_callee (f:=45) rfl ?_);refine goesL_ (some 8) rfl rfl Try.func45 (by kernel_rfl) rfl #[.int .i64 (l0_0.length : Int),.int .i64 40,.int .i64 160] rfl (by (try simp only [List.map_toArray,List.map_cons,List.map_nil]);first|done|rfl|(simp only [List.length_drop,List.length_take];rfl)) ?_;(with_reducible refine (spec_l1In.calls (l0_0.length : Int) 40 160 false _ A4.out).mono ?_);rintro e w' ⟨rfl,⟨nd,rfl⟩⟩;refine ⟨_,rfl,?_⟩))
   go_meet
   case rel=>exact ⟨_,(true),(by first|rfl|(simp;done)|(simp [*];done)),H',⟨by first|omega|exact Nat.le_refl _⟩,⟨by (with_reducible repeat first|apply blk_drewN|apply blk_drew|apply blk_alloc);exact BK142.out⟩,⟨by repeat (first|(with_reducible first|exact HB.out|apply below_alloc|apply pw_below_drewN|apply below_drew1|refine below_set ?_ GE142.out)|exact HB.out)⟩⟩
 case rest =>
  clear HC2
  try clear p2;try clear c4;try clear c5;try clear c7;try clear hcz10_0;try clear hcz10_1;try clear hcz10_2;try clear hcz10_3;try clear hcz11_0;try clear hcz11_1;try clear hcz11_2;try clear hcz11_3;try clear hcz9_0;try clear hcz9_1;try clear hcz9_2;try clear hcz9_3;try clear hfz10_0;try clear hfz10_1;try clear hfz10_2;try clear hfz10_3;try clear hfz11_0;try clear hfz11_1;try clear hfz11_2;try clear hfz11_3;try clear hfz9_0;try clear hfz9_1;try clear hfz9_2;try clear hfz9_3
  obtain ⟨kq,x21_1,rfl,HA,HJ1,BK142,HB⟩:=hcut
  cases kq with
  | zero=>exact absurd HA.out (by simp [spec_GoodDisk.j0])
  | succ kj1 =>
   have H:=HA.out
   clear HA
   simp only [spec_GoodDisk.j0] at H
   by_cases c12 : x21_1 = true
   ·subst c12
    have H1 : (some false) = some r:=by rw [if_pos rfl] at H;exact H
    clear H
    have H:=H1
    clear H1
    obtain rfl:=Option.some.inj H
    go_wp2
    go_ret
    exact ⟨by first|rfl|(simp [*,errW_none,errW_some] <;> rfl),by repeat (first|(with_reducible first|exact HB.out|apply below_alloc|apply pw_below_drewN|apply below_drew1|refine below_set ?_ GE142.out)|exact HB.out)⟩
   ·replace c12:=Bool.eq_false_iff.mpr c12
    subst c12
    have H1 : (spec_GoodDisk.l0 kj1 l0_0 (l0_0.length : Int) 0) = some r:=by rw [if_neg (show ¬ (false = true) by decide)] at H;exact H
    clear H
    have H:=H1
    clear H1
    have H':=Aside0.mk H
    clear H
    have hcz13_0 : wc.cell? ⟨gb142,0,none⟩ = some (.slice A0_0 l0_0.length c0_0):=(blk_cell BK142.out 0).trans rfl
    have hcz13_1 : wc.cell? ⟨gb142,1,none⟩ = some (.int .i64 a0_1):=(blk_cell BK142.out 1).trans rfl
    have hcz13_2 : wc.cell? ⟨gb142,2,none⟩ = some (.bool a0_2):=(blk_cell BK142.out 2).trans rfl
    have hcz13_3 : wc.cell? ⟨gb142,3,none⟩ = some (.int .i64 a0_3):=(blk_cell BK142.out 3).trans rfl
    have hfz13_0:=blk_frozen BK142.out 0
    have hfz13_1:=blk_frozen BK142.out 1
    have hfz13_2:=blk_frozen BK142.out 2
    have hfz13_3:=blk_frozen BK142.out 3
    go_wp2
    go_loopg [25] kj1 (fun kq v25 w'=>∃ (x25_2 : Int),v25 = .int .i64 x25_2∧Aside0 (spec_GoodDisk.l0 kq l0_0 (l0_0.length : Int) x25_2 = some r)∧Aside0 (kq ≤ kj1)∧Aside0 (w'.heap[gb142]? = some (.cells #[(.slice A0_0 l0_0.length c0_0),.int .i64 a0_1,.bool a0_2,.int .i64 a0_3] 45 (0,0)))∧Aside0 (Below w.heap.size w w'))
    case atStart=>exact ⟨(0),(by first|rfl|(simp;done)|(simp [*];done)),H',⟨Nat.le_refl _⟩,⟨by (with_reducible repeat first|apply blk_drewN|apply blk_drew|apply blk_alloc);exact BK142.out⟩,⟨by repeat (first|(with_reducible first|exact HB.out|apply below_alloc|apply pw_below_drewN|apply below_drew1|refine below_set ?_ GE142.out)|exact HB.out)⟩⟩
    case round =>
     clear H'
     try clear c1;try clear p2;try clear c4;try clear c5;try clear c7;try clear c12;try clear hcz10_0;try clear hcz10_1;try clear hcz10_2;try clear hcz10_3;try clear hcz11_0;try clear hcz11_1;try clear hcz11_2;try clear hcz11_3;try clear hcz13_0;try clear hcz13_1;try clear hcz13_2;try clear hcz13_3;try clear hcz9_0;try clear hcz9_1;try clear hcz9_2;try clear hcz9_3;try clear hfz10_0;try clear hfz10_1;try clear hfz10_2;try clear hfz10_3;try clear hfz11_0;try clear hfz11_1;try clear hfz11_2;try clear hfz11_3;try clear hfz13_0;try clear hfz13_1;try clear hfz13_2;try clear hfz13_3;try clear hfz9_0;try clear hfz9_1;try clear hfz9_2;try clear hfz9_3;try clear p2
     obtain ⟨x25_2,rfl,HA,HK2,BK142,HB⟩:=hrel
     cases gk with
     | zero=>exact absurd HA.out (by simp [spec_GoodDisk.l0])
     | succ k2 =>
      have H:=HA.out
      clear HA
      simp only [spec_GoodDisk.l0] at H
      by_cases c14 : x25_2 < (l0_0.length : Int)
      ·rw [if_pos c14] at H
       have c14b0 : decide (x25_2 < (l0_0.length : Int)) = true:=decide_eq_true c14
       clear c14
       by_cases c15 : 0 ≤ x25_2
       ·rw [if_pos c15] at H
        have c15b0 : decide (0 ≤ x25_2) = true:=decide_eq_true c15
        clear c15
        by_cases c16 : x25_2 < (l0_0.length : Int)
        ·rw [if_pos c16] at H
         have c16b0 : decide (x25_2 < (l0_0.length : Int)) = true:=decide_eq_true c16
         clear c16
         by_cases c17 : ((rd_L2 l0_0 x25_2).length : Int) = 128
         ·rw [if_pos c17] at H
          have c17b0 : (((rd_L2 l0_0 x25_2).length : Int) == 128) = true:=beq_iff_eq.mpr c17
          have c17b1 : (((rd_L2 l0_0 x25_2).length : Int) != 128) = false:=bne_eq_false_iff_eq.mpr c17
          clear c17
          have H':=Aside0.mk H
          clear H
          have p146 : 0 ≤ (x25_2 : Int):=of_decide_eq_true (by assumption)
          have q146 : x25_2 < (l0_0.length : Int):=of_decide_eq_true (by assumption)
          obtain ⟨ad146,A146_0,c146_0,e146,hx146_0,hl146_0,hi146_0⟩:=at_L2 HR0_0.out x25_2 p146 q146
          cases e146
          (try replace hx146_0:=(HB.out.cell (World.block_lt_of_cell? w _ hx146_0)).trans hx146_0)
          have HR146_0:=Aside0.mk hi146_0
          have HC146_0:=Aside0.mk hl146_0
          clear hi146_0 hl146_0
          replace p146:=eq_true p146
          replace q146:=eq_true q146
          go_wp2
          go_roundg k2
          case measure=>have:=HJ1.out;have:=HK2.out;omega
          case rel=>exact ⟨(wrap64 (x25_2 + 1)),(by first|rfl|(simp;done)|(simp [*];done)),H',⟨by have:=HJ1.out;have:=HK2.out;omega⟩,⟨by (with_reducible repeat first|apply blk_drewN|apply blk_drew|apply blk_alloc);exact BK142.out⟩,⟨by repeat (first|(with_reducible first|exact HB.out|apply below_alloc|apply pw_below_drewN|apply below_drew1|refine below_set ?_ GE142.out)|exact HB.out)⟩⟩
         ·rw [if_neg c17] at H
          have c17b0 : (((rd_L2 l0_0 x25_2).length : Int) == 128) = false:=beq_eq_false_iff_ne.mpr c17
          have c17b1 : (((rd_L2 l0_0 x25_2).length : Int) != 128) = true:=bne_iff_ne.mpr c17
          obtain rfl:=Option.some.inj H
          have p146 : 0 ≤ (x25_2 : Int):=of_decide_eq_true (by assumption)
          have q146 : x25_2 < (l0_0.length : Int):=of_decide_eq_true (by assumption)
          obtain ⟨ad146,A146_0,c146_0,e146,hx146_0,hl146_0,hi146_0⟩:=at_L2 HR0_0.out x25_2 p146 q146
          cases e146
          (try replace hx146_0:=(HB.out.cell (World.block_lt_of_cell? w _ hx146_0)).trans hx146_0)
          have HR146_0:=Aside0.mk hi146_0
          have HC146_0:=Aside0.mk hl146_0
          clear hi146_0 hl146_0
          replace p146:=eq_true p146
          replace q146:=eq_true q146
          go_wp2
          go_ret
          exact ⟨by first|rfl|(simp [*,errW_none,errW_some] <;> rfl),by repeat (first|(with_reducible first|exact HB.out|apply below_alloc|apply pw_below_drewN|apply below_drew1|refine below_set ?_ GE142.out)|exact HB.out)⟩
        ·rw [if_neg c16] at H
         exact absurd H (by simp)
       ·rw [if_neg c15] at H
        exact absurd H (by simp)
      ·rw [if_neg c14] at H
       have c14b0 : decide (x25_2 < (l0_0.length : Int)) = false:=decide_eq_false c14
       clear c14
       obtain rfl:=Option.some.inj H
       go_wp2
       go_ret
       exact ⟨by first|rfl|(simp [*,errW_none,errW_some] <;> rfl),by repeat (first|(with_reducible first|exact HB.out|apply below_alloc|apply pw_below_drewN|apply below_drew1|refine below_set ?_ GE142.out)|exact HB.out)⟩

/-! ### spec_l2Own: function 57 -/
def spec_l2Own.l0 : Nat → List (List Int) → List (List Int) → Int → Int → List (List Int) → Int → Bool → Int → Option ((List (List Int)) × Int × Bool × Int)
 | 0,_,_,_,_,_,_,_,_=>none
 | k + 1,x3,x7,x8,x9,x148000,x148001,x148002,x148003=>if x9 < x8 then (if 0 ≤ x9 then (if x9 < (x7.length : Int) then ((some (([] : List Int) : List Int)).bind fun y150=>(if y150.length + (rd_L2 x7 x9).length < 140737488355328 then (if x3.length < 5864062014805 then (spec_l2Own.l0 k (x3 ++ [(y150 ++ (rd_L2 x7 x9))]) x7 x8 (wrap64 (x9 + 1)) x148000 x148001 x148002 x148003) else (none)) else (none))) else (none)) else (none)) else (some (x3,x148001,x148002,x148003))
def spec_l2Own.f (k : Nat) (l0_0 : List (List Int)) (a0_1 : Int) (a0_2 : Bool) (a0_3 : Int) : Option ((List (List Int)) × Int × Bool × Int):=spec_l2Own.l0 k ([] : List (List Int)) l0_0 (l0_0.length : Int) 0 l0_0 a0_1 a0_2 a0_3
theorem spec_l2Own.mono_l : ∀ k,(∀ y0 y1 y2 y3 y4 y5 y6 y7,LeO (spec_l2Own.l0 k y0 y1 y2 y3 y4 y5 y6 y7) (spec_l2Own.l0 (k + 1) y0 y1 y2 y3 y4 y5 y6 y7))
 | 0=>fun _ _ _ _ _ _ _ _ r h=>by simp [spec_l2Own.l0] at h
 | k + 1=>by
  have ih0:=spec_l2Own.mono_l k
  ·intro y0 y1 y2 y3 y4 y5 y6 y7
   unfold spec_l2Own.l0
   repeat' first
   | (with_reducible exact ih0 _ _ _ _ _ _ _ _)
   | (with_reducible exact LeO.refl _)
   | (with_reducible exact LeO.none _)
   | (with_reducible refine LeO.ite ?_ ?_)
   | (with_reducible refine LeO.bind ?_ (fun _=>?_))
   | exact ih0 _ _ _ _ _ _ _ _
   | exact LeO.none _
   | refine LeO.ite ?_ ?_
   | refine LeO.bind ?_ (fun _=>?_)
theorem spec_l2Own.mono : ∀ a0 a1 a2 a3 k,LeO (spec_l2Own.f k a0 a1 a2 a3) (spec_l2Own.f (k + 1) a0 a1 a2 a3):=by
 intro a0 a1 a2 a3 k
 have ih0:=spec_l2Own.mono_l k
 unfold spec_l2Own.f
 repeat' first
   | (with_reducible exact ih0 _ _ _ _ _ _ _ _)
   | (with_reducible exact LeO.refl _)
   | (with_reducible exact LeO.none _)
   | (with_reducible refine LeO.ite ?_ ?_)
   | (with_reducible refine LeO.bind ?_ (fun _=>?_))
   | exact ih0 _ _ _ _ _ _ _ _
   | exact LeO.none _
   | refine LeO.ite ?_ ?_
   | refine LeO.bind ?_ (fun _=>?_)
set_option maxHeartbeats 8000000 in
set_option maxRecDepth 100000 in
theorem spec_l2Own.calls (k : Nat) (A0_0 : Option Addr) (c0_0 : Nat) (l0_0 : List (List Int)) (a0_1 : Int) (a0_2 : Bool) (a0_3 : Int) (r1 : List (List Int)) (r2 : Int) (r3 : Bool) (r4 : Int) (w : World) (hr0_0 : Kd.C (Kd.slice 5 (Kd.int .u8)) w A0_0 l0_0.length l0_0) (hc0_0 : l0_0.length ≤ c0_0) (h : spec_l2Own.f k l0_0 a0_1 a0_2 a0_3 = some (r1,r2,r3,r4)) :
  Calls Try.prog 57 #[.agg #[.slice A0_0 l0_0.length c0_0,.int .i64 a0_1,.bool a0_2,.int .i64 a0_3]] w fun e w'=>∃ v0_ : Value,e = .returned (.agg #[v0_,.int .i64 r2,.bool r3,.int .i64 r4])∧Kd.S (Kd.slice 5 (Kd.int .u8)) 23 w' w.heap.size (fun _=>True) v0_ r1∧Below w.heap.size w w':=by
 have hu45:=Try.underlying45
 have HR0_0:=Aside0.mk hr0_0
 have HC0_0:=Aside0.mk hc0_0
 clear hr0_0 hc0_0
 have HB:=Aside0.mk (Below.refl w.heap.size w)
 have H : (spec_l2Own.l0 k ([] : List (List Int)) l0_0 (l0_0.length : Int) 0 l0_0 a0_1 a0_2 a0_3) = some (r1,r2,r3,r4):=h
 clear h
 have H':=Aside0.mk H
 clear H
 go_enter Try.func57,Try.ntmps57
 go_wp2_with (first|((with_reducible refine gate_dst (N:=1) rfl ?_);refine box_event ?hg (N:=1) ?hd (cs:=#[.slice A0_0 l0_0.length c0_0,.int .i64 a0_1,.bool a0_2,.int .i64 a0_3]) (t:=45) ?hr ?_;(case hd=>rfl);(case hg=>rfl);(case hr=>first|(go_simp;done)|(go_simp;rfl));intro gb147 hg w2 hbox hb;have n0_:=Aside0.mk (below_step (by repeat (first|exact HB.out|apply below_alloc|apply pw_below_drewN|apply below_drew1)) hb);have n1_:=Aside0.mk (hbox);have n2_:=Aside0.mk ((by rw [hg];exact (below_size (by repeat (first|exact HB.out|apply below_alloc|apply pw_below_drewN|apply below_drew1))) : w.heap.size ≤ gb147));have n3_:=Aside0.mk ((by rw [hg];exact (below_size (by repeat (first|exact HB.out|apply below_alloc|apply pw_below_drewN|apply below_drew1))) : w.heap.size ≤ gb147));clear HB;have HB:=n0_;have BK147:=n1_;have GW147:=n2_;have GE147:=n3_;clear n0_ n1_ n2_ n3_;clear hb hbox hg)|((with_reducible refine gate_dst (N:=2) rfl ?_);refine box_event ?hg (N:=2) ?hd (cs:=#[.slice none 0 0,.int .i64 0,.bool false,.int .i64 0]) (t:=45) ?hr ?_;(case hd=>rfl);(case hg=>rfl);(case hr=>first|(go_simp;done)|(go_simp;rfl));intro gb148 hg w3 hbox hb;have n0_:=Aside0.mk (blk_below (g:=gb147) (o:=.cells #[.slice A0_0 l0_0.length c0_0,.int .i64 a0_1,.bool a0_2,.int .i64 a0_3] 45 (0,0)) (by (with_reducible repeat first|apply blk_drewN|apply blk_drew|apply blk_alloc);exact BK147.out) hb);have n1_:=Aside0.mk (below_step (by repeat (first|(with_reducible first|exact HB.out|apply below_alloc|apply pw_below_drewN|apply below_drew1|refine below_set ?_ GE147.out)|exact HB.out)) hb);have n2_:=Aside0.mk (hbox);have n3_:=Aside0.mk ((by rw [hg];exact (below_size (by repeat (first|(with_reducible first|exact HB.out|apply below_alloc|apply pw_below_drewN|apply below_drew1|refine below_set ?_ GE147.out)|exact HB.out))) : w.heap.size ≤ gb148));have n4_:=Aside0.mk ((by rw [hg];exact (below_size (by repeat (first|(with_reducible first|exact HB.out|apply below_alloc|apply pw_below_drewN|apply below_drew1|refine below_set ?_ GE147.out)|exact HB.out))) : w.heap.size ≤ gb148));have n5_:=Aside0.mk ((by rw [hg];exact Nat.ne_of_lt (blk_lt (g:=gb147) (o:=.cells #[.slice A0_0 l0_0.length c0_0,.int .i64 a0_1,.bool a0_2,.int .i64 a0_3] 45 (0,0)) (by (with_reducible repeat first|apply blk_drewN|apply blk_drew|apply blk_alloc);exact BK147.out)) : gb147 ≠ gb148));have n6_:=Aside0.mk ((by rw [hg];exact Nat.ne_of_gt (blk_lt (g:=gb147) (o:=.cells #[.slice A0_0 l0_0.length c0_0,.int .i64 a0_1,.bool a0_2,.int .i64 a0_3] 45 (0,0)) (by (with_reducible repeat first|apply blk_drewN|apply blk_drew|apply blk_alloc);exact BK147.out)) : gb148 ≠ gb147));clear BK147;clear HB;have BK147:=n0_;have HB:=n1_;have BK148:=n2_;have GW148:=n3_;have GE148:=n4_;have NB147_148:=n5_;have NB148_147:=n6_;clear n0_ n1_ n2_ n3_ n4_ n5_ n6_;clear hb hbox hg;have hnb4:=NB147_148.out;have hnc4:=NB148_147.out;have hcz5_0 : w3.cell? ⟨gb147,0,none⟩ = some (.slice A0_0 l0_0.length c0_0):=(blk_cell BK147.out 0).trans rfl;have hcz5_1 : w3.cell? ⟨gb147,1,none⟩ = some (.int .i64 a0_1):=(blk_cell BK147.out 1).trans rfl;have hcz5_2 : w3.cell? ⟨gb147,2,none⟩ = some (.bool a0_2):=(blk_cell BK147.out 2).trans rfl;have hcz5_3 : w3.cell? ⟨gb147,3,none⟩ = some (.int .i64 a0_3):=(blk_cell BK147.out 3).trans rfl;have hfz5_0:=blk_frozen BK147.out 0;have hfz5_1:=blk_frozen BK147.out 1;have hfz5_2:=blk_frozen BK147.out 2;have hfz5_3:=blk_frozen BK147.out 3))
 go_loopg [3,9] k (fun kq v3 v9 w'=>∃ (x3_1 : List (List Int)) (x9_1 : Int),v9 = .int .i64 x9_1∧Aside0 (spec_l2Own.l0 kq x3_1 l0_0 (l0_0.length : Int) x9_1 l0_0 a0_1 a0_2 a0_3 = some (r1,r2,r3,r4))∧Aside0 (kq ≤ k)∧Aside0 (Kd.S (Kd.slice 5 (Kd.int .u8)) 23 w' w.heap.size (fun _=>True) v3 x3_1)∧Aside0 (w'.heap[gb147]? = some (.cells #[(.slice A0_0 l0_0.length c0_0),.int .i64 a0_1,.bool a0_2,.int .i64 a0_3] 45 (0,0)))∧Aside0 (w'.heap[gb148]? = some (.cells #[(.slice none 0 0),.int .i64 0,.bool false,.int .i64 0] 45 (0,0)))∧Aside0 (Below w.heap.size w w'))
 case atStart=>exact ⟨(([] : List (List Int))),(0),(by first|rfl|(simp;done)|(simp [*];done)),H',⟨Nat.le_refl _⟩,⟨by first|exact Kd.S_nil _ _ _ _ _|exact Kd.N_nil _ _ _ _ _|exact Kd.V_nil _ _ _ _ _|exact Kd.Q_nil _ _ _ _ _|exact Kd.R_nil _ _ _ _ _⟩,⟨by (with_reducible repeat first|apply blk_drewN|apply blk_drew|apply blk_alloc);exact BK147.out⟩,⟨by (with_reducible repeat first|apply blk_drewN|apply blk_drew|apply blk_alloc);exact BK148.out⟩,⟨by repeat (first|(with_reducible first|exact HB.out|apply below_alloc|apply pw_below_drewN|apply below_drew1|refine below_set ?_ GE147.out|refine below_set ?_ GE148.out)|exact HB.out)⟩⟩
 case round =>
  clear H'
  try clear p2;try clear c4;try clear c5;try clear hcz5_0;try clear hcz5_1;try clear hcz5_2;try clear hcz5_3;try clear hfz5_0;try clear hfz5_1;try clear hfz5_2;try clear hfz5_3
  obtain ⟨x3_1,x9_1,rfl,HA,HK1,HO_3,BK147,BK148,HB⟩:=hrel
  cases gk with
  | zero=>exact absurd HA.out (by simp [spec_l2Own.l0])
  | succ k1 =>
   have H:=HA.out
   clear HA
   simp only [spec_l2Own.l0] at H
   by_cases c6 : x9_1 < (l0_0.length : Int)
   ·rw [if_pos c6] at H
    have c6b0 : decide (x9_1 < (l0_0.length : Int)) = true:=decide_eq_true c6
    clear c6
    by_cases c7 : 0 ≤ x9_1
    ·rw [if_pos c7] at H
     have c7b0 : decide (0 ≤ x9_1) = true:=decide_eq_true c7
     clear c7
     by_cases c8 : x9_1 < (l0_0.length : Int)
     ·rw [if_pos c8] at H
      have c8b0 : decide (x9_1 < (l0_0.length : Int)) = true:=decide_eq_true c8
      clear c8
      obtain ⟨y150,hy150⟩ : ∃ y_ : List Int,y_ = (([] : List Int)):=⟨_,rfl⟩
      replace H : (if y150.length + (rd_L2 l0_0 x9_1).length < 140737488355328 then (if x3_1.length < 5864062014805 then (spec_l2Own.l0 k1 (x3_1 ++ [(y150 ++ (rd_L2 l0_0 x9_1))]) l0_0 (l0_0.length : Int) (wrap64 (x9_1 + 1)) l0_0 a0_1 a0_2 a0_3) else (none)) else (none)) = some (r1,r2,r3,r4):=by first|(rw [hy150];with_reducible exact H)|(have H2_:=(Option.bind_some _ _).symm.trans H;rw [hy150];with_reducible exact H2_)|(have H2_:=(Option.bind_some _ _).symm.trans H;with_reducible exact H2_)|with_reducible exact H|(rw [hy150];exact H)|exact H
      have Ny150:=Aside0.mk hy150
      clear hy150
      by_cases c9 : y150.length + (rd_L2 l0_0 x9_1).length < 140737488355328
      ·rw [if_pos c9] at H
       have LMc9:=Aside0.mk c9
       clear c9
       obtain ⟨y153,hy153⟩ : ∃ y_ : List Int,y_ = (y150 ++ (rd_L2 l0_0 x9_1)):=⟨_,rfl⟩
       replace H : (if x3_1.length < 5864062014805 then (spec_l2Own.l0 k1 (x3_1 ++ [y153]) l0_0 (l0_0.length : Int) (wrap64 (x9_1 + 1)) l0_0 a0_1 a0_2 a0_3) else (none)) = some (r1,r2,r3,r4):=by first|(rw [hy153];with_reducible exact H)|(have H2_:=(Option.bind_some _ _).symm.trans H;rw [hy153];with_reducible exact H2_)|(have H2_:=(Option.bind_some _ _).symm.trans H;with_reducible exact H2_)|with_reducible exact H|(rw [hy153];exact H)|exact H
       have Ny153:=Aside0.mk hy153
       clear hy153
       by_cases c10 : x3_1.length < 5864062014805
       ·rw [if_pos c10] at H
        have LMc10:=Aside0.mk c10
        clear c10
        obtain ⟨y156,hy156⟩ : ∃ y_ : List (List Int),y_ = (x3_1 ++ [y153]):=⟨_,rfl⟩
        replace H : (spec_l2Own.l0 k1 y156 l0_0 (l0_0.length : Int) (wrap64 (x9_1 + 1)) l0_0 a0_1 a0_2 a0_3) = some (r1,r2,r3,r4):=by first|(rw [hy156];with_reducible exact H)|(have H2_:=(Option.bind_some _ _).symm.trans H;rw [hy156];with_reducible exact H2_)|(have H2_:=(Option.bind_some _ _).symm.trans H;with_reducible exact H2_)|with_reducible exact H|(rw [hy156];exact H)|exact H
        have Ny156:=Aside0.mk hy156
        clear hy156
        have H':=Aside0.mk H
        clear H
        have p149 : 0 ≤ (x9_1 : Int):=of_decide_eq_true (by assumption)
        have q149 : x9_1 < (l0_0.length : Int):=of_decide_eq_true (by assumption)
        obtain ⟨ad149,A149_0,c149_0,e149,hx149_0,hl149_0,hi149_0⟩:=at_L2 HR0_0.out x9_1 p149 q149
        cases e149
        (try replace hx149_0:=(HB.out.cell (World.block_lt_of_cell? w _ hx149_0)).trans hx149_0)
        have HR149_0:=Aside0.mk hi149_0
        have HC149_0:=Aside0.mk hl149_0
        clear hi149_0 hl149_0
        replace p149:=eq_true p149
        replace q149:=eq_true q149
        go_wp2_with (first|((with_reducible refine gate_dst (N:=14) rfl ?_);refine Kd.R_lit (Kd.int .u8) _ 5 ?hg (N:=14) ?hd (xs:=([] : List Int)) (inner:=[]) (ok:=fun _=>True) (okp:=fun _=>True) ?hr ?hp (fun _ hk=>hk) trivial (Below.refl _ _) (Nat.le_refl _) (by simp) ?_;(case hd=>rfl);(case hg=>rfl);(case hr=>first|(go_simp;done)|(go_simp;rfl));(case hp=>exact (Reps.none _ _));intro v151 w11 ho12 hb hg_ hnew_;clear hg_ hnew_;(first|rw [← Ny150.out] at ho12|(simp only [Int.reduceToNat] at ho12;rw [← Ny150.out] at ho12));have n0_:=Aside0.mk (Kd.S_elder' (by (with_reducible repeat (first|apply Kd.S_alloc|apply Kd.S_drewN|apply Kd.S_drew));exact HO_3.out) (Kd.R_base ho12) hb);have n1_:=Aside0.mk (Kd.R_lower ho12 (below_size (by repeat (first|(with_reducible first|exact HB.out|apply below_alloc|apply pw_below_drewN|apply below_drew1|refine below_set ?_ GE147.out|refine below_set ?_ GE148.out)|exact HB.out))));have n2_:=Aside0.mk (blk_below (g:=gb147) (o:=.cells #[.slice (some ad149) l0_0.length c0_0,.int .i64 a0_1,.bool a0_2,.int .i64 a0_3] 45 (0,0)) (by (with_reducible repeat first|apply blk_drewN|apply blk_drew|apply blk_alloc);exact BK147.out) hb);have n3_:=Aside0.mk (blk_below (g:=gb148) (o:=.cells #[.slice none 0 0,.int .i64 0,.bool false,.int .i64 0] 45 (0,0)) (by (with_reducible repeat first|apply blk_drewN|apply blk_drew|apply blk_alloc);exact BK148.out) hb);have n4_:=Aside0.mk (below_step (by repeat (first|(with_reducible first|exact HB.out|apply below_alloc|apply pw_below_drewN|apply below_drew1|refine below_set ?_ GE147.out|refine below_set ?_ GE148.out)|exact HB.out)) hb);clear HO_3;clear BK147;clear BK148;clear HB;have HO_3:=n0_;have HO152:=n1_;have BK147:=n2_;have BK148:=n3_;have HB:=n4_;clear n0_ n1_ n2_ n3_ n4_;clear hb ho12)|((with_reducible refine gate_builtin (b:=.append) (xs:=#[.tmp 14,.tmp 15]) rfl ?_);at_builtin;refine Kd.R_append_rows (Kd.int .u8) (w0:=w) w.heap.size rfl (.tmp 14) (.tmp 15) 23 5 (.int .u8 0) 1 rfl Try.underlying23 info5 rfl (by decide) (by omega) v151 y150 (rd_L2 l0_0 x9_1) _ _ _ (fun _=>True) (fun _=>False) rfl rfl ?aO ?aR (fun _ _ h=>h) (fun _ h=>h.elim) ?aF ?aB ?aS ?aL ?_;(case aR=>repeat (first|exact (Kd.C_below HR149_0.out HB.out)|(with_reducible first|apply Kd.C_alloc|apply Kd.C_drewN|apply Kd.C_drew)));(case aB=>exact (by repeat (first|(with_reducible first|exact HB.out|apply below_alloc|apply pw_below_drewN|apply below_drew1|refine below_set ?_ GE147.out|refine below_set ?_ GE148.out)|exact HB.out)));(case aF=>exact (fun _ _=>trivial));(case aO=>exact (by (with_reducible repeat (first|apply Kd.R_alloc|apply Kd.R_drewN|apply Kd.R_drew));exact HO152.out));(case aS=>exact (below_size (by repeat (first|(with_reducible first|exact HB.out|apply below_alloc|apply pw_below_drewN|apply below_drew1|refine below_set ?_ GE147.out|refine below_set ?_ GE148.out)|exact HB.out))));(case aL=>have:=LMc9.out;omega);intro v154 w13 ho hb hg hat;rw [← Ny153.out] at ho;have n0_:=Aside0.mk (Kd.S_after (ok:=(fun _=>True)) (by (with_reducible repeat (first|apply Kd.S_alloc|apply Kd.S_drewN|apply Kd.S_drew));exact HO_3.out) hg hat);have n1_:=Aside0.mk (blk_grown (g:=gb147) (o:=.cells #[.slice (some ad149) l0_0.length c0_0,.int .i64 a0_1,.bool a0_2,.int .i64 a0_3] 45 (0,0)) (by (with_reducible repeat first|apply blk_drewN|apply blk_drew|apply blk_alloc);exact BK147.out) hg (Kd.R_ne HO152.out BK147.out (by decide)));have n2_:=Aside0.mk (blk_grown (g:=gb148) (o:=.cells #[.slice none 0 0,.int .i64 0,.bool false,.int .i64 0] 45 (0,0)) (by (with_reducible repeat first|apply blk_drewN|apply blk_drew|apply blk_alloc);exact BK148.out) hg (Kd.R_ne HO152.out BK148.out (by decide)));have n3_:=Aside0.mk (hb);have n4_:=Aside0.mk (ho);clear HO_3;clear BK147;clear BK148;clear HB;clear HO152;have HO_3:=n0_;have BK147:=n1_;have BK148:=n2_;have HB:=n3_;have HO155:=n4_;clear n0_ n1_ n2_ n3_ n4_;clear ho hb hg hat;obtain ⟨Ao15,co15,eo15⟩:=Kd.R_slice HO155.out;subst eo15)|((with_reducible refine gate_builtin (b:=.append) (xs:=#[.tmp 13,.tmp 17]) rfl ?_);at_builtin;refine Kd.S_append (Kd.slice 5 (Kd.int .u8)) (w0:=w) w.heap.size rfl (.tmp 13) (.tmp 17) 22 23 (.slice none 0 0) 24 rfl Try.underlying22 info23 rfl (by decide) (by omega) u3 x3_1 y153 [.slice Ao15 y153.length co15] (fun _=>True) (fun k_=>some k_ = (.slice Ao15 y153.length co15 : Value).ownBlock) rfl rfl ?aP (fun k_ hk_=>((Kd.R_mono (ok':=fun k_=>((fun _=>True)) k_∧some k_ ≠ (u3 : Value).ownBlock) (Kd.R_apart' (HO155.out) (Kd.S_typed HO_3.out) (by decide)) (fun k_ hk=>⟨trivial,hk.2⟩))).1 k_ hk_.symm) ?aF ?aO ?aB ?aS ?aL ?_;(case aP=>exact Kd.M_row (Kd.R_mono (Kd.R_tight rfl (Kd.R_mono (ok':=fun k_=>((fun _=>True)) k_∧some k_ ≠ (u3 : Value).ownBlock) (Kd.R_apart' (HO155.out) (Kd.S_typed HO_3.out) (by decide)) (fun k_ hk=>⟨trivial,hk.2⟩))) (fun _ h_=>h_)));(case aB=>exact (by repeat (first|(with_reducible first|exact HB.out|apply below_alloc|apply pw_below_drewN|apply below_drew1|refine below_set ?_ GE147.out|refine below_set ?_ GE148.out)|exact HB.out)));(case aF=>exact (fun _ _=>trivial));(case aO=>exact (by (with_reducible repeat (first|apply Kd.S_alloc|apply Kd.S_drewN|apply Kd.S_drew));exact Kd.S_mono HO_3.out (fun k_ hk=>⟨trivial,fun e_=>hk.2 e_⟩)));(case aS=>exact (below_size (by repeat (first|(with_reducible first|exact HB.out|apply below_alloc|apply pw_below_drewN|apply below_drew1|refine below_set ?_ GE147.out|refine below_set ?_ GE148.out)|exact HB.out))));(case aL=>have:=LMc10.out;omega);intro v157 w14 ho hb hg hat;rw [← Ny156.out] at ho;have n0_:=Aside0.mk (blk_grown (g:=gb147) (o:=.cells #[.slice (some ad149) l0_0.length c0_0,.int .i64 a0_1,.bool a0_2,.int .i64 a0_3] 45 (0,0)) (by (with_reducible repeat first|apply blk_drewN|apply blk_drew|apply blk_alloc);exact BK147.out) hg (Kd.S_ne HO_3.out BK147.out (by decide)));have n1_:=Aside0.mk (blk_grown (g:=gb148) (o:=.cells #[.slice none 0 0,.int .i64 0,.bool false,.int .i64 0] 45 (0,0)) (by (with_reducible repeat first|apply blk_drewN|apply blk_drew|apply blk_alloc);exact BK148.out) hg (Kd.S_ne HO_3.out BK148.out (by decide)));have n2_:=Aside0.mk (hb);have n3_:=Aside0.mk (ho);clear BK147;clear BK148;clear HB;clear HO_3;clear HO155;have BK147:=n0_;have BK148:=n1_;have HB:=n2_;have HO158:=n3_;clear n0_ n1_ n2_ n3_;clear ho hb hg hat))
        go_roundg k1
        case measure=>have:=HK1.out;omega
        case rel=>exact ⟨(y156),(wrap64 (x9_1 + 1)),(by first|rfl|(simp;done)|(simp [*];done)),H',⟨by have:=HK1.out;omega⟩,⟨by (with_reducible repeat (first|apply Kd.S_alloc|apply Kd.S_drewN|apply Kd.S_drew));exact HO158.out⟩,⟨by (with_reducible repeat first|apply blk_drewN|apply blk_drew|apply blk_alloc);exact BK147.out⟩,⟨by (with_reducible repeat first|apply blk_drewN|apply blk_drew|apply blk_alloc);exact BK148.out⟩,⟨by repeat (first|(with_reducible first|exact HB.out|apply below_alloc|apply pw_below_drewN|apply below_drew1|refine below_set ?_ GE147.out|refine below_set ?_ GE148.out)|exact HB.out)⟩⟩
       ·rw [if_neg c10] at H
        exact absurd H (by simp)
      ·rw [if_neg c9] at H
       exact absurd H (by simp)
     ·rw [if_neg c8] at H
      exact absurd H (by simp)
    ·rw [if_neg c7] at H
     exact absurd H (by simp)
   ·rw [if_neg c6] at H
    have c6b0 : decide (x9_1 < (l0_0.length : Int)) = false:=decide_eq_false c6
    clear c6
    simp only [Option.some.injEq,Prod.mk.injEq] at H
    obtain ⟨rfl,rfl,rfl,rfl⟩:=H
    obtain ⟨Ao16,co16,eo16⟩:=Kd.S_slice HO_3.out
    subst eo16
    have hnb17:=NB147_148.out
    have hnc17:=NB148_147.out
    have hcz18_0 : wr.cell? ⟨gb147,0,none⟩ = some (.slice A0_0 l0_0.length c0_0):=(blk_cell BK147.out 0).trans rfl
    have hcz18_1 : wr.cell? ⟨gb147,1,none⟩ = some (.int .i64 a0_1):=(blk_cell BK147.out 1).trans rfl
    have hcz18_2 : wr.cell? ⟨gb147,2,none⟩ = some (.bool a0_2):=(blk_cell BK147.out 2).trans rfl
    have hcz18_3 : wr.cell? ⟨gb147,3,none⟩ = some (.int .i64 a0_3):=(blk_cell BK147.out 3).trans rfl
    have hfz18_0:=blk_frozen BK147.out 0
    have hfz18_1:=blk_frozen BK147.out 1
    have hfz18_2:=blk_frozen BK147.out 2
    have hfz18_3:=blk_frozen BK147.out 3
    have hcz19_0 : wr.cell? ⟨gb148,0,none⟩ = some (.slice none 0 0):=(blk_cell BK148.out 0).trans rfl
    have hcz19_1 : wr.cell? ⟨gb148,1,none⟩ = some (.int .i64 0):=(blk_cell BK148.out 1).trans rfl
    have hcz19_2 : wr.cell? ⟨gb148,2,none⟩ = some (.bool false):=(blk_cell BK148.out 2).trans rfl
    have hcz19_3 : wr.cell? ⟨gb148,3,none⟩ = some (.int .i64 0):=(blk_cell BK148.out 3).trans rfl
    have hfz19_0:=blk_frozen BK148.out 0
    have hfz19_1:=blk_frozen BK148.out 1
    have hfz19_2:=blk_frozen BK148.out 2
    have hfz19_3:=blk_frozen BK148.out 3
    go_wp2
    refine bodyPost_ret (results_cell_row rfl _ _ gb148 45 #[.slice Ao16 x3_1.length co16,.int .i64 a0_1,.bool a0_2,.int .i64 a0_3] (0,0) _ rfl (by (with_reducible repeat first|apply blk_drewN|apply blk_drew|apply blk_alloc);refine blk_put (cs:=#[.slice Ao16 x3_1.length co16,.int .i64 a0_1,.bool a0_2,.int .i64 0]) ?_ 3 _ rfl;(with_reducible repeat first|apply blk_drewN|apply blk_drew|apply blk_alloc);refine blk_put (cs:=#[.slice Ao16 x3_1.length co16,.int .i64 a0_1,.bool false,.int .i64 0]) ?_ 2 _ rfl;(with_reducible repeat first|apply blk_drewN|apply blk_drew|apply blk_alloc);refine blk_put (cs:=#[.slice Ao16 x3_1.length co16,.int .i64 0,.bool false,.int .i64 0]) ?_ 1 _ rfl;(with_reducible repeat first|apply blk_drewN|apply blk_drew|apply blk_alloc);refine blk_put (cs:=#[.slice none 0 0,.int .i64 0,.bool false,.int .i64 0]) ?_ 0 _ rfl;(with_reducible repeat first|apply blk_drewN|apply blk_drew|apply blk_alloc);refine blk_far ?_ NB148_147.out _;(with_reducible repeat first|apply blk_drewN|apply blk_drew|apply blk_alloc);exact BK148.out) Try.underlying45 rfl (by kernel_rfl)) rfl ?_
    exact ⟨_,by first|rfl|(simp [*,errW_none,errW_some] <;> rfl),by (with_reducible repeat (first|apply Kd.S_alloc|apply Kd.S_drewN|apply Kd.S_drew));exact Kd.S_mono (Kd.S_far (p:=⟨gb148,3,none⟩) (Kd.S_far (p:=⟨gb148,2,none⟩) (Kd.S_far (p:=⟨gb148,1,none⟩) (Kd.S_far (p:=⟨gb148,0,none⟩) (Kd.S_far (p:=⟨gb147,0,none⟩) (Kd.S_types (Kd.S_types HO_3.out BK147.out (by decide)) BK148.out (by decide)) (fun _ hk=>hk.1.2) (.slice Ao16 x3_1.length co16)) (fun _ hk=>hk.2) (.slice Ao16 x3_1.length co16)) (fun _ hk=>hk.2) (.int .i64 a0_1)) (fun _ hk=>hk.2) (.bool a0_2)) (fun _ hk=>hk.2) (.int .i64 a0_3)) (fun _ hk=>trivial),by repeat (first|(with_reducible first|exact HB.out|apply below_alloc|apply pw_below_drewN|apply below_drew1|refine below_set ?_ GE147.out|refine below_set ?_ GE148.out)|exact HB.out)⟩

end Go.Proofs.Ytlphbpaojcdjaaa.PFnExactOpenSpace
