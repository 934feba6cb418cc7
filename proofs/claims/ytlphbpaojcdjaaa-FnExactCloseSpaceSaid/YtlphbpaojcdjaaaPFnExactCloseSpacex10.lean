-- Written by a program of this session over the print of the kit (wip/t/patch_print.py).
import Derived.Test.YtlphbpaojcdjaaaPFnExactCloseSpacex0
import Derived.Test.YtlphbpaojcdjaaaPFnExactCloseSpacex1
import Derived.Test.YtlphbpaojcdjaaaPFnExactCloseSpacex2
import Derived.Test.YtlphbpaojcdjaaaPFnExactCloseSpacex3
import Derived.Test.YtlphbpaojcdjaaaPFnExactCloseSpacex5
import Derived.Test.YtlphbpaojcdjaaaPFnExactCloseSpacex8
import Derived.Test.YtlphbpaojcdjaaaPFnExactCloseSpacex9
namespace Go.Proofs.Ytlphbpaojcdjaaa.PFnExactCloseSpace
open Go.RowKit Go.Proofs.YtlphbpaojcdjaaaW.PrintWords Go.Proofs.YtlphbpaojcdjaaaW.PrintLast Go.Proofs.YtlphbpaojcdjaaaW.PrintMore
attribute [local go_sem] max2_int min2_int max_two min_two max_three min_three max_four min_four   -- for this text's walks alone
set_option linter.unusedVariables false
set_option linter.unusedSimpArgs false

/-! ### laws_FnExactCloseSpace: function 9 -/
mutual
def laws_FnExactCloseSpace.j0 : Nat → List Int → List (S91) → Bool → List Int → List (S91) → Bool → Bool → List (List Int) → List Int → List Int → List Int → List (List Int) → List Int → List Int → List Int → Option (Bool)
 | 0,_,_,_,_,_,_,_,_,_,_,_,_,_,_,_=>none
 | k + 1,x1,x6,x7,x9,x10,x11,x51,x284000,x284001,x284002,x284003,x317000,x317001,x317002,x317003=>if x51 = true then (some false) else ((laws_toSpace.f k x284000 x284001 x284002 x284003).bind fun bt325=>((laws_eqSpace.f k x317000 x317001 x317002 x317003 bt325.1 bt325.2.1 bt325.2.2.1 bt325.2.2.2).bind fun t337=>(if t337 = true then ((laws_toByteS.f k x1).bind fun t338=>((laws_eqByteS.f k x9 t338).bind fun t341=>(if t341 = true then ((laws_markSpace.f k x317000 x317001 x317002 x317003 1).bind fun bt342=>((laws_markByteS.f k x9 bt342.1).bind fun bt347=>(if bt347.1 < 0 then (laws_FnExactCloseSpace.j1 k x1 x6 x7 x10 true x284000 x284001 x284002 x284003) else ((laws_eqWriteS.f k x10 x6).bind fun t349=>(if t349 = true then (laws_FnExactCloseSpace.j1 k x1 x6 x7 x10 (x11 != x7) x284000 x284001 x284002 x284003) else (laws_FnExactCloseSpace.j1 k x1 x6 x7 x10 true x284000 x284001 x284002 x284003)))))) else (some false)))) else (some false))))
def laws_FnExactCloseSpace.j1 : Nat → List Int → List (S91) → Bool → List (S91) → Bool → List (List Int) → List Int → List Int → List Int → Option (Bool)
 | 0,_,_,_,_,_,_,_,_,_=>none
 | k + 1,x1,x6,x7,x10,x80,x284000,x284001,x284002,x284003=>if x80 = true then (some false) else ((laws_markWriteS.f k x10 1).bind fun bt350=>((laws_heldWriteS.f k bt350.2 1).bind fun t352=>(if t352 < 0 then (some false) else (if t352 = bt350.1 then ((laws_toSpace.f k x284000 x284001 x284002 x284003).bind fun bt353=>((laws_toByteS.f k x1).bind fun t365=>((impl_CloseSpace.f k bt353.1 bt353.2.1 bt353.2.2.1 bt353.2.2.2 t365).bind fun bt368=>((laws_eqWriteS.f k bt368.1 x6).bind fun t372=>(if t372 = true then (laws_FnExactCloseSpace.j2 k bt350.2 bt350.1 (bt368.2 != x7)) else (laws_FnExactCloseSpace.j2 k bt350.2 bt350.1 true)))))) else (some false)))))
def laws_FnExactCloseSpace.j2 : Nat → List (S91) → Int → Bool → Option (Bool)
 | 0,_,_,_=>none
 | k + 1,x10,x13,x108=>if x108 = true then (some false) else ((laws_heldWriteS.f k x10 1).bind fun t373=>(if t373 < 0 then (some false) else (if t373 = x13 then (some true) else (some false))))
end
def laws_FnExactCloseSpace.f (k : Nat) (l0_0 : List (List Int)) (l0_1 : List Int) (l0_2 : List Int) (l0_3 : List Int) (l1 : List Int) : Option (Bool):=if (l1.length : Int) > 1048576 then (some true) else ((laws_szSpace.f k l0_0 l0_1 l0_2 l0_3 1048576).bind fun t284=>(if t284 < 0 then (some true) else ((laws_toSpace.f k l0_0 l0_1 l0_2 l0_3).bind fun bt285=>((laws_toByteS.f k l1).bind fun t297=>((spec_CloseSpace.f k bt285.1 bt285.2.1 bt285.2.2.1 bt285.2.2.2 t297).bind fun bt300=>((laws_toSpace.f k l0_0 l0_1 l0_2 l0_3).bind fun bt304=>((laws_toByteS.f k l1).bind fun t317=>((impl_CloseSpace.f k bt304.1 bt304.2.1 bt304.2.2.1 bt304.2.2.2 t317).bind fun bt320=>((laws_eqWriteS.f k bt320.1 bt300.1).bind fun t324=>(if t324 = true then (laws_FnExactCloseSpace.j0 k l1 bt300.1 bt300.2 t317 bt320.1 bt320.2 (bt320.2 != bt300.2) l0_0 l0_1 l0_2 l0_3 bt304.1 bt304.2.1 bt304.2.2.1 bt304.2.2.2) else (laws_FnExactCloseSpace.j0 k l1 bt300.1 bt300.2 t317 bt320.1 bt320.2 true l0_0 l0_1 l0_2 l0_3 bt304.1 bt304.2.1 bt304.2.2.1 bt304.2.2.2)))))))))))
theorem laws_FnExactCloseSpace.mono_l : ∀ k,(∀ y0 y1 y2 y3 y4 y5 y6 y7 y8 y9 y10 y11 y12 y13 y14,LeO (laws_FnExactCloseSpace.j0 k y0 y1 y2 y3 y4 y5 y6 y7 y8 y9 y10 y11 y12 y13 y14) (laws_FnExactCloseSpace.j0 (k + 1) y0 y1 y2 y3 y4 y5 y6 y7 y8 y9 y10 y11 y12 y13 y14))∧(∀ y0 y1 y2 y3 y4 y5 y6 y7 y8,LeO (laws_FnExactCloseSpace.j1 k y0 y1 y2 y3 y4 y5 y6 y7 y8) (laws_FnExactCloseSpace.j1 (k + 1) y0 y1 y2 y3 y4 y5 y6 y7 y8))∧(∀ y0 y1 y2,LeO (laws_FnExactCloseSpace.j2 k y0 y1 y2) (laws_FnExactCloseSpace.j2 (k + 1) y0 y1 y2))
 | 0=>⟨fun _ _ _ _ _ _ _ _ _ _ _ _ _ _ _ r h=>by simp [laws_FnExactCloseSpace.j0] at h,fun _ _ _ _ _ _ _ _ _ r h=>by simp [laws_FnExactCloseSpace.j1] at h,fun _ _ _ r h=>by simp [laws_FnExactCloseSpace.j2] at h⟩
 | k + 1=>by
  obtain ⟨ih0,ih1,ih2⟩:=laws_FnExactCloseSpace.mono_l k
  refine ⟨?_,?_,?_⟩
  ·intro y0 y1 y2 y3 y4 y5 y6 y7 y8 y9 y10 y11 y12 y13 y14
   unfold laws_FnExactCloseSpace.j0
   repeat' first
   | (with_reducible exact ih0 _ _ _ _ _ _ _ _ _ _ _ _ _ _ _)
   | (with_reducible exact ih1 _ _ _ _ _ _ _ _ _)
   | (with_reducible exact ih2 _ _ _)
   | (with_reducible exact impl_CloseSpace.mono _ _ _ _ _ _)
   | (with_reducible exact laws_eqByteS.mono _ _ _)
   | (with_reducible exact laws_eqSpace.mono _ _ _ _ _ _ _ _ _)
   | (with_reducible exact laws_eqWriteS.mono _ _ _)
   | (with_reducible exact laws_heldWriteS.mono _ _ _)
   | (with_reducible exact laws_markByteS.mono _ _ _)
   | (with_reducible exact laws_markSpace.mono _ _ _ _ _ _)
   | (with_reducible exact laws_markWriteS.mono _ _ _)
   | (with_reducible exact laws_szSpace.mono _ _ _ _ _ _)
   | (with_reducible exact laws_toByteS.mono _ _)
   | (with_reducible exact laws_toSpace.mono _ _ _ _ _)
   | (with_reducible exact spec_CloseSpace.mono _ _ _ _ _ _)
   | (with_reducible exact LeO.refl _)
   | (with_reducible exact LeO.none _)
   | (with_reducible refine LeO.ite ?_ ?_)
   | (with_reducible refine LeO.bind ?_ (fun _=>?_))
   | exact ih0 _ _ _ _ _ _ _ _ _ _ _ _ _ _ _
   | exact ih1 _ _ _ _ _ _ _ _ _
   | exact ih2 _ _ _
   | exact impl_CloseSpace.mono _ _ _ _ _ _
   | exact laws_eqByteS.mono _ _ _
   | exact laws_eqSpace.mono _ _ _ _ _ _ _ _ _
   | exact laws_eqWriteS.mono _ _ _
   | exact laws_heldWriteS.mono _ _ _
   | exact laws_markByteS.mono _ _ _
   | exact laws_markSpace.mono _ _ _ _ _ _
   | exact laws_markWriteS.mono _ _ _
   | exact laws_szSpace.mono _ _ _ _ _ _
   | exact laws_toByteS.mono _ _
   | exact laws_toSpace.mono _ _ _ _ _
   | exact spec_CloseSpace.mono _ _ _ _ _ _
   | exact LeO.none _
   | refine LeO.ite ?_ ?_
   | refine LeO.bind ?_ (fun _=>?_)
  ·intro y0 y1 y2 y3 y4 y5 y6 y7 y8
   unfold laws_FnExactCloseSpace.j1
   repeat' first
   | (with_reducible exact ih0 _ _ _ _ _ _ _ _ _ _ _ _ _ _ _)
   | (with_reducible exact ih1 _ _ _ _ _ _ _ _ _)
   | (with_reducible exact ih2 _ _ _)
   | (with_reducible exact impl_CloseSpace.mono _ _ _ _ _ _)
   | (with_reducible exact laws_eqByteS.mono _ _ _)
   | (with_reducible exact laws_eqSpace.mono _ _ _ _ _ _ _ _ _)
   | (with_reducible exact laws_eqWriteS.mono _ _ _)
   | (with_reducible exact laws_heldWriteS.mono _ _ _)
   | (with_reducible exact laws_markByteS.mono _ _ _)
   | (with_reducible exact laws_markSpace.mono _ _ _ _ _ _)
   | (with_reducible exact laws_markWriteS.mono _ _ _)
   | (with_reducible exact laws_szSpace.mono _ _ _ _ _ _)
   | (with_reducible exact laws_toByteS.mono _ _)
   | (with_reducible exact laws_toSpace.mono _ _ _ _ _)
   | (with_reducible exact spec_CloseSpace.mono _ _ _ _ _ _)
   | (with_reducible exact LeO.refl _)
   | (with_reducible exact LeO.none _)
   | (with_reducible refine LeO.ite ?_ ?_)
   | (with_reducible refine LeO.bind ?_ (fun _=>?_))
   | exact ih0 _ _ _ _ _ _ _ _ _ _ _ _ _ _ _
   | exact ih1 _ _ _ _ _ _ _ _ _
   | exact ih2 _ _ _
   | exact impl_CloseSpace.mono _ _ _ _ _ _
   | exact laws_eqByteS.mono _ _ _
   | exact laws_eqSpace.mono _ _ _ _ _ _ _ _ _
   | exact laws_eqWriteS.mono _ _ _
   | exact laws_heldWriteS.mono _ _ _
   | exact laws_markByteS.mono _ _ _
   | exact laws_markSpace.mono _ _ _ _ _ _
   | exact laws_markWriteS.mono _ _ _
   | exact laws_szSpace.mono _ _ _ _ _ _
   | exact laws_toByteS.mono _ _
   | exact laws_toSpace.mono _ _ _ _ _
   | exact spec_CloseSpace.mono _ _ _ _ _ _
   | exact LeO.none _
   | refine LeO.ite ?_ ?_
   | refine LeO.bind ?_ (fun _=>?_)
  ·intro y0 y1 y2
   unfold laws_FnExactCloseSpace.j2
   repeat' first
   | (with_reducible exact ih0 _ _ _ _ _ _ _ _ _ _ _ _ _ _ _)
   | (with_reducible exact ih1 _ _ _ _ _ _ _ _ _)
   | (with_reducible exact ih2 _ _ _)
   | (with_reducible exact impl_CloseSpace.mono _ _ _ _ _ _)
   | (with_reducible exact laws_eqByteS.mono _ _ _)
   | (with_reducible exact laws_eqSpace.mono _ _ _ _ _ _ _ _ _)
   | (with_reducible exact laws_eqWriteS.mono _ _ _)
   | (with_reducible exact laws_heldWriteS.mono _ _ _)
   | (with_reducible exact laws_markByteS.mono _ _ _)
   | (with_reducible exact laws_markSpace.mono _ _ _ _ _ _)
   | (with_reducible exact laws_markWriteS.mono _ _ _)
   | (with_reducible exact laws_szSpace.mono _ _ _ _ _ _)
   | (with_reducible exact laws_toByteS.mono _ _)
   | (with_reducible exact laws_toSpace.mono _ _ _ _ _)
   | (with_reducible exact spec_CloseSpace.mono _ _ _ _ _ _)
   | (with_reducible exact LeO.refl _)
   | (with_reducible exact LeO.none _)
   | (with_reducible refine LeO.ite ?_ ?_)
   | (with_reducible refine LeO.bind ?_ (fun _=>?_))
   | exact ih0 _ _ _ _ _ _ _ _ _ _ _ _ _ _ _
   | exact ih1 _ _ _ _ _ _ _ _ _
   | exact ih2 _ _ _
   | exact impl_CloseSpace.mono _ _ _ _ _ _
   | exact laws_eqByteS.mono _ _ _
   | exact laws_eqSpace.mono _ _ _ _ _ _ _ _ _
   | exact laws_eqWriteS.mono _ _ _
   | exact laws_heldWriteS.mono _ _ _
   | exact laws_markByteS.mono _ _ _
   | exact laws_markSpace.mono _ _ _ _ _ _
   | exact laws_markWriteS.mono _ _ _
   | exact laws_szSpace.mono _ _ _ _ _ _
   | exact laws_toByteS.mono _ _
   | exact laws_toSpace.mono _ _ _ _ _
   | exact spec_CloseSpace.mono _ _ _ _ _ _
   | exact LeO.none _
   | refine LeO.ite ?_ ?_
   | refine LeO.bind ?_ (fun _=>?_)
theorem laws_FnExactCloseSpace.mono : ∀ a0 a1 a2 a3 a4 k,LeO (laws_FnExactCloseSpace.f k a0 a1 a2 a3 a4) (laws_FnExactCloseSpace.f (k + 1) a0 a1 a2 a3 a4):=by
 intro a0 a1 a2 a3 a4 k
 obtain ⟨ih0,ih1,ih2⟩:=laws_FnExactCloseSpace.mono_l k
 unfold laws_FnExactCloseSpace.f
 repeat' first
   | (with_reducible exact ih0 _ _ _ _ _ _ _ _ _ _ _ _ _ _ _)
   | (with_reducible exact ih1 _ _ _ _ _ _ _ _ _)
   | (with_reducible exact ih2 _ _ _)
   | (with_reducible exact impl_CloseSpace.mono _ _ _ _ _ _)
   | (with_reducible exact laws_eqByteS.mono _ _ _)
   | (with_reducible exact laws_eqSpace.mono _ _ _ _ _ _ _ _ _)
   | (with_reducible exact laws_eqWriteS.mono _ _ _)
   | (with_reducible exact laws_heldWriteS.mono _ _ _)
   | (with_reducible exact laws_markByteS.mono _ _ _)
   | (with_reducible exact laws_markSpace.mono _ _ _ _ _ _)
   | (with_reducible exact laws_markWriteS.mono _ _ _)
   | (with_reducible exact laws_szSpace.mono _ _ _ _ _ _)
   | (with_reducible exact laws_toByteS.mono _ _)
   | (with_reducible exact laws_toSpace.mono _ _ _ _ _)
   | (with_reducible exact spec_CloseSpace.mono _ _ _ _ _ _)
   | (with_reducible exact LeO.refl _)
   | (with_reducible exact LeO.none _)
   | (with_reducible refine LeO.ite ?_ ?_)
   | (with_reducible refine LeO.bind ?_ (fun _=>?_))
   | exact ih0 _ _ _ _ _ _ _ _ _ _ _ _ _ _ _
   | exact ih1 _ _ _ _ _ _ _ _ _
   | exact ih2 _ _ _
   | exact impl_CloseSpace.mono _ _ _ _ _ _
   | exact laws_eqByteS.mono _ _ _
   | exact laws_eqSpace.mono _ _ _ _ _ _ _ _ _
   | exact laws_eqWriteS.mono _ _ _
   | exact laws_heldWriteS.mono _ _ _
   | exact laws_markByteS.mono _ _ _
   | exact laws_markSpace.mono _ _ _ _ _ _
   | exact laws_markWriteS.mono _ _ _
   | exact laws_szSpace.mono _ _ _ _ _ _
   | exact laws_toByteS.mono _ _
   | exact laws_toSpace.mono _ _ _ _ _
   | exact spec_CloseSpace.mono _ _ _ _ _ _
   | exact LeO.none _
   | refine LeO.ite ?_ ?_
   | refine LeO.bind ?_ (fun _=>?_)
set_option maxHeartbeats 8000000 in
set_option maxRecDepth 100000 in
theorem laws_FnExactCloseSpace.calls (k : Nat) (A0_0 : Option Addr) (c0_0 : Nat) (l0_0 : List (List Int)) (A0_1 : Option Addr) (c0_1 : Nat) (l0_1 : List Int) (A0_2 : Option Addr) (c0_2 : Nat) (l0_2 : List Int) (A0_3 : Option Addr) (c0_3 : Nat) (l0_3 : List Int) (A1 : Option Addr) (c1 : Nat) (l1 : List Int) (r : Bool) (w : World) (hr0_0 : Kd.C (Kd.slice 5 (Kd.int .u8)) w A0_0 l0_0.length l0_0) (hc0_0 : l0_0.length ≤ c0_0) (hr0_1 : Kd.C (Kd.int .u8) w A0_1 l0_1.length l0_1) (hc0_1 : l0_1.length ≤ c0_1) (hr0_2 : Kd.C (Kd.int .i64) w A0_2 l0_2.length l0_2) (hc0_2 : l0_2.length ≤ c0_2) (hr0_3 : Kd.C (Kd.int .i64) w A0_3 l0_3.length l0_3) (hc0_3 : l0_3.length ≤ c0_3) (hr1 : Kd.C (Kd.int .u8) w A1 l1.length l1) (hc1 : l1.length ≤ c1) (h : laws_FnExactCloseSpace.f k l0_0 l0_1 l0_2 l0_3 l1 = some r) :
  Calls Try.prog 9 #[.agg #[.slice A0_0 l0_0.length c0_0,.slice A0_1 l0_1.length c0_1,.slice A0_2 l0_2.length c0_2,.slice A0_3 l0_3.length c0_3],.slice A1 l1.length c1] w fun e w'=>e = .returned (.bool r)∧Below w.heap.size w w':=by
 have hu26:=Try.underlying26
 have hu29:=Try.underlying29
 have HR0_0:=Aside0.mk hr0_0
 have HC0_0:=Aside0.mk hc0_0
 clear hr0_0 hc0_0
 have HR0_1:=Aside0.mk hr0_1
 have HC0_1:=Aside0.mk hc0_1
 clear hr0_1 hc0_1
 have HR0_2:=Aside0.mk hr0_2
 have HC0_2:=Aside0.mk hc0_2
 clear hr0_2 hc0_2
 have HR0_3:=Aside0.mk hr0_3
 have HC0_3:=Aside0.mk hc0_3
 clear hr0_3 hc0_3
 have HR1:=Aside0.mk hr1
 have HC1:=Aside0.mk hc1
 clear hr1 hc1
 have HB:=Aside0.mk (Below.refl w.heap.size w)
 have H : (if (l1.length : Int) > 1048576 then (some true) else ((laws_szSpace.f k l0_0 l0_1 l0_2 l0_3 1048576).bind fun t284=>(if t284 < 0 then (some true) else ((laws_toSpace.f k l0_0 l0_1 l0_2 l0_3).bind fun bt285=>((laws_toByteS.f k l1).bind fun t297=>((spec_CloseSpace.f k bt285.1 bt285.2.1 bt285.2.2.1 bt285.2.2.2 t297).bind fun bt300=>((laws_toSpace.f k l0_0 l0_1 l0_2 l0_3).bind fun bt304=>((laws_toByteS.f k l1).bind fun t317=>((impl_CloseSpace.f k bt304.1 bt304.2.1 bt304.2.2.1 bt304.2.2.2 t317).bind fun bt320=>((laws_eqWriteS.f k bt320.1 bt300.1).bind fun t324=>(if t324 = true then (laws_FnExactCloseSpace.j0 k l1 bt300.1 bt300.2 t317 bt320.1 bt320.2 (bt320.2 != bt300.2) l0_0 l0_1 l0_2 l0_3 bt304.1 bt304.2.1 bt304.2.2.1 bt304.2.2.2) else (laws_FnExactCloseSpace.j0 k l1 bt300.1 bt300.2 t317 bt320.1 bt320.2 true l0_0 l0_1 l0_2 l0_3 bt304.1 bt304.2.1 bt304.2.2.1 bt304.2.2.2)))))))))))) = some r:=h
 clear h
 by_cases c3 : (l1.length : Int) > 1048576
 ·rw [if_pos c3] at H
  have c3b0 : decide (1048576 < (l1.length : Int)) = true:=decide_eq_true c3
  have c3b1 : decide (1048576 < l1.length) = true:=decide_eq_true (by omega)
  clear c3
  obtain rfl:=Option.some.inj H
  go_enter Try.func9,Try.ntmps9
  go_wp2_with (first|((with_reducible refine gate_dst (N:=2) rfl ?_);refine box_event ?hg (N:=2) ?hd (cs:=#[.slice A0_0 l0_0.length c0_0,.slice A0_1 l0_1.length c0_1,.slice A0_2 l0_2.length c0_2,.slice A0_3 l0_3.length c0_3]) (t:=26) ?hr ?_;(case hd=>rfl);(case hg=>rfl);(case hr=>first|(go_simp;done)|(go_simp;rfl));intro gb283 hg w4 hbox hb;have n0_:=Aside0.mk (below_step (by repeat (first|exact HB.out|apply below_alloc|apply pw_below_drewN|apply below_drew1)) hb);have n1_:=Aside0.mk (hbox);have n2_:=Aside0.mk ((by rw [hg];exact (below_size (by repeat (first|exact HB.out|apply below_alloc|apply pw_below_drewN|apply below_drew1))) : w.heap.size ≤ gb283));have n3_:=Aside0.mk ((by rw [hg];exact (below_size (by repeat (first|exact HB.out|apply below_alloc|apply pw_below_drewN|apply below_drew1))) : w.heap.size ≤ gb283));clear HB;have HB:=n0_;have BK283:=n1_;have GW283:=n2_;have GE283:=n3_;clear n0_ n1_ n2_ n3_;clear hb hbox hg))
  go_ret
  exact ⟨by first|rfl|(simp [*,errW_none,errW_some] <;> rfl),by repeat (first|(with_reducible first|exact HB.out|apply below_alloc|apply pw_below_drewN|apply below_drew1|refine below_set ?_ GE283.out)|exact HB.out)⟩
 ·rw [if_neg c3] at H
  have c3b0 : decide (1048576 < (l1.length : Int)) = false:=decide_eq_false c3
  have c3b1 : decide (1048576 < l1.length) = false:=decide_eq_false (by omega)
  clear c3
  replace H:=Option.bind_eq_some_iff.mp H
  obtain ⟨t284,A50,H⟩:=H
  replace H : (if t284 < 0 then (some true) else ((laws_toSpace.f k l0_0 l0_1 l0_2 l0_3).bind fun bt285=>((laws_toByteS.f k l1).bind fun t297=>((spec_CloseSpace.f k bt285.1 bt285.2.1 bt285.2.2.1 bt285.2.2.2 t297).bind fun bt300=>((laws_toSpace.f k l0_0 l0_1 l0_2 l0_3).bind fun bt304=>((laws_toByteS.f k l1).bind fun t317=>((impl_CloseSpace.f k bt304.1 bt304.2.1 bt304.2.2.1 bt304.2.2.2 t317).bind fun bt320=>((laws_eqWriteS.f k bt320.1 bt300.1).bind fun t324=>(if t324 = true then (laws_FnExactCloseSpace.j0 k l1 bt300.1 bt300.2 t317 bt320.1 bt320.2 (bt320.2 != bt300.2) l0_0 l0_1 l0_2 l0_3 bt304.1 bt304.2.1 bt304.2.2.1 bt304.2.2.2) else (laws_FnExactCloseSpace.j0 k l1 bt300.1 bt300.2 t317 bt320.1 bt320.2 true l0_0 l0_1 l0_2 l0_3 bt304.1 bt304.2.1 bt304.2.2.1 bt304.2.2.2)))))))))) = some r:=H
  have A5:=Aside0.mk A50
  clear A50
  by_cases c6 : t284 < 0
  ·rw [if_pos c6] at H
   have c6b0 : decide (t284 < 0) = true:=decide_eq_true c6
   clear c6
   obtain rfl:=Option.some.inj H
   go_enter Try.func9,Try.ntmps9
   go_wp2_with (first|((with_reducible refine gate_dst (N:=2) rfl ?_);refine box_event ?hg (N:=2) ?hd (cs:=#[.slice A0_0 l0_0.length c0_0,.slice A0_1 l0_1.length c0_1,.slice A0_2 l0_2.length c0_2,.slice A0_3 l0_3.length c0_3]) (t:=26) ?hr ?_;(case hd=>rfl);(case hg=>rfl);(case hr=>first|(go_simp;done)|(go_simp;rfl));intro gb283 hg w7 hbox hb;have n0_:=Aside0.mk (below_step (by repeat (first|exact HB.out|apply below_alloc|apply pw_below_drewN|apply below_drew1)) hb);have n1_:=Aside0.mk (hbox);have n2_:=Aside0.mk ((by rw [hg];exact (below_size (by repeat (first|exact HB.out|apply below_alloc|apply pw_below_drewN|apply below_drew1))) : w.heap.size ≤ gb283));have n3_:=Aside0.mk ((by rw [hg];exact (below_size (by repeat (first|exact HB.out|apply below_alloc|apply pw_below_drewN|apply below_drew1))) : w.heap.size ≤ gb283));clear HB;have HB:=n0_;have BK283:=n1_;have GW283:=n2_;have GE283:=n3_;clear n0_ n1_ n2_ n3_;clear hb hbox hg;have hcz8_0 : w7.cell? ⟨gb283,0,none⟩ = some (.slice A0_0 l0_0.length c0_0):=(blk_cell BK283.out 0).trans rfl;have hcz8_1 : w7.cell? ⟨gb283,1,none⟩ = some (.slice A0_1 l0_1.length c0_1):=(blk_cell BK283.out 1).trans rfl;have hcz8_2 : w7.cell? ⟨gb283,2,none⟩ = some (.slice A0_2 l0_2.length c0_2):=(blk_cell BK283.out 2).trans rfl;have hcz8_3 : w7.cell? ⟨gb283,3,none⟩ = some (.slice A0_3 l0_3.length c0_3):=(blk_cell BK283.out 3).trans rfl;have hfz8_0:=blk_frozen BK283.out 0;have hfz8_1:=blk_frozen BK283.out 1;have hfz8_2:=blk_frozen BK283.out 2;have hfz8_3:=blk_frozen BK283.out 3)|((with_reducible refine gate_callee (f:=10) rfl ?_);refine goesL_ (some 22) rfl rfl Try.func10 (by kernel_rfl) rfl #[.agg #[.slice A0_0 l0_0.length c0_0,.slice A0_1 l0_1.length c0_1,.slice A0_2 l0_2.length c0_2,.slice A0_3 l0_3.length c0_3],.int .i64 1048576] rfl (by (try simp only [List.map_toArray,List.map_cons,List.map_nil]);first|done|rfl|(simp only [List.length_drop,List.length_take];rfl)) ?_;(with_reducible refine (laws_szSpace.calls k _ _ l0_0 _ _ l0_1 _ _ l0_2 _ _ l0_3 1048576 t284 _ ?side1 ?side2 ?side3 ?side4 ?side5 ?side6 ?side7 ?side8 A5.out).mono ?_);(case side1=>repeat (first|exact (Kd.C_below HR0_0.out HB.out)|(with_reducible first|apply Kd.C_alloc|apply Kd.C_drewN|apply Kd.C_drew)));(case side2=>exact HC0_0.out);(case side3=>repeat (first|exact (Kd.C_below HR0_1.out HB.out)|(with_reducible first|apply Kd.C_alloc|apply Kd.C_drewN|apply Kd.C_drew)));(case side4=>exact HC0_1.out);(case side5=>repeat (first|exact (Kd.C_below HR0_2.out HB.out)|(with_reducible first|apply Kd.C_alloc|apply Kd.C_drewN|apply Kd.C_drew)));(case side6=>exact HC0_2.out);(case side7=>repeat (first|exact (Kd.C_below HR0_3.out HB.out)|(with_reducible first|apply Kd.C_alloc|apply Kd.C_drewN|apply Kd.C_drew)));(case side8=>exact HC0_3.out);rintro e w9 ⟨rfl,hb⟩;refine ⟨_,rfl,?_⟩;have n0_:=Aside0.mk (blk_below (g:=gb283) (o:=.cells #[.slice A0_0 l0_0.length c0_0,.slice A0_1 l0_1.length c0_1,.slice A0_2 l0_2.length c0_2,.slice A0_3 l0_3.length c0_3] 26 (0,0)) (by (with_reducible repeat first|apply blk_drewN|apply blk_drew|apply blk_alloc);exact BK283.out) hb);have n1_:=Aside0.mk (below_step (by repeat (first|(with_reducible first|exact HB.out|apply below_alloc|apply pw_below_drewN|apply below_drew1|refine below_set ?_ GE283.out)|exact HB.out)) hb);clear BK283;clear HB;have BK283:=n0_;have HB:=n1_;clear n0_ n1_;(try clear hb);(try clear hb2);(try clear hk);(try clear hi)))
   go_ret
   exact ⟨by first|rfl|(simp [*,errW_none,errW_some] <;> rfl),by repeat (first|(with_reducible first|exact HB.out|apply below_alloc|apply pw_below_drewN|apply below_drew1|refine below_set ?_ GE283.out)|exact HB.out)⟩
  ·rw [if_neg c6] at H
   have c6b0 : decide (t284 < 0) = false:=decide_eq_false c6
   clear c6
   replace H:=Option.bind_eq_some_iff.mp H
   obtain ⟨⟨t285,t288,t291,t294⟩,A100,H⟩:=H
   replace H : ((laws_toByteS.f k l1).bind fun t297=>((spec_CloseSpace.f k t285 t288 t291 t294 t297).bind fun bt300=>((laws_toSpace.f k l0_0 l0_1 l0_2 l0_3).bind fun bt304=>((laws_toByteS.f k l1).bind fun t317=>((impl_CloseSpace.f k bt304.1 bt304.2.1 bt304.2.2.1 bt304.2.2.2 t317).bind fun bt320=>((laws_eqWriteS.f k bt320.1 bt300.1).bind fun t324=>(if t324 = true then (laws_FnExactCloseSpace.j0 k l1 bt300.1 bt300.2 t317 bt320.1 bt320.2 (bt320.2 != bt300.2) l0_0 l0_1 l0_2 l0_3 bt304.1 bt304.2.1 bt304.2.2.1 bt304.2.2.2) else (laws_FnExactCloseSpace.j0 k l1 bt300.1 bt300.2 t317 bt320.1 bt320.2 true l0_0 l0_1 l0_2 l0_3 bt304.1 bt304.2.1 bt304.2.2.1 bt304.2.2.2)))))))) = some r:=H
   have A10:=Aside0.mk A100
   clear A100
   replace H:=Option.bind_eq_some_iff.mp H
   obtain ⟨t297,A110,H⟩:=H
   replace H : ((spec_CloseSpace.f k t285 t288 t291 t294 t297).bind fun bt300=>((laws_toSpace.f k l0_0 l0_1 l0_2 l0_3).bind fun bt304=>((laws_toByteS.f k l1).bind fun t317=>((impl_CloseSpace.f k bt304.1 bt304.2.1 bt304.2.2.1 bt304.2.2.2 t317).bind fun bt320=>((laws_eqWriteS.f k bt320.1 bt300.1).bind fun t324=>(if t324 = true then (laws_FnExactCloseSpace.j0 k l1 bt300.1 bt300.2 t317 bt320.1 bt320.2 (bt320.2 != bt300.2) l0_0 l0_1 l0_2 l0_3 bt304.1 bt304.2.1 bt304.2.2.1 bt304.2.2.2) else (laws_FnExactCloseSpace.j0 k l1 bt300.1 bt300.2 t317 bt320.1 bt320.2 true l0_0 l0_1 l0_2 l0_3 bt304.1 bt304.2.1 bt304.2.2.1 bt304.2.2.2))))))) = some r:=H
   have A11:=Aside0.mk A110
   clear A110
   replace H:=Option.bind_eq_some_iff.mp H
   obtain ⟨⟨t300,t303⟩,A120,H⟩:=H
   replace H : ((laws_toSpace.f k l0_0 l0_1 l0_2 l0_3).bind fun bt304=>((laws_toByteS.f k l1).bind fun t317=>((impl_CloseSpace.f k bt304.1 bt304.2.1 bt304.2.2.1 bt304.2.2.2 t317).bind fun bt320=>((laws_eqWriteS.f k bt320.1 t300).bind fun t324=>(if t324 = true then (laws_FnExactCloseSpace.j0 k l1 t300 t303 t317 bt320.1 bt320.2 (bt320.2 != t303) l0_0 l0_1 l0_2 l0_3 bt304.1 bt304.2.1 bt304.2.2.1 bt304.2.2.2) else (laws_FnExactCloseSpace.j0 k l1 t300 t303 t317 bt320.1 bt320.2 true l0_0 l0_1 l0_2 l0_3 bt304.1 bt304.2.1 bt304.2.2.1 bt304.2.2.2)))))) = some r:=H
   have A12:=Aside0.mk A120
   clear A120
   replace H:=Option.bind_eq_some_iff.mp H
   obtain ⟨⟨t304,t307,t310,t313⟩,A130,H⟩:=H
   replace H : ((laws_toByteS.f k l1).bind fun t317=>((impl_CloseSpace.f k t304 t307 t310 t313 t317).bind fun bt320=>((laws_eqWriteS.f k bt320.1 t300).bind fun t324=>(if t324 = true then (laws_FnExactCloseSpace.j0 k l1 t300 t303 t317 bt320.1 bt320.2 (bt320.2 != t303) l0_0 l0_1 l0_2 l0_3 t304 t307 t310 t313) else (laws_FnExactCloseSpace.j0 k l1 t300 t303 t317 bt320.1 bt320.2 true l0_0 l0_1 l0_2 l0_3 t304 t307 t310 t313))))) = some r:=H
   have A13:=Aside0.mk A130
   clear A130
   replace H:=Option.bind_eq_some_iff.mp H
   obtain ⟨t317,A140,H⟩:=H
   replace H : ((impl_CloseSpace.f k t304 t307 t310 t313 t317).bind fun bt320=>((laws_eqWriteS.f k bt320.1 t300).bind fun t324=>(if t324 = true then (laws_FnExactCloseSpace.j0 k l1 t300 t303 t317 bt320.1 bt320.2 (bt320.2 != t303) l0_0 l0_1 l0_2 l0_3 t304 t307 t310 t313) else (laws_FnExactCloseSpace.j0 k l1 t300 t303 t317 bt320.1 bt320.2 true l0_0 l0_1 l0_2 l0_3 t304 t307 t310 t313)))) = some r:=H
   have A14:=Aside0.mk A140
   clear A140
   replace H:=Option.bind_eq_some_iff.mp H
   obtain ⟨⟨t320,t323⟩,A150,H⟩:=H
   replace H : ((laws_eqWriteS.f k t320 t300).bind fun t324=>(if t324 = true then (laws_FnExactCloseSpace.j0 k l1 t300 t303 t317 t320 t323 (t323 != t303) l0_0 l0_1 l0_2 l0_3 t304 t307 t310 t313) else (laws_FnExactCloseSpace.j0 k l1 t300 t303 t317 t320 t323 true l0_0 l0_1 l0_2 l0_3 t304 t307 t310 t313))) = some r:=H
   have A15:=Aside0.mk A150
   clear A150
   have HC16:=Aside0.mk H
   clear H
   go_enter Try.func9,Try.ntmps9
   go_upto_region 11 with (first|((with_reducible refine gate_dst (N:=2) rfl ?_);refine box_event ?hg (N:=2) ?hd (cs:=#[.slice A0_0 l0_0.length c0_0,.slice A0_1 l0_1.length c0_1,.slice A0_2 l0_2.length c0_2,.slice A0_3 l0_3.length c0_3]) (t:=26) ?hr ?_;(case hd=>rfl);(case hg=>rfl);(case hr=>first|(go_simp;done)|(go_simp;rfl));intro gb283 hg w17 hbox hb;have n0_:=Aside0.mk (below_step (by repeat (first|exact HB.out|apply below_alloc|apply pw_below_drewN|apply below_drew1)) hb);have n1_:=Aside0.mk (hbox);have n2_:=Aside0.mk ((by rw [hg];exact (below_size (by repeat (first|exact HB.out|apply below_alloc|apply pw_below_drewN|apply below_drew1))) : w.heap.size ≤ gb283));have n3_:=Aside0.mk ((by rw [hg];exact (below_size (by repeat (first|exact HB.out|apply below_alloc|apply pw_below_drewN|apply below_drew1))) : w.heap.size ≤ gb283));clear HB;have HB:=n0_;have BK283:=n1_;have GW283:=n2_;have GE283:=n3_;clear n0_ n1_ n2_ n3_;clear hb hbox hg;have hcz18_0 : w17.cell? ⟨gb283,0,none⟩ = some (.slice A0_0 l0_0.length c0_0):=(blk_cell BK283.out 0).trans rfl;have hcz18_1 : w17.cell? ⟨gb283,1,none⟩ = some (.slice A0_1 l0_1.length c0_1):=(blk_cell BK283.out 1).trans rfl;have hcz18_2 : w17.cell? ⟨gb283,2,none⟩ = some (.slice A0_2 l0_2.length c0_2):=(blk_cell BK283.out 2).trans rfl;have hcz18_3 : w17.cell? ⟨gb283,3,none⟩ = some (.slice A0_3 l0_3.length c0_3):=(blk_cell BK283.out 3).trans rfl;have hfz18_0:=blk_frozen BK283.out 0;have hfz18_1:=blk_frozen BK283.out 1;have hfz18_2:=blk_frozen BK283.out 2;have hfz18_3:=blk_frozen BK283.out 3)|((with_reducible refine gate_callee (f:=10) rfl ?_);refine goesL_ (some 22) rfl rfl Try.func10 (by kernel_rfl) rfl #[.agg #[.slice A0_0 l0_0.length c0_0,.slice A0_1 l0_1.length c0_1,.slice A0_2 l0_2.length c0_2,.slice A0_3 l0_3.length c0_3],.int .i64 1048576] rfl (by (try simp only [List.map_toArray,List.map_cons,List.map_nil]);first|done|rfl|(simp only [List.length_drop,List.length_take];rfl)) ?_;(with_reducible refine (laws_szSpace.calls k _ _ l0_0 _ _ l0_1 _ _ l0_2 _ _ l0_3 1048576 t284 _ ?side1 ?side2 ?side3 ?side4 ?side5 ?side6 ?side7 ?side8 A5.out).mono ?_);(case side1=>repeat (first|exact (Kd.C_below HR0_0.out HB.out)|(with_reducible first|apply Kd.C_alloc|apply Kd.C_drewN|apply Kd.C_drew)));(case side2=>exact HC0_0.out);(case side3=>repeat (first|exact (Kd.C_below HR0_1.out HB.out)|(with_reducible first|apply Kd.C_alloc|apply Kd.C_drewN|apply Kd.C_drew)));(case side4=>exact HC0_1.out);(case side5=>repeat (first|exact (Kd.C_below HR0_2.out HB.out)|(with_reducible first|apply Kd.C_alloc|apply Kd.C_drewN|apply Kd.C_drew)));(case side6=>exact HC0_2.out);(case side7=>repeat (first|exact (Kd.C_below HR0_3.out HB.out)|(with_reducible first|apply Kd.C_alloc|apply Kd.C_drewN|apply Kd.C_drew)));(case side8=>exact HC0_3.out);rintro e w19 ⟨rfl,hb⟩;refine ⟨_,rfl,?_⟩;have n0_:=Aside0.mk (blk_below (g:=gb283) (o:=.cells #[.slice A0_0 l0_0.length c0_0,.slice A0_1 l0_1.length c0_1,.slice A0_2 l0_2.length c0_2,.slice A0_3 l0_3.length c0_3] 26 (0,0)) (by (with_reducible repeat first|apply blk_drewN|apply blk_drew|apply blk_alloc);exact BK283.out) hb);have n1_:=Aside0.mk (below_step (by repeat (first|(with_reducible first|exact HB.out|apply below_alloc|apply pw_below_drewN|apply below_drew1|refine below_set ?_ GE283.out)|exact HB.out)) hb);clear BK283;clear HB;have BK283:=n0_;have HB:=n1_;clear n0_ n1_;(try clear hb);(try clear hb2);(try clear hk);(try clear hi);have hcz20_0 : w19.cell? ⟨gb283,0,none⟩ = some (.slice A0_0 l0_0.length c0_0):=(blk_cell BK283.out 0).trans rfl;have hcz20_1 : w19.cell? ⟨gb283,1,none⟩ = some (.slice A0_1 l0_1.length c0_1):=(blk_cell BK283.out 1).trans rfl;have hcz20_2 : w19.cell? ⟨gb283,2,none⟩ = some (.slice A0_2 l0_2.length c0_2):=(blk_cell BK283.out 2).trans rfl;have hcz20_3 : w19.cell? ⟨gb283,3,none⟩ = some (.slice A0_3 l0_3.length c0_3):=(blk_cell BK283.out 3).trans rfl;have hfz20_0:=blk_frozen BK283.out 0;have hfz20_1:=blk_frozen BK283.out 1;have hfz20_2:=blk_frozen BK283.out 2;have hfz20_3:=blk_frozen BK283.out 3)|((with_reducible refine gate_callee (f:=12) rfl ?_);refine goesL_ (some 27) rfl rfl Try.func12 (by kernel_rfl) rfl #[.agg #[.slice A0_0 l0_0.length c0_0,.slice A0_1 l0_1.length c0_1,.slice A0_2 l0_2.length c0_2,.slice A0_3 l0_3.length c0_3]] rfl (by (try simp only [List.map_toArray,List.map_cons,List.map_nil]);first|done|rfl|(simp only [List.length_drop,List.length_take];rfl)) ?_;(with_reducible refine (laws_toSpace.calls k _ _ l0_0 _ _ l0_1 _ _ l0_2 _ _ l0_3 t285 t288 t291 t294 _ ?side1 ?side2 ?side3 ?side4 ?side5 ?side6 ?side7 ?side8 A10.out).mono ?_);(case side1=>repeat (first|exact (Kd.C_below HR0_0.out HB.out)|(with_reducible first|apply Kd.C_alloc|apply Kd.C_drewN|apply Kd.C_drew)));(case side2=>exact HC0_0.out);(case side3=>repeat (first|exact (Kd.C_below HR0_1.out HB.out)|(with_reducible first|apply Kd.C_alloc|apply Kd.C_drewN|apply Kd.C_drew)));(case side4=>exact HC0_1.out);(case side5=>repeat (first|exact (Kd.C_below HR0_2.out HB.out)|(with_reducible first|apply Kd.C_alloc|apply Kd.C_drewN|apply Kd.C_drew)));(case side6=>exact HC0_2.out);(case side7=>repeat (first|exact (Kd.C_below HR0_3.out HB.out)|(with_reducible first|apply Kd.C_alloc|apply Kd.C_drewN|apply Kd.C_drew)));(case side8=>exact HC0_3.out);rintro e w21 ⟨v286,v289,v292,v295,rfl,ho0,ho1,ho2,ho3,hb⟩;refine ⟨_,rfl,?_⟩;have n0_:=Aside0.mk (Kd.S_lower (Kd.S_mono (Kd.S_bound ho0) (fun k_ h_=>(⟨h_.1,(by first|exact h_.2.1|simpa only [World.size_setCell] using h_.2.1)⟩ : _∧w19.heap.size ≤ k_))) (below_size (by repeat (first|(with_reducible first|exact HB.out|apply below_alloc|apply pw_below_drewN|apply below_drew1|refine below_set ?_ GE283.out)|exact HB.out))));have n1_:=Aside0.mk (Kd.R_lower ho1 (below_size (by repeat (first|(with_reducible first|exact HB.out|apply below_alloc|apply pw_below_drewN|apply below_drew1|refine below_set ?_ GE283.out)|exact HB.out))));have n2_:=Aside0.mk (Kd.R_lower ho2 (below_size (by repeat (first|(with_reducible first|exact HB.out|apply below_alloc|apply pw_below_drewN|apply below_drew1|refine below_set ?_ GE283.out)|exact HB.out))));have n3_:=Aside0.mk (Kd.R_lower ho3 (below_size (by repeat (first|(with_reducible first|exact HB.out|apply below_alloc|apply pw_below_drewN|apply below_drew1|refine below_set ?_ GE283.out)|exact HB.out))));have n4_:=Aside0.mk (blk_below (g:=gb283) (o:=.cells #[.slice A0_0 l0_0.length c0_0,.slice A0_1 l0_1.length c0_1,.slice A0_2 l0_2.length c0_2,.slice A0_3 l0_3.length c0_3] 26 (0,0)) (by (with_reducible repeat first|apply blk_drewN|apply blk_drew|apply blk_alloc);exact BK283.out) hb);have n5_:=Aside0.mk (below_step (by repeat (first|(with_reducible first|exact HB.out|apply below_alloc|apply pw_below_drewN|apply below_drew1|refine below_set ?_ GE283.out)|exact HB.out)) hb);clear BK283;clear HB;have HO287:=n0_;have HO290:=n1_;have HO293:=n2_;have HO296:=n3_;have BK283:=n4_;have HB:=n5_;clear n0_ n1_ n2_ n3_ n4_ n5_;(try clear hb);(try clear hb2);(try clear hk);(try clear hi);(try clear ho0);(try clear ho1);(try clear ho2);(try clear ho3))|((with_reducible refine gate_callee (f:=31) rfl ?_);refine goesL_ (some 29) rfl rfl Try.func31 (by kernel_rfl) rfl #[.slice A1 l1.length c1] rfl (by (try simp only [List.map_toArray,List.map_cons,List.map_nil]);first|done|rfl|(simp only [List.length_drop,List.length_take];rfl)) ?_;(with_reducible refine (laws_toByteS.calls k _ _ l1 t297 _ ?side1 ?side2 A11.out).mono ?_);(case side1=>repeat (first|exact (Kd.C_below HR1.out HB.out)|(with_reducible first|apply Kd.C_alloc|apply Kd.C_drewN|apply Kd.C_drew)));(case side2=>exact HC1.out);rintro e w22 ⟨v298,rfl,ho0,hb⟩;refine ⟨_,rfl,?_⟩;have n0_:=Aside0.mk (Kd.S_elder' (by (with_reducible repeat (first|apply Kd.S_alloc|apply Kd.S_drewN|apply Kd.S_drew));exact HO287.out) (Kd.R_base ho0) hb);have n1_:=Aside0.mk (Kd.R_elder' (by (with_reducible repeat (first|apply Kd.R_alloc|apply Kd.R_drewN|apply Kd.R_drew));exact HO290.out) (Kd.R_base ho0) hb);have n2_:=Aside0.mk (Kd.R_below (by (with_reducible repeat (first|apply Kd.R_alloc|apply Kd.R_drewN|apply Kd.R_drew));exact HO293.out) hb);have n3_:=Aside0.mk (Kd.R_below (by (with_reducible repeat (first|apply Kd.R_alloc|apply Kd.R_drewN|apply Kd.R_drew));exact HO296.out) hb);have n4_:=Aside0.mk (Kd.R_lower (Kd.R_new' ho0 (Kd.R_lt (by (with_reducible repeat (first|apply Kd.R_alloc|apply Kd.R_drewN|apply Kd.R_drew));exact HO290.out))) (below_size (by repeat (first|(with_reducible first|exact HB.out|apply below_alloc|apply pw_below_drewN|apply below_drew1|refine below_set ?_ GE283.out)|exact HB.out))));have n5_:=Aside0.mk (blk_below (g:=gb283) (o:=.cells #[.slice A0_0 l0_0.length c0_0,.slice A0_1 l0_1.length c0_1,.slice A0_2 l0_2.length c0_2,.slice A0_3 l0_3.length c0_3] 26 (0,0)) (by (with_reducible repeat first|apply blk_drewN|apply blk_drew|apply blk_alloc);exact BK283.out) hb);have n6_:=Aside0.mk (below_step (by repeat (first|(with_reducible first|exact HB.out|apply below_alloc|apply pw_below_drewN|apply below_drew1|refine below_set ?_ GE283.out)|exact HB.out)) hb);clear HO287;clear HO290;clear HO293;clear HO296;clear BK283;clear HB;have HO287:=n0_;have HO290:=n1_;have HO293:=n2_;have HO296:=n3_;have HO299:=n4_;have BK283:=n5_;have HB:=n6_;clear n0_ n1_ n2_ n3_ n4_ n5_ n6_;(try clear hb);(try clear hb2);(try clear hk);(try clear hi);(try clear ho0);obtain ⟨Ao23,co23,eo23⟩:=Kd.S_slice HO287.out;subst eo23;obtain ⟨Ao24,co24,eo24⟩:=Kd.R_slice HO290.out;subst eo24;obtain ⟨Ao25,co25,eo25⟩:=Kd.R_slice HO293.out;subst eo25;obtain ⟨Ao26,co26,eo26⟩:=Kd.R_slice HO296.out;subst eo26;obtain ⟨Ao27,co27,eo27⟩:=Kd.R_slice HO299.out;subst eo27)|((with_reducible refine gate_callee (f:=37) rfl ?_);refine goesL_ (some 30) rfl rfl Try.func37 (by kernel_rfl) rfl #[.agg #[.slice Ao23 t285.length co23,.slice Ao24 t288.length co24,.slice Ao25 t291.length co25,.slice Ao26 t294.length co26],.slice Ao27 t297.length co27] rfl (by (try simp only [List.map_toArray,List.map_cons,List.map_nil]);first|done|rfl|(simp only [List.length_drop,List.length_take];rfl)) ?_;(with_reducible refine (spec_CloseSpace.calls k _ _ t285 _ _ t288 _ _ t291 _ _ t294 _ _ t297 t300 t303 _ ?side1 ?side2 ?side3 ?side4 ?side5 ?side6 ?side7 ?side8 ?side9 ?side10 A12.out).mono ?_);(case side1=>repeat (first|exact (Kd.S_reads' HO287.out).2.2|(with_reducible first|apply Kd.C_alloc|apply Kd.C_drewN|apply Kd.C_drew)));(case side2=>exact (Kd.S_reads' HO287.out).2.1);(case side3=>repeat (first|exact (Kd.R_reads' HO290.out).2.2|(with_reducible first|apply Kd.C_alloc|apply Kd.C_drewN|apply Kd.C_drew)));(case side4=>exact (Kd.R_reads' HO290.out).2.1);(case side5=>repeat (first|exact (Kd.R_reads' HO293.out).2.2|(with_reducible first|apply Kd.C_alloc|apply Kd.C_drewN|apply Kd.C_drew)));(case side6=>exact (Kd.R_reads' HO293.out).2.1);(case side7=>repeat (first|exact (Kd.R_reads' HO296.out).2.2|(with_reducible first|apply Kd.C_alloc|apply Kd.C_drewN|apply Kd.C_drew)));(case side8=>exact (Kd.R_reads' HO296.out).2.1);(case side9=>repeat (first|exact (Kd.R_reads' HO299.out).2.2|(with_reducible first|apply Kd.C_alloc|apply Kd.C_drewN|apply Kd.C_drew)));(case side10=>exact (Kd.R_reads' HO299.out).2.1);rintro e w28 ⟨v301,rfl,ho0,hb⟩;refine ⟨_,rfl,?_⟩;have n0_:=Aside0.mk (Kd.S_old (by (with_reducible repeat (first|apply Kd.S_alloc|apply Kd.S_drewN|apply Kd.S_drew));exact HO287.out) hb);have n1_:=Aside0.mk (Kd.R_below (by (with_reducible repeat (first|apply Kd.R_alloc|apply Kd.R_drewN|apply Kd.R_drew));exact HO290.out) hb);have n2_:=Aside0.mk (Kd.R_below (by (with_reducible repeat (first|apply Kd.R_alloc|apply Kd.R_drewN|apply Kd.R_drew));exact HO293.out) hb);have n3_:=Aside0.mk (Kd.R_below (by (with_reducible repeat (first|apply Kd.R_alloc|apply Kd.R_drewN|apply Kd.R_drew));exact HO296.out) hb);have n4_:=Aside0.mk (Kd.R_below (by (with_reducible repeat (first|apply Kd.R_alloc|apply Kd.R_drewN|apply Kd.R_drew));exact HO299.out) hb);have n5_:=Aside0.mk (Kd.S_lower (Kd.S_new' (Kd.S_new' (Kd.S_mono (Kd.S_bound ho0) (fun k_ h_=>(⟨h_.1,(by first|exact h_.2.1|simpa only [World.size_setCell] using h_.2.1)⟩ : _∧w22.heap.size ≤ k_))) (Kd.R_lt (by (with_reducible repeat (first|apply Kd.R_alloc|apply Kd.R_drewN|apply Kd.R_drew));exact HO290.out))) (Kd.R_lt (by (with_reducible repeat (first|apply Kd.R_alloc|apply Kd.R_drewN|apply Kd.R_drew));exact HO299.out))) (below_size (by repeat (first|(with_reducible first|exact HB.out|apply below_alloc|apply pw_below_drewN|apply below_drew1|refine below_set ?_ GE283.out)|exact HB.out))));have n6_:=Aside0.mk (blk_below (g:=gb283) (o:=.cells #[.slice A0_0 l0_0.length c0_0,.slice A0_1 l0_1.length c0_1,.slice A0_2 l0_2.length c0_2,.slice A0_3 l0_3.length c0_3] 26 (0,0)) (by (with_reducible repeat first|apply blk_drewN|apply blk_drew|apply blk_alloc);exact BK283.out) hb);have n7_:=Aside0.mk (below_step (by repeat (first|(with_reducible first|exact HB.out|apply below_alloc|apply pw_below_drewN|apply below_drew1|refine below_set ?_ GE283.out)|exact HB.out)) hb);clear HO287;clear HO290;clear HO293;clear HO296;clear HO299;clear BK283;clear HB;have HO287:=n0_;have HO290:=n1_;have HO293:=n2_;have HO296:=n3_;have HO299:=n4_;have HO302:=n5_;have BK283:=n6_;have HB:=n7_;clear n0_ n1_ n2_ n3_ n4_ n5_ n6_ n7_;(try clear hb);(try clear hb2);(try clear hk);(try clear hi);(try clear ho0);have hcz29_0 : w28.cell? ⟨gb283,0,none⟩ = some (.slice A0_0 l0_0.length c0_0):=(blk_cell BK283.out 0).trans rfl;have hcz29_1 : w28.cell? ⟨gb283,1,none⟩ = some (.slice A0_1 l0_1.length c0_1):=(blk_cell BK283.out 1).trans rfl;have hcz29_2 : w28.cell? ⟨gb283,2,none⟩ = some (.slice A0_2 l0_2.length c0_2):=(blk_cell BK283.out 2).trans rfl;have hcz29_3 : w28.cell? ⟨gb283,3,none⟩ = some (.slice A0_3 l0_3.length c0_3):=(blk_cell BK283.out 3).trans rfl;have hfz29_0:=blk_frozen BK283.out 0;have hfz29_1:=blk_frozen BK283.out 1;have hfz29_2:=blk_frozen BK283.out 2;have hfz29_3:=blk_frozen BK283.out 3)|((with_reducible refine gate_callee (f:=12) rfl ?_);refine goesL_ (some 34) rfl rfl Try.func12 (by kernel_rfl) rfl #[.agg #[.slice A0_0 l0_0.length c0_0,.slice A0_1 l0_1.length c0_1,.slice A0_2 l0_2.length c0_2,.slice A0_3 l0_3.length c0_3]] rfl (by (try simp only [List.map_toArray,List.map_cons,List.map_nil]);first|done|rfl|(simp only [List.length_drop,List.length_take];rfl)) ?_;(with_reducible refine (laws_toSpace.calls k _ _ l0_0 _ _ l0_1 _ _ l0_2 _ _ l0_3 t304 t307 t310 t313 _ ?side1 ?side2 ?side3 ?side4 ?side5 ?side6 ?side7 ?side8 A13.out).mono ?_);(case side1=>repeat (first|exact (Kd.C_below HR0_0.out HB.out)|(with_reducible first|apply Kd.C_alloc|apply Kd.C_drewN|apply Kd.C_drew)));(case side2=>exact HC0_0.out);(case side3=>repeat (first|exact (Kd.C_below HR0_1.out HB.out)|(with_reducible first|apply Kd.C_alloc|apply Kd.C_drewN|apply Kd.C_drew)));(case side4=>exact HC0_1.out);(case side5=>repeat (first|exact (Kd.C_below HR0_2.out HB.out)|(with_reducible first|apply Kd.C_alloc|apply Kd.C_drewN|apply Kd.C_drew)));(case side6=>exact HC0_2.out);(case side7=>repeat (first|exact (Kd.C_below HR0_3.out HB.out)|(with_reducible first|apply Kd.C_alloc|apply Kd.C_drewN|apply Kd.C_drew)));(case side8=>exact HC0_3.out);rintro e w30 ⟨v305,v308,v311,v314,rfl,ho0,ho1,ho2,ho3,hb⟩;refine ⟨_,rfl,?_⟩;have n0_:=Aside0.mk (Kd.S_told (Kd.S_old (by (with_reducible repeat (first|apply Kd.S_alloc|apply Kd.S_drewN|apply Kd.S_drew));exact HO302.out) hb) (Kd.R_base ho1));have n1_:=Aside0.mk (Kd.S_lower (Kd.S_new' (Kd.S_new' (Kd.S_new' (Kd.S_mono (Kd.S_bound ho0) (fun k_ h_=>(⟨h_.1,(by first|exact h_.2.1|simpa only [World.size_setCell] using h_.2.1)⟩ : _∧w28.heap.size ≤ k_))) (Kd.S_lt (by (with_reducible repeat (first|apply Kd.S_alloc|apply Kd.S_drewN|apply Kd.S_drew));exact HO287.out))) (Kd.R_lt (by (with_reducible repeat (first|apply Kd.R_alloc|apply Kd.R_drewN|apply Kd.R_drew));exact HO290.out))) (Kd.R_lt (by (with_reducible repeat (first|apply Kd.R_alloc|apply Kd.R_drewN|apply Kd.R_drew));exact HO299.out))) (below_size (by repeat (first|(with_reducible first|exact HB.out|apply below_alloc|apply pw_below_drewN|apply below_drew1|refine below_set ?_ GE283.out)|exact HB.out))));have n2_:=Aside0.mk (Kd.R_lower (Kd.R_new' (Kd.R_new' ho1 (Kd.R_lt (by (with_reducible repeat (first|apply Kd.R_alloc|apply Kd.R_drewN|apply Kd.R_drew));exact HO290.out))) (Kd.R_lt (by (with_reducible repeat (first|apply Kd.R_alloc|apply Kd.R_drewN|apply Kd.R_drew));exact HO299.out))) (below_size (by repeat (first|(with_reducible first|exact HB.out|apply below_alloc|apply pw_below_drewN|apply below_drew1|refine below_set ?_ GE283.out)|exact HB.out))));have n3_:=Aside0.mk (Kd.R_lower (Kd.R_new' (Kd.R_new' ho2 (Kd.R_lt (by (with_reducible repeat (first|apply Kd.R_alloc|apply Kd.R_drewN|apply Kd.R_drew));exact HO293.out))) (Kd.R_lt (by (with_reducible repeat (first|apply Kd.R_alloc|apply Kd.R_drewN|apply Kd.R_drew));exact HO296.out))) (below_size (by repeat (first|(with_reducible first|exact HB.out|apply below_alloc|apply pw_below_drewN|apply below_drew1|refine below_set ?_ GE283.out)|exact HB.out))));have n4_:=Aside0.mk (Kd.R_lower (Kd.R_new' (Kd.R_new' ho3 (Kd.R_lt (by (with_reducible repeat (first|apply Kd.R_alloc|apply Kd.R_drewN|apply Kd.R_drew));exact HO293.out))) (Kd.R_lt (by (with_reducible repeat (first|apply Kd.R_alloc|apply Kd.R_drewN|apply Kd.R_drew));exact HO296.out))) (below_size (by repeat (first|(with_reducible first|exact HB.out|apply below_alloc|apply pw_below_drewN|apply below_drew1|refine below_set ?_ GE283.out)|exact HB.out))));have n5_:=Aside0.mk (blk_below (g:=gb283) (o:=.cells #[.slice A0_0 l0_0.length c0_0,.slice A0_1 l0_1.length c0_1,.slice A0_2 l0_2.length c0_2,.slice A0_3 l0_3.length c0_3] 26 (0,0)) (by (with_reducible repeat first|apply blk_drewN|apply blk_drew|apply blk_alloc);exact BK283.out) hb);have n6_:=Aside0.mk (below_step (by repeat (first|(with_reducible first|exact HB.out|apply below_alloc|apply pw_below_drewN|apply below_drew1|refine below_set ?_ GE283.out)|exact HB.out)) hb);clear HO302;clear BK283;clear HB;clear HO287;clear HO290;clear HO293;clear HO296;clear HO299;have HO302:=n0_;have HO306:=n1_;have HO309:=n2_;have HO312:=n3_;have HO315:=n4_;have BK283:=n5_;have HB:=n6_;clear n0_ n1_ n2_ n3_ n4_ n5_ n6_;(try clear hb);(try clear hb2);(try clear hk);(try clear hi);(try clear ho0);(try clear ho1);(try clear ho2);(try clear ho3))|((with_reducible refine gate_dst (N:=8) rfl ?_);refine box_event ?hg (N:=8) ?hd (cs:=#[.slice none 0 0,.slice none 0 0,.slice none 0 0,.slice none 0 0]) (t:=29) ?hr ?_;(case hd=>rfl);(case hg=>rfl);(case hr=>first|(go_simp;done)|(go_simp;rfl));intro gb316 hg w31 hbox hb;have n0_:=Aside0.mk (Kd.S_below (by (with_reducible repeat (first|apply Kd.S_alloc|apply Kd.S_drewN|apply Kd.S_drew));exact HO302.out) hb);have n1_:=Aside0.mk (Kd.S_below (by (with_reducible repeat (first|apply Kd.S_alloc|apply Kd.S_drewN|apply Kd.S_drew));exact HO306.out) hb);have n2_:=Aside0.mk (Kd.R_below (by (with_reducible repeat (first|apply Kd.R_alloc|apply Kd.R_drewN|apply Kd.R_drew));exact HO309.out) hb);have n3_:=Aside0.mk (Kd.R_below (by (with_reducible repeat (first|apply Kd.R_alloc|apply Kd.R_drewN|apply Kd.R_drew));exact HO312.out) hb);have n4_:=Aside0.mk (Kd.R_below (by (with_reducible repeat (first|apply Kd.R_alloc|apply Kd.R_drewN|apply Kd.R_drew));exact HO315.out) hb);have n5_:=Aside0.mk (blk_below (g:=gb283) (o:=.cells #[.slice A0_0 l0_0.length c0_0,.slice A0_1 l0_1.length c0_1,.slice A0_2 l0_2.length c0_2,.slice A0_3 l0_3.length c0_3] 26 (0,0)) (by (with_reducible repeat first|apply blk_drewN|apply blk_drew|apply blk_alloc);exact BK283.out) hb);have n6_:=Aside0.mk (below_step (by repeat (first|(with_reducible first|exact HB.out|apply below_alloc|apply pw_below_drewN|apply below_drew1|refine below_set ?_ GE283.out)|exact HB.out)) hb);have n7_:=Aside0.mk (hbox);have n8_:=Aside0.mk ((by rw [hg];exact (below_size (by repeat (first|(with_reducible first|exact HB.out|apply below_alloc|apply pw_below_drewN|apply below_drew1|refine below_set ?_ GE283.out)|exact HB.out))) : w.heap.size ≤ gb316));have n9_:=Aside0.mk ((by rw [hg];exact (below_size (by repeat (first|(with_reducible first|exact HB.out|apply below_alloc|apply pw_below_drewN|apply below_drew1|refine below_set ?_ GE283.out)|exact HB.out))) : w.heap.size ≤ gb316));have n10_:=Aside0.mk ((by rw [hg];exact Nat.ne_of_lt (blk_lt (g:=gb283) (o:=.cells #[.slice A0_0 l0_0.length c0_0,.slice A0_1 l0_1.length c0_1,.slice A0_2 l0_2.length c0_2,.slice A0_3 l0_3.length c0_3] 26 (0,0)) (by (with_reducible repeat first|apply blk_drewN|apply blk_drew|apply blk_alloc);exact BK283.out)) : gb283 ≠ gb316));have n11_:=Aside0.mk ((by rw [hg];exact Nat.ne_of_gt (blk_lt (g:=gb283) (o:=.cells #[.slice A0_0 l0_0.length c0_0,.slice A0_1 l0_1.length c0_1,.slice A0_2 l0_2.length c0_2,.slice A0_3 l0_3.length c0_3] 26 (0,0)) (by (with_reducible repeat first|apply blk_drewN|apply blk_drew|apply blk_alloc);exact BK283.out)) : gb316 ≠ gb283));clear HO302;clear HO306;clear HO309;clear HO312;clear HO315;clear BK283;clear HB;have HO302:=n0_;have HO306:=n1_;have HO309:=n2_;have HO312:=n3_;have HO315:=n4_;have BK283:=n5_;have HB:=n6_;have BK316:=n7_;have GW316:=n8_;have GE316:=n9_;have NB283_316:=n10_;have NB316_283:=n11_;clear n0_ n1_ n2_ n3_ n4_ n5_ n6_ n7_ n8_ n9_ n10_ n11_;clear hb hbox hg;obtain ⟨Ao32,co32,eo32⟩:=Kd.S_slice HO306.out;subst eo32;have hnb33:=NB316_283.out;have hnc33:=NB283_316.out;have hcz34_0 : w31.cell? ⟨gb316,0,none⟩ = some (.slice none 0 0):=(blk_cell BK316.out 0).trans rfl;have hcz34_1 : w31.cell? ⟨gb316,1,none⟩ = some (.slice none 0 0):=(blk_cell BK316.out 1).trans rfl;have hcz34_2 : w31.cell? ⟨gb316,2,none⟩ = some (.slice none 0 0):=(blk_cell BK316.out 2).trans rfl;have hcz34_3 : w31.cell? ⟨gb316,3,none⟩ = some (.slice none 0 0):=(blk_cell BK316.out 3).trans rfl;have hfz34_0:=blk_frozen BK316.out 0;have hfz34_1:=blk_frozen BK316.out 1;have hfz34_2:=blk_frozen BK316.out 2;have hfz34_3:=blk_frozen BK316.out 3;obtain ⟨Ao35,co35,eo35⟩:=Kd.R_slice HO309.out;subst eo35;obtain ⟨Ao36,co36,eo36⟩:=Kd.R_slice HO312.out;subst eo36;obtain ⟨Ao37,co37,eo37⟩:=Kd.R_slice HO315.out;subst eo37)|((with_reducible refine gate_callee (f:=31) rfl ?_);refine goesL_ (some 36) rfl rfl Try.func31 (by kernel_rfl) rfl #[.slice A1 l1.length c1] rfl (by (try simp only [List.map_toArray,List.map_cons,List.map_nil]);first|done|rfl|(simp only [List.length_drop,List.length_take];rfl)) ?_;(with_reducible refine (laws_toByteS.calls k _ _ l1 t317 _ ?side1 ?side2 A14.out).mono ?_);(case side1=>exact Kd.C_below HR1.out (by repeat (first|(with_reducible first|exact HB.out|apply below_alloc|apply pw_below_drewN|apply below_drew1|refine below_set ?_ GE283.out|refine below_set ?_ GE316.out)|exact HB.out)));(case side2=>exact HC1.out);rintro e w38 ⟨v318,rfl,ho0,hb⟩;refine ⟨_,rfl,?_⟩;have n0_:=Aside0.mk (Kd.S_elder' (by (with_reducible repeat (first|apply Kd.S_alloc|apply Kd.S_drewN|apply Kd.S_drew));exact (Kd.S_mono (Kd.S_far (p:=⟨gb316,3,none⟩) (Kd.S_far (p:=⟨gb316,2,none⟩) (Kd.S_far (p:=⟨gb316,1,none⟩) (Kd.S_far (p:=⟨gb316,0,none⟩) (Kd.S_types HO302.out BK316.out (by decide)) (fun _ hk=>hk.2) (.slice Ao32 t304.length co32)) (fun _ hk=>hk.2) (.slice Ao35 t307.length co35)) (fun _ hk=>hk.2) (.slice Ao36 t310.length co36)) (fun _ hk=>hk.2) (.slice Ao37 t313.length co37)) (fun _ h_=>h_.1))) (Kd.R_base ho0) hb);have n1_:=Aside0.mk (Kd.S_elder' (by (with_reducible repeat (first|apply Kd.S_alloc|apply Kd.S_drewN|apply Kd.S_drew));exact (Kd.S_mono (Kd.S_far (p:=⟨gb316,3,none⟩) (Kd.S_far (p:=⟨gb316,2,none⟩) (Kd.S_far (p:=⟨gb316,1,none⟩) (Kd.S_far (p:=⟨gb316,0,none⟩) (Kd.S_types HO306.out BK316.out (by decide)) (fun _ hk=>hk.2) (.slice Ao32 t304.length co32)) (fun _ hk=>hk.2) (.slice Ao35 t307.length co35)) (fun _ hk=>hk.2) (.slice Ao36 t310.length co36)) (fun _ hk=>hk.2) (.slice Ao37 t313.length co37)) (fun _ h_=>h_.1))) (Kd.R_base ho0) hb);have n2_:=Aside0.mk (Kd.R_elder' (by (with_reducible repeat (first|apply Kd.R_alloc|apply Kd.R_drewN|apply Kd.R_drew));exact (Kd.R_mono (Kd.R_far (p:=⟨gb316,3,none⟩) (Kd.R_far (p:=⟨gb316,2,none⟩) (Kd.R_far (p:=⟨gb316,1,none⟩) (Kd.R_far (p:=⟨gb316,0,none⟩) (Kd.R_types HO309.out BK316.out (by decide)) (fun _ hk=>hk.2) (.slice Ao32 t304.length co32)) (fun _ hk=>hk.2) (.slice Ao35 t307.length co35)) (fun _ hk=>hk.2) (.slice Ao36 t310.length co36)) (fun _ hk=>hk.2) (.slice Ao37 t313.length co37)) (fun _ h_=>h_.1))) (Kd.R_base ho0) hb);have n3_:=Aside0.mk (Kd.R_below (by (with_reducible repeat (first|apply Kd.R_alloc|apply Kd.R_drewN|apply Kd.R_drew));exact (Kd.R_mono (Kd.R_far (p:=⟨gb316,3,none⟩) (Kd.R_far (p:=⟨gb316,2,none⟩) (Kd.R_far (p:=⟨gb316,1,none⟩) (Kd.R_far (p:=⟨gb316,0,none⟩) (Kd.R_types HO312.out BK316.out (by decide)) (fun _ hk=>hk.2) (.slice Ao32 t304.length co32)) (fun _ hk=>hk.2) (.slice Ao35 t307.length co35)) (fun _ hk=>hk.2) (.slice Ao36 t310.length co36)) (fun _ hk=>hk.2) (.slice Ao37 t313.length co37)) (fun _ h_=>h_.1))) hb);have n4_:=Aside0.mk (Kd.R_below (by (with_reducible repeat (first|apply Kd.R_alloc|apply Kd.R_drewN|apply Kd.R_drew));exact (Kd.R_mono (Kd.R_far (p:=⟨gb316,3,none⟩) (Kd.R_far (p:=⟨gb316,2,none⟩) (Kd.R_far (p:=⟨gb316,1,none⟩) (Kd.R_far (p:=⟨gb316,0,none⟩) (Kd.R_types HO315.out BK316.out (by decide)) (fun _ hk=>hk.2) (.slice Ao32 t304.length co32)) (fun _ hk=>hk.2) (.slice Ao35 t307.length co35)) (fun _ hk=>hk.2) (.slice Ao36 t310.length co36)) (fun _ hk=>hk.2) (.slice Ao37 t313.length co37)) (fun _ h_=>h_.1))) hb);have n5_:=Aside0.mk (Kd.R_lower (Kd.R_new' ho0 (Kd.R_lt (by (with_reducible repeat (first|apply Kd.R_alloc|apply Kd.R_drewN|apply Kd.R_drew));exact (Kd.R_mono (Kd.R_far (p:=⟨gb316,3,none⟩) (Kd.R_far (p:=⟨gb316,2,none⟩) (Kd.R_far (p:=⟨gb316,1,none⟩) (Kd.R_far (p:=⟨gb316,0,none⟩) (Kd.R_types HO309.out BK316.out (by decide)) (fun _ hk=>hk.2) (.slice Ao32 t304.length co32)) (fun _ hk=>hk.2) (.slice Ao35 t307.length co35)) (fun _ hk=>hk.2) (.slice Ao36 t310.length co36)) (fun _ hk=>hk.2) (.slice Ao37 t313.length co37)) (fun _ h_=>h_.1))))) (below_size (by repeat (first|(with_reducible first|exact HB.out|apply below_alloc|apply pw_below_drewN|apply below_drew1|refine below_set ?_ GE283.out|refine below_set ?_ GE316.out)|exact HB.out))));have n6_:=Aside0.mk (blk_below (g:=gb283) (o:=.cells #[.slice A0_0 l0_0.length c0_0,.slice A0_1 l0_1.length c0_1,.slice A0_2 l0_2.length c0_2,.slice A0_3 l0_3.length c0_3] 26 (0,0)) (by (with_reducible repeat first|apply blk_drewN|apply blk_drew|apply blk_alloc);refine blk_far ?_ NB283_316.out _;(with_reducible repeat first|apply blk_drewN|apply blk_drew|apply blk_alloc);refine blk_far ?_ NB283_316.out _;(with_reducible repeat first|apply blk_drewN|apply blk_drew|apply blk_alloc);refine blk_far ?_ NB283_316.out _;(with_reducible repeat first|apply blk_drewN|apply blk_drew|apply blk_alloc);refine blk_far ?_ NB283_316.out _;(with_reducible repeat first|apply blk_drewN|apply blk_drew|apply blk_alloc);exact BK283.out) hb);have n7_:=Aside0.mk (blk_below (g:=gb316) (o:=.cells #[.slice Ao32 t304.length co32,.slice Ao35 t307.length co35,.slice Ao36 t310.length co36,.slice Ao37 t313.length co37] 29 (0,0)) (by (with_reducible repeat first|apply blk_drewN|apply blk_drew|apply blk_alloc);refine blk_put (cs:=#[.slice Ao32 t304.length co32,.slice Ao35 t307.length co35,.slice Ao36 t310.length co36,.slice none 0 0]) ?_ 3 _ rfl;(with_reducible repeat first|apply blk_drewN|apply blk_drew|apply blk_alloc);refine blk_put (cs:=#[.slice Ao32 t304.length co32,.slice Ao35 t307.length co35,.slice none 0 0,.slice none 0 0]) ?_ 2 _ rfl;(with_reducible repeat first|apply blk_drewN|apply blk_drew|apply blk_alloc);refine blk_put (cs:=#[.slice Ao32 t304.length co32,.slice none 0 0,.slice none 0 0,.slice none 0 0]) ?_ 1 _ rfl;(with_reducible repeat first|apply blk_drewN|apply blk_drew|apply blk_alloc);refine blk_put (cs:=#[.slice none 0 0,.slice none 0 0,.slice none 0 0,.slice none 0 0]) ?_ 0 _ rfl;(with_reducible repeat first|apply blk_drewN|apply blk_drew|apply blk_alloc);exact BK316.out) hb);have n8_:=Aside0.mk (below_step (by repeat (first|(with_reducible first|exact HB.out|apply below_alloc|apply pw_below_drewN|apply below_drew1|refine below_set ?_ GE283.out|refine below_set ?_ GE316.out)|exact HB.out)) hb);clear HO302;clear HO306;clear HO309;clear HO312;clear HO315;clear BK283;clear BK316;clear HB;have HO302:=n0_;have HO306:=n1_;have HO309:=n2_;have HO312:=n3_;have HO315:=n4_;have HO319:=n5_;have BK283:=n6_;have BK316:=n7_;have HB:=n8_;clear n0_ n1_ n2_ n3_ n4_ n5_ n6_ n7_ n8_;(try clear hb);(try clear hb2);(try clear hk);(try clear hi);(try clear ho0);have hcz39_0 : w38.cell? ⟨gb316,0,none⟩ = some (.slice Ao32 t304.length co32):=(blk_cell BK316.out 0).trans rfl;have hcz39_1 : w38.cell? ⟨gb316,1,none⟩ = some (.slice Ao35 t307.length co35):=(blk_cell BK316.out 1).trans rfl;have hcz39_2 : w38.cell? ⟨gb316,2,none⟩ = some (.slice Ao36 t310.length co36):=(blk_cell BK316.out 2).trans rfl;have hcz39_3 : w38.cell? ⟨gb316,3,none⟩ = some (.slice Ao37 t313.length co37):=(blk_cell BK316.out 3).trans rfl;have hfz39_0:=blk_frozen BK316.out 0;have hfz39_1:=blk_frozen BK316.out 1;have hfz39_2:=blk_frozen BK316.out 2;have hfz39_3:=blk_frozen BK316.out 3;obtain ⟨Ao40,co40,eo40⟩:=Kd.R_slice HO319.out;subst eo40)|((with_reducible refine gate_callee (f:=38) rfl ?_);refine goesL_ (some 40) rfl rfl Try.func38 (by kernel_rfl) rfl #[.agg #[.slice Ao32 t304.length co32,.slice Ao35 t307.length co35,.slice Ao36 t310.length co36,.slice Ao37 t313.length co37],.slice Ao40 t317.length co40] rfl (by (try simp only [List.map_toArray,List.map_cons,List.map_nil]);first|done|rfl|(simp only [List.length_drop,List.length_take];rfl)) ?_;(with_reducible refine (impl_CloseSpace.calls k _ _ t304 _ _ t307 _ _ t310 _ _ t313 _ _ t317 t320 t323 _ ?side1 ?side2 ?side3 ?side4 ?side5 ?side6 ?side7 ?side8 ?side9 ?side10 A15.out).mono ?_);(case side1=>repeat (first|exact (Kd.S_reads' HO306.out).2.2|(with_reducible first|apply Kd.C_alloc|apply Kd.C_drewN|apply Kd.C_drew)));(case side2=>exact (Kd.S_reads' HO306.out).2.1);(case side3=>repeat (first|exact (Kd.R_reads' HO309.out).2.2|(with_reducible first|apply Kd.C_alloc|apply Kd.C_drewN|apply Kd.C_drew)));(case side4=>exact (Kd.R_reads' HO309.out).2.1);(case side5=>repeat (first|exact (Kd.R_reads' HO312.out).2.2|(with_reducible first|apply Kd.C_alloc|apply Kd.C_drewN|apply Kd.C_drew)));(case side6=>exact (Kd.R_reads' HO312.out).2.1);(case side7=>repeat (first|exact (Kd.R_reads' HO315.out).2.2|(with_reducible first|apply Kd.C_alloc|apply Kd.C_drewN|apply Kd.C_drew)));(case side8=>exact (Kd.R_reads' HO315.out).2.1);(case side9=>repeat (first|exact (Kd.R_reads' HO319.out).2.2|(with_reducible first|apply Kd.C_alloc|apply Kd.C_drewN|apply Kd.C_drew)));(case side10=>exact (Kd.R_reads' HO319.out).2.1);rintro e w41 ⟨v321,rfl,ho0,hb⟩;refine ⟨_,rfl,?_⟩;have n0_:=Aside0.mk (Kd.S_told (Kd.S_old (by (with_reducible repeat (first|apply Kd.S_alloc|apply Kd.S_drewN|apply Kd.S_drew));exact HO302.out) hb) (Kd.S_base ho0));have n1_:=Aside0.mk (Kd.S_old (by (with_reducible repeat (first|apply Kd.S_alloc|apply Kd.S_drewN|apply Kd.S_drew));exact HO306.out) hb);have n2_:=Aside0.mk (Kd.R_below (by (with_reducible repeat (first|apply Kd.R_alloc|apply Kd.R_drewN|apply Kd.R_drew));exact HO309.out) hb);have n3_:=Aside0.mk (Kd.R_below (by (with_reducible repeat (first|apply Kd.R_alloc|apply Kd.R_drewN|apply Kd.R_drew));exact HO312.out) hb);have n4_:=Aside0.mk (Kd.R_below (by (with_reducible repeat (first|apply Kd.R_alloc|apply Kd.R_drewN|apply Kd.R_drew));exact HO315.out) hb);have n5_:=Aside0.mk (Kd.R_below (by (with_reducible repeat (first|apply Kd.R_alloc|apply Kd.R_drewN|apply Kd.R_drew));exact HO319.out) hb);have n6_:=Aside0.mk (Kd.S_lower (Kd.S_new' (Kd.S_new' (Kd.S_new' (Kd.S_mono (Kd.S_bound ho0) (fun k_ h_=>(⟨h_.1,(by first|exact h_.2.1|simpa only [World.size_setCell] using h_.2.1)⟩ : _∧w38.heap.size ≤ k_))) (Kd.S_lt (by (with_reducible repeat (first|apply Kd.S_alloc|apply Kd.S_drewN|apply Kd.S_drew));exact HO302.out))) (Kd.R_lt (by (with_reducible repeat (first|apply Kd.R_alloc|apply Kd.R_drewN|apply Kd.R_drew));exact HO309.out))) (Kd.R_lt (by (with_reducible repeat (first|apply Kd.R_alloc|apply Kd.R_drewN|apply Kd.R_drew));exact HO319.out))) (below_size (by repeat (first|(with_reducible first|exact HB.out|apply below_alloc|apply pw_below_drewN|apply below_drew1|refine below_set ?_ GE283.out|refine below_set ?_ GE316.out)|exact HB.out))));have n7_:=Aside0.mk (blk_below (g:=gb283) (o:=.cells #[.slice A0_0 l0_0.length c0_0,.slice A0_1 l0_1.length c0_1,.slice A0_2 l0_2.length c0_2,.slice A0_3 l0_3.length c0_3] 26 (0,0)) (by (with_reducible repeat first|apply blk_drewN|apply blk_drew|apply blk_alloc);exact BK283.out) hb);have n8_:=Aside0.mk (blk_below (g:=gb316) (o:=.cells #[.slice Ao32 t304.length co32,.slice Ao35 t307.length co35,.slice Ao36 t310.length co36,.slice Ao37 t313.length co37] 29 (0,0)) (by (with_reducible repeat first|apply blk_drewN|apply blk_drew|apply blk_alloc);exact BK316.out) hb);have n9_:=Aside0.mk (below_step (by repeat (first|(with_reducible first|exact HB.out|apply below_alloc|apply pw_below_drewN|apply below_drew1|refine below_set ?_ GE283.out|refine below_set ?_ GE316.out)|exact HB.out)) hb);clear HO302;clear HO306;clear HO309;clear HO312;clear HO315;clear HO319;clear BK283;clear BK316;clear HB;have HO302:=n0_;have HO306:=n1_;have HO309:=n2_;have HO312:=n3_;have HO315:=n4_;have HO319:=n5_;have HO322:=n6_;have BK283:=n7_;have BK316:=n8_;have HB:=n9_;clear n0_ n1_ n2_ n3_ n4_ n5_ n6_ n7_ n8_ n9_;(try clear hb);(try clear hb2);(try clear hk);(try clear hi);(try clear ho0)))
   (try simp only [Act.put,List.setIfInBounds_toArray,List.set_cons_zero,List.set_cons_succ])
   go_cut [51] (fun v51 wc=>∃ (kq : Nat) (x51_15 : Bool),v51 = .bool x51_15∧Aside0 (laws_FnExactCloseSpace.j0 kq l1 t300 t303 t317 t320 t323 x51_15 l0_0 l0_1 l0_2 l0_3 t304 t307 t310 t313 = some r)∧Aside0 (kq ≤ k)∧Aside0 (Kd.S k91 91 wc w.heap.size (fun k_=>some k_ ≠ ((.slice Ao40 t317.length co40) : Value).ownBlock∧some k_ ≠ (v321 : Value).ownBlock∧some k_ ≠ ((.slice Ao35 t307.length co35) : Value).ownBlock∧w22.heap.size ≤ k_∧k_ < w28.heap.size∧k_ < w38.heap.size) v301 t300)∧Aside0 (Kd.R (Kd.int .u8) 5 wc w.heap.size (fun k_=>some k_ ≠ ((.slice Ao35 t307.length co35) : Value).ownBlock) (.slice Ao40 t317.length co40) t317)∧Aside0 (Kd.S k91 91 wc w.heap.size (fun k_=>some k_ ≠ (v301 : Value).ownBlock∧some k_ ≠ ((.slice Ao40 t317.length co40) : Value).ownBlock∧some k_ ≠ ((.slice Ao35 t307.length co35) : Value).ownBlock∧w38.heap.size ≤ k_) v321 t320)∧Aside0 (Kd.S (Kd.slice 5 (Kd.int .u8)) 23 wc w.heap.size (fun k_=>some k_ ≠ ((.slice Ao40 t317.length co40) : Value).ownBlock∧some k_ ≠ ((.slice Ao35 t307.length co35) : Value).ownBlock∧w28.heap.size ≤ k_∧k_ < w38.heap.size) (.slice Ao32 t304.length co32) t304)∧Aside0 (Kd.R (Kd.int .u8) 5 wc w.heap.size (fun k_=>some k_ ≠ ((.slice Ao40 t317.length co40) : Value).ownBlock) (.slice Ao35 t307.length co35) t307)∧Aside0 (Kd.R (Kd.int .i64) 3 wc w.heap.size (fun k_=>some k_ ≠ ((.slice Ao37 t313.length co37) : Value).ownBlock) (.slice Ao36 t310.length co36) t310)∧Aside0 (Kd.R (Kd.int .i64) 3 wc w.heap.size (fun k_=>some k_ ≠ ((.slice Ao36 t310.length co36) : Value).ownBlock) (.slice Ao37 t313.length co37) t313)∧Aside0 (wc.heap[gb283]? = some (.cells #[(.slice A0_0 l0_0.length c0_0),(.slice A0_1 l0_1.length c0_1),(.slice A0_2 l0_2.length c0_2),(.slice A0_3 l0_3.length c0_3)] 26 (0,0)))∧Aside0 (wc.heap[gb316]? = some (.cells #[(.slice Ao32 t304.length co32),(.slice Ao35 t307.length co35),(.slice Ao36 t310.length co36),(.slice Ao37 t313.length co37)] 29 (0,0)))∧Aside0 (Below w.heap.size w wc))
   case first =>
    have H:=HC16.out
    clear HC16
    replace H:=Option.bind_eq_some_iff.mp H
    obtain ⟨t324,A420,H⟩:=H
    replace H : (if t324 = true then (laws_FnExactCloseSpace.j0 k l1 t300 t303 t317 t320 t323 (t323 != t303) l0_0 l0_1 l0_2 l0_3 t304 t307 t310 t313) else (laws_FnExactCloseSpace.j0 k l1 t300 t303 t317 t320 t323 true l0_0 l0_1 l0_2 l0_3 t304 t307 t310 t313)) = some r:=H
    have A42:=Aside0.mk A420
    clear A420
    by_cases c43 : t324 = true
    ·subst c43
     have H1 : (laws_FnExactCloseSpace.j0 k l1 t300 t303 t317 t320 t323 (t323 != t303) l0_0 l0_1 l0_2 l0_3 t304 t307 t310 t313) = some r:=by rw [if_pos rfl] at H;exact H
     clear H
     have H:=H1
     clear H1
     have H':=Aside0.mk H
     clear H
     obtain ⟨Ao44,co44,eo44⟩:=Kd.S_slice HO322.out
     subst eo44
     obtain ⟨Ao45,co45,eo45⟩:=Kd.S_slice HO302.out
     subst eo45
     go_wp2_with (first|((with_reducible refine gate_callee (f:=39) rfl ?_);refine goesL_ (some 45) rfl rfl Try.func39 (by kernel_rfl) rfl #[.slice Ao44 t320.length co44,.slice Ao45 t300.length co45] rfl (by (try simp only [List.map_toArray,List.map_cons,List.map_nil]);first|done|rfl|(simp only [List.length_drop,List.length_take];rfl)) ?_;(with_reducible refine (laws_eqWriteS.calls k _ _ t320 _ _ t300 true _ ?side1 ?side2 ?side3 ?side4 A42.out).mono ?_);(case side1=>repeat (first|exact (Kd.S_reads' HO322.out).2.2|(with_reducible first|apply Kd.C_alloc|apply Kd.C_drewN|apply Kd.C_drew)));(case side2=>exact (Kd.S_reads' HO322.out).2.1);(case side3=>repeat (first|exact (Kd.S_reads' HO302.out).2.2|(with_reducible first|apply Kd.C_alloc|apply Kd.C_drewN|apply Kd.C_drew)));(case side4=>exact (Kd.S_reads' HO302.out).2.1);rintro e w46 ⟨rfl,hb⟩;refine ⟨_,rfl,?_⟩;have n0_:=Aside0.mk (Kd.S_below (by (with_reducible repeat (first|apply Kd.S_alloc|apply Kd.S_drewN|apply Kd.S_drew));exact HO302.out) hb);have n1_:=Aside0.mk (Kd.S_below (by (with_reducible repeat (first|apply Kd.S_alloc|apply Kd.S_drewN|apply Kd.S_drew));exact HO306.out) hb);have n2_:=Aside0.mk (Kd.R_below (by (with_reducible repeat (first|apply Kd.R_alloc|apply Kd.R_drewN|apply Kd.R_drew));exact HO309.out) hb);have n3_:=Aside0.mk (Kd.R_below (by (with_reducible repeat (first|apply Kd.R_alloc|apply Kd.R_drewN|apply Kd.R_drew));exact HO312.out) hb);have n4_:=Aside0.mk (Kd.R_below (by (with_reducible repeat (first|apply Kd.R_alloc|apply Kd.R_drewN|apply Kd.R_drew));exact HO315.out) hb);have n5_:=Aside0.mk (Kd.R_below (by (with_reducible repeat (first|apply Kd.R_alloc|apply Kd.R_drewN|apply Kd.R_drew));exact HO319.out) hb);have n6_:=Aside0.mk (Kd.S_below (by (with_reducible repeat (first|apply Kd.S_alloc|apply Kd.S_drewN|apply Kd.S_drew));exact HO322.out) hb);have n7_:=Aside0.mk (blk_below (g:=gb283) (o:=.cells #[.slice A0_0 l0_0.length c0_0,.slice A0_1 l0_1.length c0_1,.slice A0_2 l0_2.length c0_2,.slice A0_3 l0_3.length c0_3] 26 (0,0)) (by (with_reducible repeat first|apply blk_drewN|apply blk_drew|apply blk_alloc);exact BK283.out) hb);have n8_:=Aside0.mk (blk_below (g:=gb316) (o:=.cells #[.slice Ao32 t304.length co32,.slice Ao35 t307.length co35,.slice Ao36 t310.length co36,.slice Ao37 t313.length co37] 29 (0,0)) (by (with_reducible repeat first|apply blk_drewN|apply blk_drew|apply blk_alloc);exact BK316.out) hb);have n9_:=Aside0.mk (below_step (by repeat (first|(with_reducible first|exact HB.out|apply below_alloc|apply pw_below_drewN|apply below_drew1|refine below_set ?_ GE283.out|refine below_set ?_ GE316.out)|exact HB.out)) hb);clear HO302;clear HO306;clear HO309;clear HO312;clear HO315;clear HO319;clear HO322;clear BK283;clear BK316;clear HB;have HO302:=n0_;have HO306:=n1_;have HO309:=n2_;have HO312:=n3_;have HO315:=n4_;have HO319:=n5_;have HO322:=n6_;have BK283:=n7_;have BK316:=n8_;have HB:=n9_;clear n0_ n1_ n2_ n3_ n4_ n5_ n6_ n7_ n8_ n9_;(try clear hb);(try clear hb2);(try clear hk);(try clear hi)))
     go_meet
     case rel=>exact ⟨_,((t323 != t303)),(by first|rfl|(simp;done)|(simp [*];done)),H',⟨by first|omega|exact Nat.le_refl _⟩,⟨by (with_reducible repeat (first|apply Kd.S_alloc|apply Kd.S_drewN|apply Kd.S_drew));exact Kd.S_mono HO302.out (fun _ hk=>⟨hk.1.1.2,⟨hk.1.2,⟨hk.1.1.1.1.2,⟨hk.1.1.1.1.1.1.1.2,⟨hk.1.1.1.2,hk.2⟩⟩⟩⟩⟩)⟩,⟨by (with_reducible repeat (first|apply Kd.R_alloc|apply Kd.R_drewN|apply Kd.R_drew));exact Kd.R_mono HO319.out (fun _ hk=>hk.2)⟩,⟨by (with_reducible repeat (first|apply Kd.S_alloc|apply Kd.S_drewN|apply Kd.S_drew));exact Kd.S_mono HO322.out (fun _ hk=>⟨hk.1.1.2,⟨hk.2,⟨hk.1.2,hk.1.1.1.2⟩⟩⟩)⟩,⟨by (with_reducible repeat (first|apply Kd.S_alloc|apply Kd.S_drewN|apply Kd.S_drew));exact Kd.S_mono HO306.out (fun _ hk=>⟨hk.1.2,⟨hk.1.1.1.1.1.1,⟨hk.1.1.1.1.1.2,hk.2⟩⟩⟩)⟩,⟨by (with_reducible repeat (first|apply Kd.R_alloc|apply Kd.R_drewN|apply Kd.R_drew));exact Kd.R_mono HO309.out (fun _ hk=>hk.2)⟩,⟨by (with_reducible repeat (first|apply Kd.R_alloc|apply Kd.R_drewN|apply Kd.R_drew));exact Kd.R_mono HO312.out (fun _ hk=>hk.1.1)⟩,⟨by (with_reducible repeat (first|apply Kd.R_alloc|apply Kd.R_drewN|apply Kd.R_drew));exact Kd.R_mono HO315.out (fun _ hk=>hk.1.1)⟩,⟨by (with_reducible repeat first|apply blk_drewN|apply blk_drew|apply blk_alloc);exact BK283.out⟩,⟨by (with_reducible repeat first|apply blk_drewN|apply blk_drew|apply blk_alloc);exact BK316.out⟩,⟨by repeat (first|(with_reducible first|exact HB.out|apply below_alloc|apply pw_below_drewN|apply below_drew1|refine below_set ?_ GE283.out|refine below_set ?_ GE316.out)|exact HB.out)⟩⟩
    ·replace c43:=Bool.eq_false_iff.mpr c43
     subst c43
     have H1 : (laws_FnExactCloseSpace.j0 k l1 t300 t303 t317 t320 t323 true l0_0 l0_1 l0_2 l0_3 t304 t307 t310 t313) = some r:=by rw [if_neg (show ¬ (false = true) by decide)] at H;exact H
     clear H
     have H:=H1
     clear H1
     have H':=Aside0.mk H
     clear H
     obtain ⟨Ao47,co47,eo47⟩:=Kd.S_slice HO322.out
     subst eo47
     obtain ⟨Ao48,co48,eo48⟩:=Kd.S_slice HO302.out
     subst eo48
     go_wp2_with (first|((with_reducible refine gate_callee (f:=39) rfl ?_);refine goesL_ (some 45) rfl rfl Try.func39 (by kernel_rfl) rfl #[.slice Ao47 t320.length co47,.slice Ao48 t300.length co48] rfl (by (try simp only [List.map_toArray,List.map_cons,List.map_nil]);first|done|rfl|(simp only [List.length_drop,List.length_take];rfl)) ?_;(with_reducible refine (laws_eqWriteS.calls k _ _ t320 _ _ t300 false _ ?side1 ?side2 ?side3 ?side4 A42.out).mono ?_);(case side1=>repeat (first|exact (Kd.S_reads' HO322.out).2.2|(with_reducible first|apply Kd.C_alloc|apply Kd.C_drewN|apply Kd.C_drew)));(case side2=>exact (Kd.S_reads' HO322.out).2.1);(case side3=>repeat (first|exact (Kd.S_reads' HO302.out).2.2|(with_reducible first|apply Kd.C_alloc|apply Kd.C_drewN|apply Kd.C_drew)));(case side4=>exact (Kd.S_reads' HO302.out).2.1);rintro e w49 ⟨rfl,hb⟩;refine ⟨_,rfl,?_⟩;have n0_:=Aside0.mk (Kd.S_below (by (with_reducible repeat (first|apply Kd.S_alloc|apply Kd.S_drewN|apply Kd.S_drew));exact HO302.out) hb);have n1_:=Aside0.mk (Kd.S_below (by (with_reducible repeat (first|apply Kd.S_alloc|apply Kd.S_drewN|apply Kd.S_drew));exact HO306.out) hb);have n2_:=Aside0.mk (Kd.R_below (by (with_reducible repeat (first|apply Kd.R_alloc|apply Kd.R_drewN|apply Kd.R_drew));exact HO309.out) hb);have n3_:=Aside0.mk (Kd.R_below (by (with_reducible repeat (first|apply Kd.R_alloc|apply Kd.R_drewN|apply Kd.R_drew));exact HO312.out) hb);have n4_:=Aside0.mk (Kd.R_below (by (with_reducible repeat (first|apply Kd.R_alloc|apply Kd.R_drewN|apply Kd.R_drew));exact HO315.out) hb);have n5_:=Aside0.mk (Kd.R_below (by (with_reducible repeat (first|apply Kd.R_alloc|apply Kd.R_drewN|apply Kd.R_drew));exact HO319.out) hb);have n6_:=Aside0.mk (Kd.S_below (by (with_reducible repeat (first|apply Kd.S_alloc|apply Kd.S_drewN|apply Kd.S_drew));exact HO322.out) hb);have n7_:=Aside0.mk (blk_below (g:=gb283) (o:=.cells #[.slice A0_0 l0_0.length c0_0,.slice A0_1 l0_1.length c0_1,.slice A0_2 l0_2.length c0_2,.slice A0_3 l0_3.length c0_3] 26 (0,0)) (by (with_reducible repeat first|apply blk_drewN|apply blk_drew|apply blk_alloc);exact BK283.out) hb);have n8_:=Aside0.mk (blk_below (g:=gb316) (o:=.cells #[.slice Ao32 t304.length co32,.slice Ao35 t307.length co35,.slice Ao36 t310.length co36,.slice Ao37 t313.length co37] 29 (0,0)) (by (with_reducible repeat first|apply blk_drewN|apply blk_drew|apply blk_alloc);exact BK316.out) hb);have n9_:=Aside0.mk (below_step (by repeat (first|(with_reducible first|exact HB.out|apply below_alloc|apply pw_below_drewN|apply below_drew1|refine below_set ?_ GE283.out|refine below_set ?_ GE316.out)|exact HB.out)) hb);clear HO302;clear HO306;clear HO309;clear HO312;clear HO315;clear HO319;clear HO322;clear BK283;clear BK316;clear HB;have HO302:=n0_;have HO306:=n1_;have HO309:=n2_;have HO312:=n3_;have HO315:=n4_;have HO319:=n5_;have HO322:=n6_;have BK283:=n7_;have BK316:=n8_;have HB:=n9_;clear n0_ n1_ n2_ n3_ n4_ n5_ n6_ n7_ n8_ n9_;(try clear hb);(try clear hb2);(try clear hk);(try clear hi)))
     go_meet
     case rel=>exact ⟨_,(true),(by first|rfl|(simp;done)|(simp [*];done)),H',⟨by first|omega|exact Nat.le_refl _⟩,⟨by (with_reducible repeat (first|apply Kd.S_alloc|apply Kd.S_drewN|apply Kd.S_drew));exact Kd.S_mono HO302.out (fun _ hk=>⟨hk.1.1.2,⟨hk.1.2,⟨hk.1.1.1.1.2,⟨hk.1.1.1.1.1.1.1.2,⟨hk.1.1.1.2,hk.2⟩⟩⟩⟩⟩)⟩,⟨by (with_reducible repeat (first|apply Kd.R_alloc|apply Kd.R_drewN|apply Kd.R_drew));exact Kd.R_mono HO319.out (fun _ hk=>hk.2)⟩,⟨by (with_reducible repeat (first|apply Kd.S_alloc|apply Kd.S_drewN|apply Kd.S_drew));exact Kd.S_mono HO322.out (fun _ hk=>⟨hk.1.1.2,⟨hk.2,⟨hk.1.2,hk.1.1.1.2⟩⟩⟩)⟩,⟨by (with_reducible repeat (first|apply Kd.S_alloc|apply Kd.S_drewN|apply Kd.S_drew));exact Kd.S_mono HO306.out (fun _ hk=>⟨hk.1.2,⟨hk.1.1.1.1.1.1,⟨hk.1.1.1.1.1.2,hk.2⟩⟩⟩)⟩,⟨by (with_reducible repeat (first|apply Kd.R_alloc|apply Kd.R_drewN|apply Kd.R_drew));exact Kd.R_mono HO309.out (fun _ hk=>hk.2)⟩,⟨by (with_reducible repeat (first|apply Kd.R_alloc|apply Kd.R_drewN|apply Kd.R_drew));exact Kd.R_mono HO312.out (fun _ hk=>hk.1.1)⟩,⟨by (with_reducible repeat (first|apply Kd.R_alloc|apply Kd.R_drewN|apply Kd.R_drew));exact Kd.R_mono HO315.out (fun _ hk=>hk.1.1)⟩,⟨by (with_reducible repeat first|apply blk_drewN|apply blk_drew|apply blk_alloc);exact BK283.out⟩,⟨by (with_reducible repeat first|apply blk_drewN|apply blk_drew|apply blk_alloc);exact BK316.out⟩,⟨by repeat (first|(with_reducible first|exact HB.out|apply below_alloc|apply pw_below_drewN|apply below_drew1|refine below_set ?_ GE283.out|refine below_set ?_ GE316.out)|exact HB.out)⟩⟩
   case rest =>
    clear HC16
    try clear c1;try clear p2;try clear c3;try clear c3b0;try clear c3b1;try clear c4;try clear c6;try clear c6b0;try clear c9;try clear c10;try clear c12;try clear c31;try clear c33;try clear c37;try clear c38;try clear c39;try clear c43;try clear hcz18_0;try clear hcz18_1;try clear hcz18_2;try clear hcz18_3;try clear hcz20_0;try clear hcz20_1;try clear hcz20_2;try clear hcz20_3;try clear hcz29_0;try clear hcz29_1;try clear hcz29_2;try clear hcz29_3;try clear hcz34_0;try clear hcz34_1;try clear hcz34_2;try clear hcz34_3;try clear hcz39_0;try clear hcz39_1;try clear hcz39_2;try clear hcz39_3;try clear hcz8_0;try clear hcz8_1;try clear hcz8_2;try clear hcz8_3;try clear hfz18_0;try clear hfz18_1;try clear hfz18_2;try clear hfz18_3;try clear hfz20_0;try clear hfz20_1;try clear hfz20_2;try clear hfz20_3;try clear hfz29_0;try clear hfz29_1;try clear hfz29_2;try clear hfz29_3;try clear hfz34_0;try clear hfz34_1;try clear hfz34_2;try clear hfz34_3;try clear hfz39_0;try clear hfz39_1;try clear hfz39_2;try clear hfz39_3;try clear hfz8_0;try clear hfz8_1;try clear hfz8_2;try clear hfz8_3
    obtain ⟨kq,x51_15,rfl,HA,HJ15,HO_6,HO_9,HO_10,HO_317000,HO_317001,HO_317002,HO_317003,BK283,BK316,HB⟩:=hcut
    cases kq with
    | zero=>exact absurd HA.out (by simp [laws_FnExactCloseSpace.j0])
    | succ kj15 =>
     have H:=HA.out
     clear HA
     simp only [laws_FnExactCloseSpace.j0] at H
     by_cases c50 : x51_15 = true
     ·subst c50
      have H1 : (some false) = some r:=by rw [if_pos rfl] at H;exact H
      clear H
      have H:=H1
      clear H1
      obtain rfl:=Option.some.inj H
      go_wp2
      go_ret
      exact ⟨by first|rfl|(simp [*,errW_none,errW_some] <;> rfl),by repeat (first|(with_reducible first|exact HB.out|apply below_alloc|apply pw_below_drewN|apply below_drew1|refine below_set ?_ GE283.out|refine below_set ?_ GE316.out)|exact HB.out)⟩
     ·replace c50:=Bool.eq_false_iff.mpr c50
      subst c50
      have H1 : ((laws_toSpace.f kj15 l0_0 l0_1 l0_2 l0_3).bind fun bt325=>((laws_eqSpace.f kj15 t304 t307 t310 t313 bt325.1 bt325.2.1 bt325.2.2.1 bt325.2.2.2).bind fun t337=>(if t337 = true then ((laws_toByteS.f kj15 l1).bind fun t338=>((laws_eqByteS.f kj15 t317 t338).bind fun t341=>(if t341 = true then ((laws_markSpace.f kj15 t304 t307 t310 t313 1).bind fun bt342=>((laws_markByteS.f kj15 t317 bt342.1).bind fun bt347=>(if bt347.1 < 0 then (laws_FnExactCloseSpace.j1 kj15 l1 t300 t303 t320 true l0_0 l0_1 l0_2 l0_3) else ((laws_eqWriteS.f kj15 t320 t300).bind fun t349=>(if t349 = true then (laws_FnExactCloseSpace.j1 kj15 l1 t300 t303 t320 (t323 != t303) l0_0 l0_1 l0_2 l0_3) else (laws_FnExactCloseSpace.j1 kj15 l1 t300 t303 t320 true l0_0 l0_1 l0_2 l0_3)))))) else (some false)))) else (some false)))) = some r:=by rw [if_neg (show ¬ (false = true) by decide)] at H;exact H
      clear H
      have H:=H1
      clear H1
      replace H:=Option.bind_eq_some_iff.mp H
      obtain ⟨⟨t325,t328,t331,t334⟩,A510,H⟩:=H
      replace H : ((laws_eqSpace.f kj15 t304 t307 t310 t313 t325 t328 t331 t334).bind fun t337=>(if t337 = true then ((laws_toByteS.f kj15 l1).bind fun t338=>((laws_eqByteS.f kj15 t317 t338).bind fun t341=>(if t341 = true then ((laws_markSpace.f kj15 t304 t307 t310 t313 1).bind fun bt342=>((laws_markByteS.f kj15 t317 bt342.1).bind fun bt347=>(if bt347.1 < 0 then (laws_FnExactCloseSpace.j1 kj15 l1 t300 t303 t320 true l0_0 l0_1 l0_2 l0_3) else ((laws_eqWriteS.f kj15 t320 t300).bind fun t349=>(if t349 = true then (laws_FnExactCloseSpace.j1 kj15 l1 t300 t303 t320 (t323 != t303) l0_0 l0_1 l0_2 l0_3) else (laws_FnExactCloseSpace.j1 kj15 l1 t300 t303 t320 true l0_0 l0_1 l0_2 l0_3)))))) else (some false)))) else (some false))) = some r:=H
      have A51:=Aside0.mk A510
      clear A510
      replace H:=Option.bind_eq_some_iff.mp H
      obtain ⟨t337,A520,H⟩:=H
      replace H : (if t337 = true then ((laws_toByteS.f kj15 l1).bind fun t338=>((laws_eqByteS.f kj15 t317 t338).bind fun t341=>(if t341 = true then ((laws_markSpace.f kj15 t304 t307 t310 t313 1).bind fun bt342=>((laws_markByteS.f kj15 t317 bt342.1).bind fun bt347=>(if bt347.1 < 0 then (laws_FnExactCloseSpace.j1 kj15 l1 t300 t303 t320 true l0_0 l0_1 l0_2 l0_3) else ((laws_eqWriteS.f kj15 t320 t300).bind fun t349=>(if t349 = true then (laws_FnExactCloseSpace.j1 kj15 l1 t300 t303 t320 (t323 != t303) l0_0 l0_1 l0_2 l0_3) else (laws_FnExactCloseSpace.j1 kj15 l1 t300 t303 t320 true l0_0 l0_1 l0_2 l0_3)))))) else (some false)))) else (some false)) = some r:=H
      have A52:=Aside0.mk A520
      clear A520
      by_cases c53 : t337 = true
      ·subst c53
       have H1 : ((laws_toByteS.f kj15 l1).bind fun t338=>((laws_eqByteS.f kj15 t317 t338).bind fun t341=>(if t341 = true then ((laws_markSpace.f kj15 t304 t307 t310 t313 1).bind fun bt342=>((laws_markByteS.f kj15 t317 bt342.1).bind fun bt347=>(if bt347.1 < 0 then (laws_FnExactCloseSpace.j1 kj15 l1 t300 t303 t320 true l0_0 l0_1 l0_2 l0_3) else ((laws_eqWriteS.f kj15 t320 t300).bind fun t349=>(if t349 = true then (laws_FnExactCloseSpace.j1 kj15 l1 t300 t303 t320 (t323 != t303) l0_0 l0_1 l0_2 l0_3) else (laws_FnExactCloseSpace.j1 kj15 l1 t300 t303 t320 true l0_0 l0_1 l0_2 l0_3)))))) else (some false)))) = some r:=by rw [if_pos rfl] at H;exact H
       clear H
       have H:=H1
       clear H1
       replace H:=Option.bind_eq_some_iff.mp H
       obtain ⟨t338,A540,H⟩:=H
       replace H : ((laws_eqByteS.f kj15 t317 t338).bind fun t341=>(if t341 = true then ((laws_markSpace.f kj15 t304 t307 t310 t313 1).bind fun bt342=>((laws_markByteS.f kj15 t317 bt342.1).bind fun bt347=>(if bt347.1 < 0 then (laws_FnExactCloseSpace.j1 kj15 l1 t300 t303 t320 true l0_0 l0_1 l0_2 l0_3) else ((laws_eqWriteS.f kj15 t320 t300).bind fun t349=>(if t349 = true then (laws_FnExactCloseSpace.j1 kj15 l1 t300 t303 t320 (t323 != t303) l0_0 l0_1 l0_2 l0_3) else (laws_FnExactCloseSpace.j1 kj15 l1 t300 t303 t320 true l0_0 l0_1 l0_2 l0_3)))))) else (some false))) = some r:=H
       have A54:=Aside0.mk A540
       clear A540
       replace H:=Option.bind_eq_some_iff.mp H
       obtain ⟨t341,A550,H⟩:=H
       replace H : (if t341 = true then ((laws_markSpace.f kj15 t304 t307 t310 t313 1).bind fun bt342=>((laws_markByteS.f kj15 t317 bt342.1).bind fun bt347=>(if bt347.1 < 0 then (laws_FnExactCloseSpace.j1 kj15 l1 t300 t303 t320 true l0_0 l0_1 l0_2 l0_3) else ((laws_eqWriteS.f kj15 t320 t300).bind fun t349=>(if t349 = true then (laws_FnExactCloseSpace.j1 kj15 l1 t300 t303 t320 (t323 != t303) l0_0 l0_1 l0_2 l0_3) else (laws_FnExactCloseSpace.j1 kj15 l1 t300 t303 t320 true l0_0 l0_1 l0_2 l0_3)))))) else (some false)) = some r:=H
       have A55:=Aside0.mk A550
       clear A550
       by_cases c56 : t341 = true
       ·subst c56
        have H1 : ((laws_markSpace.f kj15 t304 t307 t310 t313 1).bind fun bt342=>((laws_markByteS.f kj15 t317 bt342.1).bind fun bt347=>(if bt347.1 < 0 then (laws_FnExactCloseSpace.j1 kj15 l1 t300 t303 t320 true l0_0 l0_1 l0_2 l0_3) else ((laws_eqWriteS.f kj15 t320 t300).bind fun t349=>(if t349 = true then (laws_FnExactCloseSpace.j1 kj15 l1 t300 t303 t320 (t323 != t303) l0_0 l0_1 l0_2 l0_3) else (laws_FnExactCloseSpace.j1 kj15 l1 t300 t303 t320 true l0_0 l0_1 l0_2 l0_3)))))) = some r:=by rw [if_pos rfl] at H;exact H
        clear H
        have H:=H1
        clear H1
        replace H:=Option.bind_eq_some_iff.mp H
        obtain ⟨⟨t342,t343,t344,t345,t346⟩,A570,H⟩:=H
        replace H : ((laws_markByteS.f kj15 t317 t342).bind fun bt347=>(if bt347.1 < 0 then (laws_FnExactCloseSpace.j1 kj15 l1 t300 t303 t320 true l0_0 l0_1 l0_2 l0_3) else ((laws_eqWriteS.f kj15 t320 t300).bind fun t349=>(if t349 = true then (laws_FnExactCloseSpace.j1 kj15 l1 t300 t303 t320 (t323 != t303) l0_0 l0_1 l0_2 l0_3) else (laws_FnExactCloseSpace.j1 kj15 l1 t300 t303 t320 true l0_0 l0_1 l0_2 l0_3))))) = some r:=H
        have A57:=Aside0.mk A570
        clear A570
        replace H:=Option.bind_eq_some_iff.mp H
        obtain ⟨⟨t347,t348⟩,A580,H⟩:=H
        replace H : (if t347 < 0 then (laws_FnExactCloseSpace.j1 kj15 l1 t300 t303 t320 true l0_0 l0_1 l0_2 l0_3) else ((laws_eqWriteS.f kj15 t320 t300).bind fun t349=>(if t349 = true then (laws_FnExactCloseSpace.j1 kj15 l1 t300 t303 t320 (t323 != t303) l0_0 l0_1 l0_2 l0_3) else (laws_FnExactCloseSpace.j1 kj15 l1 t300 t303 t320 true l0_0 l0_1 l0_2 l0_3)))) = some r:=H
        have A58:=Aside0.mk A580
        clear A580
        have HC59:=Aside0.mk H
        clear H
        try go_wp2
        have n0_:=Aside0.mk (Kd.S_drew HO_6.out)
        have n1_:=Aside0.mk (Kd.R_drew HO_9.out)
        have n2_:=Aside0.mk (Kd.S_drew HO_10.out)
        have n3_:=Aside0.mk (Kd.S_drew HO_317000.out)
        have n4_:=Aside0.mk (Kd.R_drew HO_317001.out)
        have n5_:=Aside0.mk (Kd.R_drew HO_317002.out)
        have n6_:=Aside0.mk (Kd.R_drew HO_317003.out)
        have n7_:=Aside0.mk (blk_drew BK283.out)
        have n8_:=Aside0.mk (blk_drew BK316.out)
        have n9_:=Aside0.mk (below_drew1 HB.out)
        clear HO_6
        clear HO_9
        clear HO_10
        clear HO_317000
        clear HO_317001
        clear HO_317002
        clear HO_317003
        clear BK283
        clear BK316
        clear HB
        have HO_6:=n0_
        have HO_9:=n1_
        have HO_10:=n2_
        have HO_317000:=n3_
        have HO_317001:=n4_
        have HO_317002:=n5_
        have HO_317003:=n6_
        have BK283:=n7_
        have BK316:=n8_
        have HB:=n9_
        clear n0_ n1_ n2_ n3_ n4_ n5_ n6_ n7_ n8_ n9_
        refine start_ (n:=5) (S:=fun w'=>w'.cell? ⟨gb316,0,none⟩ = some (.slice Ao32 t304.length co32)∧w'.cell? ⟨gb316,1,none⟩ = some (.slice Ao35 t307.length co35)∧w'.cell? ⟨gb316,2,none⟩ = some (.slice Ao36 t310.length co36)∧w'.cell? ⟨gb316,3,none⟩ = some (.slice Ao37 t313.length co37)∧w'.cell? ⟨gb283,0,none⟩ = some (.slice A0_0 l0_0.length c0_0)∧w'.cell? ⟨gb283,1,none⟩ = some (.slice A0_1 l0_1.length c0_1)∧w'.cell? ⟨gb283,2,none⟩ = some (.slice A0_2 l0_2.length c0_2)∧w'.cell? ⟨gb283,3,none⟩ = some (.slice A0_3 l0_3.length c0_3)) (ds:=[]) #[false,false,false,false,false] (by kernel_rfl) rfl rfl ⟨(blk_cell BK316.out 0).trans rfl,(blk_cell BK316.out 1).trans rfl,(blk_cell BK316.out 2).trans rfl,(blk_cell BK316.out 3).trans rfl,(blk_cell BK283.out 0).trans rfl,(blk_cell BK283.out 1).trans rfl,(blk_cell BK283.out 2).trans rfl,(blk_cell BK283.out 3).trans rfl⟩ (fun hHeld=>?_)
        generalize wc.drew = w60 at HO_6 HO_9 HO_10 HO_317000 HO_317001 HO_317002 HO_317003 BK283 BK316 HB hHeld ⊢
        refine take_ (i:=0) (N:=some 52) (v:=?_) (a':=?_) #[true,false,false,false,false] rfl rfl (by kernel_rfl) (fun _ _ _ h=>h) (Or.inl ⟨by rfl,?_⟩) hHeld ?_ ?_
        rotate_left
        ·rintro w' ⟨s0,s1,s2,s3,s4,s5,s6,s7⟩
         go_simp
         with_reducible rfl
        rotate_left
        ·simp only [Act.put,List.setIfInBounds_toArray,List.set_cons_zero,List.set_cons_succ,i64_w,i32_w]
         rfl
        refine take_ (i:=1) (N:=some 53) (v:=?_) (a':=?_) #[true,true,false,false,false] rfl rfl (by kernel_rfl) (fun _ _ _ h=>h) (Or.inl ⟨by rfl,?_⟩) hHeld ?_ ?_
        rotate_left
        ·rintro w' ⟨s0,s1,s2,s3,s4,s5,s6,s7⟩
         go_simp
         with_reducible rfl
        rotate_left
        ·simp only [Act.put,List.setIfInBounds_toArray,List.set_cons_zero,List.set_cons_succ,i64_w,i32_w]
         rfl
        refine one_ (i:=2) (N:=some 54) #[true,true,true,false,false] rfl rfl (by kernel_rfl) (by decide) (fun K hK=>?_)
        refine goes_ Try.func12 (by kernel_rfl) rfl #[.agg #[.slice A0_0 l0_0.length c0_0,.slice A0_1 l0_1.length c0_1,.slice A0_2 l0_2.length c0_2,.slice A0_3 l0_3.length c0_3]] (by rfl) rfl rfl (by (try simp only [List.map_toArray,List.map_cons,List.map_nil]);first|done|rfl|(simp only [List.length_drop,List.length_take];rfl)) ?_
        with_reducible refine (laws_toSpace.calls kj15 _ _ l0_0 _ _ l0_1 _ _ l0_2 _ _ l0_3 t325 t328 t331 t334 _ ?side1 ?side2 ?side3 ?side4 ?side5 ?side6 ?side7 ?side8 A51.out).mono ?_
        (case side1=>repeat (first|exact (Kd.C_below HR0_0.out HB.out)|(with_reducible first|apply Kd.C_alloc|apply Kd.C_drewN|apply Kd.C_drew)))
        (case side2=>exact HC0_0.out)
        (case side3=>repeat (first|exact (Kd.C_below HR0_1.out HB.out)|(with_reducible first|apply Kd.C_alloc|apply Kd.C_drewN|apply Kd.C_drew)))
        (case side4=>exact HC0_1.out)
        (case side5=>repeat (first|exact (Kd.C_below HR0_2.out HB.out)|(with_reducible first|apply Kd.C_alloc|apply Kd.C_drewN|apply Kd.C_drew)))
        (case side6=>exact HC0_2.out)
        (case side7=>repeat (first|exact (Kd.C_below HR0_3.out HB.out)|(with_reducible first|apply Kd.C_alloc|apply Kd.C_drewN|apply Kd.C_drew)))
        (case side8=>exact HC0_3.out)
        rintro e w61 ⟨v326,v329,v332,v335,rfl,ho0,ho1,ho2,ho3,hb⟩
        refine ⟨_,rfl,?_⟩
        have n0_:=Aside0.mk (Kd.S_told (Kd.S_old (by (with_reducible repeat (first|apply Kd.S_alloc|apply Kd.S_drewN|apply Kd.S_drew));exact HO_6.out) hb) (Kd.R_base ho1))
        have n1_:=Aside0.mk (Kd.R_elder' (by (with_reducible repeat (first|apply Kd.R_alloc|apply Kd.R_drewN|apply Kd.R_drew));exact HO_9.out) (Kd.R_base ho1) hb)
        have n2_:=Aside0.mk (Kd.S_told (Kd.S_old (by (with_reducible repeat (first|apply Kd.S_alloc|apply Kd.S_drewN|apply Kd.S_drew));exact HO_10.out) hb) (Kd.R_base ho1))
        have n3_:=Aside0.mk (Kd.S_told (Kd.S_told (Kd.S_old (by (with_reducible repeat (first|apply Kd.S_alloc|apply Kd.S_drewN|apply Kd.S_drew));exact HO_317000.out) hb) (Kd.S_base ho0)) (Kd.R_base ho1))
        have n4_:=Aside0.mk (Kd.R_elder' (by (with_reducible repeat (first|apply Kd.R_alloc|apply Kd.R_drewN|apply Kd.R_drew));exact HO_317001.out) (Kd.R_base ho1) hb)
        have n5_:=Aside0.mk (Kd.R_mono (Kd.R_told (Kd.R_told (Kd.R_old (by (with_reducible repeat (first|apply Kd.R_alloc|apply Kd.R_drewN|apply Kd.R_drew));exact HO_317002.out) hb) (Kd.R_base ho2)) (Kd.R_base ho3)) (fun _ h_=>h_.1))
        have n6_:=Aside0.mk (Kd.R_mono (Kd.R_told (Kd.R_told (Kd.R_old (by (with_reducible repeat (first|apply Kd.R_alloc|apply Kd.R_drewN|apply Kd.R_drew));exact HO_317003.out) hb) (Kd.R_base ho2)) (Kd.R_base ho3)) (fun _ h_=>h_.1))
        have n7_:=Aside0.mk (Kd.S_lower (Kd.S_new' (Kd.S_new' (Kd.S_new' (Kd.S_mono (Kd.S_bound ho0) (fun k_ h_=>(⟨h_.1,(by first|exact h_.2.1|simpa only [World.size_setCell] using h_.2.1)⟩ : _∧w60.heap.size ≤ k_))) (Kd.R_lt (by (with_reducible repeat (first|apply Kd.R_alloc|apply Kd.R_drewN|apply Kd.R_drew));exact HO_9.out))) (Kd.S_lt (by (with_reducible repeat (first|apply Kd.S_alloc|apply Kd.S_drewN|apply Kd.S_drew));exact HO_317000.out))) (Kd.R_lt (by (with_reducible repeat (first|apply Kd.R_alloc|apply Kd.R_drewN|apply Kd.R_drew));exact HO_317001.out))) (below_size (by repeat (first|(with_reducible first|exact HB.out|apply below_alloc|apply pw_below_drewN|apply below_drew1|refine below_set ?_ GE283.out|refine below_set ?_ GE316.out)|exact HB.out))))
        have n8_:=Aside0.mk (Kd.R_lower (Kd.R_new' (Kd.R_new' ho1 (Kd.R_lt (by (with_reducible repeat (first|apply Kd.R_alloc|apply Kd.R_drewN|apply Kd.R_drew));exact HO_9.out))) (Kd.R_lt (by (with_reducible repeat (first|apply Kd.R_alloc|apply Kd.R_drewN|apply Kd.R_drew));exact HO_317001.out))) (below_size (by repeat (first|(with_reducible first|exact HB.out|apply below_alloc|apply pw_below_drewN|apply below_drew1|refine below_set ?_ GE283.out|refine below_set ?_ GE316.out)|exact HB.out))))
        have n9_:=Aside0.mk (Kd.R_lower (Kd.R_new' (Kd.R_new' ho2 (Kd.R_lt (by (with_reducible repeat (first|apply Kd.R_alloc|apply Kd.R_drewN|apply Kd.R_drew));exact HO_317002.out))) (Kd.R_lt (by (with_reducible repeat (first|apply Kd.R_alloc|apply Kd.R_drewN|apply Kd.R_drew));exact HO_317003.out))) (below_size (by repeat (first|(with_reducible first|exact HB.out|apply below_alloc|apply pw_below_drewN|apply below_drew1|refine below_set ?_ GE283.out|refine below_set ?_ GE316.out)|exact HB.out))))
        have n10_:=Aside0.mk (Kd.R_lower (Kd.R_new' (Kd.R_new' ho3 (Kd.R_lt (by (with_reducible repeat (first|apply Kd.R_alloc|apply Kd.R_drewN|apply Kd.R_drew));exact HO_317002.out))) (Kd.R_lt (by (with_reducible repeat (first|apply Kd.R_alloc|apply Kd.R_drewN|apply Kd.R_drew));exact HO_317003.out))) (below_size (by repeat (first|(with_reducible first|exact HB.out|apply below_alloc|apply pw_below_drewN|apply below_drew1|refine below_set ?_ GE283.out|refine below_set ?_ GE316.out)|exact HB.out))))
        have n11_:=Aside0.mk (blk_below (g:=gb283) (o:=.cells #[.slice A0_0 l0_0.length c0_0,.slice A0_1 l0_1.length c0_1,.slice A0_2 l0_2.length c0_2,.slice A0_3 l0_3.length c0_3] 26 (0,0)) (by (with_reducible repeat first|apply blk_drewN|apply blk_drew|apply blk_alloc);exact BK283.out) hb)
        have n12_:=Aside0.mk (blk_below (g:=gb316) (o:=.cells #[.slice Ao32 t304.length co32,.slice Ao35 t307.length co35,.slice Ao36 t310.length co36,.slice Ao37 t313.length co37] 29 (0,0)) (by (with_reducible repeat first|apply blk_drewN|apply blk_drew|apply blk_alloc);exact BK316.out) hb)
        have n13_:=Aside0.mk (below_step (by repeat (first|(with_reducible first|exact HB.out|apply below_alloc|apply pw_below_drewN|apply below_drew1|refine below_set ?_ GE283.out|refine below_set ?_ GE316.out)|exact HB.out)) hb)
        clear HO_6
        clear HO_9
        clear HO_10
        clear HO_317000
        clear HO_317001
        clear HO_317002
        clear HO_317003
        clear BK283
        clear BK316
        clear HB
        have HO_6:=n0_
        have HO_9:=n1_
        have HO_10:=n2_
        have HO_317000:=n3_
        have HO_317001:=n4_
        have HO_317002:=n5_
        have HO_317003:=n6_
        have HO327:=n7_
        have HO330:=n8_
        have HO333:=n9_
        have HO336:=n10_
        have BK283:=n11_
        have BK316:=n12_
        have HB:=n13_
        clear n0_ n1_ n2_ n3_ n4_ n5_ n6_ n7_ n8_ n9_ n10_ n11_ n12_ n13_
        (try clear hb)
        (try clear hb2)
        (try clear hk)
        (try clear hi)
        (try clear ho0)
        (try clear ho1)
        (try clear ho2)
        (try clear ho3)
        obtain ⟨Ao62,co62,eo62⟩:=Kd.S_slice HO327.out
        (first|subst eo62|(injection eo62 with f1_ f2_ f3_;have f4_:=f1_.symm;have f5_:=f3_.symm;clear f1_ f2_ f3_;subst f4_;subst f5_))
        obtain ⟨Ao63,co63,eo63⟩:=Kd.R_slice HO330.out
        (first|subst eo63|(injection eo63 with f1_ f2_ f3_;have f4_:=f1_.symm;have f5_:=f3_.symm;clear f1_ f2_ f3_;subst f4_;subst f5_))
        obtain ⟨Ao64,co64,eo64⟩:=Kd.R_slice HO333.out
        (first|subst eo64|(injection eo64 with f1_ f2_ f3_;have f4_:=f1_.symm;have f5_:=f3_.symm;clear f1_ f2_ f3_;subst f4_;subst f5_))
        obtain ⟨Ao65,co65,eo65⟩:=Kd.R_slice HO336.out
        (first|subst eo65|(injection eo65 with f1_ f2_ f3_;have f4_:=f1_.symm;have f5_:=f3_.symm;clear f1_ f2_ f3_;subst f4_;subst f5_))
        refine hK.out _ _ ⟨(blk_cell BK316.out 0).trans rfl,(blk_cell BK316.out 1).trans rfl,(blk_cell BK316.out 2).trans rfl,(blk_cell BK316.out 3).trans rfl,(blk_cell BK283.out 0).trans rfl,(blk_cell BK283.out 1).trans rfl,(blk_cell BK283.out 2).trans rfl,(blk_cell BK283.out 3).trans rfl⟩ (fun hHeld=>?_)
        clear hK K
        refine norm_ (a':=?_) ?_ ?_
        rotate_left
        ·show Act.put _ (some 54) _ = _
         simp only [Act.put,List.setIfInBounds_toArray,List.set_cons_zero,List.set_cons_succ,i64_w,i32_w]
         rfl
        refine one_ (i:=3) (N:=some 55) #[true,true,true,true,false] rfl rfl (by kernel_rfl) (by decide) (fun K hK=>?_)
        refine goes_ Try.func14 (by kernel_rfl) rfl #[.agg #[.slice Ao32 t304.length co32,.slice Ao35 t307.length co35,.slice Ao36 t310.length co36,.slice Ao37 t313.length co37],.agg #[.slice Ao62 t325.length co62,.slice Ao63 t328.length co63,.slice Ao64 t331.length co64,.slice Ao65 t334.length co65]] (by rfl) rfl rfl (by (try simp only [List.map_toArray,List.map_cons,List.map_nil]);first|done|rfl|(simp only [List.length_drop,List.length_take];rfl)) ?_
        with_reducible refine (laws_eqSpace.calls kj15 _ _ t304 _ _ t307 _ _ t310 _ _ t313 _ _ t325 _ _ t328 _ _ t331 _ _ t334 true _ ?side1 ?side2 ?side3 ?side4 ?side5 ?side6 ?side7 ?side8 ?side9 ?side10 ?side11 ?side12 ?side13 ?side14 ?side15 ?side16 A52.out).mono ?_
        (case side1=>repeat (first|exact (Kd.S_reads' HO_317000.out).2.2|(with_reducible first|apply Kd.C_alloc|apply Kd.C_drewN|apply Kd.C_drew)))
        (case side2=>exact (Kd.S_reads' HO_317000.out).2.1)
        (case side3=>repeat (first|exact (Kd.R_reads' HO_317001.out).2.2|(with_reducible first|apply Kd.C_alloc|apply Kd.C_drewN|apply Kd.C_drew)))
        (case side4=>exact (Kd.R_reads' HO_317001.out).2.1)
        (case side5=>repeat (first|exact (Kd.R_reads' HO_317002.out).2.2|(with_reducible first|apply Kd.C_alloc|apply Kd.C_drewN|apply Kd.C_drew)))
        (case side6=>exact (Kd.R_reads' HO_317002.out).2.1)
        (case side7=>repeat (first|exact (Kd.R_reads' HO_317003.out).2.2|(with_reducible first|apply Kd.C_alloc|apply Kd.C_drewN|apply Kd.C_drew)))
        (case side8=>exact (Kd.R_reads' HO_317003.out).2.1)
        (case side9=>repeat (first|exact (Kd.S_reads' HO327.out).2.2|(with_reducible first|apply Kd.C_alloc|apply Kd.C_drewN|apply Kd.C_drew)))
        (case side10=>exact (Kd.S_reads' HO327.out).2.1)
        (case side11=>repeat (first|exact (Kd.R_reads' HO330.out).2.2|(with_reducible first|apply Kd.C_alloc|apply Kd.C_drewN|apply Kd.C_drew)))
        (case side12=>exact (Kd.R_reads' HO330.out).2.1)
        (case side13=>repeat (first|exact (Kd.R_reads' HO333.out).2.2|(with_reducible first|apply Kd.C_alloc|apply Kd.C_drewN|apply Kd.C_drew)))
        (case side14=>exact (Kd.R_reads' HO333.out).2.1)
        (case side15=>repeat (first|exact (Kd.R_reads' HO336.out).2.2|(with_reducible first|apply Kd.C_alloc|apply Kd.C_drewN|apply Kd.C_drew)))
        (case side16=>exact (Kd.R_reads' HO336.out).2.1)
        rintro e w66 ⟨rfl,hb⟩
        refine ⟨_,rfl,?_⟩
        have n0_:=Aside0.mk (Kd.S_below (by (with_reducible repeat (first|apply Kd.S_alloc|apply Kd.S_drewN|apply Kd.S_drew));exact HO_6.out) hb)
        have n1_:=Aside0.mk (Kd.R_below (by (with_reducible repeat (first|apply Kd.R_alloc|apply Kd.R_drewN|apply Kd.R_drew));exact HO_9.out) hb)
        have n2_:=Aside0.mk (Kd.S_below (by (with_reducible repeat (first|apply Kd.S_alloc|apply Kd.S_drewN|apply Kd.S_drew));exact HO_10.out) hb)
        have n3_:=Aside0.mk (Kd.S_below (by (with_reducible repeat (first|apply Kd.S_alloc|apply Kd.S_drewN|apply Kd.S_drew));exact HO_317000.out) hb)
        have n4_:=Aside0.mk (Kd.R_below (by (with_reducible repeat (first|apply Kd.R_alloc|apply Kd.R_drewN|apply Kd.R_drew));exact HO_317001.out) hb)
        have n5_:=Aside0.mk (Kd.R_below (by (with_reducible repeat (first|apply Kd.R_alloc|apply Kd.R_drewN|apply Kd.R_drew));exact HO_317002.out) hb)
        have n6_:=Aside0.mk (Kd.R_below (by (with_reducible repeat (first|apply Kd.R_alloc|apply Kd.R_drewN|apply Kd.R_drew));exact HO_317003.out) hb)
        have n7_:=Aside0.mk (Kd.S_below (by (with_reducible repeat (first|apply Kd.S_alloc|apply Kd.S_drewN|apply Kd.S_drew));exact HO327.out) hb)
        have n8_:=Aside0.mk (Kd.R_below (by (with_reducible repeat (first|apply Kd.R_alloc|apply Kd.R_drewN|apply Kd.R_drew));exact HO330.out) hb)
        have n9_:=Aside0.mk (Kd.R_below (by (with_reducible repeat (first|apply Kd.R_alloc|apply Kd.R_drewN|apply Kd.R_drew));exact HO333.out) hb)
        have n10_:=Aside0.mk (Kd.R_below (by (with_reducible repeat (first|apply Kd.R_alloc|apply Kd.R_drewN|apply Kd.R_drew));exact HO336.out) hb)
        have n11_:=Aside0.mk (blk_below (g:=gb283) (o:=.cells #[.slice A0_0 l0_0.length c0_0,.slice A0_1 l0_1.length c0_1,.slice A0_2 l0_2.length c0_2,.slice A0_3 l0_3.length c0_3] 26 (0,0)) (by (with_reducible repeat first|apply blk_drewN|apply blk_drew|apply blk_alloc);exact BK283.out) hb)
        have n12_:=Aside0.mk (blk_below (g:=gb316) (o:=.cells #[.slice Ao32 t304.length co32,.slice Ao35 t307.length co35,.slice Ao36 t310.length co36,.slice Ao37 t313.length co37] 29 (0,0)) (by (with_reducible repeat first|apply blk_drewN|apply blk_drew|apply blk_alloc);exact BK316.out) hb)
        have n13_:=Aside0.mk (below_step (by repeat (first|(with_reducible first|exact HB.out|apply below_alloc|apply pw_below_drewN|apply below_drew1|refine below_set ?_ GE283.out|refine below_set ?_ GE316.out)|exact HB.out)) hb)
        clear HO_6
        clear HO_9
        clear HO_10
        clear HO_317000
        clear HO_317001
        clear HO_317002
        clear HO_317003
        clear HO327
        clear HO330
        clear HO333
        clear HO336
        clear BK283
        clear BK316
        clear HB
        have HO_6:=n0_
        have HO_9:=n1_
        have HO_10:=n2_
        have HO_317000:=n3_
        have HO_317001:=n4_
        have HO_317002:=n5_
        have HO_317003:=n6_
        have HO327:=n7_
        have HO330:=n8_
        have HO333:=n9_
        have HO336:=n10_
        have BK283:=n11_
        have BK316:=n12_
        have HB:=n13_
        clear n0_ n1_ n2_ n3_ n4_ n5_ n6_ n7_ n8_ n9_ n10_ n11_ n12_ n13_
        (try clear hb)
        (try clear hb2)
        (try clear hk)
        (try clear hi)
        refine hK.out _ _ ⟨(blk_cell BK316.out 0).trans rfl,(blk_cell BK316.out 1).trans rfl,(blk_cell BK316.out 2).trans rfl,(blk_cell BK316.out 3).trans rfl,(blk_cell BK283.out 0).trans rfl,(blk_cell BK283.out 1).trans rfl,(blk_cell BK283.out 2).trans rfl,(blk_cell BK283.out 3).trans rfl⟩ (fun hHeld=>?_)
        clear hK K
        refine norm_ (a':=?_) ?_ ?_
        rotate_left
        ·show Act.put _ (some 55) _ = _
         simp only [Act.put,List.setIfInBounds_toArray,List.set_cons_zero,List.set_cons_succ,i64_w,i32_w]
         rfl
        refine pure_ (i:=4) (N:=some 56) (v:=?_) (a':=?_) #[true,true,true,true,true] rfl rfl (by kernel_rfl) (fun _ _ _ h=>h) (Or.inl ⟨by rfl,?_⟩) ?_ ?_
        rotate_left
        ·intro w'
         go_simp
         with_reducible rfl
        rotate_left
        ·simp only [Act.put,List.setIfInBounds_toArray,List.set_cons_zero,List.set_cons_succ,i64_w,i32_w]
         rfl
        refine done_ (by kernel_rfl) ?_
        go_upto_region 20 with (first|((with_reducible refine gate_callee (f:=31) rfl ?_);refine goesL_ (some 59) rfl rfl Try.func31 (by kernel_rfl) rfl #[.slice A1 l1.length c1] rfl (by (try simp only [List.map_toArray,List.map_cons,List.map_nil]);first|done|rfl|(simp only [List.length_drop,List.length_take];rfl)) ?_;(with_reducible refine (laws_toByteS.calls kj15 _ _ l1 t338 _ ?side1 ?side2 A54.out).mono ?_);(case side1=>repeat (first|exact (Kd.C_below HR1.out HB.out)|(with_reducible first|apply Kd.C_alloc|apply Kd.C_drewN|apply Kd.C_drew)));(case side2=>exact HC1.out);rintro e w67 ⟨v339,rfl,ho0,hb⟩;refine ⟨_,rfl,?_⟩;have n0_:=Aside0.mk (Kd.S_elder' (by (with_reducible repeat (first|apply Kd.S_alloc|apply Kd.S_drewN|apply Kd.S_drew));exact HO_6.out) (Kd.R_base ho0) hb);have n1_:=Aside0.mk (Kd.R_elder' (by (with_reducible repeat (first|apply Kd.R_alloc|apply Kd.R_drewN|apply Kd.R_drew));exact HO_9.out) (Kd.R_base ho0) hb);have n2_:=Aside0.mk (Kd.S_elder' (by (with_reducible repeat (first|apply Kd.S_alloc|apply Kd.S_drewN|apply Kd.S_drew));exact HO_10.out) (Kd.R_base ho0) hb);have n3_:=Aside0.mk (Kd.S_elder' (by (with_reducible repeat (first|apply Kd.S_alloc|apply Kd.S_drewN|apply Kd.S_drew));exact HO_317000.out) (Kd.R_base ho0) hb);have n4_:=Aside0.mk (Kd.R_elder' (by (with_reducible repeat (first|apply Kd.R_alloc|apply Kd.R_drewN|apply Kd.R_drew));exact HO_317001.out) (Kd.R_base ho0) hb);have n5_:=Aside0.mk (Kd.R_below (by (with_reducible repeat (first|apply Kd.R_alloc|apply Kd.R_drewN|apply Kd.R_drew));exact HO_317002.out) hb);have n6_:=Aside0.mk (Kd.R_below (by (with_reducible repeat (first|apply Kd.R_alloc|apply Kd.R_drewN|apply Kd.R_drew));exact HO_317003.out) hb);have n7_:=Aside0.mk (Kd.R_lower (Kd.R_new' (Kd.R_new' (Kd.R_new' ho0 (Kd.R_lt (by (with_reducible repeat (first|apply Kd.R_alloc|apply Kd.R_drewN|apply Kd.R_drew));exact HO_9.out))) (Kd.R_lt (by (with_reducible repeat (first|apply Kd.R_alloc|apply Kd.R_drewN|apply Kd.R_drew));exact HO_317001.out))) (Kd.R_lt (by (with_reducible repeat (first|apply Kd.R_alloc|apply Kd.R_drewN|apply Kd.R_drew));exact HO330.out))) (below_size (by repeat (first|(with_reducible first|exact HB.out|apply below_alloc|apply pw_below_drewN|apply below_drew1|refine below_set ?_ GE283.out|refine below_set ?_ GE316.out)|exact HB.out))));have n8_:=Aside0.mk (blk_below (g:=gb283) (o:=.cells #[.slice A0_0 l0_0.length c0_0,.slice A0_1 l0_1.length c0_1,.slice A0_2 l0_2.length c0_2,.slice A0_3 l0_3.length c0_3] 26 (0,0)) (by (with_reducible repeat first|apply blk_drewN|apply blk_drew|apply blk_alloc);exact BK283.out) hb);have n9_:=Aside0.mk (blk_below (g:=gb316) (o:=.cells #[.slice Ao32 t304.length co32,.slice Ao35 t307.length co35,.slice Ao36 t310.length co36,.slice Ao37 t313.length co37] 29 (0,0)) (by (with_reducible repeat first|apply blk_drewN|apply blk_drew|apply blk_alloc);exact BK316.out) hb);have n10_:=Aside0.mk (below_step (by repeat (first|(with_reducible first|exact HB.out|apply below_alloc|apply pw_below_drewN|apply below_drew1|refine below_set ?_ GE283.out|refine below_set ?_ GE316.out)|exact HB.out)) hb);clear HO_6;clear HO_9;clear HO_10;clear HO_317000;clear HO_317001;clear HO_317002;clear HO_317003;clear BK283;clear BK316;clear HB;clear HO327;clear HO330;clear HO333;clear HO336;have HO_6:=n0_;have HO_9:=n1_;have HO_10:=n2_;have HO_317000:=n3_;have HO_317001:=n4_;have HO_317002:=n5_;have HO_317003:=n6_;have HO340:=n7_;have BK283:=n8_;have BK316:=n9_;have HB:=n10_;clear n0_ n1_ n2_ n3_ n4_ n5_ n6_ n7_ n8_ n9_ n10_;(try clear hb);(try clear hb2);(try clear hk);(try clear hi);(try clear ho0);obtain ⟨Ao68,co68,eo68⟩:=Kd.R_slice HO340.out;subst eo68)|((with_reducible refine gate_callee (f:=33) rfl ?_);refine goesL_ (some 60) rfl rfl Try.func33 (by kernel_rfl) rfl #[.slice Ao40 t317.length co40,.slice Ao68 t338.length co68] rfl (by (try simp only [List.map_toArray,List.map_cons,List.map_nil]);first|done|rfl|(simp only [List.length_drop,List.length_take];rfl)) ?_;(with_reducible refine (laws_eqByteS.calls kj15 _ _ t317 _ _ t338 true _ ?side1 ?side2 ?side3 ?side4 A55.out).mono ?_);(case side1=>repeat (first|exact (Kd.R_reads' HO_9.out).2.2|(with_reducible first|apply Kd.C_alloc|apply Kd.C_drewN|apply Kd.C_drew)));(case side2=>exact (Kd.R_reads' HO_9.out).2.1);(case side3=>repeat (first|exact (Kd.R_reads' HO340.out).2.2|(with_reducible first|apply Kd.C_alloc|apply Kd.C_drewN|apply Kd.C_drew)));(case side4=>exact (Kd.R_reads' HO340.out).2.1);rintro e w' ⟨rfl,⟨nd,rfl⟩⟩;refine ⟨_,rfl,?_⟩;have hnb69:=NB316_283.out;have hnc69:=NB283_316.out;have hcz70_0 : w67.cell? ⟨gb316,0,none⟩ = some (.slice Ao32 t304.length co32):=(blk_cell BK316.out 0).trans rfl;have hcz70_1 : w67.cell? ⟨gb316,1,none⟩ = some (.slice Ao35 t307.length co35):=(blk_cell BK316.out 1).trans rfl;have hcz70_2 : w67.cell? ⟨gb316,2,none⟩ = some (.slice Ao36 t310.length co36):=(blk_cell BK316.out 2).trans rfl;have hcz70_3 : w67.cell? ⟨gb316,3,none⟩ = some (.slice Ao37 t313.length co37):=(blk_cell BK316.out 3).trans rfl;have hfz70_0:=blk_frozen BK316.out 0;have hfz70_1:=blk_frozen BK316.out 1;have hfz70_2:=blk_frozen BK316.out 2;have hfz70_3:=blk_frozen BK316.out 3;have n_:=Aside0.mk (Kd.S_mono (ok':=fun k_=>(some k_ ≠ (.slice Ao40 t317.length co40 : Value).ownBlock∧(some k_ ≠ (.slice Ao35 t307.length co35 : Value).ownBlock∧(w28.heap.size ≤ k_∧(k_ < w38.heap.size∧(k_ < w60.heap.size∧some k_ ≠ (.slice Ao68 t338.length co68 : Value).ownBlock)))))) HO_317000.out (fun k_ hk=>⟨hk.1.1.1.1.1,⟨hk.1.1.1.1.2.1,⟨hk.1.1.1.1.2.2.1,⟨hk.1.1.1.1.2.2.2,⟨hk.1.2,hk.2⟩⟩⟩⟩⟩));clear HO_317000;have HO_317000:=n_;clear n_)|((with_reducible refine gate_callee (f:=20) rfl ?_);refine goesL_ (some 64) rfl rfl Try.func20 (by kernel_rfl) rfl #[.agg #[.slice Ao32 t304.length co32,.slice Ao35 t307.length co35,.slice Ao36 t310.length co36,.slice Ao37 t313.length co37],.int .i64 1] rfl (by (try simp only [List.map_toArray,List.map_cons,List.map_nil]);first|done|rfl|(simp only [List.length_drop,List.length_take];rfl)) ?_;(with_reducible refine (laws_markSpace.calls kj15 (SB_ (Kd.slice 5 (Kd.int .u8)) 23 w67 w.heap.size (fun k_=>(some k_ ≠ (.slice Ao40 t317.length co40 : Value).ownBlock∧(some k_ ≠ (.slice Ao35 t307.length co35 : Value).ownBlock∧(w28.heap.size ≤ k_∧(k_ < w38.heap.size∧(k_ < w60.heap.size∧some k_ ≠ (.slice Ao68 t338.length co68 : Value).ownBlock))))))) (.slice Ao32 t304.length co32) t304 (fun k_=>some k_ = (.slice Ao35 t307.length co35 : Value).ownBlock) (.slice Ao35 t307.length co35) t307 (fun k_=>some k_ = (.slice Ao36 t310.length co36 : Value).ownBlock) (.slice Ao36 t310.length co36) t310 (fun k_=>some k_ = (.slice Ao37 t313.length co37 : Value).ownBlock) (.slice Ao37 t313.length co37) t313 1 t342 t343 t344 t345 t346 w _ ?side1 ?side2 ?side3 ?side4 ?side5 ?side6 ?side7 ?side8 A57.out).mono ?_);(case side1=>repeat (first|(with_reducible first|exact HB.out|apply below_alloc|apply pw_below_drewN|apply below_drew1|refine below_set ?_ GE283.out|refine below_set ?_ GE316.out)|exact HB.out));(case side2=>exact SB_own HO_317000.out);(case side3=>exact fun k_ h_ e_=>(h_.1.2.1) e_);(case side4=>exact Kd.R_tight rfl HO_317001.out);(case side5=>exact Kd.R_tight rfl HO_317002.out);(case side6=>exact fun k_ e_=>(HO_317002.out.1 k_ e_.symm).1.1);(case side7=>exact Kd.R_tight rfl HO_317003.out);(case side8=>exact fun k_ e_=>(HO_317003.out.1 k_ e_.symm).1.1);rintro e w71 ⟨rfl,hy0,hy1,hy2,hy3,hb,hkp⟩;refine ⟨_,rfl,?_⟩;have n0_:=Aside0.mk (Kd.S_mono (ok':=fun k_=>some k_ ≠ (.slice Ao40 t317.length co40 : Value).ownBlock∧some k_ ≠ (v321 : Value).ownBlock∧some k_ ≠ (.slice Ao68 t338.length co68 : Value).ownBlock∧w22.heap.size ≤ k_∧k_ < w28.heap.size∧k_ < w38.heap.size∧k_ < w60.heap.size) (Kd.S_keptB ((Kd.S_apart' (Kd.S_apart' (S_apartSBn (d':=(Kd.slice 5 (Kd.int .u8))) (e':=23) (base':=w.heap.size) (ok':=(fun k_=>(some k_ ≠ (.slice Ao40 t317.length co40 : Value).ownBlock∧(some k_ ≠ (.slice Ao35 t307.length co35 : Value).ownBlock∧(w28.heap.size ≤ k_∧(k_ < w38.heap.size∧(k_ < w60.heap.size∧some k_ ≠ (.slice Ao68 t338.length co68 : Value).ownBlock))))))) HO_6.out (fun k_ hk h2_=>absurd (hk.1.1.1.2.2.2.2.1) (Nat.not_lt.2 (h2_.2.2.1)))) (Kd.R_typed HO_317002.out) (by decide)) (Kd.R_typed HO_317003.out) (by decide))) hkp (fun k_ hk_ hs_=>Or.elim hs_ (fun e_=>(hk_.1.1.2) e_) (fun e_=>Or.elim e_ (fun e_=>(hk_.1.1.1.1.1.1.2.2.1) e_) (fun e_=>Or.elim e_ (fun e_=>(hk_.1.2) e_) (fun e_=>(hk_.2) e_))))) (fun k_ hk_=>⟨hk_.1.1.1.1.1.1.1.1,hk_.1.1.1.1.1.1.1.2.1,hk_.1.1.1.1.2,hk_.1.1.1.1.1.1.1.2.2.2.1,hk_.1.1.1.1.1.1.1.2.2.2.2.1,hk_.1.1.1.1.1.1.1.2.2.2.2.2,hk_.1.1.1.1.1.2⟩));have n1_:=Aside0.mk (Kd.R_mono (ok':=fun k_=>some k_ ≠ (.slice Ao68 t338.length co68 : Value).ownBlock) (Kd.R_keptB ((Kd.R_apart' (Kd.R_apart' (R_apartSBo (d':=(Kd.slice 5 (Kd.int .u8))) (e':=23) (base':=w.heap.size) (ok':=(fun k_=>(some k_ ≠ (.slice Ao40 t317.length co40 : Value).ownBlock∧(some k_ ≠ (.slice Ao35 t307.length co35 : Value).ownBlock∧(w28.heap.size ≤ k_∧(k_ < w38.heap.size∧(k_ < w60.heap.size∧some k_ ≠ (.slice Ao68 t338.length co68 : Value).ownBlock))))))) rfl HO_9.out (fun k_ hk=>hk.1)) (Kd.R_typed HO_317002.out) (by decide)) (Kd.R_typed HO_317003.out) (by decide))) hkp (fun k_ hk_ hs_=>Or.elim hs_ (fun e_=>(hk_.1.1.2) e_) (fun e_=>Or.elim e_ (fun e_=>(hk_.1.1.1.1.1) e_) (fun e_=>Or.elim e_ (fun e_=>(hk_.1.2) e_) (fun e_=>(hk_.2) e_))))) (fun k_ hk_=>hk_.1.1.1.1.2));have n2_:=Aside0.mk (Kd.S_mono (ok':=fun k_=>some k_ ≠ (v301 : Value).ownBlock∧some k_ ≠ (.slice Ao40 t317.length co40 : Value).ownBlock∧some k_ ≠ (.slice Ao68 t338.length co68 : Value).ownBlock∧w38.heap.size ≤ k_∧k_ < w60.heap.size) (Kd.S_keptB ((Kd.S_apart' (Kd.S_apart' (S_apartSBn (d':=(Kd.slice 5 (Kd.int .u8))) (e':=23) (base':=w.heap.size) (ok':=(fun k_=>(some k_ ≠ (.slice Ao40 t317.length co40 : Value).ownBlock∧(some k_ ≠ (.slice Ao35 t307.length co35 : Value).ownBlock∧(w28.heap.size ≤ k_∧(k_ < w38.heap.size∧(k_ < w60.heap.size∧some k_ ≠ (.slice Ao68 t338.length co68 : Value).ownBlock))))))) HO_10.out (fun k_ hk h2_=>absurd (h2_.2.2.2.1) (Nat.not_lt.2 (hk.1.1.1.2.2.2)))) (Kd.R_typed HO_317002.out) (by decide)) (Kd.R_typed HO_317003.out) (by decide))) hkp (fun k_ hk_ hs_=>Or.elim hs_ (fun e_=>(hk_.1.1.2) e_) (fun e_=>Or.elim e_ (fun e_=>(hk_.1.1.1.1.1.1.2.2.1) e_) (fun e_=>Or.elim e_ (fun e_=>(hk_.1.2) e_) (fun e_=>(hk_.2) e_))))) (fun k_ hk_=>⟨hk_.1.1.1.1.1.1.1.1,hk_.1.1.1.1.1.1.1.2.1,hk_.1.1.1.1.2,hk_.1.1.1.1.1.1.1.2.2.2,hk_.1.1.1.1.1.2⟩));have n3_:=Aside0.mk (blk_kept (g:=gb283) (o:=.cells #[.slice A0_0 l0_0.length c0_0,.slice A0_1 l0_1.length c0_1,.slice A0_2 l0_2.length c0_2,.slice A0_3 l0_3.length c0_3] 26 (0,0)) (by (with_reducible repeat first|apply blk_drewN|apply blk_drew|apply blk_alloc);exact BK283.out) hkp (fun hs_=>Or.elim hs_ (fun e_=>(fun e_=>(blk_SB BK283.out (by decide)) e_) e_) (fun e_=>Or.elim e_ (fun e_=>(fun e_=>(Kd.R_ne HO_317001.out BK283.out (by decide)) e_) e_) (fun e_=>Or.elim e_ (fun e_=>(fun e_=>(Kd.R_ne HO_317002.out BK283.out (by decide)) e_) e_) (fun e_=>(fun e_=>(Kd.R_ne HO_317003.out BK283.out (by decide)) e_) e_)))));have n4_:=Aside0.mk (blk_kept (g:=gb316) (o:=.cells #[.slice Ao32 t304.length co32,.slice Ao35 t307.length co35,.slice Ao36 t310.length co36,.slice Ao37 t313.length co37] 29 (0,0)) (by (with_reducible repeat first|apply blk_drewN|apply blk_drew|apply blk_alloc);exact BK316.out) hkp (fun hs_=>Or.elim hs_ (fun e_=>(fun e_=>(blk_SB BK316.out (by decide)) e_) e_) (fun e_=>Or.elim e_ (fun e_=>(fun e_=>(Kd.R_ne HO_317001.out BK316.out (by decide)) e_) e_) (fun e_=>Or.elim e_ (fun e_=>(fun e_=>(Kd.R_ne HO_317002.out BK316.out (by decide)) e_) e_) (fun e_=>(fun e_=>(Kd.R_ne HO_317003.out BK316.out (by decide)) e_) e_)))));have n5_:=Aside0.mk (hb);clear HO_6;clear HO_9;clear HO_10;clear BK283;clear BK316;clear HB;clear HO_317000;clear HO_317001;clear HO_317002;clear HO_317003;clear HO340;have HO_6:=n0_;have HO_9:=n1_;have HO_10:=n2_;have BK283:=n3_;have BK316:=n4_;have HB:=n5_;clear n0_ n1_ n2_ n3_ n4_ n5_;(try clear hb);(try clear hkp);(try clear hbx);(try clear hy0);(try clear hy1);(try clear hy2);(try clear hy3))|((with_reducible refine gate_callee (f:=34) rfl ?_);refine goesL_ (some 67) rfl rfl Try.func34 (by kernel_rfl) rfl #[.slice Ao40 t317.length co40,.int .i64 t342] rfl (by (try simp only [List.map_toArray,List.map_cons,List.map_nil]);first|done|rfl|(simp only [List.length_drop,List.length_take];rfl)) ?_;(with_reducible refine (laws_markByteS.calls kj15 (fun k_=>some k_ = (.slice Ao40 t317.length co40 : Value).ownBlock) (.slice Ao40 t317.length co40) t317 t342 t347 t348 w _ ?side1 ?side2 A58.out).mono ?_);(case side1=>repeat (first|(with_reducible first|exact HB.out|apply below_alloc|apply pw_below_drewN|apply below_drew1|refine below_set ?_ GE283.out|refine below_set ?_ GE316.out)|exact HB.out));(case side2=>exact Kd.R_tight rfl HO_9.out);rintro e w72 ⟨rfl,hy0,hb,hkp⟩;refine ⟨_,rfl,?_⟩;have n0_:=Aside0.mk (Kd.S_mono (ok':=fun k_=>some k_ ≠ (.slice Ao40 t317.length co40 : Value).ownBlock∧some k_ ≠ (v321 : Value).ownBlock∧w22.heap.size ≤ k_∧k_ < w28.heap.size∧k_ < w38.heap.size∧k_ < w60.heap.size) (Kd.S_keptB (HO_6.out) hkp (fun k_ hk_ hs_=>(hk_.1) hs_)) (fun k_ hk_=>⟨hk_.1.1,hk_.1.2.1,hk_.1.2.2.2.1,hk_.1.2.2.2.2.1,hk_.1.2.2.2.2.2.1,hk_.1.2.2.2.2.2.2⟩));have n1_:=Aside0.mk (Kd.R_reok rfl hy0 (fun k_ e_=>HO_9.out.1 k_ e_));have n2_:=Aside0.mk (Kd.S_mono (ok':=fun k_=>some k_ ≠ (v301 : Value).ownBlock∧some k_ ≠ (.slice Ao40 t317.length co40 : Value).ownBlock∧w38.heap.size ≤ k_∧k_ < w60.heap.size) (Kd.S_keptB (HO_10.out) hkp (fun k_ hk_ hs_=>(hk_.2.1) hs_)) (fun k_ hk_=>⟨hk_.1.1,hk_.1.2.1,hk_.1.2.2.2.1,hk_.1.2.2.2.2⟩));have n3_:=Aside0.mk (blk_kept (g:=gb283) (o:=.cells #[.slice A0_0 l0_0.length c0_0,.slice A0_1 l0_1.length c0_1,.slice A0_2 l0_2.length c0_2,.slice A0_3 l0_3.length c0_3] 26 (0,0)) (by (with_reducible repeat first|apply blk_drewN|apply blk_drew|apply blk_alloc);exact BK283.out) hkp (fun hs_=>(fun e_=>(Kd.R_ne HO_9.out BK283.out (by decide)) e_) hs_));have n4_:=Aside0.mk (blk_kept (g:=gb316) (o:=.cells #[.slice Ao32 t304.length co32,.slice Ao35 t307.length co35,.slice Ao36 t310.length co36,.slice Ao37 t313.length co37] 29 (0,0)) (by (with_reducible repeat first|apply blk_drewN|apply blk_drew|apply blk_alloc);exact BK316.out) hkp (fun hs_=>(fun e_=>(Kd.R_ne HO_9.out BK316.out (by decide)) e_) hs_));have n5_:=Aside0.mk (hb);clear HO_6;clear HO_9;clear HO_10;clear BK283;clear BK316;clear HB;have HO_6:=n0_;have HO_9:=n1_;have HO_10:=n2_;have BK283:=n3_;have BK316:=n4_;have HB:=n5_;clear n0_ n1_ n2_ n3_ n4_ n5_;(try clear hb);(try clear hkp);(try clear hbx);(try clear hy0)))
        (try simp only [Act.put,List.setIfInBounds_toArray,List.set_cons_zero,List.set_cons_succ])
        go_cut [80] (fun v80 wc=>∃ (kq : Nat) (x80_58 : Bool),v80 = .bool x80_58∧Aside0 (laws_FnExactCloseSpace.j1 kq l1 t300 t303 t320 x80_58 l0_0 l0_1 l0_2 l0_3 = some r)∧Aside0 (kq ≤ kj15)∧Aside0 (Kd.S k91 91 wc w.heap.size (fun k_=>some k_ ≠ (v321 : Value).ownBlock∧w22.heap.size ≤ k_∧k_ < w28.heap.size∧k_ < w38.heap.size∧k_ < w60.heap.size) v301 t300)∧Aside0 (Kd.S k91 91 wc w.heap.size (fun k_=>some k_ ≠ (v301 : Value).ownBlock∧w38.heap.size ≤ k_∧k_ < w60.heap.size) v321 t320)∧Aside0 (wc.heap[gb283]? = some (.cells #[(.slice A0_0 l0_0.length c0_0),(.slice A0_1 l0_1.length c0_1),(.slice A0_2 l0_2.length c0_2),(.slice A0_3 l0_3.length c0_3)] 26 (0,0)))∧Aside0 (Below w.heap.size w wc))
        case first =>
         have H:=HC59.out
         clear HC59
         by_cases c73 : t347 < 0
         ·rw [if_pos c73] at H
          have c73b0 : decide (t347 < 0) = true:=decide_eq_true c73
          clear c73
          (first|rw [c73b0]|(simp only [i64_w,i32_w];rw [c73b0])|skip)
          have H':=Aside0.mk H
          clear H
          go_wp2
          go_meet
          case rel=>exact ⟨_,(true),(by first|rfl|(simp;done)|(simp [*];done)),H',⟨by have:=HJ15.out;first|omega|exact Nat.le_refl _⟩,⟨by (with_reducible repeat (first|apply Kd.S_alloc|apply Kd.S_drewN|apply Kd.S_drew));exact Kd.S_mono HO_6.out (fun _ hk=>⟨hk.2.1,⟨hk.2.2.1,⟨hk.2.2.2.1,⟨hk.2.2.2.2.1,hk.2.2.2.2.2⟩⟩⟩⟩)⟩,⟨by (with_reducible repeat (first|apply Kd.S_alloc|apply Kd.S_drewN|apply Kd.S_drew));exact Kd.S_mono HO_10.out (fun _ hk=>⟨hk.1,⟨hk.2.2.1,hk.2.2.2⟩⟩)⟩,⟨by (with_reducible repeat first|apply blk_drewN|apply blk_drew|apply blk_alloc);exact BK283.out⟩,⟨by repeat (first|(with_reducible first|exact HB.out|apply below_alloc|apply pw_below_drewN|apply below_drew1|refine below_set ?_ GE283.out|refine below_set ?_ GE316.out)|exact HB.out)⟩⟩
         ·rw [if_neg c73] at H
          have c73b0 : decide (t347 < 0) = false:=decide_eq_false c73
          clear c73
          (first|rw [c73b0]|(simp only [i64_w,i32_w];rw [c73b0])|skip)
          replace H:=Option.bind_eq_some_iff.mp H
          obtain ⟨t349,A740,H⟩:=H
          replace H : (if t349 = true then (laws_FnExactCloseSpace.j1 kj15 l1 t300 t303 t320 (t323 != t303) l0_0 l0_1 l0_2 l0_3) else (laws_FnExactCloseSpace.j1 kj15 l1 t300 t303 t320 true l0_0 l0_1 l0_2 l0_3)) = some r:=H
          have A74:=Aside0.mk A740
          clear A740
          by_cases c75 : t349 = true
          ·subst c75
           have H1 : (laws_FnExactCloseSpace.j1 kj15 l1 t300 t303 t320 (t323 != t303) l0_0 l0_1 l0_2 l0_3) = some r:=by rw [if_pos rfl] at H;exact H
           clear H
           have H:=H1
           clear H1
           have H':=Aside0.mk H
           clear H
           obtain ⟨Ao76,co76,eo76⟩:=Kd.S_slice HO_10.out
           subst eo76
           obtain ⟨Ao77,co77,eo77⟩:=Kd.S_slice HO_6.out
           subst eo77
           go_wp2_with (first|(go_at_call 39;(with_reducible refine (laws_eqWriteS.calls kj15 _ _ t320 _ _ t300 true _ ?side1 ?side2 ?side3 ?side4 A74.out).mono ?_);(case side1=>repeat (first|exact (Kd.S_reads' HO_10.out).2.2|(with_reducible first|apply Kd.C_alloc|apply Kd.C_drewN|apply Kd.C_drew)));(case side2=>exact (Kd.S_reads' HO_10.out).2.1);(case side3=>repeat (first|exact (Kd.S_reads' HO_6.out).2.2|(with_reducible first|apply Kd.C_alloc|apply Kd.C_drewN|apply Kd.C_drew)));(case side4=>exact (Kd.S_reads' HO_6.out).2.1);rintro e w78 ⟨rfl,hb⟩;have n0_:=Aside0.mk (Kd.S_below (by (with_reducible repeat (first|apply Kd.S_alloc|apply Kd.S_drewN|apply Kd.S_drew));exact HO_6.out) hb);have n1_:=Aside0.mk (Kd.S_below (by (with_reducible repeat (first|apply Kd.S_alloc|apply Kd.S_drewN|apply Kd.S_drew));exact HO_10.out) hb);have n2_:=Aside0.mk (blk_below (g:=gb283) (o:=.cells #[.slice A0_0 l0_0.length c0_0,.slice A0_1 l0_1.length c0_1,.slice A0_2 l0_2.length c0_2,.slice A0_3 l0_3.length c0_3] 26 (0,0)) (by (with_reducible repeat first|apply blk_drewN|apply blk_drew|apply blk_alloc);exact BK283.out) hb);have n3_:=Aside0.mk (blk_below (g:=gb316) (o:=.cells #[.slice Ao32 t304.length co32,.slice Ao35 t307.length co35,.slice Ao36 t310.length co36,.slice Ao37 t313.length co37] 29 (0,0)) (by (with_reducible repeat first|apply blk_drewN|apply blk_drew|apply blk_alloc);exact BK316.out) hb);have n4_:=Aside0.mk (below_step (by repeat (first|(with_reducible first|exact HB.out|apply below_alloc|apply pw_below_drewN|apply below_drew1|refine below_set ?_ GE283.out|refine below_set ?_ GE316.out)|exact HB.out)) hb);clear HO_6;clear HO_10;clear BK283;clear BK316;clear HB;clear HO_9;have HO_6:=n0_;have HO_10:=n1_;have BK283:=n2_;have BK316:=n3_;have HB:=n4_;clear n0_ n1_ n2_ n3_ n4_;(try clear hb);(try clear hb2);(try clear hk);(try clear hi)))
           go_meet
           case rel=>exact ⟨_,((t323 != t303)),(by first|rfl|(simp;done)|(simp [*];done)),H',⟨by have:=HJ15.out;first|omega|exact Nat.le_refl _⟩,⟨by (with_reducible repeat (first|apply Kd.S_alloc|apply Kd.S_drewN|apply Kd.S_drew));exact Kd.S_mono HO_6.out (fun _ hk=>⟨hk.2.1,⟨hk.2.2.1,⟨hk.2.2.2.1,⟨hk.2.2.2.2.1,hk.2.2.2.2.2⟩⟩⟩⟩)⟩,⟨by (with_reducible repeat (first|apply Kd.S_alloc|apply Kd.S_drewN|apply Kd.S_drew));exact Kd.S_mono HO_10.out (fun _ hk=>⟨hk.1,⟨hk.2.2.1,hk.2.2.2⟩⟩)⟩,⟨by (with_reducible repeat first|apply blk_drewN|apply blk_drew|apply blk_alloc);exact BK283.out⟩,⟨by repeat (first|(with_reducible first|exact HB.out|apply below_alloc|apply pw_below_drewN|apply below_drew1|refine below_set ?_ GE283.out|refine below_set ?_ GE316.out)|exact HB.out)⟩⟩
          ·replace c75:=Bool.eq_false_iff.mpr c75
           subst c75
           have H1 : (laws_FnExactCloseSpace.j1 kj15 l1 t300 t303 t320 true l0_0 l0_1 l0_2 l0_3) = some r:=by rw [if_neg (show ¬ (false = true) by decide)] at H;exact H
           clear H
           have H:=H1
           clear H1
           have H':=Aside0.mk H
           clear H
           obtain ⟨Ao79,co79,eo79⟩:=Kd.S_slice HO_10.out
           subst eo79
           obtain ⟨Ao80,co80,eo80⟩:=Kd.S_slice HO_6.out
           subst eo80
           go_wp2_with (first|(go_at_call 39;(with_reducible refine (laws_eqWriteS.calls kj15 _ _ t320 _ _ t300 false _ ?side1 ?side2 ?side3 ?side4 A74.out).mono ?_);(case side1=>repeat (first|exact (Kd.S_reads' HO_10.out).2.2|(with_reducible first|apply Kd.C_alloc|apply Kd.C_drewN|apply Kd.C_drew)));(case side2=>exact (Kd.S_reads' HO_10.out).2.1);(case side3=>repeat (first|exact (Kd.S_reads' HO_6.out).2.2|(with_reducible first|apply Kd.C_alloc|apply Kd.C_drewN|apply Kd.C_drew)));(case side4=>exact (Kd.S_reads' HO_6.out).2.1);rintro e w81 ⟨rfl,hb⟩;have n0_:=Aside0.mk (Kd.S_below (by (with_reducible repeat (first|apply Kd.S_alloc|apply Kd.S_drewN|apply Kd.S_drew));exact HO_6.out) hb);have n1_:=Aside0.mk (Kd.S_below (by (with_reducible repeat (first|apply Kd.S_alloc|apply Kd.S_drewN|apply Kd.S_drew));exact HO_10.out) hb);have n2_:=Aside0.mk (blk_below (g:=gb283) (o:=.cells #[.slice A0_0 l0_0.length c0_0,.slice A0_1 l0_1.length c0_1,.slice A0_2 l0_2.length c0_2,.slice A0_3 l0_3.length c0_3] 26 (0,0)) (by (with_reducible repeat first|apply blk_drewN|apply blk_drew|apply blk_alloc);exact BK283.out) hb);have n3_:=Aside0.mk (blk_below (g:=gb316) (o:=.cells #[.slice Ao32 t304.length co32,.slice Ao35 t307.length co35,.slice Ao36 t310.length co36,.slice Ao37 t313.length co37] 29 (0,0)) (by (with_reducible repeat first|apply blk_drewN|apply blk_drew|apply blk_alloc);exact BK316.out) hb);have n4_:=Aside0.mk (below_step (by repeat (first|(with_reducible first|exact HB.out|apply below_alloc|apply pw_below_drewN|apply below_drew1|refine below_set ?_ GE283.out|refine below_set ?_ GE316.out)|exact HB.out)) hb);clear HO_6;clear HO_10;clear BK283;clear BK316;clear HB;clear HO_9;have HO_6:=n0_;have HO_10:=n1_;have BK283:=n2_;have BK316:=n3_;have HB:=n4_;clear n0_ n1_ n2_ n3_ n4_;(try clear hb);(try clear hb2);(try clear hk);(try clear hi)))
           go_meet
           case rel=>exact ⟨_,(true),(by first|rfl|(simp;done)|(simp [*];done)),H',⟨by have:=HJ15.out;first|omega|exact Nat.le_refl _⟩,⟨by (with_reducible repeat (first|apply Kd.S_alloc|apply Kd.S_drewN|apply Kd.S_drew));exact Kd.S_mono HO_6.out (fun _ hk=>⟨hk.2.1,⟨hk.2.2.1,⟨hk.2.2.2.1,⟨hk.2.2.2.2.1,hk.2.2.2.2.2⟩⟩⟩⟩)⟩,⟨by (with_reducible repeat (first|apply Kd.S_alloc|apply Kd.S_drewN|apply Kd.S_drew));exact Kd.S_mono HO_10.out (fun _ hk=>⟨hk.1,⟨hk.2.2.1,hk.2.2.2⟩⟩)⟩,⟨by (with_reducible repeat first|apply blk_drewN|apply blk_drew|apply blk_alloc);exact BK283.out⟩,⟨by repeat (first|(with_reducible first|exact HB.out|apply below_alloc|apply pw_below_drewN|apply below_drew1|refine below_set ?_ GE283.out|refine below_set ?_ GE316.out)|exact HB.out)⟩⟩
        case rest =>
         clear HC59
         try clear c1;try clear c2;try clear p2;try clear c3;try clear c3b0;try clear c3b1;try clear c4;try clear c5;try clear c6;try clear c6b0;try clear c7;try clear c9;try clear c10;try clear c12;try clear c14;try clear c20;try clear c31;try clear c33;try clear c34;try clear c37;try clear c38;try clear c39;try clear c43;try clear c50;try clear c53;try clear c56;try clear c69;try clear c73;try clear c73b0;try clear c75;try clear hcz18_0;try clear hcz18_1;try clear hcz18_2;try clear hcz18_3;try clear hcz20_0;try clear hcz20_1;try clear hcz20_2;try clear hcz20_3;try clear hcz29_0;try clear hcz29_1;try clear hcz29_2;try clear hcz29_3;try clear hcz34_0;try clear hcz34_1;try clear hcz34_2;try clear hcz34_3;try clear hcz39_0;try clear hcz39_1;try clear hcz39_2;try clear hcz39_3;try clear hcz70_0;try clear hcz70_1;try clear hcz70_2;try clear hcz70_3;try clear hcz8_0;try clear hcz8_1;try clear hcz8_2;try clear hcz8_3;try clear hfz18_0;try clear hfz18_1;try clear hfz18_2;try clear hfz18_3;try clear hfz20_0;try clear hfz20_1;try clear hfz20_2;try clear hfz20_3;try clear hfz29_0;try clear hfz29_1;try clear hfz29_2;try clear hfz29_3;try clear hfz34_0;try clear hfz34_1;try clear hfz34_2;try clear hfz34_3;try clear hfz39_0;try clear hfz39_1;try clear hfz39_2;try clear hfz39_3;try clear hfz70_0;try clear hfz70_1;try clear hfz70_2;try clear hfz70_3;try clear hfz8_0;try clear hfz8_1;try clear hfz8_2;try clear hfz8_3;try clear p2
         obtain ⟨kq,x80_58,rfl,HA,HJ58,HO_6,HO_10,BK283,HB⟩:=hcut
         cases kq with
         | zero=>exact absurd HA.out (by simp [laws_FnExactCloseSpace.j1])
         | succ kj58 =>
          have H:=HA.out
          clear HA
          simp only [laws_FnExactCloseSpace.j1] at H
          by_cases c82 : x80_58 = true
          ·subst c82
           have H1 : (some false) = some r:=by rw [if_pos rfl] at H;exact H
           clear H
           have H:=H1
           clear H1
           obtain rfl:=Option.some.inj H
           go_wp2
           go_ret
           exact ⟨by first|rfl|(simp [*,errW_none,errW_some] <;> rfl),by repeat (first|(with_reducible first|exact HB.out|apply below_alloc|apply pw_below_drewN|apply below_drew1|refine below_set ?_ GE283.out)|exact HB.out)⟩
          ·replace c82:=Bool.eq_false_iff.mpr c82
           subst c82
           have H1 : ((laws_markWriteS.f kj58 t320 1).bind fun bt350=>((laws_heldWriteS.f kj58 bt350.2 1).bind fun t352=>(if t352 < 0 then (some false) else (if t352 = bt350.1 then ((laws_toSpace.f kj58 l0_0 l0_1 l0_2 l0_3).bind fun bt353=>((laws_toByteS.f kj58 l1).bind fun t365=>((impl_CloseSpace.f kj58 bt353.1 bt353.2.1 bt353.2.2.1 bt353.2.2.2 t365).bind fun bt368=>((laws_eqWriteS.f kj58 bt368.1 t300).bind fun t372=>(if t372 = true then (laws_FnExactCloseSpace.j2 kj58 bt350.2 bt350.1 (bt368.2 != t303)) else (laws_FnExactCloseSpace.j2 kj58 bt350.2 bt350.1 true)))))) else (some false))))) = some r:=by rw [if_neg (show ¬ (false = true) by decide)] at H;exact H
           clear H
           have H:=H1
           clear H1
           replace H:=Option.bind_eq_some_iff.mp H
           obtain ⟨⟨t350,t351⟩,A830,H⟩:=H
           replace H : ((laws_heldWriteS.f kj58 t351 1).bind fun t352=>(if t352 < 0 then (some false) else (if t352 = t350 then ((laws_toSpace.f kj58 l0_0 l0_1 l0_2 l0_3).bind fun bt353=>((laws_toByteS.f kj58 l1).bind fun t365=>((impl_CloseSpace.f kj58 bt353.1 bt353.2.1 bt353.2.2.1 bt353.2.2.2 t365).bind fun bt368=>((laws_eqWriteS.f kj58 bt368.1 t300).bind fun t372=>(if t372 = true then (laws_FnExactCloseSpace.j2 kj58 t351 t350 (bt368.2 != t303)) else (laws_FnExactCloseSpace.j2 kj58 t351 t350 true)))))) else (some false)))) = some r:=H
           have A83:=Aside0.mk A830
           clear A830
           replace H:=Option.bind_eq_some_iff.mp H
           obtain ⟨t352,A840,H⟩:=H
           replace H : (if t352 < 0 then (some false) else (if t352 = t350 then ((laws_toSpace.f kj58 l0_0 l0_1 l0_2 l0_3).bind fun bt353=>((laws_toByteS.f kj58 l1).bind fun t365=>((impl_CloseSpace.f kj58 bt353.1 bt353.2.1 bt353.2.2.1 bt353.2.2.2 t365).bind fun bt368=>((laws_eqWriteS.f kj58 bt368.1 t300).bind fun t372=>(if t372 = true then (laws_FnExactCloseSpace.j2 kj58 t351 t350 (bt368.2 != t303)) else (laws_FnExactCloseSpace.j2 kj58 t351 t350 true)))))) else (some false))) = some r:=H
           have A84:=Aside0.mk A840
           clear A840
           by_cases c85 : t352 < 0
           ·rw [if_pos c85] at H
            have c85b0 : decide (t352 < 0) = true:=decide_eq_true c85
            clear c85
            obtain rfl:=Option.some.inj H
            obtain ⟨Ao86,co86,eo86⟩:=Kd.S_slice HO_10.out
            subst eo86
            go_wp2_with (first|((with_reducible refine gate_callee (f:=40) rfl ?_);refine goesL_ (some 83) rfl rfl Try.func40 (by kernel_rfl) rfl #[.slice Ao86 t320.length co86,.int .i64 1] rfl (by (try simp only [List.map_toArray,List.map_cons,List.map_nil]);first|done|rfl|(simp only [List.length_drop,List.length_take];rfl)) ?_;(with_reducible refine (laws_markWriteS.calls kj58 (SB_ k91 91 wc w.heap.size (fun k_=>(some k_ ≠ (v301 : Value).ownBlock∧(w38.heap.size ≤ k_∧k_ < w60.heap.size)))) (.slice Ao86 t320.length co86) t320 1 t350 t351 w _ ?side1 ?side2 A83.out).mono ?_);(case side1=>repeat (first|(with_reducible first|exact HB.out|apply below_alloc|apply pw_below_drewN|apply below_drew1|refine below_set ?_ GE283.out)|exact HB.out));(case side2=>exact SB_own HO_10.out);rintro e w87 ⟨rfl,hy0,hb,hkp⟩;refine ⟨_,rfl,?_⟩;have n0_:=Aside0.mk (Kd.S_mono (ok':=fun k_=>some k_ ≠ (v301 : Value).ownBlock) hy0 (fun k_ h_=>Or.elim h_ (fun p_=>p_.1.1) (fun n_=>(Kd.fresh' (Kd.S_lt (by (with_reducible repeat (first|apply Kd.S_alloc|apply Kd.S_drewN|apply Kd.S_drew));exact HO_6.out)) k_ n_))));have n1_:=Aside0.mk (blk_kept (g:=gb283) (o:=.cells #[.slice A0_0 l0_0.length c0_0,.slice A0_1 l0_1.length c0_1,.slice A0_2 l0_2.length c0_2,.slice A0_3 l0_3.length c0_3] 26 (0,0)) (by (with_reducible repeat first|apply blk_drewN|apply blk_drew|apply blk_alloc);exact BK283.out) hkp (fun hs_=>(fun e_=>(blk_SB BK283.out (by decide)) e_) hs_));have n2_:=Aside0.mk (hb);clear HO_10;clear BK283;clear HB;clear HO_6;have HO_10:=n0_;have BK283:=n1_;have HB:=n2_;clear n0_ n1_ n2_;(try clear hb);(try clear hkp);(try clear hbx);(try clear hy0))|((with_reducible refine gate_callee (f:=41) rfl ?_);refine goesL_ (some 86) rfl rfl Try.func41 (by kernel_rfl) rfl #[.slice Ao86 t351.length co86,.int .i64 1] rfl (by (try simp only [List.map_toArray,List.map_cons,List.map_nil]);first|done|(rw [show t351.length = t320.length from (Kd.S_reads' HO_10.out).1.symm] <;> rfl)|rfl|(simp only [List.length_drop,List.length_take];rfl)) ?_;(with_reducible refine (laws_heldWriteS.calls kj58 _ _ t351 1 t352 _ ?side1 ?side2 A84.out).mono ?_);(case side1=>repeat (first|exact (Kd.S_reads' HO_10.out).2.2|(with_reducible first|apply Kd.C_alloc|apply Kd.C_drewN|apply Kd.C_drew)));(case side2=>rw [show t351.length = t320.length from (Kd.S_reads' HO_10.out).1.symm];exact (Kd.S_reads' HO_10.out).2.1);rintro e w' ⟨rfl,⟨nd,rfl⟩⟩;refine ⟨_,rfl,?_⟩))
            go_ret
            exact ⟨by first|rfl|(simp [*,errW_none,errW_some] <;> rfl),by repeat (first|(with_reducible first|exact HB.out|apply below_alloc|apply pw_below_drewN|apply below_drew1|refine below_set ?_ GE283.out)|exact HB.out)⟩
           ·rw [if_neg c85] at H
            have c85b0 : decide (t352 < 0) = false:=decide_eq_false c85
            clear c85
            by_cases c88 : t352 = t350
            ·rw [if_pos c88] at H
             have c88b0 : (t352 == t350) = true:=beq_iff_eq.mpr c88
             have c88b1 : (t352 != t350) = false:=bne_eq_false_iff_eq.mpr c88
             clear c88
             replace H:=Option.bind_eq_some_iff.mp H
             obtain ⟨⟨t353,t356,t359,t362⟩,A890,H⟩:=H
             replace H : ((laws_toByteS.f kj58 l1).bind fun t365=>((impl_CloseSpace.f kj58 t353 t356 t359 t362 t365).bind fun bt368=>((laws_eqWriteS.f kj58 bt368.1 t300).bind fun t372=>(if t372 = true then (laws_FnExactCloseSpace.j2 kj58 t351 t350 (bt368.2 != t303)) else (laws_FnExactCloseSpace.j2 kj58 t351 t350 true))))) = some r:=H
             have A89:=Aside0.mk A890
             clear A890
             replace H:=Option.bind_eq_some_iff.mp H
             obtain ⟨t365,A900,H⟩:=H
             replace H : ((impl_CloseSpace.f kj58 t353 t356 t359 t362 t365).bind fun bt368=>((laws_eqWriteS.f kj58 bt368.1 t300).bind fun t372=>(if t372 = true then (laws_FnExactCloseSpace.j2 kj58 t351 t350 (bt368.2 != t303)) else (laws_FnExactCloseSpace.j2 kj58 t351 t350 true)))) = some r:=H
             have A90:=Aside0.mk A900
             clear A900
             replace H:=Option.bind_eq_some_iff.mp H
             obtain ⟨⟨t368,t371⟩,A910,H⟩:=H
             replace H : ((laws_eqWriteS.f kj58 t368 t300).bind fun t372=>(if t372 = true then (laws_FnExactCloseSpace.j2 kj58 t351 t350 (t371 != t303)) else (laws_FnExactCloseSpace.j2 kj58 t351 t350 true))) = some r:=H
             have A91:=Aside0.mk A910
             clear A910
             have HC92:=Aside0.mk H
             clear H
             obtain ⟨Ao93,co93,eo93⟩:=Kd.S_slice HO_10.out
             subst eo93
             go_upto_region 31 with (first|((with_reducible refine gate_callee (f:=40) rfl ?_);refine goesL_ (some 83) rfl rfl Try.func40 (by kernel_rfl) rfl #[.slice Ao93 t320.length co93,.int .i64 1] rfl (by (try simp only [List.map_toArray,List.map_cons,List.map_nil]);first|done|rfl|(simp only [List.length_drop,List.length_take];rfl)) ?_;(with_reducible refine (laws_markWriteS.calls kj58 (SB_ k91 91 wc w.heap.size (fun k_=>(some k_ ≠ (v301 : Value).ownBlock∧(w38.heap.size ≤ k_∧k_ < w60.heap.size)))) (.slice Ao93 t320.length co93) t320 1 t350 t351 w _ ?side1 ?side2 A83.out).mono ?_);(case side1=>repeat (first|(with_reducible first|exact HB.out|apply below_alloc|apply pw_below_drewN|apply below_drew1|refine below_set ?_ GE283.out)|exact HB.out));(case side2=>exact SB_own HO_10.out);rintro e w94 ⟨rfl,hy0,hb,hkp⟩;refine ⟨_,rfl,?_⟩;have n0_:=Aside0.mk (Kd.S_mono (ok':=fun k_=>some k_ ≠ (.slice Ao93 t320.length co93 : Value).ownBlock∧w22.heap.size ≤ k_∧k_ < w28.heap.size∧k_ < w38.heap.size∧k_ < w60.heap.size) (Kd.S_keptB ((S_apartSBn (d':=k91) (e':=91) (base':=w.heap.size) (ok':=(fun k_=>(some k_ ≠ (v301 : Value).ownBlock∧(w38.heap.size ≤ k_∧k_ < w60.heap.size)))) HO_6.out (fun k_ hk h2_=>absurd (hk.2.2.2.1) (Nat.not_lt.2 (h2_.2.1))))) hkp (fun k_ hk_ hs_=>(hk_.2) hs_)) (fun k_ hk_=>⟨hk_.1.1.1,hk_.1.1.2.1,hk_.1.1.2.2.1,hk_.1.1.2.2.2.1,hk_.1.1.2.2.2.2⟩));have n1_:=Aside0.mk (Kd.S_mono (ok':=fun k_=>some k_ ≠ (v301 : Value).ownBlock) hy0 (fun k_ h_=>Or.elim h_ (fun p_=>p_.1.1) (fun n_=>(Kd.fresh' (Kd.S_lt (by (with_reducible repeat (first|apply Kd.S_alloc|apply Kd.S_drewN|apply Kd.S_drew));exact HO_6.out)) k_ n_))));have n2_:=Aside0.mk (blk_kept (g:=gb283) (o:=.cells #[.slice A0_0 l0_0.length c0_0,.slice A0_1 l0_1.length c0_1,.slice A0_2 l0_2.length c0_2,.slice A0_3 l0_3.length c0_3] 26 (0,0)) (by (with_reducible repeat first|apply blk_drewN|apply blk_drew|apply blk_alloc);exact BK283.out) hkp (fun hs_=>(fun e_=>(blk_SB BK283.out (by decide)) e_) hs_));have n3_:=Aside0.mk (hb);clear HO_6;clear HO_10;clear BK283;clear HB;have HO_6:=n0_;have HO_10:=n1_;have BK283:=n2_;have HB:=n3_;clear n0_ n1_ n2_ n3_;(try clear hb);(try clear hkp);(try clear hbx);(try clear hy0))|((with_reducible refine gate_callee (f:=41) rfl ?_);refine goesL_ (some 86) rfl rfl Try.func41 (by kernel_rfl) rfl #[.slice Ao93 t351.length co93,.int .i64 1] rfl (by (try simp only [List.map_toArray,List.map_cons,List.map_nil]);first|done|(rw [show t351.length = t320.length from (Kd.S_reads' HO_10.out).1.symm] <;> rfl)|rfl|(simp only [List.length_drop,List.length_take];rfl)) ?_;(with_reducible refine (laws_heldWriteS.calls kj58 _ _ t351 1 t352 _ ?side1 ?side2 A84.out).mono ?_);(case side1=>repeat (first|exact (Kd.S_reads' HO_10.out).2.2|(with_reducible first|apply Kd.C_alloc|apply Kd.C_drewN|apply Kd.C_drew)));(case side2=>rw [show t351.length = t320.length from (Kd.S_reads' HO_10.out).1.symm];exact (Kd.S_reads' HO_10.out).2.1);rintro e w' ⟨rfl,⟨nd,rfl⟩⟩;refine ⟨_,rfl,?_⟩;have hcz95_0 : w94.cell? ⟨gb283,0,none⟩ = some (.slice A0_0 l0_0.length c0_0):=(blk_cell BK283.out 0).trans rfl;have hcz95_1 : w94.cell? ⟨gb283,1,none⟩ = some (.slice A0_1 l0_1.length c0_1):=(blk_cell BK283.out 1).trans rfl;have hcz95_2 : w94.cell? ⟨gb283,2,none⟩ = some (.slice A0_2 l0_2.length c0_2):=(blk_cell BK283.out 2).trans rfl;have hcz95_3 : w94.cell? ⟨gb283,3,none⟩ = some (.slice A0_3 l0_3.length c0_3):=(blk_cell BK283.out 3).trans rfl;have hfz95_0:=blk_frozen BK283.out 0;have hfz95_1:=blk_frozen BK283.out 1;have hfz95_2:=blk_frozen BK283.out 2;have hfz95_3:=blk_frozen BK283.out 3)|((with_reducible refine gate_callee (f:=12) rfl ?_);refine goesL_ (some 94) rfl rfl Try.func12 (by kernel_rfl) rfl #[.agg #[.slice A0_0 l0_0.length c0_0,.slice A0_1 l0_1.length c0_1,.slice A0_2 l0_2.length c0_2,.slice A0_3 l0_3.length c0_3]] rfl (by (try simp only [List.map_toArray,List.map_cons,List.map_nil]);first|done|rfl|(simp only [List.length_drop,List.length_take];rfl)) ?_;(with_reducible refine (laws_toSpace.calls kj58 _ _ l0_0 _ _ l0_1 _ _ l0_2 _ _ l0_3 t353 t356 t359 t362 _ ?side1 ?side2 ?side3 ?side4 ?side5 ?side6 ?side7 ?side8 A89.out).mono ?_);(case side1=>repeat (first|exact (Kd.C_below HR0_0.out (by repeat (first|(with_reducible first|exact HB.out|apply below_alloc|apply pw_below_drewN|apply below_drew1|refine below_set ?_ GE283.out)|exact HB.out)))|(with_reducible first|apply Kd.C_alloc|apply Kd.C_drewN|apply Kd.C_drew)));(case side2=>exact HC0_0.out);(case side3=>repeat (first|exact (Kd.C_below HR0_1.out (by repeat (first|(with_reducible first|exact HB.out|apply below_alloc|apply pw_below_drewN|apply below_drew1|refine below_set ?_ GE283.out)|exact HB.out)))|(with_reducible first|apply Kd.C_alloc|apply Kd.C_drewN|apply Kd.C_drew)));(case side4=>exact HC0_1.out);(case side5=>repeat (first|exact (Kd.C_below HR0_2.out (by repeat (first|(with_reducible first|exact HB.out|apply below_alloc|apply pw_below_drewN|apply below_drew1|refine below_set ?_ GE283.out)|exact HB.out)))|(with_reducible first|apply Kd.C_alloc|apply Kd.C_drewN|apply Kd.C_drew)));(case side6=>exact HC0_2.out);(case side7=>repeat (first|exact (Kd.C_below HR0_3.out (by repeat (first|(with_reducible first|exact HB.out|apply below_alloc|apply pw_below_drewN|apply below_drew1|refine below_set ?_ GE283.out)|exact HB.out)))|(with_reducible first|apply Kd.C_alloc|apply Kd.C_drewN|apply Kd.C_drew)));(case side8=>exact HC0_3.out);rintro e w96 ⟨v354,v357,v360,v363,rfl,ho0,ho1,ho2,ho3,hb⟩;refine ⟨_,rfl,?_⟩;have n0_:=Aside0.mk (Kd.S_told (Kd.S_old (by (with_reducible repeat (first|apply Kd.S_alloc|apply Kd.S_drewN|apply Kd.S_drew));exact HO_6.out) hb) (Kd.R_base ho1));have n1_:=Aside0.mk (Kd.S_told (Kd.S_old (by (with_reducible repeat (first|apply Kd.S_alloc|apply Kd.S_drewN|apply Kd.S_drew));exact HO_10.out) hb) (Kd.R_base ho1));have n2_:=Aside0.mk (Kd.S_lower (Kd.S_mono (Kd.S_bound ho0) (fun k_ h_=>(⟨h_.1,(by first|exact h_.2.1|simpa only [World.size_setCell] using h_.2.1)⟩ : _∧w94.heap.size ≤ k_))) (below_size (by repeat (first|(with_reducible first|exact HB.out|apply below_alloc|apply pw_below_drewN|apply below_drew1|refine below_set ?_ GE283.out)|exact HB.out))));have n3_:=Aside0.mk (Kd.R_lower ho1 (below_size (by repeat (first|(with_reducible first|exact HB.out|apply below_alloc|apply pw_below_drewN|apply below_drew1|refine below_set ?_ GE283.out)|exact HB.out))));have n4_:=Aside0.mk (Kd.R_lower ho2 (below_size (by repeat (first|(with_reducible first|exact HB.out|apply below_alloc|apply pw_below_drewN|apply below_drew1|refine below_set ?_ GE283.out)|exact HB.out))));have n5_:=Aside0.mk (Kd.R_lower ho3 (below_size (by repeat (first|(with_reducible first|exact HB.out|apply below_alloc|apply pw_below_drewN|apply below_drew1|refine below_set ?_ GE283.out)|exact HB.out))));have n6_:=Aside0.mk (blk_below (g:=gb283) (o:=.cells #[.slice A0_0 l0_0.length c0_0,.slice A0_1 l0_1.length c0_1,.slice A0_2 l0_2.length c0_2,.slice A0_3 l0_3.length c0_3] 26 (0,0)) (by (with_reducible repeat first|apply blk_drewN|apply blk_drew|apply blk_alloc);exact BK283.out) hb);have n7_:=Aside0.mk (below_step (by repeat (first|(with_reducible first|exact HB.out|apply below_alloc|apply pw_below_drewN|apply below_drew1|refine below_set ?_ GE283.out)|exact HB.out)) hb);clear HO_6;clear HO_10;clear BK283;clear HB;have HO_6:=n0_;have HO_10:=n1_;have HO355:=n2_;have HO358:=n3_;have HO361:=n4_;have HO364:=n5_;have BK283:=n6_;have HB:=n7_;clear n0_ n1_ n2_ n3_ n4_ n5_ n6_ n7_;(try clear hb);(try clear hb2);(try clear hk);(try clear hi);(try clear ho0);(try clear ho1);(try clear ho2);(try clear ho3))|((with_reducible refine gate_callee (f:=31) rfl ?_);refine goesL_ (some 96) rfl rfl Try.func31 (by kernel_rfl) rfl #[.slice A1 l1.length c1] rfl (by (try simp only [List.map_toArray,List.map_cons,List.map_nil]);first|done|rfl|(simp only [List.length_drop,List.length_take];rfl)) ?_;(with_reducible refine (laws_toByteS.calls kj58 _ _ l1 t365 _ ?side1 ?side2 A90.out).mono ?_);(case side1=>repeat (first|exact (Kd.C_below HR1.out HB.out)|(with_reducible first|apply Kd.C_alloc|apply Kd.C_drewN|apply Kd.C_drew)));(case side2=>exact HC1.out);rintro e w97 ⟨v366,rfl,ho0,hb⟩;refine ⟨_,rfl,?_⟩;have n0_:=Aside0.mk (Kd.S_elder' (by (with_reducible repeat (first|apply Kd.S_alloc|apply Kd.S_drewN|apply Kd.S_drew));exact HO_6.out) (Kd.R_base ho0) hb);have n1_:=Aside0.mk (Kd.S_elder' (by (with_reducible repeat (first|apply Kd.S_alloc|apply Kd.S_drewN|apply Kd.S_drew));exact HO_10.out) (Kd.R_base ho0) hb);have n2_:=Aside0.mk (Kd.S_elder' (by (with_reducible repeat (first|apply Kd.S_alloc|apply Kd.S_drewN|apply Kd.S_drew));exact HO355.out) (Kd.R_base ho0) hb);have n3_:=Aside0.mk (Kd.R_elder' (by (with_reducible repeat (first|apply Kd.R_alloc|apply Kd.R_drewN|apply Kd.R_drew));exact HO358.out) (Kd.R_base ho0) hb);have n4_:=Aside0.mk (Kd.R_below (by (with_reducible repeat (first|apply Kd.R_alloc|apply Kd.R_drewN|apply Kd.R_drew));exact HO361.out) hb);have n5_:=Aside0.mk (Kd.R_below (by (with_reducible repeat (first|apply Kd.R_alloc|apply Kd.R_drewN|apply Kd.R_drew));exact HO364.out) hb);have n6_:=Aside0.mk (Kd.R_lower (Kd.R_new' ho0 (Kd.R_lt (by (with_reducible repeat (first|apply Kd.R_alloc|apply Kd.R_drewN|apply Kd.R_drew));exact HO358.out))) (below_size (by repeat (first|(with_reducible first|exact HB.out|apply below_alloc|apply pw_below_drewN|apply below_drew1|refine below_set ?_ GE283.out)|exact HB.out))));have n7_:=Aside0.mk (blk_below (g:=gb283) (o:=.cells #[.slice A0_0 l0_0.length c0_0,.slice A0_1 l0_1.length c0_1,.slice A0_2 l0_2.length c0_2,.slice A0_3 l0_3.length c0_3] 26 (0,0)) (by (with_reducible repeat first|apply blk_drewN|apply blk_drew|apply blk_alloc);exact BK283.out) hb);have n8_:=Aside0.mk (below_step (by repeat (first|(with_reducible first|exact HB.out|apply below_alloc|apply pw_below_drewN|apply below_drew1|refine below_set ?_ GE283.out)|exact HB.out)) hb);clear HO_6;clear HO_10;clear HO355;clear HO358;clear HO361;clear HO364;clear BK283;clear HB;have HO_6:=n0_;have HO_10:=n1_;have HO355:=n2_;have HO358:=n3_;have HO361:=n4_;have HO364:=n5_;have HO367:=n6_;have BK283:=n7_;have HB:=n8_;clear n0_ n1_ n2_ n3_ n4_ n5_ n6_ n7_ n8_;(try clear hb);(try clear hb2);(try clear hk);(try clear hi);(try clear ho0);obtain ⟨Ao98,co98,eo98⟩:=Kd.S_slice HO355.out;subst eo98;obtain ⟨Ao99,co99,eo99⟩:=Kd.R_slice HO358.out;subst eo99;obtain ⟨Ao100,co100,eo100⟩:=Kd.R_slice HO361.out;subst eo100;obtain ⟨Ao101,co101,eo101⟩:=Kd.R_slice HO364.out;subst eo101;obtain ⟨Ao102,co102,eo102⟩:=Kd.R_slice HO367.out;subst eo102)|((with_reducible refine gate_callee (f:=38) rfl ?_);refine goesL_ (some 97) rfl rfl Try.func38 (by kernel_rfl) rfl #[.agg #[.slice Ao98 t353.length co98,.slice Ao99 t356.length co99,.slice Ao100 t359.length co100,.slice Ao101 t362.length co101],.slice Ao102 t365.length co102] rfl (by (try simp only [List.map_toArray,List.map_cons,List.map_nil]);first|done|rfl|(simp only [List.length_drop,List.length_take];rfl)) ?_;(with_reducible refine (impl_CloseSpace.calls kj58 _ _ t353 _ _ t356 _ _ t359 _ _ t362 _ _ t365 t368 t371 _ ?side1 ?side2 ?side3 ?side4 ?side5 ?side6 ?side7 ?side8 ?side9 ?side10 A91.out).mono ?_);(case side1=>repeat (first|exact (Kd.S_reads' HO355.out).2.2|(with_reducible first|apply Kd.C_alloc|apply Kd.C_drewN|apply Kd.C_drew)));(case side2=>exact (Kd.S_reads' HO355.out).2.1);(case side3=>repeat (first|exact (Kd.R_reads' HO358.out).2.2|(with_reducible first|apply Kd.C_alloc|apply Kd.C_drewN|apply Kd.C_drew)));(case side4=>exact (Kd.R_reads' HO358.out).2.1);(case side5=>repeat (first|exact (Kd.R_reads' HO361.out).2.2|(with_reducible first|apply Kd.C_alloc|apply Kd.C_drewN|apply Kd.C_drew)));(case side6=>exact (Kd.R_reads' HO361.out).2.1);(case side7=>repeat (first|exact (Kd.R_reads' HO364.out).2.2|(with_reducible first|apply Kd.C_alloc|apply Kd.C_drewN|apply Kd.C_drew)));(case side8=>exact (Kd.R_reads' HO364.out).2.1);(case side9=>repeat (first|exact (Kd.R_reads' HO367.out).2.2|(with_reducible first|apply Kd.C_alloc|apply Kd.C_drewN|apply Kd.C_drew)));(case side10=>exact (Kd.R_reads' HO367.out).2.1);rintro e w103 ⟨v369,rfl,ho0,hb⟩;refine ⟨_,rfl,?_⟩;have n0_:=Aside0.mk (Kd.S_told (Kd.S_old (by (with_reducible repeat (first|apply Kd.S_alloc|apply Kd.S_drewN|apply Kd.S_drew));exact HO_6.out) hb) (Kd.S_base ho0));have n1_:=Aside0.mk (Kd.S_told (Kd.S_old (by (with_reducible repeat (first|apply Kd.S_alloc|apply Kd.S_drewN|apply Kd.S_drew));exact HO_10.out) hb) (Kd.S_base ho0));have n2_:=Aside0.mk (Kd.S_old (by (with_reducible repeat (first|apply Kd.S_alloc|apply Kd.S_drewN|apply Kd.S_drew));exact HO355.out) hb);have n3_:=Aside0.mk (Kd.R_below (by (with_reducible repeat (first|apply Kd.R_alloc|apply Kd.R_drewN|apply Kd.R_drew));exact HO358.out) hb);have n4_:=Aside0.mk (Kd.R_below (by (with_reducible repeat (first|apply Kd.R_alloc|apply Kd.R_drewN|apply Kd.R_drew));exact HO361.out) hb);have n5_:=Aside0.mk (Kd.R_below (by (with_reducible repeat (first|apply Kd.R_alloc|apply Kd.R_drewN|apply Kd.R_drew));exact HO364.out) hb);have n6_:=Aside0.mk (Kd.R_below (by (with_reducible repeat (first|apply Kd.R_alloc|apply Kd.R_drewN|apply Kd.R_drew));exact HO367.out) hb);have n7_:=Aside0.mk (Kd.S_lower (Kd.S_new' (Kd.S_new' (Kd.S_new' (Kd.S_new' (Kd.S_mono (Kd.S_bound ho0) (fun k_ h_=>(⟨h_.1,(by first|exact h_.2.1|simpa only [World.size_setCell] using h_.2.1)⟩ : _∧w97.heap.size ≤ k_))) (Kd.S_lt (by (with_reducible repeat (first|apply Kd.S_alloc|apply Kd.S_drewN|apply Kd.S_drew));exact HO_6.out))) (Kd.S_lt (by (with_reducible repeat (first|apply Kd.S_alloc|apply Kd.S_drewN|apply Kd.S_drew));exact HO_10.out))) (Kd.R_lt (by (with_reducible repeat (first|apply Kd.R_alloc|apply Kd.R_drewN|apply Kd.R_drew));exact HO358.out))) (Kd.R_lt (by (with_reducible repeat (first|apply Kd.R_alloc|apply Kd.R_drewN|apply Kd.R_drew));exact HO367.out))) (below_size (by repeat (first|(with_reducible first|exact HB.out|apply below_alloc|apply pw_below_drewN|apply below_drew1|refine below_set ?_ GE283.out)|exact HB.out))));have n8_:=Aside0.mk (blk_below (g:=gb283) (o:=.cells #[.slice A0_0 l0_0.length c0_0,.slice A0_1 l0_1.length c0_1,.slice A0_2 l0_2.length c0_2,.slice A0_3 l0_3.length c0_3] 26 (0,0)) (by (with_reducible repeat first|apply blk_drewN|apply blk_drew|apply blk_alloc);exact BK283.out) hb);have n9_:=Aside0.mk (below_step (by repeat (first|(with_reducible first|exact HB.out|apply below_alloc|apply pw_below_drewN|apply below_drew1|refine below_set ?_ GE283.out)|exact HB.out)) hb);clear HO_6;clear HO_10;clear HO355;clear HO358;clear HO361;clear HO364;clear HO367;clear BK283;clear HB;have HO_6:=n0_;have HO_10:=n1_;have HO355:=n2_;have HO358:=n3_;have HO361:=n4_;have HO364:=n5_;have HO367:=n6_;have HO370:=n7_;have BK283:=n8_;have HB:=n9_;clear n0_ n1_ n2_ n3_ n4_ n5_ n6_ n7_ n8_ n9_;(try clear hb);(try clear hb2);(try clear hk);(try clear hi);(try clear ho0)))
             (try simp only [Act.put,List.setIfInBounds_toArray,List.set_cons_zero,List.set_cons_succ])
             go_cut [108] (fun v108 wc=>∃ (kq : Nat) (x108_91 : Bool),v108 = .bool x108_91∧Aside0 (laws_FnExactCloseSpace.j2 kq t351 t350 x108_91 = some r)∧Aside0 (kq ≤ kj58)∧Aside0 (Kd.S k91 91 wc w.heap.size (fun k_=>k_ < w94.heap.size∧k_ < w97.heap.size) (.slice Ao93 t320.length co93) t351)∧Aside0 (wc.heap[gb283]? = some (.cells #[(.slice A0_0 l0_0.length c0_0),(.slice A0_1 l0_1.length c0_1),(.slice A0_2 l0_2.length c0_2),(.slice A0_3 l0_3.length c0_3)] 26 (0,0)))∧Aside0 (Below w.heap.size w wc))
             case first =>
              have H:=HC92.out
              clear HC92
              replace H:=Option.bind_eq_some_iff.mp H
              obtain ⟨t372,A1040,H⟩:=H
              replace H : (if t372 = true then (laws_FnExactCloseSpace.j2 kj58 t351 t350 (t371 != t303)) else (laws_FnExactCloseSpace.j2 kj58 t351 t350 true)) = some r:=H
              have A104:=Aside0.mk A1040
              clear A1040
              by_cases c105 : t372 = true
              ·subst c105
               have H1 : (laws_FnExactCloseSpace.j2 kj58 t351 t350 (t371 != t303)) = some r:=by rw [if_pos rfl] at H;exact H
               clear H
               have H:=H1
               clear H1
               have H':=Aside0.mk H
               clear H
               obtain ⟨Ao106,co106,eo106⟩:=Kd.S_slice HO370.out
               subst eo106
               obtain ⟨Ao107,co107,eo107⟩:=Kd.S_slice HO_6.out
               subst eo107
               go_wp2_with (first|((with_reducible refine gate_callee (f:=39) rfl ?_);refine goesL_ (some 102) rfl rfl Try.func39 (by kernel_rfl) rfl #[.slice Ao106 t368.length co106,.slice Ao107 t300.length co107] rfl (by (try simp only [List.map_toArray,List.map_cons,List.map_nil]);first|done|rfl|(simp only [List.length_drop,List.length_take];rfl)) ?_;(with_reducible refine (laws_eqWriteS.calls kj58 _ _ t368 _ _ t300 true _ ?side1 ?side2 ?side3 ?side4 A104.out).mono ?_);(case side1=>repeat (first|exact (Kd.S_reads' HO370.out).2.2|(with_reducible first|apply Kd.C_alloc|apply Kd.C_drewN|apply Kd.C_drew)));(case side2=>exact (Kd.S_reads' HO370.out).2.1);(case side3=>repeat (first|exact (Kd.S_reads' HO_6.out).2.2|(with_reducible first|apply Kd.C_alloc|apply Kd.C_drewN|apply Kd.C_drew)));(case side4=>exact (Kd.S_reads' HO_6.out).2.1);rintro e w108 ⟨rfl,hb⟩;refine ⟨_,rfl,?_⟩;have n0_:=Aside0.mk (Kd.S_below (by (with_reducible repeat (first|apply Kd.S_alloc|apply Kd.S_drewN|apply Kd.S_drew));exact HO_6.out) hb);have n1_:=Aside0.mk (Kd.S_below (by (with_reducible repeat (first|apply Kd.S_alloc|apply Kd.S_drewN|apply Kd.S_drew));exact HO_10.out) hb);have n2_:=Aside0.mk (Kd.S_below (by (with_reducible repeat (first|apply Kd.S_alloc|apply Kd.S_drewN|apply Kd.S_drew));exact HO370.out) hb);have n3_:=Aside0.mk (blk_below (g:=gb283) (o:=.cells #[.slice A0_0 l0_0.length c0_0,.slice A0_1 l0_1.length c0_1,.slice A0_2 l0_2.length c0_2,.slice A0_3 l0_3.length c0_3] 26 (0,0)) (by (with_reducible repeat first|apply blk_drewN|apply blk_drew|apply blk_alloc);exact BK283.out) hb);have n4_:=Aside0.mk (below_step (by repeat (first|(with_reducible first|exact HB.out|apply below_alloc|apply pw_below_drewN|apply below_drew1|refine below_set ?_ GE283.out)|exact HB.out)) hb);clear HO_6;clear HO_10;clear HO370;clear BK283;clear HB;clear HO355;clear HO358;clear HO361;clear HO364;clear HO367;have HO_6:=n0_;have HO_10:=n1_;have HO370:=n2_;have BK283:=n3_;have HB:=n4_;clear n0_ n1_ n2_ n3_ n4_;(try clear hb);(try clear hb2);(try clear hk);(try clear hi)))
               go_meet
               case rel=>exact ⟨_,((t371 != t303)),(by first|rfl|(simp;done)|(simp [*];done)),H',⟨by have:=HJ15.out;have:=HJ58.out;first|omega|exact Nat.le_refl _⟩,⟨by (with_reducible repeat (first|apply Kd.S_alloc|apply Kd.S_drewN|apply Kd.S_drew));exact Kd.S_mono HO_10.out (fun _ hk=>⟨hk.1.1.1.2,hk.2⟩)⟩,⟨by (with_reducible repeat first|apply blk_drewN|apply blk_drew|apply blk_alloc);exact BK283.out⟩,⟨by repeat (first|(with_reducible first|exact HB.out|apply below_alloc|apply pw_below_drewN|apply below_drew1|refine below_set ?_ GE283.out)|exact HB.out)⟩⟩
              ·replace c105:=Bool.eq_false_iff.mpr c105
               subst c105
               have H1 : (laws_FnExactCloseSpace.j2 kj58 t351 t350 true) = some r:=by rw [if_neg (show ¬ (false = true) by decide)] at H;exact H
               clear H
               have H:=H1
               clear H1
               have H':=Aside0.mk H
               clear H
               obtain ⟨Ao109,co109,eo109⟩:=Kd.S_slice HO370.out
               subst eo109
               obtain ⟨Ao110,co110,eo110⟩:=Kd.S_slice HO_6.out
               subst eo110
               go_wp2_with (first|((with_reducible refine gate_callee (f:=39) rfl ?_);refine goesL_ (some 102) rfl rfl Try.func39 (by kernel_rfl) rfl #[.slice Ao109 t368.length co109,.slice Ao110 t300.length co110] rfl (by (try simp only [List.map_toArray,List.map_cons,List.map_nil]);first|done|rfl|(simp only [List.length_drop,List.length_take];rfl)) ?_;(with_reducible refine (laws_eqWriteS.calls kj58 _ _ t368 _ _ t300 false _ ?side1 ?side2 ?side3 ?side4 A104.out).mono ?_);(case side1=>repeat (first|exact (Kd.S_reads' HO370.out).2.2|(with_reducible first|apply Kd.C_alloc|apply Kd.C_drewN|apply Kd.C_drew)));(case side2=>exact (Kd.S_reads' HO370.out).2.1);(case side3=>repeat (first|exact (Kd.S_reads' HO_6.out).2.2|(with_reducible first|apply Kd.C_alloc|apply Kd.C_drewN|apply Kd.C_drew)));(case side4=>exact (Kd.S_reads' HO_6.out).2.1);rintro e w111 ⟨rfl,hb⟩;refine ⟨_,rfl,?_⟩;have n0_:=Aside0.mk (Kd.S_below (by (with_reducible repeat (first|apply Kd.S_alloc|apply Kd.S_drewN|apply Kd.S_drew));exact HO_6.out) hb);have n1_:=Aside0.mk (Kd.S_below (by (with_reducible repeat (first|apply Kd.S_alloc|apply Kd.S_drewN|apply Kd.S_drew));exact HO_10.out) hb);have n2_:=Aside0.mk (Kd.S_below (by (with_reducible repeat (first|apply Kd.S_alloc|apply Kd.S_drewN|apply Kd.S_drew));exact HO370.out) hb);have n3_:=Aside0.mk (blk_below (g:=gb283) (o:=.cells #[.slice A0_0 l0_0.length c0_0,.slice A0_1 l0_1.length c0_1,.slice A0_2 l0_2.length c0_2,.slice A0_3 l0_3.length c0_3] 26 (0,0)) (by (with_reducible repeat first|apply blk_drewN|apply blk_drew|apply blk_alloc);exact BK283.out) hb);have n4_:=Aside0.mk (below_step (by repeat (first|(with_reducible first|exact HB.out|apply below_alloc|apply pw_below_drewN|apply below_drew1|refine below_set ?_ GE283.out)|exact HB.out)) hb);clear HO_6;clear HO_10;clear HO370;clear BK283;clear HB;clear HO355;clear HO358;clear HO361;clear HO364;clear HO367;have HO_6:=n0_;have HO_10:=n1_;have HO370:=n2_;have BK283:=n3_;have HB:=n4_;clear n0_ n1_ n2_ n3_ n4_;(try clear hb);(try clear hb2);(try clear hk);(try clear hi)))
               go_meet
               case rel=>exact ⟨_,(true),(by first|rfl|(simp;done)|(simp [*];done)),H',⟨by have:=HJ15.out;have:=HJ58.out;first|omega|exact Nat.le_refl _⟩,⟨by (with_reducible repeat (first|apply Kd.S_alloc|apply Kd.S_drewN|apply Kd.S_drew));exact Kd.S_mono HO_10.out (fun _ hk=>⟨hk.1.1.1.2,hk.2⟩)⟩,⟨by (with_reducible repeat first|apply blk_drewN|apply blk_drew|apply blk_alloc);exact BK283.out⟩,⟨by repeat (first|(with_reducible first|exact HB.out|apply below_alloc|apply pw_below_drewN|apply below_drew1|refine below_set ?_ GE283.out)|exact HB.out)⟩⟩
             case rest =>
              clear HC92
              try clear c1;try clear c2;try clear p2;try clear c3;try clear c3b0;try clear c3b1;try clear c4;try clear c5;try clear c6;try clear c6b0;try clear c7;try clear c8;try clear c9;try clear c10;try clear c12;try clear c14;try clear c20;try clear c31;try clear c33;try clear c34;try clear c37;try clear c38;try clear c39;try clear c40;try clear c41;try clear c43;try clear c50;try clear c53;try clear c56;try clear c69;try clear c73;try clear c73b0;try clear c75;try clear c82;try clear c85;try clear c85b0;try clear c88;try clear c88b0;try clear c88b1;try clear c105;try clear hcz18_0;try clear hcz18_1;try clear hcz18_2;try clear hcz18_3;try clear hcz20_0;try clear hcz20_1;try clear hcz20_2;try clear hcz20_3;try clear hcz29_0;try clear hcz29_1;try clear hcz29_2;try clear hcz29_3;try clear hcz34_0;try clear hcz34_1;try clear hcz34_2;try clear hcz34_3;try clear hcz39_0;try clear hcz39_1;try clear hcz39_2;try clear hcz39_3;try clear hcz70_0;try clear hcz70_1;try clear hcz70_2;try clear hcz70_3;try clear hcz8_0;try clear hcz8_1;try clear hcz8_2;try clear hcz8_3;try clear hcz95_0;try clear hcz95_1;try clear hcz95_2;try clear hcz95_3;try clear hfz18_0;try clear hfz18_1;try clear hfz18_2;try clear hfz18_3;try clear hfz20_0;try clear hfz20_1;try clear hfz20_2;try clear hfz20_3;try clear hfz29_0;try clear hfz29_1;try clear hfz29_2;try clear hfz29_3;try clear hfz34_0;try clear hfz34_1;try clear hfz34_2;try clear hfz34_3;try clear hfz39_0;try clear hfz39_1;try clear hfz39_2;try clear hfz39_3;try clear hfz70_0;try clear hfz70_1;try clear hfz70_2;try clear hfz70_3;try clear hfz8_0;try clear hfz8_1;try clear hfz8_2;try clear hfz8_3;try clear hfz95_0;try clear hfz95_1;try clear hfz95_2;try clear hfz95_3;try clear p2
              obtain ⟨kq,x108_91,rfl,HA,HJ91,HO_10,BK283,HB⟩:=hcut
              have hl10_91:=(Kd.S_reads' HO_10.out).1
              rw [hl10_91] at HO_10
              (try simp only [hl10_91])
              (try simp only [hl10_91] at BK283)
              cases kq with
              | zero=>exact absurd HA.out (by simp [laws_FnExactCloseSpace.j2])
              | succ kj91 =>
               have H:=HA.out
               clear HA
               simp only [laws_FnExactCloseSpace.j2] at H
               by_cases c112 : x108_91 = true
               ·subst c112
                have H1 : (some false) = some r:=by rw [if_pos rfl] at H;exact H
                clear H
                have H:=H1
                clear H1
                obtain rfl:=Option.some.inj H
                go_wp2
                go_ret
                exact ⟨by first|rfl|(simp [*,errW_none,errW_some] <;> rfl),by repeat (first|(with_reducible first|exact HB.out|apply below_alloc|apply pw_below_drewN|apply below_drew1|refine below_set ?_ GE283.out)|exact HB.out)⟩
               ·replace c112:=Bool.eq_false_iff.mpr c112
                subst c112
                have H1 : ((laws_heldWriteS.f kj91 t351 1).bind fun t373=>(if t373 < 0 then (some false) else (if t373 = t350 then (some true) else (some false)))) = some r:=by rw [if_neg (show ¬ (false = true) by decide)] at H;exact H
                clear H
                have H:=H1
                clear H1
                replace H:=Option.bind_eq_some_iff.mp H
                obtain ⟨t373,A1130,H⟩:=H
                replace H : (if t373 < 0 then (some false) else (if t373 = t350 then (some true) else (some false))) = some r:=H
                have A113:=Aside0.mk A1130
                clear A1130
                by_cases c114 : t373 < 0
                ·rw [if_pos c114] at H
                 have c114b0 : decide (t373 < 0) = true:=decide_eq_true c114
                 clear c114
                 obtain rfl:=Option.some.inj H
                 go_wp2_with (first|((with_reducible refine gate_callee (f:=41) rfl ?_);refine goesL_ (some 111) rfl rfl Try.func41 (by kernel_rfl) rfl #[.slice Ao93 t351.length co93,.int .i64 1] rfl (by (try simp only [List.map_toArray,List.map_cons,List.map_nil]);first|done|rfl|(simp only [List.length_drop,List.length_take];rfl)) ?_;(with_reducible refine (laws_heldWriteS.calls kj91 _ _ t351 1 t373 _ ?side1 ?side2 A113.out).mono ?_);(case side1=>repeat (first|exact (Kd.S_reads' HO_10.out).2.2|(with_reducible first|apply Kd.C_alloc|apply Kd.C_drewN|apply Kd.C_drew)));(case side2=>exact (Kd.S_reads' HO_10.out).2.1);rintro e w' ⟨rfl,⟨nd,rfl⟩⟩;refine ⟨_,rfl,?_⟩))
                 go_ret
                 exact ⟨by first|rfl|(simp [*,errW_none,errW_some] <;> rfl),by repeat (first|(with_reducible first|exact HB.out|apply below_alloc|apply pw_below_drewN|apply below_drew1|refine below_set ?_ GE283.out)|exact HB.out)⟩
                ·rw [if_neg c114] at H
                 have c114b0 : decide (t373 < 0) = false:=decide_eq_false c114
                 clear c114
                 by_cases c115 : t373 = t350
                 ·rw [if_pos c115] at H
                  have c115b0 : (t373 == t350) = true:=beq_iff_eq.mpr c115
                  have c115b1 : (t373 != t350) = false:=bne_eq_false_iff_eq.mpr c115
                  clear c115
                  obtain rfl:=Option.some.inj H
                  go_wp2_with (first|((with_reducible refine gate_callee (f:=41) rfl ?_);refine goesL_ (some 111) rfl rfl Try.func41 (by kernel_rfl) rfl #[.slice Ao93 t351.length co93,.int .i64 1] rfl (by (try simp only [List.map_toArray,List.map_cons,List.map_nil]);first|done|rfl|(simp only [List.length_drop,List.length_take];rfl)) ?_;(with_reducible refine (laws_heldWriteS.calls kj91 _ _ t351 1 t373 _ ?side1 ?side2 A113.out).mono ?_);(case side1=>repeat (first|exact (Kd.S_reads' HO_10.out).2.2|(with_reducible first|apply Kd.C_alloc|apply Kd.C_drewN|apply Kd.C_drew)));(case side2=>exact (Kd.S_reads' HO_10.out).2.1);rintro e w' ⟨rfl,⟨nd,rfl⟩⟩;refine ⟨_,rfl,?_⟩))
                  go_ret
                  exact ⟨by first|rfl|(simp [*,errW_none,errW_some] <;> rfl),by repeat (first|(with_reducible first|exact HB.out|apply below_alloc|apply pw_below_drewN|apply below_drew1|refine below_set ?_ GE283.out)|exact HB.out)⟩
                 ·rw [if_neg c115] at H
                  have c115b0 : (t373 == t350) = false:=beq_eq_false_iff_ne.mpr c115
                  have c115b1 : (t373 != t350) = true:=bne_iff_ne.mpr c115
                  obtain rfl:=Option.some.inj H
                  go_wp2_with (first|((with_reducible refine gate_callee (f:=41) rfl ?_);refine goesL_ (some 111) rfl rfl Try.func41 (by kernel_rfl) rfl #[.slice Ao93 t351.length co93,.int .i64 1] rfl (by (try simp only [List.map_toArray,List.map_cons,List.map_nil]);first|done|rfl|(simp only [List.length_drop,List.length_take];rfl)) ?_;(with_reducible refine (laws_heldWriteS.calls kj91 _ _ t351 1 t373 _ ?side1 ?side2 A113.out).mono ?_);(case side1=>repeat (first|exact (Kd.S_reads' HO_10.out).2.2|(with_reducible first|apply Kd.C_alloc|apply Kd.C_drewN|apply Kd.C_drew)));(case side2=>exact (Kd.S_reads' HO_10.out).2.1);rintro e w' ⟨rfl,⟨nd,rfl⟩⟩;refine ⟨_,rfl,?_⟩))
                  go_ret
                  exact ⟨by first|rfl|(simp [*,errW_none,errW_some] <;> rfl),by repeat (first|(with_reducible first|exact HB.out|apply below_alloc|apply pw_below_drewN|apply below_drew1|refine below_set ?_ GE283.out)|exact HB.out)⟩
            ·rw [if_neg c88] at H
             have c88b0 : (t352 == t350) = false:=beq_eq_false_iff_ne.mpr c88
             have c88b1 : (t352 != t350) = true:=bne_iff_ne.mpr c88
             obtain rfl:=Option.some.inj H
             obtain ⟨Ao116,co116,eo116⟩:=Kd.S_slice HO_10.out
             subst eo116
             go_wp2_with (first|((with_reducible refine gate_callee (f:=40) rfl ?_);refine goesL_ (some 83) rfl rfl Try.func40 (by kernel_rfl) rfl #[.slice Ao116 t320.length co116,.int .i64 1] rfl (by (try simp only [List.map_toArray,List.map_cons,List.map_nil]);first|done|rfl|(simp only [List.length_drop,List.length_take];rfl)) ?_;(with_reducible refine (laws_markWriteS.calls kj58 (SB_ k91 91 wc w.heap.size (fun k_=>(some k_ ≠ (v301 : Value).ownBlock∧(w38.heap.size ≤ k_∧k_ < w60.heap.size)))) (.slice Ao116 t320.length co116) t320 1 t350 t351 w _ ?side1 ?side2 A83.out).mono ?_);(case side1=>repeat (first|(with_reducible first|exact HB.out|apply below_alloc|apply pw_below_drewN|apply below_drew1|refine below_set ?_ GE283.out)|exact HB.out));(case side2=>exact SB_own HO_10.out);rintro e w117 ⟨rfl,hy0,hb,hkp⟩;refine ⟨_,rfl,?_⟩;have n0_:=Aside0.mk (Kd.S_mono (ok':=fun k_=>some k_ ≠ (v301 : Value).ownBlock) hy0 (fun k_ h_=>Or.elim h_ (fun p_=>p_.1.1) (fun n_=>(Kd.fresh' (Kd.S_lt (by (with_reducible repeat (first|apply Kd.S_alloc|apply Kd.S_drewN|apply Kd.S_drew));exact HO_6.out)) k_ n_))));have n1_:=Aside0.mk (blk_kept (g:=gb283) (o:=.cells #[.slice A0_0 l0_0.length c0_0,.slice A0_1 l0_1.length c0_1,.slice A0_2 l0_2.length c0_2,.slice A0_3 l0_3.length c0_3] 26 (0,0)) (by (with_reducible repeat first|apply blk_drewN|apply blk_drew|apply blk_alloc);exact BK283.out) hkp (fun hs_=>(fun e_=>(blk_SB BK283.out (by decide)) e_) hs_));have n2_:=Aside0.mk (hb);clear HO_10;clear BK283;clear HB;clear HO_6;have HO_10:=n0_;have BK283:=n1_;have HB:=n2_;clear n0_ n1_ n2_;(try clear hb);(try clear hkp);(try clear hbx);(try clear hy0))|((with_reducible refine gate_callee (f:=41) rfl ?_);refine goesL_ (some 86) rfl rfl Try.func41 (by kernel_rfl) rfl #[.slice Ao116 t351.length co116,.int .i64 1] rfl (by (try simp only [List.map_toArray,List.map_cons,List.map_nil]);first|done|(rw [show t351.length = t320.length from (Kd.S_reads' HO_10.out).1.symm] <;> rfl)|rfl|(simp only [List.length_drop,List.length_take];rfl)) ?_;(with_reducible refine (laws_heldWriteS.calls kj58 _ _ t351 1 t352 _ ?side1 ?side2 A84.out).mono ?_);(case side1=>repeat (first|exact (Kd.S_reads' HO_10.out).2.2|(with_reducible first|apply Kd.C_alloc|apply Kd.C_drewN|apply Kd.C_drew)));(case side2=>rw [show t351.length = t320.length from (Kd.S_reads' HO_10.out).1.symm];exact (Kd.S_reads' HO_10.out).2.1);rintro e w' ⟨rfl,⟨nd,rfl⟩⟩;refine ⟨_,rfl,?_⟩))
             go_ret
             exact ⟨by first|rfl|(simp [*,errW_none,errW_some] <;> rfl),by repeat (first|(with_reducible first|exact HB.out|apply below_alloc|apply pw_below_drewN|apply below_drew1|refine below_set ?_ GE283.out)|exact HB.out)⟩
       ·replace c56:=Bool.eq_false_iff.mpr c56
        subst c56
        have H1 : (some false) = some r:=by rw [if_neg (show ¬ (false = true) by decide)] at H;exact H
        clear H
        have H:=H1
        clear H1
        obtain rfl:=Option.some.inj H
        try go_wp2
        have n0_:=Aside0.mk (Kd.R_drew HO_9.out)
        have n1_:=Aside0.mk (Kd.S_drew HO_317000.out)
        have n2_:=Aside0.mk (Kd.R_drew HO_317001.out)
        have n3_:=Aside0.mk (Kd.R_drew HO_317002.out)
        have n4_:=Aside0.mk (Kd.R_drew HO_317003.out)
        have n5_:=Aside0.mk (blk_drew BK283.out)
        have n6_:=Aside0.mk (blk_drew BK316.out)
        have n7_:=Aside0.mk (below_drew1 HB.out)
        clear HO_9
        clear HO_317000
        clear HO_317001
        clear HO_317002
        clear HO_317003
        clear BK283
        clear BK316
        clear HB
        clear HO_6
        clear HO_10
        have HO_9:=n0_
        have HO_317000:=n1_
        have HO_317001:=n2_
        have HO_317002:=n3_
        have HO_317003:=n4_
        have BK283:=n5_
        have BK316:=n6_
        have HB:=n7_
        clear n0_ n1_ n2_ n3_ n4_ n5_ n6_ n7_
        refine start_ (n:=5) (S:=fun w'=>w'.cell? ⟨gb316,0,none⟩ = some (.slice Ao32 t304.length co32)∧w'.cell? ⟨gb316,1,none⟩ = some (.slice Ao35 t307.length co35)∧w'.cell? ⟨gb316,2,none⟩ = some (.slice Ao36 t310.length co36)∧w'.cell? ⟨gb316,3,none⟩ = some (.slice Ao37 t313.length co37)∧w'.cell? ⟨gb283,0,none⟩ = some (.slice A0_0 l0_0.length c0_0)∧w'.cell? ⟨gb283,1,none⟩ = some (.slice A0_1 l0_1.length c0_1)∧w'.cell? ⟨gb283,2,none⟩ = some (.slice A0_2 l0_2.length c0_2)∧w'.cell? ⟨gb283,3,none⟩ = some (.slice A0_3 l0_3.length c0_3)) (ds:=[]) #[false,false,false,false,false] (by kernel_rfl) rfl rfl ⟨(blk_cell BK316.out 0).trans rfl,(blk_cell BK316.out 1).trans rfl,(blk_cell BK316.out 2).trans rfl,(blk_cell BK316.out 3).trans rfl,(blk_cell BK283.out 0).trans rfl,(blk_cell BK283.out 1).trans rfl,(blk_cell BK283.out 2).trans rfl,(blk_cell BK283.out 3).trans rfl⟩ (fun hHeld=>?_)
        generalize wc.drew = w118 at HO_9 HO_317000 HO_317001 HO_317002 HO_317003 BK283 BK316 HB hHeld ⊢
        refine take_ (i:=0) (N:=some 52) (v:=?_) (a':=?_) #[true,false,false,false,false] rfl rfl (by kernel_rfl) (fun _ _ _ h=>h) (Or.inl ⟨by rfl,?_⟩) hHeld ?_ ?_
        rotate_left
        ·rintro w' ⟨s0,s1,s2,s3,s4,s5,s6,s7⟩
         go_simp
         with_reducible rfl
        rotate_left
        ·simp only [Act.put,List.setIfInBounds_toArray,List.set_cons_zero,List.set_cons_succ,i64_w,i32_w]
         rfl
        refine take_ (i:=1) (N:=some 53) (v:=?_) (a':=?_) #[true,true,false,false,false] rfl rfl (by kernel_rfl) (fun _ _ _ h=>h) (Or.inl ⟨by rfl,?_⟩) hHeld ?_ ?_
        rotate_left
        ·rintro w' ⟨s0,s1,s2,s3,s4,s5,s6,s7⟩
         go_simp
         with_reducible rfl
        rotate_left
        ·simp only [Act.put,List.setIfInBounds_toArray,List.set_cons_zero,List.set_cons_succ,i64_w,i32_w]
         rfl
        refine one_ (i:=2) (N:=some 54) #[true,true,true,false,false] rfl rfl (by kernel_rfl) (by decide) (fun K hK=>?_)
        refine goes_ Try.func12 (by kernel_rfl) rfl #[.agg #[.slice A0_0 l0_0.length c0_0,.slice A0_1 l0_1.length c0_1,.slice A0_2 l0_2.length c0_2,.slice A0_3 l0_3.length c0_3]] (by rfl) rfl rfl (by (try simp only [List.map_toArray,List.map_cons,List.map_nil]);first|done|rfl|(simp only [List.length_drop,List.length_take];rfl)) ?_
        with_reducible refine (laws_toSpace.calls kj15 _ _ l0_0 _ _ l0_1 _ _ l0_2 _ _ l0_3 t325 t328 t331 t334 _ ?side1 ?side2 ?side3 ?side4 ?side5 ?side6 ?side7 ?side8 A51.out).mono ?_
        (case side1=>repeat (first|exact (Kd.C_below HR0_0.out HB.out)|(with_reducible first|apply Kd.C_alloc|apply Kd.C_drewN|apply Kd.C_drew)))
        (case side2=>exact HC0_0.out)
        (case side3=>repeat (first|exact (Kd.C_below HR0_1.out HB.out)|(with_reducible first|apply Kd.C_alloc|apply Kd.C_drewN|apply Kd.C_drew)))
        (case side4=>exact HC0_1.out)
        (case side5=>repeat (first|exact (Kd.C_below HR0_2.out HB.out)|(with_reducible first|apply Kd.C_alloc|apply Kd.C_drewN|apply Kd.C_drew)))
        (case side6=>exact HC0_2.out)
        (case side7=>repeat (first|exact (Kd.C_below HR0_3.out HB.out)|(with_reducible first|apply Kd.C_alloc|apply Kd.C_drewN|apply Kd.C_drew)))
        (case side8=>exact HC0_3.out)
        rintro e w119 ⟨v326,v329,v332,v335,rfl,ho0,ho1,ho2,ho3,hb⟩
        refine ⟨_,rfl,?_⟩
        have n0_:=Aside0.mk (Kd.R_elder' (by (with_reducible repeat (first|apply Kd.R_alloc|apply Kd.R_drewN|apply Kd.R_drew));exact HO_9.out) (Kd.R_base ho1) hb)
        have n1_:=Aside0.mk (Kd.S_told (Kd.S_told (Kd.S_old (by (with_reducible repeat (first|apply Kd.S_alloc|apply Kd.S_drewN|apply Kd.S_drew));exact HO_317000.out) hb) (Kd.S_base ho0)) (Kd.R_base ho1))
        have n2_:=Aside0.mk (Kd.R_elder' (by (with_reducible repeat (first|apply Kd.R_alloc|apply Kd.R_drewN|apply Kd.R_drew));exact HO_317001.out) (Kd.R_base ho1) hb)
        have n3_:=Aside0.mk (Kd.R_mono (Kd.R_told (Kd.R_told (Kd.R_old (by (with_reducible repeat (first|apply Kd.R_alloc|apply Kd.R_drewN|apply Kd.R_drew));exact HO_317002.out) hb) (Kd.R_base ho2)) (Kd.R_base ho3)) (fun _ h_=>h_.1))
        have n4_:=Aside0.mk (Kd.R_mono (Kd.R_told (Kd.R_told (Kd.R_old (by (with_reducible repeat (first|apply Kd.R_alloc|apply Kd.R_drewN|apply Kd.R_drew));exact HO_317003.out) hb) (Kd.R_base ho2)) (Kd.R_base ho3)) (fun _ h_=>h_.1))
        have n5_:=Aside0.mk (Kd.S_lower (Kd.S_new' (Kd.S_new' (Kd.S_new' (Kd.S_mono (Kd.S_bound ho0) (fun k_ h_=>(⟨h_.1,(by first|exact h_.2.1|simpa only [World.size_setCell] using h_.2.1)⟩ : _∧w118.heap.size ≤ k_))) (Kd.R_lt (by (with_reducible repeat (first|apply Kd.R_alloc|apply Kd.R_drewN|apply Kd.R_drew));exact HO_9.out))) (Kd.S_lt (by (with_reducible repeat (first|apply Kd.S_alloc|apply Kd.S_drewN|apply Kd.S_drew));exact HO_317000.out))) (Kd.R_lt (by (with_reducible repeat (first|apply Kd.R_alloc|apply Kd.R_drewN|apply Kd.R_drew));exact HO_317001.out))) (below_size (by repeat (first|(with_reducible first|exact HB.out|apply below_alloc|apply pw_below_drewN|apply below_drew1|refine below_set ?_ GE283.out|refine below_set ?_ GE316.out)|exact HB.out))))
        have n6_:=Aside0.mk (Kd.R_lower (Kd.R_new' (Kd.R_new' ho1 (Kd.R_lt (by (with_reducible repeat (first|apply Kd.R_alloc|apply Kd.R_drewN|apply Kd.R_drew));exact HO_9.out))) (Kd.R_lt (by (with_reducible repeat (first|apply Kd.R_alloc|apply Kd.R_drewN|apply Kd.R_drew));exact HO_317001.out))) (below_size (by repeat (first|(with_reducible first|exact HB.out|apply below_alloc|apply pw_below_drewN|apply below_drew1|refine below_set ?_ GE283.out|refine below_set ?_ GE316.out)|exact HB.out))))
        have n7_:=Aside0.mk (Kd.R_lower (Kd.R_new' (Kd.R_new' ho2 (Kd.R_lt (by (with_reducible repeat (first|apply Kd.R_alloc|apply Kd.R_drewN|apply Kd.R_drew));exact HO_317002.out))) (Kd.R_lt (by (with_reducible repeat (first|apply Kd.R_alloc|apply Kd.R_drewN|apply Kd.R_drew));exact HO_317003.out))) (below_size (by repeat (first|(with_reducible first|exact HB.out|apply below_alloc|apply pw_below_drewN|apply below_drew1|refine below_set ?_ GE283.out|refine below_set ?_ GE316.out)|exact HB.out))))
        have n8_:=Aside0.mk (Kd.R_lower (Kd.R_new' (Kd.R_new' ho3 (Kd.R_lt (by (with_reducible repeat (first|apply Kd.R_alloc|apply Kd.R_drewN|apply Kd.R_drew));exact HO_317002.out))) (Kd.R_lt (by (with_reducible repeat (first|apply Kd.R_alloc|apply Kd.R_drewN|apply Kd.R_drew));exact HO_317003.out))) (below_size (by repeat (first|(with_reducible first|exact HB.out|apply below_alloc|apply pw_below_drewN|apply below_drew1|refine below_set ?_ GE283.out|refine below_set ?_ GE316.out)|exact HB.out))))
        have n9_:=Aside0.mk (blk_below (g:=gb283) (o:=.cells #[.slice A0_0 l0_0.length c0_0,.slice A0_1 l0_1.length c0_1,.slice A0_2 l0_2.length c0_2,.slice A0_3 l0_3.length c0_3] 26 (0,0)) (by (with_reducible repeat first|apply blk_drewN|apply blk_drew|apply blk_alloc);exact BK283.out) hb)
        have n10_:=Aside0.mk (blk_below (g:=gb316) (o:=.cells #[.slice Ao32 t304.length co32,.slice Ao35 t307.length co35,.slice Ao36 t310.length co36,.slice Ao37 t313.length co37] 29 (0,0)) (by (with_reducible repeat first|apply blk_drewN|apply blk_drew|apply blk_alloc);exact BK316.out) hb)
        have n11_:=Aside0.mk (below_step (by repeat (first|(with_reducible first|exact HB.out|apply below_alloc|apply pw_below_drewN|apply below_drew1|refine below_set ?_ GE283.out|refine below_set ?_ GE316.out)|exact HB.out)) hb)
        clear HO_9
        clear HO_317000
        clear HO_317001
        clear HO_317002
        clear HO_317003
        clear BK283
        clear BK316
        clear HB
        have HO_9:=n0_
        have HO_317000:=n1_
        have HO_317001:=n2_
        have HO_317002:=n3_
        have HO_317003:=n4_
        have HO327:=n5_
        have HO330:=n6_
        have HO333:=n7_
        have HO336:=n8_
        have BK283:=n9_
        have BK316:=n10_
        have HB:=n11_
        clear n0_ n1_ n2_ n3_ n4_ n5_ n6_ n7_ n8_ n9_ n10_ n11_
        (try clear hb)
        (try clear hb2)
        (try clear hk)
        (try clear hi)
        (try clear ho0)
        (try clear ho1)
        (try clear ho2)
        (try clear ho3)
        obtain ⟨Ao120,co120,eo120⟩:=Kd.S_slice HO327.out
        (first|subst eo120|(injection eo120 with f1_ f2_ f3_;have f4_:=f1_.symm;have f5_:=f3_.symm;clear f1_ f2_ f3_;subst f4_;subst f5_))
        obtain ⟨Ao121,co121,eo121⟩:=Kd.R_slice HO330.out
        (first|subst eo121|(injection eo121 with f1_ f2_ f3_;have f4_:=f1_.symm;have f5_:=f3_.symm;clear f1_ f2_ f3_;subst f4_;subst f5_))
        obtain ⟨Ao122,co122,eo122⟩:=Kd.R_slice HO333.out
        (first|subst eo122|(injection eo122 with f1_ f2_ f3_;have f4_:=f1_.symm;have f5_:=f3_.symm;clear f1_ f2_ f3_;subst f4_;subst f5_))
        obtain ⟨Ao123,co123,eo123⟩:=Kd.R_slice HO336.out
        (first|subst eo123|(injection eo123 with f1_ f2_ f3_;have f4_:=f1_.symm;have f5_:=f3_.symm;clear f1_ f2_ f3_;subst f4_;subst f5_))
        refine hK.out _ _ ⟨(blk_cell BK316.out 0).trans rfl,(blk_cell BK316.out 1).trans rfl,(blk_cell BK316.out 2).trans rfl,(blk_cell BK316.out 3).trans rfl,(blk_cell BK283.out 0).trans rfl,(blk_cell BK283.out 1).trans rfl,(blk_cell BK283.out 2).trans rfl,(blk_cell BK283.out 3).trans rfl⟩ (fun hHeld=>?_)
        clear hK K
        refine norm_ (a':=?_) ?_ ?_
        rotate_left
        ·show Act.put _ (some 54) _ = _
         simp only [Act.put,List.setIfInBounds_toArray,List.set_cons_zero,List.set_cons_succ,i64_w,i32_w]
         rfl
        refine one_ (i:=3) (N:=some 55) #[true,true,true,true,false] rfl rfl (by kernel_rfl) (by decide) (fun K hK=>?_)
        refine goes_ Try.func14 (by kernel_rfl) rfl #[.agg #[.slice Ao32 t304.length co32,.slice Ao35 t307.length co35,.slice Ao36 t310.length co36,.slice Ao37 t313.length co37],.agg #[.slice Ao120 t325.length co120,.slice Ao121 t328.length co121,.slice Ao122 t331.length co122,.slice Ao123 t334.length co123]] (by rfl) rfl rfl (by (try simp only [List.map_toArray,List.map_cons,List.map_nil]);first|done|rfl|(simp only [List.length_drop,List.length_take];rfl)) ?_
        with_reducible refine (laws_eqSpace.calls kj15 _ _ t304 _ _ t307 _ _ t310 _ _ t313 _ _ t325 _ _ t328 _ _ t331 _ _ t334 true _ ?side1 ?side2 ?side3 ?side4 ?side5 ?side6 ?side7 ?side8 ?side9 ?side10 ?side11 ?side12 ?side13 ?side14 ?side15 ?side16 A52.out).mono ?_
        (case side1=>repeat (first|exact (Kd.S_reads' HO_317000.out).2.2|(with_reducible first|apply Kd.C_alloc|apply Kd.C_drewN|apply Kd.C_drew)))
        (case side2=>exact (Kd.S_reads' HO_317000.out).2.1)
        (case side3=>repeat (first|exact (Kd.R_reads' HO_317001.out).2.2|(with_reducible first|apply Kd.C_alloc|apply Kd.C_drewN|apply Kd.C_drew)))
        (case side4=>exact (Kd.R_reads' HO_317001.out).2.1)
        (case side5=>repeat (first|exact (Kd.R_reads' HO_317002.out).2.2|(with_reducible first|apply Kd.C_alloc|apply Kd.C_drewN|apply Kd.C_drew)))
        (case side6=>exact (Kd.R_reads' HO_317002.out).2.1)
        (case side7=>repeat (first|exact (Kd.R_reads' HO_317003.out).2.2|(with_reducible first|apply Kd.C_alloc|apply Kd.C_drewN|apply Kd.C_drew)))
        (case side8=>exact (Kd.R_reads' HO_317003.out).2.1)
        (case side9=>repeat (first|exact (Kd.S_reads' HO327.out).2.2|(with_reducible first|apply Kd.C_alloc|apply Kd.C_drewN|apply Kd.C_drew)))
        (case side10=>exact (Kd.S_reads' HO327.out).2.1)
        (case side11=>repeat (first|exact (Kd.R_reads' HO330.out).2.2|(with_reducible first|apply Kd.C_alloc|apply Kd.C_drewN|apply Kd.C_drew)))
        (case side12=>exact (Kd.R_reads' HO330.out).2.1)
        (case side13=>repeat (first|exact (Kd.R_reads' HO333.out).2.2|(with_reducible first|apply Kd.C_alloc|apply Kd.C_drewN|apply Kd.C_drew)))
        (case side14=>exact (Kd.R_reads' HO333.out).2.1)
        (case side15=>repeat (first|exact (Kd.R_reads' HO336.out).2.2|(with_reducible first|apply Kd.C_alloc|apply Kd.C_drewN|apply Kd.C_drew)))
        (case side16=>exact (Kd.R_reads' HO336.out).2.1)
        rintro e w124 ⟨rfl,hb⟩
        refine ⟨_,rfl,?_⟩
        have n0_:=Aside0.mk (Kd.R_below (by (with_reducible repeat (first|apply Kd.R_alloc|apply Kd.R_drewN|apply Kd.R_drew));exact HO_9.out) hb)
        have n1_:=Aside0.mk (Kd.S_below (by (with_reducible repeat (first|apply Kd.S_alloc|apply Kd.S_drewN|apply Kd.S_drew));exact HO_317000.out) hb)
        have n2_:=Aside0.mk (Kd.R_below (by (with_reducible repeat (first|apply Kd.R_alloc|apply Kd.R_drewN|apply Kd.R_drew));exact HO_317001.out) hb)
        have n3_:=Aside0.mk (Kd.R_below (by (with_reducible repeat (first|apply Kd.R_alloc|apply Kd.R_drewN|apply Kd.R_drew));exact HO_317002.out) hb)
        have n4_:=Aside0.mk (Kd.R_below (by (with_reducible repeat (first|apply Kd.R_alloc|apply Kd.R_drewN|apply Kd.R_drew));exact HO_317003.out) hb)
        have n5_:=Aside0.mk (Kd.S_below (by (with_reducible repeat (first|apply Kd.S_alloc|apply Kd.S_drewN|apply Kd.S_drew));exact HO327.out) hb)
        have n6_:=Aside0.mk (Kd.R_below (by (with_reducible repeat (first|apply Kd.R_alloc|apply Kd.R_drewN|apply Kd.R_drew));exact HO330.out) hb)
        have n7_:=Aside0.mk (Kd.R_below (by (with_reducible repeat (first|apply Kd.R_alloc|apply Kd.R_drewN|apply Kd.R_drew));exact HO333.out) hb)
        have n8_:=Aside0.mk (Kd.R_below (by (with_reducible repeat (first|apply Kd.R_alloc|apply Kd.R_drewN|apply Kd.R_drew));exact HO336.out) hb)
        have n9_:=Aside0.mk (blk_below (g:=gb283) (o:=.cells #[.slice A0_0 l0_0.length c0_0,.slice A0_1 l0_1.length c0_1,.slice A0_2 l0_2.length c0_2,.slice A0_3 l0_3.length c0_3] 26 (0,0)) (by (with_reducible repeat first|apply blk_drewN|apply blk_drew|apply blk_alloc);exact BK283.out) hb)
        have n10_:=Aside0.mk (blk_below (g:=gb316) (o:=.cells #[.slice Ao32 t304.length co32,.slice Ao35 t307.length co35,.slice Ao36 t310.length co36,.slice Ao37 t313.length co37] 29 (0,0)) (by (with_reducible repeat first|apply blk_drewN|apply blk_drew|apply blk_alloc);exact BK316.out) hb)
        have n11_:=Aside0.mk (below_step (by repeat (first|(with_reducible first|exact HB.out|apply below_alloc|apply pw_below_drewN|apply below_drew1|refine below_set ?_ GE283.out|refine below_set ?_ GE316.out)|exact HB.out)) hb)
        clear HO_9
        clear HO_317000
        clear HO_317001
        clear HO_317002
        clear HO_317003
        clear HO327
        clear HO330
        clear HO333
        clear HO336
        clear BK283
        clear BK316
        clear HB
        have HO_9:=n0_
        have HO_317000:=n1_
        have HO_317001:=n2_
        have HO_317002:=n3_
        have HO_317003:=n4_
        have HO327:=n5_
        have HO330:=n6_
        have HO333:=n7_
        have HO336:=n8_
        have BK283:=n9_
        have BK316:=n10_
        have HB:=n11_
        clear n0_ n1_ n2_ n3_ n4_ n5_ n6_ n7_ n8_ n9_ n10_ n11_
        (try clear hb)
        (try clear hb2)
        (try clear hk)
        (try clear hi)
        refine hK.out _ _ ⟨(blk_cell BK316.out 0).trans rfl,(blk_cell BK316.out 1).trans rfl,(blk_cell BK316.out 2).trans rfl,(blk_cell BK316.out 3).trans rfl,(blk_cell BK283.out 0).trans rfl,(blk_cell BK283.out 1).trans rfl,(blk_cell BK283.out 2).trans rfl,(blk_cell BK283.out 3).trans rfl⟩ (fun hHeld=>?_)
        clear hK K
        refine norm_ (a':=?_) ?_ ?_
        rotate_left
        ·show Act.put _ (some 55) _ = _
         simp only [Act.put,List.setIfInBounds_toArray,List.set_cons_zero,List.set_cons_succ,i64_w,i32_w]
         rfl
        refine pure_ (i:=4) (N:=some 56) (v:=?_) (a':=?_) #[true,true,true,true,true] rfl rfl (by kernel_rfl) (fun _ _ _ h=>h) (Or.inl ⟨by rfl,?_⟩) ?_ ?_
        rotate_left
        ·intro w'
         go_simp
         with_reducible rfl
        rotate_left
        ·simp only [Act.put,List.setIfInBounds_toArray,List.set_cons_zero,List.set_cons_succ,i64_w,i32_w]
         rfl
        refine done_ (by kernel_rfl) ?_
        try go_wp2_with (first|((with_reducible refine gate_callee (f:=31) rfl ?_);refine goesL_ (some 59) rfl rfl Try.func31 (by kernel_rfl) rfl #[.slice A1 l1.length c1] rfl (by (try simp only [List.map_toArray,List.map_cons,List.map_nil]);first|done|rfl|(simp only [List.length_drop,List.length_take];rfl)) ?_;(with_reducible refine (laws_toByteS.calls kj15 _ _ l1 t338 _ ?side1 ?side2 A54.out).mono ?_);(case side1=>repeat (first|exact (Kd.C_below HR1.out HB.out)|(with_reducible first|apply Kd.C_alloc|apply Kd.C_drewN|apply Kd.C_drew)));(case side2=>exact HC1.out);rintro e w125 ⟨v339,rfl,ho0,hb⟩;refine ⟨_,rfl,?_⟩;have n0_:=Aside0.mk (Kd.R_elder' (by (with_reducible repeat (first|apply Kd.R_alloc|apply Kd.R_drewN|apply Kd.R_drew));exact HO_9.out) (Kd.R_base ho0) hb);have n1_:=Aside0.mk (Kd.R_lower (Kd.R_new' (Kd.R_new' (Kd.R_new' ho0 (Kd.R_lt (by (with_reducible repeat (first|apply Kd.R_alloc|apply Kd.R_drewN|apply Kd.R_drew));exact HO_9.out))) (Kd.R_lt (by (with_reducible repeat (first|apply Kd.R_alloc|apply Kd.R_drewN|apply Kd.R_drew));exact HO_317001.out))) (Kd.R_lt (by (with_reducible repeat (first|apply Kd.R_alloc|apply Kd.R_drewN|apply Kd.R_drew));exact HO330.out))) (below_size (by repeat (first|(with_reducible first|exact HB.out|apply below_alloc|apply pw_below_drewN|apply below_drew1|refine below_set ?_ GE283.out|refine below_set ?_ GE316.out)|exact HB.out))));have n2_:=Aside0.mk (blk_below (g:=gb283) (o:=.cells #[.slice A0_0 l0_0.length c0_0,.slice A0_1 l0_1.length c0_1,.slice A0_2 l0_2.length c0_2,.slice A0_3 l0_3.length c0_3] 26 (0,0)) (by (with_reducible repeat first|apply blk_drewN|apply blk_drew|apply blk_alloc);exact BK283.out) hb);have n3_:=Aside0.mk (blk_below (g:=gb316) (o:=.cells #[.slice Ao32 t304.length co32,.slice Ao35 t307.length co35,.slice Ao36 t310.length co36,.slice Ao37 t313.length co37] 29 (0,0)) (by (with_reducible repeat first|apply blk_drewN|apply blk_drew|apply blk_alloc);exact BK316.out) hb);have n4_:=Aside0.mk (below_step (by repeat (first|(with_reducible first|exact HB.out|apply below_alloc|apply pw_below_drewN|apply below_drew1|refine below_set ?_ GE283.out|refine below_set ?_ GE316.out)|exact HB.out)) hb);clear HO_9;clear BK283;clear BK316;clear HB;clear HO_317000;clear HO_317001;clear HO_317002;clear HO_317003;clear HO327;clear HO330;clear HO333;clear HO336;have HO_9:=n0_;have HO340:=n1_;have BK283:=n2_;have BK316:=n3_;have HB:=n4_;clear n0_ n1_ n2_ n3_ n4_;(try clear hb);(try clear hb2);(try clear hk);(try clear hi);(try clear ho0);obtain ⟨Ao126,co126,eo126⟩:=Kd.R_slice HO340.out;subst eo126)|((with_reducible refine gate_callee (f:=33) rfl ?_);refine goesL_ (some 60) rfl rfl Try.func33 (by kernel_rfl) rfl #[.slice Ao40 t317.length co40,.slice Ao126 t338.length co126] rfl (by (try simp only [List.map_toArray,List.map_cons,List.map_nil]);first|done|rfl|(simp only [List.length_drop,List.length_take];rfl)) ?_;(with_reducible refine (laws_eqByteS.calls kj15 _ _ t317 _ _ t338 false _ ?side1 ?side2 ?side3 ?side4 A55.out).mono ?_);(case side1=>repeat (first|exact (Kd.R_reads' HO_9.out).2.2|(with_reducible first|apply Kd.C_alloc|apply Kd.C_drewN|apply Kd.C_drew)));(case side2=>exact (Kd.R_reads' HO_9.out).2.1);(case side3=>repeat (first|exact (Kd.R_reads' HO340.out).2.2|(with_reducible first|apply Kd.C_alloc|apply Kd.C_drewN|apply Kd.C_drew)));(case side4=>exact (Kd.R_reads' HO340.out).2.1);rintro e w' ⟨rfl,⟨nd,rfl⟩⟩;refine ⟨_,rfl,?_⟩))
        go_ret
        exact ⟨by first|rfl|(simp [*,errW_none,errW_some] <;> rfl),by repeat (first|(with_reducible first|exact HB.out|apply below_alloc|apply pw_below_drewN|apply below_drew1|refine below_set ?_ GE283.out|refine below_set ?_ GE316.out)|exact HB.out)⟩
      ·replace c53:=Bool.eq_false_iff.mpr c53
       subst c53
       have H1 : (some false) = some r:=by rw [if_neg (show ¬ (false = true) by decide)] at H;exact H
       clear H
       have H:=H1
       clear H1
       obtain rfl:=Option.some.inj H
       try go_wp2
       have n0_:=Aside0.mk (Kd.S_drew HO_317000.out)
       have n1_:=Aside0.mk (Kd.R_drew HO_317001.out)
       have n2_:=Aside0.mk (Kd.R_drew HO_317002.out)
       have n3_:=Aside0.mk (Kd.R_drew HO_317003.out)
       have n4_:=Aside0.mk (blk_drew BK283.out)
       have n5_:=Aside0.mk (blk_drew BK316.out)
       have n6_:=Aside0.mk (below_drew1 HB.out)
       clear HO_317000
       clear HO_317001
       clear HO_317002
       clear HO_317003
       clear BK283
       clear BK316
       clear HB
       clear HO_6
       clear HO_9
       clear HO_10
       have HO_317000:=n0_
       have HO_317001:=n1_
       have HO_317002:=n2_
       have HO_317003:=n3_
       have BK283:=n4_
       have BK316:=n5_
       have HB:=n6_
       clear n0_ n1_ n2_ n3_ n4_ n5_ n6_
       refine start_ (n:=5) (S:=fun w'=>w'.cell? ⟨gb316,0,none⟩ = some (.slice Ao32 t304.length co32)∧w'.cell? ⟨gb316,1,none⟩ = some (.slice Ao35 t307.length co35)∧w'.cell? ⟨gb316,2,none⟩ = some (.slice Ao36 t310.length co36)∧w'.cell? ⟨gb316,3,none⟩ = some (.slice Ao37 t313.length co37)∧w'.cell? ⟨gb283,0,none⟩ = some (.slice A0_0 l0_0.length c0_0)∧w'.cell? ⟨gb283,1,none⟩ = some (.slice A0_1 l0_1.length c0_1)∧w'.cell? ⟨gb283,2,none⟩ = some (.slice A0_2 l0_2.length c0_2)∧w'.cell? ⟨gb283,3,none⟩ = some (.slice A0_3 l0_3.length c0_3)) (ds:=[]) #[false,false,false,false,false] (by kernel_rfl) rfl rfl ⟨(blk_cell BK316.out 0).trans rfl,(blk_cell BK316.out 1).trans rfl,(blk_cell BK316.out 2).trans rfl,(blk_cell BK316.out 3).trans rfl,(blk_cell BK283.out 0).trans rfl,(blk_cell BK283.out 1).trans rfl,(blk_cell BK283.out 2).trans rfl,(blk_cell BK283.out 3).trans rfl⟩ (fun hHeld=>?_)
       generalize wc.drew = w127 at HO_317000 HO_317001 HO_317002 HO_317003 BK283 BK316 HB hHeld ⊢
       refine take_ (i:=0) (N:=some 52) (v:=?_) (a':=?_) #[true,false,false,false,false] rfl rfl (by kernel_rfl) (fun _ _ _ h=>h) (Or.inl ⟨by rfl,?_⟩) hHeld ?_ ?_
       rotate_left
       ·rintro w' ⟨s0,s1,s2,s3,s4,s5,s6,s7⟩
        go_simp
        with_reducible rfl
       rotate_left
       ·simp only [Act.put,List.setIfInBounds_toArray,List.set_cons_zero,List.set_cons_succ,i64_w,i32_w]
        rfl
       refine take_ (i:=1) (N:=some 53) (v:=?_) (a':=?_) #[true,true,false,false,false] rfl rfl (by kernel_rfl) (fun _ _ _ h=>h) (Or.inl ⟨by rfl,?_⟩) hHeld ?_ ?_
       rotate_left
       ·rintro w' ⟨s0,s1,s2,s3,s4,s5,s6,s7⟩
        go_simp
        with_reducible rfl
       rotate_left
       ·simp only [Act.put,List.setIfInBounds_toArray,List.set_cons_zero,List.set_cons_succ,i64_w,i32_w]
        rfl
       refine one_ (i:=2) (N:=some 54) #[true,true,true,false,false] rfl rfl (by kernel_rfl) (by decide) (fun K hK=>?_)
       refine goes_ Try.func12 (by kernel_rfl) rfl #[.agg #[.slice A0_0 l0_0.length c0_0,.slice A0_1 l0_1.length c0_1,.slice A0_2 l0_2.length c0_2,.slice A0_3 l0_3.length c0_3]] (by rfl) rfl rfl (by (try simp only [List.map_toArray,List.map_cons,List.map_nil]);first|done|rfl|(simp only [List.length_drop,List.length_take];rfl)) ?_
       with_reducible refine (laws_toSpace.calls kj15 _ _ l0_0 _ _ l0_1 _ _ l0_2 _ _ l0_3 t325 t328 t331 t334 _ ?side1 ?side2 ?side3 ?side4 ?side5 ?side6 ?side7 ?side8 A51.out).mono ?_
       (case side1=>repeat (first|exact (Kd.C_below HR0_0.out HB.out)|(with_reducible first|apply Kd.C_alloc|apply Kd.C_drewN|apply Kd.C_drew)))
       (case side2=>exact HC0_0.out)
       (case side3=>repeat (first|exact (Kd.C_below HR0_1.out HB.out)|(with_reducible first|apply Kd.C_alloc|apply Kd.C_drewN|apply Kd.C_drew)))
       (case side4=>exact HC0_1.out)
       (case side5=>repeat (first|exact (Kd.C_below HR0_2.out HB.out)|(with_reducible first|apply Kd.C_alloc|apply Kd.C_drewN|apply Kd.C_drew)))
       (case side6=>exact HC0_2.out)
       (case side7=>repeat (first|exact (Kd.C_below HR0_3.out HB.out)|(with_reducible first|apply Kd.C_alloc|apply Kd.C_drewN|apply Kd.C_drew)))
       (case side8=>exact HC0_3.out)
       rintro e w128 ⟨v326,v329,v332,v335,rfl,ho0,ho1,ho2,ho3,hb⟩
       refine ⟨_,rfl,?_⟩
       have n0_:=Aside0.mk (Kd.S_told (Kd.S_told (Kd.S_old (by (with_reducible repeat (first|apply Kd.S_alloc|apply Kd.S_drewN|apply Kd.S_drew));exact HO_317000.out) hb) (Kd.S_base ho0)) (Kd.R_base ho1))
       have n1_:=Aside0.mk (Kd.R_elder' (by (with_reducible repeat (first|apply Kd.R_alloc|apply Kd.R_drewN|apply Kd.R_drew));exact HO_317001.out) (Kd.R_base ho1) hb)
       have n2_:=Aside0.mk (Kd.R_mono (Kd.R_told (Kd.R_told (Kd.R_old (by (with_reducible repeat (first|apply Kd.R_alloc|apply Kd.R_drewN|apply Kd.R_drew));exact HO_317002.out) hb) (Kd.R_base ho2)) (Kd.R_base ho3)) (fun _ h_=>h_.1))
       have n3_:=Aside0.mk (Kd.R_mono (Kd.R_told (Kd.R_told (Kd.R_old (by (with_reducible repeat (first|apply Kd.R_alloc|apply Kd.R_drewN|apply Kd.R_drew));exact HO_317003.out) hb) (Kd.R_base ho2)) (Kd.R_base ho3)) (fun _ h_=>h_.1))
       have n4_:=Aside0.mk (Kd.S_lower (Kd.S_new' (Kd.S_new' (Kd.S_mono (Kd.S_bound ho0) (fun k_ h_=>(⟨h_.1,(by first|exact h_.2.1|simpa only [World.size_setCell] using h_.2.1)⟩ : _∧w127.heap.size ≤ k_))) (Kd.S_lt (by (with_reducible repeat (first|apply Kd.S_alloc|apply Kd.S_drewN|apply Kd.S_drew));exact HO_317000.out))) (Kd.R_lt (by (with_reducible repeat (first|apply Kd.R_alloc|apply Kd.R_drewN|apply Kd.R_drew));exact HO_317001.out))) (below_size (by repeat (first|(with_reducible first|exact HB.out|apply below_alloc|apply pw_below_drewN|apply below_drew1|refine below_set ?_ GE283.out|refine below_set ?_ GE316.out)|exact HB.out))))
       have n5_:=Aside0.mk (Kd.R_lower (Kd.R_new' ho1 (Kd.R_lt (by (with_reducible repeat (first|apply Kd.R_alloc|apply Kd.R_drewN|apply Kd.R_drew));exact HO_317001.out))) (below_size (by repeat (first|(with_reducible first|exact HB.out|apply below_alloc|apply pw_below_drewN|apply below_drew1|refine below_set ?_ GE283.out|refine below_set ?_ GE316.out)|exact HB.out))))
       have n6_:=Aside0.mk (Kd.R_lower (Kd.R_new' (Kd.R_new' ho2 (Kd.R_lt (by (with_reducible repeat (first|apply Kd.R_alloc|apply Kd.R_drewN|apply Kd.R_drew));exact HO_317002.out))) (Kd.R_lt (by (with_reducible repeat (first|apply Kd.R_alloc|apply Kd.R_drewN|apply Kd.R_drew));exact HO_317003.out))) (below_size (by repeat (first|(with_reducible first|exact HB.out|apply below_alloc|apply pw_below_drewN|apply below_drew1|refine below_set ?_ GE283.out|refine below_set ?_ GE316.out)|exact HB.out))))
       have n7_:=Aside0.mk (Kd.R_lower (Kd.R_new' (Kd.R_new' ho3 (Kd.R_lt (by (with_reducible repeat (first|apply Kd.R_alloc|apply Kd.R_drewN|apply Kd.R_drew));exact HO_317002.out))) (Kd.R_lt (by (with_reducible repeat (first|apply Kd.R_alloc|apply Kd.R_drewN|apply Kd.R_drew));exact HO_317003.out))) (below_size (by repeat (first|(with_reducible first|exact HB.out|apply below_alloc|apply pw_below_drewN|apply below_drew1|refine below_set ?_ GE283.out|refine below_set ?_ GE316.out)|exact HB.out))))
       have n8_:=Aside0.mk (blk_below (g:=gb283) (o:=.cells #[.slice A0_0 l0_0.length c0_0,.slice A0_1 l0_1.length c0_1,.slice A0_2 l0_2.length c0_2,.slice A0_3 l0_3.length c0_3] 26 (0,0)) (by (with_reducible repeat first|apply blk_drewN|apply blk_drew|apply blk_alloc);exact BK283.out) hb)
       have n9_:=Aside0.mk (blk_below (g:=gb316) (o:=.cells #[.slice Ao32 t304.length co32,.slice Ao35 t307.length co35,.slice Ao36 t310.length co36,.slice Ao37 t313.length co37] 29 (0,0)) (by (with_reducible repeat first|apply blk_drewN|apply blk_drew|apply blk_alloc);exact BK316.out) hb)
       have n10_:=Aside0.mk (below_step (by repeat (first|(with_reducible first|exact HB.out|apply below_alloc|apply pw_below_drewN|apply below_drew1|refine below_set ?_ GE283.out|refine below_set ?_ GE316.out)|exact HB.out)) hb)
       clear HO_317000
       clear HO_317001
       clear HO_317002
       clear HO_317003
       clear BK283
       clear BK316
       clear HB
       have HO_317000:=n0_
       have HO_317001:=n1_
       have HO_317002:=n2_
       have HO_317003:=n3_
       have HO327:=n4_
       have HO330:=n5_
       have HO333:=n6_
       have HO336:=n7_
       have BK283:=n8_
       have BK316:=n9_
       have HB:=n10_
       clear n0_ n1_ n2_ n3_ n4_ n5_ n6_ n7_ n8_ n9_ n10_
       (try clear hb)
       (try clear hb2)
       (try clear hk)
       (try clear hi)
       (try clear ho0)
       (try clear ho1)
       (try clear ho2)
       (try clear ho3)
       obtain ⟨Ao129,co129,eo129⟩:=Kd.S_slice HO327.out
       (first|subst eo129|(injection eo129 with f1_ f2_ f3_;have f4_:=f1_.symm;have f5_:=f3_.symm;clear f1_ f2_ f3_;subst f4_;subst f5_))
       obtain ⟨Ao130,co130,eo130⟩:=Kd.R_slice HO330.out
       (first|subst eo130|(injection eo130 with f1_ f2_ f3_;have f4_:=f1_.symm;have f5_:=f3_.symm;clear f1_ f2_ f3_;subst f4_;subst f5_))
       obtain ⟨Ao131,co131,eo131⟩:=Kd.R_slice HO333.out
       (first|subst eo131|(injection eo131 with f1_ f2_ f3_;have f4_:=f1_.symm;have f5_:=f3_.symm;clear f1_ f2_ f3_;subst f4_;subst f5_))
       obtain ⟨Ao132,co132,eo132⟩:=Kd.R_slice HO336.out
       (first|subst eo132|(injection eo132 with f1_ f2_ f3_;have f4_:=f1_.symm;have f5_:=f3_.symm;clear f1_ f2_ f3_;subst f4_;subst f5_))
       refine hK.out _ _ ⟨(blk_cell BK316.out 0).trans rfl,(blk_cell BK316.out 1).trans rfl,(blk_cell BK316.out 2).trans rfl,(blk_cell BK316.out 3).trans rfl,(blk_cell BK283.out 0).trans rfl,(blk_cell BK283.out 1).trans rfl,(blk_cell BK283.out 2).trans rfl,(blk_cell BK283.out 3).trans rfl⟩ (fun hHeld=>?_)
       clear hK K
       refine norm_ (a':=?_) ?_ ?_
       rotate_left
       ·show Act.put _ (some 54) _ = _
        simp only [Act.put,List.setIfInBounds_toArray,List.set_cons_zero,List.set_cons_succ,i64_w,i32_w]
        rfl
       refine one_ (i:=3) (N:=some 55) #[true,true,true,true,false] rfl rfl (by kernel_rfl) (by decide) (fun K hK=>?_)
       refine goes_ Try.func14 (by kernel_rfl) rfl #[.agg #[.slice Ao32 t304.length co32,.slice Ao35 t307.length co35,.slice Ao36 t310.length co36,.slice Ao37 t313.length co37],.agg #[.slice Ao129 t325.length co129,.slice Ao130 t328.length co130,.slice Ao131 t331.length co131,.slice Ao132 t334.length co132]] (by rfl) rfl rfl (by (try simp only [List.map_toArray,List.map_cons,List.map_nil]);first|done|rfl|(simp only [List.length_drop,List.length_take];rfl)) ?_
       with_reducible refine (laws_eqSpace.calls kj15 _ _ t304 _ _ t307 _ _ t310 _ _ t313 _ _ t325 _ _ t328 _ _ t331 _ _ t334 false _ ?side1 ?side2 ?side3 ?side4 ?side5 ?side6 ?side7 ?side8 ?side9 ?side10 ?side11 ?side12 ?side13 ?side14 ?side15 ?side16 A52.out).mono ?_
       (case side1=>repeat (first|exact (Kd.S_reads' HO_317000.out).2.2|(with_reducible first|apply Kd.C_alloc|apply Kd.C_drewN|apply Kd.C_drew)))
       (case side2=>exact (Kd.S_reads' HO_317000.out).2.1)
       (case side3=>repeat (first|exact (Kd.R_reads' HO_317001.out).2.2|(with_reducible first|apply Kd.C_alloc|apply Kd.C_drewN|apply Kd.C_drew)))
       (case side4=>exact (Kd.R_reads' HO_317001.out).2.1)
       (case side5=>repeat (first|exact (Kd.R_reads' HO_317002.out).2.2|(with_reducible first|apply Kd.C_alloc|apply Kd.C_drewN|apply Kd.C_drew)))
       (case side6=>exact (Kd.R_reads' HO_317002.out).2.1)
       (case side7=>repeat (first|exact (Kd.R_reads' HO_317003.out).2.2|(with_reducible first|apply Kd.C_alloc|apply Kd.C_drewN|apply Kd.C_drew)))
       (case side8=>exact (Kd.R_reads' HO_317003.out).2.1)
       (case side9=>repeat (first|exact (Kd.S_reads' HO327.out).2.2|(with_reducible first|apply Kd.C_alloc|apply Kd.C_drewN|apply Kd.C_drew)))
       (case side10=>exact (Kd.S_reads' HO327.out).2.1)
       (case side11=>repeat (first|exact (Kd.R_reads' HO330.out).2.2|(with_reducible first|apply Kd.C_alloc|apply Kd.C_drewN|apply Kd.C_drew)))
       (case side12=>exact (Kd.R_reads' HO330.out).2.1)
       (case side13=>repeat (first|exact (Kd.R_reads' HO333.out).2.2|(with_reducible first|apply Kd.C_alloc|apply Kd.C_drewN|apply Kd.C_drew)))
       (case side14=>exact (Kd.R_reads' HO333.out).2.1)
       (case side15=>repeat (first|exact (Kd.R_reads' HO336.out).2.2|(with_reducible first|apply Kd.C_alloc|apply Kd.C_drewN|apply Kd.C_drew)))
       (case side16=>exact (Kd.R_reads' HO336.out).2.1)
       rintro e w133 ⟨rfl,hb⟩
       refine ⟨_,rfl,?_⟩
       have n0_:=Aside0.mk (Kd.S_below (by (with_reducible repeat (first|apply Kd.S_alloc|apply Kd.S_drewN|apply Kd.S_drew));exact HO_317000.out) hb)
       have n1_:=Aside0.mk (Kd.R_below (by (with_reducible repeat (first|apply Kd.R_alloc|apply Kd.R_drewN|apply Kd.R_drew));exact HO_317001.out) hb)
       have n2_:=Aside0.mk (Kd.R_below (by (with_reducible repeat (first|apply Kd.R_alloc|apply Kd.R_drewN|apply Kd.R_drew));exact HO_317002.out) hb)
       have n3_:=Aside0.mk (Kd.R_below (by (with_reducible repeat (first|apply Kd.R_alloc|apply Kd.R_drewN|apply Kd.R_drew));exact HO_317003.out) hb)
       have n4_:=Aside0.mk (Kd.S_below (by (with_reducible repeat (first|apply Kd.S_alloc|apply Kd.S_drewN|apply Kd.S_drew));exact HO327.out) hb)
       have n5_:=Aside0.mk (Kd.R_below (by (with_reducible repeat (first|apply Kd.R_alloc|apply Kd.R_drewN|apply Kd.R_drew));exact HO330.out) hb)
       have n6_:=Aside0.mk (Kd.R_below (by (with_reducible repeat (first|apply Kd.R_alloc|apply Kd.R_drewN|apply Kd.R_drew));exact HO333.out) hb)
       have n7_:=Aside0.mk (Kd.R_below (by (with_reducible repeat (first|apply Kd.R_alloc|apply Kd.R_drewN|apply Kd.R_drew));exact HO336.out) hb)
       have n8_:=Aside0.mk (blk_below (g:=gb283) (o:=.cells #[.slice A0_0 l0_0.length c0_0,.slice A0_1 l0_1.length c0_1,.slice A0_2 l0_2.length c0_2,.slice A0_3 l0_3.length c0_3] 26 (0,0)) (by (with_reducible repeat first|apply blk_drewN|apply blk_drew|apply blk_alloc);exact BK283.out) hb)
       have n9_:=Aside0.mk (blk_below (g:=gb316) (o:=.cells #[.slice Ao32 t304.length co32,.slice Ao35 t307.length co35,.slice Ao36 t310.length co36,.slice Ao37 t313.length co37] 29 (0,0)) (by (with_reducible repeat first|apply blk_drewN|apply blk_drew|apply blk_alloc);exact BK316.out) hb)
       have n10_:=Aside0.mk (below_step (by repeat (first|(with_reducible first|exact HB.out|apply below_alloc|apply pw_below_drewN|apply below_drew1|refine below_set ?_ GE283.out|refine below_set ?_ GE316.out)|exact HB.out)) hb)
       clear HO_317000
       clear HO_317001
       clear HO_317002
       clear HO_317003
       clear HO327
       clear HO330
       clear HO333
       clear HO336
       clear BK283
       clear BK316
       clear HB
       have HO_317000:=n0_
       have HO_317001:=n1_
       have HO_317002:=n2_
       have HO_317003:=n3_
       have HO327:=n4_
       have HO330:=n5_
       have HO333:=n6_
       have HO336:=n7_
       have BK283:=n8_
       have BK316:=n9_
       have HB:=n10_
       clear n0_ n1_ n2_ n3_ n4_ n5_ n6_ n7_ n8_ n9_ n10_
       (try clear hb)
       (try clear hb2)
       (try clear hk)
       (try clear hi)
       refine hK.out _ _ ⟨(blk_cell BK316.out 0).trans rfl,(blk_cell BK316.out 1).trans rfl,(blk_cell BK316.out 2).trans rfl,(blk_cell BK316.out 3).trans rfl,(blk_cell BK283.out 0).trans rfl,(blk_cell BK283.out 1).trans rfl,(blk_cell BK283.out 2).trans rfl,(blk_cell BK283.out 3).trans rfl⟩ (fun hHeld=>?_)
       clear hK K
       refine norm_ (a':=?_) ?_ ?_
       rotate_left
       ·show Act.put _ (some 55) _ = _
        simp only [Act.put,List.setIfInBounds_toArray,List.set_cons_zero,List.set_cons_succ,i64_w,i32_w]
        rfl
       refine pure_ (i:=4) (N:=some 56) (v:=?_) (a':=?_) #[true,true,true,true,true] rfl rfl (by kernel_rfl) (fun _ _ _ h=>h) (Or.inl ⟨by rfl,?_⟩) ?_ ?_
       rotate_left
       ·intro w'
        go_simp
        with_reducible rfl
       rotate_left
       ·simp only [Act.put,List.setIfInBounds_toArray,List.set_cons_zero,List.set_cons_succ,i64_w,i32_w]
        rfl
       refine done_ (by kernel_rfl) ?_
       try go_wp2
       go_ret
       exact ⟨by first|rfl|(simp [*,errW_none,errW_some] <;> rfl),by repeat (first|(with_reducible first|exact HB.out|apply below_alloc|apply pw_below_drewN|apply below_drew1|refine below_set ?_ GE283.out|refine below_set ?_ GE316.out)|exact HB.out)⟩

end Go.Proofs.Ytlphbpaojcdjaaa.PFnExactCloseSpace
