-- Written by a program of this session over the print of the kit (wip/t/patch_print.py).
import Derived.Test.YtfjboeeogjepeaaPFnExactPlanOfx0
import Derived.Test.YtfjboeeogjepeaaPFnExactPlanOfx1
import Derived.Test.YtfjboeeogjepeaaPFnExactPlanOfx2
import Derived.Test.YtfjboeeogjepeaaPFnExactPlanOfx3
import Derived.Test.YtfjboeeogjepeaaPFnExactPlanOfx5
import Derived.Test.YtfjboeeogjepeaaPFnExactPlanOfx8
import Derived.Test.YtfjboeeogjepeaaPFnExactPlanOfx9
namespace Go.Proofs.Ytfjboeeogjepeaa.PFnExactPlanOf
open Go.RowKit Go.Proofs.YtfjboeeogjepeaaW.PrintWords Go.Proofs.YtfjboeeogjepeaaW.PrintLast Go.Proofs.YtfjboeeogjepeaaW.PrintMore
attribute [local go_sem] max2_int min2_int max_two min_two max_three min_three max_four min_four   -- for this text's walks alone
set_option linter.unusedVariables false
set_option linter.unusedSimpArgs false

/-! ### laws_FnExactPlanOf: function 6 -/
mutual
def laws_FnExactPlanOf.j0 : Nat → List (S61) → List (S59) → Bool → List (S59) → List (S59) → Bool → Bool → List (List Int) → Int → Bool → Int → List (List Int) → Int → Bool → Int → Option (Bool)
 | 0,_,_,_,_,_,_,_,_,_,_,_,_,_,_,_=>none
 | k + 1,x1,x6,x7,x9,x10,x11,x53,x362000,x362001,x362002,x362003,x384000,x384001,x384002,x384003=>if x53 = true then (some false) else ((laws_toDisk.f k x362000 x362001 x362002 x362003).bind fun bt392=>((laws_eqDisk.f k x384000 x384001 x384002 x384003 bt392.1 bt392.2.1 bt392.2.2.1 bt392.2.2.2).bind fun t398=>(if t398 = true then ((laws_toWriteS.f k x1).bind fun t399=>((laws_eqWriteS.f k x9 t399).bind fun t402=>(if t402 = true then ((laws_markDisk.f k x384000 x384001 x384002 x384003 1).bind fun bt403=>((laws_markWriteS.f k x9 bt403.1).bind fun bt405=>(if bt405.1 < 0 then (laws_FnExactPlanOf.j1 k x1 x6 x7 x10 true x362000 x362001 x362002 x362003) else ((laws_eqWriteS.f k x10 x6).bind fun t407=>(if t407 = true then (laws_FnExactPlanOf.j1 k x1 x6 x7 x10 (x11 != x7) x362000 x362001 x362002 x362003) else (laws_FnExactPlanOf.j1 k x1 x6 x7 x10 true x362000 x362001 x362002 x362003)))))) else (some false)))) else (some false))))
def laws_FnExactPlanOf.j1 : Nat → List (S61) → List (S59) → Bool → List (S59) → Bool → List (List Int) → Int → Bool → Int → Option (Bool)
 | 0,_,_,_,_,_,_,_,_,_=>none
 | k + 1,x1,x6,x7,x10,x82,x362000,x362001,x362002,x362003=>if x82 = true then (some false) else ((laws_markWriteS.f k x10 1).bind fun bt408=>((laws_heldWriteS.f k bt408.2 1).bind fun t410=>(if t410 < 0 then (some false) else (if t410 = bt408.1 then ((laws_toDisk.f k x362000 x362001 x362002 x362003).bind fun bt411=>((laws_toWriteS.f k x1).bind fun t417=>((impl_PlanOf.f k bt411.1 bt411.2.1 bt411.2.2.1 bt411.2.2.2 t417).bind fun bt420=>((laws_eqWriteS.f k bt420.1 x6).bind fun t424=>(if t424 = true then (laws_FnExactPlanOf.j2 k bt408.2 bt408.1 (bt420.2 != x7)) else (laws_FnExactPlanOf.j2 k bt408.2 bt408.1 true)))))) else (some false)))))
def laws_FnExactPlanOf.j2 : Nat → List (S59) → Int → Bool → Option (Bool)
 | 0,_,_,_=>none
 | k + 1,x10,x13,x110=>if x110 = true then (some false) else ((laws_heldWriteS.f k x10 1).bind fun t425=>(if t425 < 0 then (some false) else (if t425 = x13 then (some true) else (some false))))
end
def laws_FnExactPlanOf.f (k : Nat) (l0_0 : List (List Int)) (a0_1 : Int) (a0_2 : Bool) (a0_3 : Int) (l1 : List (S61)) : Option (Bool):=(laws_szDisk.f k l0_0 a0_1 a0_2 a0_3 1048576).bind fun t362=>(if t362 < 0 then (some true) else ((laws_szWriteS.f k l1 t362).bind fun t363=>(if t363 < 0 then (some true) else ((laws_toDisk.f k l0_0 a0_1 a0_2 a0_3).bind fun bt364=>((laws_toWriteS.f k l1).bind fun t370=>((spec_PlanOf.f k bt364.1 bt364.2.1 bt364.2.2.1 bt364.2.2.2 t370).bind fun bt373=>((laws_toDisk.f k l0_0 a0_1 a0_2 a0_3).bind fun bt377=>((laws_toWriteS.f k l1).bind fun t384=>((impl_PlanOf.f k bt377.1 bt377.2.1 bt377.2.2.1 bt377.2.2.2 t384).bind fun bt387=>((laws_eqWriteS.f k bt387.1 bt373.1).bind fun t391=>(if t391 = true then (laws_FnExactPlanOf.j0 k l1 bt373.1 bt373.2 t384 bt387.1 bt387.2 (bt387.2 != bt373.2) l0_0 a0_1 a0_2 a0_3 bt377.1 bt377.2.1 bt377.2.2.1 bt377.2.2.2) else (laws_FnExactPlanOf.j0 k l1 bt373.1 bt373.2 t384 bt387.1 bt387.2 true l0_0 a0_1 a0_2 a0_3 bt377.1 bt377.2.1 bt377.2.2.1 bt377.2.2.2))))))))))))
theorem laws_FnExactPlanOf.mono_l : ∀ k,(∀ y0 y1 y2 y3 y4 y5 y6 y7 y8 y9 y10 y11 y12 y13 y14,LeO (laws_FnExactPlanOf.j0 k y0 y1 y2 y3 y4 y5 y6 y7 y8 y9 y10 y11 y12 y13 y14) (laws_FnExactPlanOf.j0 (k + 1) y0 y1 y2 y3 y4 y5 y6 y7 y8 y9 y10 y11 y12 y13 y14))∧(∀ y0 y1 y2 y3 y4 y5 y6 y7 y8,LeO (laws_FnExactPlanOf.j1 k y0 y1 y2 y3 y4 y5 y6 y7 y8) (laws_FnExactPlanOf.j1 (k + 1) y0 y1 y2 y3 y4 y5 y6 y7 y8))∧(∀ y0 y1 y2,LeO (laws_FnExactPlanOf.j2 k y0 y1 y2) (laws_FnExactPlanOf.j2 (k + 1) y0 y1 y2))
 | 0=>⟨fun _ _ _ _ _ _ _ _ _ _ _ _ _ _ _ r h=>by simp [laws_FnExactPlanOf.j0] at h,fun _ _ _ _ _ _ _ _ _ r h=>by simp [laws_FnExactPlanOf.j1] at h,fun _ _ _ r h=>by simp [laws_FnExactPlanOf.j2] at h⟩
 | k + 1=>by
  obtain ⟨ih0,ih1,ih2⟩:=laws_FnExactPlanOf.mono_l k
  refine ⟨?_,?_,?_⟩
  ·intro y0 y1 y2 y3 y4 y5 y6 y7 y8 y9 y10 y11 y12 y13 y14
   unfold laws_FnExactPlanOf.j0
   repeat' first
   | (with_reducible exact ih0 _ _ _ _ _ _ _ _ _ _ _ _ _ _ _)
   | (with_reducible exact ih1 _ _ _ _ _ _ _ _ _)
   | (with_reducible exact ih2 _ _ _)
   | (with_reducible exact impl_PlanOf.mono _ _ _ _ _ _)
   | (with_reducible exact laws_eqDisk.mono _ _ _ _ _ _ _ _ _)
   | (with_reducible exact laws_eqWriteS.mono _ _ _)
   | (with_reducible exact laws_heldWriteS.mono _ _ _)
   | (with_reducible exact laws_markDisk.mono _ _ _ _ _ _)
   | (with_reducible exact laws_markWriteS.mono _ _ _)
   | (with_reducible exact laws_szDisk.mono _ _ _ _ _ _)
   | (with_reducible exact laws_szWriteS.mono _ _ _)
   | (with_reducible exact laws_toDisk.mono _ _ _ _ _)
   | (with_reducible exact laws_toWriteS.mono _ _)
   | (with_reducible exact spec_PlanOf.mono _ _ _ _ _ _)
   | (with_reducible exact LeO.refl _)
   | (with_reducible exact LeO.none _)
   | (with_reducible refine LeO.ite ?_ ?_)
   | (with_reducible refine LeO.bind ?_ (fun _=>?_))
   | exact ih0 _ _ _ _ _ _ _ _ _ _ _ _ _ _ _
   | exact ih1 _ _ _ _ _ _ _ _ _
   | exact ih2 _ _ _
   | exact impl_PlanOf.mono _ _ _ _ _ _
   | exact laws_eqDisk.mono _ _ _ _ _ _ _ _ _
   | exact laws_eqWriteS.mono _ _ _
   | exact laws_heldWriteS.mono _ _ _
   | exact laws_markDisk.mono _ _ _ _ _ _
   | exact laws_markWriteS.mono _ _ _
   | exact laws_szDisk.mono _ _ _ _ _ _
   | exact laws_szWriteS.mono _ _ _
   | exact laws_toDisk.mono _ _ _ _ _
   | exact laws_toWriteS.mono _ _
   | exact spec_PlanOf.mono _ _ _ _ _ _
   | exact LeO.none _
   | refine LeO.ite ?_ ?_
   | refine LeO.bind ?_ (fun _=>?_)
  ·intro y0 y1 y2 y3 y4 y5 y6 y7 y8
   unfold laws_FnExactPlanOf.j1
   repeat' first
   | (with_reducible exact ih0 _ _ _ _ _ _ _ _ _ _ _ _ _ _ _)
   | (with_reducible exact ih1 _ _ _ _ _ _ _ _ _)
   | (with_reducible exact ih2 _ _ _)
   | (with_reducible exact impl_PlanOf.mono _ _ _ _ _ _)
   | (with_reducible exact laws_eqDisk.mono _ _ _ _ _ _ _ _ _)
   | (with_reducible exact laws_eqWriteS.mono _ _ _)
   | (with_reducible exact laws_heldWriteS.mono _ _ _)
   | (with_reducible exact laws_markDisk.mono _ _ _ _ _ _)
   | (with_reducible exact laws_markWriteS.mono _ _ _)
   | (with_reducible exact laws_szDisk.mono _ _ _ _ _ _)
   | (with_reducible exact laws_szWriteS.mono _ _ _)
   | (with_reducible exact laws_toDisk.mono _ _ _ _ _)
   | (with_reducible exact laws_toWriteS.mono _ _)
   | (with_reducible exact spec_PlanOf.mono _ _ _ _ _ _)
   | (with_reducible exact LeO.refl _)
   | (with_reducible exact LeO.none _)
   | (with_reducible refine LeO.ite ?_ ?_)
   | (with_reducible refine LeO.bind ?_ (fun _=>?_))
   | exact ih0 _ _ _ _ _ _ _ _ _ _ _ _ _ _ _
   | exact ih1 _ _ _ _ _ _ _ _ _
   | exact ih2 _ _ _
   | exact impl_PlanOf.mono _ _ _ _ _ _
   | exact laws_eqDisk.mono _ _ _ _ _ _ _ _ _
   | exact laws_eqWriteS.mono _ _ _
   | exact laws_heldWriteS.mono _ _ _
   | exact laws_markDisk.mono _ _ _ _ _ _
   | exact laws_markWriteS.mono _ _ _
   | exact laws_szDisk.mono _ _ _ _ _ _
   | exact laws_szWriteS.mono _ _ _
   | exact laws_toDisk.mono _ _ _ _ _
   | exact laws_toWriteS.mono _ _
   | exact spec_PlanOf.mono _ _ _ _ _ _
   | exact LeO.none _
   | refine LeO.ite ?_ ?_
   | refine LeO.bind ?_ (fun _=>?_)
  ·intro y0 y1 y2
   unfold laws_FnExactPlanOf.j2
   repeat' first
   | (with_reducible exact ih0 _ _ _ _ _ _ _ _ _ _ _ _ _ _ _)
   | (with_reducible exact ih1 _ _ _ _ _ _ _ _ _)
   | (with_reducible exact ih2 _ _ _)
   | (with_reducible exact impl_PlanOf.mono _ _ _ _ _ _)
   | (with_reducible exact laws_eqDisk.mono _ _ _ _ _ _ _ _ _)
   | (with_reducible exact laws_eqWriteS.mono _ _ _)
   | (with_reducible exact laws_heldWriteS.mono _ _ _)
   | (with_reducible exact laws_markDisk.mono _ _ _ _ _ _)
   | (with_reducible exact laws_markWriteS.mono _ _ _)
   | (with_reducible exact laws_szDisk.mono _ _ _ _ _ _)
   | (with_reducible exact laws_szWriteS.mono _ _ _)
   | (with_reducible exact laws_toDisk.mono _ _ _ _ _)
   | (with_reducible exact laws_toWriteS.mono _ _)
   | (with_reducible exact spec_PlanOf.mono _ _ _ _ _ _)
   | (with_reducible exact LeO.refl _)
   | (with_reducible exact LeO.none _)
   | (with_reducible refine LeO.ite ?_ ?_)
   | (with_reducible refine LeO.bind ?_ (fun _=>?_))
   | exact ih0 _ _ _ _ _ _ _ _ _ _ _ _ _ _ _
   | exact ih1 _ _ _ _ _ _ _ _ _
   | exact ih2 _ _ _
   | exact impl_PlanOf.mono _ _ _ _ _ _
   | exact laws_eqDisk.mono _ _ _ _ _ _ _ _ _
   | exact laws_eqWriteS.mono _ _ _
   | exact laws_heldWriteS.mono _ _ _
   | exact laws_markDisk.mono _ _ _ _ _ _
   | exact laws_markWriteS.mono _ _ _
   | exact laws_szDisk.mono _ _ _ _ _ _
   | exact laws_szWriteS.mono _ _ _
   | exact laws_toDisk.mono _ _ _ _ _
   | exact laws_toWriteS.mono _ _
   | exact spec_PlanOf.mono _ _ _ _ _ _
   | exact LeO.none _
   | refine LeO.ite ?_ ?_
   | refine LeO.bind ?_ (fun _=>?_)
theorem laws_FnExactPlanOf.mono : ∀ a0 a1 a2 a3 a4 k,LeO (laws_FnExactPlanOf.f k a0 a1 a2 a3 a4) (laws_FnExactPlanOf.f (k + 1) a0 a1 a2 a3 a4):=by
 intro a0 a1 a2 a3 a4 k
 obtain ⟨ih0,ih1,ih2⟩:=laws_FnExactPlanOf.mono_l k
 unfold laws_FnExactPlanOf.f
 repeat' first
   | (with_reducible exact ih0 _ _ _ _ _ _ _ _ _ _ _ _ _ _ _)
   | (with_reducible exact ih1 _ _ _ _ _ _ _ _ _)
   | (with_reducible exact ih2 _ _ _)
   | (with_reducible exact impl_PlanOf.mono _ _ _ _ _ _)
   | (with_reducible exact laws_eqDisk.mono _ _ _ _ _ _ _ _ _)
   | (with_reducible exact laws_eqWriteS.mono _ _ _)
   | (with_reducible exact laws_heldWriteS.mono _ _ _)
   | (with_reducible exact laws_markDisk.mono _ _ _ _ _ _)
   | (with_reducible exact laws_markWriteS.mono _ _ _)
   | (with_reducible exact laws_szDisk.mono _ _ _ _ _ _)
   | (with_reducible exact laws_szWriteS.mono _ _ _)
   | (with_reducible exact laws_toDisk.mono _ _ _ _ _)
   | (with_reducible exact laws_toWriteS.mono _ _)
   | (with_reducible exact spec_PlanOf.mono _ _ _ _ _ _)
   | (with_reducible exact LeO.refl _)
   | (with_reducible exact LeO.none _)
   | (with_reducible refine LeO.ite ?_ ?_)
   | (with_reducible refine LeO.bind ?_ (fun _=>?_))
   | exact ih0 _ _ _ _ _ _ _ _ _ _ _ _ _ _ _
   | exact ih1 _ _ _ _ _ _ _ _ _
   | exact ih2 _ _ _
   | exact impl_PlanOf.mono _ _ _ _ _ _
   | exact laws_eqDisk.mono _ _ _ _ _ _ _ _ _
   | exact laws_eqWriteS.mono _ _ _
   | exact laws_heldWriteS.mono _ _ _
   | exact laws_markDisk.mono _ _ _ _ _ _
   | exact laws_markWriteS.mono _ _ _
   | exact laws_szDisk.mono _ _ _ _ _ _
   | exact laws_szWriteS.mono _ _ _
   | exact laws_toDisk.mono _ _ _ _ _
   | exact laws_toWriteS.mono _ _
   | exact spec_PlanOf.mono _ _ _ _ _ _
   | exact LeO.none _
   | refine LeO.ite ?_ ?_
   | refine LeO.bind ?_ (fun _=>?_)
set_option maxHeartbeats 8000000 in
set_option maxRecDepth 100000 in
theorem laws_FnExactPlanOf.calls (k : Nat) (A0_0 : Option Addr) (c0_0 : Nat) (l0_0 : List (List Int)) (a0_1 : Int) (a0_2 : Bool) (a0_3 : Int) (A1 : Option Addr) (c1 : Nat) (l1 : List (S61)) (r : Bool) (w : World) (hr0_0 : Kd.C (Kd.slice 5 (Kd.int .u8)) w A0_0 l0_0.length l0_0) (hc0_0 : l0_0.length ≤ c0_0) (hr1 : Kd.C k61 w A1 l1.length l1) (hc1 : l1.length ≤ c1) (h : laws_FnExactPlanOf.f k l0_0 a0_1 a0_2 a0_3 l1 = some r) :
  Calls Try.prog 6 #[.agg #[.slice A0_0 l0_0.length c0_0,.int .i64 a0_1,.bool a0_2,.int .i64 a0_3],.slice A1 l1.length c1] w fun e w'=>e = .returned (.bool r)∧Below w.heap.size w w':=by
 have hu36:=Try.underlying36
 have hu39:=Try.underlying39
 have HR0_0:=Aside0.mk hr0_0
 have HC0_0:=Aside0.mk hc0_0
 clear hr0_0 hc0_0
 have HR1:=Aside0.mk hr1
 have HC1:=Aside0.mk hc1
 clear hr1 hc1
 have HB:=Aside0.mk (Below.refl w.heap.size w)
 have H : ((laws_szDisk.f k l0_0 a0_1 a0_2 a0_3 1048576).bind fun t362=>(if t362 < 0 then (some true) else ((laws_szWriteS.f k l1 t362).bind fun t363=>(if t363 < 0 then (some true) else ((laws_toDisk.f k l0_0 a0_1 a0_2 a0_3).bind fun bt364=>((laws_toWriteS.f k l1).bind fun t370=>((spec_PlanOf.f k bt364.1 bt364.2.1 bt364.2.2.1 bt364.2.2.2 t370).bind fun bt373=>((laws_toDisk.f k l0_0 a0_1 a0_2 a0_3).bind fun bt377=>((laws_toWriteS.f k l1).bind fun t384=>((impl_PlanOf.f k bt377.1 bt377.2.1 bt377.2.2.1 bt377.2.2.2 t384).bind fun bt387=>((laws_eqWriteS.f k bt387.1 bt373.1).bind fun t391=>(if t391 = true then (laws_FnExactPlanOf.j0 k l1 bt373.1 bt373.2 t384 bt387.1 bt387.2 (bt387.2 != bt373.2) l0_0 a0_1 a0_2 a0_3 bt377.1 bt377.2.1 bt377.2.2.1 bt377.2.2.2) else (laws_FnExactPlanOf.j0 k l1 bt373.1 bt373.2 t384 bt387.1 bt387.2 true l0_0 a0_1 a0_2 a0_3 bt377.1 bt377.2.1 bt377.2.2.1 bt377.2.2.2))))))))))))) = some r:=h
 clear h
 replace H:=Option.bind_eq_some_iff.mp H
 obtain ⟨t362,A30,H⟩:=H
 replace H : (if t362 < 0 then (some true) else ((laws_szWriteS.f k l1 t362).bind fun t363=>(if t363 < 0 then (some true) else ((laws_toDisk.f k l0_0 a0_1 a0_2 a0_3).bind fun bt364=>((laws_toWriteS.f k l1).bind fun t370=>((spec_PlanOf.f k bt364.1 bt364.2.1 bt364.2.2.1 bt364.2.2.2 t370).bind fun bt373=>((laws_toDisk.f k l0_0 a0_1 a0_2 a0_3).bind fun bt377=>((laws_toWriteS.f k l1).bind fun t384=>((impl_PlanOf.f k bt377.1 bt377.2.1 bt377.2.2.1 bt377.2.2.2 t384).bind fun bt387=>((laws_eqWriteS.f k bt387.1 bt373.1).bind fun t391=>(if t391 = true then (laws_FnExactPlanOf.j0 k l1 bt373.1 bt373.2 t384 bt387.1 bt387.2 (bt387.2 != bt373.2) l0_0 a0_1 a0_2 a0_3 bt377.1 bt377.2.1 bt377.2.2.1 bt377.2.2.2) else (laws_FnExactPlanOf.j0 k l1 bt373.1 bt373.2 t384 bt387.1 bt387.2 true l0_0 a0_1 a0_2 a0_3 bt377.1 bt377.2.1 bt377.2.2.1 bt377.2.2.2)))))))))))) = some r:=H
 have A3:=Aside0.mk A30
 clear A30
 by_cases c4 : t362 < 0
 ·rw [if_pos c4] at H
  have c4b0 : decide (t362 < 0) = true:=decide_eq_true c4
  clear c4
  obtain rfl:=Option.some.inj H
  go_enter Try.func6,Try.ntmps6
  go_wp2_with (first|((with_reducible refine gate_dst (N:=2) rfl ?_);refine box_event ?hg (N:=2) ?hd (cs:=#[.slice A0_0 l0_0.length c0_0,.int .i64 a0_1,.bool a0_2,.int .i64 a0_3]) (t:=36) ?hr ?_;(case hd=>rfl);(case hg=>rfl);(case hr=>first|(go_simp;done)|(go_simp;rfl));intro gb361 hg w5 hbox hb;have n0_:=Aside0.mk (below_step (by repeat (first|exact HB.out|apply below_alloc|apply pw_below_drewN|apply below_drew1)) hb);have n1_:=Aside0.mk (hbox);have n2_:=Aside0.mk ((by rw [hg];exact (below_size (by repeat (first|exact HB.out|apply below_alloc|apply pw_below_drewN|apply below_drew1))) : w.heap.size ≤ gb361));have n3_:=Aside0.mk ((by rw [hg];exact (below_size (by repeat (first|exact HB.out|apply below_alloc|apply pw_below_drewN|apply below_drew1))) : w.heap.size ≤ gb361));clear HB;have HB:=n0_;have BK361:=n1_;have GW361:=n2_;have GE361:=n3_;clear n0_ n1_ n2_ n3_;clear hb hbox hg;have hcz6_0 : w5.cell? ⟨gb361,0,none⟩ = some (.slice A0_0 l0_0.length c0_0):=(blk_cell BK361.out 0).trans rfl;have hcz6_1 : w5.cell? ⟨gb361,1,none⟩ = some (.int .i64 a0_1):=(blk_cell BK361.out 1).trans rfl;have hcz6_2 : w5.cell? ⟨gb361,2,none⟩ = some (.bool a0_2):=(blk_cell BK361.out 2).trans rfl;have hcz6_3 : w5.cell? ⟨gb361,3,none⟩ = some (.int .i64 a0_3):=(blk_cell BK361.out 3).trans rfl;have hfz6_0:=blk_frozen BK361.out 0;have hfz6_1:=blk_frozen BK361.out 1;have hfz6_2:=blk_frozen BK361.out 2;have hfz6_3:=blk_frozen BK361.out 3)|((with_reducible refine gate_callee (f:=19) rfl ?_);refine goesL_ (some 19) rfl rfl Try.func19 (by kernel_rfl) rfl #[.agg #[.slice A0_0 l0_0.length c0_0,.int .i64 a0_1,.bool a0_2,.int .i64 a0_3],.int .i64 1048576] rfl (by (try simp only [List.map_toArray,List.map_cons,List.map_nil]);first|done|rfl|(simp only [List.length_drop,List.length_take];rfl)) ?_;(with_reducible refine (laws_szDisk.calls k _ _ l0_0 a0_1 a0_2 a0_3 1048576 t362 _ ?side1 ?side2 A3.out).mono ?_);(case side1=>repeat (first|exact (Kd.C_below HR0_0.out HB.out)|(with_reducible first|apply Kd.C_alloc|apply Kd.C_drewN|apply Kd.C_drew)));(case side2=>exact HC0_0.out);rintro e w7 ⟨rfl,hb⟩;refine ⟨_,rfl,?_⟩;have n0_:=Aside0.mk (blk_below (g:=gb361) (o:=.cells #[.slice A0_0 l0_0.length c0_0,.int .i64 a0_1,.bool a0_2,.int .i64 a0_3] 36 (0,0)) (by (with_reducible repeat first|apply blk_drewN|apply blk_drew|apply blk_alloc);exact BK361.out) hb);have n1_:=Aside0.mk (below_step (by repeat (first|(with_reducible first|exact HB.out|apply below_alloc|apply pw_below_drewN|apply below_drew1|refine below_set ?_ GE361.out)|exact HB.out)) hb);clear BK361;clear HB;have BK361:=n0_;have HB:=n1_;clear n0_ n1_;(try clear hb);(try clear hb2);(try clear hk);(try clear hi)))
  go_ret
  exact ⟨by first|rfl|(simp [*,errW_none,errW_some] <;> rfl),by repeat (first|(with_reducible first|exact HB.out|apply below_alloc|apply pw_below_drewN|apply below_drew1|refine below_set ?_ GE361.out)|exact HB.out)⟩
 ·rw [if_neg c4] at H
  have c4b0 : decide (t362 < 0) = false:=decide_eq_false c4
  clear c4
  replace H:=Option.bind_eq_some_iff.mp H
  obtain ⟨t363,A80,H⟩:=H
  replace H : (if t363 < 0 then (some true) else ((laws_toDisk.f k l0_0 a0_1 a0_2 a0_3).bind fun bt364=>((laws_toWriteS.f k l1).bind fun t370=>((spec_PlanOf.f k bt364.1 bt364.2.1 bt364.2.2.1 bt364.2.2.2 t370).bind fun bt373=>((laws_toDisk.f k l0_0 a0_1 a0_2 a0_3).bind fun bt377=>((laws_toWriteS.f k l1).bind fun t384=>((impl_PlanOf.f k bt377.1 bt377.2.1 bt377.2.2.1 bt377.2.2.2 t384).bind fun bt387=>((laws_eqWriteS.f k bt387.1 bt373.1).bind fun t391=>(if t391 = true then (laws_FnExactPlanOf.j0 k l1 bt373.1 bt373.2 t384 bt387.1 bt387.2 (bt387.2 != bt373.2) l0_0 a0_1 a0_2 a0_3 bt377.1 bt377.2.1 bt377.2.2.1 bt377.2.2.2) else (laws_FnExactPlanOf.j0 k l1 bt373.1 bt373.2 t384 bt387.1 bt387.2 true l0_0 a0_1 a0_2 a0_3 bt377.1 bt377.2.1 bt377.2.2.1 bt377.2.2.2)))))))))) = some r:=H
  have A8:=Aside0.mk A80
  clear A80
  by_cases c9 : t363 < 0
  ·rw [if_pos c9] at H
   have c9b0 : decide (t363 < 0) = true:=decide_eq_true c9
   clear c9
   obtain rfl:=Option.some.inj H
   go_enter Try.func6,Try.ntmps6
   go_wp2_with (first|((with_reducible refine gate_dst (N:=2) rfl ?_);refine box_event ?hg (N:=2) ?hd (cs:=#[.slice A0_0 l0_0.length c0_0,.int .i64 a0_1,.bool a0_2,.int .i64 a0_3]) (t:=36) ?hr ?_;(case hd=>rfl);(case hg=>rfl);(case hr=>first|(go_simp;done)|(go_simp;rfl));intro gb361 hg w10 hbox hb;have n0_:=Aside0.mk (below_step (by repeat (first|exact HB.out|apply below_alloc|apply pw_below_drewN|apply below_drew1)) hb);have n1_:=Aside0.mk (hbox);have n2_:=Aside0.mk ((by rw [hg];exact (below_size (by repeat (first|exact HB.out|apply below_alloc|apply pw_below_drewN|apply below_drew1))) : w.heap.size ≤ gb361));have n3_:=Aside0.mk ((by rw [hg];exact (below_size (by repeat (first|exact HB.out|apply below_alloc|apply pw_below_drewN|apply below_drew1))) : w.heap.size ≤ gb361));clear HB;have HB:=n0_;have BK361:=n1_;have GW361:=n2_;have GE361:=n3_;clear n0_ n1_ n2_ n3_;clear hb hbox hg;have hcz11_0 : w10.cell? ⟨gb361,0,none⟩ = some (.slice A0_0 l0_0.length c0_0):=(blk_cell BK361.out 0).trans rfl;have hcz11_1 : w10.cell? ⟨gb361,1,none⟩ = some (.int .i64 a0_1):=(blk_cell BK361.out 1).trans rfl;have hcz11_2 : w10.cell? ⟨gb361,2,none⟩ = some (.bool a0_2):=(blk_cell BK361.out 2).trans rfl;have hcz11_3 : w10.cell? ⟨gb361,3,none⟩ = some (.int .i64 a0_3):=(blk_cell BK361.out 3).trans rfl;have hfz11_0:=blk_frozen BK361.out 0;have hfz11_1:=blk_frozen BK361.out 1;have hfz11_2:=blk_frozen BK361.out 2;have hfz11_3:=blk_frozen BK361.out 3)|((with_reducible refine gate_callee (f:=19) rfl ?_);refine goesL_ (some 19) rfl rfl Try.func19 (by kernel_rfl) rfl #[.agg #[.slice A0_0 l0_0.length c0_0,.int .i64 a0_1,.bool a0_2,.int .i64 a0_3],.int .i64 1048576] rfl (by (try simp only [List.map_toArray,List.map_cons,List.map_nil]);first|done|rfl|(simp only [List.length_drop,List.length_take];rfl)) ?_;(with_reducible refine (laws_szDisk.calls k _ _ l0_0 a0_1 a0_2 a0_3 1048576 t362 _ ?side1 ?side2 A3.out).mono ?_);(case side1=>repeat (first|exact (Kd.C_below HR0_0.out HB.out)|(with_reducible first|apply Kd.C_alloc|apply Kd.C_drewN|apply Kd.C_drew)));(case side2=>exact HC0_0.out);rintro e w12 ⟨rfl,hb⟩;refine ⟨_,rfl,?_⟩;have n0_:=Aside0.mk (blk_below (g:=gb361) (o:=.cells #[.slice A0_0 l0_0.length c0_0,.int .i64 a0_1,.bool a0_2,.int .i64 a0_3] 36 (0,0)) (by (with_reducible repeat first|apply blk_drewN|apply blk_drew|apply blk_alloc);exact BK361.out) hb);have n1_:=Aside0.mk (below_step (by repeat (first|(with_reducible first|exact HB.out|apply below_alloc|apply pw_below_drewN|apply below_drew1|refine below_set ?_ GE361.out)|exact HB.out)) hb);clear BK361;clear HB;have BK361:=n0_;have HB:=n1_;clear n0_ n1_;(try clear hb);(try clear hb2);(try clear hk);(try clear hi))|((with_reducible refine gate_callee (f:=10) rfl ?_);refine goesL_ (some 24) rfl rfl Try.func10 (by kernel_rfl) rfl #[.slice A1 l1.length c1,.int .i64 t362] rfl (by (try simp only [List.map_toArray,List.map_cons,List.map_nil]);first|done|rfl|(simp only [List.length_drop,List.length_take];rfl)) ?_;(with_reducible refine (laws_szWriteS.calls k _ _ l1 t362 t363 _ ?side1 ?side2 A8.out).mono ?_);(case side1=>repeat (first|exact (Kd.C_below HR1.out HB.out)|(with_reducible first|apply Kd.C_alloc|apply Kd.C_drewN|apply Kd.C_drew)));(case side2=>exact HC1.out);rintro e w13 ⟨rfl,hb⟩;refine ⟨_,rfl,?_⟩;have n0_:=Aside0.mk (blk_below (g:=gb361) (o:=.cells #[.slice A0_0 l0_0.length c0_0,.int .i64 a0_1,.bool a0_2,.int .i64 a0_3] 36 (0,0)) (by (with_reducible repeat first|apply blk_drewN|apply blk_drew|apply blk_alloc);exact BK361.out) hb);have n1_:=Aside0.mk (below_step (by repeat (first|(with_reducible first|exact HB.out|apply below_alloc|apply pw_below_drewN|apply below_drew1|refine below_set ?_ GE361.out)|exact HB.out)) hb);clear BK361;clear HB;have BK361:=n0_;have HB:=n1_;clear n0_ n1_;(try clear hb);(try clear hb2);(try clear hk);(try clear hi)))
   go_ret
   exact ⟨by first|rfl|(simp [*,errW_none,errW_some] <;> rfl),by repeat (first|(with_reducible first|exact HB.out|apply below_alloc|apply pw_below_drewN|apply below_drew1|refine below_set ?_ GE361.out)|exact HB.out)⟩
  ·rw [if_neg c9] at H
   have c9b0 : decide (t363 < 0) = false:=decide_eq_false c9
   clear c9
   replace H:=Option.bind_eq_some_iff.mp H
   obtain ⟨⟨t364,t367,t368,t369⟩,A140,H⟩:=H
   replace H : ((laws_toWriteS.f k l1).bind fun t370=>((spec_PlanOf.f k t364 t367 t368 t369 t370).bind fun bt373=>((laws_toDisk.f k l0_0 a0_1 a0_2 a0_3).bind fun bt377=>((laws_toWriteS.f k l1).bind fun t384=>((impl_PlanOf.f k bt377.1 bt377.2.1 bt377.2.2.1 bt377.2.2.2 t384).bind fun bt387=>((laws_eqWriteS.f k bt387.1 bt373.1).bind fun t391=>(if t391 = true then (laws_FnExactPlanOf.j0 k l1 bt373.1 bt373.2 t384 bt387.1 bt387.2 (bt387.2 != bt373.2) l0_0 a0_1 a0_2 a0_3 bt377.1 bt377.2.1 bt377.2.2.1 bt377.2.2.2) else (laws_FnExactPlanOf.j0 k l1 bt373.1 bt373.2 t384 bt387.1 bt387.2 true l0_0 a0_1 a0_2 a0_3 bt377.1 bt377.2.1 bt377.2.2.1 bt377.2.2.2)))))))) = some r:=H
   have A14:=Aside0.mk A140
   clear A140
   replace H:=Option.bind_eq_some_iff.mp H
   obtain ⟨t370,A150,H⟩:=H
   replace H : ((spec_PlanOf.f k t364 t367 t368 t369 t370).bind fun bt373=>((laws_toDisk.f k l0_0 a0_1 a0_2 a0_3).bind fun bt377=>((laws_toWriteS.f k l1).bind fun t384=>((impl_PlanOf.f k bt377.1 bt377.2.1 bt377.2.2.1 bt377.2.2.2 t384).bind fun bt387=>((laws_eqWriteS.f k bt387.1 bt373.1).bind fun t391=>(if t391 = true then (laws_FnExactPlanOf.j0 k l1 bt373.1 bt373.2 t384 bt387.1 bt387.2 (bt387.2 != bt373.2) l0_0 a0_1 a0_2 a0_3 bt377.1 bt377.2.1 bt377.2.2.1 bt377.2.2.2) else (laws_FnExactPlanOf.j0 k l1 bt373.1 bt373.2 t384 bt387.1 bt387.2 true l0_0 a0_1 a0_2 a0_3 bt377.1 bt377.2.1 bt377.2.2.1 bt377.2.2.2))))))) = some r:=H
   have A15:=Aside0.mk A150
   clear A150
   replace H:=Option.bind_eq_some_iff.mp H
   obtain ⟨⟨t373,t376⟩,A160,H⟩:=H
   replace H : ((laws_toDisk.f k l0_0 a0_1 a0_2 a0_3).bind fun bt377=>((laws_toWriteS.f k l1).bind fun t384=>((impl_PlanOf.f k bt377.1 bt377.2.1 bt377.2.2.1 bt377.2.2.2 t384).bind fun bt387=>((laws_eqWriteS.f k bt387.1 t373).bind fun t391=>(if t391 = true then (laws_FnExactPlanOf.j0 k l1 t373 t376 t384 bt387.1 bt387.2 (bt387.2 != t376) l0_0 a0_1 a0_2 a0_3 bt377.1 bt377.2.1 bt377.2.2.1 bt377.2.2.2) else (laws_FnExactPlanOf.j0 k l1 t373 t376 t384 bt387.1 bt387.2 true l0_0 a0_1 a0_2 a0_3 bt377.1 bt377.2.1 bt377.2.2.1 bt377.2.2.2)))))) = some r:=H
   have A16:=Aside0.mk A160
   clear A160
   replace H:=Option.bind_eq_some_iff.mp H
   obtain ⟨⟨t377,t380,t381,t382⟩,A170,H⟩:=H
   replace H : ((laws_toWriteS.f k l1).bind fun t384=>((impl_PlanOf.f k t377 t380 t381 t382 t384).bind fun bt387=>((laws_eqWriteS.f k bt387.1 t373).bind fun t391=>(if t391 = true then (laws_FnExactPlanOf.j0 k l1 t373 t376 t384 bt387.1 bt387.2 (bt387.2 != t376) l0_0 a0_1 a0_2 a0_3 t377 t380 t381 t382) else (laws_FnExactPlanOf.j0 k l1 t373 t376 t384 bt387.1 bt387.2 true l0_0 a0_1 a0_2 a0_3 t377 t380 t381 t382))))) = some r:=H
   have A17:=Aside0.mk A170
   clear A170
   replace H:=Option.bind_eq_some_iff.mp H
   obtain ⟨t384,A180,H⟩:=H
   replace H : ((impl_PlanOf.f k t377 t380 t381 t382 t384).bind fun bt387=>((laws_eqWriteS.f k bt387.1 t373).bind fun t391=>(if t391 = true then (laws_FnExactPlanOf.j0 k l1 t373 t376 t384 bt387.1 bt387.2 (bt387.2 != t376) l0_0 a0_1 a0_2 a0_3 t377 t380 t381 t382) else (laws_FnExactPlanOf.j0 k l1 t373 t376 t384 bt387.1 bt387.2 true l0_0 a0_1 a0_2 a0_3 t377 t380 t381 t382)))) = some r:=H
   have A18:=Aside0.mk A180
   clear A180
   replace H:=Option.bind_eq_some_iff.mp H
   obtain ⟨⟨t387,t390⟩,A190,H⟩:=H
   replace H : ((laws_eqWriteS.f k t387 t373).bind fun t391=>(if t391 = true then (laws_FnExactPlanOf.j0 k l1 t373 t376 t384 t387 t390 (t390 != t376) l0_0 a0_1 a0_2 a0_3 t377 t380 t381 t382) else (laws_FnExactPlanOf.j0 k l1 t373 t376 t384 t387 t390 true l0_0 a0_1 a0_2 a0_3 t377 t380 t381 t382))) = some r:=H
   have A19:=Aside0.mk A190
   clear A190
   have HC20:=Aside0.mk H
   clear H
   go_enter Try.func6,Try.ntmps6
   go_upto_region 12 with (first|((with_reducible refine gate_dst (N:=2) rfl ?_);refine box_event ?hg (N:=2) ?hd (cs:=#[.slice A0_0 l0_0.length c0_0,.int .i64 a0_1,.bool a0_2,.int .i64 a0_3]) (t:=36) ?hr ?_;(case hd=>rfl);(case hg=>rfl);(case hr=>first|(go_simp;done)|(go_simp;rfl));intro gb361 hg w21 hbox hb;have n0_:=Aside0.mk (below_step (by repeat (first|exact HB.out|apply below_alloc|apply pw_below_drewN|apply below_drew1)) hb);have n1_:=Aside0.mk (hbox);have n2_:=Aside0.mk ((by rw [hg];exact (below_size (by repeat (first|exact HB.out|apply below_alloc|apply pw_below_drewN|apply below_drew1))) : w.heap.size ≤ gb361));have n3_:=Aside0.mk ((by rw [hg];exact (below_size (by repeat (first|exact HB.out|apply below_alloc|apply pw_below_drewN|apply below_drew1))) : w.heap.size ≤ gb361));clear HB;have HB:=n0_;have BK361:=n1_;have GW361:=n2_;have GE361:=n3_;clear n0_ n1_ n2_ n3_;clear hb hbox hg;have hcz22_0 : w21.cell? ⟨gb361,0,none⟩ = some (.slice A0_0 l0_0.length c0_0):=(blk_cell BK361.out 0).trans rfl;have hcz22_1 : w21.cell? ⟨gb361,1,none⟩ = some (.int .i64 a0_1):=(blk_cell BK361.out 1).trans rfl;have hcz22_2 : w21.cell? ⟨gb361,2,none⟩ = some (.bool a0_2):=(blk_cell BK361.out 2).trans rfl;have hcz22_3 : w21.cell? ⟨gb361,3,none⟩ = some (.int .i64 a0_3):=(blk_cell BK361.out 3).trans rfl;have hfz22_0:=blk_frozen BK361.out 0;have hfz22_1:=blk_frozen BK361.out 1;have hfz22_2:=blk_frozen BK361.out 2;have hfz22_3:=blk_frozen BK361.out 3)|((with_reducible refine gate_callee (f:=19) rfl ?_);refine goesL_ (some 19) rfl rfl Try.func19 (by kernel_rfl) rfl #[.agg #[.slice A0_0 l0_0.length c0_0,.int .i64 a0_1,.bool a0_2,.int .i64 a0_3],.int .i64 1048576] rfl (by (try simp only [List.map_toArray,List.map_cons,List.map_nil]);first|done|rfl|(simp only [List.length_drop,List.length_take];rfl)) ?_;(with_reducible refine (laws_szDisk.calls k _ _ l0_0 a0_1 a0_2 a0_3 1048576 t362 _ ?side1 ?side2 A3.out).mono ?_);(case side1=>repeat (first|exact (Kd.C_below HR0_0.out HB.out)|(with_reducible first|apply Kd.C_alloc|apply Kd.C_drewN|apply Kd.C_drew)));(case side2=>exact HC0_0.out);rintro e w23 ⟨rfl,hb⟩;refine ⟨_,rfl,?_⟩;have n0_:=Aside0.mk (blk_below (g:=gb361) (o:=.cells #[.slice A0_0 l0_0.length c0_0,.int .i64 a0_1,.bool a0_2,.int .i64 a0_3] 36 (0,0)) (by (with_reducible repeat first|apply blk_drewN|apply blk_drew|apply blk_alloc);exact BK361.out) hb);have n1_:=Aside0.mk (below_step (by repeat (first|(with_reducible first|exact HB.out|apply below_alloc|apply pw_below_drewN|apply below_drew1|refine below_set ?_ GE361.out)|exact HB.out)) hb);clear BK361;clear HB;have BK361:=n0_;have HB:=n1_;clear n0_ n1_;(try clear hb);(try clear hb2);(try clear hk);(try clear hi))|((with_reducible refine gate_callee (f:=10) rfl ?_);refine goesL_ (some 24) rfl rfl Try.func10 (by kernel_rfl) rfl #[.slice A1 l1.length c1,.int .i64 t362] rfl (by (try simp only [List.map_toArray,List.map_cons,List.map_nil]);first|done|rfl|(simp only [List.length_drop,List.length_take];rfl)) ?_;(with_reducible refine (laws_szWriteS.calls k _ _ l1 t362 t363 _ ?side1 ?side2 A8.out).mono ?_);(case side1=>repeat (first|exact (Kd.C_below HR1.out HB.out)|(with_reducible first|apply Kd.C_alloc|apply Kd.C_drewN|apply Kd.C_drew)));(case side2=>exact HC1.out);rintro e w24 ⟨rfl,hb⟩;refine ⟨_,rfl,?_⟩;have n0_:=Aside0.mk (blk_below (g:=gb361) (o:=.cells #[.slice A0_0 l0_0.length c0_0,.int .i64 a0_1,.bool a0_2,.int .i64 a0_3] 36 (0,0)) (by (with_reducible repeat first|apply blk_drewN|apply blk_drew|apply blk_alloc);exact BK361.out) hb);have n1_:=Aside0.mk (below_step (by repeat (first|(with_reducible first|exact HB.out|apply below_alloc|apply pw_below_drewN|apply below_drew1|refine below_set ?_ GE361.out)|exact HB.out)) hb);clear BK361;clear HB;have BK361:=n0_;have HB:=n1_;clear n0_ n1_;(try clear hb);(try clear hb2);(try clear hk);(try clear hi);have hcz25_0 : w24.cell? ⟨gb361,0,none⟩ = some (.slice A0_0 l0_0.length c0_0):=(blk_cell BK361.out 0).trans rfl;have hcz25_1 : w24.cell? ⟨gb361,1,none⟩ = some (.int .i64 a0_1):=(blk_cell BK361.out 1).trans rfl;have hcz25_2 : w24.cell? ⟨gb361,2,none⟩ = some (.bool a0_2):=(blk_cell BK361.out 2).trans rfl;have hcz25_3 : w24.cell? ⟨gb361,3,none⟩ = some (.int .i64 a0_3):=(blk_cell BK361.out 3).trans rfl;have hfz25_0:=blk_frozen BK361.out 0;have hfz25_1:=blk_frozen BK361.out 1;have hfz25_2:=blk_frozen BK361.out 2;have hfz25_3:=blk_frozen BK361.out 3)|((with_reducible refine gate_callee (f:=21) rfl ?_);refine goesL_ (some 29) rfl rfl Try.func21 (by kernel_rfl) rfl #[.agg #[.slice A0_0 l0_0.length c0_0,.int .i64 a0_1,.bool a0_2,.int .i64 a0_3]] rfl (by (try simp only [List.map_toArray,List.map_cons,List.map_nil]);first|done|rfl|(simp only [List.length_drop,List.length_take];rfl)) ?_;(with_reducible refine (laws_toDisk.calls k _ _ l0_0 a0_1 a0_2 a0_3 t364 t367 t368 t369 _ ?side1 ?side2 A14.out).mono ?_);(case side1=>repeat (first|exact (Kd.C_below HR0_0.out HB.out)|(with_reducible first|apply Kd.C_alloc|apply Kd.C_drewN|apply Kd.C_drew)));(case side2=>exact HC0_0.out);rintro e w26 ⟨v365,rfl,ho0,hb⟩;refine ⟨_,rfl,?_⟩;have n0_:=Aside0.mk (Kd.S_lower (Kd.S_mono (Kd.S_bound ho0) (fun k_ h_=>(⟨h_.1,(by first|exact h_.2.1|simpa only [World.size_setCell] using h_.2.1)⟩ : _∧w24.heap.size ≤ k_))) (below_size (by repeat (first|(with_reducible first|exact HB.out|apply below_alloc|apply pw_below_drewN|apply below_drew1|refine below_set ?_ GE361.out)|exact HB.out))));have n1_:=Aside0.mk (blk_below (g:=gb361) (o:=.cells #[.slice A0_0 l0_0.length c0_0,.int .i64 a0_1,.bool a0_2,.int .i64 a0_3] 36 (0,0)) (by (with_reducible repeat first|apply blk_drewN|apply blk_drew|apply blk_alloc);exact BK361.out) hb);have n2_:=Aside0.mk (below_step (by repeat (first|(with_reducible first|exact HB.out|apply below_alloc|apply pw_below_drewN|apply below_drew1|refine below_set ?_ GE361.out)|exact HB.out)) hb);clear BK361;clear HB;have HO366:=n0_;have BK361:=n1_;have HB:=n2_;clear n0_ n1_ n2_;(try clear hb);(try clear hb2);(try clear hk);(try clear hi);(try clear ho0))|((with_reducible refine gate_callee (f:=12) rfl ?_);refine goesL_ (some 31) rfl rfl Try.func12 (by kernel_rfl) rfl #[.slice A1 l1.length c1] rfl (by (try simp only [List.map_toArray,List.map_cons,List.map_nil]);first|done|rfl|(simp only [List.length_drop,List.length_take];rfl)) ?_;(with_reducible refine (laws_toWriteS.calls k _ _ l1 t370 _ ?side1 ?side2 A15.out).mono ?_);(case side1=>repeat (first|exact (Kd.C_below HR1.out HB.out)|(with_reducible first|apply Kd.C_alloc|apply Kd.C_drewN|apply Kd.C_drew)));(case side2=>exact HC1.out);rintro e w27 ⟨v371,rfl,ho0,hb⟩;refine ⟨_,rfl,?_⟩;have n0_:=Aside0.mk (Kd.S_old (by (with_reducible repeat (first|apply Kd.S_alloc|apply Kd.S_drewN|apply Kd.S_drew));exact HO366.out) hb);have n1_:=Aside0.mk (Kd.S_lower (Kd.S_mono (Kd.S_bound ho0) (fun k_ h_=>(⟨h_.1,(by first|exact h_.2.1|simpa only [World.size_setCell] using h_.2.1)⟩ : _∧w26.heap.size ≤ k_))) (below_size (by repeat (first|(with_reducible first|exact HB.out|apply below_alloc|apply pw_below_drewN|apply below_drew1|refine below_set ?_ GE361.out)|exact HB.out))));have n2_:=Aside0.mk (blk_below (g:=gb361) (o:=.cells #[.slice A0_0 l0_0.length c0_0,.int .i64 a0_1,.bool a0_2,.int .i64 a0_3] 36 (0,0)) (by (with_reducible repeat first|apply blk_drewN|apply blk_drew|apply blk_alloc);exact BK361.out) hb);have n3_:=Aside0.mk (below_step (by repeat (first|(with_reducible first|exact HB.out|apply below_alloc|apply pw_below_drewN|apply below_drew1|refine below_set ?_ GE361.out)|exact HB.out)) hb);clear HO366;clear BK361;clear HB;have HO366:=n0_;have HO372:=n1_;have BK361:=n2_;have HB:=n3_;clear n0_ n1_ n2_ n3_;(try clear hb);(try clear hb2);(try clear hk);(try clear hi);(try clear ho0);obtain ⟨Ao28,co28,eo28⟩:=Kd.S_slice HO366.out;subst eo28;obtain ⟨Ao29,co29,eo29⟩:=Kd.S_slice HO372.out;subst eo29)|((with_reducible refine gate_callee (f:=26) rfl ?_);refine goesL_ (some 32) rfl rfl Try.func26 (by kernel_rfl) rfl #[.agg #[.slice Ao28 t364.length co28,.int .i64 t367,.bool t368,.int .i64 t369],.slice Ao29 t370.length co29] rfl (by (try simp only [List.map_toArray,List.map_cons,List.map_nil]);first|done|rfl|(simp only [List.length_drop,List.length_take];rfl)) ?_;(with_reducible refine (spec_PlanOf.calls k _ _ t364 t367 t368 t369 _ _ t370 t373 t376 _ ?side1 ?side2 ?side3 ?side4 A16.out).mono ?_);(case side1=>repeat (first|exact (Kd.S_reads' HO366.out).2.2|(with_reducible first|apply Kd.C_alloc|apply Kd.C_drewN|apply Kd.C_drew)));(case side2=>exact (Kd.S_reads' HO366.out).2.1);(case side3=>repeat (first|exact (Kd.S_reads' HO372.out).2.2|(with_reducible first|apply Kd.C_alloc|apply Kd.C_drewN|apply Kd.C_drew)));(case side4=>exact (Kd.S_reads' HO372.out).2.1);rintro e w30 ⟨v374,rfl,ho0,hb⟩;refine ⟨_,rfl,?_⟩;have n0_:=Aside0.mk (Kd.S_old (by (with_reducible repeat (first|apply Kd.S_alloc|apply Kd.S_drewN|apply Kd.S_drew));exact HO366.out) hb);have n1_:=Aside0.mk (Kd.S_told (Kd.S_old (by (with_reducible repeat (first|apply Kd.S_alloc|apply Kd.S_drewN|apply Kd.S_drew));exact HO372.out) hb) (Kd.S_base ho0));have n2_:=Aside0.mk (Kd.S_lower (Kd.S_new' (Kd.S_mono (Kd.S_bound ho0) (fun k_ h_=>(⟨h_.1,(by first|exact h_.2.1|simpa only [World.size_setCell] using h_.2.1)⟩ : _∧w27.heap.size ≤ k_))) (Kd.S_lt (by (with_reducible repeat (first|apply Kd.S_alloc|apply Kd.S_drewN|apply Kd.S_drew));exact HO372.out))) (below_size (by repeat (first|(with_reducible first|exact HB.out|apply below_alloc|apply pw_below_drewN|apply below_drew1|refine below_set ?_ GE361.out)|exact HB.out))));have n3_:=Aside0.mk (blk_below (g:=gb361) (o:=.cells #[.slice A0_0 l0_0.length c0_0,.int .i64 a0_1,.bool a0_2,.int .i64 a0_3] 36 (0,0)) (by (with_reducible repeat first|apply blk_drewN|apply blk_drew|apply blk_alloc);exact BK361.out) hb);have n4_:=Aside0.mk (below_step (by repeat (first|(with_reducible first|exact HB.out|apply below_alloc|apply pw_below_drewN|apply below_drew1|refine below_set ?_ GE361.out)|exact HB.out)) hb);clear HO366;clear HO372;clear BK361;clear HB;have HO366:=n0_;have HO372:=n1_;have HO375:=n2_;have BK361:=n3_;have HB:=n4_;clear n0_ n1_ n2_ n3_ n4_;(try clear hb);(try clear hb2);(try clear hk);(try clear hi);(try clear ho0);have hcz31_0 : w30.cell? ⟨gb361,0,none⟩ = some (.slice A0_0 l0_0.length c0_0):=(blk_cell BK361.out 0).trans rfl;have hcz31_1 : w30.cell? ⟨gb361,1,none⟩ = some (.int .i64 a0_1):=(blk_cell BK361.out 1).trans rfl;have hcz31_2 : w30.cell? ⟨gb361,2,none⟩ = some (.bool a0_2):=(blk_cell BK361.out 2).trans rfl;have hcz31_3 : w30.cell? ⟨gb361,3,none⟩ = some (.int .i64 a0_3):=(blk_cell BK361.out 3).trans rfl;have hfz31_0:=blk_frozen BK361.out 0;have hfz31_1:=blk_frozen BK361.out 1;have hfz31_2:=blk_frozen BK361.out 2;have hfz31_3:=blk_frozen BK361.out 3)|((with_reducible refine gate_callee (f:=21) rfl ?_);refine goesL_ (some 36) rfl rfl Try.func21 (by kernel_rfl) rfl #[.agg #[.slice A0_0 l0_0.length c0_0,.int .i64 a0_1,.bool a0_2,.int .i64 a0_3]] rfl (by (try simp only [List.map_toArray,List.map_cons,List.map_nil]);first|done|rfl|(simp only [List.length_drop,List.length_take];rfl)) ?_;(with_reducible refine (laws_toDisk.calls k _ _ l0_0 a0_1 a0_2 a0_3 t377 t380 t381 t382 _ ?side1 ?side2 A17.out).mono ?_);(case side1=>repeat (first|exact (Kd.C_below HR0_0.out HB.out)|(with_reducible first|apply Kd.C_alloc|apply Kd.C_drewN|apply Kd.C_drew)));(case side2=>exact HC0_0.out);rintro e w32 ⟨v378,rfl,ho0,hb⟩;refine ⟨_,rfl,?_⟩;have n0_:=Aside0.mk (Kd.S_old (by (with_reducible repeat (first|apply Kd.S_alloc|apply Kd.S_drewN|apply Kd.S_drew));exact HO375.out) hb);have n1_:=Aside0.mk (Kd.S_lower (Kd.S_new' (Kd.S_mono (Kd.S_bound ho0) (fun k_ h_=>(⟨h_.1,(by first|exact h_.2.1|simpa only [World.size_setCell] using h_.2.1)⟩ : _∧w30.heap.size ≤ k_))) (Kd.S_lt (by (with_reducible repeat (first|apply Kd.S_alloc|apply Kd.S_drewN|apply Kd.S_drew));exact HO366.out))) (below_size (by repeat (first|(with_reducible first|exact HB.out|apply below_alloc|apply pw_below_drewN|apply below_drew1|refine below_set ?_ GE361.out)|exact HB.out))));have n2_:=Aside0.mk (blk_below (g:=gb361) (o:=.cells #[.slice A0_0 l0_0.length c0_0,.int .i64 a0_1,.bool a0_2,.int .i64 a0_3] 36 (0,0)) (by (with_reducible repeat first|apply blk_drewN|apply blk_drew|apply blk_alloc);exact BK361.out) hb);have n3_:=Aside0.mk (below_step (by repeat (first|(with_reducible first|exact HB.out|apply below_alloc|apply pw_below_drewN|apply below_drew1|refine below_set ?_ GE361.out)|exact HB.out)) hb);clear HO375;clear BK361;clear HB;clear HO366;clear HO372;have HO375:=n0_;have HO379:=n1_;have BK361:=n2_;have HB:=n3_;clear n0_ n1_ n2_ n3_;(try clear hb);(try clear hb2);(try clear hk);(try clear hi);(try clear ho0))|((with_reducible refine gate_dst (N:=8) rfl ?_);refine box_event ?hg (N:=8) ?hd (cs:=#[.slice none 0 0,.int .i64 0,.bool false,.int .i64 0]) (t:=39) ?hr ?_;(case hd=>rfl);(case hg=>rfl);(case hr=>first|(go_simp;done)|(go_simp;rfl));intro gb383 hg w33 hbox hb;have n0_:=Aside0.mk (Kd.S_below (by (with_reducible repeat (first|apply Kd.S_alloc|apply Kd.S_drewN|apply Kd.S_drew));exact HO375.out) hb);have n1_:=Aside0.mk (Kd.S_below (by (with_reducible repeat (first|apply Kd.S_alloc|apply Kd.S_drewN|apply Kd.S_drew));exact HO379.out) hb);have n2_:=Aside0.mk (blk_below (g:=gb361) (o:=.cells #[.slice A0_0 l0_0.length c0_0,.int .i64 a0_1,.bool a0_2,.int .i64 a0_3] 36 (0,0)) (by (with_reducible repeat first|apply blk_drewN|apply blk_drew|apply blk_alloc);exact BK361.out) hb);have n3_:=Aside0.mk (below_step (by repeat (first|(with_reducible first|exact HB.out|apply below_alloc|apply pw_below_drewN|apply below_drew1|refine below_set ?_ GE361.out)|exact HB.out)) hb);have n4_:=Aside0.mk (hbox);have n5_:=Aside0.mk ((by rw [hg];exact (below_size (by repeat (first|(with_reducible first|exact HB.out|apply below_alloc|apply pw_below_drewN|apply below_drew1|refine below_set ?_ GE361.out)|exact HB.out))) : w.heap.size ≤ gb383));have n6_:=Aside0.mk ((by rw [hg];exact (below_size (by repeat (first|(with_reducible first|exact HB.out|apply below_alloc|apply pw_below_drewN|apply below_drew1|refine below_set ?_ GE361.out)|exact HB.out))) : w.heap.size ≤ gb383));have n7_:=Aside0.mk ((by rw [hg];exact Nat.ne_of_lt (blk_lt (g:=gb361) (o:=.cells #[.slice A0_0 l0_0.length c0_0,.int .i64 a0_1,.bool a0_2,.int .i64 a0_3] 36 (0,0)) (by (with_reducible repeat first|apply blk_drewN|apply blk_drew|apply blk_alloc);exact BK361.out)) : gb361 ≠ gb383));have n8_:=Aside0.mk ((by rw [hg];exact Nat.ne_of_gt (blk_lt (g:=gb361) (o:=.cells #[.slice A0_0 l0_0.length c0_0,.int .i64 a0_1,.bool a0_2,.int .i64 a0_3] 36 (0,0)) (by (with_reducible repeat first|apply blk_drewN|apply blk_drew|apply blk_alloc);exact BK361.out)) : gb383 ≠ gb361));clear HO375;clear HO379;clear BK361;clear HB;have HO375:=n0_;have HO379:=n1_;have BK361:=n2_;have HB:=n3_;have BK383:=n4_;have GW383:=n5_;have GE383:=n6_;have NB361_383:=n7_;have NB383_361:=n8_;clear n0_ n1_ n2_ n3_ n4_ n5_ n6_ n7_ n8_;clear hb hbox hg;obtain ⟨Ao34,co34,eo34⟩:=Kd.S_slice HO379.out;subst eo34;have hnb35:=NB383_361.out;have hnc35:=NB361_383.out;have hcz36_0 : w33.cell? ⟨gb383,0,none⟩ = some (.slice none 0 0):=(blk_cell BK383.out 0).trans rfl;have hcz36_1 : w33.cell? ⟨gb383,1,none⟩ = some (.int .i64 0):=(blk_cell BK383.out 1).trans rfl;have hcz36_2 : w33.cell? ⟨gb383,2,none⟩ = some (.bool false):=(blk_cell BK383.out 2).trans rfl;have hcz36_3 : w33.cell? ⟨gb383,3,none⟩ = some (.int .i64 0):=(blk_cell BK383.out 3).trans rfl;have hfz36_0:=blk_frozen BK383.out 0;have hfz36_1:=blk_frozen BK383.out 1;have hfz36_2:=blk_frozen BK383.out 2;have hfz36_3:=blk_frozen BK383.out 3)|((with_reducible refine gate_callee (f:=12) rfl ?_);refine goesL_ (some 38) rfl rfl Try.func12 (by kernel_rfl) rfl #[.slice A1 l1.length c1] rfl (by (try simp only [List.map_toArray,List.map_cons,List.map_nil]);first|done|rfl|(simp only [List.length_drop,List.length_take];rfl)) ?_;(with_reducible refine (laws_toWriteS.calls k _ _ l1 t384 _ ?side1 ?side2 A18.out).mono ?_);(case side1=>exact Kd.C_below HR1.out (by repeat (first|(with_reducible first|exact HB.out|apply below_alloc|apply pw_below_drewN|apply below_drew1|refine below_set ?_ GE361.out|refine below_set ?_ GE383.out)|exact HB.out)));(case side2=>exact HC1.out);rintro e w37 ⟨v385,rfl,ho0,hb⟩;refine ⟨_,rfl,?_⟩;have n0_:=Aside0.mk (Kd.S_mono (Kd.S_told (Kd.S_old (by (with_reducible repeat (first|apply Kd.S_alloc|apply Kd.S_drewN|apply Kd.S_drew));exact (Kd.S_mono (Kd.S_far (p:=⟨gb383,3,none⟩) (Kd.S_far (p:=⟨gb383,2,none⟩) (Kd.S_far (p:=⟨gb383,1,none⟩) (Kd.S_far (p:=⟨gb383,0,none⟩) (Kd.S_types HO375.out BK383.out (by decide)) (fun _ hk=>hk.2) (.slice Ao34 t377.length co34)) (fun _ hk=>hk.2) (.int .i64 t380)) (fun _ hk=>hk.2) (.bool t381)) (fun _ hk=>hk.2) (.int .i64 t382)) (fun _ h_=>h_.1))) hb) (Kd.S_base ho0)) (fun k_ h_=>(⟨h_.1,(by first|exact h_.2|simpa only [World.size_setCell] using h_.2)⟩ : _∧k_ < w33.heap.size)));have n1_:=Aside0.mk (Kd.S_mono (Kd.S_old (by (with_reducible repeat (first|apply Kd.S_alloc|apply Kd.S_drewN|apply Kd.S_drew));exact (Kd.S_mono (Kd.S_far (p:=⟨gb383,3,none⟩) (Kd.S_far (p:=⟨gb383,2,none⟩) (Kd.S_far (p:=⟨gb383,1,none⟩) (Kd.S_far (p:=⟨gb383,0,none⟩) (Kd.S_types HO379.out BK383.out (by decide)) (fun _ hk=>hk.2) (.slice Ao34 t377.length co34)) (fun _ hk=>hk.2) (.int .i64 t380)) (fun _ hk=>hk.2) (.bool t381)) (fun _ hk=>hk.2) (.int .i64 t382)) (fun _ h_=>h_.1))) hb) (fun k_ h_=>(⟨h_.1,(by first|exact h_.2|simpa only [World.size_setCell] using h_.2)⟩ : _∧k_ < w33.heap.size)));have n2_:=Aside0.mk (Kd.S_lower (Kd.S_new' (Kd.S_mono (Kd.S_bound ho0) (fun k_ h_=>(⟨h_.1,(by first|exact h_.2.1|simpa only [World.size_setCell] using h_.2.1)⟩ : _∧w33.heap.size ≤ k_))) (Kd.S_lt (by (with_reducible repeat (first|apply Kd.S_alloc|apply Kd.S_drewN|apply Kd.S_drew));exact (Kd.S_mono (Kd.S_far (p:=⟨gb383,3,none⟩) (Kd.S_far (p:=⟨gb383,2,none⟩) (Kd.S_far (p:=⟨gb383,1,none⟩) (Kd.S_far (p:=⟨gb383,0,none⟩) (Kd.S_types HO375.out BK383.out (by decide)) (fun _ hk=>hk.2) (.slice Ao34 t377.length co34)) (fun _ hk=>hk.2) (.int .i64 t380)) (fun _ hk=>hk.2) (.bool t381)) (fun _ hk=>hk.2) (.int .i64 t382)) (fun _ h_=>h_.1))))) (below_size (by repeat (first|(with_reducible first|exact HB.out|apply below_alloc|apply pw_below_drewN|apply below_drew1|refine below_set ?_ GE361.out|refine below_set ?_ GE383.out)|exact HB.out))));have n3_:=Aside0.mk (blk_below (g:=gb361) (o:=.cells #[.slice A0_0 l0_0.length c0_0,.int .i64 a0_1,.bool a0_2,.int .i64 a0_3] 36 (0,0)) (by (with_reducible repeat first|apply blk_drewN|apply blk_drew|apply blk_alloc);refine blk_far ?_ NB361_383.out _;(with_reducible repeat first|apply blk_drewN|apply blk_drew|apply blk_alloc);refine blk_far ?_ NB361_383.out _;(with_reducible repeat first|apply blk_drewN|apply blk_drew|apply blk_alloc);refine blk_far ?_ NB361_383.out _;(with_reducible repeat first|apply blk_drewN|apply blk_drew|apply blk_alloc);refine blk_far ?_ NB361_383.out _;(with_reducible repeat first|apply blk_drewN|apply blk_drew|apply blk_alloc);exact BK361.out) hb);have n4_:=Aside0.mk (blk_below (g:=gb383) (o:=.cells #[.slice Ao34 t377.length co34,.int .i64 t380,.bool t381,.int .i64 t382] 39 (0,0)) (by (with_reducible repeat first|apply blk_drewN|apply blk_drew|apply blk_alloc);refine blk_put (cs:=#[.slice Ao34 t377.length co34,.int .i64 t380,.bool t381,.int .i64 0]) ?_ 3 _ rfl;(with_reducible repeat first|apply blk_drewN|apply blk_drew|apply blk_alloc);refine blk_put (cs:=#[.slice Ao34 t377.length co34,.int .i64 t380,.bool false,.int .i64 0]) ?_ 2 _ rfl;(with_reducible repeat first|apply blk_drewN|apply blk_drew|apply blk_alloc);refine blk_put (cs:=#[.slice Ao34 t377.length co34,.int .i64 0,.bool false,.int .i64 0]) ?_ 1 _ rfl;(with_reducible repeat first|apply blk_drewN|apply blk_drew|apply blk_alloc);refine blk_put (cs:=#[.slice none 0 0,.int .i64 0,.bool false,.int .i64 0]) ?_ 0 _ rfl;(with_reducible repeat first|apply blk_drewN|apply blk_drew|apply blk_alloc);exact BK383.out) hb);have n5_:=Aside0.mk (below_step (by repeat (first|(with_reducible first|exact HB.out|apply below_alloc|apply pw_below_drewN|apply below_drew1|refine below_set ?_ GE361.out|refine below_set ?_ GE383.out)|exact HB.out)) hb);clear HO375;clear HO379;clear BK361;clear BK383;clear HB;have HO375:=n0_;have HO379:=n1_;have HO386:=n2_;have BK361:=n3_;have BK383:=n4_;have HB:=n5_;clear n0_ n1_ n2_ n3_ n4_ n5_;(try clear hb);(try clear hb2);(try clear hk);(try clear hi);(try clear ho0);have hcz38_0 : w37.cell? ⟨gb383,0,none⟩ = some (.slice Ao34 t377.length co34):=(blk_cell BK383.out 0).trans rfl;have hcz38_1 : w37.cell? ⟨gb383,1,none⟩ = some (.int .i64 t380):=(blk_cell BK383.out 1).trans rfl;have hcz38_2 : w37.cell? ⟨gb383,2,none⟩ = some (.bool t381):=(blk_cell BK383.out 2).trans rfl;have hcz38_3 : w37.cell? ⟨gb383,3,none⟩ = some (.int .i64 t382):=(blk_cell BK383.out 3).trans rfl;have hfz38_0:=blk_frozen BK383.out 0;have hfz38_1:=blk_frozen BK383.out 1;have hfz38_2:=blk_frozen BK383.out 2;have hfz38_3:=blk_frozen BK383.out 3;obtain ⟨Ao39,co39,eo39⟩:=Kd.S_slice HO386.out;subst eo39)|((with_reducible refine gate_callee (f:=27) rfl ?_);refine goesL_ (some 42) rfl rfl Try.func27 (by kernel_rfl) rfl #[.agg #[.slice Ao34 t377.length co34,.int .i64 t380,.bool t381,.int .i64 t382],.slice Ao39 t384.length co39] rfl (by (try simp only [List.map_toArray,List.map_cons,List.map_nil]);first|done|rfl|(simp only [List.length_drop,List.length_take];rfl)) ?_;(with_reducible refine (impl_PlanOf.calls k _ _ t377 t380 t381 t382 _ _ t384 t387 t390 _ ?side1 ?side2 ?side3 ?side4 A19.out).mono ?_);(case side1=>repeat (first|exact (Kd.S_reads' HO379.out).2.2|(with_reducible first|apply Kd.C_alloc|apply Kd.C_drewN|apply Kd.C_drew)));(case side2=>exact (Kd.S_reads' HO379.out).2.1);(case side3=>repeat (first|exact (Kd.S_reads' HO386.out).2.2|(with_reducible first|apply Kd.C_alloc|apply Kd.C_drewN|apply Kd.C_drew)));(case side4=>exact (Kd.S_reads' HO386.out).2.1);rintro e w40 ⟨v388,rfl,ho0,hb⟩;refine ⟨_,rfl,?_⟩;have n0_:=Aside0.mk (Kd.S_told (Kd.S_old (by (with_reducible repeat (first|apply Kd.S_alloc|apply Kd.S_drewN|apply Kd.S_drew));exact HO375.out) hb) (Kd.S_base ho0));have n1_:=Aside0.mk (Kd.S_old (by (with_reducible repeat (first|apply Kd.S_alloc|apply Kd.S_drewN|apply Kd.S_drew));exact HO379.out) hb);have n2_:=Aside0.mk (Kd.S_told (Kd.S_old (by (with_reducible repeat (first|apply Kd.S_alloc|apply Kd.S_drewN|apply Kd.S_drew));exact HO386.out) hb) (Kd.S_base ho0));have n3_:=Aside0.mk (Kd.S_lower (Kd.S_new' (Kd.S_new' (Kd.S_mono (Kd.S_bound ho0) (fun k_ h_=>(⟨h_.1,(by first|exact h_.2.1|simpa only [World.size_setCell] using h_.2.1)⟩ : _∧w37.heap.size ≤ k_))) (Kd.S_lt (by (with_reducible repeat (first|apply Kd.S_alloc|apply Kd.S_drewN|apply Kd.S_drew));exact HO375.out))) (Kd.S_lt (by (with_reducible repeat (first|apply Kd.S_alloc|apply Kd.S_drewN|apply Kd.S_drew));exact HO386.out))) (below_size (by repeat (first|(with_reducible first|exact HB.out|apply below_alloc|apply pw_below_drewN|apply below_drew1|refine below_set ?_ GE361.out|refine below_set ?_ GE383.out)|exact HB.out))));have n4_:=Aside0.mk (blk_below (g:=gb361) (o:=.cells #[.slice A0_0 l0_0.length c0_0,.int .i64 a0_1,.bool a0_2,.int .i64 a0_3] 36 (0,0)) (by (with_reducible repeat first|apply blk_drewN|apply blk_drew|apply blk_alloc);exact BK361.out) hb);have n5_:=Aside0.mk (blk_below (g:=gb383) (o:=.cells #[.slice Ao34 t377.length co34,.int .i64 t380,.bool t381,.int .i64 t382] 39 (0,0)) (by (with_reducible repeat first|apply blk_drewN|apply blk_drew|apply blk_alloc);exact BK383.out) hb);have n6_:=Aside0.mk (below_step (by repeat (first|(with_reducible first|exact HB.out|apply below_alloc|apply pw_below_drewN|apply below_drew1|refine below_set ?_ GE361.out|refine below_set ?_ GE383.out)|exact HB.out)) hb);clear HO375;clear HO379;clear HO386;clear BK361;clear BK383;clear HB;have HO375:=n0_;have HO379:=n1_;have HO386:=n2_;have HO389:=n3_;have BK361:=n4_;have BK383:=n5_;have HB:=n6_;clear n0_ n1_ n2_ n3_ n4_ n5_ n6_;(try clear hb);(try clear hb2);(try clear hk);(try clear hi);(try clear ho0)))
   (try simp only [Act.put,List.setIfInBounds_toArray,List.set_cons_zero,List.set_cons_succ])
   go_cut [53] (fun v53 wc=>∃ (kq : Nat) (x53_19 : Bool),v53 = .bool x53_19∧Aside0 (laws_FnExactPlanOf.j0 kq l1 t373 t376 t384 t387 t390 x53_19 l0_0 a0_1 a0_2 a0_3 t377 t380 t381 t382 = some r)∧Aside0 (kq ≤ k)∧Aside0 (Kd.S k59 59 wc w.heap.size (fun k_=>some k_ ≠ ((.slice Ao39 t384.length co39) : Value).ownBlock∧some k_ ≠ (v388 : Value).ownBlock∧w27.heap.size ≤ k_∧k_ < w30.heap.size∧k_ < w33.heap.size∧k_ < w37.heap.size) v374 t373)∧Aside0 (Kd.S k59 59 wc w.heap.size (fun k_=>some k_ ≠ (v374 : Value).ownBlock∧some k_ ≠ (v388 : Value).ownBlock∧w33.heap.size ≤ k_∧k_ < w37.heap.size) (.slice Ao39 t384.length co39) t384)∧Aside0 (Kd.S k59 59 wc w.heap.size (fun k_=>some k_ ≠ (v374 : Value).ownBlock∧some k_ ≠ ((.slice Ao39 t384.length co39) : Value).ownBlock∧w37.heap.size ≤ k_) v388 t387)∧Aside0 (Kd.S (Kd.slice 5 (Kd.int .u8)) 24 wc w.heap.size (fun k_=>w30.heap.size ≤ k_∧k_ < w33.heap.size∧k_ < w37.heap.size) (.slice Ao34 t377.length co34) t377)∧Aside0 (wc.heap[gb361]? = some (.cells #[(.slice A0_0 l0_0.length c0_0),.int .i64 a0_1,.bool a0_2,.int .i64 a0_3] 36 (0,0)))∧Aside0 (wc.heap[gb383]? = some (.cells #[(.slice Ao34 t377.length co34),.int .i64 t380,.bool t381,.int .i64 t382] 39 (0,0)))∧Aside0 (Below w.heap.size w wc))
   case first =>
    have H:=HC20.out
    clear HC20
    replace H:=Option.bind_eq_some_iff.mp H
    obtain ⟨t391,A410,H⟩:=H
    replace H : (if t391 = true then (laws_FnExactPlanOf.j0 k l1 t373 t376 t384 t387 t390 (t390 != t376) l0_0 a0_1 a0_2 a0_3 t377 t380 t381 t382) else (laws_FnExactPlanOf.j0 k l1 t373 t376 t384 t387 t390 true l0_0 a0_1 a0_2 a0_3 t377 t380 t381 t382)) = some r:=H
    have A41:=Aside0.mk A410
    clear A410
    by_cases c42 : t391 = true
    ·subst c42
     have H1 : (laws_FnExactPlanOf.j0 k l1 t373 t376 t384 t387 t390 (t390 != t376) l0_0 a0_1 a0_2 a0_3 t377 t380 t381 t382) = some r:=by rw [if_pos rfl] at H;exact H
     clear H
     have H:=H1
     clear H1
     have H':=Aside0.mk H
     clear H
     obtain ⟨Ao43,co43,eo43⟩:=Kd.S_slice HO389.out
     subst eo43
     obtain ⟨Ao44,co44,eo44⟩:=Kd.S_slice HO375.out
     subst eo44
     go_wp2_with (first|((with_reducible refine gate_callee (f:=15) rfl ?_);refine goesL_ (some 47) rfl rfl Try.func15 (by kernel_rfl) rfl #[.slice Ao43 t387.length co43,.slice Ao44 t373.length co44] rfl (by (try simp only [List.map_toArray,List.map_cons,List.map_nil]);first|done|rfl|(simp only [List.length_drop,List.length_take];rfl)) ?_;(with_reducible refine (laws_eqWriteS.calls k _ _ t387 _ _ t373 true _ ?side1 ?side2 ?side3 ?side4 A41.out).mono ?_);(case side1=>repeat (first|exact (Kd.S_reads' HO389.out).2.2|(with_reducible first|apply Kd.C_alloc|apply Kd.C_drewN|apply Kd.C_drew)));(case side2=>exact (Kd.S_reads' HO389.out).2.1);(case side3=>repeat (first|exact (Kd.S_reads' HO375.out).2.2|(with_reducible first|apply Kd.C_alloc|apply Kd.C_drewN|apply Kd.C_drew)));(case side4=>exact (Kd.S_reads' HO375.out).2.1);rintro e w45 ⟨rfl,hb⟩;refine ⟨_,rfl,?_⟩;have n0_:=Aside0.mk (Kd.S_below (by (with_reducible repeat (first|apply Kd.S_alloc|apply Kd.S_drewN|apply Kd.S_drew));exact HO375.out) hb);have n1_:=Aside0.mk (Kd.S_below (by (with_reducible repeat (first|apply Kd.S_alloc|apply Kd.S_drewN|apply Kd.S_drew));exact HO379.out) hb);have n2_:=Aside0.mk (Kd.S_below (by (with_reducible repeat (first|apply Kd.S_alloc|apply Kd.S_drewN|apply Kd.S_drew));exact HO386.out) hb);have n3_:=Aside0.mk (Kd.S_below (by (with_reducible repeat (first|apply Kd.S_alloc|apply Kd.S_drewN|apply Kd.S_drew));exact HO389.out) hb);have n4_:=Aside0.mk (blk_below (g:=gb361) (o:=.cells #[.slice A0_0 l0_0.length c0_0,.int .i64 a0_1,.bool a0_2,.int .i64 a0_3] 36 (0,0)) (by (with_reducible repeat first|apply blk_drewN|apply blk_drew|apply blk_alloc);exact BK361.out) hb);have n5_:=Aside0.mk (blk_below (g:=gb383) (o:=.cells #[.slice Ao34 t377.length co34,.int .i64 t380,.bool t381,.int .i64 t382] 39 (0,0)) (by (with_reducible repeat first|apply blk_drewN|apply blk_drew|apply blk_alloc);exact BK383.out) hb);have n6_:=Aside0.mk (below_step (by repeat (first|(with_reducible first|exact HB.out|apply below_alloc|apply pw_below_drewN|apply below_drew1|refine below_set ?_ GE361.out|refine below_set ?_ GE383.out)|exact HB.out)) hb);clear HO375;clear HO379;clear HO386;clear HO389;clear BK361;clear BK383;clear HB;have HO375:=n0_;have HO379:=n1_;have HO386:=n2_;have HO389:=n3_;have BK361:=n4_;have BK383:=n5_;have HB:=n6_;clear n0_ n1_ n2_ n3_ n4_ n5_ n6_;(try clear hb);(try clear hb2);(try clear hk);(try clear hi)))
     go_meet
     case rel=>exact ⟨_,((t390 != t376)),(by first|rfl|(simp;done)|(simp [*];done)),H',⟨by first|omega|exact Nat.le_refl _⟩,⟨by (with_reducible repeat (first|apply Kd.S_alloc|apply Kd.S_drewN|apply Kd.S_drew));exact Kd.S_mono HO375.out (fun _ hk=>⟨hk.1.1.1.2,⟨hk.1.2,⟨hk.1.1.1.1.1.1.2,⟨hk.1.1.1.1.2,⟨hk.1.1.2,hk.2⟩⟩⟩⟩⟩)⟩,⟨by (with_reducible repeat (first|apply Kd.S_alloc|apply Kd.S_drewN|apply Kd.S_drew));exact Kd.S_mono HO386.out (fun _ hk=>⟨hk.1.1.2,⟨hk.1.2,⟨hk.1.1.1.2,hk.2⟩⟩⟩)⟩,⟨by (with_reducible repeat (first|apply Kd.S_alloc|apply Kd.S_drewN|apply Kd.S_drew));exact Kd.S_mono HO389.out (fun _ hk=>⟨hk.1.2,⟨hk.2,hk.1.1.2⟩⟩)⟩,⟨by (with_reducible repeat (first|apply Kd.S_alloc|apply Kd.S_drewN|apply Kd.S_drew));exact Kd.S_mono HO379.out (fun _ hk=>⟨hk.1.1.1.2,⟨hk.1.2,hk.2⟩⟩)⟩,⟨by (with_reducible repeat first|apply blk_drewN|apply blk_drew|apply blk_alloc);exact BK361.out⟩,⟨by (with_reducible repeat first|apply blk_drewN|apply blk_drew|apply blk_alloc);exact BK383.out⟩,⟨by repeat (first|(with_reducible first|exact HB.out|apply below_alloc|apply pw_below_drewN|apply below_drew1|refine below_set ?_ GE361.out|refine below_set ?_ GE383.out)|exact HB.out)⟩⟩
    ·replace c42:=Bool.eq_false_iff.mpr c42
     subst c42
     have H1 : (laws_FnExactPlanOf.j0 k l1 t373 t376 t384 t387 t390 true l0_0 a0_1 a0_2 a0_3 t377 t380 t381 t382) = some r:=by rw [if_neg (show ¬ (false = true) by decide)] at H;exact H
     clear H
     have H:=H1
     clear H1
     have H':=Aside0.mk H
     clear H
     obtain ⟨Ao46,co46,eo46⟩:=Kd.S_slice HO389.out
     subst eo46
     obtain ⟨Ao47,co47,eo47⟩:=Kd.S_slice HO375.out
     subst eo47
     go_wp2_with (first|((with_reducible refine gate_callee (f:=15) rfl ?_);refine goesL_ (some 47) rfl rfl Try.func15 (by kernel_rfl) rfl #[.slice Ao46 t387.length co46,.slice Ao47 t373.length co47] rfl (by (try simp only [List.map_toArray,List.map_cons,List.map_nil]);first|done|rfl|(simp only [List.length_drop,List.length_take];rfl)) ?_;(with_reducible refine (laws_eqWriteS.calls k _ _ t387 _ _ t373 false _ ?side1 ?side2 ?side3 ?side4 A41.out).mono ?_);(case side1=>repeat (first|exact (Kd.S_reads' HO389.out).2.2|(with_reducible first|apply Kd.C_alloc|apply Kd.C_drewN|apply Kd.C_drew)));(case side2=>exact (Kd.S_reads' HO389.out).2.1);(case side3=>repeat (first|exact (Kd.S_reads' HO375.out).2.2|(with_reducible first|apply Kd.C_alloc|apply Kd.C_drewN|apply Kd.C_drew)));(case side4=>exact (Kd.S_reads' HO375.out).2.1);rintro e w48 ⟨rfl,hb⟩;refine ⟨_,rfl,?_⟩;have n0_:=Aside0.mk (Kd.S_below (by (with_reducible repeat (first|apply Kd.S_alloc|apply Kd.S_drewN|apply Kd.S_drew));exact HO375.out) hb);have n1_:=Aside0.mk (Kd.S_below (by (with_reducible repeat (first|apply Kd.S_alloc|apply Kd.S_drewN|apply Kd.S_drew));exact HO379.out) hb);have n2_:=Aside0.mk (Kd.S_below (by (with_reducible repeat (first|apply Kd.S_alloc|apply Kd.S_drewN|apply Kd.S_drew));exact HO386.out) hb);have n3_:=Aside0.mk (Kd.S_below (by (with_reducible repeat (first|apply Kd.S_alloc|apply Kd.S_drewN|apply Kd.S_drew));exact HO389.out) hb);have n4_:=Aside0.mk (blk_below (g:=gb361) (o:=.cells #[.slice A0_0 l0_0.length c0_0,.int .i64 a0_1,.bool a0_2,.int .i64 a0_3] 36 (0,0)) (by (with_reducible repeat first|apply blk_drewN|apply blk_drew|apply blk_alloc);exact BK361.out) hb);have n5_:=Aside0.mk (blk_below (g:=gb383) (o:=.cells #[.slice Ao34 t377.length co34,.int .i64 t380,.bool t381,.int .i64 t382] 39 (0,0)) (by (with_reducible repeat first|apply blk_drewN|apply blk_drew|apply blk_alloc);exact BK383.out) hb);have n6_:=Aside0.mk (below_step (by repeat (first|(with_reducible first|exact HB.out|apply below_alloc|apply pw_below_drewN|apply below_drew1|refine below_set ?_ GE361.out|refine below_set ?_ GE383.out)|exact HB.out)) hb);clear HO375;clear HO379;clear HO386;clear HO389;clear BK361;clear BK383;clear HB;have HO375:=n0_;have HO379:=n1_;have HO386:=n2_;have HO389:=n3_;have BK361:=n4_;have BK383:=n5_;have HB:=n6_;clear n0_ n1_ n2_ n3_ n4_ n5_ n6_;(try clear hb);(try clear hb2);(try clear hk);(try clear hi)))
     go_meet
     case rel=>exact ⟨_,(true),(by first|rfl|(simp;done)|(simp [*];done)),H',⟨by first|omega|exact Nat.le_refl _⟩,⟨by (with_reducible repeat (first|apply Kd.S_alloc|apply Kd.S_drewN|apply Kd.S_drew));exact Kd.S_mono HO375.out (fun _ hk=>⟨hk.1.1.1.2,⟨hk.1.2,⟨hk.1.1.1.1.1.1.2,⟨hk.1.1.1.1.2,⟨hk.1.1.2,hk.2⟩⟩⟩⟩⟩)⟩,⟨by (with_reducible repeat (first|apply Kd.S_alloc|apply Kd.S_drewN|apply Kd.S_drew));exact Kd.S_mono HO386.out (fun _ hk=>⟨hk.1.1.2,⟨hk.1.2,⟨hk.1.1.1.2,hk.2⟩⟩⟩)⟩,⟨by (with_reducible repeat (first|apply Kd.S_alloc|apply Kd.S_drewN|apply Kd.S_drew));exact Kd.S_mono HO389.out (fun _ hk=>⟨hk.1.2,⟨hk.2,hk.1.1.2⟩⟩)⟩,⟨by (with_reducible repeat (first|apply Kd.S_alloc|apply Kd.S_drewN|apply Kd.S_drew));exact Kd.S_mono HO379.out (fun _ hk=>⟨hk.1.1.1.2,⟨hk.1.2,hk.2⟩⟩)⟩,⟨by (with_reducible repeat first|apply blk_drewN|apply blk_drew|apply blk_alloc);exact BK361.out⟩,⟨by (with_reducible repeat first|apply blk_drewN|apply blk_drew|apply blk_alloc);exact BK383.out⟩,⟨by repeat (first|(with_reducible first|exact HB.out|apply below_alloc|apply pw_below_drewN|apply below_drew1|refine below_set ?_ GE361.out|refine below_set ?_ GE383.out)|exact HB.out)⟩⟩
   case rest =>
    clear HC20
    try clear c1;try clear c2;try clear p2;try clear c3;try clear c4;try clear c4b0;try clear c6;try clear c9;try clear c9b0;try clear c10;try clear c12;try clear c15;try clear c19;try clear c21;try clear c26;try clear c27;try clear c35;try clear c42;try clear hcz11_0;try clear hcz11_1;try clear hcz11_2;try clear hcz11_3;try clear hcz22_0;try clear hcz22_1;try clear hcz22_2;try clear hcz22_3;try clear hcz25_0;try clear hcz25_1;try clear hcz25_2;try clear hcz25_3;try clear hcz31_0;try clear hcz31_1;try clear hcz31_2;try clear hcz31_3;try clear hcz36_0;try clear hcz36_1;try clear hcz36_2;try clear hcz36_3;try clear hcz38_0;try clear hcz38_1;try clear hcz38_2;try clear hcz38_3;try clear hcz6_0;try clear hcz6_1;try clear hcz6_2;try clear hcz6_3;try clear hfz11_0;try clear hfz11_1;try clear hfz11_2;try clear hfz11_3;try clear hfz22_0;try clear hfz22_1;try clear hfz22_2;try clear hfz22_3;try clear hfz25_0;try clear hfz25_1;try clear hfz25_2;try clear hfz25_3;try clear hfz31_0;try clear hfz31_1;try clear hfz31_2;try clear hfz31_3;try clear hfz36_0;try clear hfz36_1;try clear hfz36_2;try clear hfz36_3;try clear hfz38_0;try clear hfz38_1;try clear hfz38_2;try clear hfz38_3;try clear hfz6_0;try clear hfz6_1;try clear hfz6_2;try clear hfz6_3
    obtain ⟨kq,x53_19,rfl,HA,HJ19,HO_6,HO_9,HO_10,HO_384000,BK361,BK383,HB⟩:=hcut
    cases kq with
    | zero=>exact absurd HA.out (by simp [laws_FnExactPlanOf.j0])
    | succ kj19 =>
     have H:=HA.out
     clear HA
     simp only [laws_FnExactPlanOf.j0] at H
     by_cases c49 : x53_19 = true
     ·subst c49
      have H1 : (some false) = some r:=by rw [if_pos rfl] at H;exact H
      clear H
      have H:=H1
      clear H1
      obtain rfl:=Option.some.inj H
      go_wp2
      go_ret
      exact ⟨by first|rfl|(simp [*,errW_none,errW_some] <;> rfl),by repeat (first|(with_reducible first|exact HB.out|apply below_alloc|apply pw_below_drewN|apply below_drew1|refine below_set ?_ GE361.out|refine below_set ?_ GE383.out)|exact HB.out)⟩
     ·replace c49:=Bool.eq_false_iff.mpr c49
      subst c49
      have H1 : ((laws_toDisk.f kj19 l0_0 a0_1 a0_2 a0_3).bind fun bt392=>((laws_eqDisk.f kj19 t377 t380 t381 t382 bt392.1 bt392.2.1 bt392.2.2.1 bt392.2.2.2).bind fun t398=>(if t398 = true then ((laws_toWriteS.f kj19 l1).bind fun t399=>((laws_eqWriteS.f kj19 t384 t399).bind fun t402=>(if t402 = true then ((laws_markDisk.f kj19 t377 t380 t381 t382 1).bind fun bt403=>((laws_markWriteS.f kj19 t384 bt403.1).bind fun bt405=>(if bt405.1 < 0 then (laws_FnExactPlanOf.j1 kj19 l1 t373 t376 t387 true l0_0 a0_1 a0_2 a0_3) else ((laws_eqWriteS.f kj19 t387 t373).bind fun t407=>(if t407 = true then (laws_FnExactPlanOf.j1 kj19 l1 t373 t376 t387 (t390 != t376) l0_0 a0_1 a0_2 a0_3) else (laws_FnExactPlanOf.j1 kj19 l1 t373 t376 t387 true l0_0 a0_1 a0_2 a0_3)))))) else (some false)))) else (some false)))) = some r:=by rw [if_neg (show ¬ (false = true) by decide)] at H;exact H
      clear H
      have H:=H1
      clear H1
      replace H:=Option.bind_eq_some_iff.mp H
      obtain ⟨⟨t392,t395,t396,t397⟩,A500,H⟩:=H
      replace H : ((laws_eqDisk.f kj19 t377 t380 t381 t382 t392 t395 t396 t397).bind fun t398=>(if t398 = true then ((laws_toWriteS.f kj19 l1).bind fun t399=>((laws_eqWriteS.f kj19 t384 t399).bind fun t402=>(if t402 = true then ((laws_markDisk.f kj19 t377 t380 t381 t382 1).bind fun bt403=>((laws_markWriteS.f kj19 t384 bt403.1).bind fun bt405=>(if bt405.1 < 0 then (laws_FnExactPlanOf.j1 kj19 l1 t373 t376 t387 true l0_0 a0_1 a0_2 a0_3) else ((laws_eqWriteS.f kj19 t387 t373).bind fun t407=>(if t407 = true then (laws_FnExactPlanOf.j1 kj19 l1 t373 t376 t387 (t390 != t376) l0_0 a0_1 a0_2 a0_3) else (laws_FnExactPlanOf.j1 kj19 l1 t373 t376 t387 true l0_0 a0_1 a0_2 a0_3)))))) else (some false)))) else (some false))) = some r:=H
      have A50:=Aside0.mk A500
      clear A500
      replace H:=Option.bind_eq_some_iff.mp H
      obtain ⟨t398,A510,H⟩:=H
      replace H : (if t398 = true then ((laws_toWriteS.f kj19 l1).bind fun t399=>((laws_eqWriteS.f kj19 t384 t399).bind fun t402=>(if t402 = true then ((laws_markDisk.f kj19 t377 t380 t381 t382 1).bind fun bt403=>((laws_markWriteS.f kj19 t384 bt403.1).bind fun bt405=>(if bt405.1 < 0 then (laws_FnExactPlanOf.j1 kj19 l1 t373 t376 t387 true l0_0 a0_1 a0_2 a0_3) else ((laws_eqWriteS.f kj19 t387 t373).bind fun t407=>(if t407 = true then (laws_FnExactPlanOf.j1 kj19 l1 t373 t376 t387 (t390 != t376) l0_0 a0_1 a0_2 a0_3) else (laws_FnExactPlanOf.j1 kj19 l1 t373 t376 t387 true l0_0 a0_1 a0_2 a0_3)))))) else (some false)))) else (some false)) = some r:=H
      have A51:=Aside0.mk A510
      clear A510
      by_cases c52 : t398 = true
      ·subst c52
       have H1 : ((laws_toWriteS.f kj19 l1).bind fun t399=>((laws_eqWriteS.f kj19 t384 t399).bind fun t402=>(if t402 = true then ((laws_markDisk.f kj19 t377 t380 t381 t382 1).bind fun bt403=>((laws_markWriteS.f kj19 t384 bt403.1).bind fun bt405=>(if bt405.1 < 0 then (laws_FnExactPlanOf.j1 kj19 l1 t373 t376 t387 true l0_0 a0_1 a0_2 a0_3) else ((laws_eqWriteS.f kj19 t387 t373).bind fun t407=>(if t407 = true then (laws_FnExactPlanOf.j1 kj19 l1 t373 t376 t387 (t390 != t376) l0_0 a0_1 a0_2 a0_3) else (laws_FnExactPlanOf.j1 kj19 l1 t373 t376 t387 true l0_0 a0_1 a0_2 a0_3)))))) else (some false)))) = some r:=by rw [if_pos rfl] at H;exact H
       clear H
       have H:=H1
       clear H1
       replace H:=Option.bind_eq_some_iff.mp H
       obtain ⟨t399,A530,H⟩:=H
       replace H : ((laws_eqWriteS.f kj19 t384 t399).bind fun t402=>(if t402 = true then ((laws_markDisk.f kj19 t377 t380 t381 t382 1).bind fun bt403=>((laws_markWriteS.f kj19 t384 bt403.1).bind fun bt405=>(if bt405.1 < 0 then (laws_FnExactPlanOf.j1 kj19 l1 t373 t376 t387 true l0_0 a0_1 a0_2 a0_3) else ((laws_eqWriteS.f kj19 t387 t373).bind fun t407=>(if t407 = true then (laws_FnExactPlanOf.j1 kj19 l1 t373 t376 t387 (t390 != t376) l0_0 a0_1 a0_2 a0_3) else (laws_FnExactPlanOf.j1 kj19 l1 t373 t376 t387 true l0_0 a0_1 a0_2 a0_3)))))) else (some false))) = some r:=H
       have A53:=Aside0.mk A530
       clear A530
       replace H:=Option.bind_eq_some_iff.mp H
       obtain ⟨t402,A540,H⟩:=H
       replace H : (if t402 = true then ((laws_markDisk.f kj19 t377 t380 t381 t382 1).bind fun bt403=>((laws_markWriteS.f kj19 t384 bt403.1).bind fun bt405=>(if bt405.1 < 0 then (laws_FnExactPlanOf.j1 kj19 l1 t373 t376 t387 true l0_0 a0_1 a0_2 a0_3) else ((laws_eqWriteS.f kj19 t387 t373).bind fun t407=>(if t407 = true then (laws_FnExactPlanOf.j1 kj19 l1 t373 t376 t387 (t390 != t376) l0_0 a0_1 a0_2 a0_3) else (laws_FnExactPlanOf.j1 kj19 l1 t373 t376 t387 true l0_0 a0_1 a0_2 a0_3)))))) else (some false)) = some r:=H
       have A54:=Aside0.mk A540
       clear A540
       by_cases c55 : t402 = true
       ·subst c55
        have H1 : ((laws_markDisk.f kj19 t377 t380 t381 t382 1).bind fun bt403=>((laws_markWriteS.f kj19 t384 bt403.1).bind fun bt405=>(if bt405.1 < 0 then (laws_FnExactPlanOf.j1 kj19 l1 t373 t376 t387 true l0_0 a0_1 a0_2 a0_3) else ((laws_eqWriteS.f kj19 t387 t373).bind fun t407=>(if t407 = true then (laws_FnExactPlanOf.j1 kj19 l1 t373 t376 t387 (t390 != t376) l0_0 a0_1 a0_2 a0_3) else (laws_FnExactPlanOf.j1 kj19 l1 t373 t376 t387 true l0_0 a0_1 a0_2 a0_3)))))) = some r:=by rw [if_pos rfl] at H;exact H
        clear H
        have H:=H1
        clear H1
        replace H:=Option.bind_eq_some_iff.mp H
        obtain ⟨⟨t403,t404⟩,A560,H⟩:=H
        replace H : ((laws_markWriteS.f kj19 t384 t403).bind fun bt405=>(if bt405.1 < 0 then (laws_FnExactPlanOf.j1 kj19 l1 t373 t376 t387 true l0_0 a0_1 a0_2 a0_3) else ((laws_eqWriteS.f kj19 t387 t373).bind fun t407=>(if t407 = true then (laws_FnExactPlanOf.j1 kj19 l1 t373 t376 t387 (t390 != t376) l0_0 a0_1 a0_2 a0_3) else (laws_FnExactPlanOf.j1 kj19 l1 t373 t376 t387 true l0_0 a0_1 a0_2 a0_3))))) = some r:=H
        have A56:=Aside0.mk A560
        clear A560
        replace H:=Option.bind_eq_some_iff.mp H
        obtain ⟨⟨t405,t406⟩,A570,H⟩:=H
        replace H : (if t405 < 0 then (laws_FnExactPlanOf.j1 kj19 l1 t373 t376 t387 true l0_0 a0_1 a0_2 a0_3) else ((laws_eqWriteS.f kj19 t387 t373).bind fun t407=>(if t407 = true then (laws_FnExactPlanOf.j1 kj19 l1 t373 t376 t387 (t390 != t376) l0_0 a0_1 a0_2 a0_3) else (laws_FnExactPlanOf.j1 kj19 l1 t373 t376 t387 true l0_0 a0_1 a0_2 a0_3)))) = some r:=H
        have A57:=Aside0.mk A570
        clear A570
        have HC58:=Aside0.mk H
        clear H
        try go_wp2
        have n0_:=Aside0.mk (Kd.S_drew HO_6.out)
        have n1_:=Aside0.mk (Kd.S_drew HO_9.out)
        have n2_:=Aside0.mk (Kd.S_drew HO_10.out)
        have n3_:=Aside0.mk (Kd.S_drew HO_384000.out)
        have n4_:=Aside0.mk (blk_drew BK361.out)
        have n5_:=Aside0.mk (blk_drew BK383.out)
        have n6_:=Aside0.mk (below_drew1 HB.out)
        clear HO_6
        clear HO_9
        clear HO_10
        clear HO_384000
        clear BK361
        clear BK383
        clear HB
        have HO_6:=n0_
        have HO_9:=n1_
        have HO_10:=n2_
        have HO_384000:=n3_
        have BK361:=n4_
        have BK383:=n5_
        have HB:=n6_
        clear n0_ n1_ n2_ n3_ n4_ n5_ n6_
        refine start_ (n:=5) (S:=fun w'=>w'.cell? ⟨gb383,0,none⟩ = some (.slice Ao34 t377.length co34)∧w'.cell? ⟨gb383,1,none⟩ = some (.int .i64 t380)∧w'.cell? ⟨gb383,2,none⟩ = some (.bool t381)∧w'.cell? ⟨gb383,3,none⟩ = some (.int .i64 t382)∧w'.cell? ⟨gb361,0,none⟩ = some (.slice A0_0 l0_0.length c0_0)∧w'.cell? ⟨gb361,1,none⟩ = some (.int .i64 a0_1)∧w'.cell? ⟨gb361,2,none⟩ = some (.bool a0_2)∧w'.cell? ⟨gb361,3,none⟩ = some (.int .i64 a0_3)) (ds:=[]) #[false,false,false,false,false] (by kernel_rfl) rfl rfl ⟨(blk_cell BK383.out 0).trans rfl,(blk_cell BK383.out 1).trans rfl,(blk_cell BK383.out 2).trans rfl,(blk_cell BK383.out 3).trans rfl,(blk_cell BK361.out 0).trans rfl,(blk_cell BK361.out 1).trans rfl,(blk_cell BK361.out 2).trans rfl,(blk_cell BK361.out 3).trans rfl⟩ (fun hHeld=>?_)
        generalize wc.drew = w59 at HO_6 HO_9 HO_10 HO_384000 BK361 BK383 HB hHeld ⊢
        refine take_ (i:=0) (N:=some 54) (v:=?_) (a':=?_) #[true,false,false,false,false] rfl rfl (by kernel_rfl) (fun _ _ _ h=>h) (Or.inl ⟨by rfl,?_⟩) hHeld ?_ ?_
        rotate_left
        ·rintro w' ⟨s0,s1,s2,s3,s4,s5,s6,s7⟩
         go_simp
         with_reducible rfl
        rotate_left
        ·simp only [Act.put,List.setIfInBounds_toArray,List.set_cons_zero,List.set_cons_succ,i64_w,i32_w]
         rfl
        refine take_ (i:=1) (N:=some 55) (v:=?_) (a':=?_) #[true,true,false,false,false] rfl rfl (by kernel_rfl) (fun _ _ _ h=>h) (Or.inl ⟨by rfl,?_⟩) hHeld ?_ ?_
        rotate_left
        ·rintro w' ⟨s0,s1,s2,s3,s4,s5,s6,s7⟩
         go_simp
         with_reducible rfl
        rotate_left
        ·simp only [Act.put,List.setIfInBounds_toArray,List.set_cons_zero,List.set_cons_succ,i64_w,i32_w]
         rfl
        refine one_ (i:=2) (N:=some 56) #[true,true,true,false,false] rfl rfl (by kernel_rfl) (by decide) (fun K hK=>?_)
        refine goes_ Try.func21 (by kernel_rfl) rfl #[.agg #[.slice A0_0 l0_0.length c0_0,.int .i64 a0_1,.bool a0_2,.int .i64 a0_3]] (by rfl) rfl rfl (by (try simp only [List.map_toArray,List.map_cons,List.map_nil]);first|done|rfl|(simp only [List.length_drop,List.length_take];rfl)) ?_
        with_reducible refine (laws_toDisk.calls kj19 _ _ l0_0 a0_1 a0_2 a0_3 t392 t395 t396 t397 _ ?side1 ?side2 A50.out).mono ?_
        (case side1=>repeat (first|exact (Kd.C_below HR0_0.out HB.out)|(with_reducible first|apply Kd.C_alloc|apply Kd.C_drewN|apply Kd.C_drew)))
        (case side2=>exact HC0_0.out)
        rintro e w60 ⟨v393,rfl,ho0,hb⟩
        refine ⟨_,rfl,?_⟩
        have n0_:=Aside0.mk (Kd.S_old (by (with_reducible repeat (first|apply Kd.S_alloc|apply Kd.S_drewN|apply Kd.S_drew));exact HO_6.out) hb)
        have n1_:=Aside0.mk (Kd.S_old (by (with_reducible repeat (first|apply Kd.S_alloc|apply Kd.S_drewN|apply Kd.S_drew));exact HO_9.out) hb)
        have n2_:=Aside0.mk (Kd.S_old (by (with_reducible repeat (first|apply Kd.S_alloc|apply Kd.S_drewN|apply Kd.S_drew));exact HO_10.out) hb)
        have n3_:=Aside0.mk (Kd.S_told (Kd.S_old (by (with_reducible repeat (first|apply Kd.S_alloc|apply Kd.S_drewN|apply Kd.S_drew));exact HO_384000.out) hb) (Kd.S_base ho0))
        have n4_:=Aside0.mk (Kd.S_lower (Kd.S_new' (Kd.S_mono (Kd.S_bound ho0) (fun k_ h_=>(⟨h_.1,(by first|exact h_.2.1|simpa only [World.size_setCell] using h_.2.1)⟩ : _∧w59.heap.size ≤ k_))) (Kd.S_lt (by (with_reducible repeat (first|apply Kd.S_alloc|apply Kd.S_drewN|apply Kd.S_drew));exact HO_384000.out))) (below_size (by repeat (first|(with_reducible first|exact HB.out|apply below_alloc|apply pw_below_drewN|apply below_drew1|refine below_set ?_ GE361.out|refine below_set ?_ GE383.out)|exact HB.out))))
        have n5_:=Aside0.mk (blk_below (g:=gb361) (o:=.cells #[.slice A0_0 l0_0.length c0_0,.int .i64 a0_1,.bool a0_2,.int .i64 a0_3] 36 (0,0)) (by (with_reducible repeat first|apply blk_drewN|apply blk_drew|apply blk_alloc);exact BK361.out) hb)
        have n6_:=Aside0.mk (blk_below (g:=gb383) (o:=.cells #[.slice Ao34 t377.length co34,.int .i64 t380,.bool t381,.int .i64 t382] 39 (0,0)) (by (with_reducible repeat first|apply blk_drewN|apply blk_drew|apply blk_alloc);exact BK383.out) hb)
        have n7_:=Aside0.mk (below_step (by repeat (first|(with_reducible first|exact HB.out|apply below_alloc|apply pw_below_drewN|apply below_drew1|refine below_set ?_ GE361.out|refine below_set ?_ GE383.out)|exact HB.out)) hb)
        clear HO_6
        clear HO_9
        clear HO_10
        clear HO_384000
        clear BK361
        clear BK383
        clear HB
        have HO_6:=n0_
        have HO_9:=n1_
        have HO_10:=n2_
        have HO_384000:=n3_
        have HO394:=n4_
        have BK361:=n5_
        have BK383:=n6_
        have HB:=n7_
        clear n0_ n1_ n2_ n3_ n4_ n5_ n6_ n7_
        (try clear hb)
        (try clear hb2)
        (try clear hk)
        (try clear hi)
        (try clear ho0)
        obtain ⟨Ao61,co61,eo61⟩:=Kd.S_slice HO394.out
        (first|subst eo61|(injection eo61 with f1_ f2_ f3_;have f4_:=f1_.symm;have f5_:=f3_.symm;clear f1_ f2_ f3_;subst f4_;subst f5_))
        refine hK.out _ _ ⟨(blk_cell BK383.out 0).trans rfl,(blk_cell BK383.out 1).trans rfl,(blk_cell BK383.out 2).trans rfl,(blk_cell BK383.out 3).trans rfl,(blk_cell BK361.out 0).trans rfl,(blk_cell BK361.out 1).trans rfl,(blk_cell BK361.out 2).trans rfl,(blk_cell BK361.out 3).trans rfl⟩ (fun hHeld=>?_)
        clear hK K
        refine norm_ (a':=?_) ?_ ?_
        rotate_left
        ·show Act.put _ (some 56) _ = _
         simp only [Act.put,List.setIfInBounds_toArray,List.set_cons_zero,List.set_cons_succ,i64_w,i32_w]
         rfl
        refine one_ (i:=3) (N:=some 57) #[true,true,true,true,false] rfl rfl (by kernel_rfl) (by decide) (fun K hK=>?_)
        refine goes_ Try.func23 (by kernel_rfl) rfl #[.agg #[.slice Ao34 t377.length co34,.int .i64 t380,.bool t381,.int .i64 t382],.agg #[.slice Ao61 t392.length co61,.int .i64 t395,.bool t396,.int .i64 t397]] (by rfl) rfl rfl (by (try simp only [List.map_toArray,List.map_cons,List.map_nil]);first|done|rfl|(simp only [List.length_drop,List.length_take];rfl)) ?_
        with_reducible refine (laws_eqDisk.calls kj19 _ _ t377 t380 t381 t382 _ _ t392 t395 t396 t397 true _ ?side1 ?side2 ?side3 ?side4 A51.out).mono ?_
        (case side1=>repeat (first|exact (Kd.S_reads' HO_384000.out).2.2|(with_reducible first|apply Kd.C_alloc|apply Kd.C_drewN|apply Kd.C_drew)))
        (case side2=>exact (Kd.S_reads' HO_384000.out).2.1)
        (case side3=>repeat (first|exact (Kd.S_reads' HO394.out).2.2|(with_reducible first|apply Kd.C_alloc|apply Kd.C_drewN|apply Kd.C_drew)))
        (case side4=>exact (Kd.S_reads' HO394.out).2.1)
        rintro e w62 ⟨rfl,hb⟩
        refine ⟨_,rfl,?_⟩
        have n0_:=Aside0.mk (Kd.S_below (by (with_reducible repeat (first|apply Kd.S_alloc|apply Kd.S_drewN|apply Kd.S_drew));exact HO_6.out) hb)
        have n1_:=Aside0.mk (Kd.S_below (by (with_reducible repeat (first|apply Kd.S_alloc|apply Kd.S_drewN|apply Kd.S_drew));exact HO_9.out) hb)
        have n2_:=Aside0.mk (Kd.S_below (by (with_reducible repeat (first|apply Kd.S_alloc|apply Kd.S_drewN|apply Kd.S_drew));exact HO_10.out) hb)
        have n3_:=Aside0.mk (Kd.S_below (by (with_reducible repeat (first|apply Kd.S_alloc|apply Kd.S_drewN|apply Kd.S_drew));exact HO_384000.out) hb)
        have n4_:=Aside0.mk (Kd.S_below (by (with_reducible repeat (first|apply Kd.S_alloc|apply Kd.S_drewN|apply Kd.S_drew));exact HO394.out) hb)
        have n5_:=Aside0.mk (blk_below (g:=gb361) (o:=.cells #[.slice A0_0 l0_0.length c0_0,.int .i64 a0_1,.bool a0_2,.int .i64 a0_3] 36 (0,0)) (by (with_reducible repeat first|apply blk_drewN|apply blk_drew|apply blk_alloc);exact BK361.out) hb)
        have n6_:=Aside0.mk (blk_below (g:=gb383) (o:=.cells #[.slice Ao34 t377.length co34,.int .i64 t380,.bool t381,.int .i64 t382] 39 (0,0)) (by (with_reducible repeat first|apply blk_drewN|apply blk_drew|apply blk_alloc);exact BK383.out) hb)
        have n7_:=Aside0.mk (below_step (by repeat (first|(with_reducible first|exact HB.out|apply below_alloc|apply pw_below_drewN|apply below_drew1|refine below_set ?_ GE361.out|refine below_set ?_ GE383.out)|exact HB.out)) hb)
        clear HO_6
        clear HO_9
        clear HO_10
        clear HO_384000
        clear HO394
        clear BK361
        clear BK383
        clear HB
        have HO_6:=n0_
        have HO_9:=n1_
        have HO_10:=n2_
        have HO_384000:=n3_
        have HO394:=n4_
        have BK361:=n5_
        have BK383:=n6_
        have HB:=n7_
        clear n0_ n1_ n2_ n3_ n4_ n5_ n6_ n7_
        (try clear hb)
        (try clear hb2)
        (try clear hk)
        (try clear hi)
        refine hK.out _ _ ⟨(blk_cell BK383.out 0).trans rfl,(blk_cell BK383.out 1).trans rfl,(blk_cell BK383.out 2).trans rfl,(blk_cell BK383.out 3).trans rfl,(blk_cell BK361.out 0).trans rfl,(blk_cell BK361.out 1).trans rfl,(blk_cell BK361.out 2).trans rfl,(blk_cell BK361.out 3).trans rfl⟩ (fun hHeld=>?_)
        clear hK K
        refine norm_ (a':=?_) ?_ ?_
        rotate_left
        ·show Act.put _ (some 57) _ = _
         simp only [Act.put,List.setIfInBounds_toArray,List.set_cons_zero,List.set_cons_succ,i64_w,i32_w]
         rfl
        refine pure_ (i:=4) (N:=some 58) (v:=?_) (a':=?_) #[true,true,true,true,true] rfl rfl (by kernel_rfl) (fun _ _ _ h=>h) (Or.inl ⟨by rfl,?_⟩) ?_ ?_
        rotate_left
        ·intro w'
         go_simp
         with_reducible rfl
        rotate_left
        ·simp only [Act.put,List.setIfInBounds_toArray,List.set_cons_zero,List.set_cons_succ,i64_w,i32_w]
         rfl
        refine done_ (by kernel_rfl) ?_
        go_upto_region 21 with (first|((with_reducible refine gate_callee (f:=12) rfl ?_);refine goesL_ (some 61) rfl rfl Try.func12 (by kernel_rfl) rfl #[.slice A1 l1.length c1] rfl (by (try simp only [List.map_toArray,List.map_cons,List.map_nil]);first|done|rfl|(simp only [List.length_drop,List.length_take];rfl)) ?_;(with_reducible refine (laws_toWriteS.calls kj19 _ _ l1 t399 _ ?side1 ?side2 A53.out).mono ?_);(case side1=>repeat (first|exact (Kd.C_below HR1.out HB.out)|(with_reducible first|apply Kd.C_alloc|apply Kd.C_drewN|apply Kd.C_drew)));(case side2=>exact HC1.out);rintro e w63 ⟨v400,rfl,ho0,hb⟩;refine ⟨_,rfl,?_⟩;have n0_:=Aside0.mk (Kd.S_told (Kd.S_old (by (with_reducible repeat (first|apply Kd.S_alloc|apply Kd.S_drewN|apply Kd.S_drew));exact HO_6.out) hb) (Kd.S_base ho0));have n1_:=Aside0.mk (Kd.S_told (Kd.S_old (by (with_reducible repeat (first|apply Kd.S_alloc|apply Kd.S_drewN|apply Kd.S_drew));exact HO_9.out) hb) (Kd.S_base ho0));have n2_:=Aside0.mk (Kd.S_told (Kd.S_old (by (with_reducible repeat (first|apply Kd.S_alloc|apply Kd.S_drewN|apply Kd.S_drew));exact HO_10.out) hb) (Kd.S_base ho0));have n3_:=Aside0.mk (Kd.S_old (by (with_reducible repeat (first|apply Kd.S_alloc|apply Kd.S_drewN|apply Kd.S_drew));exact HO_384000.out) hb);have n4_:=Aside0.mk (Kd.S_lower (Kd.S_new' (Kd.S_new' (Kd.S_new' (Kd.S_mono (Kd.S_bound ho0) (fun k_ h_=>(⟨h_.1,(by first|exact h_.2.1|simpa only [World.size_setCell] using h_.2.1)⟩ : _∧w62.heap.size ≤ k_))) (Kd.S_lt (by (with_reducible repeat (first|apply Kd.S_alloc|apply Kd.S_drewN|apply Kd.S_drew));exact HO_6.out))) (Kd.S_lt (by (with_reducible repeat (first|apply Kd.S_alloc|apply Kd.S_drewN|apply Kd.S_drew));exact HO_9.out))) (Kd.S_lt (by (with_reducible repeat (first|apply Kd.S_alloc|apply Kd.S_drewN|apply Kd.S_drew));exact HO_10.out))) (below_size (by repeat (first|(with_reducible first|exact HB.out|apply below_alloc|apply pw_below_drewN|apply below_drew1|refine below_set ?_ GE361.out|refine below_set ?_ GE383.out)|exact HB.out))));have n5_:=Aside0.mk (blk_below (g:=gb361) (o:=.cells #[.slice A0_0 l0_0.length c0_0,.int .i64 a0_1,.bool a0_2,.int .i64 a0_3] 36 (0,0)) (by (with_reducible repeat first|apply blk_drewN|apply blk_drew|apply blk_alloc);exact BK361.out) hb);have n6_:=Aside0.mk (blk_below (g:=gb383) (o:=.cells #[.slice Ao34 t377.length co34,.int .i64 t380,.bool t381,.int .i64 t382] 39 (0,0)) (by (with_reducible repeat first|apply blk_drewN|apply blk_drew|apply blk_alloc);exact BK383.out) hb);have n7_:=Aside0.mk (below_step (by repeat (first|(with_reducible first|exact HB.out|apply below_alloc|apply pw_below_drewN|apply below_drew1|refine below_set ?_ GE361.out|refine below_set ?_ GE383.out)|exact HB.out)) hb);clear HO_6;clear HO_9;clear HO_10;clear HO_384000;clear BK361;clear BK383;clear HB;clear HO394;have HO_6:=n0_;have HO_9:=n1_;have HO_10:=n2_;have HO_384000:=n3_;have HO401:=n4_;have BK361:=n5_;have BK383:=n6_;have HB:=n7_;clear n0_ n1_ n2_ n3_ n4_ n5_ n6_ n7_;(try clear hb);(try clear hb2);(try clear hk);(try clear hi);(try clear ho0);obtain ⟨Ao64,co64,eo64⟩:=Kd.S_slice HO401.out;subst eo64)|((with_reducible refine gate_callee (f:=15) rfl ?_);refine goesL_ (some 62) rfl rfl Try.func15 (by kernel_rfl) rfl #[.slice Ao39 t384.length co39,.slice Ao64 t399.length co64] rfl (by (try simp only [List.map_toArray,List.map_cons,List.map_nil]);first|done|rfl|(simp only [List.length_drop,List.length_take];rfl)) ?_;(with_reducible refine (laws_eqWriteS.calls kj19 _ _ t384 _ _ t399 true _ ?side1 ?side2 ?side3 ?side4 A54.out).mono ?_);(case side1=>repeat (first|exact (Kd.S_reads' HO_9.out).2.2|(with_reducible first|apply Kd.C_alloc|apply Kd.C_drewN|apply Kd.C_drew)));(case side2=>exact (Kd.S_reads' HO_9.out).2.1);(case side3=>repeat (first|exact (Kd.S_reads' HO401.out).2.2|(with_reducible first|apply Kd.C_alloc|apply Kd.C_drewN|apply Kd.C_drew)));(case side4=>exact (Kd.S_reads' HO401.out).2.1);rintro e w65 ⟨rfl,hb⟩;refine ⟨_,rfl,?_⟩;have n0_:=Aside0.mk (Kd.S_below (by (with_reducible repeat (first|apply Kd.S_alloc|apply Kd.S_drewN|apply Kd.S_drew));exact HO_6.out) hb);have n1_:=Aside0.mk (Kd.S_below (by (with_reducible repeat (first|apply Kd.S_alloc|apply Kd.S_drewN|apply Kd.S_drew));exact HO_9.out) hb);have n2_:=Aside0.mk (Kd.S_below (by (with_reducible repeat (first|apply Kd.S_alloc|apply Kd.S_drewN|apply Kd.S_drew));exact HO_10.out) hb);have n3_:=Aside0.mk (Kd.S_below (by (with_reducible repeat (first|apply Kd.S_alloc|apply Kd.S_drewN|apply Kd.S_drew));exact HO_384000.out) hb);have n4_:=Aside0.mk (Kd.S_below (by (with_reducible repeat (first|apply Kd.S_alloc|apply Kd.S_drewN|apply Kd.S_drew));exact HO401.out) hb);have n5_:=Aside0.mk (blk_below (g:=gb361) (o:=.cells #[.slice A0_0 l0_0.length c0_0,.int .i64 a0_1,.bool a0_2,.int .i64 a0_3] 36 (0,0)) (by (with_reducible repeat first|apply blk_drewN|apply blk_drew|apply blk_alloc);exact BK361.out) hb);have n6_:=Aside0.mk (blk_below (g:=gb383) (o:=.cells #[.slice Ao34 t377.length co34,.int .i64 t380,.bool t381,.int .i64 t382] 39 (0,0)) (by (with_reducible repeat first|apply blk_drewN|apply blk_drew|apply blk_alloc);exact BK383.out) hb);have n7_:=Aside0.mk (below_step (by repeat (first|(with_reducible first|exact HB.out|apply below_alloc|apply pw_below_drewN|apply below_drew1|refine below_set ?_ GE361.out|refine below_set ?_ GE383.out)|exact HB.out)) hb);clear HO_6;clear HO_9;clear HO_10;clear HO_384000;clear HO401;clear BK361;clear BK383;clear HB;have HO_6:=n0_;have HO_9:=n1_;have HO_10:=n2_;have HO_384000:=n3_;have HO401:=n4_;have BK361:=n5_;have BK383:=n6_;have HB:=n7_;clear n0_ n1_ n2_ n3_ n4_ n5_ n6_ n7_;(try clear hb);(try clear hb2);(try clear hk);(try clear hi);have hnb66:=NB383_361.out;have hnc66:=NB361_383.out;have hcz67_0 : w65.cell? ⟨gb383,0,none⟩ = some (.slice Ao34 t377.length co34):=(blk_cell BK383.out 0).trans rfl;have hcz67_1 : w65.cell? ⟨gb383,1,none⟩ = some (.int .i64 t380):=(blk_cell BK383.out 1).trans rfl;have hcz67_2 : w65.cell? ⟨gb383,2,none⟩ = some (.bool t381):=(blk_cell BK383.out 2).trans rfl;have hcz67_3 : w65.cell? ⟨gb383,3,none⟩ = some (.int .i64 t382):=(blk_cell BK383.out 3).trans rfl;have hfz67_0:=blk_frozen BK383.out 0;have hfz67_1:=blk_frozen BK383.out 1;have hfz67_2:=blk_frozen BK383.out 2;have hfz67_3:=blk_frozen BK383.out 3;have n_:=Aside0.mk (Kd.S_mono (ok':=fun k_=>(w30.heap.size ≤ k_∧(k_ < w33.heap.size∧(k_ < w37.heap.size∧(k_ < w59.heap.size∧k_ < w62.heap.size))))) HO_384000.out (fun k_ hk=>⟨hk.1.1.1.1,⟨hk.1.1.1.2.1,⟨hk.1.1.1.2.2,⟨hk.1.2,hk.2⟩⟩⟩⟩));clear HO_384000;have HO_384000:=n_;clear n_)|((with_reducible refine gate_callee (f:=28) rfl ?_);refine goesL_ (some 66) rfl rfl Try.func28 (by kernel_rfl) rfl #[.agg #[.slice Ao34 t377.length co34,.int .i64 t380,.bool t381,.int .i64 t382],.int .i64 1] rfl (by (try simp only [List.map_toArray,List.map_cons,List.map_nil]);first|done|rfl|(simp only [List.length_drop,List.length_take];rfl)) ?_;(with_reducible refine (laws_markDisk.calls kj19 (SB_ (Kd.slice 5 (Kd.int .u8)) 24 w65 w.heap.size (fun k_=>(w30.heap.size ≤ k_∧(k_ < w33.heap.size∧(k_ < w37.heap.size∧(k_ < w59.heap.size∧k_ < w62.heap.size)))))) (.slice Ao34 t377.length co34) t377 t380 t381 t382 1 t403 t404 w _ ?side1 ?side2 A56.out).mono ?_);(case side1=>repeat (first|(with_reducible first|exact HB.out|apply below_alloc|apply pw_below_drewN|apply below_drew1|refine below_set ?_ GE361.out|refine below_set ?_ GE383.out)|exact HB.out));(case side2=>exact SB_own HO_384000.out);rintro e w68 ⟨rfl,hy0,hb,hkp⟩;refine ⟨_,rfl,?_⟩;have n0_:=Aside0.mk (Kd.S_mono (ok':=fun k_=>some k_ ≠ (.slice Ao39 t384.length co39 : Value).ownBlock∧some k_ ≠ (v388 : Value).ownBlock∧some k_ ≠ (.slice Ao64 t399.length co64 : Value).ownBlock∧w27.heap.size ≤ k_∧k_ < w30.heap.size∧k_ < w33.heap.size∧k_ < w37.heap.size∧k_ < w59.heap.size∧k_ < w62.heap.size) (Kd.S_keptB ((S_apartSBn (d':=(Kd.slice 5 (Kd.int .u8))) (e':=24) (base':=w.heap.size) (ok':=(fun k_=>(w30.heap.size ≤ k_∧(k_ < w33.heap.size∧(k_ < w37.heap.size∧(k_ < w59.heap.size∧k_ < w62.heap.size)))))) HO_6.out (fun k_ hk h2_=>absurd (hk.1.1.1.2.2.2.1) (Nat.not_lt.2 (h2_.1))))) hkp (fun k_ hk_ hs_=>(hk_.2) hs_)) (fun k_ hk_=>⟨hk_.1.1.1.1.1.1,hk_.1.1.1.1.1.2.1,hk_.1.1.1.2,hk_.1.1.1.1.1.2.2.1,hk_.1.1.1.1.1.2.2.2.1,hk_.1.1.1.1.1.2.2.2.2.1,hk_.1.1.1.1.1.2.2.2.2.2,hk_.1.1.1.1.2,hk_.1.1.2⟩));have n1_:=Aside0.mk (Kd.S_mono (ok':=fun k_=>some k_ ≠ (v374 : Value).ownBlock∧some k_ ≠ (v388 : Value).ownBlock∧some k_ ≠ (.slice Ao64 t399.length co64 : Value).ownBlock∧w33.heap.size ≤ k_∧k_ < w37.heap.size∧k_ < w59.heap.size∧k_ < w62.heap.size) (Kd.S_keptB ((S_apartSBn (d':=(Kd.slice 5 (Kd.int .u8))) (e':=24) (base':=w.heap.size) (ok':=(fun k_=>(w30.heap.size ≤ k_∧(k_ < w33.heap.size∧(k_ < w37.heap.size∧(k_ < w59.heap.size∧k_ < w62.heap.size)))))) HO_9.out (fun k_ hk h2_=>absurd (h2_.2.1) (Nat.not_lt.2 (hk.1.1.1.2.2.1))))) hkp (fun k_ hk_ hs_=>(hk_.2) hs_)) (fun k_ hk_=>⟨hk_.1.1.1.1.1.1,hk_.1.1.1.1.1.2.1,hk_.1.1.1.2,hk_.1.1.1.1.1.2.2.1,hk_.1.1.1.1.1.2.2.2,hk_.1.1.1.1.2,hk_.1.1.2⟩));have n2_:=Aside0.mk (Kd.S_mono (ok':=fun k_=>some k_ ≠ (v374 : Value).ownBlock∧some k_ ≠ (.slice Ao39 t384.length co39 : Value).ownBlock∧some k_ ≠ (.slice Ao64 t399.length co64 : Value).ownBlock∧w37.heap.size ≤ k_∧k_ < w59.heap.size∧k_ < w62.heap.size) (Kd.S_keptB ((S_apartSBn (d':=(Kd.slice 5 (Kd.int .u8))) (e':=24) (base':=w.heap.size) (ok':=(fun k_=>(w30.heap.size ≤ k_∧(k_ < w33.heap.size∧(k_ < w37.heap.size∧(k_ < w59.heap.size∧k_ < w62.heap.size)))))) HO_10.out (fun k_ hk h2_=>absurd (h2_.2.2.1) (Nat.not_lt.2 (hk.1.1.1.2.2))))) hkp (fun k_ hk_ hs_=>(hk_.2) hs_)) (fun k_ hk_=>⟨hk_.1.1.1.1.1.1,hk_.1.1.1.1.1.2.1,hk_.1.1.1.2,hk_.1.1.1.1.1.2.2,hk_.1.1.1.1.2,hk_.1.1.2⟩));have n3_:=Aside0.mk (blk_kept (g:=gb361) (o:=.cells #[.slice A0_0 l0_0.length c0_0,.int .i64 a0_1,.bool a0_2,.int .i64 a0_3] 36 (0,0)) (by (with_reducible repeat first|apply blk_drewN|apply blk_drew|apply blk_alloc);exact BK361.out) hkp (fun hs_=>(fun e_=>(blk_SB BK361.out (by decide)) e_) hs_));have n4_:=Aside0.mk (blk_kept (g:=gb383) (o:=.cells #[.slice Ao34 t377.length co34,.int .i64 t380,.bool t381,.int .i64 t382] 39 (0,0)) (by (with_reducible repeat first|apply blk_drewN|apply blk_drew|apply blk_alloc);exact BK383.out) hkp (fun hs_=>(fun e_=>(blk_SB BK383.out (by decide)) e_) hs_));have n5_:=Aside0.mk (hb);clear HO_6;clear HO_9;clear HO_10;clear BK361;clear BK383;clear HB;clear HO_384000;clear HO401;have HO_6:=n0_;have HO_9:=n1_;have HO_10:=n2_;have BK361:=n3_;have BK383:=n4_;have HB:=n5_;clear n0_ n1_ n2_ n3_ n4_ n5_;(try clear hb);(try clear hkp);(try clear hbx);(try clear hy0);have n_:=Aside0.mk (Kd.S_mono (ok':=fun k_=>(some k_ ≠ (v374 : Value).ownBlock∧(some k_ ≠ (v388 : Value).ownBlock∧(w33.heap.size ≤ k_∧(k_ < w37.heap.size∧(k_ < w59.heap.size∧k_ < w62.heap.size)))))) HO_9.out (fun k_ hk=>⟨hk.1,⟨hk.2.1,⟨hk.2.2.2.1,⟨hk.2.2.2.2.1,⟨hk.2.2.2.2.2.1,hk.2.2.2.2.2.2⟩⟩⟩⟩⟩));clear HO_9;have HO_9:=n_;clear n_)|((with_reducible refine gate_callee (f:=16) rfl ?_);refine goesL_ (some 69) rfl rfl Try.func16 (by kernel_rfl) rfl #[.slice Ao39 t384.length co39,.int .i64 t403] rfl (by (try simp only [List.map_toArray,List.map_cons,List.map_nil]);first|done|rfl|(simp only [List.length_drop,List.length_take];rfl)) ?_;(with_reducible refine (laws_markWriteS.calls kj19 (SB_ k59 59 w68 w.heap.size (fun k_=>(some k_ ≠ (v374 : Value).ownBlock∧(some k_ ≠ (v388 : Value).ownBlock∧(w33.heap.size ≤ k_∧(k_ < w37.heap.size∧(k_ < w59.heap.size∧k_ < w62.heap.size))))))) (.slice Ao39 t384.length co39) t384 t403 t405 t406 w _ ?side1 ?side2 A57.out).mono ?_);(case side1=>repeat (first|(with_reducible first|exact HB.out|apply below_alloc|apply pw_below_drewN|apply below_drew1|refine below_set ?_ GE361.out|refine below_set ?_ GE383.out)|exact HB.out));(case side2=>exact SB_own HO_9.out);rintro e w69 ⟨rfl,hy0,hb,hkp⟩;refine ⟨_,rfl,?_⟩;have n0_:=Aside0.mk (Kd.S_mono (ok':=fun k_=>some k_ ≠ (.slice Ao39 t384.length co39 : Value).ownBlock∧some k_ ≠ (v388 : Value).ownBlock∧w27.heap.size ≤ k_∧k_ < w30.heap.size∧k_ < w33.heap.size∧k_ < w37.heap.size∧k_ < w59.heap.size∧k_ < w62.heap.size) (Kd.S_keptB ((S_apartSBn (d':=k59) (e':=59) (base':=w.heap.size) (ok':=(fun k_=>(some k_ ≠ (v374 : Value).ownBlock∧(some k_ ≠ (v388 : Value).ownBlock∧(w33.heap.size ≤ k_∧(k_ < w37.heap.size∧(k_ < w59.heap.size∧k_ < w62.heap.size))))))) HO_6.out (fun k_ hk h2_=>absurd (hk.2.2.2.2.2.1) (Nat.not_lt.2 (h2_.2.2.1))))) hkp (fun k_ hk_ hs_=>(hk_.2) hs_)) (fun k_ hk_=>⟨hk_.1.1.1,hk_.1.1.2.1,hk_.1.1.2.2.2.1,hk_.1.1.2.2.2.2.1,hk_.1.1.2.2.2.2.2.1,hk_.1.1.2.2.2.2.2.2.1,hk_.1.1.2.2.2.2.2.2.2.1,hk_.1.1.2.2.2.2.2.2.2.2⟩));have n1_:=Aside0.mk (Kd.S_mono (ok':=fun k_=>(some k_ ≠ (v374 : Value).ownBlock∧some k_ ≠ (v388 : Value).ownBlock)) hy0 (fun k_ h_=>⟨Or.elim h_ (fun p_=>p_.1.1) (fun n_=>(Kd.fresh' (Kd.S_lt (by (with_reducible repeat (first|apply Kd.S_alloc|apply Kd.S_drewN|apply Kd.S_drew));exact HO_6.out)) k_ n_)),Or.elim h_ (fun p_=>p_.1.2.1) (fun n_=>(Kd.fresh' (Kd.S_lt (by (with_reducible repeat (first|apply Kd.S_alloc|apply Kd.S_drewN|apply Kd.S_drew));exact HO_10.out)) k_ n_))⟩));have n2_:=Aside0.mk (Kd.S_mono (ok':=fun k_=>some k_ ≠ (v374 : Value).ownBlock∧some k_ ≠ (.slice Ao39 t384.length co39 : Value).ownBlock∧w37.heap.size ≤ k_∧k_ < w59.heap.size∧k_ < w62.heap.size) (Kd.S_keptB ((S_apartSBn (d':=k59) (e':=59) (base':=w.heap.size) (ok':=(fun k_=>(some k_ ≠ (v374 : Value).ownBlock∧(some k_ ≠ (v388 : Value).ownBlock∧(w33.heap.size ≤ k_∧(k_ < w37.heap.size∧(k_ < w59.heap.size∧k_ < w62.heap.size))))))) HO_10.out (fun k_ hk h2_=>absurd (h2_.2.2.2.1) (Nat.not_lt.2 (hk.2.2.2.1))))) hkp (fun k_ hk_ hs_=>(hk_.2) hs_)) (fun k_ hk_=>⟨hk_.1.1.1,hk_.1.1.2.1,hk_.1.1.2.2.2.1,hk_.1.1.2.2.2.2.1,hk_.1.1.2.2.2.2.2⟩));have n3_:=Aside0.mk (blk_kept (g:=gb361) (o:=.cells #[.slice A0_0 l0_0.length c0_0,.int .i64 a0_1,.bool a0_2,.int .i64 a0_3] 36 (0,0)) (by (with_reducible repeat first|apply blk_drewN|apply blk_drew|apply blk_alloc);exact BK361.out) hkp (fun hs_=>(fun e_=>(blk_SB BK361.out (by decide)) e_) hs_));have n4_:=Aside0.mk (blk_kept (g:=gb383) (o:=.cells #[.slice Ao34 t377.length co34,.int .i64 t380,.bool t381,.int .i64 t382] 39 (0,0)) (by (with_reducible repeat first|apply blk_drewN|apply blk_drew|apply blk_alloc);exact BK383.out) hkp (fun hs_=>(fun e_=>(blk_SB BK383.out (by decide)) e_) hs_));have n5_:=Aside0.mk (hb);clear HO_6;clear HO_9;clear HO_10;clear BK361;clear BK383;clear HB;have HO_6:=n0_;have HO_9:=n1_;have HO_10:=n2_;have BK361:=n3_;have BK383:=n4_;have HB:=n5_;clear n0_ n1_ n2_ n3_ n4_ n5_;(try clear hb);(try clear hkp);(try clear hbx);(try clear hy0)))
        (try simp only [Act.put,List.setIfInBounds_toArray,List.set_cons_zero,List.set_cons_succ])
        go_cut [82] (fun v82 wc=>∃ (kq : Nat) (x82_57 : Bool),v82 = .bool x82_57∧Aside0 (laws_FnExactPlanOf.j1 kq l1 t373 t376 t387 x82_57 l0_0 a0_1 a0_2 a0_3 = some r)∧Aside0 (kq ≤ kj19)∧Aside0 (Kd.S k59 59 wc w.heap.size (fun k_=>some k_ ≠ (v388 : Value).ownBlock∧w27.heap.size ≤ k_∧k_ < w30.heap.size∧k_ < w33.heap.size∧k_ < w37.heap.size∧k_ < w59.heap.size∧k_ < w62.heap.size) v374 t373)∧Aside0 (Kd.S k59 59 wc w.heap.size (fun k_=>some k_ ≠ (v374 : Value).ownBlock∧w37.heap.size ≤ k_∧k_ < w59.heap.size∧k_ < w62.heap.size) v388 t387)∧Aside0 (wc.heap[gb361]? = some (.cells #[(.slice A0_0 l0_0.length c0_0),.int .i64 a0_1,.bool a0_2,.int .i64 a0_3] 36 (0,0)))∧Aside0 (Below w.heap.size w wc))
        case first =>
         have H:=HC58.out
         clear HC58
         by_cases c70 : t405 < 0
         ·rw [if_pos c70] at H
          have c70b0 : decide (t405 < 0) = true:=decide_eq_true c70
          clear c70
          (first|rw [c70b0]|(simp only [i64_w,i32_w];rw [c70b0])|skip)
          have H':=Aside0.mk H
          clear H
          go_wp2
          go_meet
          case rel=>exact ⟨_,(true),(by first|rfl|(simp;done)|(simp [*];done)),H',⟨by have:=HJ19.out;first|omega|exact Nat.le_refl _⟩,⟨by (with_reducible repeat (first|apply Kd.S_alloc|apply Kd.S_drewN|apply Kd.S_drew));exact Kd.S_mono HO_6.out (fun _ hk=>⟨hk.2.1,⟨hk.2.2.1,⟨hk.2.2.2.1,⟨hk.2.2.2.2.1,⟨hk.2.2.2.2.2.1,⟨hk.2.2.2.2.2.2.1,hk.2.2.2.2.2.2.2⟩⟩⟩⟩⟩⟩)⟩,⟨by (with_reducible repeat (first|apply Kd.S_alloc|apply Kd.S_drewN|apply Kd.S_drew));exact Kd.S_mono HO_10.out (fun _ hk=>⟨hk.1,⟨hk.2.2.1,⟨hk.2.2.2.1,hk.2.2.2.2⟩⟩⟩)⟩,⟨by (with_reducible repeat first|apply blk_drewN|apply blk_drew|apply blk_alloc);exact BK361.out⟩,⟨by repeat (first|(with_reducible first|exact HB.out|apply below_alloc|apply pw_below_drewN|apply below_drew1|refine below_set ?_ GE361.out|refine below_set ?_ GE383.out)|exact HB.out)⟩⟩
         ·rw [if_neg c70] at H
          have c70b0 : decide (t405 < 0) = false:=decide_eq_false c70
          clear c70
          (first|rw [c70b0]|(simp only [i64_w,i32_w];rw [c70b0])|skip)
          replace H:=Option.bind_eq_some_iff.mp H
          obtain ⟨t407,A710,H⟩:=H
          replace H : (if t407 = true then (laws_FnExactPlanOf.j1 kj19 l1 t373 t376 t387 (t390 != t376) l0_0 a0_1 a0_2 a0_3) else (laws_FnExactPlanOf.j1 kj19 l1 t373 t376 t387 true l0_0 a0_1 a0_2 a0_3)) = some r:=H
          have A71:=Aside0.mk A710
          clear A710
          by_cases c72 : t407 = true
          ·subst c72
           have H1 : (laws_FnExactPlanOf.j1 kj19 l1 t373 t376 t387 (t390 != t376) l0_0 a0_1 a0_2 a0_3) = some r:=by rw [if_pos rfl] at H;exact H
           clear H
           have H:=H1
           clear H1
           have H':=Aside0.mk H
           clear H
           obtain ⟨Ao73,co73,eo73⟩:=Kd.S_slice HO_10.out
           subst eo73
           obtain ⟨Ao74,co74,eo74⟩:=Kd.S_slice HO_6.out
           subst eo74
           go_wp2_with (first|(go_at_call 15;(with_reducible refine (laws_eqWriteS.calls kj19 _ _ t387 _ _ t373 true _ ?side1 ?side2 ?side3 ?side4 A71.out).mono ?_);(case side1=>repeat (first|exact (Kd.S_reads' HO_10.out).2.2|(with_reducible first|apply Kd.C_alloc|apply Kd.C_drewN|apply Kd.C_drew)));(case side2=>exact (Kd.S_reads' HO_10.out).2.1);(case side3=>repeat (first|exact (Kd.S_reads' HO_6.out).2.2|(with_reducible first|apply Kd.C_alloc|apply Kd.C_drewN|apply Kd.C_drew)));(case side4=>exact (Kd.S_reads' HO_6.out).2.1);rintro e w75 ⟨rfl,hb⟩;have n0_:=Aside0.mk (Kd.S_below (by (with_reducible repeat (first|apply Kd.S_alloc|apply Kd.S_drewN|apply Kd.S_drew));exact HO_6.out) hb);have n1_:=Aside0.mk (Kd.S_below (by (with_reducible repeat (first|apply Kd.S_alloc|apply Kd.S_drewN|apply Kd.S_drew));exact HO_10.out) hb);have n2_:=Aside0.mk (blk_below (g:=gb361) (o:=.cells #[.slice A0_0 l0_0.length c0_0,.int .i64 a0_1,.bool a0_2,.int .i64 a0_3] 36 (0,0)) (by (with_reducible repeat first|apply blk_drewN|apply blk_drew|apply blk_alloc);exact BK361.out) hb);have n3_:=Aside0.mk (blk_below (g:=gb383) (o:=.cells #[.slice Ao34 t377.length co34,.int .i64 t380,.bool t381,.int .i64 t382] 39 (0,0)) (by (with_reducible repeat first|apply blk_drewN|apply blk_drew|apply blk_alloc);exact BK383.out) hb);have n4_:=Aside0.mk (below_step (by repeat (first|(with_reducible first|exact HB.out|apply below_alloc|apply pw_below_drewN|apply below_drew1|refine below_set ?_ GE361.out|refine below_set ?_ GE383.out)|exact HB.out)) hb);clear HO_6;clear HO_10;clear BK361;clear BK383;clear HB;clear HO_9;have HO_6:=n0_;have HO_10:=n1_;have BK361:=n2_;have BK383:=n3_;have HB:=n4_;clear n0_ n1_ n2_ n3_ n4_;(try clear hb);(try clear hb2);(try clear hk);(try clear hi)))
           go_meet
           case rel=>exact ⟨_,((t390 != t376)),(by first|rfl|(simp;done)|(simp [*];done)),H',⟨by have:=HJ19.out;first|omega|exact Nat.le_refl _⟩,⟨by (with_reducible repeat (first|apply Kd.S_alloc|apply Kd.S_drewN|apply Kd.S_drew));exact Kd.S_mono HO_6.out (fun _ hk=>⟨hk.2.1,⟨hk.2.2.1,⟨hk.2.2.2.1,⟨hk.2.2.2.2.1,⟨hk.2.2.2.2.2.1,⟨hk.2.2.2.2.2.2.1,hk.2.2.2.2.2.2.2⟩⟩⟩⟩⟩⟩)⟩,⟨by (with_reducible repeat (first|apply Kd.S_alloc|apply Kd.S_drewN|apply Kd.S_drew));exact Kd.S_mono HO_10.out (fun _ hk=>⟨hk.1,⟨hk.2.2.1,⟨hk.2.2.2.1,hk.2.2.2.2⟩⟩⟩)⟩,⟨by (with_reducible repeat first|apply blk_drewN|apply blk_drew|apply blk_alloc);exact BK361.out⟩,⟨by repeat (first|(with_reducible first|exact HB.out|apply below_alloc|apply pw_below_drewN|apply below_drew1|refine below_set ?_ GE361.out|refine below_set ?_ GE383.out)|exact HB.out)⟩⟩
          ·replace c72:=Bool.eq_false_iff.mpr c72
           subst c72
           have H1 : (laws_FnExactPlanOf.j1 kj19 l1 t373 t376 t387 true l0_0 a0_1 a0_2 a0_3) = some r:=by rw [if_neg (show ¬ (false = true) by decide)] at H;exact H
           clear H
           have H:=H1
           clear H1
           have H':=Aside0.mk H
           clear H
           obtain ⟨Ao76,co76,eo76⟩:=Kd.S_slice HO_10.out
           subst eo76
           obtain ⟨Ao77,co77,eo77⟩:=Kd.S_slice HO_6.out
           subst eo77
           go_wp2_with (first|(go_at_call 15;(with_reducible refine (laws_eqWriteS.calls kj19 _ _ t387 _ _ t373 false _ ?side1 ?side2 ?side3 ?side4 A71.out).mono ?_);(case side1=>repeat (first|exact (Kd.S_reads' HO_10.out).2.2|(with_reducible first|apply Kd.C_alloc|apply Kd.C_drewN|apply Kd.C_drew)));(case side2=>exact (Kd.S_reads' HO_10.out).2.1);(case side3=>repeat (first|exact (Kd.S_reads' HO_6.out).2.2|(with_reducible first|apply Kd.C_alloc|apply Kd.C_drewN|apply Kd.C_drew)));(case side4=>exact (Kd.S_reads' HO_6.out).2.1);rintro e w78 ⟨rfl,hb⟩;have n0_:=Aside0.mk (Kd.S_below (by (with_reducible repeat (first|apply Kd.S_alloc|apply Kd.S_drewN|apply Kd.S_drew));exact HO_6.out) hb);have n1_:=Aside0.mk (Kd.S_below (by (with_reducible repeat (first|apply Kd.S_alloc|apply Kd.S_drewN|apply Kd.S_drew));exact HO_10.out) hb);have n2_:=Aside0.mk (blk_below (g:=gb361) (o:=.cells #[.slice A0_0 l0_0.length c0_0,.int .i64 a0_1,.bool a0_2,.int .i64 a0_3] 36 (0,0)) (by (with_reducible repeat first|apply blk_drewN|apply blk_drew|apply blk_alloc);exact BK361.out) hb);have n3_:=Aside0.mk (blk_below (g:=gb383) (o:=.cells #[.slice Ao34 t377.length co34,.int .i64 t380,.bool t381,.int .i64 t382] 39 (0,0)) (by (with_reducible repeat first|apply blk_drewN|apply blk_drew|apply blk_alloc);exact BK383.out) hb);have n4_:=Aside0.mk (below_step (by repeat (first|(with_reducible first|exact HB.out|apply below_alloc|apply pw_below_drewN|apply below_drew1|refine below_set ?_ GE361.out|refine below_set ?_ GE383.out)|exact HB.out)) hb);clear HO_6;clear HO_10;clear BK361;clear BK383;clear HB;clear HO_9;have HO_6:=n0_;have HO_10:=n1_;have BK361:=n2_;have BK383:=n3_;have HB:=n4_;clear n0_ n1_ n2_ n3_ n4_;(try clear hb);(try clear hb2);(try clear hk);(try clear hi)))
           go_meet
           case rel=>exact ⟨_,(true),(by first|rfl|(simp;done)|(simp [*];done)),H',⟨by have:=HJ19.out;first|omega|exact Nat.le_refl _⟩,⟨by (with_reducible repeat (first|apply Kd.S_alloc|apply Kd.S_drewN|apply Kd.S_drew));exact Kd.S_mono HO_6.out (fun _ hk=>⟨hk.2.1,⟨hk.2.2.1,⟨hk.2.2.2.1,⟨hk.2.2.2.2.1,⟨hk.2.2.2.2.2.1,⟨hk.2.2.2.2.2.2.1,hk.2.2.2.2.2.2.2⟩⟩⟩⟩⟩⟩)⟩,⟨by (with_reducible repeat (first|apply Kd.S_alloc|apply Kd.S_drewN|apply Kd.S_drew));exact Kd.S_mono HO_10.out (fun _ hk=>⟨hk.1,⟨hk.2.2.1,⟨hk.2.2.2.1,hk.2.2.2.2⟩⟩⟩)⟩,⟨by (with_reducible repeat first|apply blk_drewN|apply blk_drew|apply blk_alloc);exact BK361.out⟩,⟨by repeat (first|(with_reducible first|exact HB.out|apply below_alloc|apply pw_below_drewN|apply below_drew1|refine below_set ?_ GE361.out|refine below_set ?_ GE383.out)|exact HB.out)⟩⟩
        case rest =>
         clear HC58
         try clear c1;try clear c2;try clear p2;try clear c3;try clear c4;try clear c4b0;try clear c5;try clear c6;try clear c7;try clear c9;try clear c9b0;try clear c10;try clear c12;try clear c15;try clear c16;try clear c19;try clear c21;try clear c23;try clear c26;try clear c27;try clear c28;try clear c35;try clear c42;try clear c49;try clear c52;try clear c55;try clear c66;try clear c70;try clear c70b0;try clear c72;try clear hcz11_0;try clear hcz11_1;try clear hcz11_2;try clear hcz11_3;try clear hcz22_0;try clear hcz22_1;try clear hcz22_2;try clear hcz22_3;try clear hcz25_0;try clear hcz25_1;try clear hcz25_2;try clear hcz25_3;try clear hcz31_0;try clear hcz31_1;try clear hcz31_2;try clear hcz31_3;try clear hcz36_0;try clear hcz36_1;try clear hcz36_2;try clear hcz36_3;try clear hcz38_0;try clear hcz38_1;try clear hcz38_2;try clear hcz38_3;try clear hcz67_0;try clear hcz67_1;try clear hcz67_2;try clear hcz67_3;try clear hcz6_0;try clear hcz6_1;try clear hcz6_2;try clear hcz6_3;try clear hfz11_0;try clear hfz11_1;try clear hfz11_2;try clear hfz11_3;try clear hfz22_0;try clear hfz22_1;try clear hfz22_2;try clear hfz22_3;try clear hfz25_0;try clear hfz25_1;try clear hfz25_2;try clear hfz25_3;try clear hfz31_0;try clear hfz31_1;try clear hfz31_2;try clear hfz31_3;try clear hfz36_0;try clear hfz36_1;try clear hfz36_2;try clear hfz36_3;try clear hfz38_0;try clear hfz38_1;try clear hfz38_2;try clear hfz38_3;try clear hfz67_0;try clear hfz67_1;try clear hfz67_2;try clear hfz67_3;try clear hfz6_0;try clear hfz6_1;try clear hfz6_2;try clear hfz6_3;try clear p2
         obtain ⟨kq,x82_57,rfl,HA,HJ57,HO_6,HO_10,BK361,HB⟩:=hcut
         cases kq with
         | zero=>exact absurd HA.out (by simp [laws_FnExactPlanOf.j1])
         | succ kj57 =>
          have H:=HA.out
          clear HA
          simp only [laws_FnExactPlanOf.j1] at H
          by_cases c79 : x82_57 = true
          ·subst c79
           have H1 : (some false) = some r:=by rw [if_pos rfl] at H;exact H
           clear H
           have H:=H1
           clear H1
           obtain rfl:=Option.some.inj H
           go_wp2
           go_ret
           exact ⟨by first|rfl|(simp [*,errW_none,errW_some] <;> rfl),by repeat (first|(with_reducible first|exact HB.out|apply below_alloc|apply pw_below_drewN|apply below_drew1|refine below_set ?_ GE361.out)|exact HB.out)⟩
          ·replace c79:=Bool.eq_false_iff.mpr c79
           subst c79
           have H1 : ((laws_markWriteS.f kj57 t387 1).bind fun bt408=>((laws_heldWriteS.f kj57 bt408.2 1).bind fun t410=>(if t410 < 0 then (some false) else (if t410 = bt408.1 then ((laws_toDisk.f kj57 l0_0 a0_1 a0_2 a0_3).bind fun bt411=>((laws_toWriteS.f kj57 l1).bind fun t417=>((impl_PlanOf.f kj57 bt411.1 bt411.2.1 bt411.2.2.1 bt411.2.2.2 t417).bind fun bt420=>((laws_eqWriteS.f kj57 bt420.1 t373).bind fun t424=>(if t424 = true then (laws_FnExactPlanOf.j2 kj57 bt408.2 bt408.1 (bt420.2 != t376)) else (laws_FnExactPlanOf.j2 kj57 bt408.2 bt408.1 true)))))) else (some false))))) = some r:=by rw [if_neg (show ¬ (false = true) by decide)] at H;exact H
           clear H
           have H:=H1
           clear H1
           replace H:=Option.bind_eq_some_iff.mp H
           obtain ⟨⟨t408,t409⟩,A800,H⟩:=H
           replace H : ((laws_heldWriteS.f kj57 t409 1).bind fun t410=>(if t410 < 0 then (some false) else (if t410 = t408 then ((laws_toDisk.f kj57 l0_0 a0_1 a0_2 a0_3).bind fun bt411=>((laws_toWriteS.f kj57 l1).bind fun t417=>((impl_PlanOf.f kj57 bt411.1 bt411.2.1 bt411.2.2.1 bt411.2.2.2 t417).bind fun bt420=>((laws_eqWriteS.f kj57 bt420.1 t373).bind fun t424=>(if t424 = true then (laws_FnExactPlanOf.j2 kj57 t409 t408 (bt420.2 != t376)) else (laws_FnExactPlanOf.j2 kj57 t409 t408 true)))))) else (some false)))) = some r:=H
           have A80:=Aside0.mk A800
           clear A800
           replace H:=Option.bind_eq_some_iff.mp H
           obtain ⟨t410,A810,H⟩:=H
           replace H : (if t410 < 0 then (some false) else (if t410 = t408 then ((laws_toDisk.f kj57 l0_0 a0_1 a0_2 a0_3).bind fun bt411=>((laws_toWriteS.f kj57 l1).bind fun t417=>((impl_PlanOf.f kj57 bt411.1 bt411.2.1 bt411.2.2.1 bt411.2.2.2 t417).bind fun bt420=>((laws_eqWriteS.f kj57 bt420.1 t373).bind fun t424=>(if t424 = true then (laws_FnExactPlanOf.j2 kj57 t409 t408 (bt420.2 != t376)) else (laws_FnExactPlanOf.j2 kj57 t409 t408 true)))))) else (some false))) = some r:=H
           have A81:=Aside0.mk A810
           clear A810
           by_cases c82 : t410 < 0
           ·rw [if_pos c82] at H
            have c82b0 : decide (t410 < 0) = true:=decide_eq_true c82
            clear c82
            obtain rfl:=Option.some.inj H
            obtain ⟨Ao83,co83,eo83⟩:=Kd.S_slice HO_10.out
            subst eo83
            go_wp2_with (first|((with_reducible refine gate_callee (f:=16) rfl ?_);refine goesL_ (some 85) rfl rfl Try.func16 (by kernel_rfl) rfl #[.slice Ao83 t387.length co83,.int .i64 1] rfl (by (try simp only [List.map_toArray,List.map_cons,List.map_nil]);first|done|rfl|(simp only [List.length_drop,List.length_take];rfl)) ?_;(with_reducible refine (laws_markWriteS.calls kj57 (SB_ k59 59 wc w.heap.size (fun k_=>(some k_ ≠ (v374 : Value).ownBlock∧(w37.heap.size ≤ k_∧(k_ < w59.heap.size∧k_ < w62.heap.size))))) (.slice Ao83 t387.length co83) t387 1 t408 t409 w _ ?side1 ?side2 A80.out).mono ?_);(case side1=>repeat (first|(with_reducible first|exact HB.out|apply below_alloc|apply pw_below_drewN|apply below_drew1|refine below_set ?_ GE361.out)|exact HB.out));(case side2=>exact SB_own HO_10.out);rintro e w84 ⟨rfl,hy0,hb,hkp⟩;refine ⟨_,rfl,?_⟩;have n0_:=Aside0.mk (Kd.S_mono (ok':=fun k_=>some k_ ≠ (v374 : Value).ownBlock) hy0 (fun k_ h_=>Or.elim h_ (fun p_=>p_.1.1) (fun n_=>(Kd.fresh' (Kd.S_lt (by (with_reducible repeat (first|apply Kd.S_alloc|apply Kd.S_drewN|apply Kd.S_drew));exact HO_6.out)) k_ n_))));have n1_:=Aside0.mk (blk_kept (g:=gb361) (o:=.cells #[.slice A0_0 l0_0.length c0_0,.int .i64 a0_1,.bool a0_2,.int .i64 a0_3] 36 (0,0)) (by (with_reducible repeat first|apply blk_drewN|apply blk_drew|apply blk_alloc);exact BK361.out) hkp (fun hs_=>(fun e_=>(blk_SB BK361.out (by decide)) e_) hs_));have n2_:=Aside0.mk (hb);clear HO_10;clear BK361;clear HB;clear HO_6;have HO_10:=n0_;have BK361:=n1_;have HB:=n2_;clear n0_ n1_ n2_;(try clear hb);(try clear hkp);(try clear hbx);(try clear hy0))|((with_reducible refine gate_callee (f:=29) rfl ?_);refine goesL_ (some 88) rfl rfl Try.func29 (by kernel_rfl) rfl #[.slice Ao83 t409.length co83,.int .i64 1] rfl (by (try simp only [List.map_toArray,List.map_cons,List.map_nil]);first|done|(rw [show t409.length = t387.length from (Kd.S_reads' HO_10.out).1.symm] <;> rfl)|rfl|(simp only [List.length_drop,List.length_take];rfl)) ?_;(with_reducible refine (laws_heldWriteS.calls kj57 _ _ t409 1 t410 _ ?side1 ?side2 A81.out).mono ?_);(case side1=>repeat (first|exact (Kd.S_reads' HO_10.out).2.2|(with_reducible first|apply Kd.C_alloc|apply Kd.C_drewN|apply Kd.C_drew)));(case side2=>rw [show t409.length = t387.length from (Kd.S_reads' HO_10.out).1.symm];exact (Kd.S_reads' HO_10.out).2.1);rintro e w' ⟨rfl,⟨nd,rfl⟩⟩;refine ⟨_,rfl,?_⟩))
            go_ret
            exact ⟨by first|rfl|(simp [*,errW_none,errW_some] <;> rfl),by repeat (first|(with_reducible first|exact HB.out|apply below_alloc|apply pw_below_drewN|apply below_drew1|refine below_set ?_ GE361.out)|exact HB.out)⟩
           ·rw [if_neg c82] at H
            have c82b0 : decide (t410 < 0) = false:=decide_eq_false c82
            clear c82
            by_cases c85 : t410 = t408
            ·rw [if_pos c85] at H
             have c85b0 : (t410 == t408) = true:=beq_iff_eq.mpr c85
             have c85b1 : (t410 != t408) = false:=bne_eq_false_iff_eq.mpr c85
             clear c85
             replace H:=Option.bind_eq_some_iff.mp H
             obtain ⟨⟨t411,t414,t415,t416⟩,A860,H⟩:=H
             replace H : ((laws_toWriteS.f kj57 l1).bind fun t417=>((impl_PlanOf.f kj57 t411 t414 t415 t416 t417).bind fun bt420=>((laws_eqWriteS.f kj57 bt420.1 t373).bind fun t424=>(if t424 = true then (laws_FnExactPlanOf.j2 kj57 t409 t408 (bt420.2 != t376)) else (laws_FnExactPlanOf.j2 kj57 t409 t408 true))))) = some r:=H
             have A86:=Aside0.mk A860
             clear A860
             replace H:=Option.bind_eq_some_iff.mp H
             obtain ⟨t417,A870,H⟩:=H
             replace H : ((impl_PlanOf.f kj57 t411 t414 t415 t416 t417).bind fun bt420=>((laws_eqWriteS.f kj57 bt420.1 t373).bind fun t424=>(if t424 = true then (laws_FnExactPlanOf.j2 kj57 t409 t408 (bt420.2 != t376)) else (laws_FnExactPlanOf.j2 kj57 t409 t408 true)))) = some r:=H
             have A87:=Aside0.mk A870
             clear A870
             replace H:=Option.bind_eq_some_iff.mp H
             obtain ⟨⟨t420,t423⟩,A880,H⟩:=H
             replace H : ((laws_eqWriteS.f kj57 t420 t373).bind fun t424=>(if t424 = true then (laws_FnExactPlanOf.j2 kj57 t409 t408 (t423 != t376)) else (laws_FnExactPlanOf.j2 kj57 t409 t408 true))) = some r:=H
             have A88:=Aside0.mk A880
             clear A880
             have HC89:=Aside0.mk H
             clear H
             obtain ⟨Ao90,co90,eo90⟩:=Kd.S_slice HO_10.out
             subst eo90
             go_upto_region 32 with (first|((with_reducible refine gate_callee (f:=16) rfl ?_);refine goesL_ (some 85) rfl rfl Try.func16 (by kernel_rfl) rfl #[.slice Ao90 t387.length co90,.int .i64 1] rfl (by (try simp only [List.map_toArray,List.map_cons,List.map_nil]);first|done|rfl|(simp only [List.length_drop,List.length_take];rfl)) ?_;(with_reducible refine (laws_markWriteS.calls kj57 (SB_ k59 59 wc w.heap.size (fun k_=>(some k_ ≠ (v374 : Value).ownBlock∧(w37.heap.size ≤ k_∧(k_ < w59.heap.size∧k_ < w62.heap.size))))) (.slice Ao90 t387.length co90) t387 1 t408 t409 w _ ?side1 ?side2 A80.out).mono ?_);(case side1=>repeat (first|(with_reducible first|exact HB.out|apply below_alloc|apply pw_below_drewN|apply below_drew1|refine below_set ?_ GE361.out)|exact HB.out));(case side2=>exact SB_own HO_10.out);rintro e w91 ⟨rfl,hy0,hb,hkp⟩;refine ⟨_,rfl,?_⟩;have n0_:=Aside0.mk (Kd.S_mono (ok':=fun k_=>some k_ ≠ (.slice Ao90 t387.length co90 : Value).ownBlock∧w27.heap.size ≤ k_∧k_ < w30.heap.size∧k_ < w33.heap.size∧k_ < w37.heap.size∧k_ < w59.heap.size∧k_ < w62.heap.size) (Kd.S_keptB ((S_apartSBn (d':=k59) (e':=59) (base':=w.heap.size) (ok':=(fun k_=>(some k_ ≠ (v374 : Value).ownBlock∧(w37.heap.size ≤ k_∧(k_ < w59.heap.size∧k_ < w62.heap.size))))) HO_6.out (fun k_ hk h2_=>absurd (hk.2.2.2.2.1) (Nat.not_lt.2 (h2_.2.1))))) hkp (fun k_ hk_ hs_=>(hk_.2) hs_)) (fun k_ hk_=>⟨hk_.1.1.1,hk_.1.1.2.1,hk_.1.1.2.2.1,hk_.1.1.2.2.2.1,hk_.1.1.2.2.2.2.1,hk_.1.1.2.2.2.2.2.1,hk_.1.1.2.2.2.2.2.2⟩));have n1_:=Aside0.mk (Kd.S_mono (ok':=fun k_=>some k_ ≠ (v374 : Value).ownBlock) hy0 (fun k_ h_=>Or.elim h_ (fun p_=>p_.1.1) (fun n_=>(Kd.fresh' (Kd.S_lt (by (with_reducible repeat (first|apply Kd.S_alloc|apply Kd.S_drewN|apply Kd.S_drew));exact HO_6.out)) k_ n_))));have n2_:=Aside0.mk (blk_kept (g:=gb361) (o:=.cells #[.slice A0_0 l0_0.length c0_0,.int .i64 a0_1,.bool a0_2,.int .i64 a0_3] 36 (0,0)) (by (with_reducible repeat first|apply blk_drewN|apply blk_drew|apply blk_alloc);exact BK361.out) hkp (fun hs_=>(fun e_=>(blk_SB BK361.out (by decide)) e_) hs_));have n3_:=Aside0.mk (hb);clear HO_6;clear HO_10;clear BK361;clear HB;have HO_6:=n0_;have HO_10:=n1_;have BK361:=n2_;have HB:=n3_;clear n0_ n1_ n2_ n3_;(try clear hb);(try clear hkp);(try clear hbx);(try clear hy0))|((with_reducible refine gate_callee (f:=29) rfl ?_);refine goesL_ (some 88) rfl rfl Try.func29 (by kernel_rfl) rfl #[.slice Ao90 t409.length co90,.int .i64 1] rfl (by (try simp only [List.map_toArray,List.map_cons,List.map_nil]);first|done|(rw [show t409.length = t387.length from (Kd.S_reads' HO_10.out).1.symm] <;> rfl)|rfl|(simp only [List.length_drop,List.length_take];rfl)) ?_;(with_reducible refine (laws_heldWriteS.calls kj57 _ _ t409 1 t410 _ ?side1 ?side2 A81.out).mono ?_);(case side1=>repeat (first|exact (Kd.S_reads' HO_10.out).2.2|(with_reducible first|apply Kd.C_alloc|apply Kd.C_drewN|apply Kd.C_drew)));(case side2=>rw [show t409.length = t387.length from (Kd.S_reads' HO_10.out).1.symm];exact (Kd.S_reads' HO_10.out).2.1);rintro e w' ⟨rfl,⟨nd,rfl⟩⟩;refine ⟨_,rfl,?_⟩;have hcz92_0 : w91.cell? ⟨gb361,0,none⟩ = some (.slice A0_0 l0_0.length c0_0):=(blk_cell BK361.out 0).trans rfl;have hcz92_1 : w91.cell? ⟨gb361,1,none⟩ = some (.int .i64 a0_1):=(blk_cell BK361.out 1).trans rfl;have hcz92_2 : w91.cell? ⟨gb361,2,none⟩ = some (.bool a0_2):=(blk_cell BK361.out 2).trans rfl;have hcz92_3 : w91.cell? ⟨gb361,3,none⟩ = some (.int .i64 a0_3):=(blk_cell BK361.out 3).trans rfl;have hfz92_0:=blk_frozen BK361.out 0;have hfz92_1:=blk_frozen BK361.out 1;have hfz92_2:=blk_frozen BK361.out 2;have hfz92_3:=blk_frozen BK361.out 3)|((with_reducible refine gate_callee (f:=21) rfl ?_);refine goesL_ (some 96) rfl rfl Try.func21 (by kernel_rfl) rfl #[.agg #[.slice A0_0 l0_0.length c0_0,.int .i64 a0_1,.bool a0_2,.int .i64 a0_3]] rfl (by (try simp only [List.map_toArray,List.map_cons,List.map_nil]);first|done|rfl|(simp only [List.length_drop,List.length_take];rfl)) ?_;(with_reducible refine (laws_toDisk.calls kj57 _ _ l0_0 a0_1 a0_2 a0_3 t411 t414 t415 t416 _ ?side1 ?side2 A86.out).mono ?_);(case side1=>repeat (first|exact (Kd.C_below HR0_0.out (by repeat (first|(with_reducible first|exact HB.out|apply below_alloc|apply pw_below_drewN|apply below_drew1|refine below_set ?_ GE361.out)|exact HB.out)))|(with_reducible first|apply Kd.C_alloc|apply Kd.C_drewN|apply Kd.C_drew)));(case side2=>exact HC0_0.out);rintro e w93 ⟨v412,rfl,ho0,hb⟩;refine ⟨_,rfl,?_⟩;have n0_:=Aside0.mk (Kd.S_old (by (with_reducible repeat (first|apply Kd.S_alloc|apply Kd.S_drewN|apply Kd.S_drew));exact HO_6.out) hb);have n1_:=Aside0.mk (Kd.S_old (by (with_reducible repeat (first|apply Kd.S_alloc|apply Kd.S_drewN|apply Kd.S_drew));exact HO_10.out) hb);have n2_:=Aside0.mk (Kd.S_lower (Kd.S_mono (Kd.S_bound ho0) (fun k_ h_=>(⟨h_.1,(by first|exact h_.2.1|simpa only [World.size_setCell] using h_.2.1)⟩ : _∧w91.heap.size ≤ k_))) (below_size (by repeat (first|(with_reducible first|exact HB.out|apply below_alloc|apply pw_below_drewN|apply below_drew1|refine below_set ?_ GE361.out)|exact HB.out))));have n3_:=Aside0.mk (blk_below (g:=gb361) (o:=.cells #[.slice A0_0 l0_0.length c0_0,.int .i64 a0_1,.bool a0_2,.int .i64 a0_3] 36 (0,0)) (by (with_reducible repeat first|apply blk_drewN|apply blk_drew|apply blk_alloc);exact BK361.out) hb);have n4_:=Aside0.mk (below_step (by repeat (first|(with_reducible first|exact HB.out|apply below_alloc|apply pw_below_drewN|apply below_drew1|refine below_set ?_ GE361.out)|exact HB.out)) hb);clear HO_6;clear HO_10;clear BK361;clear HB;have HO_6:=n0_;have HO_10:=n1_;have HO413:=n2_;have BK361:=n3_;have HB:=n4_;clear n0_ n1_ n2_ n3_ n4_;(try clear hb);(try clear hb2);(try clear hk);(try clear hi);(try clear ho0))|((with_reducible refine gate_callee (f:=12) rfl ?_);refine goesL_ (some 98) rfl rfl Try.func12 (by kernel_rfl) rfl #[.slice A1 l1.length c1] rfl (by (try simp only [List.map_toArray,List.map_cons,List.map_nil]);first|done|rfl|(simp only [List.length_drop,List.length_take];rfl)) ?_;(with_reducible refine (laws_toWriteS.calls kj57 _ _ l1 t417 _ ?side1 ?side2 A87.out).mono ?_);(case side1=>repeat (first|exact (Kd.C_below HR1.out HB.out)|(with_reducible first|apply Kd.C_alloc|apply Kd.C_drewN|apply Kd.C_drew)));(case side2=>exact HC1.out);rintro e w94 ⟨v418,rfl,ho0,hb⟩;refine ⟨_,rfl,?_⟩;have n0_:=Aside0.mk (Kd.S_told (Kd.S_old (by (with_reducible repeat (first|apply Kd.S_alloc|apply Kd.S_drewN|apply Kd.S_drew));exact HO_6.out) hb) (Kd.S_base ho0));have n1_:=Aside0.mk (Kd.S_told (Kd.S_old (by (with_reducible repeat (first|apply Kd.S_alloc|apply Kd.S_drewN|apply Kd.S_drew));exact HO_10.out) hb) (Kd.S_base ho0));have n2_:=Aside0.mk (Kd.S_old (by (with_reducible repeat (first|apply Kd.S_alloc|apply Kd.S_drewN|apply Kd.S_drew));exact HO413.out) hb);have n3_:=Aside0.mk (Kd.S_lower (Kd.S_new' (Kd.S_new' (Kd.S_mono (Kd.S_bound ho0) (fun k_ h_=>(⟨h_.1,(by first|exact h_.2.1|simpa only [World.size_setCell] using h_.2.1)⟩ : _∧w93.heap.size ≤ k_))) (Kd.S_lt (by (with_reducible repeat (first|apply Kd.S_alloc|apply Kd.S_drewN|apply Kd.S_drew));exact HO_6.out))) (Kd.S_lt (by (with_reducible repeat (first|apply Kd.S_alloc|apply Kd.S_drewN|apply Kd.S_drew));exact HO_10.out))) (below_size (by repeat (first|(with_reducible first|exact HB.out|apply below_alloc|apply pw_below_drewN|apply below_drew1|refine below_set ?_ GE361.out)|exact HB.out))));have n4_:=Aside0.mk (blk_below (g:=gb361) (o:=.cells #[.slice A0_0 l0_0.length c0_0,.int .i64 a0_1,.bool a0_2,.int .i64 a0_3] 36 (0,0)) (by (with_reducible repeat first|apply blk_drewN|apply blk_drew|apply blk_alloc);exact BK361.out) hb);have n5_:=Aside0.mk (below_step (by repeat (first|(with_reducible first|exact HB.out|apply below_alloc|apply pw_below_drewN|apply below_drew1|refine below_set ?_ GE361.out)|exact HB.out)) hb);clear HO_6;clear HO_10;clear HO413;clear BK361;clear HB;have HO_6:=n0_;have HO_10:=n1_;have HO413:=n2_;have HO419:=n3_;have BK361:=n4_;have HB:=n5_;clear n0_ n1_ n2_ n3_ n4_ n5_;(try clear hb);(try clear hb2);(try clear hk);(try clear hi);(try clear ho0);obtain ⟨Ao95,co95,eo95⟩:=Kd.S_slice HO413.out;subst eo95;obtain ⟨Ao96,co96,eo96⟩:=Kd.S_slice HO419.out;subst eo96)|((with_reducible refine gate_callee (f:=27) rfl ?_);refine goesL_ (some 99) rfl rfl Try.func27 (by kernel_rfl) rfl #[.agg #[.slice Ao95 t411.length co95,.int .i64 t414,.bool t415,.int .i64 t416],.slice Ao96 t417.length co96] rfl (by (try simp only [List.map_toArray,List.map_cons,List.map_nil]);first|done|rfl|(simp only [List.length_drop,List.length_take];rfl)) ?_;(with_reducible refine (impl_PlanOf.calls kj57 _ _ t411 t414 t415 t416 _ _ t417 t420 t423 _ ?side1 ?side2 ?side3 ?side4 A88.out).mono ?_);(case side1=>repeat (first|exact (Kd.S_reads' HO413.out).2.2|(with_reducible first|apply Kd.C_alloc|apply Kd.C_drewN|apply Kd.C_drew)));(case side2=>exact (Kd.S_reads' HO413.out).2.1);(case side3=>repeat (first|exact (Kd.S_reads' HO419.out).2.2|(with_reducible first|apply Kd.C_alloc|apply Kd.C_drewN|apply Kd.C_drew)));(case side4=>exact (Kd.S_reads' HO419.out).2.1);rintro e w97 ⟨v421,rfl,ho0,hb⟩;refine ⟨_,rfl,?_⟩;have n0_:=Aside0.mk (Kd.S_told (Kd.S_old (by (with_reducible repeat (first|apply Kd.S_alloc|apply Kd.S_drewN|apply Kd.S_drew));exact HO_6.out) hb) (Kd.S_base ho0));have n1_:=Aside0.mk (Kd.S_told (Kd.S_old (by (with_reducible repeat (first|apply Kd.S_alloc|apply Kd.S_drewN|apply Kd.S_drew));exact HO_10.out) hb) (Kd.S_base ho0));have n2_:=Aside0.mk (Kd.S_old (by (with_reducible repeat (first|apply Kd.S_alloc|apply Kd.S_drewN|apply Kd.S_drew));exact HO413.out) hb);have n3_:=Aside0.mk (Kd.S_told (Kd.S_old (by (with_reducible repeat (first|apply Kd.S_alloc|apply Kd.S_drewN|apply Kd.S_drew));exact HO419.out) hb) (Kd.S_base ho0));have n4_:=Aside0.mk (Kd.S_lower (Kd.S_new' (Kd.S_new' (Kd.S_new' (Kd.S_mono (Kd.S_bound ho0) (fun k_ h_=>(⟨h_.1,(by first|exact h_.2.1|simpa only [World.size_setCell] using h_.2.1)⟩ : _∧w94.heap.size ≤ k_))) (Kd.S_lt (by (with_reducible repeat (first|apply Kd.S_alloc|apply Kd.S_drewN|apply Kd.S_drew));exact HO_6.out))) (Kd.S_lt (by (with_reducible repeat (first|apply Kd.S_alloc|apply Kd.S_drewN|apply Kd.S_drew));exact HO_10.out))) (Kd.S_lt (by (with_reducible repeat (first|apply Kd.S_alloc|apply Kd.S_drewN|apply Kd.S_drew));exact HO419.out))) (below_size (by repeat (first|(with_reducible first|exact HB.out|apply below_alloc|apply pw_below_drewN|apply below_drew1|refine below_set ?_ GE361.out)|exact HB.out))));have n5_:=Aside0.mk (blk_below (g:=gb361) (o:=.cells #[.slice A0_0 l0_0.length c0_0,.int .i64 a0_1,.bool a0_2,.int .i64 a0_3] 36 (0,0)) (by (with_reducible repeat first|apply blk_drewN|apply blk_drew|apply blk_alloc);exact BK361.out) hb);have n6_:=Aside0.mk (below_step (by repeat (first|(with_reducible first|exact HB.out|apply below_alloc|apply pw_below_drewN|apply below_drew1|refine below_set ?_ GE361.out)|exact HB.out)) hb);clear HO_6;clear HO_10;clear HO413;clear HO419;clear BK361;clear HB;have HO_6:=n0_;have HO_10:=n1_;have HO413:=n2_;have HO419:=n3_;have HO422:=n4_;have BK361:=n5_;have HB:=n6_;clear n0_ n1_ n2_ n3_ n4_ n5_ n6_;(try clear hb);(try clear hb2);(try clear hk);(try clear hi);(try clear ho0)))
             (try simp only [Act.put,List.setIfInBounds_toArray,List.set_cons_zero,List.set_cons_succ])
             go_cut [110] (fun v110 wc=>∃ (kq : Nat) (x110_88 : Bool),v110 = .bool x110_88∧Aside0 (laws_FnExactPlanOf.j2 kq t409 t408 x110_88 = some r)∧Aside0 (kq ≤ kj57)∧Aside0 (Kd.S k59 59 wc w.heap.size (fun k_=>k_ < w91.heap.size∧k_ < w93.heap.size∧k_ < w94.heap.size) (.slice Ao90 t387.length co90) t409)∧Aside0 (wc.heap[gb361]? = some (.cells #[(.slice A0_0 l0_0.length c0_0),.int .i64 a0_1,.bool a0_2,.int .i64 a0_3] 36 (0,0)))∧Aside0 (Below w.heap.size w wc))
             case first =>
              have H:=HC89.out
              clear HC89
              replace H:=Option.bind_eq_some_iff.mp H
              obtain ⟨t424,A980,H⟩:=H
              replace H : (if t424 = true then (laws_FnExactPlanOf.j2 kj57 t409 t408 (t423 != t376)) else (laws_FnExactPlanOf.j2 kj57 t409 t408 true)) = some r:=H
              have A98:=Aside0.mk A980
              clear A980
              by_cases c99 : t424 = true
              ·subst c99
               have H1 : (laws_FnExactPlanOf.j2 kj57 t409 t408 (t423 != t376)) = some r:=by rw [if_pos rfl] at H;exact H
               clear H
               have H:=H1
               clear H1
               have H':=Aside0.mk H
               clear H
               obtain ⟨Ao100,co100,eo100⟩:=Kd.S_slice HO422.out
               subst eo100
               obtain ⟨Ao101,co101,eo101⟩:=Kd.S_slice HO_6.out
               subst eo101
               go_wp2_with (first|((with_reducible refine gate_callee (f:=15) rfl ?_);refine goesL_ (some 104) rfl rfl Try.func15 (by kernel_rfl) rfl #[.slice Ao100 t420.length co100,.slice Ao101 t373.length co101] rfl (by (try simp only [List.map_toArray,List.map_cons,List.map_nil]);first|done|rfl|(simp only [List.length_drop,List.length_take];rfl)) ?_;(with_reducible refine (laws_eqWriteS.calls kj57 _ _ t420 _ _ t373 true _ ?side1 ?side2 ?side3 ?side4 A98.out).mono ?_);(case side1=>repeat (first|exact (Kd.S_reads' HO422.out).2.2|(with_reducible first|apply Kd.C_alloc|apply Kd.C_drewN|apply Kd.C_drew)));(case side2=>exact (Kd.S_reads' HO422.out).2.1);(case side3=>repeat (first|exact (Kd.S_reads' HO_6.out).2.2|(with_reducible first|apply Kd.C_alloc|apply Kd.C_drewN|apply Kd.C_drew)));(case side4=>exact (Kd.S_reads' HO_6.out).2.1);rintro e w102 ⟨rfl,hb⟩;refine ⟨_,rfl,?_⟩;have n0_:=Aside0.mk (Kd.S_below (by (with_reducible repeat (first|apply Kd.S_alloc|apply Kd.S_drewN|apply Kd.S_drew));exact HO_6.out) hb);have n1_:=Aside0.mk (Kd.S_below (by (with_reducible repeat (first|apply Kd.S_alloc|apply Kd.S_drewN|apply Kd.S_drew));exact HO_10.out) hb);have n2_:=Aside0.mk (Kd.S_below (by (with_reducible repeat (first|apply Kd.S_alloc|apply Kd.S_drewN|apply Kd.S_drew));exact HO422.out) hb);have n3_:=Aside0.mk (blk_below (g:=gb361) (o:=.cells #[.slice A0_0 l0_0.length c0_0,.int .i64 a0_1,.bool a0_2,.int .i64 a0_3] 36 (0,0)) (by (with_reducible repeat first|apply blk_drewN|apply blk_drew|apply blk_alloc);exact BK361.out) hb);have n4_:=Aside0.mk (below_step (by repeat (first|(with_reducible first|exact HB.out|apply below_alloc|apply pw_below_drewN|apply below_drew1|refine below_set ?_ GE361.out)|exact HB.out)) hb);clear HO_6;clear HO_10;clear HO422;clear BK361;clear HB;clear HO413;clear HO419;have HO_6:=n0_;have HO_10:=n1_;have HO422:=n2_;have BK361:=n3_;have HB:=n4_;clear n0_ n1_ n2_ n3_ n4_;(try clear hb);(try clear hb2);(try clear hk);(try clear hi)))
               go_meet
               case rel=>exact ⟨_,((t423 != t376)),(by first|rfl|(simp;done)|(simp [*];done)),H',⟨by have:=HJ19.out;have:=HJ57.out;first|omega|exact Nat.le_refl _⟩,⟨by (with_reducible repeat (first|apply Kd.S_alloc|apply Kd.S_drewN|apply Kd.S_drew));exact Kd.S_mono HO_10.out (fun _ hk=>⟨hk.1.1.1.1.2,⟨hk.1.1.2,hk.2⟩⟩)⟩,⟨by (with_reducible repeat first|apply blk_drewN|apply blk_drew|apply blk_alloc);exact BK361.out⟩,⟨by repeat (first|(with_reducible first|exact HB.out|apply below_alloc|apply pw_below_drewN|apply below_drew1|refine below_set ?_ GE361.out)|exact HB.out)⟩⟩
              ·replace c99:=Bool.eq_false_iff.mpr c99
               subst c99
               have H1 : (laws_FnExactPlanOf.j2 kj57 t409 t408 true) = some r:=by rw [if_neg (show ¬ (false = true) by decide)] at H;exact H
               clear H
               have H:=H1
               clear H1
               have H':=Aside0.mk H
               clear H
               obtain ⟨Ao103,co103,eo103⟩:=Kd.S_slice HO422.out
               subst eo103
               obtain ⟨Ao104,co104,eo104⟩:=Kd.S_slice HO_6.out
               subst eo104
               go_wp2_with (first|((with_reducible refine gate_callee (f:=15) rfl ?_);refine goesL_ (some 104) rfl rfl Try.func15 (by kernel_rfl) rfl #[.slice Ao103 t420.length co103,.slice Ao104 t373.length co104] rfl (by (try simp only [List.map_toArray,List.map_cons,List.map_nil]);first|done|rfl|(simp only [List.length_drop,List.length_take];rfl)) ?_;(with_reducible refine (laws_eqWriteS.calls kj57 _ _ t420 _ _ t373 false _ ?side1 ?side2 ?side3 ?side4 A98.out).mono ?_);(case side1=>repeat (first|exact (Kd.S_reads' HO422.out).2.2|(with_reducible first|apply Kd.C_alloc|apply Kd.C_drewN|apply Kd.C_drew)));(case side2=>exact (Kd.S_reads' HO422.out).2.1);(case side3=>repeat (first|exact (Kd.S_reads' HO_6.out).2.2|(with_reducible first|apply Kd.C_alloc|apply Kd.C_drewN|apply Kd.C_drew)));(case side4=>exact (Kd.S_reads' HO_6.out).2.1);rintro e w105 ⟨rfl,hb⟩;refine ⟨_,rfl,?_⟩;have n0_:=Aside0.mk (Kd.S_below (by (with_reducible repeat (first|apply Kd.S_alloc|apply Kd.S_drewN|apply Kd.S_drew));exact HO_6.out) hb);have n1_:=Aside0.mk (Kd.S_below (by (with_reducible repeat (first|apply Kd.S_alloc|apply Kd.S_drewN|apply Kd.S_drew));exact HO_10.out) hb);have n2_:=Aside0.mk (Kd.S_below (by (with_reducible repeat (first|apply Kd.S_alloc|apply Kd.S_drewN|apply Kd.S_drew));exact HO422.out) hb);have n3_:=Aside0.mk (blk_below (g:=gb361) (o:=.cells #[.slice A0_0 l0_0.length c0_0,.int .i64 a0_1,.bool a0_2,.int .i64 a0_3] 36 (0,0)) (by (with_reducible repeat first|apply blk_drewN|apply blk_drew|apply blk_alloc);exact BK361.out) hb);have n4_:=Aside0.mk (below_step (by repeat (first|(with_reducible first|exact HB.out|apply below_alloc|apply pw_below_drewN|apply below_drew1|refine below_set ?_ GE361.out)|exact HB.out)) hb);clear HO_6;clear HO_10;clear HO422;clear BK361;clear HB;clear HO413;clear HO419;have HO_6:=n0_;have HO_10:=n1_;have HO422:=n2_;have BK361:=n3_;have HB:=n4_;clear n0_ n1_ n2_ n3_ n4_;(try clear hb);(try clear hb2);(try clear hk);(try clear hi)))
               go_meet
               case rel=>exact ⟨_,(true),(by first|rfl|(simp;done)|(simp [*];done)),H',⟨by have:=HJ19.out;have:=HJ57.out;first|omega|exact Nat.le_refl _⟩,⟨by (with_reducible repeat (first|apply Kd.S_alloc|apply Kd.S_drewN|apply Kd.S_drew));exact Kd.S_mono HO_10.out (fun _ hk=>⟨hk.1.1.1.1.2,⟨hk.1.1.2,hk.2⟩⟩)⟩,⟨by (with_reducible repeat first|apply blk_drewN|apply blk_drew|apply blk_alloc);exact BK361.out⟩,⟨by repeat (first|(with_reducible first|exact HB.out|apply below_alloc|apply pw_below_drewN|apply below_drew1|refine below_set ?_ GE361.out)|exact HB.out)⟩⟩
             case rest =>
              clear HC89
              try clear c1;try clear c2;try clear p2;try clear c3;try clear c4;try clear c4b0;try clear c5;try clear c6;try clear c7;try clear c8;try clear c9;try clear c9b0;try clear c10;try clear c12;try clear c15;try clear c16;try clear c19;try clear c21;try clear c23;try clear c26;try clear c27;try clear c28;try clear c29;try clear c35;try clear c42;try clear c49;try clear c52;try clear c55;try clear c66;try clear c70;try clear c70b0;try clear c72;try clear c79;try clear c82;try clear c82b0;try clear c85;try clear c85b0;try clear c85b1;try clear c99;try clear hcz11_0;try clear hcz11_1;try clear hcz11_2;try clear hcz11_3;try clear hcz22_0;try clear hcz22_1;try clear hcz22_2;try clear hcz22_3;try clear hcz25_0;try clear hcz25_1;try clear hcz25_2;try clear hcz25_3;try clear hcz31_0;try clear hcz31_1;try clear hcz31_2;try clear hcz31_3;try clear hcz36_0;try clear hcz36_1;try clear hcz36_2;try clear hcz36_3;try clear hcz38_0;try clear hcz38_1;try clear hcz38_2;try clear hcz38_3;try clear hcz67_0;try clear hcz67_1;try clear hcz67_2;try clear hcz67_3;try clear hcz6_0;try clear hcz6_1;try clear hcz6_2;try clear hcz6_3;try clear hcz92_0;try clear hcz92_1;try clear hcz92_2;try clear hcz92_3;try clear hfz11_0;try clear hfz11_1;try clear hfz11_2;try clear hfz11_3;try clear hfz22_0;try clear hfz22_1;try clear hfz22_2;try clear hfz22_3;try clear hfz25_0;try clear hfz25_1;try clear hfz25_2;try clear hfz25_3;try clear hfz31_0;try clear hfz31_1;try clear hfz31_2;try clear hfz31_3;try clear hfz36_0;try clear hfz36_1;try clear hfz36_2;try clear hfz36_3;try clear hfz38_0;try clear hfz38_1;try clear hfz38_2;try clear hfz38_3;try clear hfz67_0;try clear hfz67_1;try clear hfz67_2;try clear hfz67_3;try clear hfz6_0;try clear hfz6_1;try clear hfz6_2;try clear hfz6_3;try clear hfz92_0;try clear hfz92_1;try clear hfz92_2;try clear hfz92_3;try clear p2
              obtain ⟨kq,x110_88,rfl,HA,HJ88,HO_10,BK361,HB⟩:=hcut
              have hl10_88:=(Kd.S_reads' HO_10.out).1
              rw [hl10_88] at HO_10
              (try simp only [hl10_88])
              (try simp only [hl10_88] at BK361)
              cases kq with
              | zero=>exact absurd HA.out (by simp [laws_FnExactPlanOf.j2])
              | succ kj88 =>
               have H:=HA.out
               clear HA
               simp only [laws_FnExactPlanOf.j2] at H
               by_cases c106 : x110_88 = true
               ·subst c106
                have H1 : (some false) = some r:=by rw [if_pos rfl] at H;exact H
                clear H
                have H:=H1
                clear H1
                obtain rfl:=Option.some.inj H
                go_wp2
                go_ret
                exact ⟨by first|rfl|(simp [*,errW_none,errW_some] <;> rfl),by repeat (first|(with_reducible first|exact HB.out|apply below_alloc|apply pw_below_drewN|apply below_drew1|refine below_set ?_ GE361.out)|exact HB.out)⟩
               ·replace c106:=Bool.eq_false_iff.mpr c106
                subst c106
                have H1 : ((laws_heldWriteS.f kj88 t409 1).bind fun t425=>(if t425 < 0 then (some false) else (if t425 = t408 then (some true) else (some false)))) = some r:=by rw [if_neg (show ¬ (false = true) by decide)] at H;exact H
                clear H
                have H:=H1
                clear H1
                replace H:=Option.bind_eq_some_iff.mp H
                obtain ⟨t425,A1070,H⟩:=H
                replace H : (if t425 < 0 then (some false) else (if t425 = t408 then (some true) else (some false))) = some r:=H
                have A107:=Aside0.mk A1070
                clear A1070
                by_cases c108 : t425 < 0
                ·rw [if_pos c108] at H
                 have c108b0 : decide (t425 < 0) = true:=decide_eq_true c108
                 clear c108
                 obtain rfl:=Option.some.inj H
                 go_wp2_with (first|((with_reducible refine gate_callee (f:=29) rfl ?_);refine goesL_ (some 113) rfl rfl Try.func29 (by kernel_rfl) rfl #[.slice Ao90 t409.length co90,.int .i64 1] rfl (by (try simp only [List.map_toArray,List.map_cons,List.map_nil]);first|done|rfl|(simp only [List.length_drop,List.length_take];rfl)) ?_;(with_reducible refine (laws_heldWriteS.calls kj88 _ _ t409 1 t425 _ ?side1 ?side2 A107.out).mono ?_);(case side1=>repeat (first|exact (Kd.S_reads' HO_10.out).2.2|(with_reducible first|apply Kd.C_alloc|apply Kd.C_drewN|apply Kd.C_drew)));(case side2=>exact (Kd.S_reads' HO_10.out).2.1);rintro e w' ⟨rfl,⟨nd,rfl⟩⟩;refine ⟨_,rfl,?_⟩))
                 go_ret
                 exact ⟨by first|rfl|(simp [*,errW_none,errW_some] <;> rfl),by repeat (first|(with_reducible first|exact HB.out|apply below_alloc|apply pw_below_drewN|apply below_drew1|refine below_set ?_ GE361.out)|exact HB.out)⟩
                ·rw [if_neg c108] at H
                 have c108b0 : decide (t425 < 0) = false:=decide_eq_false c108
                 clear c108
                 by_cases c109 : t425 = t408
                 ·rw [if_pos c109] at H
                  have c109b0 : (t425 == t408) = true:=beq_iff_eq.mpr c109
                  have c109b1 : (t425 != t408) = false:=bne_eq_false_iff_eq.mpr c109
                  clear c109
                  obtain rfl:=Option.some.inj H
                  go_wp2_with (first|((with_reducible refine gate_callee (f:=29) rfl ?_);refine goesL_ (some 113) rfl rfl Try.func29 (by kernel_rfl) rfl #[.slice Ao90 t409.length co90,.int .i64 1] rfl (by (try simp only [List.map_toArray,List.map_cons,List.map_nil]);first|done|rfl|(simp only [List.length_drop,List.length_take];rfl)) ?_;(with_reducible refine (laws_heldWriteS.calls kj88 _ _ t409 1 t425 _ ?side1 ?side2 A107.out).mono ?_);(case side1=>repeat (first|exact (Kd.S_reads' HO_10.out).2.2|(with_reducible first|apply Kd.C_alloc|apply Kd.C_drewN|apply Kd.C_drew)));(case side2=>exact (Kd.S_reads' HO_10.out).2.1);rintro e w' ⟨rfl,⟨nd,rfl⟩⟩;refine ⟨_,rfl,?_⟩))
                  go_ret
                  exact ⟨by first|rfl|(simp [*,errW_none,errW_some] <;> rfl),by repeat (first|(with_reducible first|exact HB.out|apply below_alloc|apply pw_below_drewN|apply below_drew1|refine below_set ?_ GE361.out)|exact HB.out)⟩
                 ·rw [if_neg c109] at H
                  have c109b0 : (t425 == t408) = false:=beq_eq_false_iff_ne.mpr c109
                  have c109b1 : (t425 != t408) = true:=bne_iff_ne.mpr c109
                  obtain rfl:=Option.some.inj H
                  go_wp2_with (first|((with_reducible refine gate_callee (f:=29) rfl ?_);refine goesL_ (some 113) rfl rfl Try.func29 (by kernel_rfl) rfl #[.slice Ao90 t409.length co90,.int .i64 1] rfl (by (try simp only [List.map_toArray,List.map_cons,List.map_nil]);first|done|rfl|(simp only [List.length_drop,List.length_take];rfl)) ?_;(with_reducible refine (laws_heldWriteS.calls kj88 _ _ t409 1 t425 _ ?side1 ?side2 A107.out).mono ?_);(case side1=>repeat (first|exact (Kd.S_reads' HO_10.out).2.2|(with_reducible first|apply Kd.C_alloc|apply Kd.C_drewN|apply Kd.C_drew)));(case side2=>exact (Kd.S_reads' HO_10.out).2.1);rintro e w' ⟨rfl,⟨nd,rfl⟩⟩;refine ⟨_,rfl,?_⟩))
                  go_ret
                  exact ⟨by first|rfl|(simp [*,errW_none,errW_some] <;> rfl),by repeat (first|(with_reducible first|exact HB.out|apply below_alloc|apply pw_below_drewN|apply below_drew1|refine below_set ?_ GE361.out)|exact HB.out)⟩
            ·rw [if_neg c85] at H
             have c85b0 : (t410 == t408) = false:=beq_eq_false_iff_ne.mpr c85
             have c85b1 : (t410 != t408) = true:=bne_iff_ne.mpr c85
             obtain rfl:=Option.some.inj H
             obtain ⟨Ao110,co110,eo110⟩:=Kd.S_slice HO_10.out
             subst eo110
             go_wp2_with (first|((with_reducible refine gate_callee (f:=16) rfl ?_);refine goesL_ (some 85) rfl rfl Try.func16 (by kernel_rfl) rfl #[.slice Ao110 t387.length co110,.int .i64 1] rfl (by (try simp only [List.map_toArray,List.map_cons,List.map_nil]);first|done|rfl|(simp only [List.length_drop,List.length_take];rfl)) ?_;(with_reducible refine (laws_markWriteS.calls kj57 (SB_ k59 59 wc w.heap.size (fun k_=>(some k_ ≠ (v374 : Value).ownBlock∧(w37.heap.size ≤ k_∧(k_ < w59.heap.size∧k_ < w62.heap.size))))) (.slice Ao110 t387.length co110) t387 1 t408 t409 w _ ?side1 ?side2 A80.out).mono ?_);(case side1=>repeat (first|(with_reducible first|exact HB.out|apply below_alloc|apply pw_below_drewN|apply below_drew1|refine below_set ?_ GE361.out)|exact HB.out));(case side2=>exact SB_own HO_10.out);rintro e w111 ⟨rfl,hy0,hb,hkp⟩;refine ⟨_,rfl,?_⟩;have n0_:=Aside0.mk (Kd.S_mono (ok':=fun k_=>some k_ ≠ (v374 : Value).ownBlock) hy0 (fun k_ h_=>Or.elim h_ (fun p_=>p_.1.1) (fun n_=>(Kd.fresh' (Kd.S_lt (by (with_reducible repeat (first|apply Kd.S_alloc|apply Kd.S_drewN|apply Kd.S_drew));exact HO_6.out)) k_ n_))));have n1_:=Aside0.mk (blk_kept (g:=gb361) (o:=.cells #[.slice A0_0 l0_0.length c0_0,.int .i64 a0_1,.bool a0_2,.int .i64 a0_3] 36 (0,0)) (by (with_reducible repeat first|apply blk_drewN|apply blk_drew|apply blk_alloc);exact BK361.out) hkp (fun hs_=>(fun e_=>(blk_SB BK361.out (by decide)) e_) hs_));have n2_:=Aside0.mk (hb);clear HO_10;clear BK361;clear HB;clear HO_6;have HO_10:=n0_;have BK361:=n1_;have HB:=n2_;clear n0_ n1_ n2_;(try clear hb);(try clear hkp);(try clear hbx);(try clear hy0))|((with_reducible refine gate_callee (f:=29) rfl ?_);refine goesL_ (some 88) rfl rfl Try.func29 (by kernel_rfl) rfl #[.slice Ao110 t409.length co110,.int .i64 1] rfl (by (try simp only [List.map_toArray,List.map_cons,List.map_nil]);first|done|(rw [show t409.length = t387.length from (Kd.S_reads' HO_10.out).1.symm] <;> rfl)|rfl|(simp only [List.length_drop,List.length_take];rfl)) ?_;(with_reducible refine (laws_heldWriteS.calls kj57 _ _ t409 1 t410 _ ?side1 ?side2 A81.out).mono ?_);(case side1=>repeat (first|exact (Kd.S_reads' HO_10.out).2.2|(with_reducible first|apply Kd.C_alloc|apply Kd.C_drewN|apply Kd.C_drew)));(case side2=>rw [show t409.length = t387.length from (Kd.S_reads' HO_10.out).1.symm];exact (Kd.S_reads' HO_10.out).2.1);rintro e w' ⟨rfl,⟨nd,rfl⟩⟩;refine ⟨_,rfl,?_⟩))
             go_ret
             exact ⟨by first|rfl|(simp [*,errW_none,errW_some] <;> rfl),by repeat (first|(with_reducible first|exact HB.out|apply below_alloc|apply pw_below_drewN|apply below_drew1|refine below_set ?_ GE361.out)|exact HB.out)⟩
       ·replace c55:=Bool.eq_false_iff.mpr c55
        subst c55
        have H1 : (some false) = some r:=by rw [if_neg (show ¬ (false = true) by decide)] at H;exact H
        clear H
        have H:=H1
        clear H1
        obtain rfl:=Option.some.inj H
        try go_wp2
        have n0_:=Aside0.mk (Kd.S_drew HO_9.out)
        have n1_:=Aside0.mk (Kd.S_drew HO_384000.out)
        have n2_:=Aside0.mk (blk_drew BK361.out)
        have n3_:=Aside0.mk (blk_drew BK383.out)
        have n4_:=Aside0.mk (below_drew1 HB.out)
        clear HO_9
        clear HO_384000
        clear BK361
        clear BK383
        clear HB
        clear HO_6
        clear HO_10
        have HO_9:=n0_
        have HO_384000:=n1_
        have BK361:=n2_
        have BK383:=n3_
        have HB:=n4_
        clear n0_ n1_ n2_ n3_ n4_
        refine start_ (n:=5) (S:=fun w'=>w'.cell? ⟨gb383,0,none⟩ = some (.slice Ao34 t377.length co34)∧w'.cell? ⟨gb383,1,none⟩ = some (.int .i64 t380)∧w'.cell? ⟨gb383,2,none⟩ = some (.bool t381)∧w'.cell? ⟨gb383,3,none⟩ = some (.int .i64 t382)∧w'.cell? ⟨gb361,0,none⟩ = some (.slice A0_0 l0_0.length c0_0)∧w'.cell? ⟨gb361,1,none⟩ = some (.int .i64 a0_1)∧w'.cell? ⟨gb361,2,none⟩ = some (.bool a0_2)∧w'.cell? ⟨gb361,3,none⟩ = some (.int .i64 a0_3)) (ds:=[]) #[false,false,false,false,false] (by kernel_rfl) rfl rfl ⟨(blk_cell BK383.out 0).trans rfl,(blk_cell BK383.out 1).trans rfl,(blk_cell BK383.out 2).trans rfl,(blk_cell BK383.out 3).trans rfl,(blk_cell BK361.out 0).trans rfl,(blk_cell BK361.out 1).trans rfl,(blk_cell BK361.out 2).trans rfl,(blk_cell BK361.out 3).trans rfl⟩ (fun hHeld=>?_)
        generalize wc.drew = w112 at HO_9 HO_384000 BK361 BK383 HB hHeld ⊢
        refine take_ (i:=0) (N:=some 54) (v:=?_) (a':=?_) #[true,false,false,false,false] rfl rfl (by kernel_rfl) (fun _ _ _ h=>h) (Or.inl ⟨by rfl,?_⟩) hHeld ?_ ?_
        rotate_left
        ·rintro w' ⟨s0,s1,s2,s3,s4,s5,s6,s7⟩
         go_simp
         with_reducible rfl
        rotate_left
        ·simp only [Act.put,List.setIfInBounds_toArray,List.set_cons_zero,List.set_cons_succ,i64_w,i32_w]
         rfl
        refine take_ (i:=1) (N:=some 55) (v:=?_) (a':=?_) #[true,true,false,false,false] rfl rfl (by kernel_rfl) (fun _ _ _ h=>h) (Or.inl ⟨by rfl,?_⟩) hHeld ?_ ?_
        rotate_left
        ·rintro w' ⟨s0,s1,s2,s3,s4,s5,s6,s7⟩
         go_simp
         with_reducible rfl
        rotate_left
        ·simp only [Act.put,List.setIfInBounds_toArray,List.set_cons_zero,List.set_cons_succ,i64_w,i32_w]
         rfl
        refine one_ (i:=2) (N:=some 56) #[true,true,true,false,false] rfl rfl (by kernel_rfl) (by decide) (fun K hK=>?_)
        refine goes_ Try.func21 (by kernel_rfl) rfl #[.agg #[.slice A0_0 l0_0.length c0_0,.int .i64 a0_1,.bool a0_2,.int .i64 a0_3]] (by rfl) rfl rfl (by (try simp only [List.map_toArray,List.map_cons,List.map_nil]);first|done|rfl|(simp only [List.length_drop,List.length_take];rfl)) ?_
        with_reducible refine (laws_toDisk.calls kj19 _ _ l0_0 a0_1 a0_2 a0_3 t392 t395 t396 t397 _ ?side1 ?side2 A50.out).mono ?_
        (case side1=>repeat (first|exact (Kd.C_below HR0_0.out HB.out)|(with_reducible first|apply Kd.C_alloc|apply Kd.C_drewN|apply Kd.C_drew)))
        (case side2=>exact HC0_0.out)
        rintro e w113 ⟨v393,rfl,ho0,hb⟩
        refine ⟨_,rfl,?_⟩
        have n0_:=Aside0.mk (Kd.S_old (by (with_reducible repeat (first|apply Kd.S_alloc|apply Kd.S_drewN|apply Kd.S_drew));exact HO_9.out) hb)
        have n1_:=Aside0.mk (Kd.S_told (Kd.S_old (by (with_reducible repeat (first|apply Kd.S_alloc|apply Kd.S_drewN|apply Kd.S_drew));exact HO_384000.out) hb) (Kd.S_base ho0))
        have n2_:=Aside0.mk (Kd.S_lower (Kd.S_new' (Kd.S_mono (Kd.S_bound ho0) (fun k_ h_=>(⟨h_.1,(by first|exact h_.2.1|simpa only [World.size_setCell] using h_.2.1)⟩ : _∧w112.heap.size ≤ k_))) (Kd.S_lt (by (with_reducible repeat (first|apply Kd.S_alloc|apply Kd.S_drewN|apply Kd.S_drew));exact HO_384000.out))) (below_size (by repeat (first|(with_reducible first|exact HB.out|apply below_alloc|apply pw_below_drewN|apply below_drew1|refine below_set ?_ GE361.out|refine below_set ?_ GE383.out)|exact HB.out))))
        have n3_:=Aside0.mk (blk_below (g:=gb361) (o:=.cells #[.slice A0_0 l0_0.length c0_0,.int .i64 a0_1,.bool a0_2,.int .i64 a0_3] 36 (0,0)) (by (with_reducible repeat first|apply blk_drewN|apply blk_drew|apply blk_alloc);exact BK361.out) hb)
        have n4_:=Aside0.mk (blk_below (g:=gb383) (o:=.cells #[.slice Ao34 t377.length co34,.int .i64 t380,.bool t381,.int .i64 t382] 39 (0,0)) (by (with_reducible repeat first|apply blk_drewN|apply blk_drew|apply blk_alloc);exact BK383.out) hb)
        have n5_:=Aside0.mk (below_step (by repeat (first|(with_reducible first|exact HB.out|apply below_alloc|apply pw_below_drewN|apply below_drew1|refine below_set ?_ GE361.out|refine below_set ?_ GE383.out)|exact HB.out)) hb)
        clear HO_9
        clear HO_384000
        clear BK361
        clear BK383
        clear HB
        have HO_9:=n0_
        have HO_384000:=n1_
        have HO394:=n2_
        have BK361:=n3_
        have BK383:=n4_
        have HB:=n5_
        clear n0_ n1_ n2_ n3_ n4_ n5_
        (try clear hb)
        (try clear hb2)
        (try clear hk)
        (try clear hi)
        (try clear ho0)
        obtain ⟨Ao114,co114,eo114⟩:=Kd.S_slice HO394.out
        (first|subst eo114|(injection eo114 with f1_ f2_ f3_;have f4_:=f1_.symm;have f5_:=f3_.symm;clear f1_ f2_ f3_;subst f4_;subst f5_))
        refine hK.out _ _ ⟨(blk_cell BK383.out 0).trans rfl,(blk_cell BK383.out 1).trans rfl,(blk_cell BK383.out 2).trans rfl,(blk_cell BK383.out 3).trans rfl,(blk_cell BK361.out 0).trans rfl,(blk_cell BK361.out 1).trans rfl,(blk_cell BK361.out 2).trans rfl,(blk_cell BK361.out 3).trans rfl⟩ (fun hHeld=>?_)
        clear hK K
        refine norm_ (a':=?_) ?_ ?_
        rotate_left
        ·show Act.put _ (some 56) _ = _
         simp only [Act.put,List.setIfInBounds_toArray,List.set_cons_zero,List.set_cons_succ,i64_w,i32_w]
         rfl
        refine one_ (i:=3) (N:=some 57) #[true,true,true,true,false] rfl rfl (by kernel_rfl) (by decide) (fun K hK=>?_)
        refine goes_ Try.func23 (by kernel_rfl) rfl #[.agg #[.slice Ao34 t377.length co34,.int .i64 t380,.bool t381,.int .i64 t382],.agg #[.slice Ao114 t392.length co114,.int .i64 t395,.bool t396,.int .i64 t397]] (by rfl) rfl rfl (by (try simp only [List.map_toArray,List.map_cons,List.map_nil]);first|done|rfl|(simp only [List.length_drop,List.length_take];rfl)) ?_
        with_reducible refine (laws_eqDisk.calls kj19 _ _ t377 t380 t381 t382 _ _ t392 t395 t396 t397 true _ ?side1 ?side2 ?side3 ?side4 A51.out).mono ?_
        (case side1=>repeat (first|exact (Kd.S_reads' HO_384000.out).2.2|(with_reducible first|apply Kd.C_alloc|apply Kd.C_drewN|apply Kd.C_drew)))
        (case side2=>exact (Kd.S_reads' HO_384000.out).2.1)
        (case side3=>repeat (first|exact (Kd.S_reads' HO394.out).2.2|(with_reducible first|apply Kd.C_alloc|apply Kd.C_drewN|apply Kd.C_drew)))
        (case side4=>exact (Kd.S_reads' HO394.out).2.1)
        rintro e w115 ⟨rfl,hb⟩
        refine ⟨_,rfl,?_⟩
        have n0_:=Aside0.mk (Kd.S_below (by (with_reducible repeat (first|apply Kd.S_alloc|apply Kd.S_drewN|apply Kd.S_drew));exact HO_9.out) hb)
        have n1_:=Aside0.mk (Kd.S_below (by (with_reducible repeat (first|apply Kd.S_alloc|apply Kd.S_drewN|apply Kd.S_drew));exact HO_384000.out) hb)
        have n2_:=Aside0.mk (Kd.S_below (by (with_reducible repeat (first|apply Kd.S_alloc|apply Kd.S_drewN|apply Kd.S_drew));exact HO394.out) hb)
        have n3_:=Aside0.mk (blk_below (g:=gb361) (o:=.cells #[.slice A0_0 l0_0.length c0_0,.int .i64 a0_1,.bool a0_2,.int .i64 a0_3] 36 (0,0)) (by (with_reducible repeat first|apply blk_drewN|apply blk_drew|apply blk_alloc);exact BK361.out) hb)
        have n4_:=Aside0.mk (blk_below (g:=gb383) (o:=.cells #[.slice Ao34 t377.length co34,.int .i64 t380,.bool t381,.int .i64 t382] 39 (0,0)) (by (with_reducible repeat first|apply blk_drewN|apply blk_drew|apply blk_alloc);exact BK383.out) hb)
        have n5_:=Aside0.mk (below_step (by repeat (first|(with_reducible first|exact HB.out|apply below_alloc|apply pw_below_drewN|apply below_drew1|refine below_set ?_ GE361.out|refine below_set ?_ GE383.out)|exact HB.out)) hb)
        clear HO_9
        clear HO_384000
        clear HO394
        clear BK361
        clear BK383
        clear HB
        have HO_9:=n0_
        have HO_384000:=n1_
        have HO394:=n2_
        have BK361:=n3_
        have BK383:=n4_
        have HB:=n5_
        clear n0_ n1_ n2_ n3_ n4_ n5_
        (try clear hb)
        (try clear hb2)
        (try clear hk)
        (try clear hi)
        refine hK.out _ _ ⟨(blk_cell BK383.out 0).trans rfl,(blk_cell BK383.out 1).trans rfl,(blk_cell BK383.out 2).trans rfl,(blk_cell BK383.out 3).trans rfl,(blk_cell BK361.out 0).trans rfl,(blk_cell BK361.out 1).trans rfl,(blk_cell BK361.out 2).trans rfl,(blk_cell BK361.out 3).trans rfl⟩ (fun hHeld=>?_)
        clear hK K
        refine norm_ (a':=?_) ?_ ?_
        rotate_left
        ·show Act.put _ (some 57) _ = _
         simp only [Act.put,List.setIfInBounds_toArray,List.set_cons_zero,List.set_cons_succ,i64_w,i32_w]
         rfl
        refine pure_ (i:=4) (N:=some 58) (v:=?_) (a':=?_) #[true,true,true,true,true] rfl rfl (by kernel_rfl) (fun _ _ _ h=>h) (Or.inl ⟨by rfl,?_⟩) ?_ ?_
        rotate_left
        ·intro w'
         go_simp
         with_reducible rfl
        rotate_left
        ·simp only [Act.put,List.setIfInBounds_toArray,List.set_cons_zero,List.set_cons_succ,i64_w,i32_w]
         rfl
        refine done_ (by kernel_rfl) ?_
        try go_wp2_with (first|((with_reducible refine gate_callee (f:=12) rfl ?_);refine goesL_ (some 61) rfl rfl Try.func12 (by kernel_rfl) rfl #[.slice A1 l1.length c1] rfl (by (try simp only [List.map_toArray,List.map_cons,List.map_nil]);first|done|rfl|(simp only [List.length_drop,List.length_take];rfl)) ?_;(with_reducible refine (laws_toWriteS.calls kj19 _ _ l1 t399 _ ?side1 ?side2 A53.out).mono ?_);(case side1=>repeat (first|exact (Kd.C_below HR1.out HB.out)|(with_reducible first|apply Kd.C_alloc|apply Kd.C_drewN|apply Kd.C_drew)));(case side2=>exact HC1.out);rintro e w116 ⟨v400,rfl,ho0,hb⟩;refine ⟨_,rfl,?_⟩;have n0_:=Aside0.mk (Kd.S_told (Kd.S_old (by (with_reducible repeat (first|apply Kd.S_alloc|apply Kd.S_drewN|apply Kd.S_drew));exact HO_9.out) hb) (Kd.S_base ho0));have n1_:=Aside0.mk (Kd.S_lower (Kd.S_new' (Kd.S_mono (Kd.S_bound ho0) (fun k_ h_=>(⟨h_.1,(by first|exact h_.2.1|simpa only [World.size_setCell] using h_.2.1)⟩ : _∧w115.heap.size ≤ k_))) (Kd.S_lt (by (with_reducible repeat (first|apply Kd.S_alloc|apply Kd.S_drewN|apply Kd.S_drew));exact HO_9.out))) (below_size (by repeat (first|(with_reducible first|exact HB.out|apply below_alloc|apply pw_below_drewN|apply below_drew1|refine below_set ?_ GE361.out|refine below_set ?_ GE383.out)|exact HB.out))));have n2_:=Aside0.mk (blk_below (g:=gb361) (o:=.cells #[.slice A0_0 l0_0.length c0_0,.int .i64 a0_1,.bool a0_2,.int .i64 a0_3] 36 (0,0)) (by (with_reducible repeat first|apply blk_drewN|apply blk_drew|apply blk_alloc);exact BK361.out) hb);have n3_:=Aside0.mk (blk_below (g:=gb383) (o:=.cells #[.slice Ao34 t377.length co34,.int .i64 t380,.bool t381,.int .i64 t382] 39 (0,0)) (by (with_reducible repeat first|apply blk_drewN|apply blk_drew|apply blk_alloc);exact BK383.out) hb);have n4_:=Aside0.mk (below_step (by repeat (first|(with_reducible first|exact HB.out|apply below_alloc|apply pw_below_drewN|apply below_drew1|refine below_set ?_ GE361.out|refine below_set ?_ GE383.out)|exact HB.out)) hb);clear HO_9;clear BK361;clear BK383;clear HB;clear HO_384000;clear HO394;have HO_9:=n0_;have HO401:=n1_;have BK361:=n2_;have BK383:=n3_;have HB:=n4_;clear n0_ n1_ n2_ n3_ n4_;(try clear hb);(try clear hb2);(try clear hk);(try clear hi);(try clear ho0);obtain ⟨Ao117,co117,eo117⟩:=Kd.S_slice HO401.out;subst eo117)|((with_reducible refine gate_callee (f:=15) rfl ?_);refine goesL_ (some 62) rfl rfl Try.func15 (by kernel_rfl) rfl #[.slice Ao39 t384.length co39,.slice Ao117 t399.length co117] rfl (by (try simp only [List.map_toArray,List.map_cons,List.map_nil]);first|done|rfl|(simp only [List.length_drop,List.length_take];rfl)) ?_;(with_reducible refine (laws_eqWriteS.calls kj19 _ _ t384 _ _ t399 false _ ?side1 ?side2 ?side3 ?side4 A54.out).mono ?_);(case side1=>repeat (first|exact (Kd.S_reads' HO_9.out).2.2|(with_reducible first|apply Kd.C_alloc|apply Kd.C_drewN|apply Kd.C_drew)));(case side2=>exact (Kd.S_reads' HO_9.out).2.1);(case side3=>repeat (first|exact (Kd.S_reads' HO401.out).2.2|(with_reducible first|apply Kd.C_alloc|apply Kd.C_drewN|apply Kd.C_drew)));(case side4=>exact (Kd.S_reads' HO401.out).2.1);rintro e w118 ⟨rfl,hb⟩;refine ⟨_,rfl,?_⟩;have n0_:=Aside0.mk (Kd.S_below (by (with_reducible repeat (first|apply Kd.S_alloc|apply Kd.S_drewN|apply Kd.S_drew));exact HO_9.out) hb);have n1_:=Aside0.mk (Kd.S_below (by (with_reducible repeat (first|apply Kd.S_alloc|apply Kd.S_drewN|apply Kd.S_drew));exact HO401.out) hb);have n2_:=Aside0.mk (blk_below (g:=gb361) (o:=.cells #[.slice A0_0 l0_0.length c0_0,.int .i64 a0_1,.bool a0_2,.int .i64 a0_3] 36 (0,0)) (by (with_reducible repeat first|apply blk_drewN|apply blk_drew|apply blk_alloc);exact BK361.out) hb);have n3_:=Aside0.mk (blk_below (g:=gb383) (o:=.cells #[.slice Ao34 t377.length co34,.int .i64 t380,.bool t381,.int .i64 t382] 39 (0,0)) (by (with_reducible repeat first|apply blk_drewN|apply blk_drew|apply blk_alloc);exact BK383.out) hb);have n4_:=Aside0.mk (below_step (by repeat (first|(with_reducible first|exact HB.out|apply below_alloc|apply pw_below_drewN|apply below_drew1|refine below_set ?_ GE361.out|refine below_set ?_ GE383.out)|exact HB.out)) hb);clear HO_9;clear HO401;clear BK361;clear BK383;clear HB;have HO_9:=n0_;have HO401:=n1_;have BK361:=n2_;have BK383:=n3_;have HB:=n4_;clear n0_ n1_ n2_ n3_ n4_;(try clear hb);(try clear hb2);(try clear hk);(try clear hi)))
        go_ret
        exact ⟨by first|rfl|(simp [*,errW_none,errW_some] <;> rfl),by repeat (first|(with_reducible first|exact HB.out|apply below_alloc|apply pw_below_drewN|apply below_drew1|refine below_set ?_ GE361.out|refine below_set ?_ GE383.out)|exact HB.out)⟩
      ·replace c52:=Bool.eq_false_iff.mpr c52
       subst c52
       have H1 : (some false) = some r:=by rw [if_neg (show ¬ (false = true) by decide)] at H;exact H
       clear H
       have H:=H1
       clear H1
       obtain rfl:=Option.some.inj H
       try go_wp2
       have n0_:=Aside0.mk (Kd.S_drew HO_384000.out)
       have n1_:=Aside0.mk (blk_drew BK361.out)
       have n2_:=Aside0.mk (blk_drew BK383.out)
       have n3_:=Aside0.mk (below_drew1 HB.out)
       clear HO_384000
       clear BK361
       clear BK383
       clear HB
       clear HO_6
       clear HO_9
       clear HO_10
       have HO_384000:=n0_
       have BK361:=n1_
       have BK383:=n2_
       have HB:=n3_
       clear n0_ n1_ n2_ n3_
       refine start_ (n:=5) (S:=fun w'=>w'.cell? ⟨gb383,0,none⟩ = some (.slice Ao34 t377.length co34)∧w'.cell? ⟨gb383,1,none⟩ = some (.int .i64 t380)∧w'.cell? ⟨gb383,2,none⟩ = some (.bool t381)∧w'.cell? ⟨gb383,3,none⟩ = some (.int .i64 t382)∧w'.cell? ⟨gb361,0,none⟩ = some (.slice A0_0 l0_0.length c0_0)∧w'.cell? ⟨gb361,1,none⟩ = some (.int .i64 a0_1)∧w'.cell? ⟨gb361,2,none⟩ = some (.bool a0_2)∧w'.cell? ⟨gb361,3,none⟩ = some (.int .i64 a0_3)) (ds:=[]) #[false,false,false,false,false] (by kernel_rfl) rfl rfl ⟨(blk_cell BK383.out 0).trans rfl,(blk_cell BK383.out 1).trans rfl,(blk_cell BK383.out 2).trans rfl,(blk_cell BK383.out 3).trans rfl,(blk_cell BK361.out 0).trans rfl,(blk_cell BK361.out 1).trans rfl,(blk_cell BK361.out 2).trans rfl,(blk_cell BK361.out 3).trans rfl⟩ (fun hHeld=>?_)
       generalize wc.drew = w119 at HO_384000 BK361 BK383 HB hHeld ⊢
       refine take_ (i:=0) (N:=some 54) (v:=?_) (a':=?_) #[true,false,false,false,false] rfl rfl (by kernel_rfl) (fun _ _ _ h=>h) (Or.inl ⟨by rfl,?_⟩) hHeld ?_ ?_
       rotate_left
       ·rintro w' ⟨s0,s1,s2,s3,s4,s5,s6,s7⟩
        go_simp
        with_reducible rfl
       rotate_left
       ·simp only [Act.put,List.setIfInBounds_toArray,List.set_cons_zero,List.set_cons_succ,i64_w,i32_w]
        rfl
       refine take_ (i:=1) (N:=some 55) (v:=?_) (a':=?_) #[true,true,false,false,false] rfl rfl (by kernel_rfl) (fun _ _ _ h=>h) (Or.inl ⟨by rfl,?_⟩) hHeld ?_ ?_
       rotate_left
       ·rintro w' ⟨s0,s1,s2,s3,s4,s5,s6,s7⟩
        go_simp
        with_reducible rfl
       rotate_left
       ·simp only [Act.put,List.setIfInBounds_toArray,List.set_cons_zero,List.set_cons_succ,i64_w,i32_w]
        rfl
       refine one_ (i:=2) (N:=some 56) #[true,true,true,false,false] rfl rfl (by kernel_rfl) (by decide) (fun K hK=>?_)
       refine goes_ Try.func21 (by kernel_rfl) rfl #[.agg #[.slice A0_0 l0_0.length c0_0,.int .i64 a0_1,.bool a0_2,.int .i64 a0_3]] (by rfl) rfl rfl (by (try simp only [List.map_toArray,List.map_cons,List.map_nil]);first|done|rfl|(simp only [List.length_drop,List.length_take];rfl)) ?_
       with_reducible refine (laws_toDisk.calls kj19 _ _ l0_0 a0_1 a0_2 a0_3 t392 t395 t396 t397 _ ?side1 ?side2 A50.out).mono ?_
       (case side1=>repeat (first|exact (Kd.C_below HR0_0.out HB.out)|(with_reducible first|apply Kd.C_alloc|apply Kd.C_drewN|apply Kd.C_drew)))
       (case side2=>exact HC0_0.out)
       rintro e w120 ⟨v393,rfl,ho0,hb⟩
       refine ⟨_,rfl,?_⟩
       have n0_:=Aside0.mk (Kd.S_told (Kd.S_old (by (with_reducible repeat (first|apply Kd.S_alloc|apply Kd.S_drewN|apply Kd.S_drew));exact HO_384000.out) hb) (Kd.S_base ho0))
       have n1_:=Aside0.mk (Kd.S_lower (Kd.S_new' (Kd.S_mono (Kd.S_bound ho0) (fun k_ h_=>(⟨h_.1,(by first|exact h_.2.1|simpa only [World.size_setCell] using h_.2.1)⟩ : _∧w119.heap.size ≤ k_))) (Kd.S_lt (by (with_reducible repeat (first|apply Kd.S_alloc|apply Kd.S_drewN|apply Kd.S_drew));exact HO_384000.out))) (below_size (by repeat (first|(with_reducible first|exact HB.out|apply below_alloc|apply pw_below_drewN|apply below_drew1|refine below_set ?_ GE361.out|refine below_set ?_ GE383.out)|exact HB.out))))
       have n2_:=Aside0.mk (blk_below (g:=gb361) (o:=.cells #[.slice A0_0 l0_0.length c0_0,.int .i64 a0_1,.bool a0_2,.int .i64 a0_3] 36 (0,0)) (by (with_reducible repeat first|apply blk_drewN|apply blk_drew|apply blk_alloc);exact BK361.out) hb)
       have n3_:=Aside0.mk (blk_below (g:=gb383) (o:=.cells #[.slice Ao34 t377.length co34,.int .i64 t380,.bool t381,.int .i64 t382] 39 (0,0)) (by (with_reducible repeat first|apply blk_drewN|apply blk_drew|apply blk_alloc);exact BK383.out) hb)
       have n4_:=Aside0.mk (below_step (by repeat (first|(with_reducible first|exact HB.out|apply below_alloc|apply pw_below_drewN|apply below_drew1|refine below_set ?_ GE361.out|refine below_set ?_ GE383.out)|exact HB.out)) hb)
       clear HO_384000
       clear BK361
       clear BK383
       clear HB
       have HO_384000:=n0_
       have HO394:=n1_
       have BK361:=n2_
       have BK383:=n3_
       have HB:=n4_
       clear n0_ n1_ n2_ n3_ n4_
       (try clear hb)
       (try clear hb2)
       (try clear hk)
       (try clear hi)
       (try clear ho0)
       obtain ⟨Ao121,co121,eo121⟩:=Kd.S_slice HO394.out
       (first|subst eo121|(injection eo121 with f1_ f2_ f3_;have f4_:=f1_.symm;have f5_:=f3_.symm;clear f1_ f2_ f3_;subst f4_;subst f5_))
       refine hK.out _ _ ⟨(blk_cell BK383.out 0).trans rfl,(blk_cell BK383.out 1).trans rfl,(blk_cell BK383.out 2).trans rfl,(blk_cell BK383.out 3).trans rfl,(blk_cell BK361.out 0).trans rfl,(blk_cell BK361.out 1).trans rfl,(blk_cell BK361.out 2).trans rfl,(blk_cell BK361.out 3).trans rfl⟩ (fun hHeld=>?_)
       clear hK K
       refine norm_ (a':=?_) ?_ ?_
       rotate_left
       ·show Act.put _ (some 56) _ = _
        simp only [Act.put,List.setIfInBounds_toArray,List.set_cons_zero,List.set_cons_succ,i64_w,i32_w]
        rfl
       refine one_ (i:=3) (N:=some 57) #[true,true,true,true,false] rfl rfl (by kernel_rfl) (by decide) (fun K hK=>?_)
       refine goes_ Try.func23 (by kernel_rfl) rfl #[.agg #[.slice Ao34 t377.length co34,.int .i64 t380,.bool t381,.int .i64 t382],.agg #[.slice Ao121 t392.length co121,.int .i64 t395,.bool t396,.int .i64 t397]] (by rfl) rfl rfl (by (try simp only [List.map_toArray,List.map_cons,List.map_nil]);first|done|rfl|(simp only [List.length_drop,List.length_take];rfl)) ?_
       with_reducible refine (laws_eqDisk.calls kj19 _ _ t377 t380 t381 t382 _ _ t392 t395 t396 t397 false _ ?side1 ?side2 ?side3 ?side4 A51.out).mono ?_
       (case side1=>repeat (first|exact (Kd.S_reads' HO_384000.out).2.2|(with_reducible first|apply Kd.C_alloc|apply Kd.C_drewN|apply Kd.C_drew)))
       (case side2=>exact (Kd.S_reads' HO_384000.out).2.1)
       (case side3=>repeat (first|exact (Kd.S_reads' HO394.out).2.2|(with_reducible first|apply Kd.C_alloc|apply Kd.C_drewN|apply Kd.C_drew)))
       (case side4=>exact (Kd.S_reads' HO394.out).2.1)
       rintro e w122 ⟨rfl,hb⟩
       refine ⟨_,rfl,?_⟩
       have n0_:=Aside0.mk (Kd.S_below (by (with_reducible repeat (first|apply Kd.S_alloc|apply Kd.S_drewN|apply Kd.S_drew));exact HO_384000.out) hb)
       have n1_:=Aside0.mk (Kd.S_below (by (with_reducible repeat (first|apply Kd.S_alloc|apply Kd.S_drewN|apply Kd.S_drew));exact HO394.out) hb)
       have n2_:=Aside0.mk (blk_below (g:=gb361) (o:=.cells #[.slice A0_0 l0_0.length c0_0,.int .i64 a0_1,.bool a0_2,.int .i64 a0_3] 36 (0,0)) (by (with_reducible repeat first|apply blk_drewN|apply blk_drew|apply blk_alloc);exact BK361.out) hb)
       have n3_:=Aside0.mk (blk_below (g:=gb383) (o:=.cells #[.slice Ao34 t377.length co34,.int .i64 t380,.bool t381,.int .i64 t382] 39 (0,0)) (by (with_reducible repeat first|apply blk_drewN|apply blk_drew|apply blk_alloc);exact BK383.out) hb)
       have n4_:=Aside0.mk (below_step (by repeat (first|(with_reducible first|exact HB.out|apply below_alloc|apply pw_below_drewN|apply below_drew1|refine below_set ?_ GE361.out|refine below_set ?_ GE383.out)|exact HB.out)) hb)
       clear HO_384000
       clear HO394
       clear BK361
       clear BK383
       clear HB
       have HO_384000:=n0_
       have HO394:=n1_
       have BK361:=n2_
       have BK383:=n3_
       have HB:=n4_
       clear n0_ n1_ n2_ n3_ n4_
       (try clear hb)
       (try clear hb2)
       (try clear hk)
       (try clear hi)
       refine hK.out _ _ ⟨(blk_cell BK383.out 0).trans rfl,(blk_cell BK383.out 1).trans rfl,(blk_cell BK383.out 2).trans rfl,(blk_cell BK383.out 3).trans rfl,(blk_cell BK361.out 0).trans rfl,(blk_cell BK361.out 1).trans rfl,(blk_cell BK361.out 2).trans rfl,(blk_cell BK361.out 3).trans rfl⟩ (fun hHeld=>?_)
       clear hK K
       refine norm_ (a':=?_) ?_ ?_
       rotate_left
       ·show Act.put _ (some 57) _ = _
        simp only [Act.put,List.setIfInBounds_toArray,List.set_cons_zero,List.set_cons_succ,i64_w,i32_w]
        rfl
       refine pure_ (i:=4) (N:=some 58) (v:=?_) (a':=?_) #[true,true,true,true,true] rfl rfl (by kernel_rfl) (fun _ _ _ h=>h) (Or.inl ⟨by rfl,?_⟩) ?_ ?_
       rotate_left
       ·intro w'
        go_simp
        with_reducible rfl
       rotate_left
       ·simp only [Act.put,List.setIfInBounds_toArray,List.set_cons_zero,List.set_cons_succ,i64_w,i32_w]
        rfl
       refine done_ (by kernel_rfl) ?_
       try go_wp2
       go_ret
       exact ⟨by first|rfl|(simp [*,errW_none,errW_some] <;> rfl),by repeat (first|(with_reducible first|exact HB.out|apply below_alloc|apply pw_below_drewN|apply below_drew1|refine below_set ?_ GE361.out|refine below_set ?_ GE383.out)|exact HB.out)⟩

end Go.Proofs.Ytfjboeeogjepeaa.PFnExactPlanOf
