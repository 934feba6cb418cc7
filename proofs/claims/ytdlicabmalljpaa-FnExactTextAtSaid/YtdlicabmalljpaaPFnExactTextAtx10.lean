-- Written by a program of this session over the print of the kit (wip/t/patch_print.py).
import Derived.Test.YtdlicabmalljpaaPFnExactTextAtx0
import Derived.Test.YtdlicabmalljpaaPFnExactTextAtx1
import Derived.Test.YtdlicabmalljpaaPFnExactTextAtx4
import Derived.Test.YtdlicabmalljpaaPFnExactTextAtx5
import Derived.Test.YtdlicabmalljpaaPFnExactTextAtx7
import Derived.Test.YtdlicabmalljpaaPFnExactTextAtx9
namespace Go.Proofs.Ytdlicabmalljpaa.PFnExactTextAt
open Go.RowKit Go.Proofs.YtdlicabmalljpaaW.PrintWords Go.Proofs.YtdlicabmalljpaaW.PrintLast Go.Proofs.YtdlicabmalljpaaW.PrintMore
attribute [local go_sem] max2_int min2_int max_two min_two max_three min_three max_four min_four   -- for this text's walks alone
set_option linter.unusedVariables false
set_option linter.unusedSimpArgs false

/-! ### laws_FnExactTextAt: function 7 -/
def laws_FnExactTextAt.j0 : Nat → Bool → Int → ByteArray → List (S76) → List (S108) → Int → ByteArray → List (S74) → List (S112) → Option (Bool)
 | 0,_,_,_,_,_,_,_,_,_=>none
 | k + 1,x38,x270000,x270001,x270002,x270003,x290000,x290001,x290002,x290003=>if x38 = true then (some false) else ((laws_toHistory.f k x270000 x270001 x270002 x270003).bind fun bt292=>((laws_eqHistory.f k x290000 x290001 x290002 x290003 bt292.1 bt292.2.1 bt292.2.2.1 bt292.2.2.2).bind fun t300=>(if t300 = true then (some true) else (some false))))
def laws_FnExactTextAt.f (k : Nat) (a0_0 : Int) (a0_1 : ByteArray) (l0_2 : List (S76)) (l0_3 : List (S108)) (a1 : Int) : Option (Bool):=(laws_szHistory.f k a0_0 a0_1 l0_2 l0_3 1048576).bind fun t270=>(if t270 < 0 then (some true) else ((laws_toHistory.f k a0_0 a0_1 l0_2 l0_3).bind fun bt271=>((spec_TextAt.f k bt271.1 bt271.2.1 bt271.2.2.1 bt271.2.2.2 a1).bind fun bt279=>((laws_toHistory.f k a0_0 a0_1 l0_2 l0_3).bind fun bt281=>((impl_TextAt.f k bt281.1 bt281.2.1 bt281.2.2.1 bt281.2.2.2 a1).bind fun bt290=>(if bt290.1.toList = bt279.1.toList then (laws_FnExactTextAt.j0 k (bt290.2 != bt279.2) a0_0 a0_1 l0_2 l0_3 bt281.1 bt281.2.1 bt281.2.2.1 bt281.2.2.2) else (laws_FnExactTextAt.j0 k true a0_0 a0_1 l0_2 l0_3 bt281.1 bt281.2.1 bt281.2.2.1 bt281.2.2.2)))))))
theorem laws_FnExactTextAt.mono_l : ∀ k,(∀ y0 y1 y2 y3 y4 y5 y6 y7 y8,LeO (laws_FnExactTextAt.j0 k y0 y1 y2 y3 y4 y5 y6 y7 y8) (laws_FnExactTextAt.j0 (k + 1) y0 y1 y2 y3 y4 y5 y6 y7 y8))
 | 0=>fun _ _ _ _ _ _ _ _ _ r h=>by simp [laws_FnExactTextAt.j0] at h
 | k + 1=>by
  have ih0:=laws_FnExactTextAt.mono_l k
  ·intro y0 y1 y2 y3 y4 y5 y6 y7 y8
   unfold laws_FnExactTextAt.j0
   repeat' first
   | (with_reducible exact ih0 _ _ _ _ _ _ _ _ _)
   | (with_reducible exact impl_TextAt.mono _ _ _ _ _ _)
   | (with_reducible exact laws_eqHistory.mono _ _ _ _ _ _ _ _ _)
   | (with_reducible exact laws_szHistory.mono _ _ _ _ _ _)
   | (with_reducible exact laws_toHistory.mono _ _ _ _ _)
   | (with_reducible exact spec_TextAt.mono _ _ _ _ _ _)
   | (with_reducible exact LeO.refl _)
   | (with_reducible exact LeO.none _)
   | (with_reducible refine LeO.ite ?_ ?_)
   | (with_reducible refine LeO.bind ?_ (fun _=>?_))
   | exact ih0 _ _ _ _ _ _ _ _ _
   | exact impl_TextAt.mono _ _ _ _ _ _
   | exact laws_eqHistory.mono _ _ _ _ _ _ _ _ _
   | exact laws_szHistory.mono _ _ _ _ _ _
   | exact laws_toHistory.mono _ _ _ _ _
   | exact spec_TextAt.mono _ _ _ _ _ _
   | exact LeO.none _
   | refine LeO.ite ?_ ?_
   | refine LeO.bind ?_ (fun _=>?_)
theorem laws_FnExactTextAt.mono : ∀ a0 a1 a2 a3 a4 k,LeO (laws_FnExactTextAt.f k a0 a1 a2 a3 a4) (laws_FnExactTextAt.f (k + 1) a0 a1 a2 a3 a4):=by
 intro a0 a1 a2 a3 a4 k
 have ih0:=laws_FnExactTextAt.mono_l k
 unfold laws_FnExactTextAt.f
 repeat' first
   | (with_reducible exact ih0 _ _ _ _ _ _ _ _ _)
   | (with_reducible exact impl_TextAt.mono _ _ _ _ _ _)
   | (with_reducible exact laws_eqHistory.mono _ _ _ _ _ _ _ _ _)
   | (with_reducible exact laws_szHistory.mono _ _ _ _ _ _)
   | (with_reducible exact laws_toHistory.mono _ _ _ _ _)
   | (with_reducible exact spec_TextAt.mono _ _ _ _ _ _)
   | (with_reducible exact LeO.refl _)
   | (with_reducible exact LeO.none _)
   | (with_reducible refine LeO.ite ?_ ?_)
   | (with_reducible refine LeO.bind ?_ (fun _=>?_))
   | exact ih0 _ _ _ _ _ _ _ _ _
   | exact impl_TextAt.mono _ _ _ _ _ _
   | exact laws_eqHistory.mono _ _ _ _ _ _ _ _ _
   | exact laws_szHistory.mono _ _ _ _ _ _
   | exact laws_toHistory.mono _ _ _ _ _
   | exact spec_TextAt.mono _ _ _ _ _ _
   | exact LeO.none _
   | refine LeO.ite ?_ ?_
   | refine LeO.bind ?_ (fun _=>?_)
set_option maxHeartbeats 8000000 in
set_option maxRecDepth 100000 in
theorem laws_FnExactTextAt.calls (k : Nat) (a0_0 : Int) (a0_1 : ByteArray) (A0_2 : Option Addr) (c0_2 : Nat) (l0_2 : List (S76)) (A0_3 : Option Addr) (c0_3 : Nat) (l0_3 : List (S108)) (a1 : Int) (r : Bool) (w : World) (hr0_2 : Kd.C k76 w A0_2 l0_2.length l0_2) (hc0_2 : l0_2.length ≤ c0_2) (hr0_3 : Kd.C k108 w A0_3 l0_3.length l0_3) (hc0_3 : l0_3.length ≤ c0_3) (h : laws_FnExactTextAt.f k a0_0 a0_1 l0_2 l0_3 a1 = some r) :
  Calls Try.prog 7 #[.agg #[.int .i64 a0_0,.string a0_1,.slice A0_2 l0_2.length c0_2,.slice A0_3 l0_3.length c0_3],.int .i64 a1] w fun e w'=>e = .returned (.bool r)∧Below w.heap.size w w':=by
 have hu49:=Try.underlying49
 have hu55:=Try.underlying55
 have HR0_2:=Aside0.mk hr0_2
 have HC0_2:=Aside0.mk hc0_2
 clear hr0_2 hc0_2
 have HR0_3:=Aside0.mk hr0_3
 have HC0_3:=Aside0.mk hc0_3
 clear hr0_3 hc0_3
 have HB:=Aside0.mk (Below.refl w.heap.size w)
 have H : ((laws_szHistory.f k a0_0 a0_1 l0_2 l0_3 1048576).bind fun t270=>(if t270 < 0 then (some true) else ((laws_toHistory.f k a0_0 a0_1 l0_2 l0_3).bind fun bt271=>((spec_TextAt.f k bt271.1 bt271.2.1 bt271.2.2.1 bt271.2.2.2 a1).bind fun bt279=>((laws_toHistory.f k a0_0 a0_1 l0_2 l0_3).bind fun bt281=>((impl_TextAt.f k bt281.1 bt281.2.1 bt281.2.2.1 bt281.2.2.2 a1).bind fun bt290=>(if bt290.1.toList = bt279.1.toList then (laws_FnExactTextAt.j0 k (bt290.2 != bt279.2) a0_0 a0_1 l0_2 l0_3 bt281.1 bt281.2.1 bt281.2.2.1 bt281.2.2.2) else (laws_FnExactTextAt.j0 k true a0_0 a0_1 l0_2 l0_3 bt281.1 bt281.2.1 bt281.2.2.1 bt281.2.2.2)))))))) = some r:=h
 clear h
 replace H:=Option.bind_eq_some_iff.mp H
 obtain ⟨t270,A30,H⟩:=H
 replace H : (if t270 < 0 then (some true) else ((laws_toHistory.f k a0_0 a0_1 l0_2 l0_3).bind fun bt271=>((spec_TextAt.f k bt271.1 bt271.2.1 bt271.2.2.1 bt271.2.2.2 a1).bind fun bt279=>((laws_toHistory.f k a0_0 a0_1 l0_2 l0_3).bind fun bt281=>((impl_TextAt.f k bt281.1 bt281.2.1 bt281.2.2.1 bt281.2.2.2 a1).bind fun bt290=>(if bt290.1.toList = bt279.1.toList then (laws_FnExactTextAt.j0 k (bt290.2 != bt279.2) a0_0 a0_1 l0_2 l0_3 bt281.1 bt281.2.1 bt281.2.2.1 bt281.2.2.2) else (laws_FnExactTextAt.j0 k true a0_0 a0_1 l0_2 l0_3 bt281.1 bt281.2.1 bt281.2.2.1 bt281.2.2.2))))))) = some r:=H
 have A3:=Aside0.mk A30
 clear A30
 by_cases c4 : t270 < 0
 ·rw [if_pos c4] at H
  have c4b0 : decide (t270 < 0) = true:=decide_eq_true c4
  clear c4
  obtain rfl:=Option.some.inj H
  go_enter Try.func7,Try.ntmps7
  go_wp2_with (first|((with_reducible refine gate_dst (N:=2) rfl ?_);refine box_event ?hg (N:=2) ?hd (cs:=#[.int .i64 a0_0,.string a0_1,.slice A0_2 l0_2.length c0_2,.slice A0_3 l0_3.length c0_3]) (t:=49) ?hr ?_;(case hd=>rfl);(case hg=>rfl);(case hr=>first|(go_simp;done)|(go_simp;rfl));intro gb269 hg w5 hbox hb;have n0_:=Aside0.mk (below_step (by repeat (first|exact HB.out|apply below_alloc|apply pw_below_drewN|apply below_drew1)) hb);have n1_:=Aside0.mk (hbox);have n2_:=Aside0.mk ((by rw [hg];exact (below_size (by repeat (first|exact HB.out|apply below_alloc|apply pw_below_drewN|apply below_drew1))) : w.heap.size ≤ gb269));have n3_:=Aside0.mk ((by rw [hg];exact (below_size (by repeat (first|exact HB.out|apply below_alloc|apply pw_below_drewN|apply below_drew1))) : w.heap.size ≤ gb269));clear HB;have HB:=n0_;have BK269:=n1_;have GW269:=n2_;have GE269:=n3_;clear n0_ n1_ n2_ n3_;clear hb hbox hg;have hcz6_0 : w5.cell? ⟨gb269,0,none⟩ = some (.int .i64 a0_0):=(blk_cell BK269.out 0).trans rfl;have hcz6_1 : w5.cell? ⟨gb269,1,none⟩ = some (.string a0_1):=(blk_cell BK269.out 1).trans rfl;have hcz6_2 : w5.cell? ⟨gb269,2,none⟩ = some (.slice A0_2 l0_2.length c0_2):=(blk_cell BK269.out 2).trans rfl;have hcz6_3 : w5.cell? ⟨gb269,3,none⟩ = some (.slice A0_3 l0_3.length c0_3):=(blk_cell BK269.out 3).trans rfl;have hfz6_0:=blk_frozen BK269.out 0;have hfz6_1:=blk_frozen BK269.out 1;have hfz6_2:=blk_frozen BK269.out 2;have hfz6_3:=blk_frozen BK269.out 3)|((with_reducible refine gate_callee (f:=31) rfl ?_);refine goesL_ (some 13) rfl rfl Try.func31 (by kernel_rfl) rfl #[.agg #[.int .i64 a0_0,.string a0_1,.slice A0_2 l0_2.length c0_2,.slice A0_3 l0_3.length c0_3],.int .i64 1048576] rfl (by (try simp only [List.map_toArray,List.map_cons,List.map_nil]);first|done|rfl|(simp only [List.length_drop,List.length_take];rfl)) ?_;(with_reducible refine (laws_szHistory.calls k a0_0 a0_1 _ _ l0_2 _ _ l0_3 1048576 t270 _ ?side1 ?side2 ?side3 ?side4 A3.out).mono ?_);(case side1=>repeat (first|exact (Kd.C_below HR0_2.out HB.out)|(with_reducible first|apply Kd.C_alloc|apply Kd.C_drewN|apply Kd.C_drew)));(case side2=>exact HC0_2.out);(case side3=>repeat (first|exact (Kd.C_below HR0_3.out HB.out)|(with_reducible first|apply Kd.C_alloc|apply Kd.C_drewN|apply Kd.C_drew)));(case side4=>exact HC0_3.out);rintro e w7 ⟨rfl,hb⟩;refine ⟨_,rfl,?_⟩;have n0_:=Aside0.mk (blk_below (g:=gb269) (o:=.cells #[.int .i64 a0_0,.string a0_1,.slice A0_2 l0_2.length c0_2,.slice A0_3 l0_3.length c0_3] 49 (0,0)) (by (with_reducible repeat first|apply blk_drewN|apply blk_drew|apply blk_alloc);exact BK269.out) hb);have n1_:=Aside0.mk (below_step (by repeat (first|(with_reducible first|exact HB.out|apply below_alloc|apply pw_below_drewN|apply below_drew1|refine below_set ?_ GE269.out)|exact HB.out)) hb);clear BK269;clear HB;have BK269:=n0_;have HB:=n1_;clear n0_ n1_;(try clear hb);(try clear hb2);(try clear hk);(try clear hi)))
  go_ret
  exact ⟨by first|rfl|(simp [*,errW_none,errW_some] <;> rfl),by repeat (first|(with_reducible first|exact HB.out|apply below_alloc|apply pw_below_drewN|apply below_drew1|refine below_set ?_ GE269.out)|exact HB.out)⟩
 ·rw [if_neg c4] at H
  have c4b0 : decide (t270 < 0) = false:=decide_eq_false c4
  clear c4
  replace H:=Option.bind_eq_some_iff.mp H
  obtain ⟨⟨t271,t272,t273,t276⟩,A80,H⟩:=H
  replace H : ((spec_TextAt.f k t271 t272 t273 t276 a1).bind fun bt279=>((laws_toHistory.f k a0_0 a0_1 l0_2 l0_3).bind fun bt281=>((impl_TextAt.f k bt281.1 bt281.2.1 bt281.2.2.1 bt281.2.2.2 a1).bind fun bt290=>(if bt290.1.toList = bt279.1.toList then (laws_FnExactTextAt.j0 k (bt290.2 != bt279.2) a0_0 a0_1 l0_2 l0_3 bt281.1 bt281.2.1 bt281.2.2.1 bt281.2.2.2) else (laws_FnExactTextAt.j0 k true a0_0 a0_1 l0_2 l0_3 bt281.1 bt281.2.1 bt281.2.2.1 bt281.2.2.2))))) = some r:=H
  have A8:=Aside0.mk A80
  clear A80
  replace H:=Option.bind_eq_some_iff.mp H
  obtain ⟨⟨t279,t280⟩,A90,H⟩:=H
  replace H : ((laws_toHistory.f k a0_0 a0_1 l0_2 l0_3).bind fun bt281=>((impl_TextAt.f k bt281.1 bt281.2.1 bt281.2.2.1 bt281.2.2.2 a1).bind fun bt290=>(if bt290.1.toList = t279.toList then (laws_FnExactTextAt.j0 k (bt290.2 != t280) a0_0 a0_1 l0_2 l0_3 bt281.1 bt281.2.1 bt281.2.2.1 bt281.2.2.2) else (laws_FnExactTextAt.j0 k true a0_0 a0_1 l0_2 l0_3 bt281.1 bt281.2.1 bt281.2.2.1 bt281.2.2.2)))) = some r:=H
  have A9:=Aside0.mk A90
  clear A90
  replace H:=Option.bind_eq_some_iff.mp H
  obtain ⟨⟨t281,t282,t283,t286⟩,A100,H⟩:=H
  replace H : ((impl_TextAt.f k t281 t282 t283 t286 a1).bind fun bt290=>(if bt290.1.toList = t279.toList then (laws_FnExactTextAt.j0 k (bt290.2 != t280) a0_0 a0_1 l0_2 l0_3 t281 t282 t283 t286) else (laws_FnExactTextAt.j0 k true a0_0 a0_1 l0_2 l0_3 t281 t282 t283 t286))) = some r:=H
  have A10:=Aside0.mk A100
  clear A100
  replace H:=Option.bind_eq_some_iff.mp H
  obtain ⟨⟨t290,t291⟩,A110,H⟩:=H
  replace H : (if t290.toList = t279.toList then (laws_FnExactTextAt.j0 k (t291 != t280) a0_0 a0_1 l0_2 l0_3 t281 t282 t283 t286) else (laws_FnExactTextAt.j0 k true a0_0 a0_1 l0_2 l0_3 t281 t282 t283 t286)) = some r:=H
  have A11:=Aside0.mk A110
  clear A110
  have HC12:=Aside0.mk H
  clear H
  go_enter Try.func7,Try.ntmps7
  go_upto_region 8 with (first|((with_reducible refine gate_dst (N:=2) rfl ?_);refine box_event ?hg (N:=2) ?hd (cs:=#[.int .i64 a0_0,.string a0_1,.slice A0_2 l0_2.length c0_2,.slice A0_3 l0_3.length c0_3]) (t:=49) ?hr ?_;(case hd=>rfl);(case hg=>rfl);(case hr=>first|(go_simp;done)|(go_simp;rfl));intro gb269 hg w13 hbox hb;have n0_:=Aside0.mk (below_step (by repeat (first|exact HB.out|apply below_alloc|apply pw_below_drewN|apply below_drew1)) hb);have n1_:=Aside0.mk (hbox);have n2_:=Aside0.mk ((by rw [hg];exact (below_size (by repeat (first|exact HB.out|apply below_alloc|apply pw_below_drewN|apply below_drew1))) : w.heap.size ≤ gb269));have n3_:=Aside0.mk ((by rw [hg];exact (below_size (by repeat (first|exact HB.out|apply below_alloc|apply pw_below_drewN|apply below_drew1))) : w.heap.size ≤ gb269));clear HB;have HB:=n0_;have BK269:=n1_;have GW269:=n2_;have GE269:=n3_;clear n0_ n1_ n2_ n3_;clear hb hbox hg;have hcz14_0 : w13.cell? ⟨gb269,0,none⟩ = some (.int .i64 a0_0):=(blk_cell BK269.out 0).trans rfl;have hcz14_1 : w13.cell? ⟨gb269,1,none⟩ = some (.string a0_1):=(blk_cell BK269.out 1).trans rfl;have hcz14_2 : w13.cell? ⟨gb269,2,none⟩ = some (.slice A0_2 l0_2.length c0_2):=(blk_cell BK269.out 2).trans rfl;have hcz14_3 : w13.cell? ⟨gb269,3,none⟩ = some (.slice A0_3 l0_3.length c0_3):=(blk_cell BK269.out 3).trans rfl;have hfz14_0:=blk_frozen BK269.out 0;have hfz14_1:=blk_frozen BK269.out 1;have hfz14_2:=blk_frozen BK269.out 2;have hfz14_3:=blk_frozen BK269.out 3)|((with_reducible refine gate_callee (f:=31) rfl ?_);refine goesL_ (some 13) rfl rfl Try.func31 (by kernel_rfl) rfl #[.agg #[.int .i64 a0_0,.string a0_1,.slice A0_2 l0_2.length c0_2,.slice A0_3 l0_3.length c0_3],.int .i64 1048576] rfl (by (try simp only [List.map_toArray,List.map_cons,List.map_nil]);first|done|rfl|(simp only [List.length_drop,List.length_take];rfl)) ?_;(with_reducible refine (laws_szHistory.calls k a0_0 a0_1 _ _ l0_2 _ _ l0_3 1048576 t270 _ ?side1 ?side2 ?side3 ?side4 A3.out).mono ?_);(case side1=>repeat (first|exact (Kd.C_below HR0_2.out HB.out)|(with_reducible first|apply Kd.C_alloc|apply Kd.C_drewN|apply Kd.C_drew)));(case side2=>exact HC0_2.out);(case side3=>repeat (first|exact (Kd.C_below HR0_3.out HB.out)|(with_reducible first|apply Kd.C_alloc|apply Kd.C_drewN|apply Kd.C_drew)));(case side4=>exact HC0_3.out);rintro e w15 ⟨rfl,hb⟩;refine ⟨_,rfl,?_⟩;have n0_:=Aside0.mk (blk_below (g:=gb269) (o:=.cells #[.int .i64 a0_0,.string a0_1,.slice A0_2 l0_2.length c0_2,.slice A0_3 l0_3.length c0_3] 49 (0,0)) (by (with_reducible repeat first|apply blk_drewN|apply blk_drew|apply blk_alloc);exact BK269.out) hb);have n1_:=Aside0.mk (below_step (by repeat (first|(with_reducible first|exact HB.out|apply below_alloc|apply pw_below_drewN|apply below_drew1|refine below_set ?_ GE269.out)|exact HB.out)) hb);clear BK269;clear HB;have BK269:=n0_;have HB:=n1_;clear n0_ n1_;(try clear hb);(try clear hb2);(try clear hk);(try clear hi);have hcz16_0 : w15.cell? ⟨gb269,0,none⟩ = some (.int .i64 a0_0):=(blk_cell BK269.out 0).trans rfl;have hcz16_1 : w15.cell? ⟨gb269,1,none⟩ = some (.string a0_1):=(blk_cell BK269.out 1).trans rfl;have hcz16_2 : w15.cell? ⟨gb269,2,none⟩ = some (.slice A0_2 l0_2.length c0_2):=(blk_cell BK269.out 2).trans rfl;have hcz16_3 : w15.cell? ⟨gb269,3,none⟩ = some (.slice A0_3 l0_3.length c0_3):=(blk_cell BK269.out 3).trans rfl;have hfz16_0:=blk_frozen BK269.out 0;have hfz16_1:=blk_frozen BK269.out 1;have hfz16_2:=blk_frozen BK269.out 2;have hfz16_3:=blk_frozen BK269.out 3)|((with_reducible refine gate_callee (f:=33) rfl ?_);refine goesL_ (some 18) rfl rfl Try.func33 (by kernel_rfl) rfl #[.agg #[.int .i64 a0_0,.string a0_1,.slice A0_2 l0_2.length c0_2,.slice A0_3 l0_3.length c0_3]] rfl (by (try simp only [List.map_toArray,List.map_cons,List.map_nil]);first|done|rfl|(simp only [List.length_drop,List.length_take];rfl)) ?_;(with_reducible refine (laws_toHistory.calls k a0_0 a0_1 _ _ l0_2 _ _ l0_3 t271 t272 t273 t276 _ ?side1 ?side2 ?side3 ?side4 A8.out).mono ?_);(case side1=>repeat (first|exact (Kd.C_below HR0_2.out HB.out)|(with_reducible first|apply Kd.C_alloc|apply Kd.C_drewN|apply Kd.C_drew)));(case side2=>exact HC0_2.out);(case side3=>repeat (first|exact (Kd.C_below HR0_3.out HB.out)|(with_reducible first|apply Kd.C_alloc|apply Kd.C_drewN|apply Kd.C_drew)));(case side4=>exact HC0_3.out);rintro e w17 ⟨v274,v277,rfl,ho0,ho1,hb⟩;refine ⟨_,rfl,?_⟩;have n0_:=Aside0.mk (Kd.R_lower ho0 (below_size (by repeat (first|(with_reducible first|exact HB.out|apply below_alloc|apply pw_below_drewN|apply below_drew1|refine below_set ?_ GE269.out)|exact HB.out))));have n1_:=Aside0.mk (Kd.S_lower ho1 (below_size (by repeat (first|(with_reducible first|exact HB.out|apply below_alloc|apply pw_below_drewN|apply below_drew1|refine below_set ?_ GE269.out)|exact HB.out))));have n2_:=Aside0.mk (blk_below (g:=gb269) (o:=.cells #[.int .i64 a0_0,.string a0_1,.slice A0_2 l0_2.length c0_2,.slice A0_3 l0_3.length c0_3] 49 (0,0)) (by (with_reducible repeat first|apply blk_drewN|apply blk_drew|apply blk_alloc);exact BK269.out) hb);have n3_:=Aside0.mk (below_step (by repeat (first|(with_reducible first|exact HB.out|apply below_alloc|apply pw_below_drewN|apply below_drew1|refine below_set ?_ GE269.out)|exact HB.out)) hb);clear BK269;clear HB;have HO275:=n0_;have HO278:=n1_;have BK269:=n2_;have HB:=n3_;clear n0_ n1_ n2_ n3_;(try clear hb);(try clear hb2);(try clear hk);(try clear hi);(try clear ho0);(try clear ho1);obtain ⟨Ao18,co18,eo18⟩:=Kd.R_slice HO275.out;subst eo18;obtain ⟨Ao19,co19,eo19⟩:=Kd.S_slice HO278.out;subst eo19)|((with_reducible refine gate_callee (f:=32) rfl ?_);refine goesL_ (some 20) rfl rfl Try.func32 (by kernel_rfl) rfl #[.agg #[.int .i64 t271,.string t272,.slice Ao18 t273.length co18,.slice Ao19 t276.length co19],.int .i64 a1] rfl (by (try simp only [List.map_toArray,List.map_cons,List.map_nil]);first|done|rfl|(simp only [List.length_drop,List.length_take];rfl)) ?_;(with_reducible refine (spec_TextAt.calls k t271 t272 _ _ t273 _ _ t276 a1 t279 t280 _ ?side1 ?side2 ?side3 ?side4 A9.out).mono ?_);(case side1=>repeat (first|exact (Kd.R_reads' HO275.out).2.2|(with_reducible first|apply Kd.C_alloc|apply Kd.C_drewN|apply Kd.C_drew)));(case side2=>exact (Kd.R_reads' HO275.out).2.1);(case side3=>repeat (first|exact (Kd.S_reads' HO278.out).2.2|(with_reducible first|apply Kd.C_alloc|apply Kd.C_drewN|apply Kd.C_drew)));(case side4=>exact (Kd.S_reads' HO278.out).2.1);rintro e w20 ⟨rfl,hb⟩;refine ⟨_,rfl,?_⟩;have n0_:=Aside0.mk (Kd.R_below (by (with_reducible repeat (first|apply Kd.R_alloc|apply Kd.R_drewN|apply Kd.R_drew));exact HO275.out) hb);have n1_:=Aside0.mk (Kd.S_below (by (with_reducible repeat (first|apply Kd.S_alloc|apply Kd.S_drewN|apply Kd.S_drew));exact HO278.out) hb);have n2_:=Aside0.mk (blk_below (g:=gb269) (o:=.cells #[.int .i64 a0_0,.string a0_1,.slice A0_2 l0_2.length c0_2,.slice A0_3 l0_3.length c0_3] 49 (0,0)) (by (with_reducible repeat first|apply blk_drewN|apply blk_drew|apply blk_alloc);exact BK269.out) hb);have n3_:=Aside0.mk (below_step (by repeat (first|(with_reducible first|exact HB.out|apply below_alloc|apply pw_below_drewN|apply below_drew1|refine below_set ?_ GE269.out)|exact HB.out)) hb);clear HO275;clear HO278;clear BK269;clear HB;have HO275:=n0_;have HO278:=n1_;have BK269:=n2_;have HB:=n3_;clear n0_ n1_ n2_ n3_;(try clear hb);(try clear hb2);(try clear hk);(try clear hi);have hcz21_0 : w20.cell? ⟨gb269,0,none⟩ = some (.int .i64 a0_0):=(blk_cell BK269.out 0).trans rfl;have hcz21_1 : w20.cell? ⟨gb269,1,none⟩ = some (.string a0_1):=(blk_cell BK269.out 1).trans rfl;have hcz21_2 : w20.cell? ⟨gb269,2,none⟩ = some (.slice A0_2 l0_2.length c0_2):=(blk_cell BK269.out 2).trans rfl;have hcz21_3 : w20.cell? ⟨gb269,3,none⟩ = some (.slice A0_3 l0_3.length c0_3):=(blk_cell BK269.out 3).trans rfl;have hfz21_0:=blk_frozen BK269.out 0;have hfz21_1:=blk_frozen BK269.out 1;have hfz21_2:=blk_frozen BK269.out 2;have hfz21_3:=blk_frozen BK269.out 3)|((with_reducible refine gate_callee (f:=33) rfl ?_);refine goesL_ (some 24) rfl rfl Try.func33 (by kernel_rfl) rfl #[.agg #[.int .i64 a0_0,.string a0_1,.slice A0_2 l0_2.length c0_2,.slice A0_3 l0_3.length c0_3]] rfl (by (try simp only [List.map_toArray,List.map_cons,List.map_nil]);first|done|rfl|(simp only [List.length_drop,List.length_take];rfl)) ?_;(with_reducible refine (laws_toHistory.calls k a0_0 a0_1 _ _ l0_2 _ _ l0_3 t281 t282 t283 t286 _ ?side1 ?side2 ?side3 ?side4 A10.out).mono ?_);(case side1=>repeat (first|exact (Kd.C_below HR0_2.out HB.out)|(with_reducible first|apply Kd.C_alloc|apply Kd.C_drewN|apply Kd.C_drew)));(case side2=>exact HC0_2.out);(case side3=>repeat (first|exact (Kd.C_below HR0_3.out HB.out)|(with_reducible first|apply Kd.C_alloc|apply Kd.C_drewN|apply Kd.C_drew)));(case side4=>exact HC0_3.out);rintro e w22 ⟨v284,v287,rfl,ho0,ho1,hb⟩;refine ⟨_,rfl,?_⟩;have n0_:=Aside0.mk (Kd.R_elder' (by (with_reducible repeat (first|apply Kd.R_alloc|apply Kd.R_drewN|apply Kd.R_drew));exact HO275.out) (Kd.R_base ho0) hb);have n1_:=Aside0.mk (Kd.S_elder' (by (with_reducible repeat (first|apply Kd.S_alloc|apply Kd.S_drewN|apply Kd.S_drew));exact HO278.out) (Kd.S_base ho1) hb);have n2_:=Aside0.mk (Kd.R_lower (Kd.R_new' ho0 (Kd.R_lt (by (with_reducible repeat (first|apply Kd.R_alloc|apply Kd.R_drewN|apply Kd.R_drew));exact HO275.out))) (below_size (by repeat (first|(with_reducible first|exact HB.out|apply below_alloc|apply pw_below_drewN|apply below_drew1|refine below_set ?_ GE269.out)|exact HB.out))));have n3_:=Aside0.mk (Kd.S_lower (Kd.S_new' ho1 (Kd.S_lt (by (with_reducible repeat (first|apply Kd.S_alloc|apply Kd.S_drewN|apply Kd.S_drew));exact HO278.out))) (below_size (by repeat (first|(with_reducible first|exact HB.out|apply below_alloc|apply pw_below_drewN|apply below_drew1|refine below_set ?_ GE269.out)|exact HB.out))));have n4_:=Aside0.mk (blk_below (g:=gb269) (o:=.cells #[.int .i64 a0_0,.string a0_1,.slice A0_2 l0_2.length c0_2,.slice A0_3 l0_3.length c0_3] 49 (0,0)) (by (with_reducible repeat first|apply blk_drewN|apply blk_drew|apply blk_alloc);exact BK269.out) hb);have n5_:=Aside0.mk (below_step (by repeat (first|(with_reducible first|exact HB.out|apply below_alloc|apply pw_below_drewN|apply below_drew1|refine below_set ?_ GE269.out)|exact HB.out)) hb);clear HO275;clear HO278;clear BK269;clear HB;have HO275:=n0_;have HO278:=n1_;have HO285:=n2_;have HO288:=n3_;have BK269:=n4_;have HB:=n5_;clear n0_ n1_ n2_ n3_ n4_ n5_;(try clear hb);(try clear hb2);(try clear hk);(try clear hi);(try clear ho0);(try clear ho1))|((with_reducible refine gate_dst (N:=8) rfl ?_);refine box_event ?hg (N:=8) ?hd (cs:=#[.int .i64 0,.string (⟨#[]⟩ : ByteArray),.slice none 0 0,.slice none 0 0]) (t:=55) ?hr ?_;(case hd=>rfl);(case hg=>rfl);(case hr=>first|(go_simp;done)|(go_simp;rfl));intro gb289 hg w23 hbox hb;have n0_:=Aside0.mk (Kd.R_below (by (with_reducible repeat (first|apply Kd.R_alloc|apply Kd.R_drewN|apply Kd.R_drew));exact HO275.out) hb);have n1_:=Aside0.mk (Kd.S_below (by (with_reducible repeat (first|apply Kd.S_alloc|apply Kd.S_drewN|apply Kd.S_drew));exact HO278.out) hb);have n2_:=Aside0.mk (Kd.R_below (by (with_reducible repeat (first|apply Kd.R_alloc|apply Kd.R_drewN|apply Kd.R_drew));exact HO285.out) hb);have n3_:=Aside0.mk (Kd.S_below (by (with_reducible repeat (first|apply Kd.S_alloc|apply Kd.S_drewN|apply Kd.S_drew));exact HO288.out) hb);have n4_:=Aside0.mk (blk_below (g:=gb269) (o:=.cells #[.int .i64 a0_0,.string a0_1,.slice A0_2 l0_2.length c0_2,.slice A0_3 l0_3.length c0_3] 49 (0,0)) (by (with_reducible repeat first|apply blk_drewN|apply blk_drew|apply blk_alloc);exact BK269.out) hb);have n5_:=Aside0.mk (below_step (by repeat (first|(with_reducible first|exact HB.out|apply below_alloc|apply pw_below_drewN|apply below_drew1|refine below_set ?_ GE269.out)|exact HB.out)) hb);have n6_:=Aside0.mk (hbox);have n7_:=Aside0.mk ((by rw [hg];exact (below_size (by repeat (first|(with_reducible first|exact HB.out|apply below_alloc|apply pw_below_drewN|apply below_drew1|refine below_set ?_ GE269.out)|exact HB.out))) : w.heap.size ≤ gb289));have n8_:=Aside0.mk ((by rw [hg];exact (below_size (by repeat (first|(with_reducible first|exact HB.out|apply below_alloc|apply pw_below_drewN|apply below_drew1|refine below_set ?_ GE269.out)|exact HB.out))) : w.heap.size ≤ gb289));have n9_:=Aside0.mk ((by rw [hg];exact Nat.ne_of_lt (blk_lt (g:=gb269) (o:=.cells #[.int .i64 a0_0,.string a0_1,.slice A0_2 l0_2.length c0_2,.slice A0_3 l0_3.length c0_3] 49 (0,0)) (by (with_reducible repeat first|apply blk_drewN|apply blk_drew|apply blk_alloc);exact BK269.out)) : gb269 ≠ gb289));have n10_:=Aside0.mk ((by rw [hg];exact Nat.ne_of_gt (blk_lt (g:=gb269) (o:=.cells #[.int .i64 a0_0,.string a0_1,.slice A0_2 l0_2.length c0_2,.slice A0_3 l0_3.length c0_3] 49 (0,0)) (by (with_reducible repeat first|apply blk_drewN|apply blk_drew|apply blk_alloc);exact BK269.out)) : gb289 ≠ gb269));clear HO275;clear HO278;clear HO285;clear HO288;clear BK269;clear HB;have HO275:=n0_;have HO278:=n1_;have HO285:=n2_;have HO288:=n3_;have BK269:=n4_;have HB:=n5_;have BK289:=n6_;have GW289:=n7_;have GE289:=n8_;have NB269_289:=n9_;have NB289_269:=n10_;clear n0_ n1_ n2_ n3_ n4_ n5_ n6_ n7_ n8_ n9_ n10_;clear hb hbox hg;have hnb24:=NB289_269.out;have hnc24:=NB269_289.out;have hcz25_0 : w23.cell? ⟨gb289,0,none⟩ = some (.int .i64 0):=(blk_cell BK289.out 0).trans rfl;have hcz25_1 : w23.cell? ⟨gb289,1,none⟩ = some (.string (⟨#[]⟩ : ByteArray)):=(blk_cell BK289.out 1).trans rfl;have hcz25_2 : w23.cell? ⟨gb289,2,none⟩ = some (.slice none 0 0):=(blk_cell BK289.out 2).trans rfl;have hcz25_3 : w23.cell? ⟨gb289,3,none⟩ = some (.slice none 0 0):=(blk_cell BK289.out 3).trans rfl;have hfz25_0:=blk_frozen BK289.out 0;have hfz25_1:=blk_frozen BK289.out 1;have hfz25_2:=blk_frozen BK289.out 2;have hfz25_3:=blk_frozen BK289.out 3;obtain ⟨Ao26,co26,eo26⟩:=Kd.R_slice HO285.out;subst eo26;obtain ⟨Ao27,co27,eo27⟩:=Kd.S_slice HO288.out;subst eo27)|((with_reducible refine gate_callee (f:=34) rfl ?_);refine goesL_ (some 28) rfl rfl Try.func34 (by kernel_rfl) rfl #[.agg #[.int .i64 t281,.string t282,.slice Ao26 t283.length co26,.slice Ao27 t286.length co27],.int .i64 a1] rfl (by (try simp only [List.map_toArray,List.map_cons,List.map_nil]);first|done|rfl|(simp only [List.length_drop,List.length_take];rfl)) ?_;(with_reducible refine (impl_TextAt.calls k t281 t282 _ _ t283 _ _ t286 a1 t290 t291 _ ?side1 ?side2 ?side3 ?side4 A11.out).mono ?_);(case side1=>refine (Kd.R_reads' (e:=74) (base:=w.heap.size) (ok:=fun k_=>(True∧some k_ ≠ (.slice Ao18 t273.length co18 : Value).ownBlock)) (n:=t283.length) (c:=co26) ?_).2.2;exact (by (with_reducible repeat (first|apply Kd.R_alloc|apply Kd.R_drewN|apply Kd.R_drew));exact (Kd.R_mono (Kd.R_far (p:=⟨gb289,3,none⟩) (Kd.R_far (p:=⟨gb289,2,none⟩) (Kd.R_far (p:=⟨gb289,1,none⟩) (Kd.R_far (p:=⟨gb289,0,none⟩) (Kd.R_types HO285.out BK289.out (by decide)) (fun _ hk=>hk.2) (.int .i64 t281)) (fun _ hk=>hk.2) (.string t282)) (fun _ hk=>hk.2) (.slice Ao26 t283.length co26)) (fun _ hk=>hk.2) (.slice Ao27 t286.length co27)) (fun _ h_=>h_.1))));(case side2=>exact (Kd.R_reads' HO285.out).2.1);(case side3=>refine (Kd.S_reads' (e:=112) (base:=w.heap.size) (ok:=fun k_=>(True∧some k_ ≠ (.slice Ao19 t276.length co19 : Value).ownBlock)) (n:=t286.length) (c:=co27) ?_).2.2;exact (by (with_reducible repeat (first|apply Kd.S_alloc|apply Kd.S_drewN|apply Kd.S_drew));exact (Kd.S_mono (Kd.S_far (p:=⟨gb289,3,none⟩) (Kd.S_far (p:=⟨gb289,2,none⟩) (Kd.S_far (p:=⟨gb289,1,none⟩) (Kd.S_far (p:=⟨gb289,0,none⟩) (Kd.S_types HO288.out BK289.out (by decide)) (fun _ hk=>hk.2) (.int .i64 t281)) (fun _ hk=>hk.2) (.string t282)) (fun _ hk=>hk.2) (.slice Ao26 t283.length co26)) (fun _ hk=>hk.2) (.slice Ao27 t286.length co27)) (fun _ h_=>h_.1))));(case side4=>exact (Kd.S_reads' HO288.out).2.1);rintro e w28 ⟨rfl,hb⟩;refine ⟨_,rfl,?_⟩;have n0_:=Aside0.mk (Kd.R_below (by (with_reducible repeat (first|apply Kd.R_alloc|apply Kd.R_drewN|apply Kd.R_drew));exact (Kd.R_mono (Kd.R_far (p:=⟨gb289,3,none⟩) (Kd.R_far (p:=⟨gb289,2,none⟩) (Kd.R_far (p:=⟨gb289,1,none⟩) (Kd.R_far (p:=⟨gb289,0,none⟩) (Kd.R_types HO275.out BK289.out (by decide)) (fun _ hk=>hk.2) (.int .i64 t281)) (fun _ hk=>hk.2) (.string t282)) (fun _ hk=>hk.2) (.slice Ao26 t283.length co26)) (fun _ hk=>hk.2) (.slice Ao27 t286.length co27)) (fun _ h_=>h_.1))) hb);have n1_:=Aside0.mk (Kd.S_below (by (with_reducible repeat (first|apply Kd.S_alloc|apply Kd.S_drewN|apply Kd.S_drew));exact (Kd.S_mono (Kd.S_far (p:=⟨gb289,3,none⟩) (Kd.S_far (p:=⟨gb289,2,none⟩) (Kd.S_far (p:=⟨gb289,1,none⟩) (Kd.S_far (p:=⟨gb289,0,none⟩) (Kd.S_types HO278.out BK289.out (by decide)) (fun _ hk=>hk.2) (.int .i64 t281)) (fun _ hk=>hk.2) (.string t282)) (fun _ hk=>hk.2) (.slice Ao26 t283.length co26)) (fun _ hk=>hk.2) (.slice Ao27 t286.length co27)) (fun _ h_=>h_.1))) hb);have n2_:=Aside0.mk (Kd.R_below (by (with_reducible repeat (first|apply Kd.R_alloc|apply Kd.R_drewN|apply Kd.R_drew));exact (Kd.R_mono (Kd.R_far (p:=⟨gb289,3,none⟩) (Kd.R_far (p:=⟨gb289,2,none⟩) (Kd.R_far (p:=⟨gb289,1,none⟩) (Kd.R_far (p:=⟨gb289,0,none⟩) (Kd.R_types HO285.out BK289.out (by decide)) (fun _ hk=>hk.2) (.int .i64 t281)) (fun _ hk=>hk.2) (.string t282)) (fun _ hk=>hk.2) (.slice Ao26 t283.length co26)) (fun _ hk=>hk.2) (.slice Ao27 t286.length co27)) (fun _ h_=>h_.1))) hb);have n3_:=Aside0.mk (Kd.S_below (by (with_reducible repeat (first|apply Kd.S_alloc|apply Kd.S_drewN|apply Kd.S_drew));exact (Kd.S_mono (Kd.S_far (p:=⟨gb289,3,none⟩) (Kd.S_far (p:=⟨gb289,2,none⟩) (Kd.S_far (p:=⟨gb289,1,none⟩) (Kd.S_far (p:=⟨gb289,0,none⟩) (Kd.S_types HO288.out BK289.out (by decide)) (fun _ hk=>hk.2) (.int .i64 t281)) (fun _ hk=>hk.2) (.string t282)) (fun _ hk=>hk.2) (.slice Ao26 t283.length co26)) (fun _ hk=>hk.2) (.slice Ao27 t286.length co27)) (fun _ h_=>h_.1))) hb);have n4_:=Aside0.mk (blk_below (g:=gb269) (o:=.cells #[.int .i64 a0_0,.string a0_1,.slice A0_2 l0_2.length c0_2,.slice A0_3 l0_3.length c0_3] 49 (0,0)) (by (with_reducible repeat first|apply blk_drewN|apply blk_drew|apply blk_alloc);refine blk_far ?_ NB269_289.out _;(with_reducible repeat first|apply blk_drewN|apply blk_drew|apply blk_alloc);refine blk_far ?_ NB269_289.out _;(with_reducible repeat first|apply blk_drewN|apply blk_drew|apply blk_alloc);refine blk_far ?_ NB269_289.out _;(with_reducible repeat first|apply blk_drewN|apply blk_drew|apply blk_alloc);refine blk_far ?_ NB269_289.out _;(with_reducible repeat first|apply blk_drewN|apply blk_drew|apply blk_alloc);exact BK269.out) hb);have n5_:=Aside0.mk (blk_below (g:=gb289) (o:=.cells #[.int .i64 t281,.string t282,.slice Ao26 t283.length co26,.slice Ao27 t286.length co27] 55 (0,0)) (by (with_reducible repeat first|apply blk_drewN|apply blk_drew|apply blk_alloc);refine blk_put (cs:=#[.int .i64 t281,.string t282,.slice Ao26 t283.length co26,.slice none 0 0]) ?_ 3 _ rfl;(with_reducible repeat first|apply blk_drewN|apply blk_drew|apply blk_alloc);refine blk_put (cs:=#[.int .i64 t281,.string t282,.slice none 0 0,.slice none 0 0]) ?_ 2 _ rfl;(with_reducible repeat first|apply blk_drewN|apply blk_drew|apply blk_alloc);refine blk_put (cs:=#[.int .i64 t281,.string (⟨#[]⟩ : ByteArray),.slice none 0 0,.slice none 0 0]) ?_ 1 _ rfl;(with_reducible repeat first|apply blk_drewN|apply blk_drew|apply blk_alloc);refine blk_put (cs:=#[.int .i64 0,.string (⟨#[]⟩ : ByteArray),.slice none 0 0,.slice none 0 0]) ?_ 0 _ rfl;(with_reducible repeat first|apply blk_drewN|apply blk_drew|apply blk_alloc);exact BK289.out) hb);have n6_:=Aside0.mk (below_step (by repeat (first|(with_reducible first|exact HB.out|apply below_alloc|apply pw_below_drewN|apply below_drew1|refine below_set ?_ GE269.out|refine below_set ?_ GE289.out)|exact HB.out)) hb);clear HO275;clear HO278;clear HO285;clear HO288;clear BK269;clear BK289;clear HB;have HO275:=n0_;have HO278:=n1_;have HO285:=n2_;have HO288:=n3_;have BK269:=n4_;have BK289:=n5_;have HB:=n6_;clear n0_ n1_ n2_ n3_ n4_ n5_ n6_;(try clear hb);(try clear hb2);(try clear hk);(try clear hi)))
  (try simp only [Act.put,List.setIfInBounds_toArray,List.set_cons_zero,List.set_cons_succ])
  go_cut [38] (fun v38 wc=>∃ (kq : Nat) (x38_11 : Bool),v38 = .bool x38_11∧Aside0 (laws_FnExactTextAt.j0 kq x38_11 a0_0 a0_1 l0_2 l0_3 t281 t282 t283 t286 = some r)∧Aside0 (kq ≤ k)∧Aside0 (Kd.R k74 74 wc w.heap.size (fun _=>True) (.slice Ao26 t283.length co26) t283)∧Aside0 (Kd.S k112 112 wc w.heap.size (fun _=>True) (.slice Ao27 t286.length co27) t286)∧Aside0 (wc.heap[gb269]? = some (.cells #[.int .i64 a0_0,.string a0_1,(.slice A0_2 l0_2.length c0_2),(.slice A0_3 l0_3.length c0_3)] 49 (0,0)))∧Aside0 (wc.heap[gb289]? = some (.cells #[.int .i64 t281,.string t282,(.slice Ao26 t283.length co26),(.slice Ao27 t286.length co27)] 55 (0,0)))∧Aside0 (Below w.heap.size w wc))
  case first =>
   have H:=HC12.out
   clear HC12
   by_cases c29 : t290.toList = t279.toList
   ·rw [if_pos c29] at H
    have c29b0 : (t290.toList == t279.toList) = true:=beq_iff_eq.mpr c29
    have c29b1 : (t290.toList != t279.toList) = false:=bne_eq_false_iff_eq.mpr c29
    clear c29
    (first|rw [c29b0]|(simp only [i64_w,i32_w];rw [c29b0])|skip)
    have H':=Aside0.mk H
    clear H
    go_wp2
    go_meet
    case rel=>exact ⟨_,((t291 != t280)),(by first|rfl|(simp;done)|(simp [*];done)),H',⟨by first|omega|exact Nat.le_refl _⟩,⟨by (with_reducible repeat (first|apply Kd.R_alloc|apply Kd.R_drewN|apply Kd.R_drew));exact Kd.R_mono HO285.out (fun _ hk=>trivial)⟩,⟨by (with_reducible repeat (first|apply Kd.S_alloc|apply Kd.S_drewN|apply Kd.S_drew));exact Kd.S_mono HO288.out (fun _ hk=>trivial)⟩,⟨by (with_reducible repeat first|apply blk_drewN|apply blk_drew|apply blk_alloc);exact BK269.out⟩,⟨by (with_reducible repeat first|apply blk_drewN|apply blk_drew|apply blk_alloc);exact BK289.out⟩,⟨by repeat (first|(with_reducible first|exact HB.out|apply below_alloc|apply pw_below_drewN|apply below_drew1|refine below_set ?_ GE269.out|refine below_set ?_ GE289.out)|exact HB.out)⟩⟩
   ·rw [if_neg c29] at H
    have c29b0 : (t290.toList == t279.toList) = false:=beq_eq_false_iff_ne.mpr c29
    have c29b1 : (t290.toList != t279.toList) = true:=bne_iff_ne.mpr c29
    (first|rw [c29b0]|(simp only [i64_w,i32_w];rw [c29b0])|skip)
    have H':=Aside0.mk H
    clear H
    go_wp2
    go_meet
    case rel=>exact ⟨_,(true),(by first|rfl|(simp;done)|(simp [*];done)),H',⟨by first|omega|exact Nat.le_refl _⟩,⟨by (with_reducible repeat (first|apply Kd.R_alloc|apply Kd.R_drewN|apply Kd.R_drew));exact Kd.R_mono HO285.out (fun _ hk=>trivial)⟩,⟨by (with_reducible repeat (first|apply Kd.S_alloc|apply Kd.S_drewN|apply Kd.S_drew));exact Kd.S_mono HO288.out (fun _ hk=>trivial)⟩,⟨by (with_reducible repeat first|apply blk_drewN|apply blk_drew|apply blk_alloc);exact BK269.out⟩,⟨by (with_reducible repeat first|apply blk_drewN|apply blk_drew|apply blk_alloc);exact BK289.out⟩,⟨by repeat (first|(with_reducible first|exact HB.out|apply below_alloc|apply pw_below_drewN|apply below_drew1|refine below_set ?_ GE269.out|refine below_set ?_ GE289.out)|exact HB.out)⟩⟩
  case rest =>
   clear HC12
   try clear c2;try clear p2;try clear c3;try clear c4;try clear c4b0;try clear c7;try clear c24;try clear c29;try clear c29b0;try clear c29b1;try clear hcz14_0;try clear hcz14_1;try clear hcz14_2;try clear hcz14_3;try clear hcz16_0;try clear hcz16_1;try clear hcz16_2;try clear hcz16_3;try clear hcz21_0;try clear hcz21_1;try clear hcz21_2;try clear hcz21_3;try clear hcz25_0;try clear hcz25_1;try clear hcz25_2;try clear hcz25_3;try clear hcz6_0;try clear hcz6_1;try clear hcz6_2;try clear hcz6_3;try clear hfz14_0;try clear hfz14_1;try clear hfz14_2;try clear hfz14_3;try clear hfz16_0;try clear hfz16_1;try clear hfz16_2;try clear hfz16_3;try clear hfz21_0;try clear hfz21_1;try clear hfz21_2;try clear hfz21_3;try clear hfz25_0;try clear hfz25_1;try clear hfz25_2;try clear hfz25_3;try clear hfz6_0;try clear hfz6_1;try clear hfz6_2;try clear hfz6_3
   obtain ⟨kq,x38_11,rfl,HA,HJ11,HO_290002,HO_290003,BK269,BK289,HB⟩:=hcut
   cases kq with
   | zero=>exact absurd HA.out (by simp [laws_FnExactTextAt.j0])
   | succ kj11 =>
    have H:=HA.out
    clear HA
    simp only [laws_FnExactTextAt.j0] at H
    by_cases c30 : x38_11 = true
    ·subst c30
     have H1 : (some false) = some r:=by rw [if_pos rfl] at H;exact H
     clear H
     have H:=H1
     clear H1
     obtain rfl:=Option.some.inj H
     go_wp2
     go_ret
     exact ⟨by first|rfl|(simp [*,errW_none,errW_some] <;> rfl),by repeat (first|(with_reducible first|exact HB.out|apply below_alloc|apply pw_below_drewN|apply below_drew1|refine below_set ?_ GE269.out|refine below_set ?_ GE289.out)|exact HB.out)⟩
    ·replace c30:=Bool.eq_false_iff.mpr c30
     subst c30
     have H1 : ((laws_toHistory.f kj11 a0_0 a0_1 l0_2 l0_3).bind fun bt292=>((laws_eqHistory.f kj11 t281 t282 t283 t286 bt292.1 bt292.2.1 bt292.2.2.1 bt292.2.2.2).bind fun t300=>(if t300 = true then (some true) else (some false)))) = some r:=by rw [if_neg (show ¬ (false = true) by decide)] at H;exact H
     clear H
     have H:=H1
     clear H1
     replace H:=Option.bind_eq_some_iff.mp H
     obtain ⟨⟨t292,t293,t294,t297⟩,A310,H⟩:=H
     replace H : ((laws_eqHistory.f kj11 t281 t282 t283 t286 t292 t293 t294 t297).bind fun t300=>(if t300 = true then (some true) else (some false))) = some r:=H
     have A31:=Aside0.mk A310
     clear A310
     replace H:=Option.bind_eq_some_iff.mp H
     obtain ⟨t300,A320,H⟩:=H
     replace H : (if t300 = true then (some true) else (some false)) = some r:=H
     have A32:=Aside0.mk A320
     clear A320
     by_cases c33 : t300 = true
     ·subst c33
      have H1 : (some true) = some r:=by rw [if_pos rfl] at H;exact H
      clear H
      have H:=H1
      clear H1
      obtain rfl:=Option.some.inj H
      try go_wp2
      have n0_:=Aside0.mk (Kd.R_drew HO_290002.out)
      have n1_:=Aside0.mk (Kd.S_drew HO_290003.out)
      have n2_:=Aside0.mk (blk_drew BK269.out)
      have n3_:=Aside0.mk (blk_drew BK289.out)
      have n4_:=Aside0.mk (below_drew1 HB.out)
      clear HO_290002
      clear HO_290003
      clear BK269
      clear BK289
      clear HB
      have HO_290002:=n0_
      have HO_290003:=n1_
      have BK269:=n2_
      have BK289:=n3_
      have HB:=n4_
      clear n0_ n1_ n2_ n3_ n4_
      refine start_ (n:=5) (S:=fun w'=>w'.cell? ⟨gb289,0,none⟩ = some (.int .i64 t281)∧w'.cell? ⟨gb289,1,none⟩ = some (.string t282)∧w'.cell? ⟨gb289,2,none⟩ = some (.slice Ao26 t283.length co26)∧w'.cell? ⟨gb289,3,none⟩ = some (.slice Ao27 t286.length co27)∧w'.cell? ⟨gb269,0,none⟩ = some (.int .i64 a0_0)∧w'.cell? ⟨gb269,1,none⟩ = some (.string a0_1)∧w'.cell? ⟨gb269,2,none⟩ = some (.slice A0_2 l0_2.length c0_2)∧w'.cell? ⟨gb269,3,none⟩ = some (.slice A0_3 l0_3.length c0_3)) (ds:=[]) #[false,false,false,false,false] (by kernel_rfl) rfl rfl ⟨(blk_cell BK289.out 0).trans rfl,(blk_cell BK289.out 1).trans rfl,(blk_cell BK289.out 2).trans rfl,(blk_cell BK289.out 3).trans rfl,(blk_cell BK269.out 0).trans rfl,(blk_cell BK269.out 1).trans rfl,(blk_cell BK269.out 2).trans rfl,(blk_cell BK269.out 3).trans rfl⟩ (fun hHeld=>?_)
      generalize wc.drew = w34 at HO_290002 HO_290003 BK269 BK289 HB hHeld ⊢
      refine take_ (i:=0) (N:=some 39) (v:=?_) (a':=?_) #[true,false,false,false,false] rfl rfl (by kernel_rfl) (fun _ _ _ h=>h) (Or.inl ⟨by rfl,?_⟩) hHeld ?_ ?_
      rotate_left
      ·rintro w' ⟨s0,s1,s2,s3,s4,s5,s6,s7⟩
       go_simp
       with_reducible rfl
      rotate_left
      ·simp only [Act.put,List.setIfInBounds_toArray,List.set_cons_zero,List.set_cons_succ,i64_w,i32_w]
       rfl
      refine take_ (i:=1) (N:=some 40) (v:=?_) (a':=?_) #[true,true,false,false,false] rfl rfl (by kernel_rfl) (fun _ _ _ h=>h) (Or.inl ⟨by rfl,?_⟩) hHeld ?_ ?_
      rotate_left
      ·rintro w' ⟨s0,s1,s2,s3,s4,s5,s6,s7⟩
       go_simp
       with_reducible rfl
      rotate_left
      ·simp only [Act.put,List.setIfInBounds_toArray,List.set_cons_zero,List.set_cons_succ,i64_w,i32_w]
       rfl
      refine one_ (i:=2) (N:=some 41) #[true,true,true,false,false] rfl rfl (by kernel_rfl) (by decide) (fun K hK=>?_)
      refine goes_ Try.func33 (by kernel_rfl) rfl #[.agg #[.int .i64 a0_0,.string a0_1,.slice A0_2 l0_2.length c0_2,.slice A0_3 l0_3.length c0_3]] (by rfl) rfl rfl (by (try simp only [List.map_toArray,List.map_cons,List.map_nil]);first|done|rfl|(simp only [List.length_drop,List.length_take];rfl)) ?_
      with_reducible refine (laws_toHistory.calls kj11 a0_0 a0_1 _ _ l0_2 _ _ l0_3 t292 t293 t294 t297 _ ?side1 ?side2 ?side3 ?side4 A31.out).mono ?_
      (case side1=>repeat (first|exact (Kd.C_below HR0_2.out HB.out)|(with_reducible first|apply Kd.C_alloc|apply Kd.C_drewN|apply Kd.C_drew)))
      (case side2=>exact HC0_2.out)
      (case side3=>repeat (first|exact (Kd.C_below HR0_3.out HB.out)|(with_reducible first|apply Kd.C_alloc|apply Kd.C_drewN|apply Kd.C_drew)))
      (case side4=>exact HC0_3.out)
      rintro e w35 ⟨v295,v298,rfl,ho0,ho1,hb⟩
      refine ⟨_,rfl,?_⟩
      have n0_:=Aside0.mk (Kd.R_elder' (by (with_reducible repeat (first|apply Kd.R_alloc|apply Kd.R_drewN|apply Kd.R_drew));exact HO_290002.out) (Kd.R_base ho0) hb)
      have n1_:=Aside0.mk (Kd.S_elder' (by (with_reducible repeat (first|apply Kd.S_alloc|apply Kd.S_drewN|apply Kd.S_drew));exact HO_290003.out) (Kd.S_base ho1) hb)
      have n2_:=Aside0.mk (Kd.R_lower (Kd.R_new' ho0 (Kd.R_lt (by (with_reducible repeat (first|apply Kd.R_alloc|apply Kd.R_drewN|apply Kd.R_drew));exact HO_290002.out))) (below_size (by repeat (first|(with_reducible first|exact HB.out|apply below_alloc|apply pw_below_drewN|apply below_drew1|refine below_set ?_ GE269.out|refine below_set ?_ GE289.out)|exact HB.out))))
      have n3_:=Aside0.mk (Kd.S_lower (Kd.S_new' ho1 (Kd.S_lt (by (with_reducible repeat (first|apply Kd.S_alloc|apply Kd.S_drewN|apply Kd.S_drew));exact HO_290003.out))) (below_size (by repeat (first|(with_reducible first|exact HB.out|apply below_alloc|apply pw_below_drewN|apply below_drew1|refine below_set ?_ GE269.out|refine below_set ?_ GE289.out)|exact HB.out))))
      have n4_:=Aside0.mk (blk_below (g:=gb269) (o:=.cells #[.int .i64 a0_0,.string a0_1,.slice A0_2 l0_2.length c0_2,.slice A0_3 l0_3.length c0_3] 49 (0,0)) (by (with_reducible repeat first|apply blk_drewN|apply blk_drew|apply blk_alloc);exact BK269.out) hb)
      have n5_:=Aside0.mk (blk_below (g:=gb289) (o:=.cells #[.int .i64 t281,.string t282,.slice Ao26 t283.length co26,.slice Ao27 t286.length co27] 55 (0,0)) (by (with_reducible repeat first|apply blk_drewN|apply blk_drew|apply blk_alloc);exact BK289.out) hb)
      have n6_:=Aside0.mk (below_step (by repeat (first|(with_reducible first|exact HB.out|apply below_alloc|apply pw_below_drewN|apply below_drew1|refine below_set ?_ GE269.out|refine below_set ?_ GE289.out)|exact HB.out)) hb)
      clear HO_290002
      clear HO_290003
      clear BK269
      clear BK289
      clear HB
      have HO_290002:=n0_
      have HO_290003:=n1_
      have HO296:=n2_
      have HO299:=n3_
      have BK269:=n4_
      have BK289:=n5_
      have HB:=n6_
      clear n0_ n1_ n2_ n3_ n4_ n5_ n6_
      (try clear hb)
      (try clear hb2)
      (try clear hk)
      (try clear hi)
      (try clear ho0)
      (try clear ho1)
      obtain ⟨Ao36,co36,eo36⟩:=Kd.R_slice HO296.out
      (first|subst eo36|(injection eo36 with f1_ f2_ f3_;have f4_:=f1_.symm;have f5_:=f3_.symm;clear f1_ f2_ f3_;subst f4_;subst f5_))
      obtain ⟨Ao37,co37,eo37⟩:=Kd.S_slice HO299.out
      (first|subst eo37|(injection eo37 with f1_ f2_ f3_;have f4_:=f1_.symm;have f5_:=f3_.symm;clear f1_ f2_ f3_;subst f4_;subst f5_))
      refine hK.out _ _ ⟨(blk_cell BK289.out 0).trans rfl,(blk_cell BK289.out 1).trans rfl,(blk_cell BK289.out 2).trans rfl,(blk_cell BK289.out 3).trans rfl,(blk_cell BK269.out 0).trans rfl,(blk_cell BK269.out 1).trans rfl,(blk_cell BK269.out 2).trans rfl,(blk_cell BK269.out 3).trans rfl⟩ (fun hHeld=>?_)
      clear hK K
      refine norm_ (a':=?_) ?_ ?_
      rotate_left
      ·show Act.put _ (some 41) _ = _
       simp only [Act.put,List.setIfInBounds_toArray,List.set_cons_zero,List.set_cons_succ,i64_w,i32_w]
       rfl
      refine one_ (i:=3) (N:=some 42) #[true,true,true,true,false] rfl rfl (by kernel_rfl) (by decide) (fun K hK=>?_)
      refine goes_ Try.func35 (by kernel_rfl) rfl #[.agg #[.int .i64 t281,.string t282,.slice Ao26 t283.length co26,.slice Ao27 t286.length co27],.agg #[.int .i64 t292,.string t293,.slice Ao36 t294.length co36,.slice Ao37 t297.length co37]] (by rfl) rfl rfl (by (try simp only [List.map_toArray,List.map_cons,List.map_nil]);first|done|rfl|(simp only [List.length_drop,List.length_take];rfl)) ?_
      with_reducible refine (laws_eqHistory.calls kj11 t281 t282 _ _ t283 _ _ t286 t292 t293 _ _ t294 _ _ t297 true _ ?side1 ?side2 ?side3 ?side4 ?side5 ?side6 ?side7 ?side8 A32.out).mono ?_
      (case side1=>repeat (first|exact (Kd.R_reads' HO_290002.out).2.2|(with_reducible first|apply Kd.C_alloc|apply Kd.C_drewN|apply Kd.C_drew)))
      (case side2=>exact (Kd.R_reads' HO_290002.out).2.1)
      (case side3=>repeat (first|exact (Kd.S_reads' HO_290003.out).2.2|(with_reducible first|apply Kd.C_alloc|apply Kd.C_drewN|apply Kd.C_drew)))
      (case side4=>exact (Kd.S_reads' HO_290003.out).2.1)
      (case side5=>repeat (first|exact (Kd.R_reads' HO296.out).2.2|(with_reducible first|apply Kd.C_alloc|apply Kd.C_drewN|apply Kd.C_drew)))
      (case side6=>exact (Kd.R_reads' HO296.out).2.1)
      (case side7=>repeat (first|exact (Kd.S_reads' HO299.out).2.2|(with_reducible first|apply Kd.C_alloc|apply Kd.C_drewN|apply Kd.C_drew)))
      (case side8=>exact (Kd.S_reads' HO299.out).2.1)
      rintro e w38 ⟨rfl,hb⟩
      refine ⟨_,rfl,?_⟩
      have n0_:=Aside0.mk (Kd.R_below (by (with_reducible repeat (first|apply Kd.R_alloc|apply Kd.R_drewN|apply Kd.R_drew));exact HO_290002.out) hb)
      have n1_:=Aside0.mk (Kd.S_below (by (with_reducible repeat (first|apply Kd.S_alloc|apply Kd.S_drewN|apply Kd.S_drew));exact HO_290003.out) hb)
      have n2_:=Aside0.mk (Kd.R_below (by (with_reducible repeat (first|apply Kd.R_alloc|apply Kd.R_drewN|apply Kd.R_drew));exact HO296.out) hb)
      have n3_:=Aside0.mk (Kd.S_below (by (with_reducible repeat (first|apply Kd.S_alloc|apply Kd.S_drewN|apply Kd.S_drew));exact HO299.out) hb)
      have n4_:=Aside0.mk (blk_below (g:=gb269) (o:=.cells #[.int .i64 a0_0,.string a0_1,.slice A0_2 l0_2.length c0_2,.slice A0_3 l0_3.length c0_3] 49 (0,0)) (by (with_reducible repeat first|apply blk_drewN|apply blk_drew|apply blk_alloc);exact BK269.out) hb)
      have n5_:=Aside0.mk (blk_below (g:=gb289) (o:=.cells #[.int .i64 t281,.string t282,.slice Ao26 t283.length co26,.slice Ao27 t286.length co27] 55 (0,0)) (by (with_reducible repeat first|apply blk_drewN|apply blk_drew|apply blk_alloc);exact BK289.out) hb)
      have n6_:=Aside0.mk (below_step (by repeat (first|(with_reducible first|exact HB.out|apply below_alloc|apply pw_below_drewN|apply below_drew1|refine below_set ?_ GE269.out|refine below_set ?_ GE289.out)|exact HB.out)) hb)
      clear HO_290002
      clear HO_290003
      clear HO296
      clear HO299
      clear BK269
      clear BK289
      clear HB
      have HO_290002:=n0_
      have HO_290003:=n1_
      have HO296:=n2_
      have HO299:=n3_
      have BK269:=n4_
      have BK289:=n5_
      have HB:=n6_
      clear n0_ n1_ n2_ n3_ n4_ n5_ n6_
      (try clear hb)
      (try clear hb2)
      (try clear hk)
      (try clear hi)
      refine hK.out _ _ ⟨(blk_cell BK289.out 0).trans rfl,(blk_cell BK289.out 1).trans rfl,(blk_cell BK289.out 2).trans rfl,(blk_cell BK289.out 3).trans rfl,(blk_cell BK269.out 0).trans rfl,(blk_cell BK269.out 1).trans rfl,(blk_cell BK269.out 2).trans rfl,(blk_cell BK269.out 3).trans rfl⟩ (fun hHeld=>?_)
      clear hK K
      refine norm_ (a':=?_) ?_ ?_
      rotate_left
      ·show Act.put _ (some 42) _ = _
       simp only [Act.put,List.setIfInBounds_toArray,List.set_cons_zero,List.set_cons_succ,i64_w,i32_w]
       rfl
      refine pure_ (i:=4) (N:=some 43) (v:=?_) (a':=?_) #[true,true,true,true,true] rfl rfl (by kernel_rfl) (fun _ _ _ h=>h) (Or.inl ⟨by rfl,?_⟩) ?_ ?_
      rotate_left
      ·intro w'
       go_simp
       with_reducible rfl
      rotate_left
      ·simp only [Act.put,List.setIfInBounds_toArray,List.set_cons_zero,List.set_cons_succ,i64_w,i32_w]
       rfl
      refine done_ (by kernel_rfl) ?_
      try go_wp2
      go_ret
      exact ⟨by first|rfl|(simp [*,errW_none,errW_some] <;> rfl),by repeat (first|(with_reducible first|exact HB.out|apply below_alloc|apply pw_below_drewN|apply below_drew1|refine below_set ?_ GE269.out|refine below_set ?_ GE289.out)|exact HB.out)⟩
     ·replace c33:=Bool.eq_false_iff.mpr c33
      subst c33
      have H1 : (some false) = some r:=by rw [if_neg (show ¬ (false = true) by decide)] at H;exact H
      clear H
      have H:=H1
      clear H1
      obtain rfl:=Option.some.inj H
      try go_wp2
      have n0_:=Aside0.mk (Kd.R_drew HO_290002.out)
      have n1_:=Aside0.mk (Kd.S_drew HO_290003.out)
      have n2_:=Aside0.mk (blk_drew BK269.out)
      have n3_:=Aside0.mk (blk_drew BK289.out)
      have n4_:=Aside0.mk (below_drew1 HB.out)
      clear HO_290002
      clear HO_290003
      clear BK269
      clear BK289
      clear HB
      have HO_290002:=n0_
      have HO_290003:=n1_
      have BK269:=n2_
      have BK289:=n3_
      have HB:=n4_
      clear n0_ n1_ n2_ n3_ n4_
      refine start_ (n:=5) (S:=fun w'=>w'.cell? ⟨gb289,0,none⟩ = some (.int .i64 t281)∧w'.cell? ⟨gb289,1,none⟩ = some (.string t282)∧w'.cell? ⟨gb289,2,none⟩ = some (.slice Ao26 t283.length co26)∧w'.cell? ⟨gb289,3,none⟩ = some (.slice Ao27 t286.length co27)∧w'.cell? ⟨gb269,0,none⟩ = some (.int .i64 a0_0)∧w'.cell? ⟨gb269,1,none⟩ = some (.string a0_1)∧w'.cell? ⟨gb269,2,none⟩ = some (.slice A0_2 l0_2.length c0_2)∧w'.cell? ⟨gb269,3,none⟩ = some (.slice A0_3 l0_3.length c0_3)) (ds:=[]) #[false,false,false,false,false] (by kernel_rfl) rfl rfl ⟨(blk_cell BK289.out 0).trans rfl,(blk_cell BK289.out 1).trans rfl,(blk_cell BK289.out 2).trans rfl,(blk_cell BK289.out 3).trans rfl,(blk_cell BK269.out 0).trans rfl,(blk_cell BK269.out 1).trans rfl,(blk_cell BK269.out 2).trans rfl,(blk_cell BK269.out 3).trans rfl⟩ (fun hHeld=>?_)
      generalize wc.drew = w39 at HO_290002 HO_290003 BK269 BK289 HB hHeld ⊢
      refine take_ (i:=0) (N:=some 39) (v:=?_) (a':=?_) #[true,false,false,false,false] rfl rfl (by kernel_rfl) (fun _ _ _ h=>h) (Or.inl ⟨by rfl,?_⟩) hHeld ?_ ?_
      rotate_left
      ·rintro w' ⟨s0,s1,s2,s3,s4,s5,s6,s7⟩
       go_simp
       with_reducible rfl
      rotate_left
      ·simp only [Act.put,List.setIfInBounds_toArray,List.set_cons_zero,List.set_cons_succ,i64_w,i32_w]
       rfl
      refine take_ (i:=1) (N:=some 40) (v:=?_) (a':=?_) #[true,true,false,false,false] rfl rfl (by kernel_rfl) (fun _ _ _ h=>h) (Or.inl ⟨by rfl,?_⟩) hHeld ?_ ?_
      rotate_left
      ·rintro w' ⟨s0,s1,s2,s3,s4,s5,s6,s7⟩
       go_simp
       with_reducible rfl
      rotate_left
      ·simp only [Act.put,List.setIfInBounds_toArray,List.set_cons_zero,List.set_cons_succ,i64_w,i32_w]
       rfl
      refine one_ (i:=2) (N:=some 41) #[true,true,true,false,false] rfl rfl (by kernel_rfl) (by decide) (fun K hK=>?_)
      refine goes_ Try.func33 (by kernel_rfl) rfl #[.agg #[.int .i64 a0_0,.string a0_1,.slice A0_2 l0_2.length c0_2,.slice A0_3 l0_3.length c0_3]] (by rfl) rfl rfl (by (try simp only [List.map_toArray,List.map_cons,List.map_nil]);first|done|rfl|(simp only [List.length_drop,List.length_take];rfl)) ?_
      with_reducible refine (laws_toHistory.calls kj11 a0_0 a0_1 _ _ l0_2 _ _ l0_3 t292 t293 t294 t297 _ ?side1 ?side2 ?side3 ?side4 A31.out).mono ?_
      (case side1=>repeat (first|exact (Kd.C_below HR0_2.out HB.out)|(with_reducible first|apply Kd.C_alloc|apply Kd.C_drewN|apply Kd.C_drew)))
      (case side2=>exact HC0_2.out)
      (case side3=>repeat (first|exact (Kd.C_below HR0_3.out HB.out)|(with_reducible first|apply Kd.C_alloc|apply Kd.C_drewN|apply Kd.C_drew)))
      (case side4=>exact HC0_3.out)
      rintro e w40 ⟨v295,v298,rfl,ho0,ho1,hb⟩
      refine ⟨_,rfl,?_⟩
      have n0_:=Aside0.mk (Kd.R_elder' (by (with_reducible repeat (first|apply Kd.R_alloc|apply Kd.R_drewN|apply Kd.R_drew));exact HO_290002.out) (Kd.R_base ho0) hb)
      have n1_:=Aside0.mk (Kd.S_elder' (by (with_reducible repeat (first|apply Kd.S_alloc|apply Kd.S_drewN|apply Kd.S_drew));exact HO_290003.out) (Kd.S_base ho1) hb)
      have n2_:=Aside0.mk (Kd.R_lower (Kd.R_new' ho0 (Kd.R_lt (by (with_reducible repeat (first|apply Kd.R_alloc|apply Kd.R_drewN|apply Kd.R_drew));exact HO_290002.out))) (below_size (by repeat (first|(with_reducible first|exact HB.out|apply below_alloc|apply pw_below_drewN|apply below_drew1|refine below_set ?_ GE269.out|refine below_set ?_ GE289.out)|exact HB.out))))
      have n3_:=Aside0.mk (Kd.S_lower (Kd.S_new' ho1 (Kd.S_lt (by (with_reducible repeat (first|apply Kd.S_alloc|apply Kd.S_drewN|apply Kd.S_drew));exact HO_290003.out))) (below_size (by repeat (first|(with_reducible first|exact HB.out|apply below_alloc|apply pw_below_drewN|apply below_drew1|refine below_set ?_ GE269.out|refine below_set ?_ GE289.out)|exact HB.out))))
      have n4_:=Aside0.mk (blk_below (g:=gb269) (o:=.cells #[.int .i64 a0_0,.string a0_1,.slice A0_2 l0_2.length c0_2,.slice A0_3 l0_3.length c0_3] 49 (0,0)) (by (with_reducible repeat first|apply blk_drewN|apply blk_drew|apply blk_alloc);exact BK269.out) hb)
      have n5_:=Aside0.mk (blk_below (g:=gb289) (o:=.cells #[.int .i64 t281,.string t282,.slice Ao26 t283.length co26,.slice Ao27 t286.length co27] 55 (0,0)) (by (with_reducible repeat first|apply blk_drewN|apply blk_drew|apply blk_alloc);exact BK289.out) hb)
      have n6_:=Aside0.mk (below_step (by repeat (first|(with_reducible first|exact HB.out|apply below_alloc|apply pw_below_drewN|apply below_drew1|refine below_set ?_ GE269.out|refine below_set ?_ GE289.out)|exact HB.out)) hb)
      clear HO_290002
      clear HO_290003
      clear BK269
      clear BK289
      clear HB
      have HO_290002:=n0_
      have HO_290003:=n1_
      have HO296:=n2_
      have HO299:=n3_
      have BK269:=n4_
      have BK289:=n5_
      have HB:=n6_
      clear n0_ n1_ n2_ n3_ n4_ n5_ n6_
      (try clear hb)
      (try clear hb2)
      (try clear hk)
      (try clear hi)
      (try clear ho0)
      (try clear ho1)
      obtain ⟨Ao41,co41,eo41⟩:=Kd.R_slice HO296.out
      (first|subst eo41|(injection eo41 with f1_ f2_ f3_;have f4_:=f1_.symm;have f5_:=f3_.symm;clear f1_ f2_ f3_;subst f4_;subst f5_))
      obtain ⟨Ao42,co42,eo42⟩:=Kd.S_slice HO299.out
      (first|subst eo42|(injection eo42 with f1_ f2_ f3_;have f4_:=f1_.symm;have f5_:=f3_.symm;clear f1_ f2_ f3_;subst f4_;subst f5_))
      refine hK.out _ _ ⟨(blk_cell BK289.out 0).trans rfl,(blk_cell BK289.out 1).trans rfl,(blk_cell BK289.out 2).trans rfl,(blk_cell BK289.out 3).trans rfl,(blk_cell BK269.out 0).trans rfl,(blk_cell BK269.out 1).trans rfl,(blk_cell BK269.out 2).trans rfl,(blk_cell BK269.out 3).trans rfl⟩ (fun hHeld=>?_)
      clear hK K
      refine norm_ (a':=?_) ?_ ?_
      rotate_left
      ·show Act.put _ (some 41) _ = _
       simp only [Act.put,List.setIfInBounds_toArray,List.set_cons_zero,List.set_cons_succ,i64_w,i32_w]
       rfl
      refine one_ (i:=3) (N:=some 42) #[true,true,true,true,false] rfl rfl (by kernel_rfl) (by decide) (fun K hK=>?_)
      refine goes_ Try.func35 (by kernel_rfl) rfl #[.agg #[.int .i64 t281,.string t282,.slice Ao26 t283.length co26,.slice Ao27 t286.length co27],.agg #[.int .i64 t292,.string t293,.slice Ao41 t294.length co41,.slice Ao42 t297.length co42]] (by rfl) rfl rfl (by (try simp only [List.map_toArray,List.map_cons,List.map_nil]);first|done|rfl|(simp only [List.length_drop,List.length_take];rfl)) ?_
      with_reducible refine (laws_eqHistory.calls kj11 t281 t282 _ _ t283 _ _ t286 t292 t293 _ _ t294 _ _ t297 false _ ?side1 ?side2 ?side3 ?side4 ?side5 ?side6 ?side7 ?side8 A32.out).mono ?_
      (case side1=>repeat (first|exact (Kd.R_reads' HO_290002.out).2.2|(with_reducible first|apply Kd.C_alloc|apply Kd.C_drewN|apply Kd.C_drew)))
      (case side2=>exact (Kd.R_reads' HO_290002.out).2.1)
      (case side3=>repeat (first|exact (Kd.S_reads' HO_290003.out).2.2|(with_reducible first|apply Kd.C_alloc|apply Kd.C_drewN|apply Kd.C_drew)))
      (case side4=>exact (Kd.S_reads' HO_290003.out).2.1)
      (case side5=>repeat (first|exact (Kd.R_reads' HO296.out).2.2|(with_reducible first|apply Kd.C_alloc|apply Kd.C_drewN|apply Kd.C_drew)))
      (case side6=>exact (Kd.R_reads' HO296.out).2.1)
      (case side7=>repeat (first|exact (Kd.S_reads' HO299.out).2.2|(with_reducible first|apply Kd.C_alloc|apply Kd.C_drewN|apply Kd.C_drew)))
      (case side8=>exact (Kd.S_reads' HO299.out).2.1)
      rintro e w43 ⟨rfl,hb⟩
      refine ⟨_,rfl,?_⟩
      have n0_:=Aside0.mk (Kd.R_below (by (with_reducible repeat (first|apply Kd.R_alloc|apply Kd.R_drewN|apply Kd.R_drew));exact HO_290002.out) hb)
      have n1_:=Aside0.mk (Kd.S_below (by (with_reducible repeat (first|apply Kd.S_alloc|apply Kd.S_drewN|apply Kd.S_drew));exact HO_290003.out) hb)
      have n2_:=Aside0.mk (Kd.R_below (by (with_reducible repeat (first|apply Kd.R_alloc|apply Kd.R_drewN|apply Kd.R_drew));exact HO296.out) hb)
      have n3_:=Aside0.mk (Kd.S_below (by (with_reducible repeat (first|apply Kd.S_alloc|apply Kd.S_drewN|apply Kd.S_drew));exact HO299.out) hb)
      have n4_:=Aside0.mk (blk_below (g:=gb269) (o:=.cells #[.int .i64 a0_0,.string a0_1,.slice A0_2 l0_2.length c0_2,.slice A0_3 l0_3.length c0_3] 49 (0,0)) (by (with_reducible repeat first|apply blk_drewN|apply blk_drew|apply blk_alloc);exact BK269.out) hb)
      have n5_:=Aside0.mk (blk_below (g:=gb289) (o:=.cells #[.int .i64 t281,.string t282,.slice Ao26 t283.length co26,.slice Ao27 t286.length co27] 55 (0,0)) (by (with_reducible repeat first|apply blk_drewN|apply blk_drew|apply blk_alloc);exact BK289.out) hb)
      have n6_:=Aside0.mk (below_step (by repeat (first|(with_reducible first|exact HB.out|apply below_alloc|apply pw_below_drewN|apply below_drew1|refine below_set ?_ GE269.out|refine below_set ?_ GE289.out)|exact HB.out)) hb)
      clear HO_290002
      clear HO_290003
      clear HO296
      clear HO299
      clear BK269
      clear BK289
      clear HB
      have HO_290002:=n0_
      have HO_290003:=n1_
      have HO296:=n2_
      have HO299:=n3_
      have BK269:=n4_
      have BK289:=n5_
      have HB:=n6_
      clear n0_ n1_ n2_ n3_ n4_ n5_ n6_
      (try clear hb)
      (try clear hb2)
      (try clear hk)
      (try clear hi)
      refine hK.out _ _ ⟨(blk_cell BK289.out 0).trans rfl,(blk_cell BK289.out 1).trans rfl,(blk_cell BK289.out 2).trans rfl,(blk_cell BK289.out 3).trans rfl,(blk_cell BK269.out 0).trans rfl,(blk_cell BK269.out 1).trans rfl,(blk_cell BK269.out 2).trans rfl,(blk_cell BK269.out 3).trans rfl⟩ (fun hHeld=>?_)
      clear hK K
      refine norm_ (a':=?_) ?_ ?_
      rotate_left
      ·show Act.put _ (some 42) _ = _
       simp only [Act.put,List.setIfInBounds_toArray,List.set_cons_zero,List.set_cons_succ,i64_w,i32_w]
       rfl
      refine pure_ (i:=4) (N:=some 43) (v:=?_) (a':=?_) #[true,true,true,true,true] rfl rfl (by kernel_rfl) (fun _ _ _ h=>h) (Or.inl ⟨by rfl,?_⟩) ?_ ?_
      rotate_left
      ·intro w'
       go_simp
       with_reducible rfl
      rotate_left
      ·simp only [Act.put,List.setIfInBounds_toArray,List.set_cons_zero,List.set_cons_succ,i64_w,i32_w]
       rfl
      refine done_ (by kernel_rfl) ?_
      try go_wp2
      go_ret
      exact ⟨by first|rfl|(simp [*,errW_none,errW_some] <;> rfl),by repeat (first|(with_reducible first|exact HB.out|apply below_alloc|apply pw_below_drewN|apply below_drew1|refine below_set ?_ GE269.out|refine below_set ?_ GE289.out)|exact HB.out)⟩

end Go.Proofs.Ytdlicabmalljpaa.PFnExactTextAt
