-- Written by a program of this session over the print of the kit (wip/t/patch_print.py).
import Derived.Test.YtggnbbbhlnjleaaPFnExactTextInx0
import Derived.Test.YtggnbbbhlnjleaaPFnExactTextInx1
import Derived.Test.YtggnbbbhlnjleaaPFnExactTextInx2
import Derived.Test.YtggnbbbhlnjleaaPFnExactTextInx3
import Derived.Test.YtggnbbbhlnjleaaPFnExactTextInx7
import Derived.Test.YtggnbbbhlnjleaaPFnExactTextInx11
namespace Go.Proofs.Ytggnbbbhlnjleaa.PFnExactTextIn
open Go.RowKit Go.Proofs.YtggnbbbhlnjleaaW.PrintWords Go.Proofs.YtggnbbbhlnjleaaW.PrintLast Go.Proofs.YtggnbbbhlnjleaaW.PrintMore
attribute [local go_sem] max2_int min2_int max_two min_two max_three min_three max_four min_four   -- for this text's walks alone
set_option linter.unusedVariables false
set_option linter.unusedSimpArgs false

/-! ### laws_FnExactTextIn: function 5 -/
mutual
def laws_FnExactTextIn.j0 : Nat → Int → ByteArray → List Int → Bool → ByteArray → List Int → Bool → Bool → List (List Int) → List Int → List Int → List Int → List (List Int) → List Int → List Int → List Int → Option (Bool)
 | 0,_,_,_,_,_,_,_,_,_,_,_,_,_,_,_,_=>none
 | k + 1,x1,x6,x7,x8,x10,x11,x12,x54,x326000,x326001,x326002,x326003,x357000,x357001,x357002,x357003=>if x54 = true then (some false) else ((laws_toSpace.f k x326000 x326001 x326002 x326003).bind fun bt363=>((laws_eqSpace.f k x357000 x357001 x357002 x357003 bt363.1 bt363.2.1 bt363.2.2.1 bt363.2.2.2).bind fun t375=>(if t375 = true then ((laws_markSpace.f k x357000 x357001 x357002 x357003 1).bind fun bt376=>(if bt376.1 < 0 then (laws_FnExactTextIn.j1 k x1 x6 x7 x8 x11 true x326000 x326001 x326002 x326003) else (if x10.toList = x6.toList then ((laws_eqIntS.f k x11 x7).bind fun t381=>(if t381 = true then (laws_FnExactTextIn.j1 k x1 x6 x7 x8 x11 (x12 != x8) x326000 x326001 x326002 x326003) else (laws_FnExactTextIn.j1 k x1 x6 x7 x8 x11 true x326000 x326001 x326002 x326003))) else (laws_FnExactTextIn.j1 k x1 x6 x7 x8 x11 true x326000 x326001 x326002 x326003)))) else (some false))))
def laws_FnExactTextIn.j1 : Nat → Int → ByteArray → List Int → Bool → List Int → Bool → List (List Int) → List Int → List Int → List Int → Option (Bool)
 | 0,_,_,_,_,_,_,_,_,_,_=>none
 | k + 1,x1,x6,x7,x8,x11,x80,x326000,x326001,x326002,x326003=>if x80 = true then (some false) else ((laws_markIntS.f k x11 1).bind fun bt382=>((laws_heldIntS.f k bt382.2 1).bind fun t384=>(if t384 < 0 then (some false) else (if t384 = bt382.1 then ((laws_toSpace.f k x326000 x326001 x326002 x326003).bind fun bt385=>((impl_TextIn.f k bt385.1 bt385.2.1 bt385.2.2.1 bt385.2.2.2 x1).bind fun bt397=>(if bt397.1.toList = x6.toList then ((laws_eqIntS.f k bt397.2.1 x7).bind fun t402=>(if t402 = true then (laws_FnExactTextIn.j2 k bt382.2 bt382.1 (bt397.2.2 != x8)) else (laws_FnExactTextIn.j2 k bt382.2 bt382.1 true))) else (laws_FnExactTextIn.j2 k bt382.2 bt382.1 true)))) else (some false)))))
def laws_FnExactTextIn.j2 : Nat → List Int → Int → Bool → Option (Bool)
 | 0,_,_,_=>none
 | k + 1,x11,x14,x113=>if x113 = true then (some false) else ((laws_heldIntS.f k x11 1).bind fun t403=>(if t403 < 0 then (some false) else (if t403 = x14 then (some true) else (some false))))
end
def laws_FnExactTextIn.f (k : Nat) (l0_0 : List (List Int)) (l0_1 : List Int) (l0_2 : List Int) (l0_3 : List Int) (a1 : Int) : Option (Bool):=(laws_szSpace.f k l0_0 l0_1 l0_2 l0_3 1048576).bind fun t326=>(if t326 < 0 then (some true) else ((laws_toSpace.f k l0_0 l0_1 l0_2 l0_3).bind fun bt327=>((spec_TextIn.f k bt327.1 bt327.2.1 bt327.2.2.1 bt327.2.2.2 a1).bind fun bt339=>((laws_toSpace.f k l0_0 l0_1 l0_2 l0_3).bind fun bt344=>((impl_TextIn.f k bt344.1 bt344.2.1 bt344.2.2.1 bt344.2.2.2 a1).bind fun bt357=>(if bt357.1.toList = bt339.1.toList then ((laws_eqIntS.f k bt357.2.1 bt339.2.1).bind fun t362=>(if t362 = true then (laws_FnExactTextIn.j0 k a1 bt339.1 bt339.2.1 bt339.2.2 bt357.1 bt357.2.1 bt357.2.2 (bt357.2.2 != bt339.2.2) l0_0 l0_1 l0_2 l0_3 bt344.1 bt344.2.1 bt344.2.2.1 bt344.2.2.2) else (laws_FnExactTextIn.j0 k a1 bt339.1 bt339.2.1 bt339.2.2 bt357.1 bt357.2.1 bt357.2.2 true l0_0 l0_1 l0_2 l0_3 bt344.1 bt344.2.1 bt344.2.2.1 bt344.2.2.2))) else (laws_FnExactTextIn.j0 k a1 bt339.1 bt339.2.1 bt339.2.2 bt357.1 bt357.2.1 bt357.2.2 true l0_0 l0_1 l0_2 l0_3 bt344.1 bt344.2.1 bt344.2.2.1 bt344.2.2.2)))))))
theorem laws_FnExactTextIn.mono_l : ∀ k,(∀ y0 y1 y2 y3 y4 y5 y6 y7 y8 y9 y10 y11 y12 y13 y14 y15,LeO (laws_FnExactTextIn.j0 k y0 y1 y2 y3 y4 y5 y6 y7 y8 y9 y10 y11 y12 y13 y14 y15) (laws_FnExactTextIn.j0 (k + 1) y0 y1 y2 y3 y4 y5 y6 y7 y8 y9 y10 y11 y12 y13 y14 y15))∧(∀ y0 y1 y2 y3 y4 y5 y6 y7 y8 y9,LeO (laws_FnExactTextIn.j1 k y0 y1 y2 y3 y4 y5 y6 y7 y8 y9) (laws_FnExactTextIn.j1 (k + 1) y0 y1 y2 y3 y4 y5 y6 y7 y8 y9))∧(∀ y0 y1 y2,LeO (laws_FnExactTextIn.j2 k y0 y1 y2) (laws_FnExactTextIn.j2 (k + 1) y0 y1 y2))
 | 0=>⟨fun _ _ _ _ _ _ _ _ _ _ _ _ _ _ _ _ r h=>by simp [laws_FnExactTextIn.j0] at h,fun _ _ _ _ _ _ _ _ _ _ r h=>by simp [laws_FnExactTextIn.j1] at h,fun _ _ _ r h=>by simp [laws_FnExactTextIn.j2] at h⟩
 | k + 1=>by
  obtain ⟨ih0,ih1,ih2⟩:=laws_FnExactTextIn.mono_l k
  refine ⟨?_,?_,?_⟩
  ·intro y0 y1 y2 y3 y4 y5 y6 y7 y8 y9 y10 y11 y12 y13 y14 y15
   unfold laws_FnExactTextIn.j0
   repeat' first
   | (with_reducible exact ih0 _ _ _ _ _ _ _ _ _ _ _ _ _ _ _ _)
   | (with_reducible exact ih1 _ _ _ _ _ _ _ _ _ _)
   | (with_reducible exact ih2 _ _ _)
   | (with_reducible exact impl_TextIn.mono _ _ _ _ _ _)
   | (with_reducible exact laws_eqIntS.mono _ _ _)
   | (with_reducible exact laws_eqSpace.mono _ _ _ _ _ _ _ _ _)
   | (with_reducible exact laws_heldIntS.mono _ _ _)
   | (with_reducible exact laws_markIntS.mono _ _ _)
   | (with_reducible exact laws_markSpace.mono _ _ _ _ _ _)
   | (with_reducible exact laws_szSpace.mono _ _ _ _ _ _)
   | (with_reducible exact laws_toSpace.mono _ _ _ _ _)
   | (with_reducible exact spec_TextIn.mono _ _ _ _ _ _)
   | (with_reducible exact LeO.refl _)
   | (with_reducible exact LeO.none _)
   | (with_reducible refine LeO.ite ?_ ?_)
   | (with_reducible refine LeO.bind ?_ (fun _=>?_))
   | exact ih0 _ _ _ _ _ _ _ _ _ _ _ _ _ _ _ _
   | exact ih1 _ _ _ _ _ _ _ _ _ _
   | exact ih2 _ _ _
   | exact impl_TextIn.mono _ _ _ _ _ _
   | exact laws_eqIntS.mono _ _ _
   | exact laws_eqSpace.mono _ _ _ _ _ _ _ _ _
   | exact laws_heldIntS.mono _ _ _
   | exact laws_markIntS.mono _ _ _
   | exact laws_markSpace.mono _ _ _ _ _ _
   | exact laws_szSpace.mono _ _ _ _ _ _
   | exact laws_toSpace.mono _ _ _ _ _
   | exact spec_TextIn.mono _ _ _ _ _ _
   | exact LeO.none _
   | refine LeO.ite ?_ ?_
   | refine LeO.bind ?_ (fun _=>?_)
  ·intro y0 y1 y2 y3 y4 y5 y6 y7 y8 y9
   unfold laws_FnExactTextIn.j1
   repeat' first
   | (with_reducible exact ih0 _ _ _ _ _ _ _ _ _ _ _ _ _ _ _ _)
   | (with_reducible exact ih1 _ _ _ _ _ _ _ _ _ _)
   | (with_reducible exact ih2 _ _ _)
   | (with_reducible exact impl_TextIn.mono _ _ _ _ _ _)
   | (with_reducible exact laws_eqIntS.mono _ _ _)
   | (with_reducible exact laws_eqSpace.mono _ _ _ _ _ _ _ _ _)
   | (with_reducible exact laws_heldIntS.mono _ _ _)
   | (with_reducible exact laws_markIntS.mono _ _ _)
   | (with_reducible exact laws_markSpace.mono _ _ _ _ _ _)
   | (with_reducible exact laws_szSpace.mono _ _ _ _ _ _)
   | (with_reducible exact laws_toSpace.mono _ _ _ _ _)
   | (with_reducible exact spec_TextIn.mono _ _ _ _ _ _)
   | (with_reducible exact LeO.refl _)
   | (with_reducible exact LeO.none _)
   | (with_reducible refine LeO.ite ?_ ?_)
   | (with_reducible refine LeO.bind ?_ (fun _=>?_))
   | exact ih0 _ _ _ _ _ _ _ _ _ _ _ _ _ _ _ _
   | exact ih1 _ _ _ _ _ _ _ _ _ _
   | exact ih2 _ _ _
   | exact impl_TextIn.mono _ _ _ _ _ _
   | exact laws_eqIntS.mono _ _ _
   | exact laws_eqSpace.mono _ _ _ _ _ _ _ _ _
   | exact laws_heldIntS.mono _ _ _
   | exact laws_markIntS.mono _ _ _
   | exact laws_markSpace.mono _ _ _ _ _ _
   | exact laws_szSpace.mono _ _ _ _ _ _
   | exact laws_toSpace.mono _ _ _ _ _
   | exact spec_TextIn.mono _ _ _ _ _ _
   | exact LeO.none _
   | refine LeO.ite ?_ ?_
   | refine LeO.bind ?_ (fun _=>?_)
  ·intro y0 y1 y2
   unfold laws_FnExactTextIn.j2
   repeat' first
   | (with_reducible exact ih0 _ _ _ _ _ _ _ _ _ _ _ _ _ _ _ _)
   | (with_reducible exact ih1 _ _ _ _ _ _ _ _ _ _)
   | (with_reducible exact ih2 _ _ _)
   | (with_reducible exact impl_TextIn.mono _ _ _ _ _ _)
   | (with_reducible exact laws_eqIntS.mono _ _ _)
   | (with_reducible exact laws_eqSpace.mono _ _ _ _ _ _ _ _ _)
   | (with_reducible exact laws_heldIntS.mono _ _ _)
   | (with_reducible exact laws_markIntS.mono _ _ _)
   | (with_reducible exact laws_markSpace.mono _ _ _ _ _ _)
   | (with_reducible exact laws_szSpace.mono _ _ _ _ _ _)
   | (with_reducible exact laws_toSpace.mono _ _ _ _ _)
   | (with_reducible exact spec_TextIn.mono _ _ _ _ _ _)
   | (with_reducible exact LeO.refl _)
   | (with_reducible exact LeO.none _)
   | (with_reducible refine LeO.ite ?_ ?_)
   | (with_reducible refine LeO.bind ?_ (fun _=>?_))
   | exact ih0 _ _ _ _ _ _ _ _ _ _ _ _ _ _ _ _
   | exact ih1 _ _ _ _ _ _ _ _ _ _
   | exact ih2 _ _ _
   | exact impl_TextIn.mono _ _ _ _ _ _
   | exact laws_eqIntS.mono _ _ _
   | exact laws_eqSpace.mono _ _ _ _ _ _ _ _ _
   | exact laws_heldIntS.mono _ _ _
   | exact laws_markIntS.mono _ _ _
   | exact laws_markSpace.mono _ _ _ _ _ _
   | exact laws_szSpace.mono _ _ _ _ _ _
   | exact laws_toSpace.mono _ _ _ _ _
   | exact spec_TextIn.mono _ _ _ _ _ _
   | exact LeO.none _
   | refine LeO.ite ?_ ?_
   | refine LeO.bind ?_ (fun _=>?_)
theorem laws_FnExactTextIn.mono : ∀ a0 a1 a2 a3 a4 k,LeO (laws_FnExactTextIn.f k a0 a1 a2 a3 a4) (laws_FnExactTextIn.f (k + 1) a0 a1 a2 a3 a4):=by
 intro a0 a1 a2 a3 a4 k
 obtain ⟨ih0,ih1,ih2⟩:=laws_FnExactTextIn.mono_l k
 unfold laws_FnExactTextIn.f
 repeat' first
   | (with_reducible exact ih0 _ _ _ _ _ _ _ _ _ _ _ _ _ _ _ _)
   | (with_reducible exact ih1 _ _ _ _ _ _ _ _ _ _)
   | (with_reducible exact ih2 _ _ _)
   | (with_reducible exact impl_TextIn.mono _ _ _ _ _ _)
   | (with_reducible exact laws_eqIntS.mono _ _ _)
   | (with_reducible exact laws_eqSpace.mono _ _ _ _ _ _ _ _ _)
   | (with_reducible exact laws_heldIntS.mono _ _ _)
   | (with_reducible exact laws_markIntS.mono _ _ _)
   | (with_reducible exact laws_markSpace.mono _ _ _ _ _ _)
   | (with_reducible exact laws_szSpace.mono _ _ _ _ _ _)
   | (with_reducible exact laws_toSpace.mono _ _ _ _ _)
   | (with_reducible exact spec_TextIn.mono _ _ _ _ _ _)
   | (with_reducible exact LeO.refl _)
   | (with_reducible exact LeO.none _)
   | (with_reducible refine LeO.ite ?_ ?_)
   | (with_reducible refine LeO.bind ?_ (fun _=>?_))
   | exact ih0 _ _ _ _ _ _ _ _ _ _ _ _ _ _ _ _
   | exact ih1 _ _ _ _ _ _ _ _ _ _
   | exact ih2 _ _ _
   | exact impl_TextIn.mono _ _ _ _ _ _
   | exact laws_eqIntS.mono _ _ _
   | exact laws_eqSpace.mono _ _ _ _ _ _ _ _ _
   | exact laws_heldIntS.mono _ _ _
   | exact laws_markIntS.mono _ _ _
   | exact laws_markSpace.mono _ _ _ _ _ _
   | exact laws_szSpace.mono _ _ _ _ _ _
   | exact laws_toSpace.mono _ _ _ _ _
   | exact spec_TextIn.mono _ _ _ _ _ _
   | exact LeO.none _
   | refine LeO.ite ?_ ?_
   | refine LeO.bind ?_ (fun _=>?_)
set_option maxHeartbeats 8000000 in
set_option maxRecDepth 100000 in
theorem laws_FnExactTextIn.calls (k : Nat) (A0_0 : Option Addr) (c0_0 : Nat) (l0_0 : List (List Int)) (A0_1 : Option Addr) (c0_1 : Nat) (l0_1 : List Int) (A0_2 : Option Addr) (c0_2 : Nat) (l0_2 : List Int) (A0_3 : Option Addr) (c0_3 : Nat) (l0_3 : List Int) (a1 : Int) (r : Bool) (w : World) (hr0_0 : Kd.C (Kd.slice 5 (Kd.int .u8)) w A0_0 l0_0.length l0_0) (hc0_0 : l0_0.length ≤ c0_0) (hr0_1 : Kd.C (Kd.int .u8) w A0_1 l0_1.length l0_1) (hc0_1 : l0_1.length ≤ c0_1) (hr0_2 : Kd.C (Kd.int .i64) w A0_2 l0_2.length l0_2) (hc0_2 : l0_2.length ≤ c0_2) (hr0_3 : Kd.C (Kd.int .i64) w A0_3 l0_3.length l0_3) (hc0_3 : l0_3.length ≤ c0_3) (h : laws_FnExactTextIn.f k l0_0 l0_1 l0_2 l0_3 a1 = some r) :
  Calls Try.prog 5 #[.agg #[.slice A0_0 l0_0.length c0_0,.slice A0_1 l0_1.length c0_1,.slice A0_2 l0_2.length c0_2,.slice A0_3 l0_3.length c0_3],.int .i64 a1] w fun e w'=>e = .returned (.bool r)∧Below w.heap.size w w':=by
 have hu26:=Try.underlying26
 have hu28:=Try.underlying28
 have HR0_0:=Aside0.mk hr0_0
 have HC0_0:=Aside0.mk hc0_0
 clear hr0_0 hc0_0
 have HR0_1:=Aside0.mk hr0_1
 have HC0_1:=Aside0.mk hc0_1
 clear hr0_1 hc0_1
 have HR0_2:=Aside0.mk hr0_2
 have HC0_2:=Aside0.mk hc0_2
 clear hr0_2 hc0_2
 have HR0_3:=Aside0.mk hr0_3
 have HC0_3:=Aside0.mk hc0_3
 clear hr0_3 hc0_3
 have HB:=Aside0.mk (Below.refl w.heap.size w)
 have H : ((laws_szSpace.f k l0_0 l0_1 l0_2 l0_3 1048576).bind fun t326=>(if t326 < 0 then (some true) else ((laws_toSpace.f k l0_0 l0_1 l0_2 l0_3).bind fun bt327=>((spec_TextIn.f k bt327.1 bt327.2.1 bt327.2.2.1 bt327.2.2.2 a1).bind fun bt339=>((laws_toSpace.f k l0_0 l0_1 l0_2 l0_3).bind fun bt344=>((impl_TextIn.f k bt344.1 bt344.2.1 bt344.2.2.1 bt344.2.2.2 a1).bind fun bt357=>(if bt357.1.toList = bt339.1.toList then ((laws_eqIntS.f k bt357.2.1 bt339.2.1).bind fun t362=>(if t362 = true then (laws_FnExactTextIn.j0 k a1 bt339.1 bt339.2.1 bt339.2.2 bt357.1 bt357.2.1 bt357.2.2 (bt357.2.2 != bt339.2.2) l0_0 l0_1 l0_2 l0_3 bt344.1 bt344.2.1 bt344.2.2.1 bt344.2.2.2) else (laws_FnExactTextIn.j0 k a1 bt339.1 bt339.2.1 bt339.2.2 bt357.1 bt357.2.1 bt357.2.2 true l0_0 l0_1 l0_2 l0_3 bt344.1 bt344.2.1 bt344.2.2.1 bt344.2.2.2))) else (laws_FnExactTextIn.j0 k a1 bt339.1 bt339.2.1 bt339.2.2 bt357.1 bt357.2.1 bt357.2.2 true l0_0 l0_1 l0_2 l0_3 bt344.1 bt344.2.1 bt344.2.2.1 bt344.2.2.2)))))))) = some r:=h
 clear h
 replace H:=Option.bind_eq_some_iff.mp H
 obtain ⟨t326,A30,H⟩:=H
 replace H : (if t326 < 0 then (some true) else ((laws_toSpace.f k l0_0 l0_1 l0_2 l0_3).bind fun bt327=>((spec_TextIn.f k bt327.1 bt327.2.1 bt327.2.2.1 bt327.2.2.2 a1).bind fun bt339=>((laws_toSpace.f k l0_0 l0_1 l0_2 l0_3).bind fun bt344=>((impl_TextIn.f k bt344.1 bt344.2.1 bt344.2.2.1 bt344.2.2.2 a1).bind fun bt357=>(if bt357.1.toList = bt339.1.toList then ((laws_eqIntS.f k bt357.2.1 bt339.2.1).bind fun t362=>(if t362 = true then (laws_FnExactTextIn.j0 k a1 bt339.1 bt339.2.1 bt339.2.2 bt357.1 bt357.2.1 bt357.2.2 (bt357.2.2 != bt339.2.2) l0_0 l0_1 l0_2 l0_3 bt344.1 bt344.2.1 bt344.2.2.1 bt344.2.2.2) else (laws_FnExactTextIn.j0 k a1 bt339.1 bt339.2.1 bt339.2.2 bt357.1 bt357.2.1 bt357.2.2 true l0_0 l0_1 l0_2 l0_3 bt344.1 bt344.2.1 bt344.2.2.1 bt344.2.2.2))) else (laws_FnExactTextIn.j0 k a1 bt339.1 bt339.2.1 bt339.2.2 bt357.1 bt357.2.1 bt357.2.2 true l0_0 l0_1 l0_2 l0_3 bt344.1 bt344.2.1 bt344.2.2.1 bt344.2.2.2))))))) = some r:=H
 have A3:=Aside0.mk A30
 clear A30
 by_cases c4 : t326 < 0
 ·rw [if_pos c4] at H
  have c4b0 : decide (t326 < 0) = true:=decide_eq_true c4
  clear c4
  obtain rfl:=Option.some.inj H
  go_enter Try.func5,Try.ntmps5
  go_wp2_with (first|((with_reducible refine gate_dst (N:=2) rfl ?_);refine box_event ?hg (N:=2) ?hd (cs:=#[.slice A0_0 l0_0.length c0_0,.slice A0_1 l0_1.length c0_1,.slice A0_2 l0_2.length c0_2,.slice A0_3 l0_3.length c0_3]) (t:=26) ?hr ?_;(case hd=>rfl);(case hg=>rfl);(case hr=>first|(go_simp;done)|(go_simp;rfl));intro gb325 hg w5 hbox hb;have n0_:=Aside0.mk (below_step (by repeat (first|exact HB.out|apply below_alloc|apply pw_below_drewN|apply below_drew1)) hb);have n1_:=Aside0.mk (hbox);have n2_:=Aside0.mk ((by rw [hg];exact (below_size (by repeat (first|exact HB.out|apply below_alloc|apply pw_below_drewN|apply below_drew1))) : w.heap.size ≤ gb325));have n3_:=Aside0.mk ((by rw [hg];exact (below_size (by repeat (first|exact HB.out|apply below_alloc|apply pw_below_drewN|apply below_drew1))) : w.heap.size ≤ gb325));clear HB;have HB:=n0_;have BK325:=n1_;have GW325:=n2_;have GE325:=n3_;clear n0_ n1_ n2_ n3_;clear hb hbox hg;have hcz6_0 : w5.cell? ⟨gb325,0,none⟩ = some (.slice A0_0 l0_0.length c0_0):=(blk_cell BK325.out 0).trans rfl;have hcz6_1 : w5.cell? ⟨gb325,1,none⟩ = some (.slice A0_1 l0_1.length c0_1):=(blk_cell BK325.out 1).trans rfl;have hcz6_2 : w5.cell? ⟨gb325,2,none⟩ = some (.slice A0_2 l0_2.length c0_2):=(blk_cell BK325.out 2).trans rfl;have hcz6_3 : w5.cell? ⟨gb325,3,none⟩ = some (.slice A0_3 l0_3.length c0_3):=(blk_cell BK325.out 3).trans rfl;have hfz6_0:=blk_frozen BK325.out 0;have hfz6_1:=blk_frozen BK325.out 1;have hfz6_2:=blk_frozen BK325.out 2;have hfz6_3:=blk_frozen BK325.out 3)|((with_reducible refine gate_callee (f:=7) rfl ?_);refine goesL_ (some 21) rfl rfl Try.func7 (by kernel_rfl) rfl #[.agg #[.slice A0_0 l0_0.length c0_0,.slice A0_1 l0_1.length c0_1,.slice A0_2 l0_2.length c0_2,.slice A0_3 l0_3.length c0_3],.int .i64 1048576] rfl (by (try simp only [List.map_toArray,List.map_cons,List.map_nil]);first|done|rfl|(simp only [List.length_drop,List.length_take];rfl)) ?_;(with_reducible refine (laws_szSpace.calls k _ _ l0_0 _ _ l0_1 _ _ l0_2 _ _ l0_3 1048576 t326 _ ?side1 ?side2 ?side3 ?side4 ?side5 ?side6 ?side7 ?side8 A3.out).mono ?_);(case side1=>repeat (first|exact (Kd.C_below HR0_0.out HB.out)|(with_reducible first|apply Kd.C_alloc|apply Kd.C_drewN|apply Kd.C_drew)));(case side2=>exact HC0_0.out);(case side3=>repeat (first|exact (Kd.C_below HR0_1.out HB.out)|(with_reducible first|apply Kd.C_alloc|apply Kd.C_drewN|apply Kd.C_drew)));(case side4=>exact HC0_1.out);(case side5=>repeat (first|exact (Kd.C_below HR0_2.out HB.out)|(with_reducible first|apply Kd.C_alloc|apply Kd.C_drewN|apply Kd.C_drew)));(case side6=>exact HC0_2.out);(case side7=>repeat (first|exact (Kd.C_below HR0_3.out HB.out)|(with_reducible first|apply Kd.C_alloc|apply Kd.C_drewN|apply Kd.C_drew)));(case side8=>exact HC0_3.out);rintro e w7 ⟨rfl,hb⟩;refine ⟨_,rfl,?_⟩;have n0_:=Aside0.mk (blk_below (g:=gb325) (o:=.cells #[.slice A0_0 l0_0.length c0_0,.slice A0_1 l0_1.length c0_1,.slice A0_2 l0_2.length c0_2,.slice A0_3 l0_3.length c0_3] 26 (0,0)) (by (with_reducible repeat first|apply blk_drewN|apply blk_drew|apply blk_alloc);exact BK325.out) hb);have n1_:=Aside0.mk (below_step (by repeat (first|(with_reducible first|exact HB.out|apply below_alloc|apply pw_below_drewN|apply below_drew1|refine below_set ?_ GE325.out)|exact HB.out)) hb);clear BK325;clear HB;have BK325:=n0_;have HB:=n1_;clear n0_ n1_;(try clear hb);(try clear hb2);(try clear hk);(try clear hi)))
  go_ret
  exact ⟨by first|rfl|(simp [*,errW_none,errW_some] <;> rfl),by repeat (first|(with_reducible first|exact HB.out|apply below_alloc|apply pw_below_drewN|apply below_drew1|refine below_set ?_ GE325.out)|exact HB.out)⟩
 ·rw [if_neg c4] at H
  have c4b0 : decide (t326 < 0) = false:=decide_eq_false c4
  clear c4
  replace H:=Option.bind_eq_some_iff.mp H
  obtain ⟨⟨t327,t330,t333,t336⟩,A80,H⟩:=H
  replace H : ((spec_TextIn.f k t327 t330 t333 t336 a1).bind fun bt339=>((laws_toSpace.f k l0_0 l0_1 l0_2 l0_3).bind fun bt344=>((impl_TextIn.f k bt344.1 bt344.2.1 bt344.2.2.1 bt344.2.2.2 a1).bind fun bt357=>(if bt357.1.toList = bt339.1.toList then ((laws_eqIntS.f k bt357.2.1 bt339.2.1).bind fun t362=>(if t362 = true then (laws_FnExactTextIn.j0 k a1 bt339.1 bt339.2.1 bt339.2.2 bt357.1 bt357.2.1 bt357.2.2 (bt357.2.2 != bt339.2.2) l0_0 l0_1 l0_2 l0_3 bt344.1 bt344.2.1 bt344.2.2.1 bt344.2.2.2) else (laws_FnExactTextIn.j0 k a1 bt339.1 bt339.2.1 bt339.2.2 bt357.1 bt357.2.1 bt357.2.2 true l0_0 l0_1 l0_2 l0_3 bt344.1 bt344.2.1 bt344.2.2.1 bt344.2.2.2))) else (laws_FnExactTextIn.j0 k a1 bt339.1 bt339.2.1 bt339.2.2 bt357.1 bt357.2.1 bt357.2.2 true l0_0 l0_1 l0_2 l0_3 bt344.1 bt344.2.1 bt344.2.2.1 bt344.2.2.2))))) = some r:=H
  have A8:=Aside0.mk A80
  clear A80
  replace H:=Option.bind_eq_some_iff.mp H
  obtain ⟨⟨t339,t340,t343⟩,A90,H⟩:=H
  replace H : ((laws_toSpace.f k l0_0 l0_1 l0_2 l0_3).bind fun bt344=>((impl_TextIn.f k bt344.1 bt344.2.1 bt344.2.2.1 bt344.2.2.2 a1).bind fun bt357=>(if bt357.1.toList = t339.toList then ((laws_eqIntS.f k bt357.2.1 t340).bind fun t362=>(if t362 = true then (laws_FnExactTextIn.j0 k a1 t339 t340 t343 bt357.1 bt357.2.1 bt357.2.2 (bt357.2.2 != t343) l0_0 l0_1 l0_2 l0_3 bt344.1 bt344.2.1 bt344.2.2.1 bt344.2.2.2) else (laws_FnExactTextIn.j0 k a1 t339 t340 t343 bt357.1 bt357.2.1 bt357.2.2 true l0_0 l0_1 l0_2 l0_3 bt344.1 bt344.2.1 bt344.2.2.1 bt344.2.2.2))) else (laws_FnExactTextIn.j0 k a1 t339 t340 t343 bt357.1 bt357.2.1 bt357.2.2 true l0_0 l0_1 l0_2 l0_3 bt344.1 bt344.2.1 bt344.2.2.1 bt344.2.2.2)))) = some r:=H
  have A9:=Aside0.mk A90
  clear A90
  replace H:=Option.bind_eq_some_iff.mp H
  obtain ⟨⟨t344,t347,t350,t353⟩,A100,H⟩:=H
  replace H : ((impl_TextIn.f k t344 t347 t350 t353 a1).bind fun bt357=>(if bt357.1.toList = t339.toList then ((laws_eqIntS.f k bt357.2.1 t340).bind fun t362=>(if t362 = true then (laws_FnExactTextIn.j0 k a1 t339 t340 t343 bt357.1 bt357.2.1 bt357.2.2 (bt357.2.2 != t343) l0_0 l0_1 l0_2 l0_3 t344 t347 t350 t353) else (laws_FnExactTextIn.j0 k a1 t339 t340 t343 bt357.1 bt357.2.1 bt357.2.2 true l0_0 l0_1 l0_2 l0_3 t344 t347 t350 t353))) else (laws_FnExactTextIn.j0 k a1 t339 t340 t343 bt357.1 bt357.2.1 bt357.2.2 true l0_0 l0_1 l0_2 l0_3 t344 t347 t350 t353))) = some r:=H
  have A10:=Aside0.mk A100
  clear A100
  replace H:=Option.bind_eq_some_iff.mp H
  obtain ⟨⟨t357,t358,t361⟩,A110,H⟩:=H
  replace H : (if t357.toList = t339.toList then ((laws_eqIntS.f k t358 t340).bind fun t362=>(if t362 = true then (laws_FnExactTextIn.j0 k a1 t339 t340 t343 t357 t358 t361 (t361 != t343) l0_0 l0_1 l0_2 l0_3 t344 t347 t350 t353) else (laws_FnExactTextIn.j0 k a1 t339 t340 t343 t357 t358 t361 true l0_0 l0_1 l0_2 l0_3 t344 t347 t350 t353))) else (laws_FnExactTextIn.j0 k a1 t339 t340 t343 t357 t358 t361 true l0_0 l0_1 l0_2 l0_3 t344 t347 t350 t353)) = some r:=H
  have A11:=Aside0.mk A110
  clear A110
  have HC12:=Aside0.mk H
  clear H
  go_enter Try.func5,Try.ntmps5
  go_upto_region 8 with (first|((with_reducible refine gate_dst (N:=2) rfl ?_);refine box_event ?hg (N:=2) ?hd (cs:=#[.slice A0_0 l0_0.length c0_0,.slice A0_1 l0_1.length c0_1,.slice A0_2 l0_2.length c0_2,.slice A0_3 l0_3.length c0_3]) (t:=26) ?hr ?_;(case hd=>rfl);(case hg=>rfl);(case hr=>first|(go_simp;done)|(go_simp;rfl));intro gb325 hg w13 hbox hb;have n0_:=Aside0.mk (below_step (by repeat (first|exact HB.out|apply below_alloc|apply pw_below_drewN|apply below_drew1)) hb);have n1_:=Aside0.mk (hbox);have n2_:=Aside0.mk ((by rw [hg];exact (below_size (by repeat (first|exact HB.out|apply below_alloc|apply pw_below_drewN|apply below_drew1))) : w.heap.size ≤ gb325));have n3_:=Aside0.mk ((by rw [hg];exact (below_size (by repeat (first|exact HB.out|apply below_alloc|apply pw_below_drewN|apply below_drew1))) : w.heap.size ≤ gb325));clear HB;have HB:=n0_;have BK325:=n1_;have GW325:=n2_;have GE325:=n3_;clear n0_ n1_ n2_ n3_;clear hb hbox hg;have hcz14_0 : w13.cell? ⟨gb325,0,none⟩ = some (.slice A0_0 l0_0.length c0_0):=(blk_cell BK325.out 0).trans rfl;have hcz14_1 : w13.cell? ⟨gb325,1,none⟩ = some (.slice A0_1 l0_1.length c0_1):=(blk_cell BK325.out 1).trans rfl;have hcz14_2 : w13.cell? ⟨gb325,2,none⟩ = some (.slice A0_2 l0_2.length c0_2):=(blk_cell BK325.out 2).trans rfl;have hcz14_3 : w13.cell? ⟨gb325,3,none⟩ = some (.slice A0_3 l0_3.length c0_3):=(blk_cell BK325.out 3).trans rfl;have hfz14_0:=blk_frozen BK325.out 0;have hfz14_1:=blk_frozen BK325.out 1;have hfz14_2:=blk_frozen BK325.out 2;have hfz14_3:=blk_frozen BK325.out 3)|((with_reducible refine gate_callee (f:=7) rfl ?_);refine goesL_ (some 21) rfl rfl Try.func7 (by kernel_rfl) rfl #[.agg #[.slice A0_0 l0_0.length c0_0,.slice A0_1 l0_1.length c0_1,.slice A0_2 l0_2.length c0_2,.slice A0_3 l0_3.length c0_3],.int .i64 1048576] rfl (by (try simp only [List.map_toArray,List.map_cons,List.map_nil]);first|done|rfl|(simp only [List.length_drop,List.length_take];rfl)) ?_;(with_reducible refine (laws_szSpace.calls k _ _ l0_0 _ _ l0_1 _ _ l0_2 _ _ l0_3 1048576 t326 _ ?side1 ?side2 ?side3 ?side4 ?side5 ?side6 ?side7 ?side8 A3.out).mono ?_);(case side1=>repeat (first|exact (Kd.C_below HR0_0.out HB.out)|(with_reducible first|apply Kd.C_alloc|apply Kd.C_drewN|apply Kd.C_drew)));(case side2=>exact HC0_0.out);(case side3=>repeat (first|exact (Kd.C_below HR0_1.out HB.out)|(with_reducible first|apply Kd.C_alloc|apply Kd.C_drewN|apply Kd.C_drew)));(case side4=>exact HC0_1.out);(case side5=>repeat (first|exact (Kd.C_below HR0_2.out HB.out)|(with_reducible first|apply Kd.C_alloc|apply Kd.C_drewN|apply Kd.C_drew)));(case side6=>exact HC0_2.out);(case side7=>repeat (first|exact (Kd.C_below HR0_3.out HB.out)|(with_reducible first|apply Kd.C_alloc|apply Kd.C_drewN|apply Kd.C_drew)));(case side8=>exact HC0_3.out);rintro e w15 ⟨rfl,hb⟩;refine ⟨_,rfl,?_⟩;have n0_:=Aside0.mk (blk_below (g:=gb325) (o:=.cells #[.slice A0_0 l0_0.length c0_0,.slice A0_1 l0_1.length c0_1,.slice A0_2 l0_2.length c0_2,.slice A0_3 l0_3.length c0_3] 26 (0,0)) (by (with_reducible repeat first|apply blk_drewN|apply blk_drew|apply blk_alloc);exact BK325.out) hb);have n1_:=Aside0.mk (below_step (by repeat (first|(with_reducible first|exact HB.out|apply below_alloc|apply pw_below_drewN|apply below_drew1|refine below_set ?_ GE325.out)|exact HB.out)) hb);clear BK325;clear HB;have BK325:=n0_;have HB:=n1_;clear n0_ n1_;(try clear hb);(try clear hb2);(try clear hk);(try clear hi);have hcz16_0 : w15.cell? ⟨gb325,0,none⟩ = some (.slice A0_0 l0_0.length c0_0):=(blk_cell BK325.out 0).trans rfl;have hcz16_1 : w15.cell? ⟨gb325,1,none⟩ = some (.slice A0_1 l0_1.length c0_1):=(blk_cell BK325.out 1).trans rfl;have hcz16_2 : w15.cell? ⟨gb325,2,none⟩ = some (.slice A0_2 l0_2.length c0_2):=(blk_cell BK325.out 2).trans rfl;have hcz16_3 : w15.cell? ⟨gb325,3,none⟩ = some (.slice A0_3 l0_3.length c0_3):=(blk_cell BK325.out 3).trans rfl;have hfz16_0:=blk_frozen BK325.out 0;have hfz16_1:=blk_frozen BK325.out 1;have hfz16_2:=blk_frozen BK325.out 2;have hfz16_3:=blk_frozen BK325.out 3)|((with_reducible refine gate_callee (f:=9) rfl ?_);refine goesL_ (some 26) rfl rfl Try.func9 (by kernel_rfl) rfl #[.agg #[.slice A0_0 l0_0.length c0_0,.slice A0_1 l0_1.length c0_1,.slice A0_2 l0_2.length c0_2,.slice A0_3 l0_3.length c0_3]] rfl (by (try simp only [List.map_toArray,List.map_cons,List.map_nil]);first|done|rfl|(simp only [List.length_drop,List.length_take];rfl)) ?_;(with_reducible refine (laws_toSpace.calls k _ _ l0_0 _ _ l0_1 _ _ l0_2 _ _ l0_3 t327 t330 t333 t336 _ ?side1 ?side2 ?side3 ?side4 ?side5 ?side6 ?side7 ?side8 A8.out).mono ?_);(case side1=>repeat (first|exact (Kd.C_below HR0_0.out HB.out)|(with_reducible first|apply Kd.C_alloc|apply Kd.C_drewN|apply Kd.C_drew)));(case side2=>exact HC0_0.out);(case side3=>repeat (first|exact (Kd.C_below HR0_1.out HB.out)|(with_reducible first|apply Kd.C_alloc|apply Kd.C_drewN|apply Kd.C_drew)));(case side4=>exact HC0_1.out);(case side5=>repeat (first|exact (Kd.C_below HR0_2.out HB.out)|(with_reducible first|apply Kd.C_alloc|apply Kd.C_drewN|apply Kd.C_drew)));(case side6=>exact HC0_2.out);(case side7=>repeat (first|exact (Kd.C_below HR0_3.out HB.out)|(with_reducible first|apply Kd.C_alloc|apply Kd.C_drewN|apply Kd.C_drew)));(case side8=>exact HC0_3.out);rintro e w17 ⟨v328,v331,v334,v337,rfl,ho0,ho1,ho2,ho3,hb⟩;refine ⟨_,rfl,?_⟩;have n0_:=Aside0.mk (Kd.S_lower (Kd.S_mono (Kd.S_bound ho0) (fun k_ h_=>(⟨h_.1,(by first|exact h_.2.1|simpa only [World.size_setCell] using h_.2.1)⟩ : _∧w15.heap.size ≤ k_))) (below_size (by repeat (first|(with_reducible first|exact HB.out|apply below_alloc|apply pw_below_drewN|apply below_drew1|refine below_set ?_ GE325.out)|exact HB.out))));have n1_:=Aside0.mk (Kd.R_lower ho1 (below_size (by repeat (first|(with_reducible first|exact HB.out|apply below_alloc|apply pw_below_drewN|apply below_drew1|refine below_set ?_ GE325.out)|exact HB.out))));have n2_:=Aside0.mk (Kd.R_lower ho2 (below_size (by repeat (first|(with_reducible first|exact HB.out|apply below_alloc|apply pw_below_drewN|apply below_drew1|refine below_set ?_ GE325.out)|exact HB.out))));have n3_:=Aside0.mk (Kd.R_lower ho3 (below_size (by repeat (first|(with_reducible first|exact HB.out|apply below_alloc|apply pw_below_drewN|apply below_drew1|refine below_set ?_ GE325.out)|exact HB.out))));have n4_:=Aside0.mk (blk_below (g:=gb325) (o:=.cells #[.slice A0_0 l0_0.length c0_0,.slice A0_1 l0_1.length c0_1,.slice A0_2 l0_2.length c0_2,.slice A0_3 l0_3.length c0_3] 26 (0,0)) (by (with_reducible repeat first|apply blk_drewN|apply blk_drew|apply blk_alloc);exact BK325.out) hb);have n5_:=Aside0.mk (below_step (by repeat (first|(with_reducible first|exact HB.out|apply below_alloc|apply pw_below_drewN|apply below_drew1|refine below_set ?_ GE325.out)|exact HB.out)) hb);clear BK325;clear HB;have HO329:=n0_;have HO332:=n1_;have HO335:=n2_;have HO338:=n3_;have BK325:=n4_;have HB:=n5_;clear n0_ n1_ n2_ n3_ n4_ n5_;(try clear hb);(try clear hb2);(try clear hk);(try clear hi);(try clear ho0);(try clear ho1);(try clear ho2);(try clear ho3);obtain ⟨Ao18,co18,eo18⟩:=Kd.S_slice HO329.out;subst eo18;obtain ⟨Ao19,co19,eo19⟩:=Kd.R_slice HO332.out;subst eo19;obtain ⟨Ao20,co20,eo20⟩:=Kd.R_slice HO335.out;subst eo20;obtain ⟨Ao21,co21,eo21⟩:=Kd.R_slice HO338.out;subst eo21)|((with_reducible refine gate_callee (f:=22) rfl ?_);refine goesL_ (some 28) rfl rfl Try.func22 (by kernel_rfl) rfl #[.agg #[.slice Ao18 t327.length co18,.slice Ao19 t330.length co19,.slice Ao20 t333.length co20,.slice Ao21 t336.length co21],.int .i64 a1] rfl (by (try simp only [List.map_toArray,List.map_cons,List.map_nil]);first|done|rfl|(simp only [List.length_drop,List.length_take];rfl)) ?_;(with_reducible refine (spec_TextIn.calls k _ _ t327 _ _ t330 _ _ t333 _ _ t336 a1 t339 t340 t343 _ ?side1 ?side2 ?side3 ?side4 ?side5 ?side6 ?side7 ?side8 A9.out).mono ?_);(case side1=>repeat (first|exact (Kd.S_reads' HO329.out).2.2|(with_reducible first|apply Kd.C_alloc|apply Kd.C_drewN|apply Kd.C_drew)));(case side2=>exact (Kd.S_reads' HO329.out).2.1);(case side3=>repeat (first|exact (Kd.R_reads' HO332.out).2.2|(with_reducible first|apply Kd.C_alloc|apply Kd.C_drewN|apply Kd.C_drew)));(case side4=>exact (Kd.R_reads' HO332.out).2.1);(case side5=>repeat (first|exact (Kd.R_reads' HO335.out).2.2|(with_reducible first|apply Kd.C_alloc|apply Kd.C_drewN|apply Kd.C_drew)));(case side6=>exact (Kd.R_reads' HO335.out).2.1);(case side7=>repeat (first|exact (Kd.R_reads' HO338.out).2.2|(with_reducible first|apply Kd.C_alloc|apply Kd.C_drewN|apply Kd.C_drew)));(case side8=>exact (Kd.R_reads' HO338.out).2.1);rintro e w22 ⟨v341,rfl,ho0,hb⟩;refine ⟨_,rfl,?_⟩;have n0_:=Aside0.mk (Kd.S_below (by (with_reducible repeat (first|apply Kd.S_alloc|apply Kd.S_drewN|apply Kd.S_drew));exact HO329.out) hb);have n1_:=Aside0.mk (Kd.R_below (by (with_reducible repeat (first|apply Kd.R_alloc|apply Kd.R_drewN|apply Kd.R_drew));exact HO332.out) hb);have n2_:=Aside0.mk (Kd.R_elder' (by (with_reducible repeat (first|apply Kd.R_alloc|apply Kd.R_drewN|apply Kd.R_drew));exact HO335.out) (Kd.R_base ho0) hb);have n3_:=Aside0.mk (Kd.R_elder' (by (with_reducible repeat (first|apply Kd.R_alloc|apply Kd.R_drewN|apply Kd.R_drew));exact HO338.out) (Kd.R_base ho0) hb);have n4_:=Aside0.mk (Kd.R_lower (Kd.R_new' (Kd.R_new' ho0 (Kd.R_lt (by (with_reducible repeat (first|apply Kd.R_alloc|apply Kd.R_drewN|apply Kd.R_drew));exact HO335.out))) (Kd.R_lt (by (with_reducible repeat (first|apply Kd.R_alloc|apply Kd.R_drewN|apply Kd.R_drew));exact HO338.out))) (below_size (by repeat (first|(with_reducible first|exact HB.out|apply below_alloc|apply pw_below_drewN|apply below_drew1|refine below_set ?_ GE325.out)|exact HB.out))));have n5_:=Aside0.mk (blk_below (g:=gb325) (o:=.cells #[.slice A0_0 l0_0.length c0_0,.slice A0_1 l0_1.length c0_1,.slice A0_2 l0_2.length c0_2,.slice A0_3 l0_3.length c0_3] 26 (0,0)) (by (with_reducible repeat first|apply blk_drewN|apply blk_drew|apply blk_alloc);exact BK325.out) hb);have n6_:=Aside0.mk (below_step (by repeat (first|(with_reducible first|exact HB.out|apply below_alloc|apply pw_below_drewN|apply below_drew1|refine below_set ?_ GE325.out)|exact HB.out)) hb);clear HO329;clear HO332;clear HO335;clear HO338;clear BK325;clear HB;have HO329:=n0_;have HO332:=n1_;have HO335:=n2_;have HO338:=n3_;have HO342:=n4_;have BK325:=n5_;have HB:=n6_;clear n0_ n1_ n2_ n3_ n4_ n5_ n6_;(try clear hb);(try clear hb2);(try clear hk);(try clear hi);(try clear ho0);have hcz23_0 : w22.cell? ⟨gb325,0,none⟩ = some (.slice A0_0 l0_0.length c0_0):=(blk_cell BK325.out 0).trans rfl;have hcz23_1 : w22.cell? ⟨gb325,1,none⟩ = some (.slice A0_1 l0_1.length c0_1):=(blk_cell BK325.out 1).trans rfl;have hcz23_2 : w22.cell? ⟨gb325,2,none⟩ = some (.slice A0_2 l0_2.length c0_2):=(blk_cell BK325.out 2).trans rfl;have hcz23_3 : w22.cell? ⟨gb325,3,none⟩ = some (.slice A0_3 l0_3.length c0_3):=(blk_cell BK325.out 3).trans rfl;have hfz23_0:=blk_frozen BK325.out 0;have hfz23_1:=blk_frozen BK325.out 1;have hfz23_2:=blk_frozen BK325.out 2;have hfz23_3:=blk_frozen BK325.out 3)|((with_reducible refine gate_callee (f:=9) rfl ?_);refine goesL_ (some 33) rfl rfl Try.func9 (by kernel_rfl) rfl #[.agg #[.slice A0_0 l0_0.length c0_0,.slice A0_1 l0_1.length c0_1,.slice A0_2 l0_2.length c0_2,.slice A0_3 l0_3.length c0_3]] rfl (by (try simp only [List.map_toArray,List.map_cons,List.map_nil]);first|done|rfl|(simp only [List.length_drop,List.length_take];rfl)) ?_;(with_reducible refine (laws_toSpace.calls k _ _ l0_0 _ _ l0_1 _ _ l0_2 _ _ l0_3 t344 t347 t350 t353 _ ?side1 ?side2 ?side3 ?side4 ?side5 ?side6 ?side7 ?side8 A10.out).mono ?_);(case side1=>repeat (first|exact (Kd.C_below HR0_0.out HB.out)|(with_reducible first|apply Kd.C_alloc|apply Kd.C_drewN|apply Kd.C_drew)));(case side2=>exact HC0_0.out);(case side3=>repeat (first|exact (Kd.C_below HR0_1.out HB.out)|(with_reducible first|apply Kd.C_alloc|apply Kd.C_drewN|apply Kd.C_drew)));(case side4=>exact HC0_1.out);(case side5=>repeat (first|exact (Kd.C_below HR0_2.out HB.out)|(with_reducible first|apply Kd.C_alloc|apply Kd.C_drewN|apply Kd.C_drew)));(case side6=>exact HC0_2.out);(case side7=>repeat (first|exact (Kd.C_below HR0_3.out HB.out)|(with_reducible first|apply Kd.C_alloc|apply Kd.C_drewN|apply Kd.C_drew)));(case side8=>exact HC0_3.out);rintro e w24 ⟨v345,v348,v351,v354,rfl,ho0,ho1,ho2,ho3,hb⟩;refine ⟨_,rfl,?_⟩;have n0_:=Aside0.mk (Kd.R_mono (Kd.R_told (Kd.R_told (Kd.R_old (by (with_reducible repeat (first|apply Kd.R_alloc|apply Kd.R_drewN|apply Kd.R_drew));exact HO342.out) hb) (Kd.R_base ho2)) (Kd.R_base ho3)) (fun _ h_=>h_.1));have n1_:=Aside0.mk (Kd.S_lower (Kd.S_new' (Kd.S_new' (Kd.S_mono (Kd.S_bound ho0) (fun k_ h_=>(⟨h_.1,(by first|exact h_.2.1|simpa only [World.size_setCell] using h_.2.1)⟩ : _∧w22.heap.size ≤ k_))) (Kd.S_lt (by (with_reducible repeat (first|apply Kd.S_alloc|apply Kd.S_drewN|apply Kd.S_drew));exact HO329.out))) (Kd.R_lt (by (with_reducible repeat (first|apply Kd.R_alloc|apply Kd.R_drewN|apply Kd.R_drew));exact HO332.out))) (below_size (by repeat (first|(with_reducible first|exact HB.out|apply below_alloc|apply pw_below_drewN|apply below_drew1|refine below_set ?_ GE325.out)|exact HB.out))));have n2_:=Aside0.mk (Kd.R_lower (Kd.R_new' ho1 (Kd.R_lt (by (with_reducible repeat (first|apply Kd.R_alloc|apply Kd.R_drewN|apply Kd.R_drew));exact HO332.out))) (below_size (by repeat (first|(with_reducible first|exact HB.out|apply below_alloc|apply pw_below_drewN|apply below_drew1|refine below_set ?_ GE325.out)|exact HB.out))));have n3_:=Aside0.mk (Kd.R_lower (Kd.R_new' (Kd.R_new' (Kd.R_new' ho2 (Kd.R_lt (by (with_reducible repeat (first|apply Kd.R_alloc|apply Kd.R_drewN|apply Kd.R_drew));exact HO335.out))) (Kd.R_lt (by (with_reducible repeat (first|apply Kd.R_alloc|apply Kd.R_drewN|apply Kd.R_drew));exact HO338.out))) (Kd.R_lt (by (with_reducible repeat (first|apply Kd.R_alloc|apply Kd.R_drewN|apply Kd.R_drew));exact HO342.out))) (below_size (by repeat (first|(with_reducible first|exact HB.out|apply below_alloc|apply pw_below_drewN|apply below_drew1|refine below_set ?_ GE325.out)|exact HB.out))));have n4_:=Aside0.mk (Kd.R_lower (Kd.R_new' (Kd.R_new' (Kd.R_new' ho3 (Kd.R_lt (by (with_reducible repeat (first|apply Kd.R_alloc|apply Kd.R_drewN|apply Kd.R_drew));exact HO335.out))) (Kd.R_lt (by (with_reducible repeat (first|apply Kd.R_alloc|apply Kd.R_drewN|apply Kd.R_drew));exact HO338.out))) (Kd.R_lt (by (with_reducible repeat (first|apply Kd.R_alloc|apply Kd.R_drewN|apply Kd.R_drew));exact HO342.out))) (below_size (by repeat (first|(with_reducible first|exact HB.out|apply below_alloc|apply pw_below_drewN|apply below_drew1|refine below_set ?_ GE325.out)|exact HB.out))));have n5_:=Aside0.mk (blk_below (g:=gb325) (o:=.cells #[.slice A0_0 l0_0.length c0_0,.slice A0_1 l0_1.length c0_1,.slice A0_2 l0_2.length c0_2,.slice A0_3 l0_3.length c0_3] 26 (0,0)) (by (with_reducible repeat first|apply blk_drewN|apply blk_drew|apply blk_alloc);exact BK325.out) hb);have n6_:=Aside0.mk (below_step (by repeat (first|(with_reducible first|exact HB.out|apply below_alloc|apply pw_below_drewN|apply below_drew1|refine below_set ?_ GE325.out)|exact HB.out)) hb);clear HO342;clear BK325;clear HB;clear HO329;clear HO332;clear HO335;clear HO338;have HO342:=n0_;have HO346:=n1_;have HO349:=n2_;have HO352:=n3_;have HO355:=n4_;have BK325:=n5_;have HB:=n6_;clear n0_ n1_ n2_ n3_ n4_ n5_ n6_;(try clear hb);(try clear hb2);(try clear hk);(try clear hi);(try clear ho0);(try clear ho1);(try clear ho2);(try clear ho3))|((with_reducible refine gate_dst (N:=9) rfl ?_);refine box_event ?hg (N:=9) ?hd (cs:=#[.slice none 0 0,.slice none 0 0,.slice none 0 0,.slice none 0 0]) (t:=28) ?hr ?_;(case hd=>rfl);(case hg=>rfl);(case hr=>first|(go_simp;done)|(go_simp;rfl));intro gb356 hg w25 hbox hb;have n0_:=Aside0.mk (Kd.R_below (by (with_reducible repeat (first|apply Kd.R_alloc|apply Kd.R_drewN|apply Kd.R_drew));exact HO342.out) hb);have n1_:=Aside0.mk (Kd.S_below (by (with_reducible repeat (first|apply Kd.S_alloc|apply Kd.S_drewN|apply Kd.S_drew));exact HO346.out) hb);have n2_:=Aside0.mk (Kd.R_below (by (with_reducible repeat (first|apply Kd.R_alloc|apply Kd.R_drewN|apply Kd.R_drew));exact HO349.out) hb);have n3_:=Aside0.mk (Kd.R_below (by (with_reducible repeat (first|apply Kd.R_alloc|apply Kd.R_drewN|apply Kd.R_drew));exact HO352.out) hb);have n4_:=Aside0.mk (Kd.R_below (by (with_reducible repeat (first|apply Kd.R_alloc|apply Kd.R_drewN|apply Kd.R_drew));exact HO355.out) hb);have n5_:=Aside0.mk (blk_below (g:=gb325) (o:=.cells #[.slice A0_0 l0_0.length c0_0,.slice A0_1 l0_1.length c0_1,.slice A0_2 l0_2.length c0_2,.slice A0_3 l0_3.length c0_3] 26 (0,0)) (by (with_reducible repeat first|apply blk_drewN|apply blk_drew|apply blk_alloc);exact BK325.out) hb);have n6_:=Aside0.mk (below_step (by repeat (first|(with_reducible first|exact HB.out|apply below_alloc|apply pw_below_drewN|apply below_drew1|refine below_set ?_ GE325.out)|exact HB.out)) hb);have n7_:=Aside0.mk (hbox);have n8_:=Aside0.mk ((by rw [hg];exact (below_size (by repeat (first|(with_reducible first|exact HB.out|apply below_alloc|apply pw_below_drewN|apply below_drew1|refine below_set ?_ GE325.out)|exact HB.out))) : w.heap.size ≤ gb356));have n9_:=Aside0.mk ((by rw [hg];exact (below_size (by repeat (first|(with_reducible first|exact HB.out|apply below_alloc|apply pw_below_drewN|apply below_drew1|refine below_set ?_ GE325.out)|exact HB.out))) : w.heap.size ≤ gb356));have n10_:=Aside0.mk ((by rw [hg];exact Nat.ne_of_lt (blk_lt (g:=gb325) (o:=.cells #[.slice A0_0 l0_0.length c0_0,.slice A0_1 l0_1.length c0_1,.slice A0_2 l0_2.length c0_2,.slice A0_3 l0_3.length c0_3] 26 (0,0)) (by (with_reducible repeat first|apply blk_drewN|apply blk_drew|apply blk_alloc);exact BK325.out)) : gb325 ≠ gb356));have n11_:=Aside0.mk ((by rw [hg];exact Nat.ne_of_gt (blk_lt (g:=gb325) (o:=.cells #[.slice A0_0 l0_0.length c0_0,.slice A0_1 l0_1.length c0_1,.slice A0_2 l0_2.length c0_2,.slice A0_3 l0_3.length c0_3] 26 (0,0)) (by (with_reducible repeat first|apply blk_drewN|apply blk_drew|apply blk_alloc);exact BK325.out)) : gb356 ≠ gb325));clear HO342;clear HO346;clear HO349;clear HO352;clear HO355;clear BK325;clear HB;have HO342:=n0_;have HO346:=n1_;have HO349:=n2_;have HO352:=n3_;have HO355:=n4_;have BK325:=n5_;have HB:=n6_;have BK356:=n7_;have GW356:=n8_;have GE356:=n9_;have NB325_356:=n10_;have NB356_325:=n11_;clear n0_ n1_ n2_ n3_ n4_ n5_ n6_ n7_ n8_ n9_ n10_ n11_;clear hb hbox hg;obtain ⟨Ao26,co26,eo26⟩:=Kd.S_slice HO346.out;subst eo26;have hnb27:=NB356_325.out;have hnc27:=NB325_356.out;have hcz28_0 : w25.cell? ⟨gb356,0,none⟩ = some (.slice none 0 0):=(blk_cell BK356.out 0).trans rfl;have hcz28_1 : w25.cell? ⟨gb356,1,none⟩ = some (.slice none 0 0):=(blk_cell BK356.out 1).trans rfl;have hcz28_2 : w25.cell? ⟨gb356,2,none⟩ = some (.slice none 0 0):=(blk_cell BK356.out 2).trans rfl;have hcz28_3 : w25.cell? ⟨gb356,3,none⟩ = some (.slice none 0 0):=(blk_cell BK356.out 3).trans rfl;have hfz28_0:=blk_frozen BK356.out 0;have hfz28_1:=blk_frozen BK356.out 1;have hfz28_2:=blk_frozen BK356.out 2;have hfz28_3:=blk_frozen BK356.out 3;obtain ⟨Ao29,co29,eo29⟩:=Kd.R_slice HO349.out;subst eo29;obtain ⟨Ao30,co30,eo30⟩:=Kd.R_slice HO352.out;subst eo30;obtain ⟨Ao31,co31,eo31⟩:=Kd.R_slice HO355.out;subst eo31)|((with_reducible refine gate_callee (f:=23) rfl ?_);refine goesL_ (some 37) rfl rfl Try.func23 (by kernel_rfl) rfl #[.agg #[.slice Ao26 t344.length co26,.slice Ao29 t347.length co29,.slice Ao30 t350.length co30,.slice Ao31 t353.length co31],.int .i64 a1] rfl (by (try simp only [List.map_toArray,List.map_cons,List.map_nil]);first|done|rfl|(simp only [List.length_drop,List.length_take];rfl)) ?_;(with_reducible refine (impl_TextIn.calls k _ _ t344 _ _ t347 _ _ t350 _ _ t353 a1 t357 t358 t361 _ ?side1 ?side2 ?side3 ?side4 ?side5 ?side6 ?side7 ?side8 A11.out).mono ?_);(case side1=>refine (Kd.S_reads' (e:=23) (base:=w.heap.size) (ok:=fun k_=>(some k_ ≠ (.slice Ao29 t347.length co29 : Value).ownBlock∧w22.heap.size ≤ k_)) (n:=t344.length) (c:=co26) ?_).2.2;exact (by (with_reducible repeat (first|apply Kd.S_alloc|apply Kd.S_drewN|apply Kd.S_drew));exact Kd.S_mono (Kd.S_far (p:=⟨gb356,3,none⟩) (Kd.S_far (p:=⟨gb356,2,none⟩) (Kd.S_far (p:=⟨gb356,1,none⟩) (Kd.S_far (p:=⟨gb356,0,none⟩) (Kd.S_types HO346.out BK356.out (by decide)) (fun _ hk=>hk.2) (.slice Ao26 t344.length co26)) (fun _ hk=>hk.2) (.slice Ao29 t347.length co29)) (fun _ hk=>hk.2) (.slice Ao30 t350.length co30)) (fun _ hk=>hk.2) (.slice Ao31 t353.length co31)) (fun _ hk=>⟨hk.1.1.1.1,hk.1.1.1.2⟩)));(case side2=>exact (Kd.S_reads' HO346.out).2.1);(case side3=>refine (Kd.R_reads' (e:=5) (base:=w.heap.size) (ok:=fun k_=>True) (n:=t347.length) (c:=co29) ?_).2.2;exact (by (with_reducible repeat (first|apply Kd.R_alloc|apply Kd.R_drewN|apply Kd.R_drew));exact Kd.R_mono (Kd.R_far (p:=⟨gb356,3,none⟩) (Kd.R_far (p:=⟨gb356,2,none⟩) (Kd.R_far (p:=⟨gb356,1,none⟩) (Kd.R_far (p:=⟨gb356,0,none⟩) (Kd.R_types HO349.out BK356.out (by decide)) (fun _ hk=>hk.2) (.slice Ao26 t344.length co26)) (fun _ hk=>hk.2) (.slice Ao29 t347.length co29)) (fun _ hk=>hk.2) (.slice Ao30 t350.length co30)) (fun _ hk=>hk.2) (.slice Ao31 t353.length co31)) (fun _ hk=>trivial)));(case side4=>exact (Kd.R_reads' HO349.out).2.1);(case side5=>refine (Kd.R_reads' (e:=3) (base:=w.heap.size) (ok:=fun k_=>(some k_ ≠ (.slice Ao31 t353.length co31 : Value).ownBlock∧some k_ ≠ (v341 : Value).ownBlock)) (n:=t350.length) (c:=co30) ?_).2.2;exact (by (with_reducible repeat (first|apply Kd.R_alloc|apply Kd.R_drewN|apply Kd.R_drew));exact Kd.R_mono (Kd.R_far (p:=⟨gb356,3,none⟩) (Kd.R_far (p:=⟨gb356,2,none⟩) (Kd.R_far (p:=⟨gb356,1,none⟩) (Kd.R_far (p:=⟨gb356,0,none⟩) (Kd.R_types HO352.out BK356.out (by decide)) (fun _ hk=>hk.2) (.slice Ao26 t344.length co26)) (fun _ hk=>hk.2) (.slice Ao29 t347.length co29)) (fun _ hk=>hk.2) (.slice Ao30 t350.length co30)) (fun _ hk=>hk.2) (.slice Ao31 t353.length co31)) (fun _ hk=>⟨hk.1.1.1.1,hk.1.2⟩)));(case side6=>exact (Kd.R_reads' HO352.out).2.1);(case side7=>refine (Kd.R_reads' (e:=3) (base:=w.heap.size) (ok:=fun k_=>(some k_ ≠ (.slice Ao30 t350.length co30 : Value).ownBlock∧some k_ ≠ (v341 : Value).ownBlock)) (n:=t353.length) (c:=co31) ?_).2.2;exact (by (with_reducible repeat (first|apply Kd.R_alloc|apply Kd.R_drewN|apply Kd.R_drew));exact Kd.R_mono (Kd.R_far (p:=⟨gb356,3,none⟩) (Kd.R_far (p:=⟨gb356,2,none⟩) (Kd.R_far (p:=⟨gb356,1,none⟩) (Kd.R_far (p:=⟨gb356,0,none⟩) (Kd.R_types HO355.out BK356.out (by decide)) (fun _ hk=>hk.2) (.slice Ao26 t344.length co26)) (fun _ hk=>hk.2) (.slice Ao29 t347.length co29)) (fun _ hk=>hk.2) (.slice Ao30 t350.length co30)) (fun _ hk=>hk.2) (.slice Ao31 t353.length co31)) (fun _ hk=>⟨hk.1.1.1.1,hk.1.2⟩)));(case side8=>exact (Kd.R_reads' HO355.out).2.1);rintro e w32 ⟨v359,rfl,ho0,hb⟩;refine ⟨_,rfl,?_⟩;have n0_:=Aside0.mk (Kd.R_elder' (by (with_reducible repeat (first|apply Kd.R_alloc|apply Kd.R_drewN|apply Kd.R_drew));exact (Kd.R_mono (Kd.R_far (p:=⟨gb356,3,none⟩) (Kd.R_far (p:=⟨gb356,2,none⟩) (Kd.R_far (p:=⟨gb356,1,none⟩) (Kd.R_far (p:=⟨gb356,0,none⟩) (Kd.R_types HO342.out BK356.out (by decide)) (fun _ hk=>hk.2) (.slice Ao26 t344.length co26)) (fun _ hk=>hk.2) (.slice Ao29 t347.length co29)) (fun _ hk=>hk.2) (.slice Ao30 t350.length co30)) (fun _ hk=>hk.2) (.slice Ao31 t353.length co31)) (fun _ h_=>h_.1))) (Kd.R_base ho0) hb);have n1_:=Aside0.mk (Kd.S_below (by (with_reducible repeat (first|apply Kd.S_alloc|apply Kd.S_drewN|apply Kd.S_drew));exact (Kd.S_mono (Kd.S_far (p:=⟨gb356,3,none⟩) (Kd.S_far (p:=⟨gb356,2,none⟩) (Kd.S_far (p:=⟨gb356,1,none⟩) (Kd.S_far (p:=⟨gb356,0,none⟩) (Kd.S_types HO346.out BK356.out (by decide)) (fun _ hk=>hk.2) (.slice Ao26 t344.length co26)) (fun _ hk=>hk.2) (.slice Ao29 t347.length co29)) (fun _ hk=>hk.2) (.slice Ao30 t350.length co30)) (fun _ hk=>hk.2) (.slice Ao31 t353.length co31)) (fun _ h_=>h_.1))) hb);have n2_:=Aside0.mk (Kd.R_below (by (with_reducible repeat (first|apply Kd.R_alloc|apply Kd.R_drewN|apply Kd.R_drew));exact (Kd.R_mono (Kd.R_far (p:=⟨gb356,3,none⟩) (Kd.R_far (p:=⟨gb356,2,none⟩) (Kd.R_far (p:=⟨gb356,1,none⟩) (Kd.R_far (p:=⟨gb356,0,none⟩) (Kd.R_types HO349.out BK356.out (by decide)) (fun _ hk=>hk.2) (.slice Ao26 t344.length co26)) (fun _ hk=>hk.2) (.slice Ao29 t347.length co29)) (fun _ hk=>hk.2) (.slice Ao30 t350.length co30)) (fun _ hk=>hk.2) (.slice Ao31 t353.length co31)) (fun _ h_=>h_.1))) hb);have n3_:=Aside0.mk (Kd.R_elder' (by (with_reducible repeat (first|apply Kd.R_alloc|apply Kd.R_drewN|apply Kd.R_drew));exact (Kd.R_mono (Kd.R_far (p:=⟨gb356,3,none⟩) (Kd.R_far (p:=⟨gb356,2,none⟩) (Kd.R_far (p:=⟨gb356,1,none⟩) (Kd.R_far (p:=⟨gb356,0,none⟩) (Kd.R_types HO352.out BK356.out (by decide)) (fun _ hk=>hk.2) (.slice Ao26 t344.length co26)) (fun _ hk=>hk.2) (.slice Ao29 t347.length co29)) (fun _ hk=>hk.2) (.slice Ao30 t350.length co30)) (fun _ hk=>hk.2) (.slice Ao31 t353.length co31)) (fun _ h_=>h_.1))) (Kd.R_base ho0) hb);have n4_:=Aside0.mk (Kd.R_elder' (by (with_reducible repeat (first|apply Kd.R_alloc|apply Kd.R_drewN|apply Kd.R_drew));exact (Kd.R_mono (Kd.R_far (p:=⟨gb356,3,none⟩) (Kd.R_far (p:=⟨gb356,2,none⟩) (Kd.R_far (p:=⟨gb356,1,none⟩) (Kd.R_far (p:=⟨gb356,0,none⟩) (Kd.R_types HO355.out BK356.out (by decide)) (fun _ hk=>hk.2) (.slice Ao26 t344.length co26)) (fun _ hk=>hk.2) (.slice Ao29 t347.length co29)) (fun _ hk=>hk.2) (.slice Ao30 t350.length co30)) (fun _ hk=>hk.2) (.slice Ao31 t353.length co31)) (fun _ h_=>h_.1))) (Kd.R_base ho0) hb);have n5_:=Aside0.mk (Kd.R_lower (Kd.R_new' (Kd.R_new' (Kd.R_new' ho0 (Kd.R_lt (by (with_reducible repeat (first|apply Kd.R_alloc|apply Kd.R_drewN|apply Kd.R_drew));exact (Kd.R_mono (Kd.R_far (p:=⟨gb356,3,none⟩) (Kd.R_far (p:=⟨gb356,2,none⟩) (Kd.R_far (p:=⟨gb356,1,none⟩) (Kd.R_far (p:=⟨gb356,0,none⟩) (Kd.R_types HO342.out BK356.out (by decide)) (fun _ hk=>hk.2) (.slice Ao26 t344.length co26)) (fun _ hk=>hk.2) (.slice Ao29 t347.length co29)) (fun _ hk=>hk.2) (.slice Ao30 t350.length co30)) (fun _ hk=>hk.2) (.slice Ao31 t353.length co31)) (fun _ h_=>h_.1))))) (Kd.R_lt (by (with_reducible repeat (first|apply Kd.R_alloc|apply Kd.R_drewN|apply Kd.R_drew));exact (Kd.R_mono (Kd.R_far (p:=⟨gb356,3,none⟩) (Kd.R_far (p:=⟨gb356,2,none⟩) (Kd.R_far (p:=⟨gb356,1,none⟩) (Kd.R_far (p:=⟨gb356,0,none⟩) (Kd.R_types HO352.out BK356.out (by decide)) (fun _ hk=>hk.2) (.slice Ao26 t344.length co26)) (fun _ hk=>hk.2) (.slice Ao29 t347.length co29)) (fun _ hk=>hk.2) (.slice Ao30 t350.length co30)) (fun _ hk=>hk.2) (.slice Ao31 t353.length co31)) (fun _ h_=>h_.1))))) (Kd.R_lt (by (with_reducible repeat (first|apply Kd.R_alloc|apply Kd.R_drewN|apply Kd.R_drew));exact (Kd.R_mono (Kd.R_far (p:=⟨gb356,3,none⟩) (Kd.R_far (p:=⟨gb356,2,none⟩) (Kd.R_far (p:=⟨gb356,1,none⟩) (Kd.R_far (p:=⟨gb356,0,none⟩) (Kd.R_types HO355.out BK356.out (by decide)) (fun _ hk=>hk.2) (.slice Ao26 t344.length co26)) (fun _ hk=>hk.2) (.slice Ao29 t347.length co29)) (fun _ hk=>hk.2) (.slice Ao30 t350.length co30)) (fun _ hk=>hk.2) (.slice Ao31 t353.length co31)) (fun _ h_=>h_.1))))) (below_size (by repeat (first|(with_reducible first|exact HB.out|apply below_alloc|apply pw_below_drewN|apply below_drew1|refine below_set ?_ GE325.out|refine below_set ?_ GE356.out)|exact HB.out))));have n6_:=Aside0.mk (blk_below (g:=gb325) (o:=.cells #[.slice A0_0 l0_0.length c0_0,.slice A0_1 l0_1.length c0_1,.slice A0_2 l0_2.length c0_2,.slice A0_3 l0_3.length c0_3] 26 (0,0)) (by (with_reducible repeat first|apply blk_drewN|apply blk_drew|apply blk_alloc);refine blk_far ?_ NB325_356.out _;(with_reducible repeat first|apply blk_drewN|apply blk_drew|apply blk_alloc);refine blk_far ?_ NB325_356.out _;(with_reducible repeat first|apply blk_drewN|apply blk_drew|apply blk_alloc);refine blk_far ?_ NB325_356.out _;(with_reducible repeat first|apply blk_drewN|apply blk_drew|apply blk_alloc);refine blk_far ?_ NB325_356.out _;(with_reducible repeat first|apply blk_drewN|apply blk_drew|apply blk_alloc);exact BK325.out) hb);have n7_:=Aside0.mk (blk_below (g:=gb356) (o:=.cells #[.slice Ao26 t344.length co26,.slice Ao29 t347.length co29,.slice Ao30 t350.length co30,.slice Ao31 t353.length co31] 28 (0,0)) (by (with_reducible repeat first|apply blk_drewN|apply blk_drew|apply blk_alloc);refine blk_put (cs:=#[.slice Ao26 t344.length co26,.slice Ao29 t347.length co29,.slice Ao30 t350.length co30,.slice none 0 0]) ?_ 3 _ rfl;(with_reducible repeat first|apply blk_drewN|apply blk_drew|apply blk_alloc);refine blk_put (cs:=#[.slice Ao26 t344.length co26,.slice Ao29 t347.length co29,.slice none 0 0,.slice none 0 0]) ?_ 2 _ rfl;(with_reducible repeat first|apply blk_drewN|apply blk_drew|apply blk_alloc);refine blk_put (cs:=#[.slice Ao26 t344.length co26,.slice none 0 0,.slice none 0 0,.slice none 0 0]) ?_ 1 _ rfl;(with_reducible repeat first|apply blk_drewN|apply blk_drew|apply blk_alloc);refine blk_put (cs:=#[.slice none 0 0,.slice none 0 0,.slice none 0 0,.slice none 0 0]) ?_ 0 _ rfl;(with_reducible repeat first|apply blk_drewN|apply blk_drew|apply blk_alloc);exact BK356.out) hb);have n8_:=Aside0.mk (below_step (by repeat (first|(with_reducible first|exact HB.out|apply below_alloc|apply pw_below_drewN|apply below_drew1|refine below_set ?_ GE325.out|refine below_set ?_ GE356.out)|exact HB.out)) hb);clear HO342;clear HO346;clear HO349;clear HO352;clear HO355;clear BK325;clear BK356;clear HB;have HO342:=n0_;have HO346:=n1_;have HO349:=n2_;have HO352:=n3_;have HO355:=n4_;have HO360:=n5_;have BK325:=n6_;have BK356:=n7_;have HB:=n8_;clear n0_ n1_ n2_ n3_ n4_ n5_ n6_ n7_ n8_;(try clear hb);(try clear hb2);(try clear hk);(try clear hi);(try clear ho0)))
  (try simp only [Act.put,List.setIfInBounds_toArray,List.set_cons_zero,List.set_cons_succ])
  go_cut [54] (fun v54 wc=>∃ (kq : Nat) (x54_11 : Bool),v54 = .bool x54_11∧Aside0 (laws_FnExactTextIn.j0 kq a1 t339 t340 t343 t357 t358 t361 x54_11 l0_0 l0_1 l0_2 l0_3 t344 t347 t350 t353 = some r)∧Aside0 (kq ≤ k)∧Aside0 (Kd.R (Kd.int .i64) 3 wc w.heap.size (fun k_=>some k_ ≠ (v359 : Value).ownBlock∧some k_ ≠ ((.slice Ao30 t350.length co30) : Value).ownBlock∧some k_ ≠ ((.slice Ao31 t353.length co31) : Value).ownBlock) v341 t340)∧Aside0 (Kd.R (Kd.int .i64) 3 wc w.heap.size (fun k_=>some k_ ≠ (v341 : Value).ownBlock∧some k_ ≠ ((.slice Ao30 t350.length co30) : Value).ownBlock∧some k_ ≠ ((.slice Ao31 t353.length co31) : Value).ownBlock) v359 t358)∧Aside0 (Kd.S (Kd.slice 5 (Kd.int .u8)) 23 wc w.heap.size (fun k_=>some k_ ≠ ((.slice Ao29 t347.length co29) : Value).ownBlock∧w22.heap.size ≤ k_) (.slice Ao26 t344.length co26) t344)∧Aside0 (Kd.R (Kd.int .u8) 5 wc w.heap.size (fun _=>True) (.slice Ao29 t347.length co29) t347)∧Aside0 (Kd.R (Kd.int .i64) 3 wc w.heap.size (fun k_=>some k_ ≠ (v341 : Value).ownBlock∧some k_ ≠ (v359 : Value).ownBlock∧some k_ ≠ ((.slice Ao31 t353.length co31) : Value).ownBlock) (.slice Ao30 t350.length co30) t350)∧Aside0 (Kd.R (Kd.int .i64) 3 wc w.heap.size (fun k_=>some k_ ≠ (v341 : Value).ownBlock∧some k_ ≠ (v359 : Value).ownBlock∧some k_ ≠ ((.slice Ao30 t350.length co30) : Value).ownBlock) (.slice Ao31 t353.length co31) t353)∧Aside0 (wc.heap[gb325]? = some (.cells #[(.slice A0_0 l0_0.length c0_0),(.slice A0_1 l0_1.length c0_1),(.slice A0_2 l0_2.length c0_2),(.slice A0_3 l0_3.length c0_3)] 26 (0,0)))∧Aside0 (wc.heap[gb356]? = some (.cells #[(.slice Ao26 t344.length co26),(.slice Ao29 t347.length co29),(.slice Ao30 t350.length co30),(.slice Ao31 t353.length co31)] 28 (0,0)))∧Aside0 (Below w.heap.size w wc))
  case first =>
   have H:=HC12.out
   clear HC12
   by_cases c33 : t357.toList = t339.toList
   ·rw [if_pos c33] at H
    have c33b0 : (t357.toList == t339.toList) = true:=beq_iff_eq.mpr c33
    have c33b1 : (t357.toList != t339.toList) = false:=bne_eq_false_iff_eq.mpr c33
    clear c33
    (first|rw [c33b0]|(simp only [i64_w,i32_w];rw [c33b0])|skip)
    replace H:=Option.bind_eq_some_iff.mp H
    obtain ⟨t362,A340,H⟩:=H
    replace H : (if t362 = true then (laws_FnExactTextIn.j0 k a1 t339 t340 t343 t357 t358 t361 (t361 != t343) l0_0 l0_1 l0_2 l0_3 t344 t347 t350 t353) else (laws_FnExactTextIn.j0 k a1 t339 t340 t343 t357 t358 t361 true l0_0 l0_1 l0_2 l0_3 t344 t347 t350 t353)) = some r:=H
    have A34:=Aside0.mk A340
    clear A340
    by_cases c35 : t362 = true
    ·subst c35
     have H1 : (laws_FnExactTextIn.j0 k a1 t339 t340 t343 t357 t358 t361 (t361 != t343) l0_0 l0_1 l0_2 l0_3 t344 t347 t350 t353) = some r:=by rw [if_pos rfl] at H;exact H
     clear H
     have H:=H1
     clear H1
     have H':=Aside0.mk H
     clear H
     obtain ⟨Ao36,co36,eo36⟩:=Kd.R_slice HO360.out
     subst eo36
     obtain ⟨Ao37,co37,eo37⟩:=Kd.R_slice HO342.out
     subst eo37
     go_wp2_with (first|(go_at_call 17;(with_reducible refine (laws_eqIntS.calls k _ _ t358 _ _ t340 true _ ?side1 ?side2 ?side3 ?side4 A34.out).mono ?_);(case side1=>repeat (first|exact (Kd.R_reads' HO360.out).2.2|(with_reducible first|apply Kd.C_alloc|apply Kd.C_drewN|apply Kd.C_drew)));(case side2=>exact (Kd.R_reads' HO360.out).2.1);(case side3=>repeat (first|exact (Kd.R_reads' HO342.out).2.2|(with_reducible first|apply Kd.C_alloc|apply Kd.C_drewN|apply Kd.C_drew)));(case side4=>exact (Kd.R_reads' HO342.out).2.1);rintro e w' ⟨rfl,⟨nd,rfl⟩⟩))
     go_meet
     case rel=>exact ⟨_,((t361 != t343)),(by first|rfl|(simp;done)|(simp [*];done)),H',⟨by first|omega|exact Nat.le_refl _⟩,⟨by (with_reducible repeat (first|apply Kd.R_alloc|apply Kd.R_drewN|apply Kd.R_drew));exact Kd.R_mono HO342.out (fun _ hk=>⟨hk.2,⟨hk.1.1.2,hk.1.2⟩⟩)⟩,⟨by (with_reducible repeat (first|apply Kd.R_alloc|apply Kd.R_drewN|apply Kd.R_drew));exact Kd.R_mono HO360.out (fun _ hk=>⟨hk.1.1.2,⟨hk.1.2,hk.2⟩⟩)⟩,⟨by (with_reducible repeat (first|apply Kd.S_alloc|apply Kd.S_drewN|apply Kd.S_drew));exact Kd.S_mono HO346.out (fun _ hk=>⟨hk.1.1.1,hk.1.1.2⟩)⟩,⟨by (with_reducible repeat (first|apply Kd.R_alloc|apply Kd.R_drewN|apply Kd.R_drew));exact Kd.R_mono HO349.out (fun _ hk=>trivial)⟩,⟨by (with_reducible repeat (first|apply Kd.R_alloc|apply Kd.R_drewN|apply Kd.R_drew));exact Kd.R_mono HO352.out (fun _ hk=>⟨hk.1.2,⟨hk.2,hk.1.1.1.1⟩⟩)⟩,⟨by (with_reducible repeat (first|apply Kd.R_alloc|apply Kd.R_drewN|apply Kd.R_drew));exact Kd.R_mono HO355.out (fun _ hk=>⟨hk.1.2,⟨hk.2,hk.1.1.1.1⟩⟩)⟩,⟨by (with_reducible repeat first|apply blk_drewN|apply blk_drew|apply blk_alloc);exact BK325.out⟩,⟨by (with_reducible repeat first|apply blk_drewN|apply blk_drew|apply blk_alloc);exact BK356.out⟩,⟨by repeat (first|(with_reducible first|exact HB.out|apply below_alloc|apply pw_below_drewN|apply below_drew1|refine below_set ?_ GE325.out|refine below_set ?_ GE356.out)|exact HB.out)⟩⟩
    ·replace c35:=Bool.eq_false_iff.mpr c35
     subst c35
     have H1 : (laws_FnExactTextIn.j0 k a1 t339 t340 t343 t357 t358 t361 true l0_0 l0_1 l0_2 l0_3 t344 t347 t350 t353) = some r:=by rw [if_neg (show ¬ (false = true) by decide)] at H;exact H
     clear H
     have H:=H1
     clear H1
     have H':=Aside0.mk H
     clear H
     obtain ⟨Ao38,co38,eo38⟩:=Kd.R_slice HO360.out
     subst eo38
     obtain ⟨Ao39,co39,eo39⟩:=Kd.R_slice HO342.out
     subst eo39
     go_wp2_with (first|(go_at_call 17;(with_reducible refine (laws_eqIntS.calls k _ _ t358 _ _ t340 false _ ?side1 ?side2 ?side3 ?side4 A34.out).mono ?_);(case side1=>repeat (first|exact (Kd.R_reads' HO360.out).2.2|(with_reducible first|apply Kd.C_alloc|apply Kd.C_drewN|apply Kd.C_drew)));(case side2=>exact (Kd.R_reads' HO360.out).2.1);(case side3=>repeat (first|exact (Kd.R_reads' HO342.out).2.2|(with_reducible first|apply Kd.C_alloc|apply Kd.C_drewN|apply Kd.C_drew)));(case side4=>exact (Kd.R_reads' HO342.out).2.1);rintro e w' ⟨rfl,⟨nd,rfl⟩⟩))
     go_meet
     case rel=>exact ⟨_,(true),(by first|rfl|(simp;done)|(simp [*];done)),H',⟨by first|omega|exact Nat.le_refl _⟩,⟨by (with_reducible repeat (first|apply Kd.R_alloc|apply Kd.R_drewN|apply Kd.R_drew));exact Kd.R_mono HO342.out (fun _ hk=>⟨hk.2,⟨hk.1.1.2,hk.1.2⟩⟩)⟩,⟨by (with_reducible repeat (first|apply Kd.R_alloc|apply Kd.R_drewN|apply Kd.R_drew));exact Kd.R_mono HO360.out (fun _ hk=>⟨hk.1.1.2,⟨hk.1.2,hk.2⟩⟩)⟩,⟨by (with_reducible repeat (first|apply Kd.S_alloc|apply Kd.S_drewN|apply Kd.S_drew));exact Kd.S_mono HO346.out (fun _ hk=>⟨hk.1.1.1,hk.1.1.2⟩)⟩,⟨by (with_reducible repeat (first|apply Kd.R_alloc|apply Kd.R_drewN|apply Kd.R_drew));exact Kd.R_mono HO349.out (fun _ hk=>trivial)⟩,⟨by (with_reducible repeat (first|apply Kd.R_alloc|apply Kd.R_drewN|apply Kd.R_drew));exact Kd.R_mono HO352.out (fun _ hk=>⟨hk.1.2,⟨hk.2,hk.1.1.1.1⟩⟩)⟩,⟨by (with_reducible repeat (first|apply Kd.R_alloc|apply Kd.R_drewN|apply Kd.R_drew));exact Kd.R_mono HO355.out (fun _ hk=>⟨hk.1.2,⟨hk.2,hk.1.1.1.1⟩⟩)⟩,⟨by (with_reducible repeat first|apply blk_drewN|apply blk_drew|apply blk_alloc);exact BK325.out⟩,⟨by (with_reducible repeat first|apply blk_drewN|apply blk_drew|apply blk_alloc);exact BK356.out⟩,⟨by repeat (first|(with_reducible first|exact HB.out|apply below_alloc|apply pw_below_drewN|apply below_drew1|refine below_set ?_ GE325.out|refine below_set ?_ GE356.out)|exact HB.out)⟩⟩
   ·rw [if_neg c33] at H
    have c33b0 : (t357.toList == t339.toList) = false:=beq_eq_false_iff_ne.mpr c33
    have c33b1 : (t357.toList != t339.toList) = true:=bne_iff_ne.mpr c33
    (first|rw [c33b0]|(simp only [i64_w,i32_w];rw [c33b0])|skip)
    have H':=Aside0.mk H
    clear H
    go_wp2
    go_meet
    case rel=>exact ⟨_,(true),(by first|rfl|(simp;done)|(simp [*];done)),H',⟨by first|omega|exact Nat.le_refl _⟩,⟨by (with_reducible repeat (first|apply Kd.R_alloc|apply Kd.R_drewN|apply Kd.R_drew));exact Kd.R_mono HO342.out (fun _ hk=>⟨hk.2,⟨hk.1.1.2,hk.1.2⟩⟩)⟩,⟨by (with_reducible repeat (first|apply Kd.R_alloc|apply Kd.R_drewN|apply Kd.R_drew));exact Kd.R_mono HO360.out (fun _ hk=>⟨hk.1.1.2,⟨hk.1.2,hk.2⟩⟩)⟩,⟨by (with_reducible repeat (first|apply Kd.S_alloc|apply Kd.S_drewN|apply Kd.S_drew));exact Kd.S_mono HO346.out (fun _ hk=>⟨hk.1.1.1,hk.1.1.2⟩)⟩,⟨by (with_reducible repeat (first|apply Kd.R_alloc|apply Kd.R_drewN|apply Kd.R_drew));exact Kd.R_mono HO349.out (fun _ hk=>trivial)⟩,⟨by (with_reducible repeat (first|apply Kd.R_alloc|apply Kd.R_drewN|apply Kd.R_drew));exact Kd.R_mono HO352.out (fun _ hk=>⟨hk.1.2,⟨hk.2,hk.1.1.1.1⟩⟩)⟩,⟨by (with_reducible repeat (first|apply Kd.R_alloc|apply Kd.R_drewN|apply Kd.R_drew));exact Kd.R_mono HO355.out (fun _ hk=>⟨hk.1.2,⟨hk.2,hk.1.1.1.1⟩⟩)⟩,⟨by (with_reducible repeat first|apply blk_drewN|apply blk_drew|apply blk_alloc);exact BK325.out⟩,⟨by (with_reducible repeat first|apply blk_drewN|apply blk_drew|apply blk_alloc);exact BK356.out⟩,⟨by repeat (first|(with_reducible first|exact HB.out|apply below_alloc|apply pw_below_drewN|apply below_drew1|refine below_set ?_ GE325.out|refine below_set ?_ GE356.out)|exact HB.out)⟩⟩
  case rest =>
   clear HC12
   try clear c2;try clear p2;try clear c3;try clear c4;try clear c4b0;try clear c5;try clear c7;try clear c9;try clear c22;try clear c23;try clear c27;try clear c33;try clear c33b0;try clear c33b1;try clear c35;try clear hcz14_0;try clear hcz14_1;try clear hcz14_2;try clear hcz14_3;try clear hcz16_0;try clear hcz16_1;try clear hcz16_2;try clear hcz16_3;try clear hcz23_0;try clear hcz23_1;try clear hcz23_2;try clear hcz23_3;try clear hcz28_0;try clear hcz28_1;try clear hcz28_2;try clear hcz28_3;try clear hcz6_0;try clear hcz6_1;try clear hcz6_2;try clear hcz6_3;try clear hfz14_0;try clear hfz14_1;try clear hfz14_2;try clear hfz14_3;try clear hfz16_0;try clear hfz16_1;try clear hfz16_2;try clear hfz16_3;try clear hfz23_0;try clear hfz23_1;try clear hfz23_2;try clear hfz23_3;try clear hfz28_0;try clear hfz28_1;try clear hfz28_2;try clear hfz28_3;try clear hfz6_0;try clear hfz6_1;try clear hfz6_2;try clear hfz6_3
   obtain ⟨kq,x54_11,rfl,HA,HJ11,HO_7,HO_11,HO_357000,HO_357001,HO_357002,HO_357003,BK325,BK356,HB⟩:=hcut
   cases kq with
   | zero=>exact absurd HA.out (by simp [laws_FnExactTextIn.j0])
   | succ kj11 =>
    have H:=HA.out
    clear HA
    simp only [laws_FnExactTextIn.j0] at H
    by_cases c40 : x54_11 = true
    ·subst c40
     have H1 : (some false) = some r:=by rw [if_pos rfl] at H;exact H
     clear H
     have H:=H1
     clear H1
     obtain rfl:=Option.some.inj H
     go_wp2
     go_ret
     exact ⟨by first|rfl|(simp [*,errW_none,errW_some] <;> rfl),by repeat (first|(with_reducible first|exact HB.out|apply below_alloc|apply pw_below_drewN|apply below_drew1|refine below_set ?_ GE325.out|refine below_set ?_ GE356.out)|exact HB.out)⟩
    ·replace c40:=Bool.eq_false_iff.mpr c40
     subst c40
     have H1 : ((laws_toSpace.f kj11 l0_0 l0_1 l0_2 l0_3).bind fun bt363=>((laws_eqSpace.f kj11 t344 t347 t350 t353 bt363.1 bt363.2.1 bt363.2.2.1 bt363.2.2.2).bind fun t375=>(if t375 = true then ((laws_markSpace.f kj11 t344 t347 t350 t353 1).bind fun bt376=>(if bt376.1 < 0 then (laws_FnExactTextIn.j1 kj11 a1 t339 t340 t343 t358 true l0_0 l0_1 l0_2 l0_3) else (if t357.toList = t339.toList then ((laws_eqIntS.f kj11 t358 t340).bind fun t381=>(if t381 = true then (laws_FnExactTextIn.j1 kj11 a1 t339 t340 t343 t358 (t361 != t343) l0_0 l0_1 l0_2 l0_3) else (laws_FnExactTextIn.j1 kj11 a1 t339 t340 t343 t358 true l0_0 l0_1 l0_2 l0_3))) else (laws_FnExactTextIn.j1 kj11 a1 t339 t340 t343 t358 true l0_0 l0_1 l0_2 l0_3)))) else (some false)))) = some r:=by rw [if_neg (show ¬ (false = true) by decide)] at H;exact H
     clear H
     have H:=H1
     clear H1
     replace H:=Option.bind_eq_some_iff.mp H
     obtain ⟨⟨t363,t366,t369,t372⟩,A410,H⟩:=H
     replace H : ((laws_eqSpace.f kj11 t344 t347 t350 t353 t363 t366 t369 t372).bind fun t375=>(if t375 = true then ((laws_markSpace.f kj11 t344 t347 t350 t353 1).bind fun bt376=>(if bt376.1 < 0 then (laws_FnExactTextIn.j1 kj11 a1 t339 t340 t343 t358 true l0_0 l0_1 l0_2 l0_3) else (if t357.toList = t339.toList then ((laws_eqIntS.f kj11 t358 t340).bind fun t381=>(if t381 = true then (laws_FnExactTextIn.j1 kj11 a1 t339 t340 t343 t358 (t361 != t343) l0_0 l0_1 l0_2 l0_3) else (laws_FnExactTextIn.j1 kj11 a1 t339 t340 t343 t358 true l0_0 l0_1 l0_2 l0_3))) else (laws_FnExactTextIn.j1 kj11 a1 t339 t340 t343 t358 true l0_0 l0_1 l0_2 l0_3)))) else (some false))) = some r:=H
     have A41:=Aside0.mk A410
     clear A410
     replace H:=Option.bind_eq_some_iff.mp H
     obtain ⟨t375,A420,H⟩:=H
     replace H : (if t375 = true then ((laws_markSpace.f kj11 t344 t347 t350 t353 1).bind fun bt376=>(if bt376.1 < 0 then (laws_FnExactTextIn.j1 kj11 a1 t339 t340 t343 t358 true l0_0 l0_1 l0_2 l0_3) else (if t357.toList = t339.toList then ((laws_eqIntS.f kj11 t358 t340).bind fun t381=>(if t381 = true then (laws_FnExactTextIn.j1 kj11 a1 t339 t340 t343 t358 (t361 != t343) l0_0 l0_1 l0_2 l0_3) else (laws_FnExactTextIn.j1 kj11 a1 t339 t340 t343 t358 true l0_0 l0_1 l0_2 l0_3))) else (laws_FnExactTextIn.j1 kj11 a1 t339 t340 t343 t358 true l0_0 l0_1 l0_2 l0_3)))) else (some false)) = some r:=H
     have A42:=Aside0.mk A420
     clear A420
     by_cases c43 : t375 = true
     ·subst c43
      have H1 : ((laws_markSpace.f kj11 t344 t347 t350 t353 1).bind fun bt376=>(if bt376.1 < 0 then (laws_FnExactTextIn.j1 kj11 a1 t339 t340 t343 t358 true l0_0 l0_1 l0_2 l0_3) else (if t357.toList = t339.toList then ((laws_eqIntS.f kj11 t358 t340).bind fun t381=>(if t381 = true then (laws_FnExactTextIn.j1 kj11 a1 t339 t340 t343 t358 (t361 != t343) l0_0 l0_1 l0_2 l0_3) else (laws_FnExactTextIn.j1 kj11 a1 t339 t340 t343 t358 true l0_0 l0_1 l0_2 l0_3))) else (laws_FnExactTextIn.j1 kj11 a1 t339 t340 t343 t358 true l0_0 l0_1 l0_2 l0_3)))) = some r:=by rw [if_pos rfl] at H;exact H
      clear H
      have H:=H1
      clear H1
      replace H:=Option.bind_eq_some_iff.mp H
      obtain ⟨⟨t376,t377,t378,t379,t380⟩,A440,H⟩:=H
      replace H : (if t376 < 0 then (laws_FnExactTextIn.j1 kj11 a1 t339 t340 t343 t358 true l0_0 l0_1 l0_2 l0_3) else (if t357.toList = t339.toList then ((laws_eqIntS.f kj11 t358 t340).bind fun t381=>(if t381 = true then (laws_FnExactTextIn.j1 kj11 a1 t339 t340 t343 t358 (t361 != t343) l0_0 l0_1 l0_2 l0_3) else (laws_FnExactTextIn.j1 kj11 a1 t339 t340 t343 t358 true l0_0 l0_1 l0_2 l0_3))) else (laws_FnExactTextIn.j1 kj11 a1 t339 t340 t343 t358 true l0_0 l0_1 l0_2 l0_3))) = some r:=H
      have A44:=Aside0.mk A440
      clear A440
      have HC45:=Aside0.mk H
      clear H
      try go_wp2
      have n0_:=Aside0.mk (Kd.R_drew HO_7.out)
      have n1_:=Aside0.mk (Kd.R_drew HO_11.out)
      have n2_:=Aside0.mk (Kd.S_drew HO_357000.out)
      have n3_:=Aside0.mk (Kd.R_drew HO_357001.out)
      have n4_:=Aside0.mk (Kd.R_drew HO_357002.out)
      have n5_:=Aside0.mk (Kd.R_drew HO_357003.out)
      have n6_:=Aside0.mk (blk_drew BK325.out)
      have n7_:=Aside0.mk (blk_drew BK356.out)
      have n8_:=Aside0.mk (below_drew1 HB.out)
      clear HO_7
      clear HO_11
      clear HO_357000
      clear HO_357001
      clear HO_357002
      clear HO_357003
      clear BK325
      clear BK356
      clear HB
      have HO_7:=n0_
      have HO_11:=n1_
      have HO_357000:=n2_
      have HO_357001:=n3_
      have HO_357002:=n4_
      have HO_357003:=n5_
      have BK325:=n6_
      have BK356:=n7_
      have HB:=n8_
      clear n0_ n1_ n2_ n3_ n4_ n5_ n6_ n7_ n8_
      refine start_ (n:=5) (S:=fun w'=>w'.cell? ⟨gb356,0,none⟩ = some (.slice Ao26 t344.length co26)∧w'.cell? ⟨gb356,1,none⟩ = some (.slice Ao29 t347.length co29)∧w'.cell? ⟨gb356,2,none⟩ = some (.slice Ao30 t350.length co30)∧w'.cell? ⟨gb356,3,none⟩ = some (.slice Ao31 t353.length co31)∧w'.cell? ⟨gb325,0,none⟩ = some (.slice A0_0 l0_0.length c0_0)∧w'.cell? ⟨gb325,1,none⟩ = some (.slice A0_1 l0_1.length c0_1)∧w'.cell? ⟨gb325,2,none⟩ = some (.slice A0_2 l0_2.length c0_2)∧w'.cell? ⟨gb325,3,none⟩ = some (.slice A0_3 l0_3.length c0_3)) (ds:=[]) #[false,false,false,false,false] (by kernel_rfl) rfl rfl ⟨(blk_cell BK356.out 0).trans rfl,(blk_cell BK356.out 1).trans rfl,(blk_cell BK356.out 2).trans rfl,(blk_cell BK356.out 3).trans rfl,(blk_cell BK325.out 0).trans rfl,(blk_cell BK325.out 1).trans rfl,(blk_cell BK325.out 2).trans rfl,(blk_cell BK325.out 3).trans rfl⟩ (fun hHeld=>?_)
      generalize wc.drew = w46 at HO_7 HO_11 HO_357000 HO_357001 HO_357002 HO_357003 BK325 BK356 HB hHeld ⊢
      refine take_ (i:=0) (N:=some 55) (v:=?_) (a':=?_) #[true,false,false,false,false] rfl rfl (by kernel_rfl) (fun _ _ _ h=>h) (Or.inl ⟨by rfl,?_⟩) hHeld ?_ ?_
      rotate_left
      ·rintro w' ⟨s0,s1,s2,s3,s4,s5,s6,s7⟩
       go_simp
       with_reducible rfl
      rotate_left
      ·simp only [Act.put,List.setIfInBounds_toArray,List.set_cons_zero,List.set_cons_succ,i64_w,i32_w]
       rfl
      refine take_ (i:=1) (N:=some 56) (v:=?_) (a':=?_) #[true,true,false,false,false] rfl rfl (by kernel_rfl) (fun _ _ _ h=>h) (Or.inl ⟨by rfl,?_⟩) hHeld ?_ ?_
      rotate_left
      ·rintro w' ⟨s0,s1,s2,s3,s4,s5,s6,s7⟩
       go_simp
       with_reducible rfl
      rotate_left
      ·simp only [Act.put,List.setIfInBounds_toArray,List.set_cons_zero,List.set_cons_succ,i64_w,i32_w]
       rfl
      refine one_ (i:=2) (N:=some 57) #[true,true,true,false,false] rfl rfl (by kernel_rfl) (by decide) (fun K hK=>?_)
      refine goes_ Try.func9 (by kernel_rfl) rfl #[.agg #[.slice A0_0 l0_0.length c0_0,.slice A0_1 l0_1.length c0_1,.slice A0_2 l0_2.length c0_2,.slice A0_3 l0_3.length c0_3]] (by rfl) rfl rfl (by (try simp only [List.map_toArray,List.map_cons,List.map_nil]);first|done|rfl|(simp only [List.length_drop,List.length_take];rfl)) ?_
      with_reducible refine (laws_toSpace.calls kj11 _ _ l0_0 _ _ l0_1 _ _ l0_2 _ _ l0_3 t363 t366 t369 t372 _ ?side1 ?side2 ?side3 ?side4 ?side5 ?side6 ?side7 ?side8 A41.out).mono ?_
      (case side1=>repeat (first|exact (Kd.C_below HR0_0.out HB.out)|(with_reducible first|apply Kd.C_alloc|apply Kd.C_drewN|apply Kd.C_drew)))
      (case side2=>exact HC0_0.out)
      (case side3=>repeat (first|exact (Kd.C_below HR0_1.out HB.out)|(with_reducible first|apply Kd.C_alloc|apply Kd.C_drewN|apply Kd.C_drew)))
      (case side4=>exact HC0_1.out)
      (case side5=>repeat (first|exact (Kd.C_below HR0_2.out HB.out)|(with_reducible first|apply Kd.C_alloc|apply Kd.C_drewN|apply Kd.C_drew)))
      (case side6=>exact HC0_2.out)
      (case side7=>repeat (first|exact (Kd.C_below HR0_3.out HB.out)|(with_reducible first|apply Kd.C_alloc|apply Kd.C_drewN|apply Kd.C_drew)))
      (case side8=>exact HC0_3.out)
      rintro e w47 ⟨v364,v367,v370,v373,rfl,ho0,ho1,ho2,ho3,hb⟩
      refine ⟨_,rfl,?_⟩
      have n0_:=Aside0.mk (Kd.R_mono (Kd.R_told (Kd.R_told (Kd.R_old (by (with_reducible repeat (first|apply Kd.R_alloc|apply Kd.R_drewN|apply Kd.R_drew));exact HO_7.out) hb) (Kd.R_base ho2)) (Kd.R_base ho3)) (fun _ h_=>h_.1))
      have n1_:=Aside0.mk (Kd.R_mono (Kd.R_told (Kd.R_told (Kd.R_old (by (with_reducible repeat (first|apply Kd.R_alloc|apply Kd.R_drewN|apply Kd.R_drew));exact HO_11.out) hb) (Kd.R_base ho2)) (Kd.R_base ho3)) (fun _ h_=>h_.1))
      have n2_:=Aside0.mk (Kd.S_told (Kd.S_told (Kd.S_old (by (with_reducible repeat (first|apply Kd.S_alloc|apply Kd.S_drewN|apply Kd.S_drew));exact HO_357000.out) hb) (Kd.S_base ho0)) (Kd.R_base ho1))
      have n3_:=Aside0.mk (Kd.R_elder' (by (with_reducible repeat (first|apply Kd.R_alloc|apply Kd.R_drewN|apply Kd.R_drew));exact HO_357001.out) (Kd.R_base ho1) hb)
      have n4_:=Aside0.mk (Kd.R_mono (Kd.R_told (Kd.R_told (Kd.R_old (by (with_reducible repeat (first|apply Kd.R_alloc|apply Kd.R_drewN|apply Kd.R_drew));exact HO_357002.out) hb) (Kd.R_base ho2)) (Kd.R_base ho3)) (fun _ h_=>h_.1))
      have n5_:=Aside0.mk (Kd.R_mono (Kd.R_told (Kd.R_told (Kd.R_old (by (with_reducible repeat (first|apply Kd.R_alloc|apply Kd.R_drewN|apply Kd.R_drew));exact HO_357003.out) hb) (Kd.R_base ho2)) (Kd.R_base ho3)) (fun _ h_=>h_.1))
      have n6_:=Aside0.mk (Kd.S_lower (Kd.S_new' (Kd.S_new' (Kd.S_mono (Kd.S_bound ho0) (fun k_ h_=>(⟨h_.1,(by first|exact h_.2.1|simpa only [World.size_setCell] using h_.2.1)⟩ : _∧w46.heap.size ≤ k_))) (Kd.S_lt (by (with_reducible repeat (first|apply Kd.S_alloc|apply Kd.S_drewN|apply Kd.S_drew));exact HO_357000.out))) (Kd.R_lt (by (with_reducible repeat (first|apply Kd.R_alloc|apply Kd.R_drewN|apply Kd.R_drew));exact HO_357001.out))) (below_size (by repeat (first|(with_reducible first|exact HB.out|apply below_alloc|apply pw_below_drewN|apply below_drew1|refine below_set ?_ GE325.out|refine below_set ?_ GE356.out)|exact HB.out))))
      have n7_:=Aside0.mk (Kd.R_lower (Kd.R_new' ho1 (Kd.R_lt (by (with_reducible repeat (first|apply Kd.R_alloc|apply Kd.R_drewN|apply Kd.R_drew));exact HO_357001.out))) (below_size (by repeat (first|(with_reducible first|exact HB.out|apply below_alloc|apply pw_below_drewN|apply below_drew1|refine below_set ?_ GE325.out|refine below_set ?_ GE356.out)|exact HB.out))))
      have n8_:=Aside0.mk (Kd.R_lower (Kd.R_new' (Kd.R_new' (Kd.R_new' (Kd.R_new' ho2 (Kd.R_lt (by (with_reducible repeat (first|apply Kd.R_alloc|apply Kd.R_drewN|apply Kd.R_drew));exact HO_7.out))) (Kd.R_lt (by (with_reducible repeat (first|apply Kd.R_alloc|apply Kd.R_drewN|apply Kd.R_drew));exact HO_11.out))) (Kd.R_lt (by (with_reducible repeat (first|apply Kd.R_alloc|apply Kd.R_drewN|apply Kd.R_drew));exact HO_357002.out))) (Kd.R_lt (by (with_reducible repeat (first|apply Kd.R_alloc|apply Kd.R_drewN|apply Kd.R_drew));exact HO_357003.out))) (below_size (by repeat (first|(with_reducible first|exact HB.out|apply below_alloc|apply pw_below_drewN|apply below_drew1|refine below_set ?_ GE325.out|refine below_set ?_ GE356.out)|exact HB.out))))
      have n9_:=Aside0.mk (Kd.R_lower (Kd.R_new' (Kd.R_new' (Kd.R_new' (Kd.R_new' ho3 (Kd.R_lt (by (with_reducible repeat (first|apply Kd.R_alloc|apply Kd.R_drewN|apply Kd.R_drew));exact HO_7.out))) (Kd.R_lt (by (with_reducible repeat (first|apply Kd.R_alloc|apply Kd.R_drewN|apply Kd.R_drew));exact HO_11.out))) (Kd.R_lt (by (with_reducible repeat (first|apply Kd.R_alloc|apply Kd.R_drewN|apply Kd.R_drew));exact HO_357002.out))) (Kd.R_lt (by (with_reducible repeat (first|apply Kd.R_alloc|apply Kd.R_drewN|apply Kd.R_drew));exact HO_357003.out))) (below_size (by repeat (first|(with_reducible first|exact HB.out|apply below_alloc|apply pw_below_drewN|apply below_drew1|refine below_set ?_ GE325.out|refine below_set ?_ GE356.out)|exact HB.out))))
      have n10_:=Aside0.mk (blk_below (g:=gb325) (o:=.cells #[.slice A0_0 l0_0.length c0_0,.slice A0_1 l0_1.length c0_1,.slice A0_2 l0_2.length c0_2,.slice A0_3 l0_3.length c0_3] 26 (0,0)) (by (with_reducible repeat first|apply blk_drewN|apply blk_drew|apply blk_alloc);exact BK325.out) hb)
      have n11_:=Aside0.mk (blk_below (g:=gb356) (o:=.cells #[.slice Ao26 t344.length co26,.slice Ao29 t347.length co29,.slice Ao30 t350.length co30,.slice Ao31 t353.length co31] 28 (0,0)) (by (with_reducible repeat first|apply blk_drewN|apply blk_drew|apply blk_alloc);exact BK356.out) hb)
      have n12_:=Aside0.mk (below_step (by repeat (first|(with_reducible first|exact HB.out|apply below_alloc|apply pw_below_drewN|apply below_drew1|refine below_set ?_ GE325.out|refine below_set ?_ GE356.out)|exact HB.out)) hb)
      clear HO_7
      clear HO_11
      clear HO_357000
      clear HO_357001
      clear HO_357002
      clear HO_357003
      clear BK325
      clear BK356
      clear HB
      have HO_7:=n0_
      have HO_11:=n1_
      have HO_357000:=n2_
      have HO_357001:=n3_
      have HO_357002:=n4_
      have HO_357003:=n5_
      have HO365:=n6_
      have HO368:=n7_
      have HO371:=n8_
      have HO374:=n9_
      have BK325:=n10_
      have BK356:=n11_
      have HB:=n12_
      clear n0_ n1_ n2_ n3_ n4_ n5_ n6_ n7_ n8_ n9_ n10_ n11_ n12_
      (try clear hb)
      (try clear hb2)
      (try clear hk)
      (try clear hi)
      (try clear ho0)
      (try clear ho1)
      (try clear ho2)
      (try clear ho3)
      obtain ⟨Ao48,co48,eo48⟩:=Kd.S_slice HO365.out
      (first|subst eo48|(injection eo48 with f1_ f2_ f3_;have f4_:=f1_.symm;have f5_:=f3_.symm;clear f1_ f2_ f3_;subst f4_;subst f5_))
      obtain ⟨Ao49,co49,eo49⟩:=Kd.R_slice HO368.out
      (first|subst eo49|(injection eo49 with f1_ f2_ f3_;have f4_:=f1_.symm;have f5_:=f3_.symm;clear f1_ f2_ f3_;subst f4_;subst f5_))
      obtain ⟨Ao50,co50,eo50⟩:=Kd.R_slice HO371.out
      (first|subst eo50|(injection eo50 with f1_ f2_ f3_;have f4_:=f1_.symm;have f5_:=f3_.symm;clear f1_ f2_ f3_;subst f4_;subst f5_))
      obtain ⟨Ao51,co51,eo51⟩:=Kd.R_slice HO374.out
      (first|subst eo51|(injection eo51 with f1_ f2_ f3_;have f4_:=f1_.symm;have f5_:=f3_.symm;clear f1_ f2_ f3_;subst f4_;subst f5_))
      refine hK.out _ _ ⟨(blk_cell BK356.out 0).trans rfl,(blk_cell BK356.out 1).trans rfl,(blk_cell BK356.out 2).trans rfl,(blk_cell BK356.out 3).trans rfl,(blk_cell BK325.out 0).trans rfl,(blk_cell BK325.out 1).trans rfl,(blk_cell BK325.out 2).trans rfl,(blk_cell BK325.out 3).trans rfl⟩ (fun hHeld=>?_)
      clear hK K
      refine norm_ (a':=?_) ?_ ?_
      rotate_left
      ·show Act.put _ (some 57) _ = _
       simp only [Act.put,List.setIfInBounds_toArray,List.set_cons_zero,List.set_cons_succ,i64_w,i32_w]
       rfl
      refine one_ (i:=3) (N:=some 58) #[true,true,true,true,false] rfl rfl (by kernel_rfl) (by decide) (fun K hK=>?_)
      refine goes_ Try.func11 (by kernel_rfl) rfl #[.agg #[.slice Ao26 t344.length co26,.slice Ao29 t347.length co29,.slice Ao30 t350.length co30,.slice Ao31 t353.length co31],.agg #[.slice Ao48 t363.length co48,.slice Ao49 t366.length co49,.slice Ao50 t369.length co50,.slice Ao51 t372.length co51]] (by rfl) rfl rfl (by (try simp only [List.map_toArray,List.map_cons,List.map_nil]);first|done|rfl|(simp only [List.length_drop,List.length_take];rfl)) ?_
      with_reducible refine (laws_eqSpace.calls kj11 _ _ t344 _ _ t347 _ _ t350 _ _ t353 _ _ t363 _ _ t366 _ _ t369 _ _ t372 true _ ?side1 ?side2 ?side3 ?side4 ?side5 ?side6 ?side7 ?side8 ?side9 ?side10 ?side11 ?side12 ?side13 ?side14 ?side15 ?side16 A42.out).mono ?_
      (case side1=>repeat (first|exact (Kd.S_reads' HO_357000.out).2.2|(with_reducible first|apply Kd.C_alloc|apply Kd.C_drewN|apply Kd.C_drew)))
      (case side2=>exact (Kd.S_reads' HO_357000.out).2.1)
      (case side3=>repeat (first|exact (Kd.R_reads' HO_357001.out).2.2|(with_reducible first|apply Kd.C_alloc|apply Kd.C_drewN|apply Kd.C_drew)))
      (case side4=>exact (Kd.R_reads' HO_357001.out).2.1)
      (case side5=>repeat (first|exact (Kd.R_reads' HO_357002.out).2.2|(with_reducible first|apply Kd.C_alloc|apply Kd.C_drewN|apply Kd.C_drew)))
      (case side6=>exact (Kd.R_reads' HO_357002.out).2.1)
      (case side7=>repeat (first|exact (Kd.R_reads' HO_357003.out).2.2|(with_reducible first|apply Kd.C_alloc|apply Kd.C_drewN|apply Kd.C_drew)))
      (case side8=>exact (Kd.R_reads' HO_357003.out).2.1)
      (case side9=>repeat (first|exact (Kd.S_reads' HO365.out).2.2|(with_reducible first|apply Kd.C_alloc|apply Kd.C_drewN|apply Kd.C_drew)))
      (case side10=>exact (Kd.S_reads' HO365.out).2.1)
      (case side11=>repeat (first|exact (Kd.R_reads' HO368.out).2.2|(with_reducible first|apply Kd.C_alloc|apply Kd.C_drewN|apply Kd.C_drew)))
      (case side12=>exact (Kd.R_reads' HO368.out).2.1)
      (case side13=>repeat (first|exact (Kd.R_reads' HO371.out).2.2|(with_reducible first|apply Kd.C_alloc|apply Kd.C_drewN|apply Kd.C_drew)))
      (case side14=>exact (Kd.R_reads' HO371.out).2.1)
      (case side15=>repeat (first|exact (Kd.R_reads' HO374.out).2.2|(with_reducible first|apply Kd.C_alloc|apply Kd.C_drewN|apply Kd.C_drew)))
      (case side16=>exact (Kd.R_reads' HO374.out).2.1)
      rintro e w52 ⟨rfl,hb⟩
      refine ⟨_,rfl,?_⟩
      have n0_:=Aside0.mk (Kd.R_below (by (with_reducible repeat (first|apply Kd.R_alloc|apply Kd.R_drewN|apply Kd.R_drew));exact HO_7.out) hb)
      have n1_:=Aside0.mk (Kd.R_below (by (with_reducible repeat (first|apply Kd.R_alloc|apply Kd.R_drewN|apply Kd.R_drew));exact HO_11.out) hb)
      have n2_:=Aside0.mk (Kd.S_below (by (with_reducible repeat (first|apply Kd.S_alloc|apply Kd.S_drewN|apply Kd.S_drew));exact HO_357000.out) hb)
      have n3_:=Aside0.mk (Kd.R_below (by (with_reducible repeat (first|apply Kd.R_alloc|apply Kd.R_drewN|apply Kd.R_drew));exact HO_357001.out) hb)
      have n4_:=Aside0.mk (Kd.R_below (by (with_reducible repeat (first|apply Kd.R_alloc|apply Kd.R_drewN|apply Kd.R_drew));exact HO_357002.out) hb)
      have n5_:=Aside0.mk (Kd.R_below (by (with_reducible repeat (first|apply Kd.R_alloc|apply Kd.R_drewN|apply Kd.R_drew));exact HO_357003.out) hb)
      have n6_:=Aside0.mk (Kd.S_below (by (with_reducible repeat (first|apply Kd.S_alloc|apply Kd.S_drewN|apply Kd.S_drew));exact HO365.out) hb)
      have n7_:=Aside0.mk (Kd.R_below (by (with_reducible repeat (first|apply Kd.R_alloc|apply Kd.R_drewN|apply Kd.R_drew));exact HO368.out) hb)
      have n8_:=Aside0.mk (Kd.R_below (by (with_reducible repeat (first|apply Kd.R_alloc|apply Kd.R_drewN|apply Kd.R_drew));exact HO371.out) hb)
      have n9_:=Aside0.mk (Kd.R_below (by (with_reducible repeat (first|apply Kd.R_alloc|apply Kd.R_drewN|apply Kd.R_drew));exact HO374.out) hb)
      have n10_:=Aside0.mk (blk_below (g:=gb325) (o:=.cells #[.slice A0_0 l0_0.length c0_0,.slice A0_1 l0_1.length c0_1,.slice A0_2 l0_2.length c0_2,.slice A0_3 l0_3.length c0_3] 26 (0,0)) (by (with_reducible repeat first|apply blk_drewN|apply blk_drew|apply blk_alloc);exact BK325.out) hb)
      have n11_:=Aside0.mk (blk_below (g:=gb356) (o:=.cells #[.slice Ao26 t344.length co26,.slice Ao29 t347.length co29,.slice Ao30 t350.length co30,.slice Ao31 t353.length co31] 28 (0,0)) (by (with_reducible repeat first|apply blk_drewN|apply blk_drew|apply blk_alloc);exact BK356.out) hb)
      have n12_:=Aside0.mk (below_step (by repeat (first|(with_reducible first|exact HB.out|apply below_alloc|apply pw_below_drewN|apply below_drew1|refine below_set ?_ GE325.out|refine below_set ?_ GE356.out)|exact HB.out)) hb)
      clear HO_7
      clear HO_11
      clear HO_357000
      clear HO_357001
      clear HO_357002
      clear HO_357003
      clear HO365
      clear HO368
      clear HO371
      clear HO374
      clear BK325
      clear BK356
      clear HB
      have HO_7:=n0_
      have HO_11:=n1_
      have HO_357000:=n2_
      have HO_357001:=n3_
      have HO_357002:=n4_
      have HO_357003:=n5_
      have HO365:=n6_
      have HO368:=n7_
      have HO371:=n8_
      have HO374:=n9_
      have BK325:=n10_
      have BK356:=n11_
      have HB:=n12_
      clear n0_ n1_ n2_ n3_ n4_ n5_ n6_ n7_ n8_ n9_ n10_ n11_ n12_
      (try clear hb)
      (try clear hb2)
      (try clear hk)
      (try clear hi)
      refine hK.out _ _ ⟨(blk_cell BK356.out 0).trans rfl,(blk_cell BK356.out 1).trans rfl,(blk_cell BK356.out 2).trans rfl,(blk_cell BK356.out 3).trans rfl,(blk_cell BK325.out 0).trans rfl,(blk_cell BK325.out 1).trans rfl,(blk_cell BK325.out 2).trans rfl,(blk_cell BK325.out 3).trans rfl⟩ (fun hHeld=>?_)
      clear hK K
      refine norm_ (a':=?_) ?_ ?_
      rotate_left
      ·show Act.put _ (some 58) _ = _
       simp only [Act.put,List.setIfInBounds_toArray,List.set_cons_zero,List.set_cons_succ,i64_w,i32_w]
       rfl
      refine pure_ (i:=4) (N:=some 59) (v:=?_) (a':=?_) #[true,true,true,true,true] rfl rfl (by kernel_rfl) (fun _ _ _ h=>h) (Or.inl ⟨by rfl,?_⟩) ?_ ?_
      rotate_left
      ·intro w'
       go_simp
       with_reducible rfl
      rotate_left
      ·simp only [Act.put,List.setIfInBounds_toArray,List.set_cons_zero,List.set_cons_succ,i64_w,i32_w]
       rfl
      refine done_ (by kernel_rfl) ?_
      have hnb53:=NB356_325.out
      have hnc53:=NB325_356.out
      have hcz54_0 : w52.cell? ⟨gb356,0,none⟩ = some (.slice Ao26 t344.length co26):=(blk_cell BK356.out 0).trans rfl
      have hcz54_1 : w52.cell? ⟨gb356,1,none⟩ = some (.slice Ao29 t347.length co29):=(blk_cell BK356.out 1).trans rfl
      have hcz54_2 : w52.cell? ⟨gb356,2,none⟩ = some (.slice Ao30 t350.length co30):=(blk_cell BK356.out 2).trans rfl
      have hcz54_3 : w52.cell? ⟨gb356,3,none⟩ = some (.slice Ao31 t353.length co31):=(blk_cell BK356.out 3).trans rfl
      have hfz54_0:=blk_frozen BK356.out 0
      have hfz54_1:=blk_frozen BK356.out 1
      have hfz54_2:=blk_frozen BK356.out 2
      have hfz54_3:=blk_frozen BK356.out 3
      go_upto_region 14 with (first|((with_reducible refine gate_callee (f:=12) rfl ?_);refine goesL_ (some 62) rfl rfl Try.func12 (by kernel_rfl) rfl #[.agg #[.slice Ao26 t344.length co26,.slice Ao29 t347.length co29,.slice Ao30 t350.length co30,.slice Ao31 t353.length co31],.int .i64 1] rfl (by (try simp only [List.map_toArray,List.map_cons,List.map_nil]);first|done|rfl|(simp only [List.length_drop,List.length_take];rfl)) ?_;(with_reducible refine (laws_markSpace.calls kj11 (SB_ (Kd.slice 5 (Kd.int .u8)) 23 w52 w.heap.size (fun k_=>((((some k_ ≠ (.slice Ao29 t347.length co29 : Value).ownBlock∧w22.heap.size ≤ k_)∧some k_ ≠ (.slice Ao48 t363.length co48 : Value).ownBlock)∧some k_ ≠ (.slice Ao49 t366.length co49 : Value).ownBlock)∧k_ < w46.heap.size))) (.slice Ao26 t344.length co26) t344 (fun k_=>some k_ = (.slice Ao29 t347.length co29 : Value).ownBlock) (.slice Ao29 t347.length co29) t347 (fun k_=>some k_ = (.slice Ao30 t350.length co30 : Value).ownBlock) (.slice Ao30 t350.length co30) t350 (fun k_=>some k_ = (.slice Ao31 t353.length co31 : Value).ownBlock) (.slice Ao31 t353.length co31) t353 1 t376 t377 t378 t379 t380 w _ ?side1 ?side2 ?side3 ?side4 ?side5 ?side6 ?side7 ?side8 A44.out).mono ?_);(case side1=>repeat (first|(with_reducible first|exact HB.out|apply below_alloc|apply pw_below_drewN|apply below_drew1|refine below_set ?_ GE325.out|refine below_set ?_ GE356.out)|exact HB.out));(case side2=>exact SB_own HO_357000.out);(case side3=>exact fun k_ h_ e_=>(h_.1.1.1.1.1) e_);(case side4=>exact Kd.R_tight rfl HO_357001.out);(case side5=>exact Kd.R_tight rfl HO_357002.out);(case side6=>exact fun k_ e_=>(HO_357002.out.1 k_ e_.symm).1.1.2.2);(case side7=>exact Kd.R_tight rfl HO_357003.out);(case side8=>exact fun k_ e_=>(HO_357003.out.1 k_ e_.symm).1.1.2.2);rintro e w55 ⟨rfl,hy0,hy1,hy2,hy3,hb,hkp⟩;refine ⟨_,rfl,?_⟩;have n0_:=Aside0.mk (Kd.R_mono (ok':=fun k_=>some k_ ≠ (v359 : Value).ownBlock∧some k_ ≠ (.slice Ao50 t369.length co50 : Value).ownBlock∧some k_ ≠ (.slice Ao51 t372.length co51 : Value).ownBlock) (Kd.R_keptB ((Kd.R_apart' (R_apartSB (d':=(Kd.slice 5 (Kd.int .u8))) (e':=23) (base':=w.heap.size) (ok':=(fun k_=>((((some k_ ≠ (.slice Ao29 t347.length co29 : Value).ownBlock∧w22.heap.size ≤ k_)∧some k_ ≠ (.slice Ao48 t363.length co48 : Value).ownBlock)∧some k_ ≠ (.slice Ao49 t366.length co49 : Value).ownBlock)∧k_ < w46.heap.size))) HO_7.out (by decide)) (Kd.R_typed HO_357001.out) (by decide))) hkp (fun k_ hk_ hs_=>Or.elim hs_ (fun e_=>(hk_.1.2) e_) (fun e_=>Or.elim e_ (fun e_=>(hk_.2) e_) (fun e_=>Or.elim e_ (fun e_=>(hk_.1.1.1.1.2.1) e_) (fun e_=>(hk_.1.1.1.1.2.2) e_))))) (fun k_ hk_=>⟨hk_.1.1.1.1.1.1,hk_.1.1.1.1.2,hk_.1.1.1.2⟩));have n1_:=Aside0.mk (Kd.R_mono (ok':=fun k_=>some k_ ≠ (v341 : Value).ownBlock∧some k_ ≠ (.slice Ao50 t369.length co50 : Value).ownBlock∧some k_ ≠ (.slice Ao51 t372.length co51 : Value).ownBlock) (Kd.R_keptB ((Kd.R_apart' (R_apartSB (d':=(Kd.slice 5 (Kd.int .u8))) (e':=23) (base':=w.heap.size) (ok':=(fun k_=>((((some k_ ≠ (.slice Ao29 t347.length co29 : Value).ownBlock∧w22.heap.size ≤ k_)∧some k_ ≠ (.slice Ao48 t363.length co48 : Value).ownBlock)∧some k_ ≠ (.slice Ao49 t366.length co49 : Value).ownBlock)∧k_ < w46.heap.size))) HO_11.out (by decide)) (Kd.R_typed HO_357001.out) (by decide))) hkp (fun k_ hk_ hs_=>Or.elim hs_ (fun e_=>(hk_.1.2) e_) (fun e_=>Or.elim e_ (fun e_=>(hk_.2) e_) (fun e_=>Or.elim e_ (fun e_=>(hk_.1.1.1.1.2.1) e_) (fun e_=>(hk_.1.1.1.1.2.2) e_))))) (fun k_ hk_=>⟨hk_.1.1.1.1.1.1,hk_.1.1.1.1.2,hk_.1.1.1.2⟩));have n2_:=Aside0.mk (blk_kept (g:=gb325) (o:=.cells #[.slice A0_0 l0_0.length c0_0,.slice A0_1 l0_1.length c0_1,.slice A0_2 l0_2.length c0_2,.slice A0_3 l0_3.length c0_3] 26 (0,0)) (by (with_reducible repeat first|apply blk_drewN|apply blk_drew|apply blk_alloc);exact BK325.out) hkp (fun hs_=>Or.elim hs_ (fun e_=>(fun e_=>(blk_SB BK325.out (by decide)) e_) e_) (fun e_=>Or.elim e_ (fun e_=>(fun e_=>(Kd.R_ne HO_357001.out BK325.out (by decide)) e_) e_) (fun e_=>Or.elim e_ (fun e_=>(fun e_=>(Kd.R_ne HO_357002.out BK325.out (by decide)) e_) e_) (fun e_=>(fun e_=>(Kd.R_ne HO_357003.out BK325.out (by decide)) e_) e_)))));have n3_:=Aside0.mk (blk_kept (g:=gb356) (o:=.cells #[.slice Ao26 t344.length co26,.slice Ao29 t347.length co29,.slice Ao30 t350.length co30,.slice Ao31 t353.length co31] 28 (0,0)) (by (with_reducible repeat first|apply blk_drewN|apply blk_drew|apply blk_alloc);exact BK356.out) hkp (fun hs_=>Or.elim hs_ (fun e_=>(fun e_=>(blk_SB BK356.out (by decide)) e_) e_) (fun e_=>Or.elim e_ (fun e_=>(fun e_=>(Kd.R_ne HO_357001.out BK356.out (by decide)) e_) e_) (fun e_=>Or.elim e_ (fun e_=>(fun e_=>(Kd.R_ne HO_357002.out BK356.out (by decide)) e_) e_) (fun e_=>(fun e_=>(Kd.R_ne HO_357003.out BK356.out (by decide)) e_) e_)))));have n4_:=Aside0.mk (hb);clear HO_7;clear HO_11;clear BK325;clear BK356;clear HB;clear HO_357000;clear HO_357001;clear HO_357002;clear HO_357003;clear HO365;clear HO368;clear HO371;clear HO374;have HO_7:=n0_;have HO_11:=n1_;have BK325:=n2_;have BK356:=n3_;have HB:=n4_;clear n0_ n1_ n2_ n3_ n4_;(try clear hb);(try clear hkp);(try clear hbx);(try clear hy0);(try clear hy1);(try clear hy2);(try clear hy3)))
      (try simp only [Act.put,List.setIfInBounds_toArray,List.set_cons_zero,List.set_cons_succ])
      go_cut [80] (fun v80 wc=>∃ (kq : Nat) (x80_44 : Bool),v80 = .bool x80_44∧Aside0 (laws_FnExactTextIn.j1 kq a1 t339 t340 t343 t358 x80_44 l0_0 l0_1 l0_2 l0_3 = some r)∧Aside0 (kq ≤ kj11)∧Aside0 (Kd.R (Kd.int .i64) 3 wc w.heap.size (fun k_=>some k_ ≠ (v359 : Value).ownBlock) v341 t340)∧Aside0 (Kd.R (Kd.int .i64) 3 wc w.heap.size (fun k_=>some k_ ≠ (v341 : Value).ownBlock) v359 t358)∧Aside0 (wc.heap[gb325]? = some (.cells #[(.slice A0_0 l0_0.length c0_0),(.slice A0_1 l0_1.length c0_1),(.slice A0_2 l0_2.length c0_2),(.slice A0_3 l0_3.length c0_3)] 26 (0,0)))∧Aside0 (Below w.heap.size w wc))
      case first =>
       have H:=HC45.out
       clear HC45
       by_cases c56 : t376 < 0
       ·rw [if_pos c56] at H
        have c56b0 : decide (t376 < 0) = true:=decide_eq_true c56
        clear c56
        (first|rw [c56b0]|(simp only [i64_w,i32_w];rw [c56b0])|skip)
        have H':=Aside0.mk H
        clear H
        go_wp2
        go_meet
        case rel=>exact ⟨_,(true),(by first|rfl|(simp;done)|(simp [*];done)),H',⟨by have:=HJ11.out;first|omega|exact Nat.le_refl _⟩,⟨by (with_reducible repeat (first|apply Kd.R_alloc|apply Kd.R_drewN|apply Kd.R_drew));exact Kd.R_mono HO_7.out (fun _ hk=>hk.1)⟩,⟨by (with_reducible repeat (first|apply Kd.R_alloc|apply Kd.R_drewN|apply Kd.R_drew));exact Kd.R_mono HO_11.out (fun _ hk=>hk.1)⟩,⟨by (with_reducible repeat first|apply blk_drewN|apply blk_drew|apply blk_alloc);exact BK325.out⟩,⟨by repeat (first|(with_reducible first|exact HB.out|apply below_alloc|apply pw_below_drewN|apply below_drew1|refine below_set ?_ GE325.out|refine below_set ?_ GE356.out)|exact HB.out)⟩⟩
       ·rw [if_neg c56] at H
        have c56b0 : decide (t376 < 0) = false:=decide_eq_false c56
        clear c56
        (first|rw [c56b0]|(simp only [i64_w,i32_w];rw [c56b0])|skip)
        by_cases c57 : t357.toList = t339.toList
        ·rw [if_pos c57] at H
         have c57b0 : (t357.toList == t339.toList) = true:=beq_iff_eq.mpr c57
         have c57b1 : (t357.toList != t339.toList) = false:=bne_eq_false_iff_eq.mpr c57
         clear c57
         replace H:=Option.bind_eq_some_iff.mp H
         obtain ⟨t381,A580,H⟩:=H
         replace H : (if t381 = true then (laws_FnExactTextIn.j1 kj11 a1 t339 t340 t343 t358 (t361 != t343) l0_0 l0_1 l0_2 l0_3) else (laws_FnExactTextIn.j1 kj11 a1 t339 t340 t343 t358 true l0_0 l0_1 l0_2 l0_3)) = some r:=H
         have A58:=Aside0.mk A580
         clear A580
         by_cases c59 : t381 = true
         ·subst c59
          have H1 : (laws_FnExactTextIn.j1 kj11 a1 t339 t340 t343 t358 (t361 != t343) l0_0 l0_1 l0_2 l0_3) = some r:=by rw [if_pos rfl] at H;exact H
          clear H
          have H:=H1
          clear H1
          have H':=Aside0.mk H
          clear H
          obtain ⟨Ao60,co60,eo60⟩:=Kd.R_slice HO_11.out
          subst eo60
          obtain ⟨Ao61,co61,eo61⟩:=Kd.R_slice HO_7.out
          subst eo61
          go_wp2_with (first|(go_at_call 17;(with_reducible refine (laws_eqIntS.calls kj11 _ _ t358 _ _ t340 true _ ?side1 ?side2 ?side3 ?side4 A58.out).mono ?_);(case side1=>repeat (first|exact (Kd.R_reads' HO_11.out).2.2|(with_reducible first|apply Kd.C_alloc|apply Kd.C_drewN|apply Kd.C_drew)));(case side2=>exact (Kd.R_reads' HO_11.out).2.1);(case side3=>repeat (first|exact (Kd.R_reads' HO_7.out).2.2|(with_reducible first|apply Kd.C_alloc|apply Kd.C_drewN|apply Kd.C_drew)));(case side4=>exact (Kd.R_reads' HO_7.out).2.1);rintro e w' ⟨rfl,⟨nd,rfl⟩⟩))
          go_meet
          case rel=>exact ⟨_,((t361 != t343)),(by first|rfl|(simp;done)|(simp [*];done)),H',⟨by have:=HJ11.out;first|omega|exact Nat.le_refl _⟩,⟨by (with_reducible repeat (first|apply Kd.R_alloc|apply Kd.R_drewN|apply Kd.R_drew));exact Kd.R_mono HO_7.out (fun _ hk=>hk.1)⟩,⟨by (with_reducible repeat (first|apply Kd.R_alloc|apply Kd.R_drewN|apply Kd.R_drew));exact Kd.R_mono HO_11.out (fun _ hk=>hk.1)⟩,⟨by (with_reducible repeat first|apply blk_drewN|apply blk_drew|apply blk_alloc);exact BK325.out⟩,⟨by repeat (first|(with_reducible first|exact HB.out|apply below_alloc|apply pw_below_drewN|apply below_drew1|refine below_set ?_ GE325.out|refine below_set ?_ GE356.out)|exact HB.out)⟩⟩
         ·replace c59:=Bool.eq_false_iff.mpr c59
          subst c59
          have H1 : (laws_FnExactTextIn.j1 kj11 a1 t339 t340 t343 t358 true l0_0 l0_1 l0_2 l0_3) = some r:=by rw [if_neg (show ¬ (false = true) by decide)] at H;exact H
          clear H
          have H:=H1
          clear H1
          have H':=Aside0.mk H
          clear H
          obtain ⟨Ao62,co62,eo62⟩:=Kd.R_slice HO_11.out
          subst eo62
          obtain ⟨Ao63,co63,eo63⟩:=Kd.R_slice HO_7.out
          subst eo63
          go_wp2_with (first|(go_at_call 17;(with_reducible refine (laws_eqIntS.calls kj11 _ _ t358 _ _ t340 false _ ?side1 ?side2 ?side3 ?side4 A58.out).mono ?_);(case side1=>repeat (first|exact (Kd.R_reads' HO_11.out).2.2|(with_reducible first|apply Kd.C_alloc|apply Kd.C_drewN|apply Kd.C_drew)));(case side2=>exact (Kd.R_reads' HO_11.out).2.1);(case side3=>repeat (first|exact (Kd.R_reads' HO_7.out).2.2|(with_reducible first|apply Kd.C_alloc|apply Kd.C_drewN|apply Kd.C_drew)));(case side4=>exact (Kd.R_reads' HO_7.out).2.1);rintro e w' ⟨rfl,⟨nd,rfl⟩⟩))
          go_meet
          case rel=>exact ⟨_,(true),(by first|rfl|(simp;done)|(simp [*];done)),H',⟨by have:=HJ11.out;first|omega|exact Nat.le_refl _⟩,⟨by (with_reducible repeat (first|apply Kd.R_alloc|apply Kd.R_drewN|apply Kd.R_drew));exact Kd.R_mono HO_7.out (fun _ hk=>hk.1)⟩,⟨by (with_reducible repeat (first|apply Kd.R_alloc|apply Kd.R_drewN|apply Kd.R_drew));exact Kd.R_mono HO_11.out (fun _ hk=>hk.1)⟩,⟨by (with_reducible repeat first|apply blk_drewN|apply blk_drew|apply blk_alloc);exact BK325.out⟩,⟨by repeat (first|(with_reducible first|exact HB.out|apply below_alloc|apply pw_below_drewN|apply below_drew1|refine below_set ?_ GE325.out|refine below_set ?_ GE356.out)|exact HB.out)⟩⟩
        ·rw [if_neg c57] at H
         have c57b0 : (t357.toList == t339.toList) = false:=beq_eq_false_iff_ne.mpr c57
         have c57b1 : (t357.toList != t339.toList) = true:=bne_iff_ne.mpr c57
         have H':=Aside0.mk H
         clear H
         go_wp2
         go_meet
         case rel=>exact ⟨_,(true),(by first|rfl|(simp;done)|(simp [*];done)),H',⟨by have:=HJ11.out;first|omega|exact Nat.le_refl _⟩,⟨by (with_reducible repeat (first|apply Kd.R_alloc|apply Kd.R_drewN|apply Kd.R_drew));exact Kd.R_mono HO_7.out (fun _ hk=>hk.1)⟩,⟨by (with_reducible repeat (first|apply Kd.R_alloc|apply Kd.R_drewN|apply Kd.R_drew));exact Kd.R_mono HO_11.out (fun _ hk=>hk.1)⟩,⟨by (with_reducible repeat first|apply blk_drewN|apply blk_drew|apply blk_alloc);exact BK325.out⟩,⟨by repeat (first|(with_reducible first|exact HB.out|apply below_alloc|apply pw_below_drewN|apply below_drew1|refine below_set ?_ GE325.out|refine below_set ?_ GE356.out)|exact HB.out)⟩⟩
      case rest =>
       clear HC45
       try clear c1;try clear c2;try clear p2;try clear c3;try clear c4;try clear c4b0;try clear c5;try clear c7;try clear c9;try clear c11;try clear c12;try clear c22;try clear c23;try clear c27;try clear c33;try clear c33b0;try clear c33b1;try clear c35;try clear c40;try clear c43;try clear c53;try clear c56;try clear c56b0;try clear c57;try clear c57b0;try clear c57b1;try clear c59;try clear hcz14_0;try clear hcz14_1;try clear hcz14_2;try clear hcz14_3;try clear hcz16_0;try clear hcz16_1;try clear hcz16_2;try clear hcz16_3;try clear hcz23_0;try clear hcz23_1;try clear hcz23_2;try clear hcz23_3;try clear hcz28_0;try clear hcz28_1;try clear hcz28_2;try clear hcz28_3;try clear hcz54_0;try clear hcz54_1;try clear hcz54_2;try clear hcz54_3;try clear hcz6_0;try clear hcz6_1;try clear hcz6_2;try clear hcz6_3;try clear hfz14_0;try clear hfz14_1;try clear hfz14_2;try clear hfz14_3;try clear hfz16_0;try clear hfz16_1;try clear hfz16_2;try clear hfz16_3;try clear hfz23_0;try clear hfz23_1;try clear hfz23_2;try clear hfz23_3;try clear hfz28_0;try clear hfz28_1;try clear hfz28_2;try clear hfz28_3;try clear hfz54_0;try clear hfz54_1;try clear hfz54_2;try clear hfz54_3;try clear hfz6_0;try clear hfz6_1;try clear hfz6_2;try clear hfz6_3;try clear p2
       obtain ⟨kq,x80_44,rfl,HA,HJ44,HO_7,HO_11,BK325,HB⟩:=hcut
       cases kq with
       | zero=>exact absurd HA.out (by simp [laws_FnExactTextIn.j1])
       | succ kj44 =>
        have H:=HA.out
        clear HA
        simp only [laws_FnExactTextIn.j1] at H
        by_cases c64 : x80_44 = true
        ·subst c64
         have H1 : (some false) = some r:=by rw [if_pos rfl] at H;exact H
         clear H
         have H:=H1
         clear H1
         obtain rfl:=Option.some.inj H
         go_wp2
         go_ret
         exact ⟨by first|rfl|(simp [*,errW_none,errW_some] <;> rfl),by repeat (first|(with_reducible first|exact HB.out|apply below_alloc|apply pw_below_drewN|apply below_drew1|refine below_set ?_ GE325.out)|exact HB.out)⟩
        ·replace c64:=Bool.eq_false_iff.mpr c64
         subst c64
         have H1 : ((laws_markIntS.f kj44 t358 1).bind fun bt382=>((laws_heldIntS.f kj44 bt382.2 1).bind fun t384=>(if t384 < 0 then (some false) else (if t384 = bt382.1 then ((laws_toSpace.f kj44 l0_0 l0_1 l0_2 l0_3).bind fun bt385=>((impl_TextIn.f kj44 bt385.1 bt385.2.1 bt385.2.2.1 bt385.2.2.2 a1).bind fun bt397=>(if bt397.1.toList = t339.toList then ((laws_eqIntS.f kj44 bt397.2.1 t340).bind fun t402=>(if t402 = true then (laws_FnExactTextIn.j2 kj44 bt382.2 bt382.1 (bt397.2.2 != t343)) else (laws_FnExactTextIn.j2 kj44 bt382.2 bt382.1 true))) else (laws_FnExactTextIn.j2 kj44 bt382.2 bt382.1 true)))) else (some false))))) = some r:=by rw [if_neg (show ¬ (false = true) by decide)] at H;exact H
         clear H
         have H:=H1
         clear H1
         replace H:=Option.bind_eq_some_iff.mp H
         obtain ⟨⟨t382,t383⟩,A650,H⟩:=H
         replace H : ((laws_heldIntS.f kj44 t383 1).bind fun t384=>(if t384 < 0 then (some false) else (if t384 = t382 then ((laws_toSpace.f kj44 l0_0 l0_1 l0_2 l0_3).bind fun bt385=>((impl_TextIn.f kj44 bt385.1 bt385.2.1 bt385.2.2.1 bt385.2.2.2 a1).bind fun bt397=>(if bt397.1.toList = t339.toList then ((laws_eqIntS.f kj44 bt397.2.1 t340).bind fun t402=>(if t402 = true then (laws_FnExactTextIn.j2 kj44 t383 t382 (bt397.2.2 != t343)) else (laws_FnExactTextIn.j2 kj44 t383 t382 true))) else (laws_FnExactTextIn.j2 kj44 t383 t382 true)))) else (some false)))) = some r:=H
         have A65:=Aside0.mk A650
         clear A650
         replace H:=Option.bind_eq_some_iff.mp H
         obtain ⟨t384,A660,H⟩:=H
         replace H : (if t384 < 0 then (some false) else (if t384 = t382 then ((laws_toSpace.f kj44 l0_0 l0_1 l0_2 l0_3).bind fun bt385=>((impl_TextIn.f kj44 bt385.1 bt385.2.1 bt385.2.2.1 bt385.2.2.2 a1).bind fun bt397=>(if bt397.1.toList = t339.toList then ((laws_eqIntS.f kj44 bt397.2.1 t340).bind fun t402=>(if t402 = true then (laws_FnExactTextIn.j2 kj44 t383 t382 (bt397.2.2 != t343)) else (laws_FnExactTextIn.j2 kj44 t383 t382 true))) else (laws_FnExactTextIn.j2 kj44 t383 t382 true)))) else (some false))) = some r:=H
         have A66:=Aside0.mk A660
         clear A660
         by_cases c67 : t384 < 0
         ·rw [if_pos c67] at H
          have c67b0 : decide (t384 < 0) = true:=decide_eq_true c67
          clear c67
          obtain rfl:=Option.some.inj H
          obtain ⟨Ao68,co68,eo68⟩:=Kd.R_slice HO_11.out
          subst eo68
          go_wp2_with (first|((with_reducible refine gate_callee (f:=19) rfl ?_);refine goesL_ (some 83) rfl rfl Try.func19 (by kernel_rfl) rfl #[.slice Ao68 t358.length co68,.int .i64 1] rfl (by (try simp only [List.map_toArray,List.map_cons,List.map_nil]);first|done|rfl|(simp only [List.length_drop,List.length_take];rfl)) ?_;(with_reducible refine (laws_markIntS.calls kj44 (fun k_=>some k_ = (.slice Ao68 t358.length co68 : Value).ownBlock) (.slice Ao68 t358.length co68) t358 1 t382 t383 w _ ?side1 ?side2 A65.out).mono ?_);(case side1=>repeat (first|(with_reducible first|exact HB.out|apply below_alloc|apply pw_below_drewN|apply below_drew1|refine below_set ?_ GE325.out)|exact HB.out));(case side2=>exact Kd.R_tight rfl HO_11.out);rintro e w69 ⟨rfl,hy0,hb,hkp⟩;refine ⟨_,rfl,?_⟩;have n0_:=Aside0.mk (Kd.R_reok rfl hy0 (fun k_ e_=>HO_11.out.1 k_ e_));have n1_:=Aside0.mk (blk_kept (g:=gb325) (o:=.cells #[.slice A0_0 l0_0.length c0_0,.slice A0_1 l0_1.length c0_1,.slice A0_2 l0_2.length c0_2,.slice A0_3 l0_3.length c0_3] 26 (0,0)) (by (with_reducible repeat first|apply blk_drewN|apply blk_drew|apply blk_alloc);exact BK325.out) hkp (fun hs_=>(fun e_=>(Kd.R_ne HO_11.out BK325.out (by decide)) e_) hs_));have n2_:=Aside0.mk (hb);clear HO_11;clear BK325;clear HB;clear HO_7;have HO_11:=n0_;have BK325:=n1_;have HB:=n2_;clear n0_ n1_ n2_;(try clear hb);(try clear hkp);(try clear hbx);(try clear hy0))|((with_reducible refine gate_callee (f:=21) rfl ?_);refine goesL_ (some 86) rfl rfl Try.func21 (by kernel_rfl) rfl #[.slice Ao68 t383.length co68,.int .i64 1] rfl (by (try simp only [List.map_toArray,List.map_cons,List.map_nil]);first|done|(rw [show t383.length = t358.length from (Kd.R_reads' HO_11.out).1.symm] <;> rfl)|rfl|(simp only [List.length_drop,List.length_take];rfl)) ?_;(with_reducible refine (laws_heldIntS.calls kj44 _ _ t383 1 t384 _ ?side1 ?side2 A66.out).mono ?_);(case side1=>repeat (first|exact (Kd.R_reads' HO_11.out).2.2|(with_reducible first|apply Kd.C_alloc|apply Kd.C_drewN|apply Kd.C_drew)));(case side2=>rw [show t383.length = t358.length from (Kd.R_reads' HO_11.out).1.symm];exact (Kd.R_reads' HO_11.out).2.1);rintro e w' ⟨rfl,⟨nd,rfl⟩⟩;refine ⟨_,rfl,?_⟩))
          go_ret
          exact ⟨by first|rfl|(simp [*,errW_none,errW_some] <;> rfl),by repeat (first|(with_reducible first|exact HB.out|apply below_alloc|apply pw_below_drewN|apply below_drew1|refine below_set ?_ GE325.out)|exact HB.out)⟩
         ·rw [if_neg c67] at H
          have c67b0 : decide (t384 < 0) = false:=decide_eq_false c67
          clear c67
          by_cases c70 : t384 = t382
          ·rw [if_pos c70] at H
           have c70b0 : (t384 == t382) = true:=beq_iff_eq.mpr c70
           have c70b1 : (t384 != t382) = false:=bne_eq_false_iff_eq.mpr c70
           clear c70
           replace H:=Option.bind_eq_some_iff.mp H
           obtain ⟨⟨t385,t388,t391,t394⟩,A710,H⟩:=H
           replace H : ((impl_TextIn.f kj44 t385 t388 t391 t394 a1).bind fun bt397=>(if bt397.1.toList = t339.toList then ((laws_eqIntS.f kj44 bt397.2.1 t340).bind fun t402=>(if t402 = true then (laws_FnExactTextIn.j2 kj44 t383 t382 (bt397.2.2 != t343)) else (laws_FnExactTextIn.j2 kj44 t383 t382 true))) else (laws_FnExactTextIn.j2 kj44 t383 t382 true))) = some r:=H
           have A71:=Aside0.mk A710
           clear A710
           replace H:=Option.bind_eq_some_iff.mp H
           obtain ⟨⟨t397,t398,t401⟩,A720,H⟩:=H
           replace H : (if t397.toList = t339.toList then ((laws_eqIntS.f kj44 t398 t340).bind fun t402=>(if t402 = true then (laws_FnExactTextIn.j2 kj44 t383 t382 (t401 != t343)) else (laws_FnExactTextIn.j2 kj44 t383 t382 true))) else (laws_FnExactTextIn.j2 kj44 t383 t382 true)) = some r:=H
           have A72:=Aside0.mk A720
           clear A720
           have HC73:=Aside0.mk H
           clear H
           obtain ⟨Ao74,co74,eo74⟩:=Kd.R_slice HO_11.out
           subst eo74
           go_upto_region 25 with (first|((with_reducible refine gate_callee (f:=19) rfl ?_);refine goesL_ (some 83) rfl rfl Try.func19 (by kernel_rfl) rfl #[.slice Ao74 t358.length co74,.int .i64 1] rfl (by (try simp only [List.map_toArray,List.map_cons,List.map_nil]);first|done|rfl|(simp only [List.length_drop,List.length_take];rfl)) ?_;(with_reducible refine (laws_markIntS.calls kj44 (fun k_=>some k_ = (.slice Ao74 t358.length co74 : Value).ownBlock) (.slice Ao74 t358.length co74) t358 1 t382 t383 w _ ?side1 ?side2 A65.out).mono ?_);(case side1=>repeat (first|(with_reducible first|exact HB.out|apply below_alloc|apply pw_below_drewN|apply below_drew1|refine below_set ?_ GE325.out)|exact HB.out));(case side2=>exact Kd.R_tight rfl HO_11.out);rintro e w75 ⟨rfl,hy0,hb,hkp⟩;refine ⟨_,rfl,?_⟩;have n0_:=Aside0.mk (Kd.R_mono (ok':=fun k_=>some k_ ≠ (.slice Ao74 t358.length co74 : Value).ownBlock) (Kd.R_keptB (HO_7.out) hkp (fun k_ hk_ hs_=>(hk_) hs_)) (fun k_ hk_=>hk_.1));have n1_:=Aside0.mk (Kd.R_reok rfl hy0 (fun k_ e_=>HO_11.out.1 k_ e_));have n2_:=Aside0.mk (blk_kept (g:=gb325) (o:=.cells #[.slice A0_0 l0_0.length c0_0,.slice A0_1 l0_1.length c0_1,.slice A0_2 l0_2.length c0_2,.slice A0_3 l0_3.length c0_3] 26 (0,0)) (by (with_reducible repeat first|apply blk_drewN|apply blk_drew|apply blk_alloc);exact BK325.out) hkp (fun hs_=>(fun e_=>(Kd.R_ne HO_11.out BK325.out (by decide)) e_) hs_));have n3_:=Aside0.mk (hb);clear HO_7;clear HO_11;clear BK325;clear HB;have HO_7:=n0_;have HO_11:=n1_;have BK325:=n2_;have HB:=n3_;clear n0_ n1_ n2_ n3_;(try clear hb);(try clear hkp);(try clear hbx);(try clear hy0))|((with_reducible refine gate_callee (f:=21) rfl ?_);refine goesL_ (some 86) rfl rfl Try.func21 (by kernel_rfl) rfl #[.slice Ao74 t383.length co74,.int .i64 1] rfl (by (try simp only [List.map_toArray,List.map_cons,List.map_nil]);first|done|(rw [show t383.length = t358.length from (Kd.R_reads' HO_11.out).1.symm] <;> rfl)|rfl|(simp only [List.length_drop,List.length_take];rfl)) ?_;(with_reducible refine (laws_heldIntS.calls kj44 _ _ t383 1 t384 _ ?side1 ?side2 A66.out).mono ?_);(case side1=>repeat (first|exact (Kd.R_reads' HO_11.out).2.2|(with_reducible first|apply Kd.C_alloc|apply Kd.C_drewN|apply Kd.C_drew)));(case side2=>rw [show t383.length = t358.length from (Kd.R_reads' HO_11.out).1.symm];exact (Kd.R_reads' HO_11.out).2.1);rintro e w' ⟨rfl,⟨nd,rfl⟩⟩;refine ⟨_,rfl,?_⟩;have hcz76_0 : w75.cell? ⟨gb325,0,none⟩ = some (.slice A0_0 l0_0.length c0_0):=(blk_cell BK325.out 0).trans rfl;have hcz76_1 : w75.cell? ⟨gb325,1,none⟩ = some (.slice A0_1 l0_1.length c0_1):=(blk_cell BK325.out 1).trans rfl;have hcz76_2 : w75.cell? ⟨gb325,2,none⟩ = some (.slice A0_2 l0_2.length c0_2):=(blk_cell BK325.out 2).trans rfl;have hcz76_3 : w75.cell? ⟨gb325,3,none⟩ = some (.slice A0_3 l0_3.length c0_3):=(blk_cell BK325.out 3).trans rfl;have hfz76_0:=blk_frozen BK325.out 0;have hfz76_1:=blk_frozen BK325.out 1;have hfz76_2:=blk_frozen BK325.out 2;have hfz76_3:=blk_frozen BK325.out 3)|((with_reducible refine gate_callee (f:=9) rfl ?_);refine goesL_ (some 94) rfl rfl Try.func9 (by kernel_rfl) rfl #[.agg #[.slice A0_0 l0_0.length c0_0,.slice A0_1 l0_1.length c0_1,.slice A0_2 l0_2.length c0_2,.slice A0_3 l0_3.length c0_3]] rfl (by (try simp only [List.map_toArray,List.map_cons,List.map_nil]);first|done|rfl|(simp only [List.length_drop,List.length_take];rfl)) ?_;(with_reducible refine (laws_toSpace.calls kj44 _ _ l0_0 _ _ l0_1 _ _ l0_2 _ _ l0_3 t385 t388 t391 t394 _ ?side1 ?side2 ?side3 ?side4 ?side5 ?side6 ?side7 ?side8 A71.out).mono ?_);(case side1=>repeat (first|exact (Kd.C_below HR0_0.out (by repeat (first|(with_reducible first|exact HB.out|apply below_alloc|apply pw_below_drewN|apply below_drew1|refine below_set ?_ GE325.out)|exact HB.out)))|(with_reducible first|apply Kd.C_alloc|apply Kd.C_drewN|apply Kd.C_drew)));(case side2=>exact HC0_0.out);(case side3=>repeat (first|exact (Kd.C_below HR0_1.out (by repeat (first|(with_reducible first|exact HB.out|apply below_alloc|apply pw_below_drewN|apply below_drew1|refine below_set ?_ GE325.out)|exact HB.out)))|(with_reducible first|apply Kd.C_alloc|apply Kd.C_drewN|apply Kd.C_drew)));(case side4=>exact HC0_1.out);(case side5=>repeat (first|exact (Kd.C_below HR0_2.out (by repeat (first|(with_reducible first|exact HB.out|apply below_alloc|apply pw_below_drewN|apply below_drew1|refine below_set ?_ GE325.out)|exact HB.out)))|(with_reducible first|apply Kd.C_alloc|apply Kd.C_drewN|apply Kd.C_drew)));(case side6=>exact HC0_2.out);(case side7=>repeat (first|exact (Kd.C_below HR0_3.out (by repeat (first|(with_reducible first|exact HB.out|apply below_alloc|apply pw_below_drewN|apply below_drew1|refine below_set ?_ GE325.out)|exact HB.out)))|(with_reducible first|apply Kd.C_alloc|apply Kd.C_drewN|apply Kd.C_drew)));(case side8=>exact HC0_3.out);rintro e w77 ⟨v386,v389,v392,v395,rfl,ho0,ho1,ho2,ho3,hb⟩;refine ⟨_,rfl,?_⟩;have n0_:=Aside0.mk (Kd.R_mono (Kd.R_told (Kd.R_told (Kd.R_old (by (with_reducible repeat (first|apply Kd.R_alloc|apply Kd.R_drewN|apply Kd.R_drew));exact HO_7.out) hb) (Kd.R_base ho2)) (Kd.R_base ho3)) (fun _ h_=>h_.1));have n1_:=Aside0.mk (Kd.R_mono (Kd.R_told (Kd.R_told (Kd.R_old (by (with_reducible repeat (first|apply Kd.R_alloc|apply Kd.R_drewN|apply Kd.R_drew));exact HO_11.out) hb) (Kd.R_base ho2)) (Kd.R_base ho3)) (fun _ h_=>h_.1));have n2_:=Aside0.mk (Kd.S_lower (Kd.S_mono (Kd.S_bound ho0) (fun k_ h_=>(⟨h_.1,(by first|exact h_.2.1|simpa only [World.size_setCell] using h_.2.1)⟩ : _∧w75.heap.size ≤ k_))) (below_size (by repeat (first|(with_reducible first|exact HB.out|apply below_alloc|apply pw_below_drewN|apply below_drew1|refine below_set ?_ GE325.out)|exact HB.out))));have n3_:=Aside0.mk (Kd.R_lower ho1 (below_size (by repeat (first|(with_reducible first|exact HB.out|apply below_alloc|apply pw_below_drewN|apply below_drew1|refine below_set ?_ GE325.out)|exact HB.out))));have n4_:=Aside0.mk (Kd.R_lower (Kd.R_new' (Kd.R_new' ho2 (Kd.R_lt (by (with_reducible repeat (first|apply Kd.R_alloc|apply Kd.R_drewN|apply Kd.R_drew));exact HO_7.out))) (Kd.R_lt (by (with_reducible repeat (first|apply Kd.R_alloc|apply Kd.R_drewN|apply Kd.R_drew));exact HO_11.out))) (below_size (by repeat (first|(with_reducible first|exact HB.out|apply below_alloc|apply pw_below_drewN|apply below_drew1|refine below_set ?_ GE325.out)|exact HB.out))));have n5_:=Aside0.mk (Kd.R_lower (Kd.R_new' (Kd.R_new' ho3 (Kd.R_lt (by (with_reducible repeat (first|apply Kd.R_alloc|apply Kd.R_drewN|apply Kd.R_drew));exact HO_7.out))) (Kd.R_lt (by (with_reducible repeat (first|apply Kd.R_alloc|apply Kd.R_drewN|apply Kd.R_drew));exact HO_11.out))) (below_size (by repeat (first|(with_reducible first|exact HB.out|apply below_alloc|apply pw_below_drewN|apply below_drew1|refine below_set ?_ GE325.out)|exact HB.out))));have n6_:=Aside0.mk (blk_below (g:=gb325) (o:=.cells #[.slice A0_0 l0_0.length c0_0,.slice A0_1 l0_1.length c0_1,.slice A0_2 l0_2.length c0_2,.slice A0_3 l0_3.length c0_3] 26 (0,0)) (by (with_reducible repeat first|apply blk_drewN|apply blk_drew|apply blk_alloc);exact BK325.out) hb);have n7_:=Aside0.mk (below_step (by repeat (first|(with_reducible first|exact HB.out|apply below_alloc|apply pw_below_drewN|apply below_drew1|refine below_set ?_ GE325.out)|exact HB.out)) hb);clear HO_7;clear HO_11;clear BK325;clear HB;have HO_7:=n0_;have HO_11:=n1_;have HO387:=n2_;have HO390:=n3_;have HO393:=n4_;have HO396:=n5_;have BK325:=n6_;have HB:=n7_;clear n0_ n1_ n2_ n3_ n4_ n5_ n6_ n7_;(try clear hb);(try clear hb2);(try clear hk);(try clear hi);(try clear ho0);(try clear ho1);(try clear ho2);(try clear ho3);obtain ⟨Ao78,co78,eo78⟩:=Kd.S_slice HO387.out;subst eo78;obtain ⟨Ao79,co79,eo79⟩:=Kd.R_slice HO390.out;subst eo79;obtain ⟨Ao80,co80,eo80⟩:=Kd.R_slice HO393.out;subst eo80;obtain ⟨Ao81,co81,eo81⟩:=Kd.R_slice HO396.out;subst eo81)|((with_reducible refine gate_callee (f:=23) rfl ?_);refine goesL_ (some 96) rfl rfl Try.func23 (by kernel_rfl) rfl #[.agg #[.slice Ao78 t385.length co78,.slice Ao79 t388.length co79,.slice Ao80 t391.length co80,.slice Ao81 t394.length co81],.int .i64 a1] rfl (by (try simp only [List.map_toArray,List.map_cons,List.map_nil]);first|done|rfl|(simp only [List.length_drop,List.length_take];rfl)) ?_;(with_reducible refine (impl_TextIn.calls kj44 _ _ t385 _ _ t388 _ _ t391 _ _ t394 a1 t397 t398 t401 _ ?side1 ?side2 ?side3 ?side4 ?side5 ?side6 ?side7 ?side8 A72.out).mono ?_);(case side1=>repeat (first|exact (Kd.S_reads' HO387.out).2.2|(with_reducible first|apply Kd.C_alloc|apply Kd.C_drewN|apply Kd.C_drew)));(case side2=>exact (Kd.S_reads' HO387.out).2.1);(case side3=>repeat (first|exact (Kd.R_reads' HO390.out).2.2|(with_reducible first|apply Kd.C_alloc|apply Kd.C_drewN|apply Kd.C_drew)));(case side4=>exact (Kd.R_reads' HO390.out).2.1);(case side5=>repeat (first|exact (Kd.R_reads' HO393.out).2.2|(with_reducible first|apply Kd.C_alloc|apply Kd.C_drewN|apply Kd.C_drew)));(case side6=>exact (Kd.R_reads' HO393.out).2.1);(case side7=>repeat (first|exact (Kd.R_reads' HO396.out).2.2|(with_reducible first|apply Kd.C_alloc|apply Kd.C_drewN|apply Kd.C_drew)));(case side8=>exact (Kd.R_reads' HO396.out).2.1);rintro e w82 ⟨v399,rfl,ho0,hb⟩;refine ⟨_,rfl,?_⟩;have n0_:=Aside0.mk (Kd.R_elder' (by (with_reducible repeat (first|apply Kd.R_alloc|apply Kd.R_drewN|apply Kd.R_drew));exact HO_7.out) (Kd.R_base ho0) hb);have n1_:=Aside0.mk (Kd.R_elder' (by (with_reducible repeat (first|apply Kd.R_alloc|apply Kd.R_drewN|apply Kd.R_drew));exact HO_11.out) (Kd.R_base ho0) hb);have n2_:=Aside0.mk (Kd.S_below (by (with_reducible repeat (first|apply Kd.S_alloc|apply Kd.S_drewN|apply Kd.S_drew));exact HO387.out) hb);have n3_:=Aside0.mk (Kd.R_below (by (with_reducible repeat (first|apply Kd.R_alloc|apply Kd.R_drewN|apply Kd.R_drew));exact HO390.out) hb);have n4_:=Aside0.mk (Kd.R_elder' (by (with_reducible repeat (first|apply Kd.R_alloc|apply Kd.R_drewN|apply Kd.R_drew));exact HO393.out) (Kd.R_base ho0) hb);have n5_:=Aside0.mk (Kd.R_elder' (by (with_reducible repeat (first|apply Kd.R_alloc|apply Kd.R_drewN|apply Kd.R_drew));exact HO396.out) (Kd.R_base ho0) hb);have n6_:=Aside0.mk (Kd.R_lower (Kd.R_new' (Kd.R_new' (Kd.R_new' (Kd.R_new' ho0 (Kd.R_lt (by (with_reducible repeat (first|apply Kd.R_alloc|apply Kd.R_drewN|apply Kd.R_drew));exact HO_7.out))) (Kd.R_lt (by (with_reducible repeat (first|apply Kd.R_alloc|apply Kd.R_drewN|apply Kd.R_drew));exact HO_11.out))) (Kd.R_lt (by (with_reducible repeat (first|apply Kd.R_alloc|apply Kd.R_drewN|apply Kd.R_drew));exact HO393.out))) (Kd.R_lt (by (with_reducible repeat (first|apply Kd.R_alloc|apply Kd.R_drewN|apply Kd.R_drew));exact HO396.out))) (below_size (by repeat (first|(with_reducible first|exact HB.out|apply below_alloc|apply pw_below_drewN|apply below_drew1|refine below_set ?_ GE325.out)|exact HB.out))));have n7_:=Aside0.mk (blk_below (g:=gb325) (o:=.cells #[.slice A0_0 l0_0.length c0_0,.slice A0_1 l0_1.length c0_1,.slice A0_2 l0_2.length c0_2,.slice A0_3 l0_3.length c0_3] 26 (0,0)) (by (with_reducible repeat first|apply blk_drewN|apply blk_drew|apply blk_alloc);exact BK325.out) hb);have n8_:=Aside0.mk (below_step (by repeat (first|(with_reducible first|exact HB.out|apply below_alloc|apply pw_below_drewN|apply below_drew1|refine below_set ?_ GE325.out)|exact HB.out)) hb);clear HO_7;clear HO_11;clear HO387;clear HO390;clear HO393;clear HO396;clear BK325;clear HB;have HO_7:=n0_;have HO_11:=n1_;have HO387:=n2_;have HO390:=n3_;have HO393:=n4_;have HO396:=n5_;have HO400:=n6_;have BK325:=n7_;have HB:=n8_;clear n0_ n1_ n2_ n3_ n4_ n5_ n6_ n7_ n8_;(try clear hb);(try clear hb2);(try clear hk);(try clear hi);(try clear ho0)))
           (try simp only [Act.put,List.setIfInBounds_toArray,List.set_cons_zero,List.set_cons_succ])
           go_cut [113] (fun v113 wc=>∃ (kq : Nat) (x113_72 : Bool),v113 = .bool x113_72∧Aside0 (laws_FnExactTextIn.j2 kq t383 t382 x113_72 = some r)∧Aside0 (kq ≤ kj44)∧Aside0 (Kd.R (Kd.int .i64) 3 wc w.heap.size (fun _=>True) (.slice Ao74 t358.length co74) t383)∧Aside0 (wc.heap[gb325]? = some (.cells #[(.slice A0_0 l0_0.length c0_0),(.slice A0_1 l0_1.length c0_1),(.slice A0_2 l0_2.length c0_2),(.slice A0_3 l0_3.length c0_3)] 26 (0,0)))∧Aside0 (Below w.heap.size w wc))
           case first =>
            have H:=HC73.out
            clear HC73
            by_cases c83 : t397.toList = t339.toList
            ·rw [if_pos c83] at H
             have c83b0 : (t397.toList == t339.toList) = true:=beq_iff_eq.mpr c83
             have c83b1 : (t397.toList != t339.toList) = false:=bne_eq_false_iff_eq.mpr c83
             clear c83
             (first|rw [c83b0]|(simp only [i64_w,i32_w];rw [c83b0])|skip)
             replace H:=Option.bind_eq_some_iff.mp H
             obtain ⟨t402,A840,H⟩:=H
             replace H : (if t402 = true then (laws_FnExactTextIn.j2 kj44 t383 t382 (t401 != t343)) else (laws_FnExactTextIn.j2 kj44 t383 t382 true)) = some r:=H
             have A84:=Aside0.mk A840
             clear A840
             by_cases c85 : t402 = true
             ·subst c85
              have H1 : (laws_FnExactTextIn.j2 kj44 t383 t382 (t401 != t343)) = some r:=by rw [if_pos rfl] at H;exact H
              clear H
              have H:=H1
              clear H1
              have H':=Aside0.mk H
              clear H
              obtain ⟨Ao86,co86,eo86⟩:=Kd.R_slice HO400.out
              subst eo86
              obtain ⟨Ao87,co87,eo87⟩:=Kd.R_slice HO_7.out
              subst eo87
              go_wp2_with (first|(go_at_call 17;(with_reducible refine (laws_eqIntS.calls kj44 _ _ t398 _ _ t340 true _ ?side1 ?side2 ?side3 ?side4 A84.out).mono ?_);(case side1=>repeat (first|exact (Kd.R_reads' HO400.out).2.2|(with_reducible first|apply Kd.C_alloc|apply Kd.C_drewN|apply Kd.C_drew)));(case side2=>exact (Kd.R_reads' HO400.out).2.1);(case side3=>repeat (first|exact (Kd.R_reads' HO_7.out).2.2|(with_reducible first|apply Kd.C_alloc|apply Kd.C_drewN|apply Kd.C_drew)));(case side4=>exact (Kd.R_reads' HO_7.out).2.1);rintro e w' ⟨rfl,⟨nd,rfl⟩⟩))
              go_meet
              case rel=>exact ⟨_,((t401 != t343)),(by first|rfl|(simp;done)|(simp [*];done)),H',⟨by have:=HJ11.out;have:=HJ44.out;first|omega|exact Nat.le_refl _⟩,⟨by (with_reducible repeat (first|apply Kd.R_alloc|apply Kd.R_drewN|apply Kd.R_drew));exact Kd.R_mono HO_11.out (fun _ hk=>trivial)⟩,⟨by (with_reducible repeat first|apply blk_drewN|apply blk_drew|apply blk_alloc);exact BK325.out⟩,⟨by repeat (first|(with_reducible first|exact HB.out|apply below_alloc|apply pw_below_drewN|apply below_drew1|refine below_set ?_ GE325.out)|exact HB.out)⟩⟩
             ·replace c85:=Bool.eq_false_iff.mpr c85
              subst c85
              have H1 : (laws_FnExactTextIn.j2 kj44 t383 t382 true) = some r:=by rw [if_neg (show ¬ (false = true) by decide)] at H;exact H
              clear H
              have H:=H1
              clear H1
              have H':=Aside0.mk H
              clear H
              obtain ⟨Ao88,co88,eo88⟩:=Kd.R_slice HO400.out
              subst eo88
              obtain ⟨Ao89,co89,eo89⟩:=Kd.R_slice HO_7.out
              subst eo89
              go_wp2_with (first|(go_at_call 17;(with_reducible refine (laws_eqIntS.calls kj44 _ _ t398 _ _ t340 false _ ?side1 ?side2 ?side3 ?side4 A84.out).mono ?_);(case side1=>repeat (first|exact (Kd.R_reads' HO400.out).2.2|(with_reducible first|apply Kd.C_alloc|apply Kd.C_drewN|apply Kd.C_drew)));(case side2=>exact (Kd.R_reads' HO400.out).2.1);(case side3=>repeat (first|exact (Kd.R_reads' HO_7.out).2.2|(with_reducible first|apply Kd.C_alloc|apply Kd.C_drewN|apply Kd.C_drew)));(case side4=>exact (Kd.R_reads' HO_7.out).2.1);rintro e w' ⟨rfl,⟨nd,rfl⟩⟩))
              go_meet
              case rel=>exact ⟨_,(true),(by first|rfl|(simp;done)|(simp [*];done)),H',⟨by have:=HJ11.out;have:=HJ44.out;first|omega|exact Nat.le_refl _⟩,⟨by (with_reducible repeat (first|apply Kd.R_alloc|apply Kd.R_drewN|apply Kd.R_drew));exact Kd.R_mono HO_11.out (fun _ hk=>trivial)⟩,⟨by (with_reducible repeat first|apply blk_drewN|apply blk_drew|apply blk_alloc);exact BK325.out⟩,⟨by repeat (first|(with_reducible first|exact HB.out|apply below_alloc|apply pw_below_drewN|apply below_drew1|refine below_set ?_ GE325.out)|exact HB.out)⟩⟩
            ·rw [if_neg c83] at H
             have c83b0 : (t397.toList == t339.toList) = false:=beq_eq_false_iff_ne.mpr c83
             have c83b1 : (t397.toList != t339.toList) = true:=bne_iff_ne.mpr c83
             (first|rw [c83b0]|(simp only [i64_w,i32_w];rw [c83b0])|skip)
             have H':=Aside0.mk H
             clear H
             go_wp2
             go_meet
             case rel=>exact ⟨_,(true),(by first|rfl|(simp;done)|(simp [*];done)),H',⟨by have:=HJ11.out;have:=HJ44.out;first|omega|exact Nat.le_refl _⟩,⟨by (with_reducible repeat (first|apply Kd.R_alloc|apply Kd.R_drewN|apply Kd.R_drew));exact Kd.R_mono HO_11.out (fun _ hk=>trivial)⟩,⟨by (with_reducible repeat first|apply blk_drewN|apply blk_drew|apply blk_alloc);exact BK325.out⟩,⟨by repeat (first|(with_reducible first|exact HB.out|apply below_alloc|apply pw_below_drewN|apply below_drew1|refine below_set ?_ GE325.out)|exact HB.out)⟩⟩
           case rest =>
            clear HC73
            try clear c1;try clear c2;try clear p2;try clear c3;try clear c4;try clear c4b0;try clear c5;try clear c6;try clear c7;try clear c8;try clear c9;try clear c11;try clear c12;try clear c19;try clear c21;try clear c22;try clear c23;try clear c27;try clear c33;try clear c33b0;try clear c33b1;try clear c35;try clear c40;try clear c43;try clear c53;try clear c56;try clear c56b0;try clear c57;try clear c57b0;try clear c57b1;try clear c59;try clear c64;try clear c67;try clear c67b0;try clear c70;try clear c70b0;try clear c70b1;try clear c83;try clear c83b0;try clear c83b1;try clear c85;try clear hcz14_0;try clear hcz14_1;try clear hcz14_2;try clear hcz14_3;try clear hcz16_0;try clear hcz16_1;try clear hcz16_2;try clear hcz16_3;try clear hcz23_0;try clear hcz23_1;try clear hcz23_2;try clear hcz23_3;try clear hcz28_0;try clear hcz28_1;try clear hcz28_2;try clear hcz28_3;try clear hcz54_0;try clear hcz54_1;try clear hcz54_2;try clear hcz54_3;try clear hcz6_0;try clear hcz6_1;try clear hcz6_2;try clear hcz6_3;try clear hcz76_0;try clear hcz76_1;try clear hcz76_2;try clear hcz76_3;try clear hfz14_0;try clear hfz14_1;try clear hfz14_2;try clear hfz14_3;try clear hfz16_0;try clear hfz16_1;try clear hfz16_2;try clear hfz16_3;try clear hfz23_0;try clear hfz23_1;try clear hfz23_2;try clear hfz23_3;try clear hfz28_0;try clear hfz28_1;try clear hfz28_2;try clear hfz28_3;try clear hfz54_0;try clear hfz54_1;try clear hfz54_2;try clear hfz54_3;try clear hfz6_0;try clear hfz6_1;try clear hfz6_2;try clear hfz6_3;try clear hfz76_0;try clear hfz76_1;try clear hfz76_2;try clear hfz76_3;try clear p2
            obtain ⟨kq,x113_72,rfl,HA,HJ72,HO_11,BK325,HB⟩:=hcut
            have hl11_72:=(Kd.R_reads' HO_11.out).1
            rw [hl11_72] at HO_11
            (try simp only [hl11_72])
            (try simp only [hl11_72] at BK325)
            cases kq with
            | zero=>exact absurd HA.out (by simp [laws_FnExactTextIn.j2])
            | succ kj72 =>
             have H:=HA.out
             clear HA
             simp only [laws_FnExactTextIn.j2] at H
             by_cases c90 : x113_72 = true
             ·subst c90
              have H1 : (some false) = some r:=by rw [if_pos rfl] at H;exact H
              clear H
              have H:=H1
              clear H1
              obtain rfl:=Option.some.inj H
              go_wp2
              go_ret
              exact ⟨by first|rfl|(simp [*,errW_none,errW_some] <;> rfl),by repeat (first|(with_reducible first|exact HB.out|apply below_alloc|apply pw_below_drewN|apply below_drew1|refine below_set ?_ GE325.out)|exact HB.out)⟩
             ·replace c90:=Bool.eq_false_iff.mpr c90
              subst c90
              have H1 : ((laws_heldIntS.f kj72 t383 1).bind fun t403=>(if t403 < 0 then (some false) else (if t403 = t382 then (some true) else (some false)))) = some r:=by rw [if_neg (show ¬ (false = true) by decide)] at H;exact H
              clear H
              have H:=H1
              clear H1
              replace H:=Option.bind_eq_some_iff.mp H
              obtain ⟨t403,A910,H⟩:=H
              replace H : (if t403 < 0 then (some false) else (if t403 = t382 then (some true) else (some false))) = some r:=H
              have A91:=Aside0.mk A910
              clear A910
              by_cases c92 : t403 < 0
              ·rw [if_pos c92] at H
               have c92b0 : decide (t403 < 0) = true:=decide_eq_true c92
               clear c92
               obtain rfl:=Option.some.inj H
               go_wp2_with (first|((with_reducible refine gate_callee (f:=21) rfl ?_);refine goesL_ (some 116) rfl rfl Try.func21 (by kernel_rfl) rfl #[.slice Ao74 t383.length co74,.int .i64 1] rfl (by (try simp only [List.map_toArray,List.map_cons,List.map_nil]);first|done|rfl|(simp only [List.length_drop,List.length_take];rfl)) ?_;(with_reducible refine (laws_heldIntS.calls kj72 _ _ t383 1 t403 _ ?side1 ?side2 A91.out).mono ?_);(case side1=>repeat (first|exact (Kd.R_reads' HO_11.out).2.2|(with_reducible first|apply Kd.C_alloc|apply Kd.C_drewN|apply Kd.C_drew)));(case side2=>exact (Kd.R_reads' HO_11.out).2.1);rintro e w' ⟨rfl,⟨nd,rfl⟩⟩;refine ⟨_,rfl,?_⟩))
               go_ret
               exact ⟨by first|rfl|(simp [*,errW_none,errW_some] <;> rfl),by repeat (first|(with_reducible first|exact HB.out|apply below_alloc|apply pw_below_drewN|apply below_drew1|refine below_set ?_ GE325.out)|exact HB.out)⟩
              ·rw [if_neg c92] at H
               have c92b0 : decide (t403 < 0) = false:=decide_eq_false c92
               clear c92
               by_cases c93 : t403 = t382
               ·rw [if_pos c93] at H
                have c93b0 : (t403 == t382) = true:=beq_iff_eq.mpr c93
                have c93b1 : (t403 != t382) = false:=bne_eq_false_iff_eq.mpr c93
                clear c93
                obtain rfl:=Option.some.inj H
                go_wp2_with (first|((with_reducible refine gate_callee (f:=21) rfl ?_);refine goesL_ (some 116) rfl rfl Try.func21 (by kernel_rfl) rfl #[.slice Ao74 t383.length co74,.int .i64 1] rfl (by (try simp only [List.map_toArray,List.map_cons,List.map_nil]);first|done|rfl|(simp only [List.length_drop,List.length_take];rfl)) ?_;(with_reducible refine (laws_heldIntS.calls kj72 _ _ t383 1 t403 _ ?side1 ?side2 A91.out).mono ?_);(case side1=>repeat (first|exact (Kd.R_reads' HO_11.out).2.2|(with_reducible first|apply Kd.C_alloc|apply Kd.C_drewN|apply Kd.C_drew)));(case side2=>exact (Kd.R_reads' HO_11.out).2.1);rintro e w' ⟨rfl,⟨nd,rfl⟩⟩;refine ⟨_,rfl,?_⟩))
                go_ret
                exact ⟨by first|rfl|(simp [*,errW_none,errW_some] <;> rfl),by repeat (first|(with_reducible first|exact HB.out|apply below_alloc|apply pw_below_drewN|apply below_drew1|refine below_set ?_ GE325.out)|exact HB.out)⟩
               ·rw [if_neg c93] at H
                have c93b0 : (t403 == t382) = false:=beq_eq_false_iff_ne.mpr c93
                have c93b1 : (t403 != t382) = true:=bne_iff_ne.mpr c93
                obtain rfl:=Option.some.inj H
                go_wp2_with (first|((with_reducible refine gate_callee (f:=21) rfl ?_);refine goesL_ (some 116) rfl rfl Try.func21 (by kernel_rfl) rfl #[.slice Ao74 t383.length co74,.int .i64 1] rfl (by (try simp only [List.map_toArray,List.map_cons,List.map_nil]);first|done|rfl|(simp only [List.length_drop,List.length_take];rfl)) ?_;(with_reducible refine (laws_heldIntS.calls kj72 _ _ t383 1 t403 _ ?side1 ?side2 A91.out).mono ?_);(case side1=>repeat (first|exact (Kd.R_reads' HO_11.out).2.2|(with_reducible first|apply Kd.C_alloc|apply Kd.C_drewN|apply Kd.C_drew)));(case side2=>exact (Kd.R_reads' HO_11.out).2.1);rintro e w' ⟨rfl,⟨nd,rfl⟩⟩;refine ⟨_,rfl,?_⟩))
                go_ret
                exact ⟨by first|rfl|(simp [*,errW_none,errW_some] <;> rfl),by repeat (first|(with_reducible first|exact HB.out|apply below_alloc|apply pw_below_drewN|apply below_drew1|refine below_set ?_ GE325.out)|exact HB.out)⟩
          ·rw [if_neg c70] at H
           have c70b0 : (t384 == t382) = false:=beq_eq_false_iff_ne.mpr c70
           have c70b1 : (t384 != t382) = true:=bne_iff_ne.mpr c70
           obtain rfl:=Option.some.inj H
           obtain ⟨Ao94,co94,eo94⟩:=Kd.R_slice HO_11.out
           subst eo94
           go_wp2_with (first|((with_reducible refine gate_callee (f:=19) rfl ?_);refine goesL_ (some 83) rfl rfl Try.func19 (by kernel_rfl) rfl #[.slice Ao94 t358.length co94,.int .i64 1] rfl (by (try simp only [List.map_toArray,List.map_cons,List.map_nil]);first|done|rfl|(simp only [List.length_drop,List.length_take];rfl)) ?_;(with_reducible refine (laws_markIntS.calls kj44 (fun k_=>some k_ = (.slice Ao94 t358.length co94 : Value).ownBlock) (.slice Ao94 t358.length co94) t358 1 t382 t383 w _ ?side1 ?side2 A65.out).mono ?_);(case side1=>repeat (first|(with_reducible first|exact HB.out|apply below_alloc|apply pw_below_drewN|apply below_drew1|refine below_set ?_ GE325.out)|exact HB.out));(case side2=>exact Kd.R_tight rfl HO_11.out);rintro e w95 ⟨rfl,hy0,hb,hkp⟩;refine ⟨_,rfl,?_⟩;have n0_:=Aside0.mk (Kd.R_reok rfl hy0 (fun k_ e_=>HO_11.out.1 k_ e_));have n1_:=Aside0.mk (blk_kept (g:=gb325) (o:=.cells #[.slice A0_0 l0_0.length c0_0,.slice A0_1 l0_1.length c0_1,.slice A0_2 l0_2.length c0_2,.slice A0_3 l0_3.length c0_3] 26 (0,0)) (by (with_reducible repeat first|apply blk_drewN|apply blk_drew|apply blk_alloc);exact BK325.out) hkp (fun hs_=>(fun e_=>(Kd.R_ne HO_11.out BK325.out (by decide)) e_) hs_));have n2_:=Aside0.mk (hb);clear HO_11;clear BK325;clear HB;clear HO_7;have HO_11:=n0_;have BK325:=n1_;have HB:=n2_;clear n0_ n1_ n2_;(try clear hb);(try clear hkp);(try clear hbx);(try clear hy0))|((with_reducible refine gate_callee (f:=21) rfl ?_);refine goesL_ (some 86) rfl rfl Try.func21 (by kernel_rfl) rfl #[.slice Ao94 t383.length co94,.int .i64 1] rfl (by (try simp only [List.map_toArray,List.map_cons,List.map_nil]);first|done|(rw [show t383.length = t358.length from (Kd.R_reads' HO_11.out).1.symm] <;> rfl)|rfl|(simp only [List.length_drop,List.length_take];rfl)) ?_;(with_reducible refine (laws_heldIntS.calls kj44 _ _ t383 1 t384 _ ?side1 ?side2 A66.out).mono ?_);(case side1=>repeat (first|exact (Kd.R_reads' HO_11.out).2.2|(with_reducible first|apply Kd.C_alloc|apply Kd.C_drewN|apply Kd.C_drew)));(case side2=>rw [show t383.length = t358.length from (Kd.R_reads' HO_11.out).1.symm];exact (Kd.R_reads' HO_11.out).2.1);rintro e w' ⟨rfl,⟨nd,rfl⟩⟩;refine ⟨_,rfl,?_⟩))
           go_ret
           exact ⟨by first|rfl|(simp [*,errW_none,errW_some] <;> rfl),by repeat (first|(with_reducible first|exact HB.out|apply below_alloc|apply pw_below_drewN|apply below_drew1|refine below_set ?_ GE325.out)|exact HB.out)⟩
     ·replace c43:=Bool.eq_false_iff.mpr c43
      subst c43
      have H1 : (some false) = some r:=by rw [if_neg (show ¬ (false = true) by decide)] at H;exact H
      clear H
      have H:=H1
      clear H1
      obtain rfl:=Option.some.inj H
      try go_wp2
      have n0_:=Aside0.mk (Kd.S_drew HO_357000.out)
      have n1_:=Aside0.mk (Kd.R_drew HO_357001.out)
      have n2_:=Aside0.mk (Kd.R_drew HO_357002.out)
      have n3_:=Aside0.mk (Kd.R_drew HO_357003.out)
      have n4_:=Aside0.mk (blk_drew BK325.out)
      have n5_:=Aside0.mk (blk_drew BK356.out)
      have n6_:=Aside0.mk (below_drew1 HB.out)
      clear HO_357000
      clear HO_357001
      clear HO_357002
      clear HO_357003
      clear BK325
      clear BK356
      clear HB
      clear HO_7
      clear HO_11
      have HO_357000:=n0_
      have HO_357001:=n1_
      have HO_357002:=n2_
      have HO_357003:=n3_
      have BK325:=n4_
      have BK356:=n5_
      have HB:=n6_
      clear n0_ n1_ n2_ n3_ n4_ n5_ n6_
      refine start_ (n:=5) (S:=fun w'=>w'.cell? ⟨gb356,0,none⟩ = some (.slice Ao26 t344.length co26)∧w'.cell? ⟨gb356,1,none⟩ = some (.slice Ao29 t347.length co29)∧w'.cell? ⟨gb356,2,none⟩ = some (.slice Ao30 t350.length co30)∧w'.cell? ⟨gb356,3,none⟩ = some (.slice Ao31 t353.length co31)∧w'.cell? ⟨gb325,0,none⟩ = some (.slice A0_0 l0_0.length c0_0)∧w'.cell? ⟨gb325,1,none⟩ = some (.slice A0_1 l0_1.length c0_1)∧w'.cell? ⟨gb325,2,none⟩ = some (.slice A0_2 l0_2.length c0_2)∧w'.cell? ⟨gb325,3,none⟩ = some (.slice A0_3 l0_3.length c0_3)) (ds:=[]) #[false,false,false,false,false] (by kernel_rfl) rfl rfl ⟨(blk_cell BK356.out 0).trans rfl,(blk_cell BK356.out 1).trans rfl,(blk_cell BK356.out 2).trans rfl,(blk_cell BK356.out 3).trans rfl,(blk_cell BK325.out 0).trans rfl,(blk_cell BK325.out 1).trans rfl,(blk_cell BK325.out 2).trans rfl,(blk_cell BK325.out 3).trans rfl⟩ (fun hHeld=>?_)
      generalize wc.drew = w96 at HO_357000 HO_357001 HO_357002 HO_357003 BK325 BK356 HB hHeld ⊢
      refine take_ (i:=0) (N:=some 55) (v:=?_) (a':=?_) #[true,false,false,false,false] rfl rfl (by kernel_rfl) (fun _ _ _ h=>h) (Or.inl ⟨by rfl,?_⟩) hHeld ?_ ?_
      rotate_left
      ·rintro w' ⟨s0,s1,s2,s3,s4,s5,s6,s7⟩
       go_simp
       with_reducible rfl
      rotate_left
      ·simp only [Act.put,List.setIfInBounds_toArray,List.set_cons_zero,List.set_cons_succ,i64_w,i32_w]
       rfl
      refine take_ (i:=1) (N:=some 56) (v:=?_) (a':=?_) #[true,true,false,false,false] rfl rfl (by kernel_rfl) (fun _ _ _ h=>h) (Or.inl ⟨by rfl,?_⟩) hHeld ?_ ?_
      rotate_left
      ·rintro w' ⟨s0,s1,s2,s3,s4,s5,s6,s7⟩
       go_simp
       with_reducible rfl
      rotate_left
      ·simp only [Act.put,List.setIfInBounds_toArray,List.set_cons_zero,List.set_cons_succ,i64_w,i32_w]
       rfl
      refine one_ (i:=2) (N:=some 57) #[true,true,true,false,false] rfl rfl (by kernel_rfl) (by decide) (fun K hK=>?_)
      refine goes_ Try.func9 (by kernel_rfl) rfl #[.agg #[.slice A0_0 l0_0.length c0_0,.slice A0_1 l0_1.length c0_1,.slice A0_2 l0_2.length c0_2,.slice A0_3 l0_3.length c0_3]] (by rfl) rfl rfl (by (try simp only [List.map_toArray,List.map_cons,List.map_nil]);first|done|rfl|(simp only [List.length_drop,List.length_take];rfl)) ?_
      with_reducible refine (laws_toSpace.calls kj11 _ _ l0_0 _ _ l0_1 _ _ l0_2 _ _ l0_3 t363 t366 t369 t372 _ ?side1 ?side2 ?side3 ?side4 ?side5 ?side6 ?side7 ?side8 A41.out).mono ?_
      (case side1=>repeat (first|exact (Kd.C_below HR0_0.out HB.out)|(with_reducible first|apply Kd.C_alloc|apply Kd.C_drewN|apply Kd.C_drew)))
      (case side2=>exact HC0_0.out)
      (case side3=>repeat (first|exact (Kd.C_below HR0_1.out HB.out)|(with_reducible first|apply Kd.C_alloc|apply Kd.C_drewN|apply Kd.C_drew)))
      (case side4=>exact HC0_1.out)
      (case side5=>repeat (first|exact (Kd.C_below HR0_2.out HB.out)|(with_reducible first|apply Kd.C_alloc|apply Kd.C_drewN|apply Kd.C_drew)))
      (case side6=>exact HC0_2.out)
      (case side7=>repeat (first|exact (Kd.C_below HR0_3.out HB.out)|(with_reducible first|apply Kd.C_alloc|apply Kd.C_drewN|apply Kd.C_drew)))
      (case side8=>exact HC0_3.out)
      rintro e w97 ⟨v364,v367,v370,v373,rfl,ho0,ho1,ho2,ho3,hb⟩
      refine ⟨_,rfl,?_⟩
      have n0_:=Aside0.mk (Kd.S_told (Kd.S_told (Kd.S_old (by (with_reducible repeat (first|apply Kd.S_alloc|apply Kd.S_drewN|apply Kd.S_drew));exact HO_357000.out) hb) (Kd.S_base ho0)) (Kd.R_base ho1))
      have n1_:=Aside0.mk (Kd.R_elder' (by (with_reducible repeat (first|apply Kd.R_alloc|apply Kd.R_drewN|apply Kd.R_drew));exact HO_357001.out) (Kd.R_base ho1) hb)
      have n2_:=Aside0.mk (Kd.R_mono (Kd.R_told (Kd.R_told (Kd.R_old (by (with_reducible repeat (first|apply Kd.R_alloc|apply Kd.R_drewN|apply Kd.R_drew));exact HO_357002.out) hb) (Kd.R_base ho2)) (Kd.R_base ho3)) (fun _ h_=>h_.1))
      have n3_:=Aside0.mk (Kd.R_mono (Kd.R_told (Kd.R_told (Kd.R_old (by (with_reducible repeat (first|apply Kd.R_alloc|apply Kd.R_drewN|apply Kd.R_drew));exact HO_357003.out) hb) (Kd.R_base ho2)) (Kd.R_base ho3)) (fun _ h_=>h_.1))
      have n4_:=Aside0.mk (Kd.S_lower (Kd.S_new' (Kd.S_new' (Kd.S_mono (Kd.S_bound ho0) (fun k_ h_=>(⟨h_.1,(by first|exact h_.2.1|simpa only [World.size_setCell] using h_.2.1)⟩ : _∧w96.heap.size ≤ k_))) (Kd.S_lt (by (with_reducible repeat (first|apply Kd.S_alloc|apply Kd.S_drewN|apply Kd.S_drew));exact HO_357000.out))) (Kd.R_lt (by (with_reducible repeat (first|apply Kd.R_alloc|apply Kd.R_drewN|apply Kd.R_drew));exact HO_357001.out))) (below_size (by repeat (first|(with_reducible first|exact HB.out|apply below_alloc|apply pw_below_drewN|apply below_drew1|refine below_set ?_ GE325.out|refine below_set ?_ GE356.out)|exact HB.out))))
      have n5_:=Aside0.mk (Kd.R_lower (Kd.R_new' ho1 (Kd.R_lt (by (with_reducible repeat (first|apply Kd.R_alloc|apply Kd.R_drewN|apply Kd.R_drew));exact HO_357001.out))) (below_size (by repeat (first|(with_reducible first|exact HB.out|apply below_alloc|apply pw_below_drewN|apply below_drew1|refine below_set ?_ GE325.out|refine below_set ?_ GE356.out)|exact HB.out))))
      have n6_:=Aside0.mk (Kd.R_lower (Kd.R_new' (Kd.R_new' ho2 (Kd.R_lt (by (with_reducible repeat (first|apply Kd.R_alloc|apply Kd.R_drewN|apply Kd.R_drew));exact HO_357002.out))) (Kd.R_lt (by (with_reducible repeat (first|apply Kd.R_alloc|apply Kd.R_drewN|apply Kd.R_drew));exact HO_357003.out))) (below_size (by repeat (first|(with_reducible first|exact HB.out|apply below_alloc|apply pw_below_drewN|apply below_drew1|refine below_set ?_ GE325.out|refine below_set ?_ GE356.out)|exact HB.out))))
      have n7_:=Aside0.mk (Kd.R_lower (Kd.R_new' (Kd.R_new' ho3 (Kd.R_lt (by (with_reducible repeat (first|apply Kd.R_alloc|apply Kd.R_drewN|apply Kd.R_drew));exact HO_357002.out))) (Kd.R_lt (by (with_reducible repeat (first|apply Kd.R_alloc|apply Kd.R_drewN|apply Kd.R_drew));exact HO_357003.out))) (below_size (by repeat (first|(with_reducible first|exact HB.out|apply below_alloc|apply pw_below_drewN|apply below_drew1|refine below_set ?_ GE325.out|refine below_set ?_ GE356.out)|exact HB.out))))
      have n8_:=Aside0.mk (blk_below (g:=gb325) (o:=.cells #[.slice A0_0 l0_0.length c0_0,.slice A0_1 l0_1.length c0_1,.slice A0_2 l0_2.length c0_2,.slice A0_3 l0_3.length c0_3] 26 (0,0)) (by (with_reducible repeat first|apply blk_drewN|apply blk_drew|apply blk_alloc);exact BK325.out) hb)
      have n9_:=Aside0.mk (blk_below (g:=gb356) (o:=.cells #[.slice Ao26 t344.length co26,.slice Ao29 t347.length co29,.slice Ao30 t350.length co30,.slice Ao31 t353.length co31] 28 (0,0)) (by (with_reducible repeat first|apply blk_drewN|apply blk_drew|apply blk_alloc);exact BK356.out) hb)
      have n10_:=Aside0.mk (below_step (by repeat (first|(with_reducible first|exact HB.out|apply below_alloc|apply pw_below_drewN|apply below_drew1|refine below_set ?_ GE325.out|refine below_set ?_ GE356.out)|exact HB.out)) hb)
      clear HO_357000
      clear HO_357001
      clear HO_357002
      clear HO_357003
      clear BK325
      clear BK356
      clear HB
      have HO_357000:=n0_
      have HO_357001:=n1_
      have HO_357002:=n2_
      have HO_357003:=n3_
      have HO365:=n4_
      have HO368:=n5_
      have HO371:=n6_
      have HO374:=n7_
      have BK325:=n8_
      have BK356:=n9_
      have HB:=n10_
      clear n0_ n1_ n2_ n3_ n4_ n5_ n6_ n7_ n8_ n9_ n10_
      (try clear hb)
      (try clear hb2)
      (try clear hk)
      (try clear hi)
      (try clear ho0)
      (try clear ho1)
      (try clear ho2)
      (try clear ho3)
      obtain ⟨Ao98,co98,eo98⟩:=Kd.S_slice HO365.out
      (first|subst eo98|(injection eo98 with f1_ f2_ f3_;have f4_:=f1_.symm;have f5_:=f3_.symm;clear f1_ f2_ f3_;subst f4_;subst f5_))
      obtain ⟨Ao99,co99,eo99⟩:=Kd.R_slice HO368.out
      (first|subst eo99|(injection eo99 with f1_ f2_ f3_;have f4_:=f1_.symm;have f5_:=f3_.symm;clear f1_ f2_ f3_;subst f4_;subst f5_))
      obtain ⟨Ao100,co100,eo100⟩:=Kd.R_slice HO371.out
      (first|subst eo100|(injection eo100 with f1_ f2_ f3_;have f4_:=f1_.symm;have f5_:=f3_.symm;clear f1_ f2_ f3_;subst f4_;subst f5_))
      obtain ⟨Ao101,co101,eo101⟩:=Kd.R_slice HO374.out
      (first|subst eo101|(injection eo101 with f1_ f2_ f3_;have f4_:=f1_.symm;have f5_:=f3_.symm;clear f1_ f2_ f3_;subst f4_;subst f5_))
      refine hK.out _ _ ⟨(blk_cell BK356.out 0).trans rfl,(blk_cell BK356.out 1).trans rfl,(blk_cell BK356.out 2).trans rfl,(blk_cell BK356.out 3).trans rfl,(blk_cell BK325.out 0).trans rfl,(blk_cell BK325.out 1).trans rfl,(blk_cell BK325.out 2).trans rfl,(blk_cell BK325.out 3).trans rfl⟩ (fun hHeld=>?_)
      clear hK K
      refine norm_ (a':=?_) ?_ ?_
      rotate_left
      ·show Act.put _ (some 57) _ = _
       simp only [Act.put,List.setIfInBounds_toArray,List.set_cons_zero,List.set_cons_succ,i64_w,i32_w]
       rfl
      refine one_ (i:=3) (N:=some 58) #[true,true,true,true,false] rfl rfl (by kernel_rfl) (by decide) (fun K hK=>?_)
      refine goes_ Try.func11 (by kernel_rfl) rfl #[.agg #[.slice Ao26 t344.length co26,.slice Ao29 t347.length co29,.slice Ao30 t350.length co30,.slice Ao31 t353.length co31],.agg #[.slice Ao98 t363.length co98,.slice Ao99 t366.length co99,.slice Ao100 t369.length co100,.slice Ao101 t372.length co101]] (by rfl) rfl rfl (by (try simp only [List.map_toArray,List.map_cons,List.map_nil]);first|done|rfl|(simp only [List.length_drop,List.length_take];rfl)) ?_
      with_reducible refine (laws_eqSpace.calls kj11 _ _ t344 _ _ t347 _ _ t350 _ _ t353 _ _ t363 _ _ t366 _ _ t369 _ _ t372 false _ ?side1 ?side2 ?side3 ?side4 ?side5 ?side6 ?side7 ?side8 ?side9 ?side10 ?side11 ?side12 ?side13 ?side14 ?side15 ?side16 A42.out).mono ?_
      (case side1=>repeat (first|exact (Kd.S_reads' HO_357000.out).2.2|(with_reducible first|apply Kd.C_alloc|apply Kd.C_drewN|apply Kd.C_drew)))
      (case side2=>exact (Kd.S_reads' HO_357000.out).2.1)
      (case side3=>repeat (first|exact (Kd.R_reads' HO_357001.out).2.2|(with_reducible first|apply Kd.C_alloc|apply Kd.C_drewN|apply Kd.C_drew)))
      (case side4=>exact (Kd.R_reads' HO_357001.out).2.1)
      (case side5=>repeat (first|exact (Kd.R_reads' HO_357002.out).2.2|(with_reducible first|apply Kd.C_alloc|apply Kd.C_drewN|apply Kd.C_drew)))
      (case side6=>exact (Kd.R_reads' HO_357002.out).2.1)
      (case side7=>repeat (first|exact (Kd.R_reads' HO_357003.out).2.2|(with_reducible first|apply Kd.C_alloc|apply Kd.C_drewN|apply Kd.C_drew)))
      (case side8=>exact (Kd.R_reads' HO_357003.out).2.1)
      (case side9=>repeat (first|exact (Kd.S_reads' HO365.out).2.2|(with_reducible first|apply Kd.C_alloc|apply Kd.C_drewN|apply Kd.C_drew)))
      (case side10=>exact (Kd.S_reads' HO365.out).2.1)
      (case side11=>repeat (first|exact (Kd.R_reads' HO368.out).2.2|(with_reducible first|apply Kd.C_alloc|apply Kd.C_drewN|apply Kd.C_drew)))
      (case side12=>exact (Kd.R_reads' HO368.out).2.1)
      (case side13=>repeat (first|exact (Kd.R_reads' HO371.out).2.2|(with_reducible first|apply Kd.C_alloc|apply Kd.C_drewN|apply Kd.C_drew)))
      (case side14=>exact (Kd.R_reads' HO371.out).2.1)
      (case side15=>repeat (first|exact (Kd.R_reads' HO374.out).2.2|(with_reducible first|apply Kd.C_alloc|apply Kd.C_drewN|apply Kd.C_drew)))
      (case side16=>exact (Kd.R_reads' HO374.out).2.1)
      rintro e w102 ⟨rfl,hb⟩
      refine ⟨_,rfl,?_⟩
      have n0_:=Aside0.mk (Kd.S_below (by (with_reducible repeat (first|apply Kd.S_alloc|apply Kd.S_drewN|apply Kd.S_drew));exact HO_357000.out) hb)
      have n1_:=Aside0.mk (Kd.R_below (by (with_reducible repeat (first|apply Kd.R_alloc|apply Kd.R_drewN|apply Kd.R_drew));exact HO_357001.out) hb)
      have n2_:=Aside0.mk (Kd.R_below (by (with_reducible repeat (first|apply Kd.R_alloc|apply Kd.R_drewN|apply Kd.R_drew));exact HO_357002.out) hb)
      have n3_:=Aside0.mk (Kd.R_below (by (with_reducible repeat (first|apply Kd.R_alloc|apply Kd.R_drewN|apply Kd.R_drew));exact HO_357003.out) hb)
      have n4_:=Aside0.mk (Kd.S_below (by (with_reducible repeat (first|apply Kd.S_alloc|apply Kd.S_drewN|apply Kd.S_drew));exact HO365.out) hb)
      have n5_:=Aside0.mk (Kd.R_below (by (with_reducible repeat (first|apply Kd.R_alloc|apply Kd.R_drewN|apply Kd.R_drew));exact HO368.out) hb)
      have n6_:=Aside0.mk (Kd.R_below (by (with_reducible repeat (first|apply Kd.R_alloc|apply Kd.R_drewN|apply Kd.R_drew));exact HO371.out) hb)
      have n7_:=Aside0.mk (Kd.R_below (by (with_reducible repeat (first|apply Kd.R_alloc|apply Kd.R_drewN|apply Kd.R_drew));exact HO374.out) hb)
      have n8_:=Aside0.mk (blk_below (g:=gb325) (o:=.cells #[.slice A0_0 l0_0.length c0_0,.slice A0_1 l0_1.length c0_1,.slice A0_2 l0_2.length c0_2,.slice A0_3 l0_3.length c0_3] 26 (0,0)) (by (with_reducible repeat first|apply blk_drewN|apply blk_drew|apply blk_alloc);exact BK325.out) hb)
      have n9_:=Aside0.mk (blk_below (g:=gb356) (o:=.cells #[.slice Ao26 t344.length co26,.slice Ao29 t347.length co29,.slice Ao30 t350.length co30,.slice Ao31 t353.length co31] 28 (0,0)) (by (with_reducible repeat first|apply blk_drewN|apply blk_drew|apply blk_alloc);exact BK356.out) hb)
      have n10_:=Aside0.mk (below_step (by repeat (first|(with_reducible first|exact HB.out|apply below_alloc|apply pw_below_drewN|apply below_drew1|refine below_set ?_ GE325.out|refine below_set ?_ GE356.out)|exact HB.out)) hb)
      clear HO_357000
      clear HO_357001
      clear HO_357002
      clear HO_357003
      clear HO365
      clear HO368
      clear HO371
      clear HO374
      clear BK325
      clear BK356
      clear HB
      have HO_357000:=n0_
      have HO_357001:=n1_
      have HO_357002:=n2_
      have HO_357003:=n3_
      have HO365:=n4_
      have HO368:=n5_
      have HO371:=n6_
      have HO374:=n7_
      have BK325:=n8_
      have BK356:=n9_
      have HB:=n10_
      clear n0_ n1_ n2_ n3_ n4_ n5_ n6_ n7_ n8_ n9_ n10_
      (try clear hb)
      (try clear hb2)
      (try clear hk)
      (try clear hi)
      refine hK.out _ _ ⟨(blk_cell BK356.out 0).trans rfl,(blk_cell BK356.out 1).trans rfl,(blk_cell BK356.out 2).trans rfl,(blk_cell BK356.out 3).trans rfl,(blk_cell BK325.out 0).trans rfl,(blk_cell BK325.out 1).trans rfl,(blk_cell BK325.out 2).trans rfl,(blk_cell BK325.out 3).trans rfl⟩ (fun hHeld=>?_)
      clear hK K
      refine norm_ (a':=?_) ?_ ?_
      rotate_left
      ·show Act.put _ (some 58) _ = _
       simp only [Act.put,List.setIfInBounds_toArray,List.set_cons_zero,List.set_cons_succ,i64_w,i32_w]
       rfl
      refine pure_ (i:=4) (N:=some 59) (v:=?_) (a':=?_) #[true,true,true,true,true] rfl rfl (by kernel_rfl) (fun _ _ _ h=>h) (Or.inl ⟨by rfl,?_⟩) ?_ ?_
      rotate_left
      ·intro w'
       go_simp
       with_reducible rfl
      rotate_left
      ·simp only [Act.put,List.setIfInBounds_toArray,List.set_cons_zero,List.set_cons_succ,i64_w,i32_w]
       rfl
      refine done_ (by kernel_rfl) ?_
      try go_wp2
      go_ret
      exact ⟨by first|rfl|(simp [*,errW_none,errW_some] <;> rfl),by repeat (first|(with_reducible first|exact HB.out|apply below_alloc|apply pw_below_drewN|apply below_drew1|refine below_set ?_ GE325.out|refine below_set ?_ GE356.out)|exact HB.out)⟩

end Go.Proofs.Ytggnbbbhlnjleaa.PFnExactTextIn
