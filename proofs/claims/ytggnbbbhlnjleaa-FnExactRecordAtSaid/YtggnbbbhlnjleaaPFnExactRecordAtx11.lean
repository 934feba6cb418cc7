-- Written by a program of this session over the print of the kit (wip/t/patch_print.py).
import Derived.Test.YtggnbbbhlnjleaaPFnExactRecordAtx0
import Derived.Test.YtggnbbbhlnjleaaPFnExactRecordAtx1
import Derived.Test.YtggnbbbhlnjleaaPFnExactRecordAtx2
import Derived.Test.YtggnbbbhlnjleaaPFnExactRecordAtx3
import Derived.Test.YtggnbbbhlnjleaaPFnExactRecordAtx7
import Derived.Test.YtggnbbbhlnjleaaPFnExactRecordAtx9
import Derived.Test.YtggnbbbhlnjleaaPFnExactRecordAtx10
namespace Go.Proofs.Ytggnbbbhlnjleaa.PFnExactRecordAt
open Go.RowKit Go.Proofs.YtggnbbbhlnjleaaW.PrintWords Go.Proofs.YtggnbbbhlnjleaaW.PrintLast Go.Proofs.YtggnbbbhlnjleaaW.PrintMore
attribute [local go_sem] max2_int min2_int max_two min_two max_three min_three max_four min_four   -- for this text's walks alone
set_option linter.unusedVariables false
set_option linter.unusedSimpArgs false

/-! ### laws_FnExactRecordAt: function 4 -/
mutual
def laws_FnExactRecordAt.j0 : Nat → Int → List Int → List Int → Bool → List Int → List Int → Bool → Bool → List (List Int) → List Int → List Int → List Int → List (List Int) → List Int → List Int → List Int → Option (Bool)
 | 0,_,_,_,_,_,_,_,_,_,_,_,_,_,_,_,_=>none
 | k + 1,x1,x6,x7,x8,x10,x11,x12,x55,x277000,x277001,x277002,x277003,x310000,x310001,x310002,x310003=>if x55 = true then (some false) else ((laws_toSpace.f k x277000 x277001 x277002 x277003).bind fun bt319=>((laws_eqSpace.f k x310000 x310001 x310002 x310003 bt319.1 bt319.2.1 bt319.2.2.1 bt319.2.2.2).bind fun t331=>(if t331 = true then ((laws_markSpace.f k x310000 x310001 x310002 x310003 1).bind fun bt332=>(if bt332.1 < 0 then (laws_FnExactRecordAt.j1 k x1 x6 x7 x8 x10 x11 true x277000 x277001 x277002 x277003) else ((laws_eqByteS.f k x10 x6).bind fun t337=>(if t337 = true then ((laws_eqIntS.f k x11 x7).bind fun t338=>(if t338 = true then (laws_FnExactRecordAt.j1 k x1 x6 x7 x8 x10 x11 (x12 != x8) x277000 x277001 x277002 x277003) else (laws_FnExactRecordAt.j1 k x1 x6 x7 x8 x10 x11 true x277000 x277001 x277002 x277003))) else (laws_FnExactRecordAt.j1 k x1 x6 x7 x8 x10 x11 true x277000 x277001 x277002 x277003))))) else (some false))))
def laws_FnExactRecordAt.j1 : Nat → Int → List Int → List Int → Bool → List Int → List Int → Bool → List (List Int) → List Int → List Int → List Int → Option (Bool)
 | 0,_,_,_,_,_,_,_,_,_,_,_=>none
 | k + 1,x1,x6,x7,x8,x10,x11,x82,x277000,x277001,x277002,x277003=>if x82 = true then (some false) else ((laws_markByteS.f k x10 1).bind fun bt339=>((laws_markIntS.f k x11 bt339.1).bind fun bt341=>((laws_heldByteS.f k bt339.2 1).bind fun t343=>(if t343 < 0 then (some false) else ((laws_heldIntS.f k bt341.2 t343).bind fun t344=>(if t344 < 0 then (some false) else (if t344 = bt341.1 then ((laws_toSpace.f k x277000 x277001 x277002 x277003).bind fun bt345=>((impl_RecordAt.f k bt345.1 bt345.2.1 bt345.2.2.1 bt345.2.2.2 x1).bind fun bt357=>((laws_eqByteS.f k bt357.1 x6).bind fun t364=>(if t364 = true then ((laws_eqIntS.f k bt357.2.1 x7).bind fun t365=>(if t365 = true then (laws_FnExactRecordAt.j2 k bt339.2 bt341.2 bt341.1 (bt357.2.2 != x8)) else (laws_FnExactRecordAt.j2 k bt339.2 bt341.2 bt341.1 true))) else (laws_FnExactRecordAt.j2 k bt339.2 bt341.2 bt341.1 true))))) else (some false))))))))
def laws_FnExactRecordAt.j2 : Nat → List Int → List Int → Int → Bool → Option (Bool)
 | 0,_,_,_,_=>none
 | k + 1,x10,x11,x14,x124=>if x124 = true then (some false) else ((laws_heldByteS.f k x10 1).bind fun t366=>(if t366 < 0 then (some false) else ((laws_heldIntS.f k x11 t366).bind fun t367=>(if t367 < 0 then (some false) else (if t367 = x14 then (some true) else (some false))))))
end
def laws_FnExactRecordAt.f (k : Nat) (l0_0 : List (List Int)) (l0_1 : List Int) (l0_2 : List Int) (l0_3 : List Int) (a1 : Int) : Option (Bool):=(laws_szSpace.f k l0_0 l0_1 l0_2 l0_3 1048576).bind fun t277=>(if t277 < 0 then (some true) else ((laws_toSpace.f k l0_0 l0_1 l0_2 l0_3).bind fun bt278=>((spec_RecordAt.f k bt278.1 bt278.2.1 bt278.2.2.1 bt278.2.2.2 a1).bind fun bt290=>((laws_toSpace.f k l0_0 l0_1 l0_2 l0_3).bind fun bt297=>((impl_RecordAt.f k bt297.1 bt297.2.1 bt297.2.2.1 bt297.2.2.2 a1).bind fun bt310=>((laws_eqByteS.f k bt310.1 bt290.1).bind fun t317=>(if t317 = true then ((laws_eqIntS.f k bt310.2.1 bt290.2.1).bind fun t318=>(if t318 = true then (laws_FnExactRecordAt.j0 k a1 bt290.1 bt290.2.1 bt290.2.2 bt310.1 bt310.2.1 bt310.2.2 (bt310.2.2 != bt290.2.2) l0_0 l0_1 l0_2 l0_3 bt297.1 bt297.2.1 bt297.2.2.1 bt297.2.2.2) else (laws_FnExactRecordAt.j0 k a1 bt290.1 bt290.2.1 bt290.2.2 bt310.1 bt310.2.1 bt310.2.2 true l0_0 l0_1 l0_2 l0_3 bt297.1 bt297.2.1 bt297.2.2.1 bt297.2.2.2))) else (laws_FnExactRecordAt.j0 k a1 bt290.1 bt290.2.1 bt290.2.2 bt310.1 bt310.2.1 bt310.2.2 true l0_0 l0_1 l0_2 l0_3 bt297.1 bt297.2.1 bt297.2.2.1 bt297.2.2.2))))))))
theorem laws_FnExactRecordAt.mono_l : ∀ k,(∀ y0 y1 y2 y3 y4 y5 y6 y7 y8 y9 y10 y11 y12 y13 y14 y15,LeO (laws_FnExactRecordAt.j0 k y0 y1 y2 y3 y4 y5 y6 y7 y8 y9 y10 y11 y12 y13 y14 y15) (laws_FnExactRecordAt.j0 (k + 1) y0 y1 y2 y3 y4 y5 y6 y7 y8 y9 y10 y11 y12 y13 y14 y15))∧(∀ y0 y1 y2 y3 y4 y5 y6 y7 y8 y9 y10,LeO (laws_FnExactRecordAt.j1 k y0 y1 y2 y3 y4 y5 y6 y7 y8 y9 y10) (laws_FnExactRecordAt.j1 (k + 1) y0 y1 y2 y3 y4 y5 y6 y7 y8 y9 y10))∧(∀ y0 y1 y2 y3,LeO (laws_FnExactRecordAt.j2 k y0 y1 y2 y3) (laws_FnExactRecordAt.j2 (k + 1) y0 y1 y2 y3))
 | 0=>⟨fun _ _ _ _ _ _ _ _ _ _ _ _ _ _ _ _ r h=>by simp [laws_FnExactRecordAt.j0] at h,fun _ _ _ _ _ _ _ _ _ _ _ r h=>by simp [laws_FnExactRecordAt.j1] at h,fun _ _ _ _ r h=>by simp [laws_FnExactRecordAt.j2] at h⟩
 | k + 1=>by
  obtain ⟨ih0,ih1,ih2⟩:=laws_FnExactRecordAt.mono_l k
  refine ⟨?_,?_,?_⟩
  ·intro y0 y1 y2 y3 y4 y5 y6 y7 y8 y9 y10 y11 y12 y13 y14 y15
   unfold laws_FnExactRecordAt.j0
   repeat' first
   | (with_reducible exact ih0 _ _ _ _ _ _ _ _ _ _ _ _ _ _ _ _)
   | (with_reducible exact ih1 _ _ _ _ _ _ _ _ _ _ _)
   | (with_reducible exact ih2 _ _ _ _)
   | (with_reducible exact impl_RecordAt.mono _ _ _ _ _ _)
   | (with_reducible exact laws_eqByteS.mono _ _ _)
   | (with_reducible exact laws_eqIntS.mono _ _ _)
   | (with_reducible exact laws_eqSpace.mono _ _ _ _ _ _ _ _ _)
   | (with_reducible exact laws_heldByteS.mono _ _ _)
   | (with_reducible exact laws_heldIntS.mono _ _ _)
   | (with_reducible exact laws_markByteS.mono _ _ _)
   | (with_reducible exact laws_markIntS.mono _ _ _)
   | (with_reducible exact laws_markSpace.mono _ _ _ _ _ _)
   | (with_reducible exact laws_szSpace.mono _ _ _ _ _ _)
   | (with_reducible exact laws_toSpace.mono _ _ _ _ _)
   | (with_reducible exact spec_RecordAt.mono _ _ _ _ _ _)
   | (with_reducible exact LeO.refl _)
   | (with_reducible exact LeO.none _)
   | (with_reducible refine LeO.ite ?_ ?_)
   | (with_reducible refine LeO.bind ?_ (fun _=>?_))
   | exact ih0 _ _ _ _ _ _ _ _ _ _ _ _ _ _ _ _
   | exact ih1 _ _ _ _ _ _ _ _ _ _ _
   | exact ih2 _ _ _ _
   | exact impl_RecordAt.mono _ _ _ _ _ _
   | exact laws_eqByteS.mono _ _ _
   | exact laws_eqIntS.mono _ _ _
   | exact laws_eqSpace.mono _ _ _ _ _ _ _ _ _
   | exact laws_heldByteS.mono _ _ _
   | exact laws_heldIntS.mono _ _ _
   | exact laws_markByteS.mono _ _ _
   | exact laws_markIntS.mono _ _ _
   | exact laws_markSpace.mono _ _ _ _ _ _
   | exact laws_szSpace.mono _ _ _ _ _ _
   | exact laws_toSpace.mono _ _ _ _ _
   | exact spec_RecordAt.mono _ _ _ _ _ _
   | exact LeO.none _
   | refine LeO.ite ?_ ?_
   | refine LeO.bind ?_ (fun _=>?_)
  ·intro y0 y1 y2 y3 y4 y5 y6 y7 y8 y9 y10
   unfold laws_FnExactRecordAt.j1
   repeat' first
   | (with_reducible exact ih0 _ _ _ _ _ _ _ _ _ _ _ _ _ _ _ _)
   | (with_reducible exact ih1 _ _ _ _ _ _ _ _ _ _ _)
   | (with_reducible exact ih2 _ _ _ _)
   | (with_reducible exact impl_RecordAt.mono _ _ _ _ _ _)
   | (with_reducible exact laws_eqByteS.mono _ _ _)
   | (with_reducible exact laws_eqIntS.mono _ _ _)
   | (with_reducible exact laws_eqSpace.mono _ _ _ _ _ _ _ _ _)
   | (with_reducible exact laws_heldByteS.mono _ _ _)
   | (with_reducible exact laws_heldIntS.mono _ _ _)
   | (with_reducible exact laws_markByteS.mono _ _ _)
   | (with_reducible exact laws_markIntS.mono _ _ _)
   | (with_reducible exact laws_markSpace.mono _ _ _ _ _ _)
   | (with_reducible exact laws_szSpace.mono _ _ _ _ _ _)
   | (with_reducible exact laws_toSpace.mono _ _ _ _ _)
   | (with_reducible exact spec_RecordAt.mono _ _ _ _ _ _)
   | (with_reducible exact LeO.refl _)
   | (with_reducible exact LeO.none _)
   | (with_reducible refine LeO.ite ?_ ?_)
   | (with_reducible refine LeO.bind ?_ (fun _=>?_))
   | exact ih0 _ _ _ _ _ _ _ _ _ _ _ _ _ _ _ _
   | exact ih1 _ _ _ _ _ _ _ _ _ _ _
   | exact ih2 _ _ _ _
   | exact impl_RecordAt.mono _ _ _ _ _ _
   | exact laws_eqByteS.mono _ _ _
   | exact laws_eqIntS.mono _ _ _
   | exact laws_eqSpace.mono _ _ _ _ _ _ _ _ _
   | exact laws_heldByteS.mono _ _ _
   | exact laws_heldIntS.mono _ _ _
   | exact laws_markByteS.mono _ _ _
   | exact laws_markIntS.mono _ _ _
   | exact laws_markSpace.mono _ _ _ _ _ _
   | exact laws_szSpace.mono _ _ _ _ _ _
   | exact laws_toSpace.mono _ _ _ _ _
   | exact spec_RecordAt.mono _ _ _ _ _ _
   | exact LeO.none _
   | refine LeO.ite ?_ ?_
   | refine LeO.bind ?_ (fun _=>?_)
  ·intro y0 y1 y2 y3
   unfold laws_FnExactRecordAt.j2
   repeat' first
   | (with_reducible exact ih0 _ _ _ _ _ _ _ _ _ _ _ _ _ _ _ _)
   | (with_reducible exact ih1 _ _ _ _ _ _ _ _ _ _ _)
   | (with_reducible exact ih2 _ _ _ _)
   | (with_reducible exact impl_RecordAt.mono _ _ _ _ _ _)
   | (with_reducible exact laws_eqByteS.mono _ _ _)
   | (with_reducible exact laws_eqIntS.mono _ _ _)
   | (with_reducible exact laws_eqSpace.mono _ _ _ _ _ _ _ _ _)
   | (with_reducible exact laws_heldByteS.mono _ _ _)
   | (with_reducible exact laws_heldIntS.mono _ _ _)
   | (with_reducible exact laws_markByteS.mono _ _ _)
   | (with_reducible exact laws_markIntS.mono _ _ _)
   | (with_reducible exact laws_markSpace.mono _ _ _ _ _ _)
   | (with_reducible exact laws_szSpace.mono _ _ _ _ _ _)
   | (with_reducible exact laws_toSpace.mono _ _ _ _ _)
   | (with_reducible exact spec_RecordAt.mono _ _ _ _ _ _)
   | (with_reducible exact LeO.refl _)
   | (with_reducible exact LeO.none _)
   | (with_reducible refine LeO.ite ?_ ?_)
   | (with_reducible refine LeO.bind ?_ (fun _=>?_))
   | exact ih0 _ _ _ _ _ _ _ _ _ _ _ _ _ _ _ _
   | exact ih1 _ _ _ _ _ _ _ _ _ _ _
   | exact ih2 _ _ _ _
   | exact impl_RecordAt.mono _ _ _ _ _ _
   | exact laws_eqByteS.mono _ _ _
   | exact laws_eqIntS.mono _ _ _
   | exact laws_eqSpace.mono _ _ _ _ _ _ _ _ _
   | exact laws_heldByteS.mono _ _ _
   | exact laws_heldIntS.mono _ _ _
   | exact laws_markByteS.mono _ _ _
   | exact laws_markIntS.mono _ _ _
   | exact laws_markSpace.mono _ _ _ _ _ _
   | exact laws_szSpace.mono _ _ _ _ _ _
   | exact laws_toSpace.mono _ _ _ _ _
   | exact spec_RecordAt.mono _ _ _ _ _ _
   | exact LeO.none _
   | refine LeO.ite ?_ ?_
   | refine LeO.bind ?_ (fun _=>?_)
theorem laws_FnExactRecordAt.mono : ∀ a0 a1 a2 a3 a4 k,LeO (laws_FnExactRecordAt.f k a0 a1 a2 a3 a4) (laws_FnExactRecordAt.f (k + 1) a0 a1 a2 a3 a4):=by
 intro a0 a1 a2 a3 a4 k
 obtain ⟨ih0,ih1,ih2⟩:=laws_FnExactRecordAt.mono_l k
 unfold laws_FnExactRecordAt.f
 repeat' first
   | (with_reducible exact ih0 _ _ _ _ _ _ _ _ _ _ _ _ _ _ _ _)
   | (with_reducible exact ih1 _ _ _ _ _ _ _ _ _ _ _)
   | (with_reducible exact ih2 _ _ _ _)
   | (with_reducible exact impl_RecordAt.mono _ _ _ _ _ _)
   | (with_reducible exact laws_eqByteS.mono _ _ _)
   | (with_reducible exact laws_eqIntS.mono _ _ _)
   | (with_reducible exact laws_eqSpace.mono _ _ _ _ _ _ _ _ _)
   | (with_reducible exact laws_heldByteS.mono _ _ _)
   | (with_reducible exact laws_heldIntS.mono _ _ _)
   | (with_reducible exact laws_markByteS.mono _ _ _)
   | (with_reducible exact laws_markIntS.mono _ _ _)
   | (with_reducible exact laws_markSpace.mono _ _ _ _ _ _)
   | (with_reducible exact laws_szSpace.mono _ _ _ _ _ _)
   | (with_reducible exact laws_toSpace.mono _ _ _ _ _)
   | (with_reducible exact spec_RecordAt.mono _ _ _ _ _ _)
   | (with_reducible exact LeO.refl _)
   | (with_reducible exact LeO.none _)
   | (with_reducible refine LeO.ite ?_ ?_)
   | (with_reducible refine LeO.bind ?_ (fun _=>?_))
   | exact ih0 _ _ _ _ _ _ _ _ _ _ _ _ _ _ _ _
   | exact ih1 _ _ _ _ _ _ _ _ _ _ _
   | exact ih2 _ _ _ _
   | exact impl_RecordAt.mono _ _ _ _ _ _
   | exact laws_eqByteS.mono _ _ _
   | exact laws_eqIntS.mono _ _ _
   | exact laws_eqSpace.mono _ _ _ _ _ _ _ _ _
   | exact laws_heldByteS.mono _ _ _
   | exact laws_heldIntS.mono _ _ _
   | exact laws_markByteS.mono _ _ _
   | exact laws_markIntS.mono _ _ _
   | exact laws_markSpace.mono _ _ _ _ _ _
   | exact laws_szSpace.mono _ _ _ _ _ _
   | exact laws_toSpace.mono _ _ _ _ _
   | exact spec_RecordAt.mono _ _ _ _ _ _
   | exact LeO.none _
   | refine LeO.ite ?_ ?_
   | refine LeO.bind ?_ (fun _=>?_)
set_option maxHeartbeats 8000000 in
set_option maxRecDepth 100000 in
theorem laws_FnExactRecordAt.calls (k : Nat) (A0_0 : Option Addr) (c0_0 : Nat) (l0_0 : List (List Int)) (A0_1 : Option Addr) (c0_1 : Nat) (l0_1 : List Int) (A0_2 : Option Addr) (c0_2 : Nat) (l0_2 : List Int) (A0_3 : Option Addr) (c0_3 : Nat) (l0_3 : List Int) (a1 : Int) (r : Bool) (w : World) (hr0_0 : Kd.C (Kd.slice 5 (Kd.int .u8)) w A0_0 l0_0.length l0_0) (hc0_0 : l0_0.length ≤ c0_0) (hr0_1 : Kd.C (Kd.int .u8) w A0_1 l0_1.length l0_1) (hc0_1 : l0_1.length ≤ c0_1) (hr0_2 : Kd.C (Kd.int .i64) w A0_2 l0_2.length l0_2) (hc0_2 : l0_2.length ≤ c0_2) (hr0_3 : Kd.C (Kd.int .i64) w A0_3 l0_3.length l0_3) (hc0_3 : l0_3.length ≤ c0_3) (h : laws_FnExactRecordAt.f k l0_0 l0_1 l0_2 l0_3 a1 = some r) :
  Calls Try.prog 4 #[.agg #[.slice A0_0 l0_0.length c0_0,.slice A0_1 l0_1.length c0_1,.slice A0_2 l0_2.length c0_2,.slice A0_3 l0_3.length c0_3],.int .i64 a1] w fun e w'=>e = .returned (.bool r)∧Below w.heap.size w w':=by
 have hu26:=Try.underlying26
 have hu28:=Try.underlying28
 have HR0_0:=Aside0.mk hr0_0
 have HC0_0:=Aside0.mk hc0_0
 clear hr0_0 hc0_0
 have HR0_1:=Aside0.mk hr0_1
 have HC0_1:=Aside0.mk hc0_1
 clear hr0_1 hc0_1
 have HR0_2:=Aside0.mk hr0_2
 have HC0_2:=Aside0.mk hc0_2
 clear hr0_2 hc0_2
 have HR0_3:=Aside0.mk hr0_3
 have HC0_3:=Aside0.mk hc0_3
 clear hr0_3 hc0_3
 have HB:=Aside0.mk (Below.refl w.heap.size w)
 have H : ((laws_szSpace.f k l0_0 l0_1 l0_2 l0_3 1048576).bind fun t277=>(if t277 < 0 then (some true) else ((laws_toSpace.f k l0_0 l0_1 l0_2 l0_3).bind fun bt278=>((spec_RecordAt.f k bt278.1 bt278.2.1 bt278.2.2.1 bt278.2.2.2 a1).bind fun bt290=>((laws_toSpace.f k l0_0 l0_1 l0_2 l0_3).bind fun bt297=>((impl_RecordAt.f k bt297.1 bt297.2.1 bt297.2.2.1 bt297.2.2.2 a1).bind fun bt310=>((laws_eqByteS.f k bt310.1 bt290.1).bind fun t317=>(if t317 = true then ((laws_eqIntS.f k bt310.2.1 bt290.2.1).bind fun t318=>(if t318 = true then (laws_FnExactRecordAt.j0 k a1 bt290.1 bt290.2.1 bt290.2.2 bt310.1 bt310.2.1 bt310.2.2 (bt310.2.2 != bt290.2.2) l0_0 l0_1 l0_2 l0_3 bt297.1 bt297.2.1 bt297.2.2.1 bt297.2.2.2) else (laws_FnExactRecordAt.j0 k a1 bt290.1 bt290.2.1 bt290.2.2 bt310.1 bt310.2.1 bt310.2.2 true l0_0 l0_1 l0_2 l0_3 bt297.1 bt297.2.1 bt297.2.2.1 bt297.2.2.2))) else (laws_FnExactRecordAt.j0 k a1 bt290.1 bt290.2.1 bt290.2.2 bt310.1 bt310.2.1 bt310.2.2 true l0_0 l0_1 l0_2 l0_3 bt297.1 bt297.2.1 bt297.2.2.1 bt297.2.2.2))))))))) = some r:=h
 clear h
 replace H:=Option.bind_eq_some_iff.mp H
 obtain ⟨t277,A30,H⟩:=H
 have A3:=Aside0.mk A30
 clear A30
 by_cases c4 : t277 < 0
 ·rw [if_pos c4] at H
  have c4b0 : decide (t277 < 0) = true:=decide_eq_true c4
  clear c4
  obtain rfl:=Option.some.inj H
  go_enter Try.func4,Try.ntmps4
  go_wp2_with (first|((with_reducible refine gate_dst (N:=2) rfl ?_);refine box_event ?hg (N:=2) ?hd (cs:=#[.slice A0_0 l0_0.length c0_0,.slice A0_1 l0_1.length c0_1,.slice A0_2 l0_2.length c0_2,.slice A0_3 l0_3.length c0_3]) (t:=26) ?hr ?_;(case hd=>rfl);(case hg=>rfl);(case hr=>first|(go_simp;done)|(go_simp;rfl));intro gb276 hg w5 hbox hb;have n0_:=Aside0.mk (below_step (by repeat (first|exact HB.out|apply below_alloc|apply pw_below_drewN|apply below_drew1)) hb);have n1_:=Aside0.mk (hbox);have n2_:=Aside0.mk ((by rw [hg];exact (below_size (by repeat (first|exact HB.out|apply below_alloc|apply pw_below_drewN|apply below_drew1))) : w.heap.size ≤ gb276));have n3_:=Aside0.mk ((by rw [hg];exact (below_size (by repeat (first|exact HB.out|apply below_alloc|apply pw_below_drewN|apply below_drew1))) : w.heap.size ≤ gb276));clear HB;have HB:=n0_;have BK276:=n1_;have GW276:=n2_;have GE276:=n3_;clear n0_ n1_ n2_ n3_;clear hb hbox hg;have hcz6_0 : w5.cell? ⟨gb276,0,none⟩ = some (.slice A0_0 l0_0.length c0_0):=(blk_cell BK276.out 0).trans rfl;have hcz6_1 : w5.cell? ⟨gb276,1,none⟩ = some (.slice A0_1 l0_1.length c0_1):=(blk_cell BK276.out 1).trans rfl;have hcz6_2 : w5.cell? ⟨gb276,2,none⟩ = some (.slice A0_2 l0_2.length c0_2):=(blk_cell BK276.out 2).trans rfl;have hcz6_3 : w5.cell? ⟨gb276,3,none⟩ = some (.slice A0_3 l0_3.length c0_3):=(blk_cell BK276.out 3).trans rfl;have hfz6_0:=blk_frozen BK276.out 0;have hfz6_1:=blk_frozen BK276.out 1;have hfz6_2:=blk_frozen BK276.out 2;have hfz6_3:=blk_frozen BK276.out 3)|((with_reducible refine gate_callee (f:=7) rfl ?_);refine goesL_ (some 21) rfl rfl Try.func7 (by kernel_rfl) rfl #[.agg #[.slice A0_0 l0_0.length c0_0,.slice A0_1 l0_1.length c0_1,.slice A0_2 l0_2.length c0_2,.slice A0_3 l0_3.length c0_3],.int .i64 1048576] rfl (by (try simp only [List.map_toArray,List.map_cons,List.map_nil]);first|done|rfl|(simp only [List.length_drop,List.length_take];rfl)) ?_;(with_reducible refine (laws_szSpace.calls k _ _ l0_0 _ _ l0_1 _ _ l0_2 _ _ l0_3 1048576 t277 _ ?side1 ?side2 ?side3 ?side4 ?side5 ?side6 ?side7 ?side8 A3.out).mono ?_);(case side1=>repeat (first|exact (Kd.C_below HR0_0.out HB.out)|(with_reducible first|apply Kd.C_alloc|apply Kd.C_drewN|apply Kd.C_drew)));(case side2=>exact HC0_0.out);(case side3=>repeat (first|exact (Kd.C_below HR0_1.out HB.out)|(with_reducible first|apply Kd.C_alloc|apply Kd.C_drewN|apply Kd.C_drew)));(case side4=>exact HC0_1.out);(case side5=>repeat (first|exact (Kd.C_below HR0_2.out HB.out)|(with_reducible first|apply Kd.C_alloc|apply Kd.C_drewN|apply Kd.C_drew)));(case side6=>exact HC0_2.out);(case side7=>repeat (first|exact (Kd.C_below HR0_3.out HB.out)|(with_reducible first|apply Kd.C_alloc|apply Kd.C_drewN|apply Kd.C_drew)));(case side8=>exact HC0_3.out);rintro e w7 ⟨rfl,hb⟩;refine ⟨_,rfl,?_⟩;have n0_:=Aside0.mk (blk_below (g:=gb276) (o:=.cells #[.slice A0_0 l0_0.length c0_0,.slice A0_1 l0_1.length c0_1,.slice A0_2 l0_2.length c0_2,.slice A0_3 l0_3.length c0_3] 26 (0,0)) (by (with_reducible repeat first|apply blk_drewN|apply blk_drew|apply blk_alloc);exact BK276.out) hb);have n1_:=Aside0.mk (below_step (by repeat (first|(with_reducible first|exact HB.out|apply below_alloc|apply pw_below_drewN|apply below_drew1|refine below_set ?_ GE276.out)|exact HB.out)) hb);clear BK276;clear HB;have BK276:=n0_;have HB:=n1_;clear n0_ n1_;(try clear hb);(try clear hb2);(try clear hk);(try clear hi)))
  go_ret
  exact ⟨by first|rfl|(simp [*,errW_none,errW_some] <;> rfl),by repeat (first|(with_reducible first|exact HB.out|apply below_alloc|apply pw_below_drewN|apply below_drew1|refine below_set ?_ GE276.out)|exact HB.out)⟩
 ·rw [if_neg c4] at H
  have c4b0 : decide (t277 < 0) = false:=decide_eq_false c4
  clear c4
  replace H:=Option.bind_eq_some_iff.mp H
  obtain ⟨⟨t278,t281,t284,t287⟩,A80,H⟩:=H
  replace H : ((spec_RecordAt.f k t278 t281 t284 t287 a1).bind fun bt290=>((laws_toSpace.f k l0_0 l0_1 l0_2 l0_3).bind fun bt297=>((impl_RecordAt.f k bt297.1 bt297.2.1 bt297.2.2.1 bt297.2.2.2 a1).bind fun bt310=>((laws_eqByteS.f k bt310.1 bt290.1).bind fun t317=>(if t317 = true then ((laws_eqIntS.f k bt310.2.1 bt290.2.1).bind fun t318=>(if t318 = true then (laws_FnExactRecordAt.j0 k a1 bt290.1 bt290.2.1 bt290.2.2 bt310.1 bt310.2.1 bt310.2.2 (bt310.2.2 != bt290.2.2) l0_0 l0_1 l0_2 l0_3 bt297.1 bt297.2.1 bt297.2.2.1 bt297.2.2.2) else (laws_FnExactRecordAt.j0 k a1 bt290.1 bt290.2.1 bt290.2.2 bt310.1 bt310.2.1 bt310.2.2 true l0_0 l0_1 l0_2 l0_3 bt297.1 bt297.2.1 bt297.2.2.1 bt297.2.2.2))) else (laws_FnExactRecordAt.j0 k a1 bt290.1 bt290.2.1 bt290.2.2 bt310.1 bt310.2.1 bt310.2.2 true l0_0 l0_1 l0_2 l0_3 bt297.1 bt297.2.1 bt297.2.2.1 bt297.2.2.2)))))) = some r:=H
  have A8:=Aside0.mk A80
  clear A80
  replace H:=Option.bind_eq_some_iff.mp H
  obtain ⟨⟨t290,t293,t296⟩,A90,H⟩:=H
  replace H : ((laws_toSpace.f k l0_0 l0_1 l0_2 l0_3).bind fun bt297=>((impl_RecordAt.f k bt297.1 bt297.2.1 bt297.2.2.1 bt297.2.2.2 a1).bind fun bt310=>((laws_eqByteS.f k bt310.1 t290).bind fun t317=>(if t317 = true then ((laws_eqIntS.f k bt310.2.1 t293).bind fun t318=>(if t318 = true then (laws_FnExactRecordAt.j0 k a1 t290 t293 t296 bt310.1 bt310.2.1 bt310.2.2 (bt310.2.2 != t296) l0_0 l0_1 l0_2 l0_3 bt297.1 bt297.2.1 bt297.2.2.1 bt297.2.2.2) else (laws_FnExactRecordAt.j0 k a1 t290 t293 t296 bt310.1 bt310.2.1 bt310.2.2 true l0_0 l0_1 l0_2 l0_3 bt297.1 bt297.2.1 bt297.2.2.1 bt297.2.2.2))) else (laws_FnExactRecordAt.j0 k a1 t290 t293 t296 bt310.1 bt310.2.1 bt310.2.2 true l0_0 l0_1 l0_2 l0_3 bt297.1 bt297.2.1 bt297.2.2.1 bt297.2.2.2))))) = some r:=H
  have A9:=Aside0.mk A90
  clear A90
  replace H:=Option.bind_eq_some_iff.mp H
  obtain ⟨⟨t297,t300,t303,t306⟩,A100,H⟩:=H
  replace H : ((impl_RecordAt.f k t297 t300 t303 t306 a1).bind fun bt310=>((laws_eqByteS.f k bt310.1 t290).bind fun t317=>(if t317 = true then ((laws_eqIntS.f k bt310.2.1 t293).bind fun t318=>(if t318 = true then (laws_FnExactRecordAt.j0 k a1 t290 t293 t296 bt310.1 bt310.2.1 bt310.2.2 (bt310.2.2 != t296) l0_0 l0_1 l0_2 l0_3 t297 t300 t303 t306) else (laws_FnExactRecordAt.j0 k a1 t290 t293 t296 bt310.1 bt310.2.1 bt310.2.2 true l0_0 l0_1 l0_2 l0_3 t297 t300 t303 t306))) else (laws_FnExactRecordAt.j0 k a1 t290 t293 t296 bt310.1 bt310.2.1 bt310.2.2 true l0_0 l0_1 l0_2 l0_3 t297 t300 t303 t306)))) = some r:=H
  have A10:=Aside0.mk A100
  clear A100
  replace H:=Option.bind_eq_some_iff.mp H
  obtain ⟨⟨t310,t313,t316⟩,A110,H⟩:=H
  replace H : ((laws_eqByteS.f k t310 t290).bind fun t317=>(if t317 = true then ((laws_eqIntS.f k t313 t293).bind fun t318=>(if t318 = true then (laws_FnExactRecordAt.j0 k a1 t290 t293 t296 t310 t313 t316 (t316 != t296) l0_0 l0_1 l0_2 l0_3 t297 t300 t303 t306) else (laws_FnExactRecordAt.j0 k a1 t290 t293 t296 t310 t313 t316 true l0_0 l0_1 l0_2 l0_3 t297 t300 t303 t306))) else (laws_FnExactRecordAt.j0 k a1 t290 t293 t296 t310 t313 t316 true l0_0 l0_1 l0_2 l0_3 t297 t300 t303 t306))) = some r:=H
  have A11:=Aside0.mk A110
  clear A110
  have HC12:=Aside0.mk H
  clear H
  go_enter Try.func4,Try.ntmps4
  go_upto_region 8 with (first|((with_reducible refine gate_dst (N:=2) rfl ?_);refine box_event ?hg (N:=2) ?hd (cs:=#[.slice A0_0 l0_0.length c0_0,.slice A0_1 l0_1.length c0_1,.slice A0_2 l0_2.length c0_2,.slice A0_3 l0_3.length c0_3]) (t:=26) ?hr ?_;(case hd=>rfl);(case hg=>rfl);(case hr=>first|(go_simp;done)|(go_simp;rfl));intro gb276 hg w13 hbox hb;have n0_:=Aside0.mk (below_step (by repeat (first|exact HB.out|apply below_alloc|apply pw_below_drewN|apply below_drew1)) hb);have n1_:=Aside0.mk (hbox);have n2_:=Aside0.mk ((by rw [hg];exact (below_size (by repeat (first|exact HB.out|apply below_alloc|apply pw_below_drewN|apply below_drew1))) : w.heap.size ≤ gb276));have n3_:=Aside0.mk ((by rw [hg];exact (below_size (by repeat (first|exact HB.out|apply below_alloc|apply pw_below_drewN|apply below_drew1))) : w.heap.size ≤ gb276));clear HB;have HB:=n0_;have BK276:=n1_;have GW276:=n2_;have GE276:=n3_;clear n0_ n1_ n2_ n3_;clear hb hbox hg;have hcz14_0 : w13.cell? ⟨gb276,0,none⟩ = some (.slice A0_0 l0_0.length c0_0):=(blk_cell BK276.out 0).trans rfl;have hcz14_1 : w13.cell? ⟨gb276,1,none⟩ = some (.slice A0_1 l0_1.length c0_1):=(blk_cell BK276.out 1).trans rfl;have hcz14_2 : w13.cell? ⟨gb276,2,none⟩ = some (.slice A0_2 l0_2.length c0_2):=(blk_cell BK276.out 2).trans rfl;have hcz14_3 : w13.cell? ⟨gb276,3,none⟩ = some (.slice A0_3 l0_3.length c0_3):=(blk_cell BK276.out 3).trans rfl;have hfz14_0:=blk_frozen BK276.out 0;have hfz14_1:=blk_frozen BK276.out 1;have hfz14_2:=blk_frozen BK276.out 2;have hfz14_3:=blk_frozen BK276.out 3)|((with_reducible refine gate_callee (f:=7) rfl ?_);refine goesL_ (some 21) rfl rfl Try.func7 (by kernel_rfl) rfl #[.agg #[.slice A0_0 l0_0.length c0_0,.slice A0_1 l0_1.length c0_1,.slice A0_2 l0_2.length c0_2,.slice A0_3 l0_3.length c0_3],.int .i64 1048576] rfl (by (try simp only [List.map_toArray,List.map_cons,List.map_nil]);first|done|rfl|(simp only [List.length_drop,List.length_take];rfl)) ?_;(with_reducible refine (laws_szSpace.calls k _ _ l0_0 _ _ l0_1 _ _ l0_2 _ _ l0_3 1048576 t277 _ ?side1 ?side2 ?side3 ?side4 ?side5 ?side6 ?side7 ?side8 A3.out).mono ?_);(case side1=>repeat (first|exact (Kd.C_below HR0_0.out HB.out)|(with_reducible first|apply Kd.C_alloc|apply Kd.C_drewN|apply Kd.C_drew)));(case side2=>exact HC0_0.out);(case side3=>repeat (first|exact (Kd.C_below HR0_1.out HB.out)|(with_reducible first|apply Kd.C_alloc|apply Kd.C_drewN|apply Kd.C_drew)));(case side4=>exact HC0_1.out);(case side5=>repeat (first|exact (Kd.C_below HR0_2.out HB.out)|(with_reducible first|apply Kd.C_alloc|apply Kd.C_drewN|apply Kd.C_drew)));(case side6=>exact HC0_2.out);(case side7=>repeat (first|exact (Kd.C_below HR0_3.out HB.out)|(with_reducible first|apply Kd.C_alloc|apply Kd.C_drewN|apply Kd.C_drew)));(case side8=>exact HC0_3.out);rintro e w15 ⟨rfl,hb⟩;refine ⟨_,rfl,?_⟩;have n0_:=Aside0.mk (blk_below (g:=gb276) (o:=.cells #[.slice A0_0 l0_0.length c0_0,.slice A0_1 l0_1.length c0_1,.slice A0_2 l0_2.length c0_2,.slice A0_3 l0_3.length c0_3] 26 (0,0)) (by (with_reducible repeat first|apply blk_drewN|apply blk_drew|apply blk_alloc);exact BK276.out) hb);have n1_:=Aside0.mk (below_step (by repeat (first|(with_reducible first|exact HB.out|apply below_alloc|apply pw_below_drewN|apply below_drew1|refine below_set ?_ GE276.out)|exact HB.out)) hb);clear BK276;clear HB;have BK276:=n0_;have HB:=n1_;clear n0_ n1_;(try clear hb);(try clear hb2);(try clear hk);(try clear hi);have hcz16_0 : w15.cell? ⟨gb276,0,none⟩ = some (.slice A0_0 l0_0.length c0_0):=(blk_cell BK276.out 0).trans rfl;have hcz16_1 : w15.cell? ⟨gb276,1,none⟩ = some (.slice A0_1 l0_1.length c0_1):=(blk_cell BK276.out 1).trans rfl;have hcz16_2 : w15.cell? ⟨gb276,2,none⟩ = some (.slice A0_2 l0_2.length c0_2):=(blk_cell BK276.out 2).trans rfl;have hcz16_3 : w15.cell? ⟨gb276,3,none⟩ = some (.slice A0_3 l0_3.length c0_3):=(blk_cell BK276.out 3).trans rfl;have hfz16_0:=blk_frozen BK276.out 0;have hfz16_1:=blk_frozen BK276.out 1;have hfz16_2:=blk_frozen BK276.out 2;have hfz16_3:=blk_frozen BK276.out 3)|((with_reducible refine gate_callee (f:=9) rfl ?_);refine goesL_ (some 26) rfl rfl Try.func9 (by kernel_rfl) rfl #[.agg #[.slice A0_0 l0_0.length c0_0,.slice A0_1 l0_1.length c0_1,.slice A0_2 l0_2.length c0_2,.slice A0_3 l0_3.length c0_3]] rfl (by (try simp only [List.map_toArray,List.map_cons,List.map_nil]);first|done|rfl|(simp only [List.length_drop,List.length_take];rfl)) ?_;(with_reducible refine (laws_toSpace.calls k _ _ l0_0 _ _ l0_1 _ _ l0_2 _ _ l0_3 t278 t281 t284 t287 _ ?side1 ?side2 ?side3 ?side4 ?side5 ?side6 ?side7 ?side8 A8.out).mono ?_);(case side1=>repeat (first|exact (Kd.C_below HR0_0.out HB.out)|(with_reducible first|apply Kd.C_alloc|apply Kd.C_drewN|apply Kd.C_drew)));(case side2=>exact HC0_0.out);(case side3=>repeat (first|exact (Kd.C_below HR0_1.out HB.out)|(with_reducible first|apply Kd.C_alloc|apply Kd.C_drewN|apply Kd.C_drew)));(case side4=>exact HC0_1.out);(case side5=>repeat (first|exact (Kd.C_below HR0_2.out HB.out)|(with_reducible first|apply Kd.C_alloc|apply Kd.C_drewN|apply Kd.C_drew)));(case side6=>exact HC0_2.out);(case side7=>repeat (first|exact (Kd.C_below HR0_3.out HB.out)|(with_reducible first|apply Kd.C_alloc|apply Kd.C_drewN|apply Kd.C_drew)));(case side8=>exact HC0_3.out);rintro e w17 ⟨v279,v282,v285,v288,rfl,ho0,ho1,ho2,ho3,hb⟩;refine ⟨_,rfl,?_⟩;have n0_:=Aside0.mk (Kd.S_lower (Kd.S_mono (Kd.S_bound ho0) (fun k_ h_=>(⟨h_.1,(by first|exact h_.2.1|simpa only [World.size_setCell] using h_.2.1)⟩ : _∧w15.heap.size ≤ k_))) (below_size (by repeat (first|(with_reducible first|exact HB.out|apply below_alloc|apply pw_below_drewN|apply below_drew1|refine below_set ?_ GE276.out)|exact HB.out))));have n1_:=Aside0.mk (Kd.R_lower ho1 (below_size (by repeat (first|(with_reducible first|exact HB.out|apply below_alloc|apply pw_below_drewN|apply below_drew1|refine below_set ?_ GE276.out)|exact HB.out))));have n2_:=Aside0.mk (Kd.R_lower ho2 (below_size (by repeat (first|(with_reducible first|exact HB.out|apply below_alloc|apply pw_below_drewN|apply below_drew1|refine below_set ?_ GE276.out)|exact HB.out))));have n3_:=Aside0.mk (Kd.R_lower ho3 (below_size (by repeat (first|(with_reducible first|exact HB.out|apply below_alloc|apply pw_below_drewN|apply below_drew1|refine below_set ?_ GE276.out)|exact HB.out))));have n4_:=Aside0.mk (blk_below (g:=gb276) (o:=.cells #[.slice A0_0 l0_0.length c0_0,.slice A0_1 l0_1.length c0_1,.slice A0_2 l0_2.length c0_2,.slice A0_3 l0_3.length c0_3] 26 (0,0)) (by (with_reducible repeat first|apply blk_drewN|apply blk_drew|apply blk_alloc);exact BK276.out) hb);have n5_:=Aside0.mk (below_step (by repeat (first|(with_reducible first|exact HB.out|apply below_alloc|apply pw_below_drewN|apply below_drew1|refine below_set ?_ GE276.out)|exact HB.out)) hb);clear BK276;clear HB;have HO280:=n0_;have HO283:=n1_;have HO286:=n2_;have HO289:=n3_;have BK276:=n4_;have HB:=n5_;clear n0_ n1_ n2_ n3_ n4_ n5_;(try clear hb);(try clear hb2);(try clear hk);(try clear hi);(try clear ho0);(try clear ho1);(try clear ho2);(try clear ho3);obtain ⟨Ao18,co18,eo18⟩:=Kd.S_slice HO280.out;subst eo18;obtain ⟨Ao19,co19,eo19⟩:=Kd.R_slice HO283.out;subst eo19;obtain ⟨Ao20,co20,eo20⟩:=Kd.R_slice HO286.out;subst eo20;obtain ⟨Ao21,co21,eo21⟩:=Kd.R_slice HO289.out;subst eo21)|((with_reducible refine gate_callee (f:=14) rfl ?_);refine goesL_ (some 28) rfl rfl Try.func14 (by kernel_rfl) rfl #[.agg #[.slice Ao18 t278.length co18,.slice Ao19 t281.length co19,.slice Ao20 t284.length co20,.slice Ao21 t287.length co21],.int .i64 a1] rfl (by (try simp only [List.map_toArray,List.map_cons,List.map_nil]);first|done|rfl|(simp only [List.length_drop,List.length_take];rfl)) ?_;(with_reducible refine (spec_RecordAt.calls k _ _ t278 _ _ t281 _ _ t284 _ _ t287 a1 t290 t293 t296 _ ?side1 ?side2 ?side3 ?side4 ?side5 ?side6 ?side7 ?side8 A9.out).mono ?_);(case side1=>repeat (first|exact (Kd.S_reads' HO280.out).2.2|(with_reducible first|apply Kd.C_alloc|apply Kd.C_drewN|apply Kd.C_drew)));(case side2=>exact (Kd.S_reads' HO280.out).2.1);(case side3=>repeat (first|exact (Kd.R_reads' HO283.out).2.2|(with_reducible first|apply Kd.C_alloc|apply Kd.C_drewN|apply Kd.C_drew)));(case side4=>exact (Kd.R_reads' HO283.out).2.1);(case side5=>repeat (first|exact (Kd.R_reads' HO286.out).2.2|(with_reducible first|apply Kd.C_alloc|apply Kd.C_drewN|apply Kd.C_drew)));(case side6=>exact (Kd.R_reads' HO286.out).2.1);(case side7=>repeat (first|exact (Kd.R_reads' HO289.out).2.2|(with_reducible first|apply Kd.C_alloc|apply Kd.C_drewN|apply Kd.C_drew)));(case side8=>exact (Kd.R_reads' HO289.out).2.1);rintro e w22 ⟨v291,v294,rfl,ho0,ho1,hb⟩;refine ⟨_,rfl,?_⟩;have n0_:=Aside0.mk (Kd.S_elder' (by (with_reducible repeat (first|apply Kd.S_alloc|apply Kd.S_drewN|apply Kd.S_drew));exact HO280.out) (Kd.R_base ho0) hb);have n1_:=Aside0.mk (Kd.R_elder' (by (with_reducible repeat (first|apply Kd.R_alloc|apply Kd.R_drewN|apply Kd.R_drew));exact HO283.out) (Kd.R_base ho0) hb);have n2_:=Aside0.mk (Kd.R_elder' (by (with_reducible repeat (first|apply Kd.R_alloc|apply Kd.R_drewN|apply Kd.R_drew));exact HO286.out) (Kd.R_base ho1) hb);have n3_:=Aside0.mk (Kd.R_elder' (by (with_reducible repeat (first|apply Kd.R_alloc|apply Kd.R_drewN|apply Kd.R_drew));exact HO289.out) (Kd.R_base ho1) hb);have n4_:=Aside0.mk (Kd.R_lower (Kd.R_new' ho0 (Kd.R_lt (by (with_reducible repeat (first|apply Kd.R_alloc|apply Kd.R_drewN|apply Kd.R_drew));exact HO283.out))) (below_size (by repeat (first|(with_reducible first|exact HB.out|apply below_alloc|apply pw_below_drewN|apply below_drew1|refine below_set ?_ GE276.out)|exact HB.out))));have n5_:=Aside0.mk (Kd.R_lower (Kd.R_new' (Kd.R_new' ho1 (Kd.R_lt (by (with_reducible repeat (first|apply Kd.R_alloc|apply Kd.R_drewN|apply Kd.R_drew));exact HO286.out))) (Kd.R_lt (by (with_reducible repeat (first|apply Kd.R_alloc|apply Kd.R_drewN|apply Kd.R_drew));exact HO289.out))) (below_size (by repeat (first|(with_reducible first|exact HB.out|apply below_alloc|apply pw_below_drewN|apply below_drew1|refine below_set ?_ GE276.out)|exact HB.out))));have n6_:=Aside0.mk (blk_below (g:=gb276) (o:=.cells #[.slice A0_0 l0_0.length c0_0,.slice A0_1 l0_1.length c0_1,.slice A0_2 l0_2.length c0_2,.slice A0_3 l0_3.length c0_3] 26 (0,0)) (by (with_reducible repeat first|apply blk_drewN|apply blk_drew|apply blk_alloc);exact BK276.out) hb);have n7_:=Aside0.mk (below_step (by repeat (first|(with_reducible first|exact HB.out|apply below_alloc|apply pw_below_drewN|apply below_drew1|refine below_set ?_ GE276.out)|exact HB.out)) hb);clear HO280;clear HO283;clear HO286;clear HO289;clear BK276;clear HB;have HO280:=n0_;have HO283:=n1_;have HO286:=n2_;have HO289:=n3_;have HO292:=n4_;have HO295:=n5_;have BK276:=n6_;have HB:=n7_;clear n0_ n1_ n2_ n3_ n4_ n5_ n6_ n7_;(try clear hb);(try clear hb2);(try clear hk);(try clear hi);(try clear ho0);(try clear ho1);have hcz23_0 : w22.cell? ⟨gb276,0,none⟩ = some (.slice A0_0 l0_0.length c0_0):=(blk_cell BK276.out 0).trans rfl;have hcz23_1 : w22.cell? ⟨gb276,1,none⟩ = some (.slice A0_1 l0_1.length c0_1):=(blk_cell BK276.out 1).trans rfl;have hcz23_2 : w22.cell? ⟨gb276,2,none⟩ = some (.slice A0_2 l0_2.length c0_2):=(blk_cell BK276.out 2).trans rfl;have hcz23_3 : w22.cell? ⟨gb276,3,none⟩ = some (.slice A0_3 l0_3.length c0_3):=(blk_cell BK276.out 3).trans rfl;have hfz23_0:=blk_frozen BK276.out 0;have hfz23_1:=blk_frozen BK276.out 1;have hfz23_2:=blk_frozen BK276.out 2;have hfz23_3:=blk_frozen BK276.out 3)|((with_reducible refine gate_callee (f:=9) rfl ?_);refine goesL_ (some 33) rfl rfl Try.func9 (by kernel_rfl) rfl #[.agg #[.slice A0_0 l0_0.length c0_0,.slice A0_1 l0_1.length c0_1,.slice A0_2 l0_2.length c0_2,.slice A0_3 l0_3.length c0_3]] rfl (by (try simp only [List.map_toArray,List.map_cons,List.map_nil]);first|done|rfl|(simp only [List.length_drop,List.length_take];rfl)) ?_;(with_reducible refine (laws_toSpace.calls k _ _ l0_0 _ _ l0_1 _ _ l0_2 _ _ l0_3 t297 t300 t303 t306 _ ?side1 ?side2 ?side3 ?side4 ?side5 ?side6 ?side7 ?side8 A10.out).mono ?_);(case side1=>repeat (first|exact (Kd.C_below HR0_0.out HB.out)|(with_reducible first|apply Kd.C_alloc|apply Kd.C_drewN|apply Kd.C_drew)));(case side2=>exact HC0_0.out);(case side3=>repeat (first|exact (Kd.C_below HR0_1.out HB.out)|(with_reducible first|apply Kd.C_alloc|apply Kd.C_drewN|apply Kd.C_drew)));(case side4=>exact HC0_1.out);(case side5=>repeat (first|exact (Kd.C_below HR0_2.out HB.out)|(with_reducible first|apply Kd.C_alloc|apply Kd.C_drewN|apply Kd.C_drew)));(case side6=>exact HC0_2.out);(case side7=>repeat (first|exact (Kd.C_below HR0_3.out HB.out)|(with_reducible first|apply Kd.C_alloc|apply Kd.C_drewN|apply Kd.C_drew)));(case side8=>exact HC0_3.out);rintro e w24 ⟨v298,v301,v304,v307,rfl,ho0,ho1,ho2,ho3,hb⟩;refine ⟨_,rfl,?_⟩;have n0_:=Aside0.mk (Kd.S_told (Kd.S_told (Kd.S_old (by (with_reducible repeat (first|apply Kd.S_alloc|apply Kd.S_drewN|apply Kd.S_drew));exact HO280.out) hb) (Kd.S_base ho0)) (Kd.R_base ho1));have n1_:=Aside0.mk (Kd.R_elder' (by (with_reducible repeat (first|apply Kd.R_alloc|apply Kd.R_drewN|apply Kd.R_drew));exact HO283.out) (Kd.R_base ho1) hb);have n2_:=Aside0.mk (Kd.R_mono (Kd.R_told (Kd.R_told (Kd.R_old (by (with_reducible repeat (first|apply Kd.R_alloc|apply Kd.R_drewN|apply Kd.R_drew));exact HO286.out) hb) (Kd.R_base ho2)) (Kd.R_base ho3)) (fun _ h_=>h_.1));have n3_:=Aside0.mk (Kd.R_mono (Kd.R_told (Kd.R_told (Kd.R_old (by (with_reducible repeat (first|apply Kd.R_alloc|apply Kd.R_drewN|apply Kd.R_drew));exact HO289.out) hb) (Kd.R_base ho2)) (Kd.R_base ho3)) (fun _ h_=>h_.1));have n4_:=Aside0.mk (Kd.R_elder' (by (with_reducible repeat (first|apply Kd.R_alloc|apply Kd.R_drewN|apply Kd.R_drew));exact HO292.out) (Kd.R_base ho1) hb);have n5_:=Aside0.mk (Kd.R_mono (Kd.R_told (Kd.R_told (Kd.R_old (by (with_reducible repeat (first|apply Kd.R_alloc|apply Kd.R_drewN|apply Kd.R_drew));exact HO295.out) hb) (Kd.R_base ho2)) (Kd.R_base ho3)) (fun _ h_=>h_.1));have n6_:=Aside0.mk (Kd.S_lower (Kd.S_new' (Kd.S_new' (Kd.S_new' (Kd.S_mono (Kd.S_bound ho0) (fun k_ h_=>(⟨h_.1,(by first|exact h_.2.1|simpa only [World.size_setCell] using h_.2.1)⟩ : _∧w22.heap.size ≤ k_))) (Kd.S_lt (by (with_reducible repeat (first|apply Kd.S_alloc|apply Kd.S_drewN|apply Kd.S_drew));exact HO280.out))) (Kd.R_lt (by (with_reducible repeat (first|apply Kd.R_alloc|apply Kd.R_drewN|apply Kd.R_drew));exact HO283.out))) (Kd.R_lt (by (with_reducible repeat (first|apply Kd.R_alloc|apply Kd.R_drewN|apply Kd.R_drew));exact HO292.out))) (below_size (by repeat (first|(with_reducible first|exact HB.out|apply below_alloc|apply pw_below_drewN|apply below_drew1|refine below_set ?_ GE276.out)|exact HB.out))));have n7_:=Aside0.mk (Kd.R_lower (Kd.R_new' (Kd.R_new' ho1 (Kd.R_lt (by (with_reducible repeat (first|apply Kd.R_alloc|apply Kd.R_drewN|apply Kd.R_drew));exact HO283.out))) (Kd.R_lt (by (with_reducible repeat (first|apply Kd.R_alloc|apply Kd.R_drewN|apply Kd.R_drew));exact HO292.out))) (below_size (by repeat (first|(with_reducible first|exact HB.out|apply below_alloc|apply pw_below_drewN|apply below_drew1|refine below_set ?_ GE276.out)|exact HB.out))));have n8_:=Aside0.mk (Kd.R_lower (Kd.R_new' (Kd.R_new' (Kd.R_new' ho2 (Kd.R_lt (by (with_reducible repeat (first|apply Kd.R_alloc|apply Kd.R_drewN|apply Kd.R_drew));exact HO286.out))) (Kd.R_lt (by (with_reducible repeat (first|apply Kd.R_alloc|apply Kd.R_drewN|apply Kd.R_drew));exact HO289.out))) (Kd.R_lt (by (with_reducible repeat (first|apply Kd.R_alloc|apply Kd.R_drewN|apply Kd.R_drew));exact HO295.out))) (below_size (by repeat (first|(with_reducible first|exact HB.out|apply below_alloc|apply pw_below_drewN|apply below_drew1|refine below_set ?_ GE276.out)|exact HB.out))));have n9_:=Aside0.mk (Kd.R_lower (Kd.R_new' (Kd.R_new' (Kd.R_new' ho3 (Kd.R_lt (by (with_reducible repeat (first|apply Kd.R_alloc|apply Kd.R_drewN|apply Kd.R_drew));exact HO286.out))) (Kd.R_lt (by (with_reducible repeat (first|apply Kd.R_alloc|apply Kd.R_drewN|apply Kd.R_drew));exact HO289.out))) (Kd.R_lt (by (with_reducible repeat (first|apply Kd.R_alloc|apply Kd.R_drewN|apply Kd.R_drew));exact HO295.out))) (below_size (by repeat (first|(with_reducible first|exact HB.out|apply below_alloc|apply pw_below_drewN|apply below_drew1|refine below_set ?_ GE276.out)|exact HB.out))));have n10_:=Aside0.mk (blk_below (g:=gb276) (o:=.cells #[.slice A0_0 l0_0.length c0_0,.slice A0_1 l0_1.length c0_1,.slice A0_2 l0_2.length c0_2,.slice A0_3 l0_3.length c0_3] 26 (0,0)) (by (with_reducible repeat first|apply blk_drewN|apply blk_drew|apply blk_alloc);exact BK276.out) hb);have n11_:=Aside0.mk (below_step (by repeat (first|(with_reducible first|exact HB.out|apply below_alloc|apply pw_below_drewN|apply below_drew1|refine below_set ?_ GE276.out)|exact HB.out)) hb);clear HO280;clear HO283;clear HO286;clear HO289;clear HO292;clear HO295;clear BK276;clear HB;have HO280:=n0_;have HO283:=n1_;have HO286:=n2_;have HO289:=n3_;have HO292:=n4_;have HO295:=n5_;have HO299:=n6_;have HO302:=n7_;have HO305:=n8_;have HO308:=n9_;have BK276:=n10_;have HB:=n11_;clear n0_ n1_ n2_ n3_ n4_ n5_ n6_ n7_ n8_ n9_ n10_ n11_;(try clear hb);(try clear hb2);(try clear hk);(try clear hi);(try clear ho0);(try clear ho1);(try clear ho2);(try clear ho3))|((with_reducible refine gate_dst (N:=9) rfl ?_);refine box_event ?hg (N:=9) ?hd (cs:=#[.slice none 0 0,.slice none 0 0,.slice none 0 0,.slice none 0 0]) (t:=28) ?hr ?_;(case hd=>rfl);(case hg=>rfl);(case hr=>first|(go_simp;done)|(go_simp;rfl));intro gb309 hg w25 hbox hb;have n0_:=Aside0.mk (Kd.S_below (by (with_reducible repeat (first|apply Kd.S_alloc|apply Kd.S_drewN|apply Kd.S_drew));exact HO280.out) hb);have n1_:=Aside0.mk (Kd.R_below (by (with_reducible repeat (first|apply Kd.R_alloc|apply Kd.R_drewN|apply Kd.R_drew));exact HO283.out) hb);have n2_:=Aside0.mk (Kd.R_below (by (with_reducible repeat (first|apply Kd.R_alloc|apply Kd.R_drewN|apply Kd.R_drew));exact HO286.out) hb);have n3_:=Aside0.mk (Kd.R_below (by (with_reducible repeat (first|apply Kd.R_alloc|apply Kd.R_drewN|apply Kd.R_drew));exact HO289.out) hb);have n4_:=Aside0.mk (Kd.R_below (by (with_reducible repeat (first|apply Kd.R_alloc|apply Kd.R_drewN|apply Kd.R_drew));exact HO292.out) hb);have n5_:=Aside0.mk (Kd.R_below (by (with_reducible repeat (first|apply Kd.R_alloc|apply Kd.R_drewN|apply Kd.R_drew));exact HO295.out) hb);have n6_:=Aside0.mk (Kd.S_below (by (with_reducible repeat (first|apply Kd.S_alloc|apply Kd.S_drewN|apply Kd.S_drew));exact HO299.out) hb);have n7_:=Aside0.mk (Kd.R_below (by (with_reducible repeat (first|apply Kd.R_alloc|apply Kd.R_drewN|apply Kd.R_drew));exact HO302.out) hb);have n8_:=Aside0.mk (Kd.R_below (by (with_reducible repeat (first|apply Kd.R_alloc|apply Kd.R_drewN|apply Kd.R_drew));exact HO305.out) hb);have n9_:=Aside0.mk (Kd.R_below (by (with_reducible repeat (first|apply Kd.R_alloc|apply Kd.R_drewN|apply Kd.R_drew));exact HO308.out) hb);have n10_:=Aside0.mk (blk_below (g:=gb276) (o:=.cells #[.slice A0_0 l0_0.length c0_0,.slice A0_1 l0_1.length c0_1,.slice A0_2 l0_2.length c0_2,.slice A0_3 l0_3.length c0_3] 26 (0,0)) (by (with_reducible repeat first|apply blk_drewN|apply blk_drew|apply blk_alloc);exact BK276.out) hb);have n11_:=Aside0.mk (below_step (by repeat (first|(with_reducible first|exact HB.out|apply below_alloc|apply pw_below_drewN|apply below_drew1|refine below_set ?_ GE276.out)|exact HB.out)) hb);have n12_:=Aside0.mk (hbox);have n13_:=Aside0.mk ((by rw [hg];exact (below_size (by repeat (first|(with_reducible first|exact HB.out|apply below_alloc|apply pw_below_drewN|apply below_drew1|refine below_set ?_ GE276.out)|exact HB.out))) : w.heap.size ≤ gb309));have n14_:=Aside0.mk ((by rw [hg];exact (below_size (by repeat (first|(with_reducible first|exact HB.out|apply below_alloc|apply pw_below_drewN|apply below_drew1|refine below_set ?_ GE276.out)|exact HB.out))) : w.heap.size ≤ gb309));have n15_:=Aside0.mk ((by rw [hg];exact Nat.ne_of_lt (blk_lt (g:=gb276) (o:=.cells #[.slice A0_0 l0_0.length c0_0,.slice A0_1 l0_1.length c0_1,.slice A0_2 l0_2.length c0_2,.slice A0_3 l0_3.length c0_3] 26 (0,0)) (by (with_reducible repeat first|apply blk_drewN|apply blk_drew|apply blk_alloc);exact BK276.out)) : gb276 ≠ gb309));have n16_:=Aside0.mk ((by rw [hg];exact Nat.ne_of_gt (blk_lt (g:=gb276) (o:=.cells #[.slice A0_0 l0_0.length c0_0,.slice A0_1 l0_1.length c0_1,.slice A0_2 l0_2.length c0_2,.slice A0_3 l0_3.length c0_3] 26 (0,0)) (by (with_reducible repeat first|apply blk_drewN|apply blk_drew|apply blk_alloc);exact BK276.out)) : gb309 ≠ gb276));clear HO280;clear HO283;clear HO286;clear HO289;clear HO292;clear HO295;clear HO299;clear HO302;clear HO305;clear HO308;clear BK276;clear HB;have HO280:=n0_;have HO283:=n1_;have HO286:=n2_;have HO289:=n3_;have HO292:=n4_;have HO295:=n5_;have HO299:=n6_;have HO302:=n7_;have HO305:=n8_;have HO308:=n9_;have BK276:=n10_;have HB:=n11_;have BK309:=n12_;have GW309:=n13_;have GE309:=n14_;have NB276_309:=n15_;have NB309_276:=n16_;clear n0_ n1_ n2_ n3_ n4_ n5_ n6_ n7_ n8_ n9_ n10_ n11_ n12_ n13_ n14_ n15_ n16_;clear hb hbox hg;obtain ⟨Ao26,co26,eo26⟩:=Kd.S_slice HO299.out;subst eo26;have hnb27:=NB309_276.out;have hnc27:=NB276_309.out;have hcz28_0 : w25.cell? ⟨gb309,0,none⟩ = some (.slice none 0 0):=(blk_cell BK309.out 0).trans rfl;have hcz28_1 : w25.cell? ⟨gb309,1,none⟩ = some (.slice none 0 0):=(blk_cell BK309.out 1).trans rfl;have hcz28_2 : w25.cell? ⟨gb309,2,none⟩ = some (.slice none 0 0):=(blk_cell BK309.out 2).trans rfl;have hcz28_3 : w25.cell? ⟨gb309,3,none⟩ = some (.slice none 0 0):=(blk_cell BK309.out 3).trans rfl;have hfz28_0:=blk_frozen BK309.out 0;have hfz28_1:=blk_frozen BK309.out 1;have hfz28_2:=blk_frozen BK309.out 2;have hfz28_3:=blk_frozen BK309.out 3;obtain ⟨Ao29,co29,eo29⟩:=Kd.R_slice HO302.out;subst eo29;obtain ⟨Ao30,co30,eo30⟩:=Kd.R_slice HO305.out;subst eo30;obtain ⟨Ao31,co31,eo31⟩:=Kd.R_slice HO308.out;subst eo31)|((with_reducible refine gate_callee (f:=15) rfl ?_);refine goesL_ (some 37) rfl rfl Try.func15 (by kernel_rfl) rfl #[.agg #[.slice Ao26 t297.length co26,.slice Ao29 t300.length co29,.slice Ao30 t303.length co30,.slice Ao31 t306.length co31],.int .i64 a1] rfl (by (try simp only [List.map_toArray,List.map_cons,List.map_nil]);first|done|rfl|(simp only [List.length_drop,List.length_take];rfl)) ?_;(with_reducible refine (impl_RecordAt.calls k _ _ t297 _ _ t300 _ _ t303 _ _ t306 a1 t310 t313 t316 _ ?side1 ?side2 ?side3 ?side4 ?side5 ?side6 ?side7 ?side8 A11.out).mono ?_);(case side1=>refine (Kd.S_reads' (e:=23) (base:=w.heap.size) (ok:=fun k_=>((((some k_ ≠ (.slice Ao29 t300.length co29 : Value).ownBlock∧w22.heap.size ≤ k_)∧some k_ ≠ (.slice Ao18 t278.length co18 : Value).ownBlock)∧some k_ ≠ (.slice Ao19 t281.length co19 : Value).ownBlock)∧some k_ ≠ (v291 : Value).ownBlock)) (n:=t297.length) (c:=co26) ?_).2.2;exact (by (with_reducible repeat (first|apply Kd.S_alloc|apply Kd.S_drewN|apply Kd.S_drew));exact (Kd.S_mono (Kd.S_far (p:=⟨gb309,3,none⟩) (Kd.S_far (p:=⟨gb309,2,none⟩) (Kd.S_far (p:=⟨gb309,1,none⟩) (Kd.S_far (p:=⟨gb309,0,none⟩) (Kd.S_types HO299.out BK309.out (by decide)) (fun _ hk=>hk.2) (.slice Ao26 t297.length co26)) (fun _ hk=>hk.2) (.slice Ao29 t300.length co29)) (fun _ hk=>hk.2) (.slice Ao30 t303.length co30)) (fun _ hk=>hk.2) (.slice Ao31 t306.length co31)) (fun _ h_=>h_.1))));(case side2=>exact (Kd.S_reads' HO299.out).2.1);(case side3=>refine (Kd.R_reads' (e:=5) (base:=w.heap.size) (ok:=fun k_=>((True∧some k_ ≠ (.slice Ao19 t281.length co19 : Value).ownBlock)∧some k_ ≠ (v291 : Value).ownBlock)) (n:=t300.length) (c:=co29) ?_).2.2;exact (by (with_reducible repeat (first|apply Kd.R_alloc|apply Kd.R_drewN|apply Kd.R_drew));exact (Kd.R_mono (Kd.R_far (p:=⟨gb309,3,none⟩) (Kd.R_far (p:=⟨gb309,2,none⟩) (Kd.R_far (p:=⟨gb309,1,none⟩) (Kd.R_far (p:=⟨gb309,0,none⟩) (Kd.R_types HO302.out BK309.out (by decide)) (fun _ hk=>hk.2) (.slice Ao26 t297.length co26)) (fun _ hk=>hk.2) (.slice Ao29 t300.length co29)) (fun _ hk=>hk.2) (.slice Ao30 t303.length co30)) (fun _ hk=>hk.2) (.slice Ao31 t306.length co31)) (fun _ h_=>h_.1))));(case side4=>exact (Kd.R_reads' HO302.out).2.1);(case side5=>refine (Kd.R_reads' (e:=3) (base:=w.heap.size) (ok:=fun k_=>(((some k_ ≠ (.slice Ao31 t306.length co31 : Value).ownBlock∧some k_ ≠ (.slice Ao20 t284.length co20 : Value).ownBlock)∧some k_ ≠ (.slice Ao21 t287.length co21 : Value).ownBlock)∧some k_ ≠ (v294 : Value).ownBlock)) (n:=t303.length) (c:=co30) ?_).2.2;exact (by (with_reducible repeat (first|apply Kd.R_alloc|apply Kd.R_drewN|apply Kd.R_drew));exact (Kd.R_mono (Kd.R_far (p:=⟨gb309,3,none⟩) (Kd.R_far (p:=⟨gb309,2,none⟩) (Kd.R_far (p:=⟨gb309,1,none⟩) (Kd.R_far (p:=⟨gb309,0,none⟩) (Kd.R_types HO305.out BK309.out (by decide)) (fun _ hk=>hk.2) (.slice Ao26 t297.length co26)) (fun _ hk=>hk.2) (.slice Ao29 t300.length co29)) (fun _ hk=>hk.2) (.slice Ao30 t303.length co30)) (fun _ hk=>hk.2) (.slice Ao31 t306.length co31)) (fun _ h_=>h_.1))));(case side6=>exact (Kd.R_reads' HO305.out).2.1);(case side7=>refine (Kd.R_reads' (e:=3) (base:=w.heap.size) (ok:=fun k_=>(((some k_ ≠ (.slice Ao30 t303.length co30 : Value).ownBlock∧some k_ ≠ (.slice Ao20 t284.length co20 : Value).ownBlock)∧some k_ ≠ (.slice Ao21 t287.length co21 : Value).ownBlock)∧some k_ ≠ (v294 : Value).ownBlock)) (n:=t306.length) (c:=co31) ?_).2.2;exact (by (with_reducible repeat (first|apply Kd.R_alloc|apply Kd.R_drewN|apply Kd.R_drew));exact (Kd.R_mono (Kd.R_far (p:=⟨gb309,3,none⟩) (Kd.R_far (p:=⟨gb309,2,none⟩) (Kd.R_far (p:=⟨gb309,1,none⟩) (Kd.R_far (p:=⟨gb309,0,none⟩) (Kd.R_types HO308.out BK309.out (by decide)) (fun _ hk=>hk.2) (.slice Ao26 t297.length co26)) (fun _ hk=>hk.2) (.slice Ao29 t300.length co29)) (fun _ hk=>hk.2) (.slice Ao30 t303.length co30)) (fun _ hk=>hk.2) (.slice Ao31 t306.length co31)) (fun _ h_=>h_.1))));(case side8=>exact (Kd.R_reads' HO308.out).2.1);rintro e w32 ⟨v311,v314,rfl,ho0,ho1,hb⟩;refine ⟨_,rfl,?_⟩;have n0_:=Aside0.mk (Kd.S_elder' (by (with_reducible repeat (first|apply Kd.S_alloc|apply Kd.S_drewN|apply Kd.S_drew));exact (Kd.S_mono (Kd.S_far (p:=⟨gb309,3,none⟩) (Kd.S_far (p:=⟨gb309,2,none⟩) (Kd.S_far (p:=⟨gb309,1,none⟩) (Kd.S_far (p:=⟨gb309,0,none⟩) (Kd.S_types HO280.out BK309.out (by decide)) (fun _ hk=>hk.2) (.slice Ao26 t297.length co26)) (fun _ hk=>hk.2) (.slice Ao29 t300.length co29)) (fun _ hk=>hk.2) (.slice Ao30 t303.length co30)) (fun _ hk=>hk.2) (.slice Ao31 t306.length co31)) (fun _ h_=>h_.1))) (Kd.R_base ho0) hb);have n1_:=Aside0.mk (Kd.R_elder' (by (with_reducible repeat (first|apply Kd.R_alloc|apply Kd.R_drewN|apply Kd.R_drew));exact (Kd.R_mono (Kd.R_far (p:=⟨gb309,3,none⟩) (Kd.R_far (p:=⟨gb309,2,none⟩) (Kd.R_far (p:=⟨gb309,1,none⟩) (Kd.R_far (p:=⟨gb309,0,none⟩) (Kd.R_types HO283.out BK309.out (by decide)) (fun _ hk=>hk.2) (.slice Ao26 t297.length co26)) (fun _ hk=>hk.2) (.slice Ao29 t300.length co29)) (fun _ hk=>hk.2) (.slice Ao30 t303.length co30)) (fun _ hk=>hk.2) (.slice Ao31 t306.length co31)) (fun _ h_=>h_.1))) (Kd.R_base ho0) hb);have n2_:=Aside0.mk (Kd.R_elder' (by (with_reducible repeat (first|apply Kd.R_alloc|apply Kd.R_drewN|apply Kd.R_drew));exact (Kd.R_mono (Kd.R_far (p:=⟨gb309,3,none⟩) (Kd.R_far (p:=⟨gb309,2,none⟩) (Kd.R_far (p:=⟨gb309,1,none⟩) (Kd.R_far (p:=⟨gb309,0,none⟩) (Kd.R_types HO286.out BK309.out (by decide)) (fun _ hk=>hk.2) (.slice Ao26 t297.length co26)) (fun _ hk=>hk.2) (.slice Ao29 t300.length co29)) (fun _ hk=>hk.2) (.slice Ao30 t303.length co30)) (fun _ hk=>hk.2) (.slice Ao31 t306.length co31)) (fun _ h_=>h_.1))) (Kd.R_base ho1) hb);have n3_:=Aside0.mk (Kd.R_elder' (by (with_reducible repeat (first|apply Kd.R_alloc|apply Kd.R_drewN|apply Kd.R_drew));exact (Kd.R_mono (Kd.R_far (p:=⟨gb309,3,none⟩) (Kd.R_far (p:=⟨gb309,2,none⟩) (Kd.R_far (p:=⟨gb309,1,none⟩) (Kd.R_far (p:=⟨gb309,0,none⟩) (Kd.R_types HO289.out BK309.out (by decide)) (fun _ hk=>hk.2) (.slice Ao26 t297.length co26)) (fun _ hk=>hk.2) (.slice Ao29 t300.length co29)) (fun _ hk=>hk.2) (.slice Ao30 t303.length co30)) (fun _ hk=>hk.2) (.slice Ao31 t306.length co31)) (fun _ h_=>h_.1))) (Kd.R_base ho1) hb);have n4_:=Aside0.mk (Kd.R_elder' (by (with_reducible repeat (first|apply Kd.R_alloc|apply Kd.R_drewN|apply Kd.R_drew));exact (Kd.R_mono (Kd.R_far (p:=⟨gb309,3,none⟩) (Kd.R_far (p:=⟨gb309,2,none⟩) (Kd.R_far (p:=⟨gb309,1,none⟩) (Kd.R_far (p:=⟨gb309,0,none⟩) (Kd.R_types HO292.out BK309.out (by decide)) (fun _ hk=>hk.2) (.slice Ao26 t297.length co26)) (fun _ hk=>hk.2) (.slice Ao29 t300.length co29)) (fun _ hk=>hk.2) (.slice Ao30 t303.length co30)) (fun _ hk=>hk.2) (.slice Ao31 t306.length co31)) (fun _ h_=>h_.1))) (Kd.R_base ho0) hb);have n5_:=Aside0.mk (Kd.R_elder' (by (with_reducible repeat (first|apply Kd.R_alloc|apply Kd.R_drewN|apply Kd.R_drew));exact (Kd.R_mono (Kd.R_far (p:=⟨gb309,3,none⟩) (Kd.R_far (p:=⟨gb309,2,none⟩) (Kd.R_far (p:=⟨gb309,1,none⟩) (Kd.R_far (p:=⟨gb309,0,none⟩) (Kd.R_types HO295.out BK309.out (by decide)) (fun _ hk=>hk.2) (.slice Ao26 t297.length co26)) (fun _ hk=>hk.2) (.slice Ao29 t300.length co29)) (fun _ hk=>hk.2) (.slice Ao30 t303.length co30)) (fun _ hk=>hk.2) (.slice Ao31 t306.length co31)) (fun _ h_=>h_.1))) (Kd.R_base ho1) hb);have n6_:=Aside0.mk (Kd.S_elder' (by (with_reducible repeat (first|apply Kd.S_alloc|apply Kd.S_drewN|apply Kd.S_drew));exact (Kd.S_mono (Kd.S_far (p:=⟨gb309,3,none⟩) (Kd.S_far (p:=⟨gb309,2,none⟩) (Kd.S_far (p:=⟨gb309,1,none⟩) (Kd.S_far (p:=⟨gb309,0,none⟩) (Kd.S_types HO299.out BK309.out (by decide)) (fun _ hk=>hk.2) (.slice Ao26 t297.length co26)) (fun _ hk=>hk.2) (.slice Ao29 t300.length co29)) (fun _ hk=>hk.2) (.slice Ao30 t303.length co30)) (fun _ hk=>hk.2) (.slice Ao31 t306.length co31)) (fun _ h_=>h_.1))) (Kd.R_base ho0) hb);have n7_:=Aside0.mk (Kd.R_elder' (by (with_reducible repeat (first|apply Kd.R_alloc|apply Kd.R_drewN|apply Kd.R_drew));exact (Kd.R_mono (Kd.R_far (p:=⟨gb309,3,none⟩) (Kd.R_far (p:=⟨gb309,2,none⟩) (Kd.R_far (p:=⟨gb309,1,none⟩) (Kd.R_far (p:=⟨gb309,0,none⟩) (Kd.R_types HO302.out BK309.out (by decide)) (fun _ hk=>hk.2) (.slice Ao26 t297.length co26)) (fun _ hk=>hk.2) (.slice Ao29 t300.length co29)) (fun _ hk=>hk.2) (.slice Ao30 t303.length co30)) (fun _ hk=>hk.2) (.slice Ao31 t306.length co31)) (fun _ h_=>h_.1))) (Kd.R_base ho0) hb);have n8_:=Aside0.mk (Kd.R_elder' (by (with_reducible repeat (first|apply Kd.R_alloc|apply Kd.R_drewN|apply Kd.R_drew));exact (Kd.R_mono (Kd.R_far (p:=⟨gb309,3,none⟩) (Kd.R_far (p:=⟨gb309,2,none⟩) (Kd.R_far (p:=⟨gb309,1,none⟩) (Kd.R_far (p:=⟨gb309,0,none⟩) (Kd.R_types HO305.out BK309.out (by decide)) (fun _ hk=>hk.2) (.slice Ao26 t297.length co26)) (fun _ hk=>hk.2) (.slice Ao29 t300.length co29)) (fun _ hk=>hk.2) (.slice Ao30 t303.length co30)) (fun _ hk=>hk.2) (.slice Ao31 t306.length co31)) (fun _ h_=>h_.1))) (Kd.R_base ho1) hb);have n9_:=Aside0.mk (Kd.R_elder' (by (with_reducible repeat (first|apply Kd.R_alloc|apply Kd.R_drewN|apply Kd.R_drew));exact (Kd.R_mono (Kd.R_far (p:=⟨gb309,3,none⟩) (Kd.R_far (p:=⟨gb309,2,none⟩) (Kd.R_far (p:=⟨gb309,1,none⟩) (Kd.R_far (p:=⟨gb309,0,none⟩) (Kd.R_types HO308.out BK309.out (by decide)) (fun _ hk=>hk.2) (.slice Ao26 t297.length co26)) (fun _ hk=>hk.2) (.slice Ao29 t300.length co29)) (fun _ hk=>hk.2) (.slice Ao30 t303.length co30)) (fun _ hk=>hk.2) (.slice Ao31 t306.length co31)) (fun _ h_=>h_.1))) (Kd.R_base ho1) hb);have n10_:=Aside0.mk (Kd.R_lower (Kd.R_new' (Kd.R_new' (Kd.R_new' ho0 (Kd.R_lt (by (with_reducible repeat (first|apply Kd.R_alloc|apply Kd.R_drewN|apply Kd.R_drew));exact (Kd.R_mono (Kd.R_far (p:=⟨gb309,3,none⟩) (Kd.R_far (p:=⟨gb309,2,none⟩) (Kd.R_far (p:=⟨gb309,1,none⟩) (Kd.R_far (p:=⟨gb309,0,none⟩) (Kd.R_types HO283.out BK309.out (by decide)) (fun _ hk=>hk.2) (.slice Ao26 t297.length co26)) (fun _ hk=>hk.2) (.slice Ao29 t300.length co29)) (fun _ hk=>hk.2) (.slice Ao30 t303.length co30)) (fun _ hk=>hk.2) (.slice Ao31 t306.length co31)) (fun _ h_=>h_.1))))) (Kd.R_lt (by (with_reducible repeat (first|apply Kd.R_alloc|apply Kd.R_drewN|apply Kd.R_drew));exact (Kd.R_mono (Kd.R_far (p:=⟨gb309,3,none⟩) (Kd.R_far (p:=⟨gb309,2,none⟩) (Kd.R_far (p:=⟨gb309,1,none⟩) (Kd.R_far (p:=⟨gb309,0,none⟩) (Kd.R_types HO292.out BK309.out (by decide)) (fun _ hk=>hk.2) (.slice Ao26 t297.length co26)) (fun _ hk=>hk.2) (.slice Ao29 t300.length co29)) (fun _ hk=>hk.2) (.slice Ao30 t303.length co30)) (fun _ hk=>hk.2) (.slice Ao31 t306.length co31)) (fun _ h_=>h_.1))))) (Kd.R_lt (by (with_reducible repeat (first|apply Kd.R_alloc|apply Kd.R_drewN|apply Kd.R_drew));exact (Kd.R_mono (Kd.R_far (p:=⟨gb309,3,none⟩) (Kd.R_far (p:=⟨gb309,2,none⟩) (Kd.R_far (p:=⟨gb309,1,none⟩) (Kd.R_far (p:=⟨gb309,0,none⟩) (Kd.R_types HO302.out BK309.out (by decide)) (fun _ hk=>hk.2) (.slice Ao26 t297.length co26)) (fun _ hk=>hk.2) (.slice Ao29 t300.length co29)) (fun _ hk=>hk.2) (.slice Ao30 t303.length co30)) (fun _ hk=>hk.2) (.slice Ao31 t306.length co31)) (fun _ h_=>h_.1))))) (below_size (by repeat (first|(with_reducible first|exact HB.out|apply below_alloc|apply pw_below_drewN|apply below_drew1|refine below_set ?_ GE276.out|refine below_set ?_ GE309.out)|exact HB.out))));have n11_:=Aside0.mk (Kd.R_lower (Kd.R_new' (Kd.R_new' (Kd.R_new' (Kd.R_new' (Kd.R_new' ho1 (Kd.R_lt (by (with_reducible repeat (first|apply Kd.R_alloc|apply Kd.R_drewN|apply Kd.R_drew));exact (Kd.R_mono (Kd.R_far (p:=⟨gb309,3,none⟩) (Kd.R_far (p:=⟨gb309,2,none⟩) (Kd.R_far (p:=⟨gb309,1,none⟩) (Kd.R_far (p:=⟨gb309,0,none⟩) (Kd.R_types HO286.out BK309.out (by decide)) (fun _ hk=>hk.2) (.slice Ao26 t297.length co26)) (fun _ hk=>hk.2) (.slice Ao29 t300.length co29)) (fun _ hk=>hk.2) (.slice Ao30 t303.length co30)) (fun _ hk=>hk.2) (.slice Ao31 t306.length co31)) (fun _ h_=>h_.1))))) (Kd.R_lt (by (with_reducible repeat (first|apply Kd.R_alloc|apply Kd.R_drewN|apply Kd.R_drew));exact (Kd.R_mono (Kd.R_far (p:=⟨gb309,3,none⟩) (Kd.R_far (p:=⟨gb309,2,none⟩) (Kd.R_far (p:=⟨gb309,1,none⟩) (Kd.R_far (p:=⟨gb309,0,none⟩) (Kd.R_types HO289.out BK309.out (by decide)) (fun _ hk=>hk.2) (.slice Ao26 t297.length co26)) (fun _ hk=>hk.2) (.slice Ao29 t300.length co29)) (fun _ hk=>hk.2) (.slice Ao30 t303.length co30)) (fun _ hk=>hk.2) (.slice Ao31 t306.length co31)) (fun _ h_=>h_.1))))) (Kd.R_lt (by (with_reducible repeat (first|apply Kd.R_alloc|apply Kd.R_drewN|apply Kd.R_drew));exact (Kd.R_mono (Kd.R_far (p:=⟨gb309,3,none⟩) (Kd.R_far (p:=⟨gb309,2,none⟩) (Kd.R_far (p:=⟨gb309,1,none⟩) (Kd.R_far (p:=⟨gb309,0,none⟩) (Kd.R_types HO295.out BK309.out (by decide)) (fun _ hk=>hk.2) (.slice Ao26 t297.length co26)) (fun _ hk=>hk.2) (.slice Ao29 t300.length co29)) (fun _ hk=>hk.2) (.slice Ao30 t303.length co30)) (fun _ hk=>hk.2) (.slice Ao31 t306.length co31)) (fun _ h_=>h_.1))))) (Kd.R_lt (by (with_reducible repeat (first|apply Kd.R_alloc|apply Kd.R_drewN|apply Kd.R_drew));exact (Kd.R_mono (Kd.R_far (p:=⟨gb309,3,none⟩) (Kd.R_far (p:=⟨gb309,2,none⟩) (Kd.R_far (p:=⟨gb309,1,none⟩) (Kd.R_far (p:=⟨gb309,0,none⟩) (Kd.R_types HO305.out BK309.out (by decide)) (fun _ hk=>hk.2) (.slice Ao26 t297.length co26)) (fun _ hk=>hk.2) (.slice Ao29 t300.length co29)) (fun _ hk=>hk.2) (.slice Ao30 t303.length co30)) (fun _ hk=>hk.2) (.slice Ao31 t306.length co31)) (fun _ h_=>h_.1))))) (Kd.R_lt (by (with_reducible repeat (first|apply Kd.R_alloc|apply Kd.R_drewN|apply Kd.R_drew));exact (Kd.R_mono (Kd.R_far (p:=⟨gb309,3,none⟩) (Kd.R_far (p:=⟨gb309,2,none⟩) (Kd.R_far (p:=⟨gb309,1,none⟩) (Kd.R_far (p:=⟨gb309,0,none⟩) (Kd.R_types HO308.out BK309.out (by decide)) (fun _ hk=>hk.2) (.slice Ao26 t297.length co26)) (fun _ hk=>hk.2) (.slice Ao29 t300.length co29)) (fun _ hk=>hk.2) (.slice Ao30 t303.length co30)) (fun _ hk=>hk.2) (.slice Ao31 t306.length co31)) (fun _ h_=>h_.1))))) (below_size (by repeat (first|(with_reducible first|exact HB.out|apply below_alloc|apply pw_below_drewN|apply below_drew1|refine below_set ?_ GE276.out|refine below_set ?_ GE309.out)|exact HB.out))));have n12_:=Aside0.mk (blk_below (g:=gb276) (o:=.cells #[.slice A0_0 l0_0.length c0_0,.slice A0_1 l0_1.length c0_1,.slice A0_2 l0_2.length c0_2,.slice A0_3 l0_3.length c0_3] 26 (0,0)) (by (with_reducible repeat first|apply blk_drewN|apply blk_drew|apply blk_alloc);refine blk_far ?_ NB276_309.out _;(with_reducible repeat first|apply blk_drewN|apply blk_drew|apply blk_alloc);refine blk_far ?_ NB276_309.out _;(with_reducible repeat first|apply blk_drewN|apply blk_drew|apply blk_alloc);refine blk_far ?_ NB276_309.out _;(with_reducible repeat first|apply blk_drewN|apply blk_drew|apply blk_alloc);refine blk_far ?_ NB276_309.out _;(with_reducible repeat first|apply blk_drewN|apply blk_drew|apply blk_alloc);exact BK276.out) hb);have n13_:=Aside0.mk (blk_below (g:=gb309) (o:=.cells #[.slice Ao26 t297.length co26,.slice Ao29 t300.length co29,.slice Ao30 t303.length co30,.slice Ao31 t306.length co31] 28 (0,0)) (by (with_reducible repeat first|apply blk_drewN|apply blk_drew|apply blk_alloc);refine blk_put (cs:=#[.slice Ao26 t297.length co26,.slice Ao29 t300.length co29,.slice Ao30 t303.length co30,.slice none 0 0]) ?_ 3 _ rfl;(with_reducible repeat first|apply blk_drewN|apply blk_drew|apply blk_alloc);refine blk_put (cs:=#[.slice Ao26 t297.length co26,.slice Ao29 t300.length co29,.slice none 0 0,.slice none 0 0]) ?_ 2 _ rfl;(with_reducible repeat first|apply blk_drewN|apply blk_drew|apply blk_alloc);refine blk_put (cs:=#[.slice Ao26 t297.length co26,.slice none 0 0,.slice none 0 0,.slice none 0 0]) ?_ 1 _ rfl;(with_reducible repeat first|apply blk_drewN|apply blk_drew|apply blk_alloc);refine blk_put (cs:=#[.slice none 0 0,.slice none 0 0,.slice none 0 0,.slice none 0 0]) ?_ 0 _ rfl;(with_reducible repeat first|apply blk_drewN|apply blk_drew|apply blk_alloc);exact BK309.out) hb);have n14_:=Aside0.mk (below_step (by repeat (first|(with_reducible first|exact HB.out|apply below_alloc|apply pw_below_drewN|apply below_drew1|refine below_set ?_ GE276.out|refine below_set ?_ GE309.out)|exact HB.out)) hb);clear HO280;clear HO283;clear HO286;clear HO289;clear HO292;clear HO295;clear HO299;clear HO302;clear HO305;clear HO308;clear BK276;clear BK309;clear HB;have HO280:=n0_;have HO283:=n1_;have HO286:=n2_;have HO289:=n3_;have HO292:=n4_;have HO295:=n5_;have HO299:=n6_;have HO302:=n7_;have HO305:=n8_;have HO308:=n9_;have HO312:=n10_;have HO315:=n11_;have BK276:=n12_;have BK309:=n13_;have HB:=n14_;clear n0_ n1_ n2_ n3_ n4_ n5_ n6_ n7_ n8_ n9_ n10_ n11_ n12_ n13_ n14_;(try clear hb);(try clear hb2);(try clear hk);(try clear hi);(try clear ho0);(try clear ho1)))
  (try simp only [Act.put,List.setIfInBounds_toArray,List.set_cons_zero,List.set_cons_succ])
  go_cut [55] (fun v55 wc=>∃ (kq : Nat) (x55_11 : Bool),v55 = .bool x55_11∧Aside0 (laws_FnExactRecordAt.j0 kq a1 t290 t293 t296 t310 t313 t316 x55_11 l0_0 l0_1 l0_2 l0_3 t297 t300 t303 t306 = some r)∧Aside0 (kq ≤ k)∧Aside0 (Kd.R (Kd.int .u8) 5 wc w.heap.size (fun k_=>some k_ ≠ (v311 : Value).ownBlock∧some k_ ≠ ((.slice Ao29 t300.length co29) : Value).ownBlock) v291 t290)∧Aside0 (Kd.R (Kd.int .i64) 3 wc w.heap.size (fun k_=>some k_ ≠ (v314 : Value).ownBlock∧some k_ ≠ ((.slice Ao30 t303.length co30) : Value).ownBlock∧some k_ ≠ ((.slice Ao31 t306.length co31) : Value).ownBlock) v294 t293)∧Aside0 (Kd.R (Kd.int .u8) 5 wc w.heap.size (fun k_=>some k_ ≠ (v291 : Value).ownBlock∧some k_ ≠ ((.slice Ao29 t300.length co29) : Value).ownBlock) v311 t310)∧Aside0 (Kd.R (Kd.int .i64) 3 wc w.heap.size (fun k_=>some k_ ≠ (v294 : Value).ownBlock∧some k_ ≠ ((.slice Ao30 t303.length co30) : Value).ownBlock∧some k_ ≠ ((.slice Ao31 t306.length co31) : Value).ownBlock) v314 t313)∧Aside0 (Kd.S (Kd.slice 5 (Kd.int .u8)) 23 wc w.heap.size (fun k_=>some k_ ≠ (v291 : Value).ownBlock∧some k_ ≠ (v311 : Value).ownBlock∧some k_ ≠ ((.slice Ao29 t300.length co29) : Value).ownBlock∧w22.heap.size ≤ k_) (.slice Ao26 t297.length co26) t297)∧Aside0 (Kd.R (Kd.int .u8) 5 wc w.heap.size (fun k_=>some k_ ≠ (v291 : Value).ownBlock∧some k_ ≠ (v311 : Value).ownBlock) (.slice Ao29 t300.length co29) t300)∧Aside0 (Kd.R (Kd.int .i64) 3 wc w.heap.size (fun k_=>some k_ ≠ (v294 : Value).ownBlock∧some k_ ≠ (v314 : Value).ownBlock∧some k_ ≠ ((.slice Ao31 t306.length co31) : Value).ownBlock) (.slice Ao30 t303.length co30) t303)∧Aside0 (Kd.R (Kd.int .i64) 3 wc w.heap.size (fun k_=>some k_ ≠ (v294 : Value).ownBlock∧some k_ ≠ (v314 : Value).ownBlock∧some k_ ≠ ((.slice Ao30 t303.length co30) : Value).ownBlock) (.slice Ao31 t306.length co31) t306)∧Aside0 (wc.heap[gb276]? = some (.cells #[(.slice A0_0 l0_0.length c0_0),(.slice A0_1 l0_1.length c0_1),(.slice A0_2 l0_2.length c0_2),(.slice A0_3 l0_3.length c0_3)] 26 (0,0)))∧Aside0 (wc.heap[gb309]? = some (.cells #[(.slice Ao26 t297.length co26),(.slice Ao29 t300.length co29),(.slice Ao30 t303.length co30),(.slice Ao31 t306.length co31)] 28 (0,0)))∧Aside0 (Below w.heap.size w wc))
  case first =>
   have H:=HC12.out
   clear HC12
   replace H:=Option.bind_eq_some_iff.mp H
   obtain ⟨t317,A330,H⟩:=H
   have A33:=Aside0.mk A330
   clear A330
   by_cases c34 : t317 = true
   ·subst c34
    rw [if_pos rfl] at H
    replace H:=Option.bind_eq_some_iff.mp H
    obtain ⟨t318,A350,H⟩:=H
    have A35:=Aside0.mk A350
    clear A350
    by_cases c36 : t318 = true
    ·subst c36
     rw [if_pos rfl] at H
     have H':=Aside0.mk H
     clear H
     obtain ⟨Ao37,co37,eo37⟩:=Kd.R_slice HO312.out
     subst eo37
     obtain ⟨Ao38,co38,eo38⟩:=Kd.R_slice HO292.out
     subst eo38
     go_wp2_with (first|((with_reducible refine gate_callee (f:=16) rfl ?_);refine goesL_ (some 43) rfl rfl Try.func16 (by kernel_rfl) rfl #[.slice Ao37 t310.length co37,.slice Ao38 t290.length co38] rfl (by (try simp only [List.map_toArray,List.map_cons,List.map_nil]);first|done|rfl|(simp only [List.length_drop,List.length_take];rfl)) ?_;(with_reducible refine (laws_eqByteS.calls k _ _ t310 _ _ t290 true _ ?side1 ?side2 ?side3 ?side4 A33.out).mono ?_);(case side1=>repeat (first|exact (Kd.R_reads' HO312.out).2.2|(with_reducible first|apply Kd.C_alloc|apply Kd.C_drewN|apply Kd.C_drew)));(case side2=>exact (Kd.R_reads' HO312.out).2.1);(case side3=>repeat (first|exact (Kd.R_reads' HO292.out).2.2|(with_reducible first|apply Kd.C_alloc|apply Kd.C_drewN|apply Kd.C_drew)));(case side4=>exact (Kd.R_reads' HO292.out).2.1);rintro e w' ⟨rfl,⟨nd,rfl⟩⟩;refine ⟨_,rfl,?_⟩;obtain ⟨Ao39,co39,eo39⟩:=Kd.R_slice HO315.out;subst eo39;obtain ⟨Ao40,co40,eo40⟩:=Kd.R_slice HO295.out;subst eo40)|(go_at_call 17;(with_reducible refine (laws_eqIntS.calls k _ _ t313 _ _ t293 true _ ?side1 ?side2 ?side3 ?side4 A35.out).mono ?_);(case side1=>repeat (first|exact (Kd.R_reads' HO315.out).2.2|(with_reducible first|apply Kd.C_alloc|apply Kd.C_drewN|apply Kd.C_drew)));(case side2=>exact (Kd.R_reads' HO315.out).2.1);(case side3=>repeat (first|exact (Kd.R_reads' HO295.out).2.2|(with_reducible first|apply Kd.C_alloc|apply Kd.C_drewN|apply Kd.C_drew)));(case side4=>exact (Kd.R_reads' HO295.out).2.1);rintro e w' ⟨rfl,⟨nd,rfl⟩⟩))
     go_meet
     case rel=>exact ⟨_,((t316 != t296)),(by first|rfl|(simp;done)|(simp [*];done)),H',⟨by first|omega|exact Nat.le_refl _⟩,⟨by (with_reducible repeat (first|apply Kd.R_alloc|apply Kd.R_drewN|apply Kd.R_drew));exact Kd.R_mono HO292.out (fun _ hk=>⟨hk.2,hk.1.2⟩)⟩,⟨by (with_reducible repeat (first|apply Kd.R_alloc|apply Kd.R_drewN|apply Kd.R_drew));exact Kd.R_mono HO295.out (fun _ hk=>⟨hk.2,⟨hk.1.1.2,hk.1.2⟩⟩)⟩,⟨by (with_reducible repeat (first|apply Kd.R_alloc|apply Kd.R_drewN|apply Kd.R_drew));exact Kd.R_mono HO312.out (fun _ hk=>⟨hk.1.2,hk.2⟩)⟩,⟨by (with_reducible repeat (first|apply Kd.R_alloc|apply Kd.R_drewN|apply Kd.R_drew));exact Kd.R_mono HO315.out (fun _ hk=>⟨hk.1.1.2,⟨hk.1.2,hk.2⟩⟩)⟩,⟨by (with_reducible repeat (first|apply Kd.S_alloc|apply Kd.S_drewN|apply Kd.S_drew));exact Kd.S_mono HO299.out (fun _ hk=>⟨hk.1.2,⟨hk.2,⟨hk.1.1.1.1.1,hk.1.1.1.1.2⟩⟩⟩)⟩,⟨by (with_reducible repeat (first|apply Kd.R_alloc|apply Kd.R_drewN|apply Kd.R_drew));exact Kd.R_mono HO302.out (fun _ hk=>⟨hk.1.2,hk.2⟩)⟩,⟨by (with_reducible repeat (first|apply Kd.R_alloc|apply Kd.R_drewN|apply Kd.R_drew));exact Kd.R_mono HO305.out (fun _ hk=>⟨hk.1.2,⟨hk.2,hk.1.1.1.1⟩⟩)⟩,⟨by (with_reducible repeat (first|apply Kd.R_alloc|apply Kd.R_drewN|apply Kd.R_drew));exact Kd.R_mono HO308.out (fun _ hk=>⟨hk.1.2,⟨hk.2,hk.1.1.1.1⟩⟩)⟩,⟨by (with_reducible repeat first|apply blk_drewN|apply blk_drew|apply blk_alloc);exact BK276.out⟩,⟨by (with_reducible repeat first|apply blk_drewN|apply blk_drew|apply blk_alloc);exact BK309.out⟩,⟨by repeat (first|(with_reducible first|exact HB.out|apply below_alloc|apply pw_below_drewN|apply below_drew1|refine below_set ?_ GE276.out|refine below_set ?_ GE309.out)|exact HB.out)⟩⟩
    ·replace c36:=Bool.eq_false_iff.mpr c36
     subst c36
     rw [if_neg (show ¬ (false = true) by decide)] at H
     have H':=Aside0.mk H
     clear H
     obtain ⟨Ao41,co41,eo41⟩:=Kd.R_slice HO312.out
     subst eo41
     obtain ⟨Ao42,co42,eo42⟩:=Kd.R_slice HO292.out
     subst eo42
     go_wp2_with (first|((with_reducible refine gate_callee (f:=16) rfl ?_);refine goesL_ (some 43) rfl rfl Try.func16 (by kernel_rfl) rfl #[.slice Ao41 t310.length co41,.slice Ao42 t290.length co42] rfl (by (try simp only [List.map_toArray,List.map_cons,List.map_nil]);first|done|rfl|(simp only [List.length_drop,List.length_take];rfl)) ?_;(with_reducible refine (laws_eqByteS.calls k _ _ t310 _ _ t290 true _ ?side1 ?side2 ?side3 ?side4 A33.out).mono ?_);(case side1=>repeat (first|exact (Kd.R_reads' HO312.out).2.2|(with_reducible first|apply Kd.C_alloc|apply Kd.C_drewN|apply Kd.C_drew)));(case side2=>exact (Kd.R_reads' HO312.out).2.1);(case side3=>repeat (first|exact (Kd.R_reads' HO292.out).2.2|(with_reducible first|apply Kd.C_alloc|apply Kd.C_drewN|apply Kd.C_drew)));(case side4=>exact (Kd.R_reads' HO292.out).2.1);rintro e w' ⟨rfl,⟨nd,rfl⟩⟩;refine ⟨_,rfl,?_⟩;obtain ⟨Ao43,co43,eo43⟩:=Kd.R_slice HO315.out;subst eo43;obtain ⟨Ao44,co44,eo44⟩:=Kd.R_slice HO295.out;subst eo44)|(go_at_call 17;(with_reducible refine (laws_eqIntS.calls k _ _ t313 _ _ t293 false _ ?side1 ?side2 ?side3 ?side4 A35.out).mono ?_);(case side1=>repeat (first|exact (Kd.R_reads' HO315.out).2.2|(with_reducible first|apply Kd.C_alloc|apply Kd.C_drewN|apply Kd.C_drew)));(case side2=>exact (Kd.R_reads' HO315.out).2.1);(case side3=>repeat (first|exact (Kd.R_reads' HO295.out).2.2|(with_reducible first|apply Kd.C_alloc|apply Kd.C_drewN|apply Kd.C_drew)));(case side4=>exact (Kd.R_reads' HO295.out).2.1);rintro e w' ⟨rfl,⟨nd,rfl⟩⟩))
     go_meet
     case rel=>exact ⟨_,(true),(by first|rfl|(simp;done)|(simp [*];done)),H',⟨by first|omega|exact Nat.le_refl _⟩,⟨by (with_reducible repeat (first|apply Kd.R_alloc|apply Kd.R_drewN|apply Kd.R_drew));exact Kd.R_mono HO292.out (fun _ hk=>⟨hk.2,hk.1.2⟩)⟩,⟨by (with_reducible repeat (first|apply Kd.R_alloc|apply Kd.R_drewN|apply Kd.R_drew));exact Kd.R_mono HO295.out (fun _ hk=>⟨hk.2,⟨hk.1.1.2,hk.1.2⟩⟩)⟩,⟨by (with_reducible repeat (first|apply Kd.R_alloc|apply Kd.R_drewN|apply Kd.R_drew));exact Kd.R_mono HO312.out (fun _ hk=>⟨hk.1.2,hk.2⟩)⟩,⟨by (with_reducible repeat (first|apply Kd.R_alloc|apply Kd.R_drewN|apply Kd.R_drew));exact Kd.R_mono HO315.out (fun _ hk=>⟨hk.1.1.2,⟨hk.1.2,hk.2⟩⟩)⟩,⟨by (with_reducible repeat (first|apply Kd.S_alloc|apply Kd.S_drewN|apply Kd.S_drew));exact Kd.S_mono HO299.out (fun _ hk=>⟨hk.1.2,⟨hk.2,⟨hk.1.1.1.1.1,hk.1.1.1.1.2⟩⟩⟩)⟩,⟨by (with_reducible repeat (first|apply Kd.R_alloc|apply Kd.R_drewN|apply Kd.R_drew));exact Kd.R_mono HO302.out (fun _ hk=>⟨hk.1.2,hk.2⟩)⟩,⟨by (with_reducible repeat (first|apply Kd.R_alloc|apply Kd.R_drewN|apply Kd.R_drew));exact Kd.R_mono HO305.out (fun _ hk=>⟨hk.1.2,⟨hk.2,hk.1.1.1.1⟩⟩)⟩,⟨by (with_reducible repeat (first|apply Kd.R_alloc|apply Kd.R_drewN|apply Kd.R_drew));exact Kd.R_mono HO308.out (fun _ hk=>⟨hk.1.2,⟨hk.2,hk.1.1.1.1⟩⟩)⟩,⟨by (with_reducible repeat first|apply blk_drewN|apply blk_drew|apply blk_alloc);exact BK276.out⟩,⟨by (with_reducible repeat first|apply blk_drewN|apply blk_drew|apply blk_alloc);exact BK309.out⟩,⟨by repeat (first|(with_reducible first|exact HB.out|apply below_alloc|apply pw_below_drewN|apply below_drew1|refine below_set ?_ GE276.out|refine below_set ?_ GE309.out)|exact HB.out)⟩⟩
   ·replace c34:=Bool.eq_false_iff.mpr c34
    subst c34
    rw [if_neg (show ¬ (false = true) by decide)] at H
    have H':=Aside0.mk H
    clear H
    obtain ⟨Ao45,co45,eo45⟩:=Kd.R_slice HO312.out
    subst eo45
    obtain ⟨Ao46,co46,eo46⟩:=Kd.R_slice HO292.out
    subst eo46
    go_wp2_with (first|((with_reducible refine gate_callee (f:=16) rfl ?_);refine goesL_ (some 43) rfl rfl Try.func16 (by kernel_rfl) rfl #[.slice Ao45 t310.length co45,.slice Ao46 t290.length co46] rfl (by (try simp only [List.map_toArray,List.map_cons,List.map_nil]);first|done|rfl|(simp only [List.length_drop,List.length_take];rfl)) ?_;(with_reducible refine (laws_eqByteS.calls k _ _ t310 _ _ t290 false _ ?side1 ?side2 ?side3 ?side4 A33.out).mono ?_);(case side1=>repeat (first|exact (Kd.R_reads' HO312.out).2.2|(with_reducible first|apply Kd.C_alloc|apply Kd.C_drewN|apply Kd.C_drew)));(case side2=>exact (Kd.R_reads' HO312.out).2.1);(case side3=>repeat (first|exact (Kd.R_reads' HO292.out).2.2|(with_reducible first|apply Kd.C_alloc|apply Kd.C_drewN|apply Kd.C_drew)));(case side4=>exact (Kd.R_reads' HO292.out).2.1);rintro e w' ⟨rfl,⟨nd,rfl⟩⟩;refine ⟨_,rfl,?_⟩))
    go_meet
    case rel=>exact ⟨_,(true),(by first|rfl|(simp;done)|(simp [*];done)),H',⟨by first|omega|exact Nat.le_refl _⟩,⟨by (with_reducible repeat (first|apply Kd.R_alloc|apply Kd.R_drewN|apply Kd.R_drew));exact Kd.R_mono HO292.out (fun _ hk=>⟨hk.2,hk.1.2⟩)⟩,⟨by (with_reducible repeat (first|apply Kd.R_alloc|apply Kd.R_drewN|apply Kd.R_drew));exact Kd.R_mono HO295.out (fun _ hk=>⟨hk.2,⟨hk.1.1.2,hk.1.2⟩⟩)⟩,⟨by (with_reducible repeat (first|apply Kd.R_alloc|apply Kd.R_drewN|apply Kd.R_drew));exact Kd.R_mono HO312.out (fun _ hk=>⟨hk.1.2,hk.2⟩)⟩,⟨by (with_reducible repeat (first|apply Kd.R_alloc|apply Kd.R_drewN|apply Kd.R_drew));exact Kd.R_mono HO315.out (fun _ hk=>⟨hk.1.1.2,⟨hk.1.2,hk.2⟩⟩)⟩,⟨by (with_reducible repeat (first|apply Kd.S_alloc|apply Kd.S_drewN|apply Kd.S_drew));exact Kd.S_mono HO299.out (fun _ hk=>⟨hk.1.2,⟨hk.2,⟨hk.1.1.1.1.1,hk.1.1.1.1.2⟩⟩⟩)⟩,⟨by (with_reducible repeat (first|apply Kd.R_alloc|apply Kd.R_drewN|apply Kd.R_drew));exact Kd.R_mono HO302.out (fun _ hk=>⟨hk.1.2,hk.2⟩)⟩,⟨by (with_reducible repeat (first|apply Kd.R_alloc|apply Kd.R_drewN|apply Kd.R_drew));exact Kd.R_mono HO305.out (fun _ hk=>⟨hk.1.2,⟨hk.2,hk.1.1.1.1⟩⟩)⟩,⟨by (with_reducible repeat (first|apply Kd.R_alloc|apply Kd.R_drewN|apply Kd.R_drew));exact Kd.R_mono HO308.out (fun _ hk=>⟨hk.1.2,⟨hk.2,hk.1.1.1.1⟩⟩)⟩,⟨by (with_reducible repeat first|apply blk_drewN|apply blk_drew|apply blk_alloc);exact BK276.out⟩,⟨by (with_reducible repeat first|apply blk_drewN|apply blk_drew|apply blk_alloc);exact BK309.out⟩,⟨by repeat (first|(with_reducible first|exact HB.out|apply below_alloc|apply pw_below_drewN|apply below_drew1|refine below_set ?_ GE276.out|refine below_set ?_ GE309.out)|exact HB.out)⟩⟩
  case rest =>
   clear HC12
   try clear c1;try clear c2;try clear p2;try clear c3;try clear c4;try clear c4b0;try clear c7;try clear c9;try clear c14;try clear c15;try clear c16;try clear c27;try clear c34;try clear c36;try clear hcz14_0;try clear hcz14_1;try clear hcz14_2;try clear hcz14_3;try clear hcz16_0;try clear hcz16_1;try clear hcz16_2;try clear hcz16_3;try clear hcz23_0;try clear hcz23_1;try clear hcz23_2;try clear hcz23_3;try clear hcz28_0;try clear hcz28_1;try clear hcz28_2;try clear hcz28_3;try clear hcz6_0;try clear hcz6_1;try clear hcz6_2;try clear hcz6_3;try clear hfz14_0;try clear hfz14_1;try clear hfz14_2;try clear hfz14_3;try clear hfz16_0;try clear hfz16_1;try clear hfz16_2;try clear hfz16_3;try clear hfz23_0;try clear hfz23_1;try clear hfz23_2;try clear hfz23_3;try clear hfz28_0;try clear hfz28_1;try clear hfz28_2;try clear hfz28_3;try clear hfz6_0;try clear hfz6_1;try clear hfz6_2;try clear hfz6_3
   obtain ⟨kq,x55_11,rfl,HA,HJ11,HO_6,HO_7,HO_10,HO_11,HO_310000,HO_310001,HO_310002,HO_310003,BK276,BK309,HB⟩:=hcut
   cases kq with
   | zero=>exact absurd HA.out (by simp [laws_FnExactRecordAt.j0])
   | succ kj11 =>
    have H:=HA.out
    clear HA
    simp only [laws_FnExactRecordAt.j0] at H
    by_cases c47 : x55_11 = true
    ·subst c47
     rw [if_pos rfl] at H
     obtain rfl:=Option.some.inj H
     go_wp2
     go_ret
     exact ⟨by first|rfl|(simp [*,errW_none,errW_some] <;> rfl),by repeat (first|(with_reducible first|exact HB.out|apply below_alloc|apply pw_below_drewN|apply below_drew1|refine below_set ?_ GE276.out|refine below_set ?_ GE309.out)|exact HB.out)⟩
    ·replace c47:=Bool.eq_false_iff.mpr c47
     subst c47
     rw [if_neg (show ¬ (false = true) by decide)] at H
     replace H:=Option.bind_eq_some_iff.mp H
     obtain ⟨⟨t319,t322,t325,t328⟩,A480,H⟩:=H
     replace H : ((laws_eqSpace.f kj11 t297 t300 t303 t306 t319 t322 t325 t328).bind fun t331=>(if t331 = true then ((laws_markSpace.f kj11 t297 t300 t303 t306 1).bind fun bt332=>(if bt332.1 < 0 then (laws_FnExactRecordAt.j1 kj11 a1 t290 t293 t296 t310 t313 true l0_0 l0_1 l0_2 l0_3) else ((laws_eqByteS.f kj11 t310 t290).bind fun t337=>(if t337 = true then ((laws_eqIntS.f kj11 t313 t293).bind fun t338=>(if t338 = true then (laws_FnExactRecordAt.j1 kj11 a1 t290 t293 t296 t310 t313 (t316 != t296) l0_0 l0_1 l0_2 l0_3) else (laws_FnExactRecordAt.j1 kj11 a1 t290 t293 t296 t310 t313 true l0_0 l0_1 l0_2 l0_3))) else (laws_FnExactRecordAt.j1 kj11 a1 t290 t293 t296 t310 t313 true l0_0 l0_1 l0_2 l0_3))))) else (some false))) = some r:=H
     have A48:=Aside0.mk A480
     clear A480
     replace H:=Option.bind_eq_some_iff.mp H
     obtain ⟨t331,A490,H⟩:=H
     have A49:=Aside0.mk A490
     clear A490
     by_cases c50 : t331 = true
     ·subst c50
      rw [if_pos rfl] at H
      replace H:=Option.bind_eq_some_iff.mp H
      obtain ⟨⟨t332,t333,t334,t335,t336⟩,A510,H⟩:=H
      replace H : (if t332 < 0 then (laws_FnExactRecordAt.j1 kj11 a1 t290 t293 t296 t310 t313 true l0_0 l0_1 l0_2 l0_3) else ((laws_eqByteS.f kj11 t310 t290).bind fun t337=>(if t337 = true then ((laws_eqIntS.f kj11 t313 t293).bind fun t338=>(if t338 = true then (laws_FnExactRecordAt.j1 kj11 a1 t290 t293 t296 t310 t313 (t316 != t296) l0_0 l0_1 l0_2 l0_3) else (laws_FnExactRecordAt.j1 kj11 a1 t290 t293 t296 t310 t313 true l0_0 l0_1 l0_2 l0_3))) else (laws_FnExactRecordAt.j1 kj11 a1 t290 t293 t296 t310 t313 true l0_0 l0_1 l0_2 l0_3)))) = some r:=H
      have A51:=Aside0.mk A510
      clear A510
      have HC52:=Aside0.mk H
      clear H
      try go_wp2
      have n0_:=Aside0.mk (Kd.R_drew HO_6.out)
      have n1_:=Aside0.mk (Kd.R_drew HO_7.out)
      have n2_:=Aside0.mk (Kd.R_drew HO_10.out)
      have n3_:=Aside0.mk (Kd.R_drew HO_11.out)
      have n4_:=Aside0.mk (Kd.S_drew HO_310000.out)
      have n5_:=Aside0.mk (Kd.R_drew HO_310001.out)
      have n6_:=Aside0.mk (Kd.R_drew HO_310002.out)
      have n7_:=Aside0.mk (Kd.R_drew HO_310003.out)
      have n8_:=Aside0.mk (blk_drew BK276.out)
      have n9_:=Aside0.mk (blk_drew BK309.out)
      have n10_:=Aside0.mk (below_drew1 HB.out)
      clear HO_6
      clear HO_7
      clear HO_10
      clear HO_11
      clear HO_310000
      clear HO_310001
      clear HO_310002
      clear HO_310003
      clear BK276
      clear BK309
      clear HB
      have HO_6:=n0_
      have HO_7:=n1_
      have HO_10:=n2_
      have HO_11:=n3_
      have HO_310000:=n4_
      have HO_310001:=n5_
      have HO_310002:=n6_
      have HO_310003:=n7_
      have BK276:=n8_
      have BK309:=n9_
      have HB:=n10_
      clear n0_ n1_ n2_ n3_ n4_ n5_ n6_ n7_ n8_ n9_ n10_
      refine start_ (n:=5) (S:=fun w'=>w'.cell? ⟨gb309,0,none⟩ = some (.slice Ao26 t297.length co26)∧w'.cell? ⟨gb309,1,none⟩ = some (.slice Ao29 t300.length co29)∧w'.cell? ⟨gb309,2,none⟩ = some (.slice Ao30 t303.length co30)∧w'.cell? ⟨gb309,3,none⟩ = some (.slice Ao31 t306.length co31)∧w'.cell? ⟨gb276,0,none⟩ = some (.slice A0_0 l0_0.length c0_0)∧w'.cell? ⟨gb276,1,none⟩ = some (.slice A0_1 l0_1.length c0_1)∧w'.cell? ⟨gb276,2,none⟩ = some (.slice A0_2 l0_2.length c0_2)∧w'.cell? ⟨gb276,3,none⟩ = some (.slice A0_3 l0_3.length c0_3)) (ds:=[]) #[false,false,false,false,false] (by kernel_rfl) rfl rfl ⟨(blk_cell BK309.out 0).trans rfl,(blk_cell BK309.out 1).trans rfl,(blk_cell BK309.out 2).trans rfl,(blk_cell BK309.out 3).trans rfl,(blk_cell BK276.out 0).trans rfl,(blk_cell BK276.out 1).trans rfl,(blk_cell BK276.out 2).trans rfl,(blk_cell BK276.out 3).trans rfl⟩ (fun hHeld=>?_)
      generalize wc.drew = w53 at HO_6 HO_7 HO_10 HO_11 HO_310000 HO_310001 HO_310002 HO_310003 BK276 BK309 HB hHeld ⊢
      refine take_ (i:=0) (N:=some 56) (v:=?_) (a':=?_) #[true,false,false,false,false] rfl rfl (by kernel_rfl) (fun _ _ _ h=>h) (Or.inl ⟨by rfl,?_⟩) hHeld ?_ ?_
      rotate_left
      ·rintro w' ⟨s0,s1,s2,s3,s4,s5,s6,s7⟩
       go_simp
       with_reducible rfl
      rotate_left
      ·simp only [Act.put,List.setIfInBounds_toArray,List.set_cons_zero,List.set_cons_succ,i64_w,i32_w]
       rfl
      refine take_ (i:=1) (N:=some 57) (v:=?_) (a':=?_) #[true,true,false,false,false] rfl rfl (by kernel_rfl) (fun _ _ _ h=>h) (Or.inl ⟨by rfl,?_⟩) hHeld ?_ ?_
      rotate_left
      ·rintro w' ⟨s0,s1,s2,s3,s4,s5,s6,s7⟩
       go_simp
       with_reducible rfl
      rotate_left
      ·simp only [Act.put,List.setIfInBounds_toArray,List.set_cons_zero,List.set_cons_succ,i64_w,i32_w]
       rfl
      refine one_ (i:=2) (N:=some 58) #[true,true,true,false,false] rfl rfl (by kernel_rfl) (by decide) (fun K hK=>?_)
      refine goes_ Try.func9 (by kernel_rfl) rfl #[.agg #[.slice A0_0 l0_0.length c0_0,.slice A0_1 l0_1.length c0_1,.slice A0_2 l0_2.length c0_2,.slice A0_3 l0_3.length c0_3]] (by rfl) rfl rfl (by (try simp only [List.map_toArray,List.map_cons,List.map_nil]);first|done|rfl|(simp only [List.length_drop,List.length_take];rfl)) ?_
      with_reducible refine (laws_toSpace.calls kj11 _ _ l0_0 _ _ l0_1 _ _ l0_2 _ _ l0_3 t319 t322 t325 t328 _ ?side1 ?side2 ?side3 ?side4 ?side5 ?side6 ?side7 ?side8 A48.out).mono ?_
      (case side1=>repeat (first|exact (Kd.C_below HR0_0.out HB.out)|(with_reducible first|apply Kd.C_alloc|apply Kd.C_drewN|apply Kd.C_drew)))
      (case side2=>exact HC0_0.out)
      (case side3=>repeat (first|exact (Kd.C_below HR0_1.out HB.out)|(with_reducible first|apply Kd.C_alloc|apply Kd.C_drewN|apply Kd.C_drew)))
      (case side4=>exact HC0_1.out)
      (case side5=>repeat (first|exact (Kd.C_below HR0_2.out HB.out)|(with_reducible first|apply Kd.C_alloc|apply Kd.C_drewN|apply Kd.C_drew)))
      (case side6=>exact HC0_2.out)
      (case side7=>repeat (first|exact (Kd.C_below HR0_3.out HB.out)|(with_reducible first|apply Kd.C_alloc|apply Kd.C_drewN|apply Kd.C_drew)))
      (case side8=>exact HC0_3.out)
      rintro e w54 ⟨v320,v323,v326,v329,rfl,ho0,ho1,ho2,ho3,hb⟩
      refine ⟨_,rfl,?_⟩
      have n0_:=Aside0.mk (Kd.R_elder' (by (with_reducible repeat (first|apply Kd.R_alloc|apply Kd.R_drewN|apply Kd.R_drew));exact HO_6.out) (Kd.R_base ho1) hb)
      have n1_:=Aside0.mk (Kd.R_mono (Kd.R_told (Kd.R_told (Kd.R_old (by (with_reducible repeat (first|apply Kd.R_alloc|apply Kd.R_drewN|apply Kd.R_drew));exact HO_7.out) hb) (Kd.R_base ho2)) (Kd.R_base ho3)) (fun _ h_=>h_.1))
      have n2_:=Aside0.mk (Kd.R_elder' (by (with_reducible repeat (first|apply Kd.R_alloc|apply Kd.R_drewN|apply Kd.R_drew));exact HO_10.out) (Kd.R_base ho1) hb)
      have n3_:=Aside0.mk (Kd.R_mono (Kd.R_told (Kd.R_told (Kd.R_old (by (with_reducible repeat (first|apply Kd.R_alloc|apply Kd.R_drewN|apply Kd.R_drew));exact HO_11.out) hb) (Kd.R_base ho2)) (Kd.R_base ho3)) (fun _ h_=>h_.1))
      have n4_:=Aside0.mk (Kd.S_told (Kd.S_told (Kd.S_old (by (with_reducible repeat (first|apply Kd.S_alloc|apply Kd.S_drewN|apply Kd.S_drew));exact HO_310000.out) hb) (Kd.S_base ho0)) (Kd.R_base ho1))
      have n5_:=Aside0.mk (Kd.R_elder' (by (with_reducible repeat (first|apply Kd.R_alloc|apply Kd.R_drewN|apply Kd.R_drew));exact HO_310001.out) (Kd.R_base ho1) hb)
      have n6_:=Aside0.mk (Kd.R_mono (Kd.R_told (Kd.R_told (Kd.R_old (by (with_reducible repeat (first|apply Kd.R_alloc|apply Kd.R_drewN|apply Kd.R_drew));exact HO_310002.out) hb) (Kd.R_base ho2)) (Kd.R_base ho3)) (fun _ h_=>h_.1))
      have n7_:=Aside0.mk (Kd.R_mono (Kd.R_told (Kd.R_told (Kd.R_old (by (with_reducible repeat (first|apply Kd.R_alloc|apply Kd.R_drewN|apply Kd.R_drew));exact HO_310003.out) hb) (Kd.R_base ho2)) (Kd.R_base ho3)) (fun _ h_=>h_.1))
      have n8_:=Aside0.mk (Kd.S_lower (Kd.S_new' (Kd.S_new' (Kd.S_new' (Kd.S_new' (Kd.S_mono (Kd.S_bound ho0) (fun k_ h_=>(⟨h_.1,(by first|exact h_.2.1|simpa only [World.size_setCell] using h_.2.1)⟩ : _∧w53.heap.size ≤ k_))) (Kd.R_lt (by (with_reducible repeat (first|apply Kd.R_alloc|apply Kd.R_drewN|apply Kd.R_drew));exact HO_6.out))) (Kd.R_lt (by (with_reducible repeat (first|apply Kd.R_alloc|apply Kd.R_drewN|apply Kd.R_drew));exact HO_10.out))) (Kd.S_lt (by (with_reducible repeat (first|apply Kd.S_alloc|apply Kd.S_drewN|apply Kd.S_drew));exact HO_310000.out))) (Kd.R_lt (by (with_reducible repeat (first|apply Kd.R_alloc|apply Kd.R_drewN|apply Kd.R_drew));exact HO_310001.out))) (below_size (by repeat (first|(with_reducible first|exact HB.out|apply below_alloc|apply pw_below_drewN|apply below_drew1|refine below_set ?_ GE276.out|refine below_set ?_ GE309.out)|exact HB.out))))
      have n9_:=Aside0.mk (Kd.R_lower (Kd.R_new' (Kd.R_new' (Kd.R_new' ho1 (Kd.R_lt (by (with_reducible repeat (first|apply Kd.R_alloc|apply Kd.R_drewN|apply Kd.R_drew));exact HO_6.out))) (Kd.R_lt (by (with_reducible repeat (first|apply Kd.R_alloc|apply Kd.R_drewN|apply Kd.R_drew));exact HO_10.out))) (Kd.R_lt (by (with_reducible repeat (first|apply Kd.R_alloc|apply Kd.R_drewN|apply Kd.R_drew));exact HO_310001.out))) (below_size (by repeat (first|(with_reducible first|exact HB.out|apply below_alloc|apply pw_below_drewN|apply below_drew1|refine below_set ?_ GE276.out|refine below_set ?_ GE309.out)|exact HB.out))))
      have n10_:=Aside0.mk (Kd.R_lower (Kd.R_new' (Kd.R_new' (Kd.R_new' (Kd.R_new' ho2 (Kd.R_lt (by (with_reducible repeat (first|apply Kd.R_alloc|apply Kd.R_drewN|apply Kd.R_drew));exact HO_7.out))) (Kd.R_lt (by (with_reducible repeat (first|apply Kd.R_alloc|apply Kd.R_drewN|apply Kd.R_drew));exact HO_11.out))) (Kd.R_lt (by (with_reducible repeat (first|apply Kd.R_alloc|apply Kd.R_drewN|apply Kd.R_drew));exact HO_310002.out))) (Kd.R_lt (by (with_reducible repeat (first|apply Kd.R_alloc|apply Kd.R_drewN|apply Kd.R_drew));exact HO_310003.out))) (below_size (by repeat (first|(with_reducible first|exact HB.out|apply below_alloc|apply pw_below_drewN|apply below_drew1|refine below_set ?_ GE276.out|refine below_set ?_ GE309.out)|exact HB.out))))
      have n11_:=Aside0.mk (Kd.R_lower (Kd.R_new' (Kd.R_new' (Kd.R_new' (Kd.R_new' ho3 (Kd.R_lt (by (with_reducible repeat (first|apply Kd.R_alloc|apply Kd.R_drewN|apply Kd.R_drew));exact HO_7.out))) (Kd.R_lt (by (with_reducible repeat (first|apply Kd.R_alloc|apply Kd.R_drewN|apply Kd.R_drew));exact HO_11.out))) (Kd.R_lt (by (with_reducible repeat (first|apply Kd.R_alloc|apply Kd.R_drewN|apply Kd.R_drew));exact HO_310002.out))) (Kd.R_lt (by (with_reducible repeat (first|apply Kd.R_alloc|apply Kd.R_drewN|apply Kd.R_drew));exact HO_310003.out))) (below_size (by repeat (first|(with_reducible first|exact HB.out|apply below_alloc|apply pw_below_drewN|apply below_drew1|refine below_set ?_ GE276.out|refine below_set ?_ GE309.out)|exact HB.out))))
      have n12_:=Aside0.mk (blk_below (g:=gb276) (o:=.cells #[.slice A0_0 l0_0.length c0_0,.slice A0_1 l0_1.length c0_1,.slice A0_2 l0_2.length c0_2,.slice A0_3 l0_3.length c0_3] 26 (0,0)) (by (with_reducible repeat first|apply blk_drewN|apply blk_drew|apply blk_alloc);exact BK276.out) hb)
      have n13_:=Aside0.mk (blk_below (g:=gb309) (o:=.cells #[.slice Ao26 t297.length co26,.slice Ao29 t300.length co29,.slice Ao30 t303.length co30,.slice Ao31 t306.length co31] 28 (0,0)) (by (with_reducible repeat first|apply blk_drewN|apply blk_drew|apply blk_alloc);exact BK309.out) hb)
      have n14_:=Aside0.mk (below_step (by repeat (first|(with_reducible first|exact HB.out|apply below_alloc|apply pw_below_drewN|apply below_drew1|refine below_set ?_ GE276.out|refine below_set ?_ GE309.out)|exact HB.out)) hb)
      clear HO_6
      clear HO_7
      clear HO_10
      clear HO_11
      clear HO_310000
      clear HO_310001
      clear HO_310002
      clear HO_310003
      clear BK276
      clear BK309
      clear HB
      have HO_6:=n0_
      have HO_7:=n1_
      have HO_10:=n2_
      have HO_11:=n3_
      have HO_310000:=n4_
      have HO_310001:=n5_
      have HO_310002:=n6_
      have HO_310003:=n7_
      have HO321:=n8_
      have HO324:=n9_
      have HO327:=n10_
      have HO330:=n11_
      have BK276:=n12_
      have BK309:=n13_
      have HB:=n14_
      clear n0_ n1_ n2_ n3_ n4_ n5_ n6_ n7_ n8_ n9_ n10_ n11_ n12_ n13_ n14_
      (try clear hb)
      (try clear hb2)
      (try clear hk)
      (try clear hi)
      (try clear ho0)
      (try clear ho1)
      (try clear ho2)
      (try clear ho3)
      obtain ⟨Ao55,co55,eo55⟩:=Kd.S_slice HO321.out
      (first|subst eo55|(injection eo55 with f1_ f2_ f3_;have f4_:=f1_.symm;have f5_:=f3_.symm;clear f1_ f2_ f3_;subst f4_;subst f5_))
      obtain ⟨Ao56,co56,eo56⟩:=Kd.R_slice HO324.out
      (first|subst eo56|(injection eo56 with f1_ f2_ f3_;have f4_:=f1_.symm;have f5_:=f3_.symm;clear f1_ f2_ f3_;subst f4_;subst f5_))
      obtain ⟨Ao57,co57,eo57⟩:=Kd.R_slice HO327.out
      (first|subst eo57|(injection eo57 with f1_ f2_ f3_;have f4_:=f1_.symm;have f5_:=f3_.symm;clear f1_ f2_ f3_;subst f4_;subst f5_))
      obtain ⟨Ao58,co58,eo58⟩:=Kd.R_slice HO330.out
      (first|subst eo58|(injection eo58 with f1_ f2_ f3_;have f4_:=f1_.symm;have f5_:=f3_.symm;clear f1_ f2_ f3_;subst f4_;subst f5_))
      refine hK.out _ _ ⟨(blk_cell BK309.out 0).trans rfl,(blk_cell BK309.out 1).trans rfl,(blk_cell BK309.out 2).trans rfl,(blk_cell BK309.out 3).trans rfl,(blk_cell BK276.out 0).trans rfl,(blk_cell BK276.out 1).trans rfl,(blk_cell BK276.out 2).trans rfl,(blk_cell BK276.out 3).trans rfl⟩ (fun hHeld=>?_)
      clear hK K
      refine norm_ (a':=?_) ?_ ?_
      rotate_left
      ·show Act.put _ (some 58) _ = _
       simp only [Act.put,List.setIfInBounds_toArray,List.set_cons_zero,List.set_cons_succ,i64_w,i32_w]
       rfl
      refine one_ (i:=3) (N:=some 59) #[true,true,true,true,false] rfl rfl (by kernel_rfl) (by decide) (fun K hK=>?_)
      refine goes_ Try.func11 (by kernel_rfl) rfl #[.agg #[.slice Ao26 t297.length co26,.slice Ao29 t300.length co29,.slice Ao30 t303.length co30,.slice Ao31 t306.length co31],.agg #[.slice Ao55 t319.length co55,.slice Ao56 t322.length co56,.slice Ao57 t325.length co57,.slice Ao58 t328.length co58]] (by rfl) rfl rfl (by (try simp only [List.map_toArray,List.map_cons,List.map_nil]);first|done|rfl|(simp only [List.length_drop,List.length_take];rfl)) ?_
      with_reducible refine (laws_eqSpace.calls kj11 _ _ t297 _ _ t300 _ _ t303 _ _ t306 _ _ t319 _ _ t322 _ _ t325 _ _ t328 true _ ?side1 ?side2 ?side3 ?side4 ?side5 ?side6 ?side7 ?side8 ?side9 ?side10 ?side11 ?side12 ?side13 ?side14 ?side15 ?side16 A49.out).mono ?_
      (case side1=>repeat (first|exact (Kd.S_reads' HO_310000.out).2.2|(with_reducible first|apply Kd.C_alloc|apply Kd.C_drewN|apply Kd.C_drew)))
      (case side2=>exact (Kd.S_reads' HO_310000.out).2.1)
      (case side3=>repeat (first|exact (Kd.R_reads' HO_310001.out).2.2|(with_reducible first|apply Kd.C_alloc|apply Kd.C_drewN|apply Kd.C_drew)))
      (case side4=>exact (Kd.R_reads' HO_310001.out).2.1)
      (case side5=>repeat (first|exact (Kd.R_reads' HO_310002.out).2.2|(with_reducible first|apply Kd.C_alloc|apply Kd.C_drewN|apply Kd.C_drew)))
      (case side6=>exact (Kd.R_reads' HO_310002.out).2.1)
      (case side7=>repeat (first|exact (Kd.R_reads' HO_310003.out).2.2|(with_reducible first|apply Kd.C_alloc|apply Kd.C_drewN|apply Kd.C_drew)))
      (case side8=>exact (Kd.R_reads' HO_310003.out).2.1)
      (case side9=>repeat (first|exact (Kd.S_reads' HO321.out).2.2|(with_reducible first|apply Kd.C_alloc|apply Kd.C_drewN|apply Kd.C_drew)))
      (case side10=>exact (Kd.S_reads' HO321.out).2.1)
      (case side11=>repeat (first|exact (Kd.R_reads' HO324.out).2.2|(with_reducible first|apply Kd.C_alloc|apply Kd.C_drewN|apply Kd.C_drew)))
      (case side12=>exact (Kd.R_reads' HO324.out).2.1)
      (case side13=>repeat (first|exact (Kd.R_reads' HO327.out).2.2|(with_reducible first|apply Kd.C_alloc|apply Kd.C_drewN|apply Kd.C_drew)))
      (case side14=>exact (Kd.R_reads' HO327.out).2.1)
      (case side15=>repeat (first|exact (Kd.R_reads' HO330.out).2.2|(with_reducible first|apply Kd.C_alloc|apply Kd.C_drewN|apply Kd.C_drew)))
      (case side16=>exact (Kd.R_reads' HO330.out).2.1)
      rintro e w59 ⟨rfl,hb⟩
      refine ⟨_,rfl,?_⟩
      have n0_:=Aside0.mk (Kd.R_below (by (with_reducible repeat (first|apply Kd.R_alloc|apply Kd.R_drewN|apply Kd.R_drew));exact HO_6.out) hb)
      have n1_:=Aside0.mk (Kd.R_below (by (with_reducible repeat (first|apply Kd.R_alloc|apply Kd.R_drewN|apply Kd.R_drew));exact HO_7.out) hb)
      have n2_:=Aside0.mk (Kd.R_below (by (with_reducible repeat (first|apply Kd.R_alloc|apply Kd.R_drewN|apply Kd.R_drew));exact HO_10.out) hb)
      have n3_:=Aside0.mk (Kd.R_below (by (with_reducible repeat (first|apply Kd.R_alloc|apply Kd.R_drewN|apply Kd.R_drew));exact HO_11.out) hb)
      have n4_:=Aside0.mk (Kd.S_below (by (with_reducible repeat (first|apply Kd.S_alloc|apply Kd.S_drewN|apply Kd.S_drew));exact HO_310000.out) hb)
      have n5_:=Aside0.mk (Kd.R_below (by (with_reducible repeat (first|apply Kd.R_alloc|apply Kd.R_drewN|apply Kd.R_drew));exact HO_310001.out) hb)
      have n6_:=Aside0.mk (Kd.R_below (by (with_reducible repeat (first|apply Kd.R_alloc|apply Kd.R_drewN|apply Kd.R_drew));exact HO_310002.out) hb)
      have n7_:=Aside0.mk (Kd.R_below (by (with_reducible repeat (first|apply Kd.R_alloc|apply Kd.R_drewN|apply Kd.R_drew));exact HO_310003.out) hb)
      have n8_:=Aside0.mk (Kd.S_below (by (with_reducible repeat (first|apply Kd.S_alloc|apply Kd.S_drewN|apply Kd.S_drew));exact HO321.out) hb)
      have n9_:=Aside0.mk (Kd.R_below (by (with_reducible repeat (first|apply Kd.R_alloc|apply Kd.R_drewN|apply Kd.R_drew));exact HO324.out) hb)
      have n10_:=Aside0.mk (Kd.R_below (by (with_reducible repeat (first|apply Kd.R_alloc|apply Kd.R_drewN|apply Kd.R_drew));exact HO327.out) hb)
      have n11_:=Aside0.mk (Kd.R_below (by (with_reducible repeat (first|apply Kd.R_alloc|apply Kd.R_drewN|apply Kd.R_drew));exact HO330.out) hb)
      have n12_:=Aside0.mk (blk_below (g:=gb276) (o:=.cells #[.slice A0_0 l0_0.length c0_0,.slice A0_1 l0_1.length c0_1,.slice A0_2 l0_2.length c0_2,.slice A0_3 l0_3.length c0_3] 26 (0,0)) (by (with_reducible repeat first|apply blk_drewN|apply blk_drew|apply blk_alloc);exact BK276.out) hb)
      have n13_:=Aside0.mk (blk_below (g:=gb309) (o:=.cells #[.slice Ao26 t297.length co26,.slice Ao29 t300.length co29,.slice Ao30 t303.length co30,.slice Ao31 t306.length co31] 28 (0,0)) (by (with_reducible repeat first|apply blk_drewN|apply blk_drew|apply blk_alloc);exact BK309.out) hb)
      have n14_:=Aside0.mk (below_step (by repeat (first|(with_reducible first|exact HB.out|apply below_alloc|apply pw_below_drewN|apply below_drew1|refine below_set ?_ GE276.out|refine below_set ?_ GE309.out)|exact HB.out)) hb)
      clear HO_6
      clear HO_7
      clear HO_10
      clear HO_11
      clear HO_310000
      clear HO_310001
      clear HO_310002
      clear HO_310003
      clear HO321
      clear HO324
      clear HO327
      clear HO330
      clear BK276
      clear BK309
      clear HB
      have HO_6:=n0_
      have HO_7:=n1_
      have HO_10:=n2_
      have HO_11:=n3_
      have HO_310000:=n4_
      have HO_310001:=n5_
      have HO_310002:=n6_
      have HO_310003:=n7_
      have HO321:=n8_
      have HO324:=n9_
      have HO327:=n10_
      have HO330:=n11_
      have BK276:=n12_
      have BK309:=n13_
      have HB:=n14_
      clear n0_ n1_ n2_ n3_ n4_ n5_ n6_ n7_ n8_ n9_ n10_ n11_ n12_ n13_ n14_
      (try clear hb)
      (try clear hb2)
      (try clear hk)
      (try clear hi)
      refine hK.out _ _ ⟨(blk_cell BK309.out 0).trans rfl,(blk_cell BK309.out 1).trans rfl,(blk_cell BK309.out 2).trans rfl,(blk_cell BK309.out 3).trans rfl,(blk_cell BK276.out 0).trans rfl,(blk_cell BK276.out 1).trans rfl,(blk_cell BK276.out 2).trans rfl,(blk_cell BK276.out 3).trans rfl⟩ (fun hHeld=>?_)
      clear hK K
      refine norm_ (a':=?_) ?_ ?_
      rotate_left
      ·show Act.put _ (some 59) _ = _
       simp only [Act.put,List.setIfInBounds_toArray,List.set_cons_zero,List.set_cons_succ,i64_w,i32_w]
       rfl
      refine pure_ (i:=4) (N:=some 60) (v:=?_) (a':=?_) #[true,true,true,true,true] rfl rfl (by kernel_rfl) (fun _ _ _ h=>h) (Or.inl ⟨by rfl,?_⟩) ?_ ?_
      rotate_left
      ·intro w'
       go_simp
       with_reducible rfl
      rotate_left
      ·simp only [Act.put,List.setIfInBounds_toArray,List.set_cons_zero,List.set_cons_succ,i64_w,i32_w]
       rfl
      refine done_ (by kernel_rfl) ?_
      have hnb60:=NB309_276.out
      have hnc60:=NB276_309.out
      have hcz61_0 : w59.cell? ⟨gb309,0,none⟩ = some (.slice Ao26 t297.length co26):=(blk_cell BK309.out 0).trans rfl
      have hcz61_1 : w59.cell? ⟨gb309,1,none⟩ = some (.slice Ao29 t300.length co29):=(blk_cell BK309.out 1).trans rfl
      have hcz61_2 : w59.cell? ⟨gb309,2,none⟩ = some (.slice Ao30 t303.length co30):=(blk_cell BK309.out 2).trans rfl
      have hcz61_3 : w59.cell? ⟨gb309,3,none⟩ = some (.slice Ao31 t306.length co31):=(blk_cell BK309.out 3).trans rfl
      have hfz61_0:=blk_frozen BK309.out 0
      have hfz61_1:=blk_frozen BK309.out 1
      have hfz61_2:=blk_frozen BK309.out 2
      have hfz61_3:=blk_frozen BK309.out 3
      go_upto_region 14 with (first|((with_reducible refine gate_callee (f:=12) rfl ?_);refine goesL_ (some 63) rfl rfl Try.func12 (by kernel_rfl) rfl #[.agg #[.slice Ao26 t297.length co26,.slice Ao29 t300.length co29,.slice Ao30 t303.length co30,.slice Ao31 t306.length co31],.int .i64 1] rfl (by (try simp only [List.map_toArray,List.map_cons,List.map_nil]);first|done|rfl|(simp only [List.length_drop,List.length_take];rfl)) ?_;(with_reducible refine (laws_markSpace.calls kj11 (SB_ (Kd.slice 5 (Kd.int .u8)) 23 w59 w.heap.size (fun k_=>((((some k_ ≠ (v291 : Value).ownBlock∧(some k_ ≠ (v311 : Value).ownBlock∧(some k_ ≠ (.slice Ao29 t300.length co29 : Value).ownBlock∧w22.heap.size ≤ k_)))∧some k_ ≠ (.slice Ao55 t319.length co55 : Value).ownBlock)∧some k_ ≠ (.slice Ao56 t322.length co56 : Value).ownBlock)∧k_ < w53.heap.size))) (.slice Ao26 t297.length co26) t297 (fun k_=>some k_ = (.slice Ao29 t300.length co29 : Value).ownBlock) (.slice Ao29 t300.length co29) t300 (fun k_=>some k_ = (.slice Ao30 t303.length co30 : Value).ownBlock) (.slice Ao30 t303.length co30) t303 (fun k_=>some k_ = (.slice Ao31 t306.length co31 : Value).ownBlock) (.slice Ao31 t306.length co31) t306 1 t332 t333 t334 t335 t336 w _ ?side1 ?side2 ?side3 ?side4 ?side5 ?side6 ?side7 ?side8 A51.out).mono ?_);(case side1=>repeat (first|(with_reducible first|exact HB.out|apply below_alloc|apply pw_below_drewN|apply below_drew1|refine below_set ?_ GE276.out|refine below_set ?_ GE309.out)|exact HB.out));(case side2=>exact SB_own HO_310000.out);(case side3=>exact fun k_ h_ e_=>(h_.1.1.1.1.2.2.1) e_);(case side4=>exact Kd.R_tight rfl HO_310001.out);(case side5=>exact Kd.R_tight rfl HO_310002.out);(case side6=>exact fun k_ e_=>(HO_310002.out.1 k_ e_.symm).1.1.2.2);(case side7=>exact Kd.R_tight rfl HO_310003.out);(case side8=>exact fun k_ e_=>(HO_310003.out.1 k_ e_.symm).1.1.2.2);rintro e w62 ⟨rfl,hy0,hy1,hy2,hy3,hb,hkp⟩;refine ⟨_,rfl,?_⟩;have n0_:=Aside0.mk (Kd.R_mono (ok':=fun k_=>some k_ ≠ (v311 : Value).ownBlock∧some k_ ≠ (.slice Ao56 t322.length co56 : Value).ownBlock) (Kd.R_keptB ((Kd.R_apart' (Kd.R_apart' (R_apartSBo (d':=(Kd.slice 5 (Kd.int .u8))) (e':=23) (base':=w.heap.size) (ok':=(fun k_=>((((some k_ ≠ (v291 : Value).ownBlock∧(some k_ ≠ (v311 : Value).ownBlock∧(some k_ ≠ (.slice Ao29 t300.length co29 : Value).ownBlock∧w22.heap.size ≤ k_)))∧some k_ ≠ (.slice Ao55 t319.length co55 : Value).ownBlock)∧some k_ ≠ (.slice Ao56 t322.length co56 : Value).ownBlock)∧k_ < w53.heap.size))) rfl HO_6.out (fun k_ hk=>hk.1.1.1.1)) (Kd.R_typed HO_310002.out) (by decide)) (Kd.R_typed HO_310003.out) (by decide))) hkp (fun k_ hk_ hs_=>Or.elim hs_ (fun e_=>(hk_.1.1.2) e_) (fun e_=>Or.elim e_ (fun e_=>(hk_.1.1.1.1.2) e_) (fun e_=>Or.elim e_ (fun e_=>(hk_.1.2) e_) (fun e_=>(hk_.2) e_))))) (fun k_ hk_=>⟨hk_.1.1.1.1.1.1,hk_.1.1.1.1.2⟩));have n1_:=Aside0.mk (Kd.R_mono (ok':=fun k_=>some k_ ≠ (v314 : Value).ownBlock∧some k_ ≠ (.slice Ao57 t325.length co57 : Value).ownBlock∧some k_ ≠ (.slice Ao58 t328.length co58 : Value).ownBlock) (Kd.R_keptB ((Kd.R_apart' (R_apartSB (d':=(Kd.slice 5 (Kd.int .u8))) (e':=23) (base':=w.heap.size) (ok':=(fun k_=>((((some k_ ≠ (v291 : Value).ownBlock∧(some k_ ≠ (v311 : Value).ownBlock∧(some k_ ≠ (.slice Ao29 t300.length co29 : Value).ownBlock∧w22.heap.size ≤ k_)))∧some k_ ≠ (.slice Ao55 t319.length co55 : Value).ownBlock)∧some k_ ≠ (.slice Ao56 t322.length co56 : Value).ownBlock)∧k_ < w53.heap.size))) HO_7.out (by decide)) (Kd.R_typed HO_310001.out) (by decide))) hkp (fun k_ hk_ hs_=>Or.elim hs_ (fun e_=>(hk_.1.2) e_) (fun e_=>Or.elim e_ (fun e_=>(hk_.2) e_) (fun e_=>Or.elim e_ (fun e_=>(hk_.1.1.1.1.2.1) e_) (fun e_=>(hk_.1.1.1.1.2.2) e_))))) (fun k_ hk_=>⟨hk_.1.1.1.1.1.1,hk_.1.1.1.1.2,hk_.1.1.1.2⟩));have n2_:=Aside0.mk (Kd.R_mono (ok':=fun k_=>some k_ ≠ (v291 : Value).ownBlock∧some k_ ≠ (.slice Ao56 t322.length co56 : Value).ownBlock) (Kd.R_keptB ((Kd.R_apart' (Kd.R_apart' (R_apartSBo (d':=(Kd.slice 5 (Kd.int .u8))) (e':=23) (base':=w.heap.size) (ok':=(fun k_=>((((some k_ ≠ (v291 : Value).ownBlock∧(some k_ ≠ (v311 : Value).ownBlock∧(some k_ ≠ (.slice Ao29 t300.length co29 : Value).ownBlock∧w22.heap.size ≤ k_)))∧some k_ ≠ (.slice Ao55 t319.length co55 : Value).ownBlock)∧some k_ ≠ (.slice Ao56 t322.length co56 : Value).ownBlock)∧k_ < w53.heap.size))) rfl HO_10.out (fun k_ hk=>hk.1.1.1.2.1)) (Kd.R_typed HO_310002.out) (by decide)) (Kd.R_typed HO_310003.out) (by decide))) hkp (fun k_ hk_ hs_=>Or.elim hs_ (fun e_=>(hk_.1.1.2) e_) (fun e_=>Or.elim e_ (fun e_=>(hk_.1.1.1.1.2) e_) (fun e_=>Or.elim e_ (fun e_=>(hk_.1.2) e_) (fun e_=>(hk_.2) e_))))) (fun k_ hk_=>⟨hk_.1.1.1.1.1.1,hk_.1.1.1.1.2⟩));have n3_:=Aside0.mk (Kd.R_mono (ok':=fun k_=>some k_ ≠ (v294 : Value).ownBlock∧some k_ ≠ (.slice Ao57 t325.length co57 : Value).ownBlock∧some k_ ≠ (.slice Ao58 t328.length co58 : Value).ownBlock) (Kd.R_keptB ((Kd.R_apart' (R_apartSB (d':=(Kd.slice 5 (Kd.int .u8))) (e':=23) (base':=w.heap.size) (ok':=(fun k_=>((((some k_ ≠ (v291 : Value).ownBlock∧(some k_ ≠ (v311 : Value).ownBlock∧(some k_ ≠ (.slice Ao29 t300.length co29 : Value).ownBlock∧w22.heap.size ≤ k_)))∧some k_ ≠ (.slice Ao55 t319.length co55 : Value).ownBlock)∧some k_ ≠ (.slice Ao56 t322.length co56 : Value).ownBlock)∧k_ < w53.heap.size))) HO_11.out (by decide)) (Kd.R_typed HO_310001.out) (by decide))) hkp (fun k_ hk_ hs_=>Or.elim hs_ (fun e_=>(hk_.1.2) e_) (fun e_=>Or.elim e_ (fun e_=>(hk_.2) e_) (fun e_=>Or.elim e_ (fun e_=>(hk_.1.1.1.1.2.1) e_) (fun e_=>(hk_.1.1.1.1.2.2) e_))))) (fun k_ hk_=>⟨hk_.1.1.1.1.1.1,hk_.1.1.1.1.2,hk_.1.1.1.2⟩));have n4_:=Aside0.mk (blk_kept (by (with_reducible repeat first|apply blk_drewN|apply blk_drew|apply blk_alloc);exact BK276.out) hkp (fun hs_=>Or.elim hs_ (fun e_=>(fun e_=>(blk_SB BK276.out (by decide)) e_) e_) (fun e_=>Or.elim e_ (fun e_=>(fun e_=>(Kd.R_ne HO_310001.out BK276.out (by decide)) e_) e_) (fun e_=>Or.elim e_ (fun e_=>(fun e_=>(Kd.R_ne HO_310002.out BK276.out (by decide)) e_) e_) (fun e_=>(fun e_=>(Kd.R_ne HO_310003.out BK276.out (by decide)) e_) e_)))));have n5_:=Aside0.mk (blk_kept (by (with_reducible repeat first|apply blk_drewN|apply blk_drew|apply blk_alloc);exact BK309.out) hkp (fun hs_=>Or.elim hs_ (fun e_=>(fun e_=>(blk_SB BK309.out (by decide)) e_) e_) (fun e_=>Or.elim e_ (fun e_=>(fun e_=>(Kd.R_ne HO_310001.out BK309.out (by decide)) e_) e_) (fun e_=>Or.elim e_ (fun e_=>(fun e_=>(Kd.R_ne HO_310002.out BK309.out (by decide)) e_) e_) (fun e_=>(fun e_=>(Kd.R_ne HO_310003.out BK309.out (by decide)) e_) e_)))));have n6_:=Aside0.mk (Kd.S_mono (ok':=fun k_=>some k_ ≠ (v291 : Value).ownBlock∧some k_ ≠ (v311 : Value).ownBlock∧some k_ ≠ (.slice Ao56 t322.length co56 : Value).ownBlock∧w53.heap.size ≤ k_) (Kd.S_keptB ((Kd.S_apart' (Kd.S_apart' (S_apartSBn (d':=(Kd.slice 5 (Kd.int .u8))) (e':=23) (base':=w.heap.size) (ok':=(fun k_=>((((some k_ ≠ (v291 : Value).ownBlock∧(some k_ ≠ (v311 : Value).ownBlock∧(some k_ ≠ (.slice Ao29 t300.length co29 : Value).ownBlock∧w22.heap.size ≤ k_)))∧some k_ ≠ (.slice Ao55 t319.length co55 : Value).ownBlock)∧some k_ ≠ (.slice Ao56 t322.length co56 : Value).ownBlock)∧k_ < w53.heap.size))) HO321.out (fun k_ hk h2_=>absurd (h2_.2) (Nat.not_lt.2 (hk.1.1.1.1.2)))) (Kd.R_typed HO_310002.out) (by decide)) (Kd.R_typed HO_310003.out) (by decide))) hkp (fun k_ hk_ hs_=>Or.elim hs_ (fun e_=>(hk_.1.1.2) e_) (fun e_=>Or.elim e_ (fun e_=>(hk_.1.1.1.2) e_) (fun e_=>Or.elim e_ (fun e_=>(hk_.1.2) e_) (fun e_=>(hk_.2) e_))))) (fun k_ hk_=>⟨hk_.1.1.1.1.1.1.1.2,hk_.1.1.1.1.1.1.2,hk_.1.1.1.1.1.1.1.1.1,hk_.1.1.1.1.1.1.1.1.2⟩));have n7_:=Aside0.mk (Kd.R_mono (ok':=fun k_=>some k_ ≠ (v291 : Value).ownBlock∧some k_ ≠ (v311 : Value).ownBlock) (Kd.R_keptB ((Kd.R_apart' (Kd.R_apart' (R_apartSBo (d':=(Kd.slice 5 (Kd.int .u8))) (e':=23) (base':=w.heap.size) (ok':=(fun k_=>((((some k_ ≠ (v291 : Value).ownBlock∧(some k_ ≠ (v311 : Value).ownBlock∧(some k_ ≠ (.slice Ao29 t300.length co29 : Value).ownBlock∧w22.heap.size ≤ k_)))∧some k_ ≠ (.slice Ao55 t319.length co55 : Value).ownBlock)∧some k_ ≠ (.slice Ao56 t322.length co56 : Value).ownBlock)∧k_ < w53.heap.size))) rfl HO324.out (fun k_ hk=>hk.1.2)) (Kd.R_typed HO_310002.out) (by decide)) (Kd.R_typed HO_310003.out) (by decide))) hkp (fun k_ hk_ hs_=>Or.elim hs_ (fun e_=>(hk_.1.1.2) e_) (fun e_=>Or.elim e_ (fun e_=>(hk_.1.1.1.2) e_) (fun e_=>Or.elim e_ (fun e_=>(hk_.1.2) e_) (fun e_=>(hk_.2) e_))))) (fun k_ hk_=>⟨hk_.1.1.1.1.1.1.2,hk_.1.1.1.1.1.2⟩));have n8_:=Aside0.mk (Kd.R_mono (ok':=fun k_=>some k_ ≠ (v294 : Value).ownBlock∧some k_ ≠ (v314 : Value).ownBlock∧some k_ ≠ (.slice Ao58 t328.length co58 : Value).ownBlock) (Kd.R_keptB ((Kd.R_apart' (R_apartSB (d':=(Kd.slice 5 (Kd.int .u8))) (e':=23) (base':=w.heap.size) (ok':=(fun k_=>((((some k_ ≠ (v291 : Value).ownBlock∧(some k_ ≠ (v311 : Value).ownBlock∧(some k_ ≠ (.slice Ao29 t300.length co29 : Value).ownBlock∧w22.heap.size ≤ k_)))∧some k_ ≠ (.slice Ao55 t319.length co55 : Value).ownBlock)∧some k_ ≠ (.slice Ao56 t322.length co56 : Value).ownBlock)∧k_ < w53.heap.size))) HO327.out (by decide)) (Kd.R_typed HO_310001.out) (by decide))) hkp (fun k_ hk_ hs_=>Or.elim hs_ (fun e_=>(hk_.1.2) e_) (fun e_=>Or.elim e_ (fun e_=>(hk_.2) e_) (fun e_=>Or.elim e_ (fun e_=>(hk_.1.1.1.2) e_) (fun e_=>(hk_.1.1.2) e_))))) (fun k_ hk_=>⟨hk_.1.1.1.1.1.1.2,hk_.1.1.1.1.1.2,hk_.1.1.1.1.1.1.1⟩));have n9_:=Aside0.mk (Kd.R_mono (ok':=fun k_=>some k_ ≠ (v294 : Value).ownBlock∧some k_ ≠ (v314 : Value).ownBlock∧some k_ ≠ (.slice Ao57 t325.length co57 : Value).ownBlock) (Kd.R_keptB ((Kd.R_apart' (R_apartSB (d':=(Kd.slice 5 (Kd.int .u8))) (e':=23) (base':=w.heap.size) (ok':=(fun k_=>((((some k_ ≠ (v291 : Value).ownBlock∧(some k_ ≠ (v311 : Value).ownBlock∧(some k_ ≠ (.slice Ao29 t300.length co29 : Value).ownBlock∧w22.heap.size ≤ k_)))∧some k_ ≠ (.slice Ao55 t319.length co55 : Value).ownBlock)∧some k_ ≠ (.slice Ao56 t322.length co56 : Value).ownBlock)∧k_ < w53.heap.size))) HO330.out (by decide)) (Kd.R_typed HO_310001.out) (by decide))) hkp (fun k_ hk_ hs_=>Or.elim hs_ (fun e_=>(hk_.1.2) e_) (fun e_=>Or.elim e_ (fun e_=>(hk_.2) e_) (fun e_=>Or.elim e_ (fun e_=>(hk_.1.1.1.2) e_) (fun e_=>(hk_.1.1.2) e_))))) (fun k_ hk_=>⟨hk_.1.1.1.1.1.1.2,hk_.1.1.1.1.1.2,hk_.1.1.1.1.1.1.1⟩));have n10_:=Aside0.mk (hb);clear HO_6;clear HO_7;clear HO_10;clear HO_11;clear BK276;clear BK309;clear HO321;clear HO324;clear HO327;clear HO330;clear HB;clear HO_310000;clear HO_310001;clear HO_310002;clear HO_310003;have HO_6:=n0_;have HO_7:=n1_;have HO_10:=n2_;have HO_11:=n3_;have BK276:=n4_;have BK309:=n5_;have HO321:=n6_;have HO324:=n7_;have HO327:=n8_;have HO330:=n9_;have HB:=n10_;clear n0_ n1_ n2_ n3_ n4_ n5_ n6_ n7_ n8_ n9_ n10_;(try clear hb);(try clear hkp);(try clear hy0);(try clear hy1);(try clear hy2);(try clear hy3)))
      (try simp only [Act.put,List.setIfInBounds_toArray,List.set_cons_zero,List.set_cons_succ])
      go_cut [82] (fun v82 wc=>∃ (kq : Nat) (x82_51 : Bool),v82 = .bool x82_51∧Aside0 (laws_FnExactRecordAt.j1 kq a1 t290 t293 t296 t310 t313 x82_51 l0_0 l0_1 l0_2 l0_3 = some r)∧Aside0 (kq ≤ kj11)∧Aside0 (Kd.R (Kd.int .u8) 5 wc w.heap.size (fun k_=>some k_ ≠ (v311 : Value).ownBlock) v291 t290)∧Aside0 (Kd.R (Kd.int .i64) 3 wc w.heap.size (fun k_=>some k_ ≠ (v314 : Value).ownBlock) v294 t293)∧Aside0 (Kd.R (Kd.int .u8) 5 wc w.heap.size (fun k_=>some k_ ≠ (v291 : Value).ownBlock) v311 t310)∧Aside0 (Kd.R (Kd.int .i64) 3 wc w.heap.size (fun k_=>some k_ ≠ (v294 : Value).ownBlock) v314 t313)∧Aside0 (wc.heap[gb276]? = some (.cells #[(.slice A0_0 l0_0.length c0_0),(.slice A0_1 l0_1.length c0_1),(.slice A0_2 l0_2.length c0_2),(.slice A0_3 l0_3.length c0_3)] 26 (0,0)))∧Aside0 (Below w.heap.size w wc))
      case first =>
       have H:=HC52.out
       clear HC52
       by_cases c63 : t332 < 0
       ·rw [if_pos c63] at H
        have c63b0 : decide (t332 < 0) = true:=decide_eq_true c63
        clear c63
        (first|rw [c63b0]|(simp only [i64_w,i32_w];rw [c63b0])|skip)
        have H':=Aside0.mk H
        clear H
        go_wp2
        go_meet
        case rel=>exact ⟨_,(true),(by first|rfl|(simp;done)|(simp [*];done)),H',⟨by have:=HJ11.out;first|omega|exact Nat.le_refl _⟩,⟨by (with_reducible repeat (first|apply Kd.R_alloc|apply Kd.R_drewN|apply Kd.R_drew));exact Kd.R_mono HO_6.out (fun _ hk=>hk.1)⟩,⟨by (with_reducible repeat (first|apply Kd.R_alloc|apply Kd.R_drewN|apply Kd.R_drew));exact Kd.R_mono HO_7.out (fun _ hk=>hk.1)⟩,⟨by (with_reducible repeat (first|apply Kd.R_alloc|apply Kd.R_drewN|apply Kd.R_drew));exact Kd.R_mono HO_10.out (fun _ hk=>hk.1)⟩,⟨by (with_reducible repeat (first|apply Kd.R_alloc|apply Kd.R_drewN|apply Kd.R_drew));exact Kd.R_mono HO_11.out (fun _ hk=>hk.1)⟩,⟨by (with_reducible repeat first|apply blk_drewN|apply blk_drew|apply blk_alloc);exact BK276.out⟩,⟨by repeat (first|(with_reducible first|exact HB.out|apply below_alloc|apply pw_below_drewN|apply below_drew1|refine below_set ?_ GE276.out|refine below_set ?_ GE309.out)|exact HB.out)⟩⟩
       ·rw [if_neg c63] at H
        have c63b0 : decide (t332 < 0) = false:=decide_eq_false c63
        clear c63
        (first|rw [c63b0]|(simp only [i64_w,i32_w];rw [c63b0])|skip)
        replace H:=Option.bind_eq_some_iff.mp H
        obtain ⟨t337,A640,H⟩:=H
        have A64:=Aside0.mk A640
        clear A640
        by_cases c65 : t337 = true
        ·subst c65
         rw [if_pos rfl] at H
         replace H:=Option.bind_eq_some_iff.mp H
         obtain ⟨t338,A660,H⟩:=H
         have A66:=Aside0.mk A660
         clear A660
         by_cases c67 : t338 = true
         ·subst c67
          rw [if_pos rfl] at H
          have H':=Aside0.mk H
          clear H
          obtain ⟨Ao68,co68,eo68⟩:=Kd.R_slice HO_10.out
          subst eo68
          obtain ⟨Ao69,co69,eo69⟩:=Kd.R_slice HO_6.out
          subst eo69
          go_wp2_with (first|(go_at_call 16;(with_reducible refine (laws_eqByteS.calls kj11 _ _ t310 _ _ t290 true _ ?side1 ?side2 ?side3 ?side4 A64.out).mono ?_);(case side1=>repeat (first|exact (Kd.R_reads' HO_10.out).2.2|(with_reducible first|apply Kd.C_alloc|apply Kd.C_drewN|apply Kd.C_drew)));(case side2=>exact (Kd.R_reads' HO_10.out).2.1);(case side3=>repeat (first|exact (Kd.R_reads' HO_6.out).2.2|(with_reducible first|apply Kd.C_alloc|apply Kd.C_drewN|apply Kd.C_drew)));(case side4=>exact (Kd.R_reads' HO_6.out).2.1);rintro e w' ⟨rfl,⟨nd,rfl⟩⟩;obtain ⟨Ao70,co70,eo70⟩:=Kd.R_slice HO_11.out;subst eo70;obtain ⟨Ao71,co71,eo71⟩:=Kd.R_slice HO_7.out;subst eo71)|(go_at_call 17;(with_reducible refine (laws_eqIntS.calls kj11 _ _ t313 _ _ t293 true _ ?side1 ?side2 ?side3 ?side4 A66.out).mono ?_);(case side1=>repeat (first|exact (Kd.R_reads' HO_11.out).2.2|(with_reducible first|apply Kd.C_alloc|apply Kd.C_drewN|apply Kd.C_drew)));(case side2=>exact (Kd.R_reads' HO_11.out).2.1);(case side3=>repeat (first|exact (Kd.R_reads' HO_7.out).2.2|(with_reducible first|apply Kd.C_alloc|apply Kd.C_drewN|apply Kd.C_drew)));(case side4=>exact (Kd.R_reads' HO_7.out).2.1);rintro e w' ⟨rfl,⟨nd,rfl⟩⟩))
          go_meet
          case rel=>exact ⟨_,((t316 != t296)),(by first|rfl|(simp;done)|(simp [*];done)),H',⟨by have:=HJ11.out;first|omega|exact Nat.le_refl _⟩,⟨by (with_reducible repeat (first|apply Kd.R_alloc|apply Kd.R_drewN|apply Kd.R_drew));exact Kd.R_mono HO_6.out (fun _ hk=>hk.1)⟩,⟨by (with_reducible repeat (first|apply Kd.R_alloc|apply Kd.R_drewN|apply Kd.R_drew));exact Kd.R_mono HO_7.out (fun _ hk=>hk.1)⟩,⟨by (with_reducible repeat (first|apply Kd.R_alloc|apply Kd.R_drewN|apply Kd.R_drew));exact Kd.R_mono HO_10.out (fun _ hk=>hk.1)⟩,⟨by (with_reducible repeat (first|apply Kd.R_alloc|apply Kd.R_drewN|apply Kd.R_drew));exact Kd.R_mono HO_11.out (fun _ hk=>hk.1)⟩,⟨by (with_reducible repeat first|apply blk_drewN|apply blk_drew|apply blk_alloc);exact BK276.out⟩,⟨by repeat (first|(with_reducible first|exact HB.out|apply below_alloc|apply pw_below_drewN|apply below_drew1|refine below_set ?_ GE276.out|refine below_set ?_ GE309.out)|exact HB.out)⟩⟩
         ·replace c67:=Bool.eq_false_iff.mpr c67
          subst c67
          rw [if_neg (show ¬ (false = true) by decide)] at H
          have H':=Aside0.mk H
          clear H
          obtain ⟨Ao72,co72,eo72⟩:=Kd.R_slice HO_10.out
          subst eo72
          obtain ⟨Ao73,co73,eo73⟩:=Kd.R_slice HO_6.out
          subst eo73
          go_wp2_with (first|(go_at_call 16;(with_reducible refine (laws_eqByteS.calls kj11 _ _ t310 _ _ t290 true _ ?side1 ?side2 ?side3 ?side4 A64.out).mono ?_);(case side1=>repeat (first|exact (Kd.R_reads' HO_10.out).2.2|(with_reducible first|apply Kd.C_alloc|apply Kd.C_drewN|apply Kd.C_drew)));(case side2=>exact (Kd.R_reads' HO_10.out).2.1);(case side3=>repeat (first|exact (Kd.R_reads' HO_6.out).2.2|(with_reducible first|apply Kd.C_alloc|apply Kd.C_drewN|apply Kd.C_drew)));(case side4=>exact (Kd.R_reads' HO_6.out).2.1);rintro e w' ⟨rfl,⟨nd,rfl⟩⟩;obtain ⟨Ao74,co74,eo74⟩:=Kd.R_slice HO_11.out;subst eo74;obtain ⟨Ao75,co75,eo75⟩:=Kd.R_slice HO_7.out;subst eo75)|(go_at_call 17;(with_reducible refine (laws_eqIntS.calls kj11 _ _ t313 _ _ t293 false _ ?side1 ?side2 ?side3 ?side4 A66.out).mono ?_);(case side1=>repeat (first|exact (Kd.R_reads' HO_11.out).2.2|(with_reducible first|apply Kd.C_alloc|apply Kd.C_drewN|apply Kd.C_drew)));(case side2=>exact (Kd.R_reads' HO_11.out).2.1);(case side3=>repeat (first|exact (Kd.R_reads' HO_7.out).2.2|(with_reducible first|apply Kd.C_alloc|apply Kd.C_drewN|apply Kd.C_drew)));(case side4=>exact (Kd.R_reads' HO_7.out).2.1);rintro e w' ⟨rfl,⟨nd,rfl⟩⟩))
          go_meet
          case rel=>exact ⟨_,(true),(by first|rfl|(simp;done)|(simp [*];done)),H',⟨by have:=HJ11.out;first|omega|exact Nat.le_refl _⟩,⟨by (with_reducible repeat (first|apply Kd.R_alloc|apply Kd.R_drewN|apply Kd.R_drew));exact Kd.R_mono HO_6.out (fun _ hk=>hk.1)⟩,⟨by (with_reducible repeat (first|apply Kd.R_alloc|apply Kd.R_drewN|apply Kd.R_drew));exact Kd.R_mono HO_7.out (fun _ hk=>hk.1)⟩,⟨by (with_reducible repeat (first|apply Kd.R_alloc|apply Kd.R_drewN|apply Kd.R_drew));exact Kd.R_mono HO_10.out (fun _ hk=>hk.1)⟩,⟨by (with_reducible repeat (first|apply Kd.R_alloc|apply Kd.R_drewN|apply Kd.R_drew));exact Kd.R_mono HO_11.out (fun _ hk=>hk.1)⟩,⟨by (with_reducible repeat first|apply blk_drewN|apply blk_drew|apply blk_alloc);exact BK276.out⟩,⟨by repeat (first|(with_reducible first|exact HB.out|apply below_alloc|apply pw_below_drewN|apply below_drew1|refine below_set ?_ GE276.out|refine below_set ?_ GE309.out)|exact HB.out)⟩⟩
        ·replace c65:=Bool.eq_false_iff.mpr c65
         subst c65
         rw [if_neg (show ¬ (false = true) by decide)] at H
         have H':=Aside0.mk H
         clear H
         obtain ⟨Ao76,co76,eo76⟩:=Kd.R_slice HO_10.out
         subst eo76
         obtain ⟨Ao77,co77,eo77⟩:=Kd.R_slice HO_6.out
         subst eo77
         go_wp2_with (first|(go_at_call 16;(with_reducible refine (laws_eqByteS.calls kj11 _ _ t310 _ _ t290 false _ ?side1 ?side2 ?side3 ?side4 A64.out).mono ?_);(case side1=>repeat (first|exact (Kd.R_reads' HO_10.out).2.2|(with_reducible first|apply Kd.C_alloc|apply Kd.C_drewN|apply Kd.C_drew)));(case side2=>exact (Kd.R_reads' HO_10.out).2.1);(case side3=>repeat (first|exact (Kd.R_reads' HO_6.out).2.2|(with_reducible first|apply Kd.C_alloc|apply Kd.C_drewN|apply Kd.C_drew)));(case side4=>exact (Kd.R_reads' HO_6.out).2.1);rintro e w' ⟨rfl,⟨nd,rfl⟩⟩))
         go_meet
         case rel=>exact ⟨_,(true),(by first|rfl|(simp;done)|(simp [*];done)),H',⟨by have:=HJ11.out;first|omega|exact Nat.le_refl _⟩,⟨by (with_reducible repeat (first|apply Kd.R_alloc|apply Kd.R_drewN|apply Kd.R_drew));exact Kd.R_mono HO_6.out (fun _ hk=>hk.1)⟩,⟨by (with_reducible repeat (first|apply Kd.R_alloc|apply Kd.R_drewN|apply Kd.R_drew));exact Kd.R_mono HO_7.out (fun _ hk=>hk.1)⟩,⟨by (with_reducible repeat (first|apply Kd.R_alloc|apply Kd.R_drewN|apply Kd.R_drew));exact Kd.R_mono HO_10.out (fun _ hk=>hk.1)⟩,⟨by (with_reducible repeat (first|apply Kd.R_alloc|apply Kd.R_drewN|apply Kd.R_drew));exact Kd.R_mono HO_11.out (fun _ hk=>hk.1)⟩,⟨by (with_reducible repeat first|apply blk_drewN|apply blk_drew|apply blk_alloc);exact BK276.out⟩,⟨by repeat (first|(with_reducible first|exact HB.out|apply below_alloc|apply pw_below_drewN|apply below_drew1|refine below_set ?_ GE276.out|refine below_set ?_ GE309.out)|exact HB.out)⟩⟩
      case rest =>
       clear HC52
       try clear c1;try clear c2;try clear p2;try clear c3;try clear c4;try clear c4b0;try clear c5;try clear c6;try clear c7;try clear c9;try clear c11;try clear c12;try clear c14;try clear c15;try clear c16;try clear c27;try clear c34;try clear c36;try clear c47;try clear c50;try clear c60;try clear c63;try clear c63b0;try clear c65;try clear c67;try clear hcz14_0;try clear hcz14_1;try clear hcz14_2;try clear hcz14_3;try clear hcz16_0;try clear hcz16_1;try clear hcz16_2;try clear hcz16_3;try clear hcz23_0;try clear hcz23_1;try clear hcz23_2;try clear hcz23_3;try clear hcz28_0;try clear hcz28_1;try clear hcz28_2;try clear hcz28_3;try clear hcz61_0;try clear hcz61_1;try clear hcz61_2;try clear hcz61_3;try clear hcz6_0;try clear hcz6_1;try clear hcz6_2;try clear hcz6_3;try clear hfz14_0;try clear hfz14_1;try clear hfz14_2;try clear hfz14_3;try clear hfz16_0;try clear hfz16_1;try clear hfz16_2;try clear hfz16_3;try clear hfz23_0;try clear hfz23_1;try clear hfz23_2;try clear hfz23_3;try clear hfz28_0;try clear hfz28_1;try clear hfz28_2;try clear hfz28_3;try clear hfz61_0;try clear hfz61_1;try clear hfz61_2;try clear hfz61_3;try clear hfz6_0;try clear hfz6_1;try clear hfz6_2;try clear hfz6_3;try clear p2
       obtain ⟨kq,x82_51,rfl,HA,HJ51,HO_6,HO_7,HO_10,HO_11,BK276,HB⟩:=hcut
       cases kq with
       | zero=>exact absurd HA.out (by simp [laws_FnExactRecordAt.j1])
       | succ kj51 =>
        have H:=HA.out
        clear HA
        simp only [laws_FnExactRecordAt.j1] at H
        by_cases c78 : x82_51 = true
        ·subst c78
         rw [if_pos rfl] at H
         obtain rfl:=Option.some.inj H
         go_wp2
         go_ret
         exact ⟨by first|rfl|(simp [*,errW_none,errW_some] <;> rfl),by repeat (first|(with_reducible first|exact HB.out|apply below_alloc|apply pw_below_drewN|apply below_drew1|refine below_set ?_ GE276.out)|exact HB.out)⟩
        ·replace c78:=Bool.eq_false_iff.mpr c78
         subst c78
         rw [if_neg (show ¬ (false = true) by decide)] at H
         replace H:=Option.bind_eq_some_iff.mp H
         obtain ⟨⟨t339,t340⟩,A790,H⟩:=H
         replace H : ((laws_markIntS.f kj51 t313 t339).bind fun bt341=>((laws_heldByteS.f kj51 t340 1).bind fun t343=>(if t343 < 0 then (some false) else ((laws_heldIntS.f kj51 bt341.2 t343).bind fun t344=>(if t344 < 0 then (some false) else (if t344 = bt341.1 then ((laws_toSpace.f kj51 l0_0 l0_1 l0_2 l0_3).bind fun bt345=>((impl_RecordAt.f kj51 bt345.1 bt345.2.1 bt345.2.2.1 bt345.2.2.2 a1).bind fun bt357=>((laws_eqByteS.f kj51 bt357.1 t290).bind fun t364=>(if t364 = true then ((laws_eqIntS.f kj51 bt357.2.1 t293).bind fun t365=>(if t365 = true then (laws_FnExactRecordAt.j2 kj51 t340 bt341.2 bt341.1 (bt357.2.2 != t296)) else (laws_FnExactRecordAt.j2 kj51 t340 bt341.2 bt341.1 true))) else (laws_FnExactRecordAt.j2 kj51 t340 bt341.2 bt341.1 true))))) else (some false))))))) = some r:=H
         have A79:=Aside0.mk A790
         clear A790
         replace H:=Option.bind_eq_some_iff.mp H
         obtain ⟨⟨t341,t342⟩,A800,H⟩:=H
         replace H : ((laws_heldByteS.f kj51 t340 1).bind fun t343=>(if t343 < 0 then (some false) else ((laws_heldIntS.f kj51 t342 t343).bind fun t344=>(if t344 < 0 then (some false) else (if t344 = t341 then ((laws_toSpace.f kj51 l0_0 l0_1 l0_2 l0_3).bind fun bt345=>((impl_RecordAt.f kj51 bt345.1 bt345.2.1 bt345.2.2.1 bt345.2.2.2 a1).bind fun bt357=>((laws_eqByteS.f kj51 bt357.1 t290).bind fun t364=>(if t364 = true then ((laws_eqIntS.f kj51 bt357.2.1 t293).bind fun t365=>(if t365 = true then (laws_FnExactRecordAt.j2 kj51 t340 t342 t341 (bt357.2.2 != t296)) else (laws_FnExactRecordAt.j2 kj51 t340 t342 t341 true))) else (laws_FnExactRecordAt.j2 kj51 t340 t342 t341 true))))) else (some false)))))) = some r:=H
         have A80:=Aside0.mk A800
         clear A800
         replace H:=Option.bind_eq_some_iff.mp H
         obtain ⟨t343,A810,H⟩:=H
         have A81:=Aside0.mk A810
         clear A810
         by_cases c82 : t343 < 0
         ·rw [if_pos c82] at H
          have c82b0 : decide (t343 < 0) = true:=decide_eq_true c82
          clear c82
          obtain rfl:=Option.some.inj H
          obtain ⟨Ao83,co83,eo83⟩:=Kd.R_slice HO_10.out
          subst eo83
          go_wp2_with (first|((with_reducible refine gate_callee (f:=18) rfl ?_);refine goesL_ (some 85) rfl rfl Try.func18 (by kernel_rfl) rfl #[.slice Ao83 t310.length co83,.int .i64 1] rfl (by (try simp only [List.map_toArray,List.map_cons,List.map_nil]);first|done|rfl|(simp only [List.length_drop,List.length_take];rfl)) ?_;(with_reducible refine (laws_markByteS.calls kj51 (fun k_=>some k_ = (.slice Ao83 t310.length co83 : Value).ownBlock) (.slice Ao83 t310.length co83) t310 1 t339 t340 w _ ?side1 ?side2 A79.out).mono ?_);(case side1=>repeat (first|(with_reducible first|exact HB.out|apply below_alloc|apply pw_below_drewN|apply below_drew1|refine below_set ?_ GE276.out)|exact HB.out));(case side2=>exact Kd.R_tight rfl HO_10.out);rintro e w84 ⟨rfl,hy0,hb,hkp⟩;refine ⟨_,rfl,?_⟩;have n0_:=Aside0.mk (Kd.R_mono (ok':=fun k_=>some k_ ≠ (.slice Ao83 t310.length co83 : Value).ownBlock) (Kd.R_keptB (HO_6.out) hkp (fun k_ hk_ hs_=>(hk_) hs_)) (fun k_ hk_=>hk_.1));have n1_:=Aside0.mk (Kd.R_mono (ok':=fun k_=>some k_ ≠ (v314 : Value).ownBlock) (Kd.R_keptB ((Kd.R_apart' HO_7.out (Kd.R_typed HO_10.out) (by decide))) hkp (fun k_ hk_ hs_=>(hk_.2) hs_)) (fun k_ hk_=>hk_.1.1));have n2_:=Aside0.mk (Kd.R_reok rfl hy0 (fun k_ e_=>HO_10.out.1 k_ e_));have n3_:=Aside0.mk (Kd.R_mono (ok':=fun k_=>some k_ ≠ (v294 : Value).ownBlock) (Kd.R_keptB ((Kd.R_apart' HO_11.out (Kd.R_typed HO_10.out) (by decide))) hkp (fun k_ hk_ hs_=>(hk_.2) hs_)) (fun k_ hk_=>hk_.1.1));have n4_:=Aside0.mk (blk_kept (by (with_reducible repeat first|apply blk_drewN|apply blk_drew|apply blk_alloc);exact BK276.out) hkp (fun hs_=>(fun e_=>(Kd.R_ne HO_10.out BK276.out (by decide)) e_) hs_));have n5_:=Aside0.mk (hb);clear HO_6;clear HO_7;clear HO_10;clear HO_11;clear BK276;clear HB;have HO_6:=n0_;have HO_7:=n1_;have HO_10:=n2_;have HO_11:=n3_;have BK276:=n4_;have HB:=n5_;clear n0_ n1_ n2_ n3_ n4_ n5_;(try clear hb);(try clear hkp);(try clear hy0);obtain ⟨Ao85,co85,eo85⟩:=Kd.R_slice HO_11.out;subst eo85)|((with_reducible refine gate_callee (f:=19) rfl ?_);refine goesL_ (some 88) rfl rfl Try.func19 (by kernel_rfl) rfl #[.slice Ao85 t313.length co85,.int .i64 t339] rfl (by (try simp only [List.map_toArray,List.map_cons,List.map_nil]);first|done|rfl|(simp only [List.length_drop,List.length_take];rfl)) ?_;(with_reducible refine (laws_markIntS.calls kj51 (fun k_=>some k_ = (.slice Ao85 t313.length co85 : Value).ownBlock) (.slice Ao85 t313.length co85) t313 t339 t341 t342 w _ ?side1 ?side2 A80.out).mono ?_);(case side1=>repeat (first|(with_reducible first|exact HB.out|apply below_alloc|apply pw_below_drewN|apply below_drew1|refine below_set ?_ GE276.out)|exact HB.out));(case side2=>exact Kd.R_tight rfl HO_11.out);rintro e w86 ⟨rfl,hy0,hb,hkp⟩;refine ⟨_,rfl,?_⟩;have n0_:=Aside0.mk (Kd.R_mono (ok':=fun k_=>some k_ ≠ (.slice Ao83 t310.length co83 : Value).ownBlock) (Kd.R_keptB ((Kd.R_apart' HO_6.out (Kd.R_typed HO_11.out) (by decide))) hkp (fun k_ hk_ hs_=>(hk_.2) hs_)) (fun k_ hk_=>hk_.1.1));have n1_:=Aside0.mk (Kd.R_mono (ok':=fun k_=>some k_ ≠ (.slice Ao85 t313.length co85 : Value).ownBlock) (Kd.R_keptB (HO_7.out) hkp (fun k_ hk_ hs_=>(hk_) hs_)) (fun k_ hk_=>hk_.1));have n2_:=Aside0.mk (Kd.R_mono (ok':=fun k_=>some k_ ≠ (v291 : Value).ownBlock) (Kd.R_keptB ((Kd.R_apart' HO_10.out (Kd.R_typed HO_11.out) (by decide))) hkp (fun k_ hk_ hs_=>(hk_.2) hs_)) (fun k_ hk_=>hk_.1.1));have n3_:=Aside0.mk (Kd.R_reok rfl hy0 (fun k_ e_=>HO_11.out.1 k_ e_));have n4_:=Aside0.mk (blk_kept (by (with_reducible repeat first|apply blk_drewN|apply blk_drew|apply blk_alloc);exact BK276.out) hkp (fun hs_=>(fun e_=>(Kd.R_ne HO_11.out BK276.out (by decide)) e_) hs_));have n5_:=Aside0.mk (hb);clear HO_6;clear HO_7;clear HO_10;clear HO_11;clear BK276;clear HB;have HO_6:=n0_;have HO_7:=n1_;have HO_10:=n2_;have HO_11:=n3_;have BK276:=n4_;have HB:=n5_;clear n0_ n1_ n2_ n3_ n4_ n5_;(try clear hb);(try clear hkp);(try clear hy0))|((with_reducible refine gate_callee (f:=20) rfl ?_);refine goesL_ (some 91) rfl rfl Try.func20 (by kernel_rfl) rfl #[.slice Ao83 t340.length co83,.int .i64 1] rfl (by (try simp only [List.map_toArray,List.map_cons,List.map_nil]);first|done|(rw [show t340.length = t310.length from (Kd.R_reads' HO_10.out).1.symm] <;> rfl)|rfl|(simp only [List.length_drop,List.length_take];rfl)) ?_;(with_reducible refine (laws_heldByteS.calls kj51 _ _ t340 1 t343 _ ?side1 ?side2 A81.out).mono ?_);(case side1=>repeat (first|exact (Kd.R_reads' HO_10.out).2.2|(with_reducible first|apply Kd.C_alloc|apply Kd.C_drewN|apply Kd.C_drew)));(case side2=>rw [show t340.length = t310.length from (Kd.R_reads' HO_10.out).1.symm];exact (Kd.R_reads' HO_10.out).2.1);rintro e w' ⟨rfl,⟨nd,rfl⟩⟩;refine ⟨_,rfl,?_⟩))
          go_ret
          exact ⟨by first|rfl|(simp [*,errW_none,errW_some] <;> rfl),by repeat (first|(with_reducible first|exact HB.out|apply below_alloc|apply pw_below_drewN|apply below_drew1|refine below_set ?_ GE276.out)|exact HB.out)⟩
         ·rw [if_neg c82] at H
          have c82b0 : decide (t343 < 0) = false:=decide_eq_false c82
          clear c82
          replace H:=Option.bind_eq_some_iff.mp H
          obtain ⟨t344,A870,H⟩:=H
          have A87:=Aside0.mk A870
          clear A870
          by_cases c88 : t344 < 0
          ·rw [if_pos c88] at H
           have c88b0 : decide (t344 < 0) = true:=decide_eq_true c88
           clear c88
           obtain rfl:=Option.some.inj H
           obtain ⟨Ao89,co89,eo89⟩:=Kd.R_slice HO_10.out
           subst eo89
           go_wp2_with (first|((with_reducible refine gate_callee (f:=18) rfl ?_);refine goesL_ (some 85) rfl rfl Try.func18 (by kernel_rfl) rfl #[.slice Ao89 t310.length co89,.int .i64 1] rfl (by (try simp only [List.map_toArray,List.map_cons,List.map_nil]);first|done|rfl|(simp only [List.length_drop,List.length_take];rfl)) ?_;(with_reducible refine (laws_markByteS.calls kj51 (fun k_=>some k_ = (.slice Ao89 t310.length co89 : Value).ownBlock) (.slice Ao89 t310.length co89) t310 1 t339 t340 w _ ?side1 ?side2 A79.out).mono ?_);(case side1=>repeat (first|(with_reducible first|exact HB.out|apply below_alloc|apply pw_below_drewN|apply below_drew1|refine below_set ?_ GE276.out)|exact HB.out));(case side2=>exact Kd.R_tight rfl HO_10.out);rintro e w90 ⟨rfl,hy0,hb,hkp⟩;refine ⟨_,rfl,?_⟩;have n0_:=Aside0.mk (Kd.R_mono (ok':=fun k_=>some k_ ≠ (.slice Ao89 t310.length co89 : Value).ownBlock) (Kd.R_keptB (HO_6.out) hkp (fun k_ hk_ hs_=>(hk_) hs_)) (fun k_ hk_=>hk_.1));have n1_:=Aside0.mk (Kd.R_mono (ok':=fun k_=>some k_ ≠ (v314 : Value).ownBlock) (Kd.R_keptB ((Kd.R_apart' HO_7.out (Kd.R_typed HO_10.out) (by decide))) hkp (fun k_ hk_ hs_=>(hk_.2) hs_)) (fun k_ hk_=>hk_.1.1));have n2_:=Aside0.mk (Kd.R_reok rfl hy0 (fun k_ e_=>HO_10.out.1 k_ e_));have n3_:=Aside0.mk (Kd.R_mono (ok':=fun k_=>some k_ ≠ (v294 : Value).ownBlock) (Kd.R_keptB ((Kd.R_apart' HO_11.out (Kd.R_typed HO_10.out) (by decide))) hkp (fun k_ hk_ hs_=>(hk_.2) hs_)) (fun k_ hk_=>hk_.1.1));have n4_:=Aside0.mk (blk_kept (by (with_reducible repeat first|apply blk_drewN|apply blk_drew|apply blk_alloc);exact BK276.out) hkp (fun hs_=>(fun e_=>(Kd.R_ne HO_10.out BK276.out (by decide)) e_) hs_));have n5_:=Aside0.mk (hb);clear HO_6;clear HO_7;clear HO_10;clear HO_11;clear BK276;clear HB;have HO_6:=n0_;have HO_7:=n1_;have HO_10:=n2_;have HO_11:=n3_;have BK276:=n4_;have HB:=n5_;clear n0_ n1_ n2_ n3_ n4_ n5_;(try clear hb);(try clear hkp);(try clear hy0);obtain ⟨Ao91,co91,eo91⟩:=Kd.R_slice HO_11.out;subst eo91)|((with_reducible refine gate_callee (f:=19) rfl ?_);refine goesL_ (some 88) rfl rfl Try.func19 (by kernel_rfl) rfl #[.slice Ao91 t313.length co91,.int .i64 t339] rfl (by (try simp only [List.map_toArray,List.map_cons,List.map_nil]);first|done|rfl|(simp only [List.length_drop,List.length_take];rfl)) ?_;(with_reducible refine (laws_markIntS.calls kj51 (fun k_=>some k_ = (.slice Ao91 t313.length co91 : Value).ownBlock) (.slice Ao91 t313.length co91) t313 t339 t341 t342 w _ ?side1 ?side2 A80.out).mono ?_);(case side1=>repeat (first|(with_reducible first|exact HB.out|apply below_alloc|apply pw_below_drewN|apply below_drew1|refine below_set ?_ GE276.out)|exact HB.out));(case side2=>exact Kd.R_tight rfl HO_11.out);rintro e w92 ⟨rfl,hy0,hb,hkp⟩;refine ⟨_,rfl,?_⟩;have n0_:=Aside0.mk (Kd.R_mono (ok':=fun k_=>some k_ ≠ (.slice Ao89 t310.length co89 : Value).ownBlock) (Kd.R_keptB ((Kd.R_apart' HO_6.out (Kd.R_typed HO_11.out) (by decide))) hkp (fun k_ hk_ hs_=>(hk_.2) hs_)) (fun k_ hk_=>hk_.1.1));have n1_:=Aside0.mk (Kd.R_mono (ok':=fun k_=>some k_ ≠ (.slice Ao91 t313.length co91 : Value).ownBlock) (Kd.R_keptB (HO_7.out) hkp (fun k_ hk_ hs_=>(hk_) hs_)) (fun k_ hk_=>hk_.1));have n2_:=Aside0.mk (Kd.R_mono (ok':=fun k_=>some k_ ≠ (v291 : Value).ownBlock) (Kd.R_keptB ((Kd.R_apart' HO_10.out (Kd.R_typed HO_11.out) (by decide))) hkp (fun k_ hk_ hs_=>(hk_.2) hs_)) (fun k_ hk_=>hk_.1.1));have n3_:=Aside0.mk (Kd.R_reok rfl hy0 (fun k_ e_=>HO_11.out.1 k_ e_));have n4_:=Aside0.mk (blk_kept (by (with_reducible repeat first|apply blk_drewN|apply blk_drew|apply blk_alloc);exact BK276.out) hkp (fun hs_=>(fun e_=>(Kd.R_ne HO_11.out BK276.out (by decide)) e_) hs_));have n5_:=Aside0.mk (hb);clear HO_6;clear HO_7;clear HO_10;clear HO_11;clear BK276;clear HB;have HO_6:=n0_;have HO_7:=n1_;have HO_10:=n2_;have HO_11:=n3_;have BK276:=n4_;have HB:=n5_;clear n0_ n1_ n2_ n3_ n4_ n5_;(try clear hb);(try clear hkp);(try clear hy0))|((with_reducible refine gate_callee (f:=20) rfl ?_);refine goesL_ (some 91) rfl rfl Try.func20 (by kernel_rfl) rfl #[.slice Ao89 t340.length co89,.int .i64 1] rfl (by (try simp only [List.map_toArray,List.map_cons,List.map_nil]);first|done|(rw [show t340.length = t310.length from (Kd.R_reads' HO_10.out).1.symm] <;> rfl)|rfl|(simp only [List.length_drop,List.length_take];rfl)) ?_;(with_reducible refine (laws_heldByteS.calls kj51 _ _ t340 1 t343 _ ?side1 ?side2 A81.out).mono ?_);(case side1=>repeat (first|exact (Kd.R_reads' HO_10.out).2.2|(with_reducible first|apply Kd.C_alloc|apply Kd.C_drewN|apply Kd.C_drew)));(case side2=>rw [show t340.length = t310.length from (Kd.R_reads' HO_10.out).1.symm];exact (Kd.R_reads' HO_10.out).2.1);rintro e w' ⟨rfl,⟨nd,rfl⟩⟩;refine ⟨_,rfl,?_⟩)|((with_reducible refine gate_callee (f:=21) rfl ?_);refine goesL_ (some 96) rfl rfl Try.func21 (by kernel_rfl) rfl #[.slice Ao91 t342.length co91,.int .i64 t343] rfl (by (try simp only [List.map_toArray,List.map_cons,List.map_nil]);first|done|(rw [show t342.length = t313.length from (Kd.R_reads' HO_11.out).1.symm] <;> rfl)|rfl|(simp only [List.length_drop,List.length_take];rfl)) ?_;(with_reducible refine (laws_heldIntS.calls kj51 _ _ t342 t343 t344 _ ?side1 ?side2 A87.out).mono ?_);(case side1=>repeat (first|exact (Kd.R_reads' HO_11.out).2.2|(with_reducible first|apply Kd.C_alloc|apply Kd.C_drewN|apply Kd.C_drew)));(case side2=>rw [show t342.length = t313.length from (Kd.R_reads' HO_11.out).1.symm];exact (Kd.R_reads' HO_11.out).2.1);rintro e w' ⟨rfl,⟨nd,rfl⟩⟩;refine ⟨_,rfl,?_⟩))
           go_ret
           exact ⟨by first|rfl|(simp [*,errW_none,errW_some] <;> rfl),by repeat (first|(with_reducible first|exact HB.out|apply below_alloc|apply pw_below_drewN|apply below_drew1|refine below_set ?_ GE276.out)|exact HB.out)⟩
          ·rw [if_neg c88] at H
           have c88b0 : decide (t344 < 0) = false:=decide_eq_false c88
           clear c88
           by_cases c93 : t344 = t341
           ·rw [if_pos c93] at H
            have c93b0 : (t344 == t341) = true:=beq_iff_eq.mpr c93
            have c93b1 : (t344 != t341) = false:=bne_eq_false_iff_eq.mpr c93
            clear c93
            replace H:=Option.bind_eq_some_iff.mp H
            obtain ⟨⟨t345,t348,t351,t354⟩,A940,H⟩:=H
            replace H : ((impl_RecordAt.f kj51 t345 t348 t351 t354 a1).bind fun bt357=>((laws_eqByteS.f kj51 bt357.1 t290).bind fun t364=>(if t364 = true then ((laws_eqIntS.f kj51 bt357.2.1 t293).bind fun t365=>(if t365 = true then (laws_FnExactRecordAt.j2 kj51 t340 t342 t341 (bt357.2.2 != t296)) else (laws_FnExactRecordAt.j2 kj51 t340 t342 t341 true))) else (laws_FnExactRecordAt.j2 kj51 t340 t342 t341 true)))) = some r:=H
            have A94:=Aside0.mk A940
            clear A940
            replace H:=Option.bind_eq_some_iff.mp H
            obtain ⟨⟨t357,t360,t363⟩,A950,H⟩:=H
            replace H : ((laws_eqByteS.f kj51 t357 t290).bind fun t364=>(if t364 = true then ((laws_eqIntS.f kj51 t360 t293).bind fun t365=>(if t365 = true then (laws_FnExactRecordAt.j2 kj51 t340 t342 t341 (t363 != t296)) else (laws_FnExactRecordAt.j2 kj51 t340 t342 t341 true))) else (laws_FnExactRecordAt.j2 kj51 t340 t342 t341 true))) = some r:=H
            have A95:=Aside0.mk A950
            clear A950
            have HC96:=Aside0.mk H
            clear H
            obtain ⟨Ao97,co97,eo97⟩:=Kd.R_slice HO_10.out
            subst eo97
            go_upto_region 29 with (first|((with_reducible refine gate_callee (f:=18) rfl ?_);refine goesL_ (some 85) rfl rfl Try.func18 (by kernel_rfl) rfl #[.slice Ao97 t310.length co97,.int .i64 1] rfl (by (try simp only [List.map_toArray,List.map_cons,List.map_nil]);first|done|rfl|(simp only [List.length_drop,List.length_take];rfl)) ?_;(with_reducible refine (laws_markByteS.calls kj51 (fun k_=>some k_ = (.slice Ao97 t310.length co97 : Value).ownBlock) (.slice Ao97 t310.length co97) t310 1 t339 t340 w _ ?side1 ?side2 A79.out).mono ?_);(case side1=>repeat (first|(with_reducible first|exact HB.out|apply below_alloc|apply pw_below_drewN|apply below_drew1|refine below_set ?_ GE276.out)|exact HB.out));(case side2=>exact Kd.R_tight rfl HO_10.out);rintro e w98 ⟨rfl,hy0,hb,hkp⟩;refine ⟨_,rfl,?_⟩;have n0_:=Aside0.mk (Kd.R_mono (ok':=fun k_=>some k_ ≠ (.slice Ao97 t310.length co97 : Value).ownBlock) (Kd.R_keptB (HO_6.out) hkp (fun k_ hk_ hs_=>(hk_) hs_)) (fun k_ hk_=>hk_.1));have n1_:=Aside0.mk (Kd.R_mono (ok':=fun k_=>some k_ ≠ (v314 : Value).ownBlock) (Kd.R_keptB ((Kd.R_apart' HO_7.out (Kd.R_typed HO_10.out) (by decide))) hkp (fun k_ hk_ hs_=>(hk_.2) hs_)) (fun k_ hk_=>hk_.1.1));have n2_:=Aside0.mk (Kd.R_reok rfl hy0 (fun k_ e_=>HO_10.out.1 k_ e_));have n3_:=Aside0.mk (Kd.R_mono (ok':=fun k_=>some k_ ≠ (v294 : Value).ownBlock) (Kd.R_keptB ((Kd.R_apart' HO_11.out (Kd.R_typed HO_10.out) (by decide))) hkp (fun k_ hk_ hs_=>(hk_.2) hs_)) (fun k_ hk_=>hk_.1.1));have n4_:=Aside0.mk (blk_kept (by (with_reducible repeat first|apply blk_drewN|apply blk_drew|apply blk_alloc);exact BK276.out) hkp (fun hs_=>(fun e_=>(Kd.R_ne HO_10.out BK276.out (by decide)) e_) hs_));have n5_:=Aside0.mk (hb);clear HO_6;clear HO_7;clear HO_10;clear HO_11;clear BK276;clear HB;have HO_6:=n0_;have HO_7:=n1_;have HO_10:=n2_;have HO_11:=n3_;have BK276:=n4_;have HB:=n5_;clear n0_ n1_ n2_ n3_ n4_ n5_;(try clear hb);(try clear hkp);(try clear hy0);obtain ⟨Ao99,co99,eo99⟩:=Kd.R_slice HO_11.out;subst eo99)|((with_reducible refine gate_callee (f:=19) rfl ?_);refine goesL_ (some 88) rfl rfl Try.func19 (by kernel_rfl) rfl #[.slice Ao99 t313.length co99,.int .i64 t339] rfl (by (try simp only [List.map_toArray,List.map_cons,List.map_nil]);first|done|rfl|(simp only [List.length_drop,List.length_take];rfl)) ?_;(with_reducible refine (laws_markIntS.calls kj51 (fun k_=>some k_ = (.slice Ao99 t313.length co99 : Value).ownBlock) (.slice Ao99 t313.length co99) t313 t339 t341 t342 w _ ?side1 ?side2 A80.out).mono ?_);(case side1=>repeat (first|(with_reducible first|exact HB.out|apply below_alloc|apply pw_below_drewN|apply below_drew1|refine below_set ?_ GE276.out)|exact HB.out));(case side2=>exact Kd.R_tight rfl HO_11.out);rintro e w100 ⟨rfl,hy0,hb,hkp⟩;refine ⟨_,rfl,?_⟩;have n0_:=Aside0.mk (Kd.R_mono (ok':=fun k_=>some k_ ≠ (.slice Ao97 t310.length co97 : Value).ownBlock) (Kd.R_keptB ((Kd.R_apart' HO_6.out (Kd.R_typed HO_11.out) (by decide))) hkp (fun k_ hk_ hs_=>(hk_.2) hs_)) (fun k_ hk_=>hk_.1.1));have n1_:=Aside0.mk (Kd.R_mono (ok':=fun k_=>some k_ ≠ (.slice Ao99 t313.length co99 : Value).ownBlock) (Kd.R_keptB (HO_7.out) hkp (fun k_ hk_ hs_=>(hk_) hs_)) (fun k_ hk_=>hk_.1));have n2_:=Aside0.mk (Kd.R_mono (ok':=fun k_=>some k_ ≠ (v291 : Value).ownBlock) (Kd.R_keptB ((Kd.R_apart' HO_10.out (Kd.R_typed HO_11.out) (by decide))) hkp (fun k_ hk_ hs_=>(hk_.2) hs_)) (fun k_ hk_=>hk_.1.1));have n3_:=Aside0.mk (Kd.R_reok rfl hy0 (fun k_ e_=>HO_11.out.1 k_ e_));have n4_:=Aside0.mk (blk_kept (by (with_reducible repeat first|apply blk_drewN|apply blk_drew|apply blk_alloc);exact BK276.out) hkp (fun hs_=>(fun e_=>(Kd.R_ne HO_11.out BK276.out (by decide)) e_) hs_));have n5_:=Aside0.mk (hb);clear HO_6;clear HO_7;clear HO_10;clear HO_11;clear BK276;clear HB;have HO_6:=n0_;have HO_7:=n1_;have HO_10:=n2_;have HO_11:=n3_;have BK276:=n4_;have HB:=n5_;clear n0_ n1_ n2_ n3_ n4_ n5_;(try clear hb);(try clear hkp);(try clear hy0))|((with_reducible refine gate_callee (f:=20) rfl ?_);refine goesL_ (some 91) rfl rfl Try.func20 (by kernel_rfl) rfl #[.slice Ao97 t340.length co97,.int .i64 1] rfl (by (try simp only [List.map_toArray,List.map_cons,List.map_nil]);first|done|(rw [show t340.length = t310.length from (Kd.R_reads' HO_10.out).1.symm] <;> rfl)|rfl|(simp only [List.length_drop,List.length_take];rfl)) ?_;(with_reducible refine (laws_heldByteS.calls kj51 _ _ t340 1 t343 _ ?side1 ?side2 A81.out).mono ?_);(case side1=>repeat (first|exact (Kd.R_reads' HO_10.out).2.2|(with_reducible first|apply Kd.C_alloc|apply Kd.C_drewN|apply Kd.C_drew)));(case side2=>rw [show t340.length = t310.length from (Kd.R_reads' HO_10.out).1.symm];exact (Kd.R_reads' HO_10.out).2.1);rintro e w' ⟨rfl,⟨nd,rfl⟩⟩;refine ⟨_,rfl,?_⟩)|((with_reducible refine gate_callee (f:=21) rfl ?_);refine goesL_ (some 96) rfl rfl Try.func21 (by kernel_rfl) rfl #[.slice Ao99 t342.length co99,.int .i64 t343] rfl (by (try simp only [List.map_toArray,List.map_cons,List.map_nil]);first|done|(rw [show t342.length = t313.length from (Kd.R_reads' HO_11.out).1.symm] <;> rfl)|rfl|(simp only [List.length_drop,List.length_take];rfl)) ?_;(with_reducible refine (laws_heldIntS.calls kj51 _ _ t342 t343 t344 _ ?side1 ?side2 A87.out).mono ?_);(case side1=>repeat (first|exact (Kd.R_reads' HO_11.out).2.2|(with_reducible first|apply Kd.C_alloc|apply Kd.C_drewN|apply Kd.C_drew)));(case side2=>rw [show t342.length = t313.length from (Kd.R_reads' HO_11.out).1.symm];exact (Kd.R_reads' HO_11.out).2.1);rintro e w' ⟨rfl,⟨nd,rfl⟩⟩;refine ⟨_,rfl,?_⟩;have hcz101_0 : w100.cell? ⟨gb276,0,none⟩ = some (.slice A0_0 l0_0.length c0_0):=(blk_cell BK276.out 0).trans rfl;have hcz101_1 : w100.cell? ⟨gb276,1,none⟩ = some (.slice A0_1 l0_1.length c0_1):=(blk_cell BK276.out 1).trans rfl;have hcz101_2 : w100.cell? ⟨gb276,2,none⟩ = some (.slice A0_2 l0_2.length c0_2):=(blk_cell BK276.out 2).trans rfl;have hcz101_3 : w100.cell? ⟨gb276,3,none⟩ = some (.slice A0_3 l0_3.length c0_3):=(blk_cell BK276.out 3).trans rfl;have hfz101_0:=blk_frozen BK276.out 0;have hfz101_1:=blk_frozen BK276.out 1;have hfz101_2:=blk_frozen BK276.out 2;have hfz101_3:=blk_frozen BK276.out 3)|((with_reducible refine gate_callee (f:=9) rfl ?_);refine goesL_ (some 104) rfl rfl Try.func9 (by kernel_rfl) rfl #[.agg #[.slice A0_0 l0_0.length c0_0,.slice A0_1 l0_1.length c0_1,.slice A0_2 l0_2.length c0_2,.slice A0_3 l0_3.length c0_3]] rfl (by (try simp only [List.map_toArray,List.map_cons,List.map_nil]);first|done|rfl|(simp only [List.length_drop,List.length_take];rfl)) ?_;(with_reducible refine (laws_toSpace.calls kj51 _ _ l0_0 _ _ l0_1 _ _ l0_2 _ _ l0_3 t345 t348 t351 t354 _ ?side1 ?side2 ?side3 ?side4 ?side5 ?side6 ?side7 ?side8 A94.out).mono ?_);(case side1=>repeat (first|exact (Kd.C_below HR0_0.out (by repeat (first|(with_reducible first|exact HB.out|apply below_alloc|apply pw_below_drewN|apply below_drew1|refine below_set ?_ GE276.out)|exact HB.out)))|(with_reducible first|apply Kd.C_alloc|apply Kd.C_drewN|apply Kd.C_drew)));(case side2=>exact HC0_0.out);(case side3=>repeat (first|exact (Kd.C_below HR0_1.out (by repeat (first|(with_reducible first|exact HB.out|apply below_alloc|apply pw_below_drewN|apply below_drew1|refine below_set ?_ GE276.out)|exact HB.out)))|(with_reducible first|apply Kd.C_alloc|apply Kd.C_drewN|apply Kd.C_drew)));(case side4=>exact HC0_1.out);(case side5=>repeat (first|exact (Kd.C_below HR0_2.out (by repeat (first|(with_reducible first|exact HB.out|apply below_alloc|apply pw_below_drewN|apply below_drew1|refine below_set ?_ GE276.out)|exact HB.out)))|(with_reducible first|apply Kd.C_alloc|apply Kd.C_drewN|apply Kd.C_drew)));(case side6=>exact HC0_2.out);(case side7=>repeat (first|exact (Kd.C_below HR0_3.out (by repeat (first|(with_reducible first|exact HB.out|apply below_alloc|apply pw_below_drewN|apply below_drew1|refine below_set ?_ GE276.out)|exact HB.out)))|(with_reducible first|apply Kd.C_alloc|apply Kd.C_drewN|apply Kd.C_drew)));(case side8=>exact HC0_3.out);rintro e w102 ⟨v346,v349,v352,v355,rfl,ho0,ho1,ho2,ho3,hb⟩;refine ⟨_,rfl,?_⟩;have n0_:=Aside0.mk (Kd.R_elder' (by (with_reducible repeat (first|apply Kd.R_alloc|apply Kd.R_drewN|apply Kd.R_drew));exact HO_6.out) (Kd.R_base ho1) hb);have n1_:=Aside0.mk (Kd.R_mono (Kd.R_told (Kd.R_told (Kd.R_old (by (with_reducible repeat (first|apply Kd.R_alloc|apply Kd.R_drewN|apply Kd.R_drew));exact HO_7.out) hb) (Kd.R_base ho2)) (Kd.R_base ho3)) (fun _ h_=>h_.1));have n2_:=Aside0.mk (Kd.R_elder' (by (with_reducible repeat (first|apply Kd.R_alloc|apply Kd.R_drewN|apply Kd.R_drew));exact HO_10.out) (Kd.R_base ho1) hb);have n3_:=Aside0.mk (Kd.R_mono (Kd.R_told (Kd.R_told (Kd.R_old (by (with_reducible repeat (first|apply Kd.R_alloc|apply Kd.R_drewN|apply Kd.R_drew));exact HO_11.out) hb) (Kd.R_base ho2)) (Kd.R_base ho3)) (fun _ h_=>h_.1));have n4_:=Aside0.mk (Kd.S_lower (Kd.S_new' (Kd.S_new' (Kd.S_mono (Kd.S_bound ho0) (fun k_ h_=>(⟨h_.1,(by first|exact h_.2.1|simpa only [World.size_setCell] using h_.2.1)⟩ : _∧w100.heap.size ≤ k_))) (Kd.R_lt (by (with_reducible repeat (first|apply Kd.R_alloc|apply Kd.R_drewN|apply Kd.R_drew));exact HO_6.out))) (Kd.R_lt (by (with_reducible repeat (first|apply Kd.R_alloc|apply Kd.R_drewN|apply Kd.R_drew));exact HO_10.out))) (below_size (by repeat (first|(with_reducible first|exact HB.out|apply below_alloc|apply pw_below_drewN|apply below_drew1|refine below_set ?_ GE276.out)|exact HB.out))));have n5_:=Aside0.mk (Kd.R_lower (Kd.R_new' (Kd.R_new' ho1 (Kd.R_lt (by (with_reducible repeat (first|apply Kd.R_alloc|apply Kd.R_drewN|apply Kd.R_drew));exact HO_6.out))) (Kd.R_lt (by (with_reducible repeat (first|apply Kd.R_alloc|apply Kd.R_drewN|apply Kd.R_drew));exact HO_10.out))) (below_size (by repeat (first|(with_reducible first|exact HB.out|apply below_alloc|apply pw_below_drewN|apply below_drew1|refine below_set ?_ GE276.out)|exact HB.out))));have n6_:=Aside0.mk (Kd.R_lower (Kd.R_new' (Kd.R_new' ho2 (Kd.R_lt (by (with_reducible repeat (first|apply Kd.R_alloc|apply Kd.R_drewN|apply Kd.R_drew));exact HO_7.out))) (Kd.R_lt (by (with_reducible repeat (first|apply Kd.R_alloc|apply Kd.R_drewN|apply Kd.R_drew));exact HO_11.out))) (below_size (by repeat (first|(with_reducible first|exact HB.out|apply below_alloc|apply pw_below_drewN|apply below_drew1|refine below_set ?_ GE276.out)|exact HB.out))));have n7_:=Aside0.mk (Kd.R_lower (Kd.R_new' (Kd.R_new' ho3 (Kd.R_lt (by (with_reducible repeat (first|apply Kd.R_alloc|apply Kd.R_drewN|apply Kd.R_drew));exact HO_7.out))) (Kd.R_lt (by (with_reducible repeat (first|apply Kd.R_alloc|apply Kd.R_drewN|apply Kd.R_drew));exact HO_11.out))) (below_size (by repeat (first|(with_reducible first|exact HB.out|apply below_alloc|apply pw_below_drewN|apply below_drew1|refine below_set ?_ GE276.out)|exact HB.out))));have n8_:=Aside0.mk (blk_below (g:=gb276) (o:=.cells #[.slice A0_0 l0_0.length c0_0,.slice A0_1 l0_1.length c0_1,.slice A0_2 l0_2.length c0_2,.slice A0_3 l0_3.length c0_3] 26 (0,0)) (by (with_reducible repeat first|apply blk_drewN|apply blk_drew|apply blk_alloc);exact BK276.out) hb);have n9_:=Aside0.mk (below_step (by repeat (first|(with_reducible first|exact HB.out|apply below_alloc|apply pw_below_drewN|apply below_drew1|refine below_set ?_ GE276.out)|exact HB.out)) hb);clear HO_6;clear HO_7;clear HO_10;clear HO_11;clear BK276;clear HB;have HO_6:=n0_;have HO_7:=n1_;have HO_10:=n2_;have HO_11:=n3_;have HO347:=n4_;have HO350:=n5_;have HO353:=n6_;have HO356:=n7_;have BK276:=n8_;have HB:=n9_;clear n0_ n1_ n2_ n3_ n4_ n5_ n6_ n7_ n8_ n9_;(try clear hb);(try clear hb2);(try clear hk);(try clear hi);(try clear ho0);(try clear ho1);(try clear ho2);(try clear ho3);obtain ⟨Ao103,co103,eo103⟩:=Kd.S_slice HO347.out;subst eo103;obtain ⟨Ao104,co104,eo104⟩:=Kd.R_slice HO350.out;subst eo104;obtain ⟨Ao105,co105,eo105⟩:=Kd.R_slice HO353.out;subst eo105;obtain ⟨Ao106,co106,eo106⟩:=Kd.R_slice HO356.out;subst eo106)|((with_reducible refine gate_callee (f:=15) rfl ?_);refine goesL_ (some 106) rfl rfl Try.func15 (by kernel_rfl) rfl #[.agg #[.slice Ao103 t345.length co103,.slice Ao104 t348.length co104,.slice Ao105 t351.length co105,.slice Ao106 t354.length co106],.int .i64 a1] rfl (by (try simp only [List.map_toArray,List.map_cons,List.map_nil]);first|done|rfl|(simp only [List.length_drop,List.length_take];rfl)) ?_;(with_reducible refine (impl_RecordAt.calls kj51 _ _ t345 _ _ t348 _ _ t351 _ _ t354 a1 t357 t360 t363 _ ?side1 ?side2 ?side3 ?side4 ?side5 ?side6 ?side7 ?side8 A95.out).mono ?_);(case side1=>repeat (first|exact (Kd.S_reads' HO347.out).2.2|(with_reducible first|apply Kd.C_alloc|apply Kd.C_drewN|apply Kd.C_drew)));(case side2=>exact (Kd.S_reads' HO347.out).2.1);(case side3=>repeat (first|exact (Kd.R_reads' HO350.out).2.2|(with_reducible first|apply Kd.C_alloc|apply Kd.C_drewN|apply Kd.C_drew)));(case side4=>exact (Kd.R_reads' HO350.out).2.1);(case side5=>repeat (first|exact (Kd.R_reads' HO353.out).2.2|(with_reducible first|apply Kd.C_alloc|apply Kd.C_drewN|apply Kd.C_drew)));(case side6=>exact (Kd.R_reads' HO353.out).2.1);(case side7=>repeat (first|exact (Kd.R_reads' HO356.out).2.2|(with_reducible first|apply Kd.C_alloc|apply Kd.C_drewN|apply Kd.C_drew)));(case side8=>exact (Kd.R_reads' HO356.out).2.1);rintro e w107 ⟨v358,v361,rfl,ho0,ho1,hb⟩;refine ⟨_,rfl,?_⟩;have n0_:=Aside0.mk (Kd.R_elder' (by (with_reducible repeat (first|apply Kd.R_alloc|apply Kd.R_drewN|apply Kd.R_drew));exact HO_6.out) (Kd.R_base ho0) hb);have n1_:=Aside0.mk (Kd.R_elder' (by (with_reducible repeat (first|apply Kd.R_alloc|apply Kd.R_drewN|apply Kd.R_drew));exact HO_7.out) (Kd.R_base ho1) hb);have n2_:=Aside0.mk (Kd.R_elder' (by (with_reducible repeat (first|apply Kd.R_alloc|apply Kd.R_drewN|apply Kd.R_drew));exact HO_10.out) (Kd.R_base ho0) hb);have n3_:=Aside0.mk (Kd.R_elder' (by (with_reducible repeat (first|apply Kd.R_alloc|apply Kd.R_drewN|apply Kd.R_drew));exact HO_11.out) (Kd.R_base ho1) hb);have n4_:=Aside0.mk (Kd.S_elder' (by (with_reducible repeat (first|apply Kd.S_alloc|apply Kd.S_drewN|apply Kd.S_drew));exact HO347.out) (Kd.R_base ho0) hb);have n5_:=Aside0.mk (Kd.R_elder' (by (with_reducible repeat (first|apply Kd.R_alloc|apply Kd.R_drewN|apply Kd.R_drew));exact HO350.out) (Kd.R_base ho0) hb);have n6_:=Aside0.mk (Kd.R_elder' (by (with_reducible repeat (first|apply Kd.R_alloc|apply Kd.R_drewN|apply Kd.R_drew));exact HO353.out) (Kd.R_base ho1) hb);have n7_:=Aside0.mk (Kd.R_elder' (by (with_reducible repeat (first|apply Kd.R_alloc|apply Kd.R_drewN|apply Kd.R_drew));exact HO356.out) (Kd.R_base ho1) hb);have n8_:=Aside0.mk (Kd.R_lower (Kd.R_new' (Kd.R_new' (Kd.R_new' ho0 (Kd.R_lt (by (with_reducible repeat (first|apply Kd.R_alloc|apply Kd.R_drewN|apply Kd.R_drew));exact HO_6.out))) (Kd.R_lt (by (with_reducible repeat (first|apply Kd.R_alloc|apply Kd.R_drewN|apply Kd.R_drew));exact HO_10.out))) (Kd.R_lt (by (with_reducible repeat (first|apply Kd.R_alloc|apply Kd.R_drewN|apply Kd.R_drew));exact HO350.out))) (below_size (by repeat (first|(with_reducible first|exact HB.out|apply below_alloc|apply pw_below_drewN|apply below_drew1|refine below_set ?_ GE276.out)|exact HB.out))));have n9_:=Aside0.mk (Kd.R_lower (Kd.R_new' (Kd.R_new' (Kd.R_new' (Kd.R_new' ho1 (Kd.R_lt (by (with_reducible repeat (first|apply Kd.R_alloc|apply Kd.R_drewN|apply Kd.R_drew));exact HO_7.out))) (Kd.R_lt (by (with_reducible repeat (first|apply Kd.R_alloc|apply Kd.R_drewN|apply Kd.R_drew));exact HO_11.out))) (Kd.R_lt (by (with_reducible repeat (first|apply Kd.R_alloc|apply Kd.R_drewN|apply Kd.R_drew));exact HO353.out))) (Kd.R_lt (by (with_reducible repeat (first|apply Kd.R_alloc|apply Kd.R_drewN|apply Kd.R_drew));exact HO356.out))) (below_size (by repeat (first|(with_reducible first|exact HB.out|apply below_alloc|apply pw_below_drewN|apply below_drew1|refine below_set ?_ GE276.out)|exact HB.out))));have n10_:=Aside0.mk (blk_below (g:=gb276) (o:=.cells #[.slice A0_0 l0_0.length c0_0,.slice A0_1 l0_1.length c0_1,.slice A0_2 l0_2.length c0_2,.slice A0_3 l0_3.length c0_3] 26 (0,0)) (by (with_reducible repeat first|apply blk_drewN|apply blk_drew|apply blk_alloc);exact BK276.out) hb);have n11_:=Aside0.mk (below_step (by repeat (first|(with_reducible first|exact HB.out|apply below_alloc|apply pw_below_drewN|apply below_drew1|refine below_set ?_ GE276.out)|exact HB.out)) hb);clear HO_6;clear HO_7;clear HO_10;clear HO_11;clear HO347;clear HO350;clear HO353;clear HO356;clear BK276;clear HB;have HO_6:=n0_;have HO_7:=n1_;have HO_10:=n2_;have HO_11:=n3_;have HO347:=n4_;have HO350:=n5_;have HO353:=n6_;have HO356:=n7_;have HO359:=n8_;have HO362:=n9_;have BK276:=n10_;have HB:=n11_;clear n0_ n1_ n2_ n3_ n4_ n5_ n6_ n7_ n8_ n9_ n10_ n11_;(try clear hb);(try clear hb2);(try clear hk);(try clear hi);(try clear ho0);(try clear ho1)))
            (try simp only [Act.put,List.setIfInBounds_toArray,List.set_cons_zero,List.set_cons_succ])
            go_cut [124] (fun v124 wc=>∃ (kq : Nat) (x124_95 : Bool),v124 = .bool x124_95∧Aside0 (laws_FnExactRecordAt.j2 kq t340 t342 t341 x124_95 = some r)∧Aside0 (kq ≤ kj51)∧Aside0 (Kd.R (Kd.int .u8) 5 wc w.heap.size (fun _=>True) (.slice Ao97 t310.length co97) t340)∧Aside0 (Kd.R (Kd.int .i64) 3 wc w.heap.size (fun _=>True) (.slice Ao99 t313.length co99) t342)∧Aside0 (wc.heap[gb276]? = some (.cells #[(.slice A0_0 l0_0.length c0_0),(.slice A0_1 l0_1.length c0_1),(.slice A0_2 l0_2.length c0_2),(.slice A0_3 l0_3.length c0_3)] 26 (0,0)))∧Aside0 (Below w.heap.size w wc))
            case first =>
             have H:=HC96.out
             clear HC96
             replace H:=Option.bind_eq_some_iff.mp H
             obtain ⟨t364,A1080,H⟩:=H
             have A108:=Aside0.mk A1080
             clear A1080
             by_cases c109 : t364 = true
             ·subst c109
              rw [if_pos rfl] at H
              replace H:=Option.bind_eq_some_iff.mp H
              obtain ⟨t365,A1100,H⟩:=H
              have A110:=Aside0.mk A1100
              clear A1100
              by_cases c111 : t365 = true
              ·subst c111
               rw [if_pos rfl] at H
               have H':=Aside0.mk H
               clear H
               obtain ⟨Ao112,co112,eo112⟩:=Kd.R_slice HO359.out
               subst eo112
               obtain ⟨Ao113,co113,eo113⟩:=Kd.R_slice HO_6.out
               subst eo113
               go_wp2_with (first|((with_reducible refine gate_callee (f:=16) rfl ?_);refine goesL_ (some 112) rfl rfl Try.func16 (by kernel_rfl) rfl #[.slice Ao112 t357.length co112,.slice Ao113 t290.length co113] rfl (by (try simp only [List.map_toArray,List.map_cons,List.map_nil]);first|done|rfl|(simp only [List.length_drop,List.length_take];rfl)) ?_;(with_reducible refine (laws_eqByteS.calls kj51 _ _ t357 _ _ t290 true _ ?side1 ?side2 ?side3 ?side4 A108.out).mono ?_);(case side1=>repeat (first|exact (Kd.R_reads' HO359.out).2.2|(with_reducible first|apply Kd.C_alloc|apply Kd.C_drewN|apply Kd.C_drew)));(case side2=>exact (Kd.R_reads' HO359.out).2.1);(case side3=>repeat (first|exact (Kd.R_reads' HO_6.out).2.2|(with_reducible first|apply Kd.C_alloc|apply Kd.C_drewN|apply Kd.C_drew)));(case side4=>exact (Kd.R_reads' HO_6.out).2.1);rintro e w' ⟨rfl,⟨nd,rfl⟩⟩;refine ⟨_,rfl,?_⟩;obtain ⟨Ao114,co114,eo114⟩:=Kd.R_slice HO362.out;subst eo114;obtain ⟨Ao115,co115,eo115⟩:=Kd.R_slice HO_7.out;subst eo115)|(go_at_call 17;(with_reducible refine (laws_eqIntS.calls kj51 _ _ t360 _ _ t293 true _ ?side1 ?side2 ?side3 ?side4 A110.out).mono ?_);(case side1=>repeat (first|exact (Kd.R_reads' HO362.out).2.2|(with_reducible first|apply Kd.C_alloc|apply Kd.C_drewN|apply Kd.C_drew)));(case side2=>exact (Kd.R_reads' HO362.out).2.1);(case side3=>repeat (first|exact (Kd.R_reads' HO_7.out).2.2|(with_reducible first|apply Kd.C_alloc|apply Kd.C_drewN|apply Kd.C_drew)));(case side4=>exact (Kd.R_reads' HO_7.out).2.1);rintro e w' ⟨rfl,⟨nd,rfl⟩⟩))
               go_meet
               case rel=>exact ⟨_,((t363 != t296)),(by first|rfl|(simp;done)|(simp [*];done)),H',⟨by have:=HJ11.out;have:=HJ51.out;first|omega|exact Nat.le_refl _⟩,⟨by (with_reducible repeat (first|apply Kd.R_alloc|apply Kd.R_drewN|apply Kd.R_drew));exact Kd.R_mono HO_10.out (fun _ hk=>trivial)⟩,⟨by (with_reducible repeat (first|apply Kd.R_alloc|apply Kd.R_drewN|apply Kd.R_drew));exact Kd.R_mono HO_11.out (fun _ hk=>trivial)⟩,⟨by (with_reducible repeat first|apply blk_drewN|apply blk_drew|apply blk_alloc);exact BK276.out⟩,⟨by repeat (first|(with_reducible first|exact HB.out|apply below_alloc|apply pw_below_drewN|apply below_drew1|refine below_set ?_ GE276.out)|exact HB.out)⟩⟩
              ·replace c111:=Bool.eq_false_iff.mpr c111
               subst c111
               rw [if_neg (show ¬ (false = true) by decide)] at H
               have H':=Aside0.mk H
               clear H
               obtain ⟨Ao116,co116,eo116⟩:=Kd.R_slice HO359.out
               subst eo116
               obtain ⟨Ao117,co117,eo117⟩:=Kd.R_slice HO_6.out
               subst eo117
               go_wp2_with (first|((with_reducible refine gate_callee (f:=16) rfl ?_);refine goesL_ (some 112) rfl rfl Try.func16 (by kernel_rfl) rfl #[.slice Ao116 t357.length co116,.slice Ao117 t290.length co117] rfl (by (try simp only [List.map_toArray,List.map_cons,List.map_nil]);first|done|rfl|(simp only [List.length_drop,List.length_take];rfl)) ?_;(with_reducible refine (laws_eqByteS.calls kj51 _ _ t357 _ _ t290 true _ ?side1 ?side2 ?side3 ?side4 A108.out).mono ?_);(case side1=>repeat (first|exact (Kd.R_reads' HO359.out).2.2|(with_reducible first|apply Kd.C_alloc|apply Kd.C_drewN|apply Kd.C_drew)));(case side2=>exact (Kd.R_reads' HO359.out).2.1);(case side3=>repeat (first|exact (Kd.R_reads' HO_6.out).2.2|(with_reducible first|apply Kd.C_alloc|apply Kd.C_drewN|apply Kd.C_drew)));(case side4=>exact (Kd.R_reads' HO_6.out).2.1);rintro e w' ⟨rfl,⟨nd,rfl⟩⟩;refine ⟨_,rfl,?_⟩;obtain ⟨Ao118,co118,eo118⟩:=Kd.R_slice HO362.out;subst eo118;obtain ⟨Ao119,co119,eo119⟩:=Kd.R_slice HO_7.out;subst eo119)|(go_at_call 17;(with_reducible refine (laws_eqIntS.calls kj51 _ _ t360 _ _ t293 false _ ?side1 ?side2 ?side3 ?side4 A110.out).mono ?_);(case side1=>repeat (first|exact (Kd.R_reads' HO362.out).2.2|(with_reducible first|apply Kd.C_alloc|apply Kd.C_drewN|apply Kd.C_drew)));(case side2=>exact (Kd.R_reads' HO362.out).2.1);(case side3=>repeat (first|exact (Kd.R_reads' HO_7.out).2.2|(with_reducible first|apply Kd.C_alloc|apply Kd.C_drewN|apply Kd.C_drew)));(case side4=>exact (Kd.R_reads' HO_7.out).2.1);rintro e w' ⟨rfl,⟨nd,rfl⟩⟩))
               go_meet
               case rel=>exact ⟨_,(true),(by first|rfl|(simp;done)|(simp [*];done)),H',⟨by have:=HJ11.out;have:=HJ51.out;first|omega|exact Nat.le_refl _⟩,⟨by (with_reducible repeat (first|apply Kd.R_alloc|apply Kd.R_drewN|apply Kd.R_drew));exact Kd.R_mono HO_10.out (fun _ hk=>trivial)⟩,⟨by (with_reducible repeat (first|apply Kd.R_alloc|apply Kd.R_drewN|apply Kd.R_drew));exact Kd.R_mono HO_11.out (fun _ hk=>trivial)⟩,⟨by (with_reducible repeat first|apply blk_drewN|apply blk_drew|apply blk_alloc);exact BK276.out⟩,⟨by repeat (first|(with_reducible first|exact HB.out|apply below_alloc|apply pw_below_drewN|apply below_drew1|refine below_set ?_ GE276.out)|exact HB.out)⟩⟩
             ·replace c109:=Bool.eq_false_iff.mpr c109
              subst c109
              rw [if_neg (show ¬ (false = true) by decide)] at H
              have H':=Aside0.mk H
              clear H
              obtain ⟨Ao120,co120,eo120⟩:=Kd.R_slice HO359.out
              subst eo120
              obtain ⟨Ao121,co121,eo121⟩:=Kd.R_slice HO_6.out
              subst eo121
              go_wp2_with (first|((with_reducible refine gate_callee (f:=16) rfl ?_);refine goesL_ (some 112) rfl rfl Try.func16 (by kernel_rfl) rfl #[.slice Ao120 t357.length co120,.slice Ao121 t290.length co121] rfl (by (try simp only [List.map_toArray,List.map_cons,List.map_nil]);first|done|rfl|(simp only [List.length_drop,List.length_take];rfl)) ?_;(with_reducible refine (laws_eqByteS.calls kj51 _ _ t357 _ _ t290 false _ ?side1 ?side2 ?side3 ?side4 A108.out).mono ?_);(case side1=>repeat (first|exact (Kd.R_reads' HO359.out).2.2|(with_reducible first|apply Kd.C_alloc|apply Kd.C_drewN|apply Kd.C_drew)));(case side2=>exact (Kd.R_reads' HO359.out).2.1);(case side3=>repeat (first|exact (Kd.R_reads' HO_6.out).2.2|(with_reducible first|apply Kd.C_alloc|apply Kd.C_drewN|apply Kd.C_drew)));(case side4=>exact (Kd.R_reads' HO_6.out).2.1);rintro e w' ⟨rfl,⟨nd,rfl⟩⟩;refine ⟨_,rfl,?_⟩))
              go_meet
              case rel=>exact ⟨_,(true),(by first|rfl|(simp;done)|(simp [*];done)),H',⟨by have:=HJ11.out;have:=HJ51.out;first|omega|exact Nat.le_refl _⟩,⟨by (with_reducible repeat (first|apply Kd.R_alloc|apply Kd.R_drewN|apply Kd.R_drew));exact Kd.R_mono HO_10.out (fun _ hk=>trivial)⟩,⟨by (with_reducible repeat (first|apply Kd.R_alloc|apply Kd.R_drewN|apply Kd.R_drew));exact Kd.R_mono HO_11.out (fun _ hk=>trivial)⟩,⟨by (with_reducible repeat first|apply blk_drewN|apply blk_drew|apply blk_alloc);exact BK276.out⟩,⟨by repeat (first|(with_reducible first|exact HB.out|apply below_alloc|apply pw_below_drewN|apply below_drew1|refine below_set ?_ GE276.out)|exact HB.out)⟩⟩
            case rest =>
             clear HC96
             try clear c1;try clear c2;try clear p2;try clear c3;try clear c4;try clear c4b0;try clear c5;try clear c6;try clear c7;try clear c8;try clear c9;try clear c10;try clear c11;try clear c12;try clear c14;try clear c15;try clear c16;try clear c18;try clear c19;try clear c20;try clear c21;try clear c27;try clear c34;try clear c36;try clear c47;try clear c50;try clear c60;try clear c63;try clear c63b0;try clear c65;try clear c67;try clear c78;try clear c82;try clear c82b0;try clear c88;try clear c88b0;try clear c93;try clear c93b0;try clear c93b1;try clear c109;try clear c111;try clear hcz101_0;try clear hcz101_1;try clear hcz101_2;try clear hcz101_3;try clear hcz14_0;try clear hcz14_1;try clear hcz14_2;try clear hcz14_3;try clear hcz16_0;try clear hcz16_1;try clear hcz16_2;try clear hcz16_3;try clear hcz23_0;try clear hcz23_1;try clear hcz23_2;try clear hcz23_3;try clear hcz28_0;try clear hcz28_1;try clear hcz28_2;try clear hcz28_3;try clear hcz61_0;try clear hcz61_1;try clear hcz61_2;try clear hcz61_3;try clear hcz6_0;try clear hcz6_1;try clear hcz6_2;try clear hcz6_3;try clear hfz101_0;try clear hfz101_1;try clear hfz101_2;try clear hfz101_3;try clear hfz14_0;try clear hfz14_1;try clear hfz14_2;try clear hfz14_3;try clear hfz16_0;try clear hfz16_1;try clear hfz16_2;try clear hfz16_3;try clear hfz23_0;try clear hfz23_1;try clear hfz23_2;try clear hfz23_3;try clear hfz28_0;try clear hfz28_1;try clear hfz28_2;try clear hfz28_3;try clear hfz61_0;try clear hfz61_1;try clear hfz61_2;try clear hfz61_3;try clear hfz6_0;try clear hfz6_1;try clear hfz6_2;try clear hfz6_3;try clear p2
             obtain ⟨kq,x124_95,rfl,HA,HJ95,HO_10,HO_11,BK276,HB⟩:=hcut
             have hl10_95:=(Kd.R_reads' HO_10.out).1
             rw [hl10_95] at HO_10
             (try simp only [hl10_95])
             (try simp only [hl10_95] at BK276)
             (try simp only [hl10_95] at HO_11)
             have hl11_95:=(Kd.R_reads' HO_11.out).1
             rw [hl11_95] at HO_11
             (try simp only [hl11_95])
             (try simp only [hl11_95] at BK276)
             (try simp only [hl11_95] at HO_10)
             cases kq with
             | zero=>exact absurd HA.out (by simp [laws_FnExactRecordAt.j2])
             | succ kj95 =>
              have H:=HA.out
              clear HA
              simp only [laws_FnExactRecordAt.j2] at H
              by_cases c122 : x124_95 = true
              ·subst c122
               rw [if_pos rfl] at H
               obtain rfl:=Option.some.inj H
               go_wp2
               go_ret
               exact ⟨by first|rfl|(simp [*,errW_none,errW_some] <;> rfl),by repeat (first|(with_reducible first|exact HB.out|apply below_alloc|apply pw_below_drewN|apply below_drew1|refine below_set ?_ GE276.out)|exact HB.out)⟩
              ·replace c122:=Bool.eq_false_iff.mpr c122
               subst c122
               rw [if_neg (show ¬ (false = true) by decide)] at H
               replace H:=Option.bind_eq_some_iff.mp H
               obtain ⟨t366,A1230,H⟩:=H
               have A123:=Aside0.mk A1230
               clear A1230
               by_cases c124 : t366 < 0
               ·rw [if_pos c124] at H
                have c124b0 : decide (t366 < 0) = true:=decide_eq_true c124
                clear c124
                obtain rfl:=Option.some.inj H
                go_wp2_with (first|((with_reducible refine gate_callee (f:=20) rfl ?_);refine goesL_ (some 127) rfl rfl Try.func20 (by kernel_rfl) rfl #[.slice Ao97 t340.length co97,.int .i64 1] rfl (by (try simp only [List.map_toArray,List.map_cons,List.map_nil]);first|done|rfl|(simp only [List.length_drop,List.length_take];rfl)) ?_;(with_reducible refine (laws_heldByteS.calls kj95 _ _ t340 1 t366 _ ?side1 ?side2 A123.out).mono ?_);(case side1=>repeat (first|exact (Kd.R_reads' HO_10.out).2.2|(with_reducible first|apply Kd.C_alloc|apply Kd.C_drewN|apply Kd.C_drew)));(case side2=>exact (Kd.R_reads' HO_10.out).2.1);rintro e w' ⟨rfl,⟨nd,rfl⟩⟩;refine ⟨_,rfl,?_⟩))
                go_ret
                exact ⟨by first|rfl|(simp [*,errW_none,errW_some] <;> rfl),by repeat (first|(with_reducible first|exact HB.out|apply below_alloc|apply pw_below_drewN|apply below_drew1|refine below_set ?_ GE276.out)|exact HB.out)⟩
               ·rw [if_neg c124] at H
                have c124b0 : decide (t366 < 0) = false:=decide_eq_false c124
                clear c124
                replace H:=Option.bind_eq_some_iff.mp H
                obtain ⟨t367,A1250,H⟩:=H
                have A125:=Aside0.mk A1250
                clear A1250
                by_cases c126 : t367 < 0
                ·rw [if_pos c126] at H
                 have c126b0 : decide (t367 < 0) = true:=decide_eq_true c126
                 clear c126
                 obtain rfl:=Option.some.inj H
                 go_wp2_with (first|((with_reducible refine gate_callee (f:=20) rfl ?_);refine goesL_ (some 127) rfl rfl Try.func20 (by kernel_rfl) rfl #[.slice Ao97 t340.length co97,.int .i64 1] rfl (by (try simp only [List.map_toArray,List.map_cons,List.map_nil]);first|done|rfl|(simp only [List.length_drop,List.length_take];rfl)) ?_;(with_reducible refine (laws_heldByteS.calls kj95 _ _ t340 1 t366 _ ?side1 ?side2 A123.out).mono ?_);(case side1=>repeat (first|exact (Kd.R_reads' HO_10.out).2.2|(with_reducible first|apply Kd.C_alloc|apply Kd.C_drewN|apply Kd.C_drew)));(case side2=>exact (Kd.R_reads' HO_10.out).2.1);rintro e w' ⟨rfl,⟨nd,rfl⟩⟩;refine ⟨_,rfl,?_⟩)|((with_reducible refine gate_callee (f:=21) rfl ?_);refine goesL_ (some 132) rfl rfl Try.func21 (by kernel_rfl) rfl #[.slice Ao99 t342.length co99,.int .i64 t366] rfl (by (try simp only [List.map_toArray,List.map_cons,List.map_nil]);first|done|rfl|(simp only [List.length_drop,List.length_take];rfl)) ?_;(with_reducible refine (laws_heldIntS.calls kj95 _ _ t342 t366 t367 _ ?side1 ?side2 A125.out).mono ?_);(case side1=>repeat (first|exact (Kd.R_reads' HO_11.out).2.2|(with_reducible first|apply Kd.C_alloc|apply Kd.C_drewN|apply Kd.C_drew)));(case side2=>exact (Kd.R_reads' HO_11.out).2.1);rintro e w' ⟨rfl,⟨nd,rfl⟩⟩;refine ⟨_,rfl,?_⟩))
                 go_ret
                 exact ⟨by first|rfl|(simp [*,errW_none,errW_some] <;> rfl),by repeat (first|(with_reducible first|exact HB.out|apply below_alloc|apply pw_below_drewN|apply below_drew1|refine below_set ?_ GE276.out)|exact HB.out)⟩
                ·rw [if_neg c126] at H
                 have c126b0 : decide (t367 < 0) = false:=decide_eq_false c126
                 clear c126
                 by_cases c127 : t367 = t341
                 ·rw [if_pos c127] at H
                  have c127b0 : (t367 == t341) = true:=beq_iff_eq.mpr c127
                  have c127b1 : (t367 != t341) = false:=bne_eq_false_iff_eq.mpr c127
                  clear c127
                  obtain rfl:=Option.some.inj H
                  go_wp2_with (first|((with_reducible refine gate_callee (f:=20) rfl ?_);refine goesL_ (some 127) rfl rfl Try.func20 (by kernel_rfl) rfl #[.slice Ao97 t340.length co97,.int .i64 1] rfl (by (try simp only [List.map_toArray,List.map_cons,List.map_nil]);first|done|rfl|(simp only [List.length_drop,List.length_take];rfl)) ?_;(with_reducible refine (laws_heldByteS.calls kj95 _ _ t340 1 t366 _ ?side1 ?side2 A123.out).mono ?_);(case side1=>repeat (first|exact (Kd.R_reads' HO_10.out).2.2|(with_reducible first|apply Kd.C_alloc|apply Kd.C_drewN|apply Kd.C_drew)));(case side2=>exact (Kd.R_reads' HO_10.out).2.1);rintro e w' ⟨rfl,⟨nd,rfl⟩⟩;refine ⟨_,rfl,?_⟩)|((with_reducible refine gate_callee (f:=21) rfl ?_);refine goesL_ (some 132) rfl rfl Try.func21 (by kernel_rfl) rfl #[.slice Ao99 t342.length co99,.int .i64 t366] rfl (by (try simp only [List.map_toArray,List.map_cons,List.map_nil]);first|done|rfl|(simp only [List.length_drop,List.length_take];rfl)) ?_;(with_reducible refine (laws_heldIntS.calls kj95 _ _ t342 t366 t367 _ ?side1 ?side2 A125.out).mono ?_);(case side1=>repeat (first|exact (Kd.R_reads' HO_11.out).2.2|(with_reducible first|apply Kd.C_alloc|apply Kd.C_drewN|apply Kd.C_drew)));(case side2=>exact (Kd.R_reads' HO_11.out).2.1);rintro e w' ⟨rfl,⟨nd,rfl⟩⟩;refine ⟨_,rfl,?_⟩))
                  go_ret
                  exact ⟨by first|rfl|(simp [*,errW_none,errW_some] <;> rfl),by repeat (first|(with_reducible first|exact HB.out|apply below_alloc|apply pw_below_drewN|apply below_drew1|refine below_set ?_ GE276.out)|exact HB.out)⟩
                 ·rw [if_neg c127] at H
                  have c127b0 : (t367 == t341) = false:=beq_eq_false_iff_ne.mpr c127
                  have c127b1 : (t367 != t341) = true:=bne_iff_ne.mpr c127
                  obtain rfl:=Option.some.inj H
                  go_wp2_with (first|((with_reducible refine gate_callee (f:=20) rfl ?_);refine goesL_ (some 127) rfl rfl Try.func20 (by kernel_rfl) rfl #[.slice Ao97 t340.length co97,.int .i64 1] rfl (by (try simp only [List.map_toArray,List.map_cons,List.map_nil]);first|done|rfl|(simp only [List.length_drop,List.length_take];rfl)) ?_;(with_reducible refine (laws_heldByteS.calls kj95 _ _ t340 1 t366 _ ?side1 ?side2 A123.out).mono ?_);(case side1=>repeat (first|exact (Kd.R_reads' HO_10.out).2.2|(with_reducible first|apply Kd.C_alloc|apply Kd.C_drewN|apply Kd.C_drew)));(case side2=>exact (Kd.R_reads' HO_10.out).2.1);rintro e w' ⟨rfl,⟨nd,rfl⟩⟩;refine ⟨_,rfl,?_⟩)|((with_reducible refine gate_callee (f:=21) rfl ?_);refine goesL_ (some 132) rfl rfl Try.func21 (by kernel_rfl) rfl #[.slice Ao99 t342.length co99,.int .i64 t366] rfl (by (try simp only [List.map_toArray,List.map_cons,List.map_nil]);first|done|rfl|(simp only [List.length_drop,List.length_take];rfl)) ?_;(with_reducible refine (laws_heldIntS.calls kj95 _ _ t342 t366 t367 _ ?side1 ?side2 A125.out).mono ?_);(case side1=>repeat (first|exact (Kd.R_reads' HO_11.out).2.2|(with_reducible first|apply Kd.C_alloc|apply Kd.C_drewN|apply Kd.C_drew)));(case side2=>exact (Kd.R_reads' HO_11.out).2.1);rintro e w' ⟨rfl,⟨nd,rfl⟩⟩;refine ⟨_,rfl,?_⟩))
                  go_ret
                  exact ⟨by first|rfl|(simp [*,errW_none,errW_some] <;> rfl),by repeat (first|(with_reducible first|exact HB.out|apply below_alloc|apply pw_below_drewN|apply below_drew1|refine below_set ?_ GE276.out)|exact HB.out)⟩
           ·rw [if_neg c93] at H
            have c93b0 : (t344 == t341) = false:=beq_eq_false_iff_ne.mpr c93
            have c93b1 : (t344 != t341) = true:=bne_iff_ne.mpr c93
            obtain rfl:=Option.some.inj H
            obtain ⟨Ao128,co128,eo128⟩:=Kd.R_slice HO_10.out
            subst eo128
            go_wp2_with (first|((with_reducible refine gate_callee (f:=18) rfl ?_);refine goesL_ (some 85) rfl rfl Try.func18 (by kernel_rfl) rfl #[.slice Ao128 t310.length co128,.int .i64 1] rfl (by (try simp only [List.map_toArray,List.map_cons,List.map_nil]);first|done|rfl|(simp only [List.length_drop,List.length_take];rfl)) ?_;(with_reducible refine (laws_markByteS.calls kj51 (fun k_=>some k_ = (.slice Ao128 t310.length co128 : Value).ownBlock) (.slice Ao128 t310.length co128) t310 1 t339 t340 w _ ?side1 ?side2 A79.out).mono ?_);(case side1=>repeat (first|(with_reducible first|exact HB.out|apply below_alloc|apply pw_below_drewN|apply below_drew1|refine below_set ?_ GE276.out)|exact HB.out));(case side2=>exact Kd.R_tight rfl HO_10.out);rintro e w129 ⟨rfl,hy0,hb,hkp⟩;refine ⟨_,rfl,?_⟩;have n0_:=Aside0.mk (Kd.R_mono (ok':=fun k_=>some k_ ≠ (.slice Ao128 t310.length co128 : Value).ownBlock) (Kd.R_keptB (HO_6.out) hkp (fun k_ hk_ hs_=>(hk_) hs_)) (fun k_ hk_=>hk_.1));have n1_:=Aside0.mk (Kd.R_mono (ok':=fun k_=>some k_ ≠ (v314 : Value).ownBlock) (Kd.R_keptB ((Kd.R_apart' HO_7.out (Kd.R_typed HO_10.out) (by decide))) hkp (fun k_ hk_ hs_=>(hk_.2) hs_)) (fun k_ hk_=>hk_.1.1));have n2_:=Aside0.mk (Kd.R_reok rfl hy0 (fun k_ e_=>HO_10.out.1 k_ e_));have n3_:=Aside0.mk (Kd.R_mono (ok':=fun k_=>some k_ ≠ (v294 : Value).ownBlock) (Kd.R_keptB ((Kd.R_apart' HO_11.out (Kd.R_typed HO_10.out) (by decide))) hkp (fun k_ hk_ hs_=>(hk_.2) hs_)) (fun k_ hk_=>hk_.1.1));have n4_:=Aside0.mk (blk_kept (by (with_reducible repeat first|apply blk_drewN|apply blk_drew|apply blk_alloc);exact BK276.out) hkp (fun hs_=>(fun e_=>(Kd.R_ne HO_10.out BK276.out (by decide)) e_) hs_));have n5_:=Aside0.mk (hb);clear HO_6;clear HO_7;clear HO_10;clear HO_11;clear BK276;clear HB;have HO_6:=n0_;have HO_7:=n1_;have HO_10:=n2_;have HO_11:=n3_;have BK276:=n4_;have HB:=n5_;clear n0_ n1_ n2_ n3_ n4_ n5_;(try clear hb);(try clear hkp);(try clear hy0);obtain ⟨Ao130,co130,eo130⟩:=Kd.R_slice HO_11.out;subst eo130)|((with_reducible refine gate_callee (f:=19) rfl ?_);refine goesL_ (some 88) rfl rfl Try.func19 (by kernel_rfl) rfl #[.slice Ao130 t313.length co130,.int .i64 t339] rfl (by (try simp only [List.map_toArray,List.map_cons,List.map_nil]);first|done|rfl|(simp only [List.length_drop,List.length_take];rfl)) ?_;(with_reducible refine (laws_markIntS.calls kj51 (fun k_=>some k_ = (.slice Ao130 t313.length co130 : Value).ownBlock) (.slice Ao130 t313.length co130) t313 t339 t341 t342 w _ ?side1 ?side2 A80.out).mono ?_);(case side1=>repeat (first|(with_reducible first|exact HB.out|apply below_alloc|apply pw_below_drewN|apply below_drew1|refine below_set ?_ GE276.out)|exact HB.out));(case side2=>exact Kd.R_tight rfl HO_11.out);rintro e w131 ⟨rfl,hy0,hb,hkp⟩;refine ⟨_,rfl,?_⟩;have n0_:=Aside0.mk (Kd.R_mono (ok':=fun k_=>some k_ ≠ (.slice Ao128 t310.length co128 : Value).ownBlock) (Kd.R_keptB ((Kd.R_apart' HO_6.out (Kd.R_typed HO_11.out) (by decide))) hkp (fun k_ hk_ hs_=>(hk_.2) hs_)) (fun k_ hk_=>hk_.1.1));have n1_:=Aside0.mk (Kd.R_mono (ok':=fun k_=>some k_ ≠ (.slice Ao130 t313.length co130 : Value).ownBlock) (Kd.R_keptB (HO_7.out) hkp (fun k_ hk_ hs_=>(hk_) hs_)) (fun k_ hk_=>hk_.1));have n2_:=Aside0.mk (Kd.R_mono (ok':=fun k_=>some k_ ≠ (v291 : Value).ownBlock) (Kd.R_keptB ((Kd.R_apart' HO_10.out (Kd.R_typed HO_11.out) (by decide))) hkp (fun k_ hk_ hs_=>(hk_.2) hs_)) (fun k_ hk_=>hk_.1.1));have n3_:=Aside0.mk (Kd.R_reok rfl hy0 (fun k_ e_=>HO_11.out.1 k_ e_));have n4_:=Aside0.mk (blk_kept (by (with_reducible repeat first|apply blk_drewN|apply blk_drew|apply blk_alloc);exact BK276.out) hkp (fun hs_=>(fun e_=>(Kd.R_ne HO_11.out BK276.out (by decide)) e_) hs_));have n5_:=Aside0.mk (hb);clear HO_6;clear HO_7;clear HO_10;clear HO_11;clear BK276;clear HB;have HO_6:=n0_;have HO_7:=n1_;have HO_10:=n2_;have HO_11:=n3_;have BK276:=n4_;have HB:=n5_;clear n0_ n1_ n2_ n3_ n4_ n5_;(try clear hb);(try clear hkp);(try clear hy0))|((with_reducible refine gate_callee (f:=20) rfl ?_);refine goesL_ (some 91) rfl rfl Try.func20 (by kernel_rfl) rfl #[.slice Ao128 t340.length co128,.int .i64 1] rfl (by (try simp only [List.map_toArray,List.map_cons,List.map_nil]);first|done|(rw [show t340.length = t310.length from (Kd.R_reads' HO_10.out).1.symm] <;> rfl)|rfl|(simp only [List.length_drop,List.length_take];rfl)) ?_;(with_reducible refine (laws_heldByteS.calls kj51 _ _ t340 1 t343 _ ?side1 ?side2 A81.out).mono ?_);(case side1=>repeat (first|exact (Kd.R_reads' HO_10.out).2.2|(with_reducible first|apply Kd.C_alloc|apply Kd.C_drewN|apply Kd.C_drew)));(case side2=>rw [show t340.length = t310.length from (Kd.R_reads' HO_10.out).1.symm];exact (Kd.R_reads' HO_10.out).2.1);rintro e w' ⟨rfl,⟨nd,rfl⟩⟩;refine ⟨_,rfl,?_⟩)|((with_reducible refine gate_callee (f:=21) rfl ?_);refine goesL_ (some 96) rfl rfl Try.func21 (by kernel_rfl) rfl #[.slice Ao130 t342.length co130,.int .i64 t343] rfl (by (try simp only [List.map_toArray,List.map_cons,List.map_nil]);first|done|(rw [show t342.length = t313.length from (Kd.R_reads' HO_11.out).1.symm] <;> rfl)|rfl|(simp only [List.length_drop,List.length_take];rfl)) ?_;(with_reducible refine (laws_heldIntS.calls kj51 _ _ t342 t343 t344 _ ?side1 ?side2 A87.out).mono ?_);(case side1=>repeat (first|exact (Kd.R_reads' HO_11.out).2.2|(with_reducible first|apply Kd.C_alloc|apply Kd.C_drewN|apply Kd.C_drew)));(case side2=>rw [show t342.length = t313.length from (Kd.R_reads' HO_11.out).1.symm];exact (Kd.R_reads' HO_11.out).2.1);rintro e w' ⟨rfl,⟨nd,rfl⟩⟩;refine ⟨_,rfl,?_⟩))
            go_ret
            exact ⟨by first|rfl|(simp [*,errW_none,errW_some] <;> rfl),by repeat (first|(with_reducible first|exact HB.out|apply below_alloc|apply pw_below_drewN|apply below_drew1|refine below_set ?_ GE276.out)|exact HB.out)⟩
     ·replace c50:=Bool.eq_false_iff.mpr c50
      subst c50
      rw [if_neg (show ¬ (false = true) by decide)] at H
      obtain rfl:=Option.some.inj H
      try go_wp2
      have n0_:=Aside0.mk (Kd.R_drew HO_6.out)
      have n1_:=Aside0.mk (Kd.R_drew HO_7.out)
      have n2_:=Aside0.mk (Kd.R_drew HO_10.out)
      have n3_:=Aside0.mk (Kd.R_drew HO_11.out)
      have n4_:=Aside0.mk (Kd.S_drew HO_310000.out)
      have n5_:=Aside0.mk (Kd.R_drew HO_310001.out)
      have n6_:=Aside0.mk (Kd.R_drew HO_310002.out)
      have n7_:=Aside0.mk (Kd.R_drew HO_310003.out)
      have n8_:=Aside0.mk (blk_drew BK276.out)
      have n9_:=Aside0.mk (blk_drew BK309.out)
      have n10_:=Aside0.mk (below_drew1 HB.out)
      clear HO_6
      clear HO_7
      clear HO_10
      clear HO_11
      clear HO_310000
      clear HO_310001
      clear HO_310002
      clear HO_310003
      clear BK276
      clear BK309
      clear HB
      have HO_6:=n0_
      have HO_7:=n1_
      have HO_10:=n2_
      have HO_11:=n3_
      have HO_310000:=n4_
      have HO_310001:=n5_
      have HO_310002:=n6_
      have HO_310003:=n7_
      have BK276:=n8_
      have BK309:=n9_
      have HB:=n10_
      clear n0_ n1_ n2_ n3_ n4_ n5_ n6_ n7_ n8_ n9_ n10_
      refine start_ (n:=5) (S:=fun w'=>w'.cell? ⟨gb309,0,none⟩ = some (.slice Ao26 t297.length co26)∧w'.cell? ⟨gb309,1,none⟩ = some (.slice Ao29 t300.length co29)∧w'.cell? ⟨gb309,2,none⟩ = some (.slice Ao30 t303.length co30)∧w'.cell? ⟨gb309,3,none⟩ = some (.slice Ao31 t306.length co31)∧w'.cell? ⟨gb276,0,none⟩ = some (.slice A0_0 l0_0.length c0_0)∧w'.cell? ⟨gb276,1,none⟩ = some (.slice A0_1 l0_1.length c0_1)∧w'.cell? ⟨gb276,2,none⟩ = some (.slice A0_2 l0_2.length c0_2)∧w'.cell? ⟨gb276,3,none⟩ = some (.slice A0_3 l0_3.length c0_3)) (ds:=[]) #[false,false,false,false,false] (by kernel_rfl) rfl rfl ⟨(blk_cell BK309.out 0).trans rfl,(blk_cell BK309.out 1).trans rfl,(blk_cell BK309.out 2).trans rfl,(blk_cell BK309.out 3).trans rfl,(blk_cell BK276.out 0).trans rfl,(blk_cell BK276.out 1).trans rfl,(blk_cell BK276.out 2).trans rfl,(blk_cell BK276.out 3).trans rfl⟩ (fun hHeld=>?_)
      generalize wc.drew = w132 at HO_6 HO_7 HO_10 HO_11 HO_310000 HO_310001 HO_310002 HO_310003 BK276 BK309 HB hHeld ⊢
      refine take_ (i:=0) (N:=some 56) (v:=?_) (a':=?_) #[true,false,false,false,false] rfl rfl (by kernel_rfl) (fun _ _ _ h=>h) (Or.inl ⟨by rfl,?_⟩) hHeld ?_ ?_
      rotate_left
      ·rintro w' ⟨s0,s1,s2,s3,s4,s5,s6,s7⟩
       go_simp
       with_reducible rfl
      rotate_left
      ·simp only [Act.put,List.setIfInBounds_toArray,List.set_cons_zero,List.set_cons_succ,i64_w,i32_w]
       rfl
      refine take_ (i:=1) (N:=some 57) (v:=?_) (a':=?_) #[true,true,false,false,false] rfl rfl (by kernel_rfl) (fun _ _ _ h=>h) (Or.inl ⟨by rfl,?_⟩) hHeld ?_ ?_
      rotate_left
      ·rintro w' ⟨s0,s1,s2,s3,s4,s5,s6,s7⟩
       go_simp
       with_reducible rfl
      rotate_left
      ·simp only [Act.put,List.setIfInBounds_toArray,List.set_cons_zero,List.set_cons_succ,i64_w,i32_w]
       rfl
      refine one_ (i:=2) (N:=some 58) #[true,true,true,false,false] rfl rfl (by kernel_rfl) (by decide) (fun K hK=>?_)
      refine goes_ Try.func9 (by kernel_rfl) rfl #[.agg #[.slice A0_0 l0_0.length c0_0,.slice A0_1 l0_1.length c0_1,.slice A0_2 l0_2.length c0_2,.slice A0_3 l0_3.length c0_3]] (by rfl) rfl rfl (by (try simp only [List.map_toArray,List.map_cons,List.map_nil]);first|done|rfl|(simp only [List.length_drop,List.length_take];rfl)) ?_
      with_reducible refine (laws_toSpace.calls kj11 _ _ l0_0 _ _ l0_1 _ _ l0_2 _ _ l0_3 t319 t322 t325 t328 _ ?side1 ?side2 ?side3 ?side4 ?side5 ?side6 ?side7 ?side8 A48.out).mono ?_
      (case side1=>repeat (first|exact (Kd.C_below HR0_0.out HB.out)|(with_reducible first|apply Kd.C_alloc|apply Kd.C_drewN|apply Kd.C_drew)))
      (case side2=>exact HC0_0.out)
      (case side3=>repeat (first|exact (Kd.C_below HR0_1.out HB.out)|(with_reducible first|apply Kd.C_alloc|apply Kd.C_drewN|apply Kd.C_drew)))
      (case side4=>exact HC0_1.out)
      (case side5=>repeat (first|exact (Kd.C_below HR0_2.out HB.out)|(with_reducible first|apply Kd.C_alloc|apply Kd.C_drewN|apply Kd.C_drew)))
      (case side6=>exact HC0_2.out)
      (case side7=>repeat (first|exact (Kd.C_below HR0_3.out HB.out)|(with_reducible first|apply Kd.C_alloc|apply Kd.C_drewN|apply Kd.C_drew)))
      (case side8=>exact HC0_3.out)
      rintro e w133 ⟨v320,v323,v326,v329,rfl,ho0,ho1,ho2,ho3,hb⟩
      refine ⟨_,rfl,?_⟩
      have n0_:=Aside0.mk (Kd.R_elder' (by (with_reducible repeat (first|apply Kd.R_alloc|apply Kd.R_drewN|apply Kd.R_drew));exact HO_6.out) (Kd.R_base ho1) hb)
      have n1_:=Aside0.mk (Kd.R_mono (Kd.R_told (Kd.R_told (Kd.R_old (by (with_reducible repeat (first|apply Kd.R_alloc|apply Kd.R_drewN|apply Kd.R_drew));exact HO_7.out) hb) (Kd.R_base ho2)) (Kd.R_base ho3)) (fun _ h_=>h_.1))
      have n2_:=Aside0.mk (Kd.R_elder' (by (with_reducible repeat (first|apply Kd.R_alloc|apply Kd.R_drewN|apply Kd.R_drew));exact HO_10.out) (Kd.R_base ho1) hb)
      have n3_:=Aside0.mk (Kd.R_mono (Kd.R_told (Kd.R_told (Kd.R_old (by (with_reducible repeat (first|apply Kd.R_alloc|apply Kd.R_drewN|apply Kd.R_drew));exact HO_11.out) hb) (Kd.R_base ho2)) (Kd.R_base ho3)) (fun _ h_=>h_.1))
      have n4_:=Aside0.mk (Kd.S_told (Kd.S_told (Kd.S_old (by (with_reducible repeat (first|apply Kd.S_alloc|apply Kd.S_drewN|apply Kd.S_drew));exact HO_310000.out) hb) (Kd.S_base ho0)) (Kd.R_base ho1))
      have n5_:=Aside0.mk (Kd.R_elder' (by (with_reducible repeat (first|apply Kd.R_alloc|apply Kd.R_drewN|apply Kd.R_drew));exact HO_310001.out) (Kd.R_base ho1) hb)
      have n6_:=Aside0.mk (Kd.R_mono (Kd.R_told (Kd.R_told (Kd.R_old (by (with_reducible repeat (first|apply Kd.R_alloc|apply Kd.R_drewN|apply Kd.R_drew));exact HO_310002.out) hb) (Kd.R_base ho2)) (Kd.R_base ho3)) (fun _ h_=>h_.1))
      have n7_:=Aside0.mk (Kd.R_mono (Kd.R_told (Kd.R_told (Kd.R_old (by (with_reducible repeat (first|apply Kd.R_alloc|apply Kd.R_drewN|apply Kd.R_drew));exact HO_310003.out) hb) (Kd.R_base ho2)) (Kd.R_base ho3)) (fun _ h_=>h_.1))
      have n8_:=Aside0.mk (Kd.S_lower (Kd.S_new' (Kd.S_new' (Kd.S_new' (Kd.S_new' (Kd.S_mono (Kd.S_bound ho0) (fun k_ h_=>(⟨h_.1,(by first|exact h_.2.1|simpa only [World.size_setCell] using h_.2.1)⟩ : _∧w132.heap.size ≤ k_))) (Kd.R_lt (by (with_reducible repeat (first|apply Kd.R_alloc|apply Kd.R_drewN|apply Kd.R_drew));exact HO_6.out))) (Kd.R_lt (by (with_reducible repeat (first|apply Kd.R_alloc|apply Kd.R_drewN|apply Kd.R_drew));exact HO_10.out))) (Kd.S_lt (by (with_reducible repeat (first|apply Kd.S_alloc|apply Kd.S_drewN|apply Kd.S_drew));exact HO_310000.out))) (Kd.R_lt (by (with_reducible repeat (first|apply Kd.R_alloc|apply Kd.R_drewN|apply Kd.R_drew));exact HO_310001.out))) (below_size (by repeat (first|(with_reducible first|exact HB.out|apply below_alloc|apply pw_below_drewN|apply below_drew1|refine below_set ?_ GE276.out|refine below_set ?_ GE309.out)|exact HB.out))))
      have n9_:=Aside0.mk (Kd.R_lower (Kd.R_new' (Kd.R_new' (Kd.R_new' ho1 (Kd.R_lt (by (with_reducible repeat (first|apply Kd.R_alloc|apply Kd.R_drewN|apply Kd.R_drew));exact HO_6.out))) (Kd.R_lt (by (with_reducible repeat (first|apply Kd.R_alloc|apply Kd.R_drewN|apply Kd.R_drew));exact HO_10.out))) (Kd.R_lt (by (with_reducible repeat (first|apply Kd.R_alloc|apply Kd.R_drewN|apply Kd.R_drew));exact HO_310001.out))) (below_size (by repeat (first|(with_reducible first|exact HB.out|apply below_alloc|apply pw_below_drewN|apply below_drew1|refine below_set ?_ GE276.out|refine below_set ?_ GE309.out)|exact HB.out))))
      have n10_:=Aside0.mk (Kd.R_lower (Kd.R_new' (Kd.R_new' (Kd.R_new' (Kd.R_new' ho2 (Kd.R_lt (by (with_reducible repeat (first|apply Kd.R_alloc|apply Kd.R_drewN|apply Kd.R_drew));exact HO_7.out))) (Kd.R_lt (by (with_reducible repeat (first|apply Kd.R_alloc|apply Kd.R_drewN|apply Kd.R_drew));exact HO_11.out))) (Kd.R_lt (by (with_reducible repeat (first|apply Kd.R_alloc|apply Kd.R_drewN|apply Kd.R_drew));exact HO_310002.out))) (Kd.R_lt (by (with_reducible repeat (first|apply Kd.R_alloc|apply Kd.R_drewN|apply Kd.R_drew));exact HO_310003.out))) (below_size (by repeat (first|(with_reducible first|exact HB.out|apply below_alloc|apply pw_below_drewN|apply below_drew1|refine below_set ?_ GE276.out|refine below_set ?_ GE309.out)|exact HB.out))))
      have n11_:=Aside0.mk (Kd.R_lower (Kd.R_new' (Kd.R_new' (Kd.R_new' (Kd.R_new' ho3 (Kd.R_lt (by (with_reducible repeat (first|apply Kd.R_alloc|apply Kd.R_drewN|apply Kd.R_drew));exact HO_7.out))) (Kd.R_lt (by (with_reducible repeat (first|apply Kd.R_alloc|apply Kd.R_drewN|apply Kd.R_drew));exact HO_11.out))) (Kd.R_lt (by (with_reducible repeat (first|apply Kd.R_alloc|apply Kd.R_drewN|apply Kd.R_drew));exact HO_310002.out))) (Kd.R_lt (by (with_reducible repeat (first|apply Kd.R_alloc|apply Kd.R_drewN|apply Kd.R_drew));exact HO_310003.out))) (below_size (by repeat (first|(with_reducible first|exact HB.out|apply below_alloc|apply pw_below_drewN|apply below_drew1|refine below_set ?_ GE276.out|refine below_set ?_ GE309.out)|exact HB.out))))
      have n12_:=Aside0.mk (blk_below (g:=gb276) (o:=.cells #[.slice A0_0 l0_0.length c0_0,.slice A0_1 l0_1.length c0_1,.slice A0_2 l0_2.length c0_2,.slice A0_3 l0_3.length c0_3] 26 (0,0)) (by (with_reducible repeat first|apply blk_drewN|apply blk_drew|apply blk_alloc);exact BK276.out) hb)
      have n13_:=Aside0.mk (blk_below (g:=gb309) (o:=.cells #[.slice Ao26 t297.length co26,.slice Ao29 t300.length co29,.slice Ao30 t303.length co30,.slice Ao31 t306.length co31] 28 (0,0)) (by (with_reducible repeat first|apply blk_drewN|apply blk_drew|apply blk_alloc);exact BK309.out) hb)
      have n14_:=Aside0.mk (below_step (by repeat (first|(with_reducible first|exact HB.out|apply below_alloc|apply pw_below_drewN|apply below_drew1|refine below_set ?_ GE276.out|refine below_set ?_ GE309.out)|exact HB.out)) hb)
      clear HO_6
      clear HO_7
      clear HO_10
      clear HO_11
      clear HO_310000
      clear HO_310001
      clear HO_310002
      clear HO_310003
      clear BK276
      clear BK309
      clear HB
      have HO_6:=n0_
      have HO_7:=n1_
      have HO_10:=n2_
      have HO_11:=n3_
      have HO_310000:=n4_
      have HO_310001:=n5_
      have HO_310002:=n6_
      have HO_310003:=n7_
      have HO321:=n8_
      have HO324:=n9_
      have HO327:=n10_
      have HO330:=n11_
      have BK276:=n12_
      have BK309:=n13_
      have HB:=n14_
      clear n0_ n1_ n2_ n3_ n4_ n5_ n6_ n7_ n8_ n9_ n10_ n11_ n12_ n13_ n14_
      (try clear hb)
      (try clear hb2)
      (try clear hk)
      (try clear hi)
      (try clear ho0)
      (try clear ho1)
      (try clear ho2)
      (try clear ho3)
      obtain ⟨Ao134,co134,eo134⟩:=Kd.S_slice HO321.out
      (first|subst eo134|(injection eo134 with f1_ f2_ f3_;have f4_:=f1_.symm;have f5_:=f3_.symm;clear f1_ f2_ f3_;subst f4_;subst f5_))
      obtain ⟨Ao135,co135,eo135⟩:=Kd.R_slice HO324.out
      (first|subst eo135|(injection eo135 with f1_ f2_ f3_;have f4_:=f1_.symm;have f5_:=f3_.symm;clear f1_ f2_ f3_;subst f4_;subst f5_))
      obtain ⟨Ao136,co136,eo136⟩:=Kd.R_slice HO327.out
      (first|subst eo136|(injection eo136 with f1_ f2_ f3_;have f4_:=f1_.symm;have f5_:=f3_.symm;clear f1_ f2_ f3_;subst f4_;subst f5_))
      obtain ⟨Ao137,co137,eo137⟩:=Kd.R_slice HO330.out
      (first|subst eo137|(injection eo137 with f1_ f2_ f3_;have f4_:=f1_.symm;have f5_:=f3_.symm;clear f1_ f2_ f3_;subst f4_;subst f5_))
      refine hK.out _ _ ⟨(blk_cell BK309.out 0).trans rfl,(blk_cell BK309.out 1).trans rfl,(blk_cell BK309.out 2).trans rfl,(blk_cell BK309.out 3).trans rfl,(blk_cell BK276.out 0).trans rfl,(blk_cell BK276.out 1).trans rfl,(blk_cell BK276.out 2).trans rfl,(blk_cell BK276.out 3).trans rfl⟩ (fun hHeld=>?_)
      clear hK K
      refine norm_ (a':=?_) ?_ ?_
      rotate_left
      ·show Act.put _ (some 58) _ = _
       simp only [Act.put,List.setIfInBounds_toArray,List.set_cons_zero,List.set_cons_succ,i64_w,i32_w]
       rfl
      refine one_ (i:=3) (N:=some 59) #[true,true,true,true,false] rfl rfl (by kernel_rfl) (by decide) (fun K hK=>?_)
      refine goes_ Try.func11 (by kernel_rfl) rfl #[.agg #[.slice Ao26 t297.length co26,.slice Ao29 t300.length co29,.slice Ao30 t303.length co30,.slice Ao31 t306.length co31],.agg #[.slice Ao134 t319.length co134,.slice Ao135 t322.length co135,.slice Ao136 t325.length co136,.slice Ao137 t328.length co137]] (by rfl) rfl rfl (by (try simp only [List.map_toArray,List.map_cons,List.map_nil]);first|done|rfl|(simp only [List.length_drop,List.length_take];rfl)) ?_
      with_reducible refine (laws_eqSpace.calls kj11 _ _ t297 _ _ t300 _ _ t303 _ _ t306 _ _ t319 _ _ t322 _ _ t325 _ _ t328 false _ ?side1 ?side2 ?side3 ?side4 ?side5 ?side6 ?side7 ?side8 ?side9 ?side10 ?side11 ?side12 ?side13 ?side14 ?side15 ?side16 A49.out).mono ?_
      (case side1=>repeat (first|exact (Kd.S_reads' HO_310000.out).2.2|(with_reducible first|apply Kd.C_alloc|apply Kd.C_drewN|apply Kd.C_drew)))
      (case side2=>exact (Kd.S_reads' HO_310000.out).2.1)
      (case side3=>repeat (first|exact (Kd.R_reads' HO_310001.out).2.2|(with_reducible first|apply Kd.C_alloc|apply Kd.C_drewN|apply Kd.C_drew)))
      (case side4=>exact (Kd.R_reads' HO_310001.out).2.1)
      (case side5=>repeat (first|exact (Kd.R_reads' HO_310002.out).2.2|(with_reducible first|apply Kd.C_alloc|apply Kd.C_drewN|apply Kd.C_drew)))
      (case side6=>exact (Kd.R_reads' HO_310002.out).2.1)
      (case side7=>repeat (first|exact (Kd.R_reads' HO_310003.out).2.2|(with_reducible first|apply Kd.C_alloc|apply Kd.C_drewN|apply Kd.C_drew)))
      (case side8=>exact (Kd.R_reads' HO_310003.out).2.1)
      (case side9=>repeat (first|exact (Kd.S_reads' HO321.out).2.2|(with_reducible first|apply Kd.C_alloc|apply Kd.C_drewN|apply Kd.C_drew)))
      (case side10=>exact (Kd.S_reads' HO321.out).2.1)
      (case side11=>repeat (first|exact (Kd.R_reads' HO324.out).2.2|(with_reducible first|apply Kd.C_alloc|apply Kd.C_drewN|apply Kd.C_drew)))
      (case side12=>exact (Kd.R_reads' HO324.out).2.1)
      (case side13=>repeat (first|exact (Kd.R_reads' HO327.out).2.2|(with_reducible first|apply Kd.C_alloc|apply Kd.C_drewN|apply Kd.C_drew)))
      (case side14=>exact (Kd.R_reads' HO327.out).2.1)
      (case side15=>repeat (first|exact (Kd.R_reads' HO330.out).2.2|(with_reducible first|apply Kd.C_alloc|apply Kd.C_drewN|apply Kd.C_drew)))
      (case side16=>exact (Kd.R_reads' HO330.out).2.1)
      rintro e w138 ⟨rfl,hb⟩
      refine ⟨_,rfl,?_⟩
      have n0_:=Aside0.mk (Kd.R_below (by (with_reducible repeat (first|apply Kd.R_alloc|apply Kd.R_drewN|apply Kd.R_drew));exact HO_6.out) hb)
      have n1_:=Aside0.mk (Kd.R_below (by (with_reducible repeat (first|apply Kd.R_alloc|apply Kd.R_drewN|apply Kd.R_drew));exact HO_7.out) hb)
      have n2_:=Aside0.mk (Kd.R_below (by (with_reducible repeat (first|apply Kd.R_alloc|apply Kd.R_drewN|apply Kd.R_drew));exact HO_10.out) hb)
      have n3_:=Aside0.mk (Kd.R_below (by (with_reducible repeat (first|apply Kd.R_alloc|apply Kd.R_drewN|apply Kd.R_drew));exact HO_11.out) hb)
      have n4_:=Aside0.mk (Kd.S_below (by (with_reducible repeat (first|apply Kd.S_alloc|apply Kd.S_drewN|apply Kd.S_drew));exact HO_310000.out) hb)
      have n5_:=Aside0.mk (Kd.R_below (by (with_reducible repeat (first|apply Kd.R_alloc|apply Kd.R_drewN|apply Kd.R_drew));exact HO_310001.out) hb)
      have n6_:=Aside0.mk (Kd.R_below (by (with_reducible repeat (first|apply Kd.R_alloc|apply Kd.R_drewN|apply Kd.R_drew));exact HO_310002.out) hb)
      have n7_:=Aside0.mk (Kd.R_below (by (with_reducible repeat (first|apply Kd.R_alloc|apply Kd.R_drewN|apply Kd.R_drew));exact HO_310003.out) hb)
      have n8_:=Aside0.mk (Kd.S_below (by (with_reducible repeat (first|apply Kd.S_alloc|apply Kd.S_drewN|apply Kd.S_drew));exact HO321.out) hb)
      have n9_:=Aside0.mk (Kd.R_below (by (with_reducible repeat (first|apply Kd.R_alloc|apply Kd.R_drewN|apply Kd.R_drew));exact HO324.out) hb)
      have n10_:=Aside0.mk (Kd.R_below (by (with_reducible repeat (first|apply Kd.R_alloc|apply Kd.R_drewN|apply Kd.R_drew));exact HO327.out) hb)
      have n11_:=Aside0.mk (Kd.R_below (by (with_reducible repeat (first|apply Kd.R_alloc|apply Kd.R_drewN|apply Kd.R_drew));exact HO330.out) hb)
      have n12_:=Aside0.mk (blk_below (g:=gb276) (o:=.cells #[.slice A0_0 l0_0.length c0_0,.slice A0_1 l0_1.length c0_1,.slice A0_2 l0_2.length c0_2,.slice A0_3 l0_3.length c0_3] 26 (0,0)) (by (with_reducible repeat first|apply blk_drewN|apply blk_drew|apply blk_alloc);exact BK276.out) hb)
      have n13_:=Aside0.mk (blk_below (g:=gb309) (o:=.cells #[.slice Ao26 t297.length co26,.slice Ao29 t300.length co29,.slice Ao30 t303.length co30,.slice Ao31 t306.length co31] 28 (0,0)) (by (with_reducible repeat first|apply blk_drewN|apply blk_drew|apply blk_alloc);exact BK309.out) hb)
      have n14_:=Aside0.mk (below_step (by repeat (first|(with_reducible first|exact HB.out|apply below_alloc|apply pw_below_drewN|apply below_drew1|refine below_set ?_ GE276.out|refine below_set ?_ GE309.out)|exact HB.out)) hb)
      clear HO_6
      clear HO_7
      clear HO_10
      clear HO_11
      clear HO_310000
      clear HO_310001
      clear HO_310002
      clear HO_310003
      clear HO321
      clear HO324
      clear HO327
      clear HO330
      clear BK276
      clear BK309
      clear HB
      have HO_6:=n0_
      have HO_7:=n1_
      have HO_10:=n2_
      have HO_11:=n3_
      have HO_310000:=n4_
      have HO_310001:=n5_
      have HO_310002:=n6_
      have HO_310003:=n7_
      have HO321:=n8_
      have HO324:=n9_
      have HO327:=n10_
      have HO330:=n11_
      have BK276:=n12_
      have BK309:=n13_
      have HB:=n14_
      clear n0_ n1_ n2_ n3_ n4_ n5_ n6_ n7_ n8_ n9_ n10_ n11_ n12_ n13_ n14_
      (try clear hb)
      (try clear hb2)
      (try clear hk)
      (try clear hi)
      refine hK.out _ _ ⟨(blk_cell BK309.out 0).trans rfl,(blk_cell BK309.out 1).trans rfl,(blk_cell BK309.out 2).trans rfl,(blk_cell BK309.out 3).trans rfl,(blk_cell BK276.out 0).trans rfl,(blk_cell BK276.out 1).trans rfl,(blk_cell BK276.out 2).trans rfl,(blk_cell BK276.out 3).trans rfl⟩ (fun hHeld=>?_)
      clear hK K
      refine norm_ (a':=?_) ?_ ?_
      rotate_left
      ·show Act.put _ (some 59) _ = _
       simp only [Act.put,List.setIfInBounds_toArray,List.set_cons_zero,List.set_cons_succ,i64_w,i32_w]
       rfl
      refine pure_ (i:=4) (N:=some 60) (v:=?_) (a':=?_) #[true,true,true,true,true] rfl rfl (by kernel_rfl) (fun _ _ _ h=>h) (Or.inl ⟨by rfl,?_⟩) ?_ ?_
      rotate_left
      ·intro w'
       go_simp
       with_reducible rfl
      rotate_left
      ·simp only [Act.put,List.setIfInBounds_toArray,List.set_cons_zero,List.set_cons_succ,i64_w,i32_w]
       rfl
      refine done_ (by kernel_rfl) ?_
      try go_wp2
      go_ret
      exact ⟨by first|rfl|(simp [*,errW_none,errW_some] <;> rfl),by repeat (first|(with_reducible first|exact HB.out|apply below_alloc|apply pw_below_drewN|apply below_drew1|refine below_set ?_ GE276.out|refine below_set ?_ GE309.out)|exact HB.out)⟩

end Go.Proofs.Ytggnbbbhlnjleaa.PFnExactRecordAt
