-- Written by a program of this session over the print of the kit (wip/t/patch_print.py).
import Derived.Test.YtggnbbbhlnjleaaPFnExactTextInx0
import Derived.Test.YtggnbbbhlnjleaaPFnExactTextInx3
import Derived.Test.YtggnbbbhlnjleaaPFnExactTextInx5
namespace Go.Proofs.Ytggnbbbhlnjleaa.PFnExactTextIn
open Go.RowKit Go.Proofs.YtggnbbbhlnjleaaW.PrintWords Go.Proofs.YtggnbbbhlnjleaaW.PrintLast Go.Proofs.YtggnbbbhlnjleaaW.PrintMore
attribute [local go_sem] max2_int min2_int max_two min_two max_three min_three max_four min_four   -- for this text's walks alone
set_option linter.unusedVariables false
set_option linter.unusedSimpArgs false

/-! ### spec_l7Pieces: function 66 -/
mutual
def spec_l7Pieces.j0 : Nat → Int → Bool → List (List Int) → List Int → List Int → List Int → Option (List Int × Bool)
 | 0,_,_,_,_,_,_=>none
 | k + 1,x1,x36,x187000,x187001,x187002,x187003=>if x36 = true then (some (([] : List Int),false)) else (if 0 ≤ x1 then (if x1 < (x187000.length : Int) then (if 1 < ((rd_L1 x187000 x1).length : Int) then (spec_l7Pieces.l0 k (rd_L1 x187000 x1) (wrap64 (rd (rd_L1 x187000 x1) 1)) ([] : List Int) 0 x187000 x187001 x187002 x187003) else (none)) else (none)) else (none))
def spec_l7Pieces.l0 : Nat → List Int → Int → List Int → Int → List (List Int) → List Int → List Int → List Int → Option (List Int × Bool)
 | 0,_,_,_,_,_,_,_,_=>none
 | k + 1,x6,x7,x8,x9,x187000,x187001,x187002,x187003=>if x9 < x7 then (if 0 ≤ (wrap64 (2 + (wrap64 (2 * x9)))) then (if (wrap64 (2 + (wrap64 (2 * x9)))) < (x6.length : Int) then (if 0 ≤ (wrap64 (3 + (wrap64 (2 * x9)))) then (if (wrap64 (3 + (wrap64 (2 * x9)))) < (x6.length : Int) then ((spec_l5Live.f k x187000 x187001 x187002 x187003 (wrap64 ((wrap64 ((wrap64 (rd x6 (wrap64 (2 + (wrap64 (2 * x9)))))) * 256)) + (wrap64 (rd x6 (wrap64 (3 + (wrap64 (2 * x9))))))))).bind fun t197=>(if t197 = true then ((spec_l5Has.f k x8 (wrap64 ((wrap64 ((wrap64 (rd x6 (wrap64 (2 + (wrap64 (2 * x9)))))) * 256)) + (wrap64 (rd x6 (wrap64 (3 + (wrap64 (2 * x9))))))))).bind fun t198=>(spec_l7Pieces.j2 k x6 x7 x8 x9 (wrap64 ((wrap64 ((wrap64 (rd x6 (wrap64 (2 + (wrap64 (2 * x9)))))) * 256)) + (wrap64 (rd x6 (wrap64 (3 + (wrap64 (2 * x9)))))))) t198 x187000 x187001 x187002 x187003)) else (spec_l7Pieces.j2 k x6 x7 x8 x9 (wrap64 ((wrap64 ((wrap64 (rd x6 (wrap64 (2 + (wrap64 (2 * x9)))))) * 256)) + (wrap64 (rd x6 (wrap64 (3 + (wrap64 (2 * x9)))))))) true x187000 x187001 x187002 x187003))) else (none)) else (none)) else (none)) else (none)) else ((spec_l7Rest.f k x6 (wrap64 (2 + (wrap64 (2 * x7))))).bind fun t194=>(some (x8,t194)))
def spec_l7Pieces.j2 : Nat → List Int → Int → List Int → Int → Int → Bool → List (List Int) → List Int → List Int → List Int → Option (List Int × Bool)
 | 0,_,_,_,_,_,_,_,_,_,_=>none
 | k + 1,x6,x7,x8,x9,x10,x75,x187000,x187001,x187002,x187003=>if x75 = true then (some (([] : List Int),false)) else (if 0 ≤ x10 then (if x10 < (x187000.length : Int) then (if 2 < ((rd_L1 x187000 x10).length : Int) then (if 0 < ((rd_L1 x187000 x10).length : Int) then (if (rd (rd_L1 x187000 x10) 0) = 83 then (if 1 < ((rd_L1 x187000 x10).length : Int) then ((spec_l1In.f (wrap64 (rd (rd_L1 x187000 x10) 1)) 1 250).bind fun t203=>(if t203 = true then ((spec_l1In.f (wrap64 (rd (rd_L1 x187000 x10) 2)) 1 40).bind fun t204=>(if t204 = true then (if x9 < (wrap64 (x7 - 1)) then (if (wrap64 (rd (rd_L1 x187000 x10) 2)) = 40 then ((spec_l7Rest.f k (rd_L1 x187000 x10) (wrap64 (3 + (wrap64 (rd (rd_L1 x187000 x10) 2))))).bind fun t205=>(if t205 = true then (if x8.length < 17592186044416 then (spec_l7Pieces.l0 k x6 x7 (x8 ++ [x10]) (wrap64 (x9 + 1)) x187000 x187001 x187002 x187003) else (none)) else (some (([] : List Int),false)))) else (some (([] : List Int),false))) else ((spec_l7Rest.f k (rd_L1 x187000 x10) (wrap64 (3 + (wrap64 (rd (rd_L1 x187000 x10) 2))))).bind fun t209=>(if t209 = true then (if x8.length < 17592186044416 then (spec_l7Pieces.l0 k x6 x7 (x8 ++ [x10]) (wrap64 (x9 + 1)) x187000 x187001 x187002 x187003) else (none)) else (some (([] : List Int),false))))) else (some (([] : List Int),false)))) else (some (([] : List Int),false)))) else (none)) else (some (([] : List Int),false))) else (none)) else (none)) else (none)) else (none))
end
def spec_l7Pieces.f (k : Nat) (l0_0 : List (List Int)) (l0_1 : List Int) (l0_2 : List Int) (l0_3 : List Int) (a1 : Int) : Option (List Int × Bool):=(spec_l5Live.f k l0_0 l0_1 l0_2 l0_3 a1).bind fun t187=>(if t187 = true then (if 0 ≤ a1 then (if a1 < (l0_0.length : Int) then (if 0 < ((rd_L1 l0_0 a1).length : Int) then (if (rd (rd_L1 l0_0 a1) 0) = 84 then (if 1 < ((rd_L1 l0_0 a1).length : Int) then (spec_l7Pieces.j0 k a1 (decide ((rd (rd_L1 l0_0 a1) 1) > 3)) l0_0 l0_1 l0_2 l0_3) else (none)) else (spec_l7Pieces.j0 k a1 true l0_0 l0_1 l0_2 l0_3)) else (none)) else (none)) else (none)) else (spec_l7Pieces.j0 k a1 true l0_0 l0_1 l0_2 l0_3))
theorem spec_l7Pieces.mono_l : ∀ k,(∀ y0 y1 y2 y3 y4 y5,LeO (spec_l7Pieces.j0 k y0 y1 y2 y3 y4 y5) (spec_l7Pieces.j0 (k + 1) y0 y1 y2 y3 y4 y5))∧(∀ y0 y1 y2 y3 y4 y5 y6 y7,LeO (spec_l7Pieces.l0 k y0 y1 y2 y3 y4 y5 y6 y7) (spec_l7Pieces.l0 (k + 1) y0 y1 y2 y3 y4 y5 y6 y7))∧(∀ y0 y1 y2 y3 y4 y5 y6 y7 y8 y9,LeO (spec_l7Pieces.j2 k y0 y1 y2 y3 y4 y5 y6 y7 y8 y9) (spec_l7Pieces.j2 (k + 1) y0 y1 y2 y3 y4 y5 y6 y7 y8 y9))
 | 0=>⟨fun _ _ _ _ _ _ r h=>by simp [spec_l7Pieces.j0] at h,fun _ _ _ _ _ _ _ _ r h=>by simp [spec_l7Pieces.l0] at h,fun _ _ _ _ _ _ _ _ _ _ r h=>by simp [spec_l7Pieces.j2] at h⟩
 | k + 1=>by
  obtain ⟨ih0,ih1,ih2⟩:=spec_l7Pieces.mono_l k
  refine ⟨?_,?_,?_⟩
  ·intro y0 y1 y2 y3 y4 y5
   unfold spec_l7Pieces.j0
   repeat' first
   | (with_reducible exact ih0 _ _ _ _ _ _)
   | (with_reducible exact ih1 _ _ _ _ _ _ _ _)
   | (with_reducible exact ih2 _ _ _ _ _ _ _ _ _ _)
   | (with_reducible exact spec_l5Has.mono _ _ _)
   | (with_reducible exact spec_l5Live.mono _ _ _ _ _ _)
   | (with_reducible exact spec_l7Rest.mono _ _ _)
   | (with_reducible exact LeO.refl _)
   | (with_reducible exact LeO.none _)
   | (with_reducible refine LeO.ite ?_ ?_)
   | (with_reducible refine LeO.bind ?_ (fun _=>?_))
   | exact ih0 _ _ _ _ _ _
   | exact ih1 _ _ _ _ _ _ _ _
   | exact ih2 _ _ _ _ _ _ _ _ _ _
   | exact spec_l5Has.mono _ _ _
   | exact spec_l5Live.mono _ _ _ _ _ _
   | exact spec_l7Rest.mono _ _ _
   | exact LeO.none _
   | refine LeO.ite ?_ ?_
   | refine LeO.bind ?_ (fun _=>?_)
  ·intro y0 y1 y2 y3 y4 y5 y6 y7
   unfold spec_l7Pieces.l0
   repeat' first
   | (with_reducible exact ih0 _ _ _ _ _ _)
   | (with_reducible exact ih1 _ _ _ _ _ _ _ _)
   | (with_reducible exact ih2 _ _ _ _ _ _ _ _ _ _)
   | (with_reducible exact spec_l5Has.mono _ _ _)
   | (with_reducible exact spec_l5Live.mono _ _ _ _ _ _)
   | (with_reducible exact spec_l7Rest.mono _ _ _)
   | (with_reducible exact LeO.refl _)
   | (with_reducible exact LeO.none _)
   | (with_reducible refine LeO.ite ?_ ?_)
   | (with_reducible refine LeO.bind ?_ (fun _=>?_))
   | exact ih0 _ _ _ _ _ _
   | exact ih1 _ _ _ _ _ _ _ _
   | exact ih2 _ _ _ _ _ _ _ _ _ _
   | exact spec_l5Has.mono _ _ _
   | exact spec_l5Live.mono _ _ _ _ _ _
   | exact spec_l7Rest.mono _ _ _
   | exact LeO.none _
   | refine LeO.ite ?_ ?_
   | refine LeO.bind ?_ (fun _=>?_)
  ·intro y0 y1 y2 y3 y4 y5 y6 y7 y8 y9
   unfold spec_l7Pieces.j2
   repeat' first
   | (with_reducible exact ih0 _ _ _ _ _ _)
   | (with_reducible exact ih1 _ _ _ _ _ _ _ _)
   | (with_reducible exact ih2 _ _ _ _ _ _ _ _ _ _)
   | (with_reducible exact spec_l5Has.mono _ _ _)
   | (with_reducible exact spec_l5Live.mono _ _ _ _ _ _)
   | (with_reducible exact spec_l7Rest.mono _ _ _)
   | (with_reducible exact LeO.refl _)
   | (with_reducible exact LeO.none _)
   | (with_reducible refine LeO.ite ?_ ?_)
   | (with_reducible refine LeO.bind ?_ (fun _=>?_))
   | exact ih0 _ _ _ _ _ _
   | exact ih1 _ _ _ _ _ _ _ _
   | exact ih2 _ _ _ _ _ _ _ _ _ _
   | exact spec_l5Has.mono _ _ _
   | exact spec_l5Live.mono _ _ _ _ _ _
   | exact spec_l7Rest.mono _ _ _
   | exact LeO.none _
   | refine LeO.ite ?_ ?_
   | refine LeO.bind ?_ (fun _=>?_)
theorem spec_l7Pieces.mono : ∀ a0 a1 a2 a3 a4 k,LeO (spec_l7Pieces.f k a0 a1 a2 a3 a4) (spec_l7Pieces.f (k + 1) a0 a1 a2 a3 a4):=by
 intro a0 a1 a2 a3 a4 k
 obtain ⟨ih0,ih1,ih2⟩:=spec_l7Pieces.mono_l k
 unfold spec_l7Pieces.f
 repeat' first
   | (with_reducible exact ih0 _ _ _ _ _ _)
   | (with_reducible exact ih1 _ _ _ _ _ _ _ _)
   | (with_reducible exact ih2 _ _ _ _ _ _ _ _ _ _)
   | (with_reducible exact spec_l5Has.mono _ _ _)
   | (with_reducible exact spec_l5Live.mono _ _ _ _ _ _)
   | (with_reducible exact spec_l7Rest.mono _ _ _)
   | (with_reducible exact LeO.refl _)
   | (with_reducible exact LeO.none _)
   | (with_reducible refine LeO.ite ?_ ?_)
   | (with_reducible refine LeO.bind ?_ (fun _=>?_))
   | exact ih0 _ _ _ _ _ _
   | exact ih1 _ _ _ _ _ _ _ _
   | exact ih2 _ _ _ _ _ _ _ _ _ _
   | exact spec_l5Has.mono _ _ _
   | exact spec_l5Live.mono _ _ _ _ _ _
   | exact spec_l7Rest.mono _ _ _
   | exact LeO.none _
   | refine LeO.ite ?_ ?_
   | refine LeO.bind ?_ (fun _=>?_)
set_option maxHeartbeats 8000000 in
set_option maxRecDepth 100000 in
theorem spec_l7Pieces.calls (k : Nat) (A0_0 : Option Addr) (c0_0 : Nat) (l0_0 : List (List Int)) (A0_1 : Option Addr) (c0_1 : Nat) (l0_1 : List Int) (A0_2 : Option Addr) (c0_2 : Nat) (l0_2 : List Int) (A0_3 : Option Addr) (c0_3 : Nat) (l0_3 : List Int) (a1 : Int) (r1 : List Int) (r2 : Bool) (w : World) (hr0_0 : Kd.C (Kd.slice 5 (Kd.int .u8)) w A0_0 l0_0.length l0_0) (hc0_0 : l0_0.length ≤ c0_0) (hr0_1 : Kd.C (Kd.int .u8) w A0_1 l0_1.length l0_1) (hc0_1 : l0_1.length ≤ c0_1) (hr0_2 : Kd.C (Kd.int .i64) w A0_2 l0_2.length l0_2) (hc0_2 : l0_2.length ≤ c0_2) (hr0_3 : Kd.C (Kd.int .i64) w A0_3 l0_3.length l0_3) (hc0_3 : l0_3.length ≤ c0_3) (h : spec_l7Pieces.f k l0_0 l0_1 l0_2 l0_3 a1 = some (r1,r2)) :
  Calls Try.prog 66 #[.agg #[.slice A0_0 l0_0.length c0_0,.slice A0_1 l0_1.length c0_1,.slice A0_2 l0_2.length c0_2,.slice A0_3 l0_3.length c0_3],.int .i64 a1] w fun e w'=>∃ v0_ : Value,e = .returned (.tuple #[v0_,.bool r2])∧Kd.R (Kd.int .i64) 3 w' w.heap.size (fun _=>True) v0_ r1∧Below w.heap.size w w':=by
 have hu28:=Try.underlying28
 have HR0_0:=Aside0.mk hr0_0
 have HC0_0:=Aside0.mk hc0_0
 clear hr0_0 hc0_0
 have HR0_1:=Aside0.mk hr0_1
 have HC0_1:=Aside0.mk hc0_1
 clear hr0_1 hc0_1
 have HR0_2:=Aside0.mk hr0_2
 have HC0_2:=Aside0.mk hc0_2
 clear hr0_2 hc0_2
 have HR0_3:=Aside0.mk hr0_3
 have HC0_3:=Aside0.mk hc0_3
 clear hr0_3 hc0_3
 have HB:=Aside0.mk (Below.refl w.heap.size w)
 have H : ((spec_l5Live.f k l0_0 l0_1 l0_2 l0_3 a1).bind fun t187=>(if t187 = true then (if 0 ≤ a1 then (if a1 < (l0_0.length : Int) then (if 0 < ((rd_L1 l0_0 a1).length : Int) then (if (rd (rd_L1 l0_0 a1) 0) = 84 then (if 1 < ((rd_L1 l0_0 a1).length : Int) then (spec_l7Pieces.j0 k a1 (decide ((rd (rd_L1 l0_0 a1) 1) > 3)) l0_0 l0_1 l0_2 l0_3) else (none)) else (spec_l7Pieces.j0 k a1 true l0_0 l0_1 l0_2 l0_3)) else (none)) else (none)) else (none)) else (spec_l7Pieces.j0 k a1 true l0_0 l0_1 l0_2 l0_3))) = some (r1,r2):=h
 clear h
 have HC3:=Aside0.mk H
 clear H
 go_enter Try.func66,Try.ntmps66
 go_upto_region 1 with (first|((with_reducible refine gate_dst (N:=2) rfl ?_);refine box_event ?hg (N:=2) ?hd (cs:=#[.slice A0_0 l0_0.length c0_0,.slice A0_1 l0_1.length c0_1,.slice A0_2 l0_2.length c0_2,.slice A0_3 l0_3.length c0_3]) (t:=28) ?hr ?_;(case hd=>rfl);(case hg=>rfl);(case hr=>first|(go_simp;done)|(go_simp;rfl));intro gb186 hg w4 hbox hb;have n0_:=Aside0.mk (below_step (by repeat (first|exact HB.out|apply below_alloc|apply pw_below_drewN|apply below_drew1)) hb);have n1_:=Aside0.mk (hbox);have n2_:=Aside0.mk ((by rw [hg];exact (below_size (by repeat (first|exact HB.out|apply below_alloc|apply pw_below_drewN|apply below_drew1))) : w.heap.size ≤ gb186));have n3_:=Aside0.mk ((by rw [hg];exact (below_size (by repeat (first|exact HB.out|apply below_alloc|apply pw_below_drewN|apply below_drew1))) : w.heap.size ≤ gb186));clear HB;have HB:=n0_;have BK186:=n1_;have GW186:=n2_;have GE186:=n3_;clear n0_ n1_ n2_ n3_;clear hb hbox hg))
 repeat (go_quiet (first|((with_reducible refine gate_dst (N:=2) rfl ?_);refine box_event ?hg (N:=2) ?hd (cs:=#[.slice A0_0 l0_0.length c0_0,.slice A0_1 l0_1.length c0_1,.slice A0_2 l0_2.length c0_2,.slice A0_3 l0_3.length c0_3]) (t:=28) ?hr ?_;(case hd=>rfl);(case hg=>rfl);(case hr=>first|(go_simp;done)|(go_simp;rfl));intro gb186 hg w4 hbox hb;have n0_:=Aside0.mk (below_step (by repeat (first|exact HB.out|apply below_alloc|apply pw_below_drewN|apply below_drew1)) hb);have n1_:=Aside0.mk (hbox);have n2_:=Aside0.mk ((by rw [hg];exact (below_size (by repeat (first|exact HB.out|apply below_alloc|apply pw_below_drewN|apply below_drew1))) : w.heap.size ≤ gb186));have n3_:=Aside0.mk ((by rw [hg];exact (below_size (by repeat (first|exact HB.out|apply below_alloc|apply pw_below_drewN|apply below_drew1))) : w.heap.size ≤ gb186));clear HB;have HB:=n0_;have BK186:=n1_;have GW186:=n2_;have GE186:=n3_;clear n0_ n1_ n2_ n3_;clear hb hbox hg));go_upto_region 1 with (first|((with_reducible refine gate_dst (N:=2) rfl ?_);refine box_event ?hg (N:=2) ?hd (cs:=#[.slice A0_0 l0_0.length c0_0,.slice A0_1 l0_1.length c0_1,.slice A0_2 l0_2.length c0_2,.slice A0_3 l0_3.length c0_3]) (t:=28) ?hr ?_;(case hd=>rfl);(case hg=>rfl);(case hr=>first|(go_simp;done)|(go_simp;rfl));intro gb186 hg w4 hbox hb;have n0_:=Aside0.mk (below_step (by repeat (first|exact HB.out|apply below_alloc|apply pw_below_drewN|apply below_drew1)) hb);have n1_:=Aside0.mk (hbox);have n2_:=Aside0.mk ((by rw [hg];exact (below_size (by repeat (first|exact HB.out|apply below_alloc|apply pw_below_drewN|apply below_drew1))) : w.heap.size ≤ gb186));have n3_:=Aside0.mk ((by rw [hg];exact (below_size (by repeat (first|exact HB.out|apply below_alloc|apply pw_below_drewN|apply below_drew1))) : w.heap.size ≤ gb186));clear HB;have HB:=n0_;have BK186:=n1_;have GW186:=n2_;have GE186:=n3_;clear n0_ n1_ n2_ n3_;clear hb hbox hg)))
 (try simp only [Act.put,List.setIfInBounds_toArray,List.set_cons_zero,List.set_cons_succ])
 go_cut [36] (fun v36 wc=>∃ (kq : Nat) (x36_2 : Bool),v36 = .bool x36_2∧Aside0 (spec_l7Pieces.j0 kq a1 x36_2 l0_0 l0_1 l0_2 l0_3 = some (r1,r2))∧Aside0 (kq ≤ k)∧Aside0 (wc.heap[gb186]? = some (.cells #[(.slice A0_0 l0_0.length c0_0),(.slice A0_1 l0_1.length c0_1),(.slice A0_2 l0_2.length c0_2),(.slice A0_3 l0_3.length c0_3)] 28 (0,0)))∧Aside0 (Below w.heap.size w wc))
 case first =>
  have H:=HC3.out
  clear HC3
  replace H:=Option.bind_eq_some_iff.mp H
  obtain ⟨t187,A50,H⟩:=H
  replace H : (if t187 = true then (if 0 ≤ a1 then (if a1 < (l0_0.length : Int) then (if 0 < ((rd_L1 l0_0 a1).length : Int) then (if (rd (rd_L1 l0_0 a1) 0) = 84 then (if 1 < ((rd_L1 l0_0 a1).length : Int) then (spec_l7Pieces.j0 k a1 (decide ((rd (rd_L1 l0_0 a1) 1) > 3)) l0_0 l0_1 l0_2 l0_3) else (none)) else (spec_l7Pieces.j0 k a1 true l0_0 l0_1 l0_2 l0_3)) else (none)) else (none)) else (none)) else (spec_l7Pieces.j0 k a1 true l0_0 l0_1 l0_2 l0_3)) = some (r1,r2):=H
  have A5:=Aside0.mk A50
  clear A50
  by_cases c6 : t187 = true
  ·subst c6
   have H1 : (if 0 ≤ a1 then (if a1 < (l0_0.length : Int) then (if 0 < ((rd_L1 l0_0 a1).length : Int) then (if (rd (rd_L1 l0_0 a1) 0) = 84 then (if 1 < ((rd_L1 l0_0 a1).length : Int) then (spec_l7Pieces.j0 k a1 (decide ((rd (rd_L1 l0_0 a1) 1) > 3)) l0_0 l0_1 l0_2 l0_3) else (none)) else (spec_l7Pieces.j0 k a1 true l0_0 l0_1 l0_2 l0_3)) else (none)) else (none)) else (none)) = some (r1,r2):=by rw [if_pos rfl] at H;exact H
   clear H
   have H:=H1
   clear H1
   by_cases c7 : 0 ≤ a1
   ·rw [if_pos c7] at H
    have c7b0 : decide (0 ≤ a1) = true:=decide_eq_true c7
    clear c7
    (first|rw [c7b0]|(simp only [i64_w,i32_w];rw [c7b0])|skip)
    by_cases c8 : a1 < (l0_0.length : Int)
    ·rw [if_pos c8] at H
     have c8b0 : decide (a1 < (l0_0.length : Int)) = true:=decide_eq_true c8
     clear c8
     by_cases c9 : 0 < ((rd_L1 l0_0 a1).length : Int)
     ·rw [if_pos c9] at H
      have c9b0 : decide (0 < ((rd_L1 l0_0 a1).length : Int)) = true:=decide_eq_true c9
      have c9b1 : decide (0 < (rd_L1 l0_0 a1).length) = true:=decide_eq_true (by omega)
      clear c9
      by_cases c10 : (rd (rd_L1 l0_0 a1) 0) = 84
      ·rw [if_pos c10] at H
       have c10b0 : ((rd (rd_L1 l0_0 a1) 0) == 84) = true:=beq_iff_eq.mpr c10
       have c10b1 : ((rd (rd_L1 l0_0 a1) 0) != 84) = false:=bne_eq_false_iff_eq.mpr c10
       clear c10
       by_cases c11 : 1 < ((rd_L1 l0_0 a1).length : Int)
       ·rw [if_pos c11] at H
        have c11b0 : decide (1 < ((rd_L1 l0_0 a1).length : Int)) = true:=decide_eq_true c11
        have c11b1 : decide (1 < (rd_L1 l0_0 a1).length) = true:=decide_eq_true (by omega)
        clear c11
        have H':=Aside0.mk H
        clear H
        have hcz12_0 : w4.cell? ⟨gb186,0,none⟩ = some (.slice A0_0 l0_0.length c0_0):=(blk_cell BK186.out 0).trans rfl
        have hcz12_1 : w4.cell? ⟨gb186,1,none⟩ = some (.slice A0_1 l0_1.length c0_1):=(blk_cell BK186.out 1).trans rfl
        have hcz12_2 : w4.cell? ⟨gb186,2,none⟩ = some (.slice A0_2 l0_2.length c0_2):=(blk_cell BK186.out 2).trans rfl
        have hcz12_3 : w4.cell? ⟨gb186,3,none⟩ = some (.slice A0_3 l0_3.length c0_3):=(blk_cell BK186.out 3).trans rfl
        have hfz12_0:=blk_frozen BK186.out 0
        have hfz12_1:=blk_frozen BK186.out 1
        have hfz12_2:=blk_frozen BK186.out 2
        have hfz12_3:=blk_frozen BK186.out 3
        go_wp2_with (first|(go_at_call 55;(with_reducible refine (spec_l5Live.calls k _ _ l0_0 _ _ l0_1 _ _ l0_2 _ _ l0_3 a1 true _ ?side1 ?side2 ?side3 ?side4 ?side5 ?side6 ?side7 ?side8 A5.out).mono ?_);(case side1=>repeat (first|exact (Kd.C_below HR0_0.out HB.out)|(with_reducible first|apply Kd.C_alloc|apply Kd.C_drewN|apply Kd.C_drew)));(case side2=>exact HC0_0.out);(case side3=>repeat (first|exact (Kd.C_below HR0_1.out HB.out)|(with_reducible first|apply Kd.C_alloc|apply Kd.C_drewN|apply Kd.C_drew)));(case side4=>exact HC0_1.out);(case side5=>repeat (first|exact (Kd.C_below HR0_2.out HB.out)|(with_reducible first|apply Kd.C_alloc|apply Kd.C_drewN|apply Kd.C_drew)));(case side6=>exact HC0_2.out);(case side7=>repeat (first|exact (Kd.C_below HR0_3.out HB.out)|(with_reducible first|apply Kd.C_alloc|apply Kd.C_drewN|apply Kd.C_drew)));(case side8=>exact HC0_3.out);rintro e w13 ⟨rfl,hb⟩;have n0_:=Aside0.mk (blk_below (g:=gb186) (o:=.cells #[.slice A0_0 l0_0.length c0_0,.slice A0_1 l0_1.length c0_1,.slice A0_2 l0_2.length c0_2,.slice A0_3 l0_3.length c0_3] 28 (0,0)) (by (with_reducible repeat first|apply blk_drewN|apply blk_drew|apply blk_alloc);exact BK186.out) hb);have n1_:=Aside0.mk (below_step (by repeat (first|(with_reducible first|exact HB.out|apply below_alloc|apply pw_below_drewN|apply below_drew1|refine below_set ?_ GE186.out)|exact HB.out)) hb);clear BK186;clear HB;have BK186:=n0_;have HB:=n1_;clear n0_ n1_;(try clear hb);(try clear hb2);(try clear hk);(try clear hi);have hcz14_0 : w13.cell? ⟨gb186,0,none⟩ = some (.slice A0_0 l0_0.length c0_0):=(blk_cell BK186.out 0).trans rfl;have hcz14_1 : w13.cell? ⟨gb186,1,none⟩ = some (.slice A0_1 l0_1.length c0_1):=(blk_cell BK186.out 1).trans rfl;have hcz14_2 : w13.cell? ⟨gb186,2,none⟩ = some (.slice A0_2 l0_2.length c0_2):=(blk_cell BK186.out 2).trans rfl;have hcz14_3 : w13.cell? ⟨gb186,3,none⟩ = some (.slice A0_3 l0_3.length c0_3):=(blk_cell BK186.out 3).trans rfl;have hfz14_0:=blk_frozen BK186.out 0;have hfz14_1:=blk_frozen BK186.out 1;have hfz14_2:=blk_frozen BK186.out 2;have hfz14_3:=blk_frozen BK186.out 3;have p188 : 0 ≤ (a1 : Int):=of_decide_eq_true (by assumption);have q188 : a1 < (l0_0.length : Int):=of_decide_eq_true (by assumption);obtain ⟨ad188,A188_0,c188_0,e188,hx188_0,hl188_0,hi188_0⟩:=at_L1 HR0_0.out a1 p188 q188;cases e188;(try replace hx188_0:=(HB.out.cell (World.block_lt_of_cell? w _ hx188_0)).trans hx188_0);have HR188_0:=Aside0.mk hi188_0;have HC188_0:=Aside0.mk hl188_0;clear hi188_0 hl188_0;replace p188:=eq_true p188;replace q188:=eq_true q188;have p189 : 0 ≤ (0 : Int):=(by omega);have q189 : 0 < ((rd_L1 l0_0 a1).length : Int):=of_decide_eq_true (by assumption);obtain ⟨ad189,e189,hx189_0⟩:=Kd.at_int HR188_0.out 0 p189 q189;cases e189;have qi189 : (0 < (rd_L1 l0_0 a1).length) = True:=eq_true (by omega);(try rw [show ((0 : Int)).toNat = 0 from rfl] at hx189_0);(try rw [Addr.add_zero'] at hx189_0);(try replace hx189_0:=(HB.out.cell (World.block_lt_of_cell? w _ hx189_0)).trans hx189_0);replace p189:=eq_true p189;replace q189:=eq_true q189;have p190 : 0 ≤ (a1 : Int):=of_decide_eq_true (by assumption);have q190 : a1 < (l0_0.length : Int):=of_decide_eq_true (by assumption);obtain ⟨ad190,A190_0,c190_0,e190,hx190_0,hl190_0,hi190_0⟩:=at_L1 HR0_0.out a1 p190 q190;obtain rfl : ad188 = ad190:=(by injection e190);(try replace hx190_0:=(HB.out.cell (World.block_lt_of_cell? w _ hx190_0)).trans hx190_0);have HR190_0:=Aside0.mk hi190_0;have HC190_0:=Aside0.mk hl190_0;clear hi190_0 hl190_0;replace p190:=eq_true p190;replace q190:=eq_true q190;have ea_:=Option.some.inj (hx188_0.symm.trans hx190_0);injection ea_ with ea_ en_ ec_;subst ea_;subst ec_;clear en_;have p191 : 0 ≤ (1 : Int):=(by omega);have q191 : 1 < ((rd_L1 l0_0 a1).length : Int):=of_decide_eq_true (by assumption);obtain ⟨ad191,e191,hx191_0⟩:=Kd.at_int HR190_0.out 1 p191 q191;obtain rfl : ad189 = ad191:=(by injection e191);(try simp only [show (1 : Int).toNat = 1 from rfl,Nat.reduceMul,Nat.reduceEqDiff,Go.Addr.add,↓reduceIte] at hx191_0);have qi191 : (1 < (rd_L1 l0_0 a1).length) = True:=eq_true (by omega);(try rw [show ((1 : Int)).toNat = 1 from rfl] at hx191_0);(try replace hx191_0:=(HB.out.cell (World.block_lt_of_cell? w _ hx191_0)).trans hx191_0);replace p191:=eq_true p191;replace q191:=eq_true q191))
        repeat (go_quiet (first|(go_at_call 55;(with_reducible refine (spec_l5Live.calls k _ _ l0_0 _ _ l0_1 _ _ l0_2 _ _ l0_3 a1 true _ ?side1 ?side2 ?side3 ?side4 ?side5 ?side6 ?side7 ?side8 A5.out).mono ?_);(case side1=>repeat (first|exact (Kd.C_below HR0_0.out HB.out)|(with_reducible first|apply Kd.C_alloc|apply Kd.C_drewN|apply Kd.C_drew)));(case side2=>exact HC0_0.out);(case side3=>repeat (first|exact (Kd.C_below HR0_1.out HB.out)|(with_reducible first|apply Kd.C_alloc|apply Kd.C_drewN|apply Kd.C_drew)));(case side4=>exact HC0_1.out);(case side5=>repeat (first|exact (Kd.C_below HR0_2.out HB.out)|(with_reducible first|apply Kd.C_alloc|apply Kd.C_drewN|apply Kd.C_drew)));(case side6=>exact HC0_2.out);(case side7=>repeat (first|exact (Kd.C_below HR0_3.out HB.out)|(with_reducible first|apply Kd.C_alloc|apply Kd.C_drewN|apply Kd.C_drew)));(case side8=>exact HC0_3.out);rintro e w13 ⟨rfl,hb⟩;have n0_:=Aside0.mk (blk_below (g:=gb186) (o:=.cells #[.slice A0_0 l0_0.length c0_0,.slice A0_1 l0_1.length c0_1,.slice A0_2 l0_2.length c0_2,.slice A0_3 l0_3.length c0_3] 28 (0,0)) (by (with_reducible repeat first|apply blk_drewN|apply blk_drew|apply blk_alloc);exact BK186.out) hb);have n1_:=Aside0.mk (below_step (by repeat (first|(with_reducible first|exact HB.out|apply below_alloc|apply pw_below_drewN|apply below_drew1|refine below_set ?_ GE186.out)|exact HB.out)) hb);clear BK186;clear HB;have BK186:=n0_;have HB:=n1_;clear n0_ n1_;(try clear hb);(try clear hb2);(try clear hk);(try clear hi);have hcz14_0 : w13.cell? ⟨gb186,0,none⟩ = some (.slice A0_0 l0_0.length c0_0):=(blk_cell BK186.out 0).trans rfl;have hcz14_1 : w13.cell? ⟨gb186,1,none⟩ = some (.slice A0_1 l0_1.length c0_1):=(blk_cell BK186.out 1).trans rfl;have hcz14_2 : w13.cell? ⟨gb186,2,none⟩ = some (.slice A0_2 l0_2.length c0_2):=(blk_cell BK186.out 2).trans rfl;have hcz14_3 : w13.cell? ⟨gb186,3,none⟩ = some (.slice A0_3 l0_3.length c0_3):=(blk_cell BK186.out 3).trans rfl;have hfz14_0:=blk_frozen BK186.out 0;have hfz14_1:=blk_frozen BK186.out 1;have hfz14_2:=blk_frozen BK186.out 2;have hfz14_3:=blk_frozen BK186.out 3;have p188 : 0 ≤ (a1 : Int):=of_decide_eq_true (by assumption);have q188 : a1 < (l0_0.length : Int):=of_decide_eq_true (by assumption);obtain ⟨ad188,A188_0,c188_0,e188,hx188_0,hl188_0,hi188_0⟩:=at_L1 HR0_0.out a1 p188 q188;cases e188;(try replace hx188_0:=(HB.out.cell (World.block_lt_of_cell? w _ hx188_0)).trans hx188_0);have HR188_0:=Aside0.mk hi188_0;have HC188_0:=Aside0.mk hl188_0;clear hi188_0 hl188_0;replace p188:=eq_true p188;replace q188:=eq_true q188;have p189 : 0 ≤ (0 : Int):=(by omega);have q189 : 0 < ((rd_L1 l0_0 a1).length : Int):=of_decide_eq_true (by assumption);obtain ⟨ad189,e189,hx189_0⟩:=Kd.at_int HR188_0.out 0 p189 q189;cases e189;have qi189 : (0 < (rd_L1 l0_0 a1).length) = True:=eq_true (by omega);(try rw [show ((0 : Int)).toNat = 0 from rfl] at hx189_0);(try rw [Addr.add_zero'] at hx189_0);(try replace hx189_0:=(HB.out.cell (World.block_lt_of_cell? w _ hx189_0)).trans hx189_0);replace p189:=eq_true p189;replace q189:=eq_true q189;have p190 : 0 ≤ (a1 : Int):=of_decide_eq_true (by assumption);have q190 : a1 < (l0_0.length : Int):=of_decide_eq_true (by assumption);obtain ⟨ad190,A190_0,c190_0,e190,hx190_0,hl190_0,hi190_0⟩:=at_L1 HR0_0.out a1 p190 q190;obtain rfl : ad188 = ad190:=(by injection e190);(try replace hx190_0:=(HB.out.cell (World.block_lt_of_cell? w _ hx190_0)).trans hx190_0);have HR190_0:=Aside0.mk hi190_0;have HC190_0:=Aside0.mk hl190_0;clear hi190_0 hl190_0;replace p190:=eq_true p190;replace q190:=eq_true q190;have ea_:=Option.some.inj (hx188_0.symm.trans hx190_0);injection ea_ with ea_ en_ ec_;subst ea_;subst ec_;clear en_;have p191 : 0 ≤ (1 : Int):=(by omega);have q191 : 1 < ((rd_L1 l0_0 a1).length : Int):=of_decide_eq_true (by assumption);obtain ⟨ad191,e191,hx191_0⟩:=Kd.at_int HR190_0.out 1 p191 q191;obtain rfl : ad189 = ad191:=(by injection e191);(try simp only [show (1 : Int).toNat = 1 from rfl,Nat.reduceMul,Nat.reduceEqDiff,Go.Addr.add,↓reduceIte] at hx191_0);have qi191 : (1 < (rd_L1 l0_0 a1).length) = True:=eq_true (by omega);(try rw [show ((1 : Int)).toNat = 1 from rfl] at hx191_0);(try replace hx191_0:=(HB.out.cell (World.block_lt_of_cell? w _ hx191_0)).trans hx191_0);replace p191:=eq_true p191;replace q191:=eq_true q191));try go_wp2_with (first|(go_at_call 55;(with_reducible refine (spec_l5Live.calls k _ _ l0_0 _ _ l0_1 _ _ l0_2 _ _ l0_3 a1 true _ ?side1 ?side2 ?side3 ?side4 ?side5 ?side6 ?side7 ?side8 A5.out).mono ?_);(case side1=>repeat (first|exact (Kd.C_below HR0_0.out HB.out)|(with_reducible first|apply Kd.C_alloc|apply Kd.C_drewN|apply Kd.C_drew)));(case side2=>exact HC0_0.out);(case side3=>repeat (first|exact (Kd.C_below HR0_1.out HB.out)|(with_reducible first|apply Kd.C_alloc|apply Kd.C_drewN|apply Kd.C_drew)));(case side4=>exact HC0_1.out);(case side5=>repeat (first|exact (Kd.C_below HR0_2.out HB.out)|(with_reducible first|apply Kd.C_alloc|apply Kd.C_drewN|apply Kd.C_drew)));(case side6=>exact HC0_2.out);(case side7=>repeat (first|exact (Kd.C_below HR0_3.out HB.out)|(with_reducible first|apply Kd.C_alloc|apply Kd.C_drewN|apply Kd.C_drew)));(case side8=>exact HC0_3.out);rintro e w13 ⟨rfl,hb⟩;have n0_:=Aside0.mk (blk_below (g:=gb186) (o:=.cells #[.slice A0_0 l0_0.length c0_0,.slice A0_1 l0_1.length c0_1,.slice A0_2 l0_2.length c0_2,.slice A0_3 l0_3.length c0_3] 28 (0,0)) (by (with_reducible repeat first|apply blk_drewN|apply blk_drew|apply blk_alloc);exact BK186.out) hb);have n1_:=Aside0.mk (below_step (by repeat (first|(with_reducible first|exact HB.out|apply below_alloc|apply pw_below_drewN|apply below_drew1|refine below_set ?_ GE186.out)|exact HB.out)) hb);clear BK186;clear HB;have BK186:=n0_;have HB:=n1_;clear n0_ n1_;(try clear hb);(try clear hb2);(try clear hk);(try clear hi);have hcz14_0 : w13.cell? ⟨gb186,0,none⟩ = some (.slice A0_0 l0_0.length c0_0):=(blk_cell BK186.out 0).trans rfl;have hcz14_1 : w13.cell? ⟨gb186,1,none⟩ = some (.slice A0_1 l0_1.length c0_1):=(blk_cell BK186.out 1).trans rfl;have hcz14_2 : w13.cell? ⟨gb186,2,none⟩ = some (.slice A0_2 l0_2.length c0_2):=(blk_cell BK186.out 2).trans rfl;have hcz14_3 : w13.cell? ⟨gb186,3,none⟩ = some (.slice A0_3 l0_3.length c0_3):=(blk_cell BK186.out 3).trans rfl;have hfz14_0:=blk_frozen BK186.out 0;have hfz14_1:=blk_frozen BK186.out 1;have hfz14_2:=blk_frozen BK186.out 2;have hfz14_3:=blk_frozen BK186.out 3;have p188 : 0 ≤ (a1 : Int):=of_decide_eq_true (by assumption);have q188 : a1 < (l0_0.length : Int):=of_decide_eq_true (by assumption);obtain ⟨ad188,A188_0,c188_0,e188,hx188_0,hl188_0,hi188_0⟩:=at_L1 HR0_0.out a1 p188 q188;cases e188;(try replace hx188_0:=(HB.out.cell (World.block_lt_of_cell? w _ hx188_0)).trans hx188_0);have HR188_0:=Aside0.mk hi188_0;have HC188_0:=Aside0.mk hl188_0;clear hi188_0 hl188_0;replace p188:=eq_true p188;replace q188:=eq_true q188;have p189 : 0 ≤ (0 : Int):=(by omega);have q189 : 0 < ((rd_L1 l0_0 a1).length : Int):=of_decide_eq_true (by assumption);obtain ⟨ad189,e189,hx189_0⟩:=Kd.at_int HR188_0.out 0 p189 q189;cases e189;have qi189 : (0 < (rd_L1 l0_0 a1).length) = True:=eq_true (by omega);(try rw [show ((0 : Int)).toNat = 0 from rfl] at hx189_0);(try rw [Addr.add_zero'] at hx189_0);(try replace hx189_0:=(HB.out.cell (World.block_lt_of_cell? w _ hx189_0)).trans hx189_0);replace p189:=eq_true p189;replace q189:=eq_true q189;have p190 : 0 ≤ (a1 : Int):=of_decide_eq_true (by assumption);have q190 : a1 < (l0_0.length : Int):=of_decide_eq_true (by assumption);obtain ⟨ad190,A190_0,c190_0,e190,hx190_0,hl190_0,hi190_0⟩:=at_L1 HR0_0.out a1 p190 q190;obtain rfl : ad188 = ad190:=(by injection e190);(try replace hx190_0:=(HB.out.cell (World.block_lt_of_cell? w _ hx190_0)).trans hx190_0);have HR190_0:=Aside0.mk hi190_0;have HC190_0:=Aside0.mk hl190_0;clear hi190_0 hl190_0;replace p190:=eq_true p190;replace q190:=eq_true q190;have ea_:=Option.some.inj (hx188_0.symm.trans hx190_0);injection ea_ with ea_ en_ ec_;subst ea_;subst ec_;clear en_;have p191 : 0 ≤ (1 : Int):=(by omega);have q191 : 1 < ((rd_L1 l0_0 a1).length : Int):=of_decide_eq_true (by assumption);obtain ⟨ad191,e191,hx191_0⟩:=Kd.at_int HR190_0.out 1 p191 q191;obtain rfl : ad189 = ad191:=(by injection e191);(try simp only [show (1 : Int).toNat = 1 from rfl,Nat.reduceMul,Nat.reduceEqDiff,Go.Addr.add,↓reduceIte] at hx191_0);have qi191 : (1 < (rd_L1 l0_0 a1).length) = True:=eq_true (by omega);(try rw [show ((1 : Int)).toNat = 1 from rfl] at hx191_0);(try replace hx191_0:=(HB.out.cell (World.block_lt_of_cell? w _ hx191_0)).trans hx191_0);replace p191:=eq_true p191;replace q191:=eq_true q191)))
        go_meet
        case rel=>exact ⟨_,(decide ((rd (rd_L1 l0_0 a1) 1) > 3)),(by first|rfl|(simp;done)|(simp [*];done)),H',⟨by first|omega|exact Nat.le_refl _⟩,⟨by (with_reducible repeat first|apply blk_drewN|apply blk_drew|apply blk_alloc);exact BK186.out⟩,⟨by repeat (first|(with_reducible first|exact HB.out|apply below_alloc|apply pw_below_drewN|apply below_drew1|refine below_set ?_ GE186.out)|exact HB.out)⟩⟩
       ·rw [if_neg c11] at H
        exact absurd H (by simp)
      ·rw [if_neg c10] at H
       have c10b0 : ((rd (rd_L1 l0_0 a1) 0) == 84) = false:=beq_eq_false_iff_ne.mpr c10
       have c10b1 : ((rd (rd_L1 l0_0 a1) 0) != 84) = true:=bne_iff_ne.mpr c10
       have H':=Aside0.mk H
       clear H
       have hcz15_0 : w4.cell? ⟨gb186,0,none⟩ = some (.slice A0_0 l0_0.length c0_0):=(blk_cell BK186.out 0).trans rfl
       have hcz15_1 : w4.cell? ⟨gb186,1,none⟩ = some (.slice A0_1 l0_1.length c0_1):=(blk_cell BK186.out 1).trans rfl
       have hcz15_2 : w4.cell? ⟨gb186,2,none⟩ = some (.slice A0_2 l0_2.length c0_2):=(blk_cell BK186.out 2).trans rfl
       have hcz15_3 : w4.cell? ⟨gb186,3,none⟩ = some (.slice A0_3 l0_3.length c0_3):=(blk_cell BK186.out 3).trans rfl
       have hfz15_0:=blk_frozen BK186.out 0
       have hfz15_1:=blk_frozen BK186.out 1
       have hfz15_2:=blk_frozen BK186.out 2
       have hfz15_3:=blk_frozen BK186.out 3
       go_wp2_with (first|(go_at_call 55;(with_reducible refine (spec_l5Live.calls k _ _ l0_0 _ _ l0_1 _ _ l0_2 _ _ l0_3 a1 true _ ?side1 ?side2 ?side3 ?side4 ?side5 ?side6 ?side7 ?side8 A5.out).mono ?_);(case side1=>repeat (first|exact (Kd.C_below HR0_0.out HB.out)|(with_reducible first|apply Kd.C_alloc|apply Kd.C_drewN|apply Kd.C_drew)));(case side2=>exact HC0_0.out);(case side3=>repeat (first|exact (Kd.C_below HR0_1.out HB.out)|(with_reducible first|apply Kd.C_alloc|apply Kd.C_drewN|apply Kd.C_drew)));(case side4=>exact HC0_1.out);(case side5=>repeat (first|exact (Kd.C_below HR0_2.out HB.out)|(with_reducible first|apply Kd.C_alloc|apply Kd.C_drewN|apply Kd.C_drew)));(case side6=>exact HC0_2.out);(case side7=>repeat (first|exact (Kd.C_below HR0_3.out HB.out)|(with_reducible first|apply Kd.C_alloc|apply Kd.C_drewN|apply Kd.C_drew)));(case side8=>exact HC0_3.out);rintro e w16 ⟨rfl,hb⟩;have n0_:=Aside0.mk (blk_below (g:=gb186) (o:=.cells #[.slice A0_0 l0_0.length c0_0,.slice A0_1 l0_1.length c0_1,.slice A0_2 l0_2.length c0_2,.slice A0_3 l0_3.length c0_3] 28 (0,0)) (by (with_reducible repeat first|apply blk_drewN|apply blk_drew|apply blk_alloc);exact BK186.out) hb);have n1_:=Aside0.mk (below_step (by repeat (first|(with_reducible first|exact HB.out|apply below_alloc|apply pw_below_drewN|apply below_drew1|refine below_set ?_ GE186.out)|exact HB.out)) hb);clear BK186;clear HB;have BK186:=n0_;have HB:=n1_;clear n0_ n1_;(try clear hb);(try clear hb2);(try clear hk);(try clear hi);have hcz17_0 : w16.cell? ⟨gb186,0,none⟩ = some (.slice A0_0 l0_0.length c0_0):=(blk_cell BK186.out 0).trans rfl;have hcz17_1 : w16.cell? ⟨gb186,1,none⟩ = some (.slice A0_1 l0_1.length c0_1):=(blk_cell BK186.out 1).trans rfl;have hcz17_2 : w16.cell? ⟨gb186,2,none⟩ = some (.slice A0_2 l0_2.length c0_2):=(blk_cell BK186.out 2).trans rfl;have hcz17_3 : w16.cell? ⟨gb186,3,none⟩ = some (.slice A0_3 l0_3.length c0_3):=(blk_cell BK186.out 3).trans rfl;have hfz17_0:=blk_frozen BK186.out 0;have hfz17_1:=blk_frozen BK186.out 1;have hfz17_2:=blk_frozen BK186.out 2;have hfz17_3:=blk_frozen BK186.out 3;have p188 : 0 ≤ (a1 : Int):=of_decide_eq_true (by assumption);have q188 : a1 < (l0_0.length : Int):=of_decide_eq_true (by assumption);obtain ⟨ad188,A188_0,c188_0,e188,hx188_0,hl188_0,hi188_0⟩:=at_L1 HR0_0.out a1 p188 q188;cases e188;(try replace hx188_0:=(HB.out.cell (World.block_lt_of_cell? w _ hx188_0)).trans hx188_0);have HR188_0:=Aside0.mk hi188_0;have HC188_0:=Aside0.mk hl188_0;clear hi188_0 hl188_0;replace p188:=eq_true p188;replace q188:=eq_true q188;have p189 : 0 ≤ (0 : Int):=(by omega);have q189 : 0 < ((rd_L1 l0_0 a1).length : Int):=of_decide_eq_true (by assumption);obtain ⟨ad189,e189,hx189_0⟩:=Kd.at_int HR188_0.out 0 p189 q189;cases e189;have qi189 : (0 < (rd_L1 l0_0 a1).length) = True:=eq_true (by omega);(try rw [show ((0 : Int)).toNat = 0 from rfl] at hx189_0);(try rw [Addr.add_zero'] at hx189_0);(try replace hx189_0:=(HB.out.cell (World.block_lt_of_cell? w _ hx189_0)).trans hx189_0);replace p189:=eq_true p189;replace q189:=eq_true q189))
       repeat (go_quiet (first|(go_at_call 55;(with_reducible refine (spec_l5Live.calls k _ _ l0_0 _ _ l0_1 _ _ l0_2 _ _ l0_3 a1 true _ ?side1 ?side2 ?side3 ?side4 ?side5 ?side6 ?side7 ?side8 A5.out).mono ?_);(case side1=>repeat (first|exact (Kd.C_below HR0_0.out HB.out)|(with_reducible first|apply Kd.C_alloc|apply Kd.C_drewN|apply Kd.C_drew)));(case side2=>exact HC0_0.out);(case side3=>repeat (first|exact (Kd.C_below HR0_1.out HB.out)|(with_reducible first|apply Kd.C_alloc|apply Kd.C_drewN|apply Kd.C_drew)));(case side4=>exact HC0_1.out);(case side5=>repeat (first|exact (Kd.C_below HR0_2.out HB.out)|(with_reducible first|apply Kd.C_alloc|apply Kd.C_drewN|apply Kd.C_drew)));(case side6=>exact HC0_2.out);(case side7=>repeat (first|exact (Kd.C_below HR0_3.out HB.out)|(with_reducible first|apply Kd.C_alloc|apply Kd.C_drewN|apply Kd.C_drew)));(case side8=>exact HC0_3.out);rintro e w16 ⟨rfl,hb⟩;have n0_:=Aside0.mk (blk_below (g:=gb186) (o:=.cells #[.slice A0_0 l0_0.length c0_0,.slice A0_1 l0_1.length c0_1,.slice A0_2 l0_2.length c0_2,.slice A0_3 l0_3.length c0_3] 28 (0,0)) (by (with_reducible repeat first|apply blk_drewN|apply blk_drew|apply blk_alloc);exact BK186.out) hb);have n1_:=Aside0.mk (below_step (by repeat (first|(with_reducible first|exact HB.out|apply below_alloc|apply pw_below_drewN|apply below_drew1|refine below_set ?_ GE186.out)|exact HB.out)) hb);clear BK186;clear HB;have BK186:=n0_;have HB:=n1_;clear n0_ n1_;(try clear hb);(try clear hb2);(try clear hk);(try clear hi);have hcz17_0 : w16.cell? ⟨gb186,0,none⟩ = some (.slice A0_0 l0_0.length c0_0):=(blk_cell BK186.out 0).trans rfl;have hcz17_1 : w16.cell? ⟨gb186,1,none⟩ = some (.slice A0_1 l0_1.length c0_1):=(blk_cell BK186.out 1).trans rfl;have hcz17_2 : w16.cell? ⟨gb186,2,none⟩ = some (.slice A0_2 l0_2.length c0_2):=(blk_cell BK186.out 2).trans rfl;have hcz17_3 : w16.cell? ⟨gb186,3,none⟩ = some (.slice A0_3 l0_3.length c0_3):=(blk_cell BK186.out 3).trans rfl;have hfz17_0:=blk_frozen BK186.out 0;have hfz17_1:=blk_frozen BK186.out 1;have hfz17_2:=blk_frozen BK186.out 2;have hfz17_3:=blk_frozen BK186.out 3;have p188 : 0 ≤ (a1 : Int):=of_decide_eq_true (by assumption);have q188 : a1 < (l0_0.length : Int):=of_decide_eq_true (by assumption);obtain ⟨ad188,A188_0,c188_0,e188,hx188_0,hl188_0,hi188_0⟩:=at_L1 HR0_0.out a1 p188 q188;cases e188;(try replace hx188_0:=(HB.out.cell (World.block_lt_of_cell? w _ hx188_0)).trans hx188_0);have HR188_0:=Aside0.mk hi188_0;have HC188_0:=Aside0.mk hl188_0;clear hi188_0 hl188_0;replace p188:=eq_true p188;replace q188:=eq_true q188;have p189 : 0 ≤ (0 : Int):=(by omega);have q189 : 0 < ((rd_L1 l0_0 a1).length : Int):=of_decide_eq_true (by assumption);obtain ⟨ad189,e189,hx189_0⟩:=Kd.at_int HR188_0.out 0 p189 q189;cases e189;have qi189 : (0 < (rd_L1 l0_0 a1).length) = True:=eq_true (by omega);(try rw [show ((0 : Int)).toNat = 0 from rfl] at hx189_0);(try rw [Addr.add_zero'] at hx189_0);(try replace hx189_0:=(HB.out.cell (World.block_lt_of_cell? w _ hx189_0)).trans hx189_0);replace p189:=eq_true p189;replace q189:=eq_true q189));try go_wp2_with (first|(go_at_call 55;(with_reducible refine (spec_l5Live.calls k _ _ l0_0 _ _ l0_1 _ _ l0_2 _ _ l0_3 a1 true _ ?side1 ?side2 ?side3 ?side4 ?side5 ?side6 ?side7 ?side8 A5.out).mono ?_);(case side1=>repeat (first|exact (Kd.C_below HR0_0.out HB.out)|(with_reducible first|apply Kd.C_alloc|apply Kd.C_drewN|apply Kd.C_drew)));(case side2=>exact HC0_0.out);(case side3=>repeat (first|exact (Kd.C_below HR0_1.out HB.out)|(with_reducible first|apply Kd.C_alloc|apply Kd.C_drewN|apply Kd.C_drew)));(case side4=>exact HC0_1.out);(case side5=>repeat (first|exact (Kd.C_below HR0_2.out HB.out)|(with_reducible first|apply Kd.C_alloc|apply Kd.C_drewN|apply Kd.C_drew)));(case side6=>exact HC0_2.out);(case side7=>repeat (first|exact (Kd.C_below HR0_3.out HB.out)|(with_reducible first|apply Kd.C_alloc|apply Kd.C_drewN|apply Kd.C_drew)));(case side8=>exact HC0_3.out);rintro e w16 ⟨rfl,hb⟩;have n0_:=Aside0.mk (blk_below (g:=gb186) (o:=.cells #[.slice A0_0 l0_0.length c0_0,.slice A0_1 l0_1.length c0_1,.slice A0_2 l0_2.length c0_2,.slice A0_3 l0_3.length c0_3] 28 (0,0)) (by (with_reducible repeat first|apply blk_drewN|apply blk_drew|apply blk_alloc);exact BK186.out) hb);have n1_:=Aside0.mk (below_step (by repeat (first|(with_reducible first|exact HB.out|apply below_alloc|apply pw_below_drewN|apply below_drew1|refine below_set ?_ GE186.out)|exact HB.out)) hb);clear BK186;clear HB;have BK186:=n0_;have HB:=n1_;clear n0_ n1_;(try clear hb);(try clear hb2);(try clear hk);(try clear hi);have hcz17_0 : w16.cell? ⟨gb186,0,none⟩ = some (.slice A0_0 l0_0.length c0_0):=(blk_cell BK186.out 0).trans rfl;have hcz17_1 : w16.cell? ⟨gb186,1,none⟩ = some (.slice A0_1 l0_1.length c0_1):=(blk_cell BK186.out 1).trans rfl;have hcz17_2 : w16.cell? ⟨gb186,2,none⟩ = some (.slice A0_2 l0_2.length c0_2):=(blk_cell BK186.out 2).trans rfl;have hcz17_3 : w16.cell? ⟨gb186,3,none⟩ = some (.slice A0_3 l0_3.length c0_3):=(blk_cell BK186.out 3).trans rfl;have hfz17_0:=blk_frozen BK186.out 0;have hfz17_1:=blk_frozen BK186.out 1;have hfz17_2:=blk_frozen BK186.out 2;have hfz17_3:=blk_frozen BK186.out 3;have p188 : 0 ≤ (a1 : Int):=of_decide_eq_true (by assumption);have q188 : a1 < (l0_0.length : Int):=of_decide_eq_true (by assumption);obtain ⟨ad188,A188_0,c188_0,e188,hx188_0,hl188_0,hi188_0⟩:=at_L1 HR0_0.out a1 p188 q188;cases e188;(try replace hx188_0:=(HB.out.cell (World.block_lt_of_cell? w _ hx188_0)).trans hx188_0);have HR188_0:=Aside0.mk hi188_0;have HC188_0:=Aside0.mk hl188_0;clear hi188_0 hl188_0;replace p188:=eq_true p188;replace q188:=eq_true q188;have p189 : 0 ≤ (0 : Int):=(by omega);have q189 : 0 < ((rd_L1 l0_0 a1).length : Int):=of_decide_eq_true (by assumption);obtain ⟨ad189,e189,hx189_0⟩:=Kd.at_int HR188_0.out 0 p189 q189;cases e189;have qi189 : (0 < (rd_L1 l0_0 a1).length) = True:=eq_true (by omega);(try rw [show ((0 : Int)).toNat = 0 from rfl] at hx189_0);(try rw [Addr.add_zero'] at hx189_0);(try replace hx189_0:=(HB.out.cell (World.block_lt_of_cell? w _ hx189_0)).trans hx189_0);replace p189:=eq_true p189;replace q189:=eq_true q189)))
       go_meet
       case rel=>exact ⟨_,(true),(by first|rfl|(simp;done)|(simp [*];done)),H',⟨by first|omega|exact Nat.le_refl _⟩,⟨by (with_reducible repeat first|apply blk_drewN|apply blk_drew|apply blk_alloc);exact BK186.out⟩,⟨by repeat (first|(with_reducible first|exact HB.out|apply below_alloc|apply pw_below_drewN|apply below_drew1|refine below_set ?_ GE186.out)|exact HB.out)⟩⟩
     ·rw [if_neg c9] at H
      exact absurd H (by simp)
    ·rw [if_neg c8] at H
     exact absurd H (by simp)
   ·rw [if_neg c7] at H
    exact absurd H (by simp)
  ·replace c6:=Bool.eq_false_iff.mpr c6
   subst c6
   have H1 : (spec_l7Pieces.j0 k a1 true l0_0 l0_1 l0_2 l0_3) = some (r1,r2):=by rw [if_neg (show ¬ (false = true) by decide)] at H;exact H
   clear H
   have H:=H1
   clear H1
   have H':=Aside0.mk H
   clear H
   have hcz18_0 : w4.cell? ⟨gb186,0,none⟩ = some (.slice A0_0 l0_0.length c0_0):=(blk_cell BK186.out 0).trans rfl
   have hcz18_1 : w4.cell? ⟨gb186,1,none⟩ = some (.slice A0_1 l0_1.length c0_1):=(blk_cell BK186.out 1).trans rfl
   have hcz18_2 : w4.cell? ⟨gb186,2,none⟩ = some (.slice A0_2 l0_2.length c0_2):=(blk_cell BK186.out 2).trans rfl
   have hcz18_3 : w4.cell? ⟨gb186,3,none⟩ = some (.slice A0_3 l0_3.length c0_3):=(blk_cell BK186.out 3).trans rfl
   have hfz18_0:=blk_frozen BK186.out 0
   have hfz18_1:=blk_frozen BK186.out 1
   have hfz18_2:=blk_frozen BK186.out 2
   have hfz18_3:=blk_frozen BK186.out 3
   go_wp2_with (first|(go_at_call 55;(with_reducible refine (spec_l5Live.calls k _ _ l0_0 _ _ l0_1 _ _ l0_2 _ _ l0_3 a1 false _ ?side1 ?side2 ?side3 ?side4 ?side5 ?side6 ?side7 ?side8 A5.out).mono ?_);(case side1=>repeat (first|exact (Kd.C_below HR0_0.out HB.out)|(with_reducible first|apply Kd.C_alloc|apply Kd.C_drewN|apply Kd.C_drew)));(case side2=>exact HC0_0.out);(case side3=>repeat (first|exact (Kd.C_below HR0_1.out HB.out)|(with_reducible first|apply Kd.C_alloc|apply Kd.C_drewN|apply Kd.C_drew)));(case side4=>exact HC0_1.out);(case side5=>repeat (first|exact (Kd.C_below HR0_2.out HB.out)|(with_reducible first|apply Kd.C_alloc|apply Kd.C_drewN|apply Kd.C_drew)));(case side6=>exact HC0_2.out);(case side7=>repeat (first|exact (Kd.C_below HR0_3.out HB.out)|(with_reducible first|apply Kd.C_alloc|apply Kd.C_drewN|apply Kd.C_drew)));(case side8=>exact HC0_3.out);rintro e w19 ⟨rfl,hb⟩;have n0_:=Aside0.mk (blk_below (g:=gb186) (o:=.cells #[.slice A0_0 l0_0.length c0_0,.slice A0_1 l0_1.length c0_1,.slice A0_2 l0_2.length c0_2,.slice A0_3 l0_3.length c0_3] 28 (0,0)) (by (with_reducible repeat first|apply blk_drewN|apply blk_drew|apply blk_alloc);exact BK186.out) hb);have n1_:=Aside0.mk (below_step (by repeat (first|(with_reducible first|exact HB.out|apply below_alloc|apply pw_below_drewN|apply below_drew1|refine below_set ?_ GE186.out)|exact HB.out)) hb);clear BK186;clear HB;have BK186:=n0_;have HB:=n1_;clear n0_ n1_;(try clear hb);(try clear hb2);(try clear hk);(try clear hi)))
   repeat (go_quiet (first|(go_at_call 55;(with_reducible refine (spec_l5Live.calls k _ _ l0_0 _ _ l0_1 _ _ l0_2 _ _ l0_3 a1 false _ ?side1 ?side2 ?side3 ?side4 ?side5 ?side6 ?side7 ?side8 A5.out).mono ?_);(case side1=>repeat (first|exact (Kd.C_below HR0_0.out HB.out)|(with_reducible first|apply Kd.C_alloc|apply Kd.C_drewN|apply Kd.C_drew)));(case side2=>exact HC0_0.out);(case side3=>repeat (first|exact (Kd.C_below HR0_1.out HB.out)|(with_reducible first|apply Kd.C_alloc|apply Kd.C_drewN|apply Kd.C_drew)));(case side4=>exact HC0_1.out);(case side5=>repeat (first|exact (Kd.C_below HR0_2.out HB.out)|(with_reducible first|apply Kd.C_alloc|apply Kd.C_drewN|apply Kd.C_drew)));(case side6=>exact HC0_2.out);(case side7=>repeat (first|exact (Kd.C_below HR0_3.out HB.out)|(with_reducible first|apply Kd.C_alloc|apply Kd.C_drewN|apply Kd.C_drew)));(case side8=>exact HC0_3.out);rintro e w19 ⟨rfl,hb⟩;have n0_:=Aside0.mk (blk_below (g:=gb186) (o:=.cells #[.slice A0_0 l0_0.length c0_0,.slice A0_1 l0_1.length c0_1,.slice A0_2 l0_2.length c0_2,.slice A0_3 l0_3.length c0_3] 28 (0,0)) (by (with_reducible repeat first|apply blk_drewN|apply blk_drew|apply blk_alloc);exact BK186.out) hb);have n1_:=Aside0.mk (below_step (by repeat (first|(with_reducible first|exact HB.out|apply below_alloc|apply pw_below_drewN|apply below_drew1|refine below_set ?_ GE186.out)|exact HB.out)) hb);clear BK186;clear HB;have BK186:=n0_;have HB:=n1_;clear n0_ n1_;(try clear hb);(try clear hb2);(try clear hk);(try clear hi)));try go_wp2_with (first|(go_at_call 55;(with_reducible refine (spec_l5Live.calls k _ _ l0_0 _ _ l0_1 _ _ l0_2 _ _ l0_3 a1 false _ ?side1 ?side2 ?side3 ?side4 ?side5 ?side6 ?side7 ?side8 A5.out).mono ?_);(case side1=>repeat (first|exact (Kd.C_below HR0_0.out HB.out)|(with_reducible first|apply Kd.C_alloc|apply Kd.C_drewN|apply Kd.C_drew)));(case side2=>exact HC0_0.out);(case side3=>repeat (first|exact (Kd.C_below HR0_1.out HB.out)|(with_reducible first|apply Kd.C_alloc|apply Kd.C_drewN|apply Kd.C_drew)));(case side4=>exact HC0_1.out);(case side5=>repeat (first|exact (Kd.C_below HR0_2.out HB.out)|(with_reducible first|apply Kd.C_alloc|apply Kd.C_drewN|apply Kd.C_drew)));(case side6=>exact HC0_2.out);(case side7=>repeat (first|exact (Kd.C_below HR0_3.out HB.out)|(with_reducible first|apply Kd.C_alloc|apply Kd.C_drewN|apply Kd.C_drew)));(case side8=>exact HC0_3.out);rintro e w19 ⟨rfl,hb⟩;have n0_:=Aside0.mk (blk_below (g:=gb186) (o:=.cells #[.slice A0_0 l0_0.length c0_0,.slice A0_1 l0_1.length c0_1,.slice A0_2 l0_2.length c0_2,.slice A0_3 l0_3.length c0_3] 28 (0,0)) (by (with_reducible repeat first|apply blk_drewN|apply blk_drew|apply blk_alloc);exact BK186.out) hb);have n1_:=Aside0.mk (below_step (by repeat (first|(with_reducible first|exact HB.out|apply below_alloc|apply pw_below_drewN|apply below_drew1|refine below_set ?_ GE186.out)|exact HB.out)) hb);clear BK186;clear HB;have BK186:=n0_;have HB:=n1_;clear n0_ n1_;(try clear hb);(try clear hb2);(try clear hk);(try clear hi))))
   go_meet
   case rel=>exact ⟨_,(true),(by first|rfl|(simp;done)|(simp [*];done)),H',⟨by first|omega|exact Nat.le_refl _⟩,⟨by (with_reducible repeat first|apply blk_drewN|apply blk_drew|apply blk_alloc);exact BK186.out⟩,⟨by repeat (first|(with_reducible first|exact HB.out|apply below_alloc|apply pw_below_drewN|apply below_drew1|refine below_set ?_ GE186.out)|exact HB.out)⟩⟩
 case rest =>
  clear HC3
  try clear c1;try clear p1;try clear q1;try clear hx1;try clear qi1;try clear p2;try clear c6;try clear c7;try clear c7b0;try clear c8;try clear c8b0;try clear c9;try clear c9b0;try clear c9b1;try clear c10;try clear c10b0;try clear c10b1;try clear c11;try clear c11b0;try clear c11b1;try clear c18;try clear p18;try clear q18;try clear hx18;try clear qi18;try clear c19;try clear p19;try clear q19;try clear hx19;try clear qi19;try clear hcz12_0;try clear hcz12_1;try clear hcz12_2;try clear hcz12_3;try clear hcz14_0;try clear hcz14_1;try clear hcz14_2;try clear hcz14_3;try clear hcz15_0;try clear hcz15_1;try clear hcz15_2;try clear hcz15_3;try clear hcz17_0;try clear hcz17_1;try clear hcz17_2;try clear hcz17_3;try clear hcz18_0;try clear hcz18_1;try clear hcz18_2;try clear hcz18_3;try clear hfz12_0;try clear hfz12_1;try clear hfz12_2;try clear hfz12_3;try clear hfz14_0;try clear hfz14_1;try clear hfz14_2;try clear hfz14_3;try clear hfz15_0;try clear hfz15_1;try clear hfz15_2;try clear hfz15_3;try clear hfz17_0;try clear hfz17_1;try clear hfz17_2;try clear hfz17_3;try clear hfz18_0;try clear hfz18_1;try clear hfz18_2;try clear hfz18_3;try clear hx188_0;try clear hx189_0;try clear hx190_0;try clear hx191_0;try clear p188;try clear p189;try clear p190;try clear p191;try clear q188;try clear q189;try clear q190;try clear q191
  obtain ⟨kq,x36_2,rfl,HA,HJ2,BK186,HB⟩:=hcut
  cases kq with
  | zero=>exact absurd HA.out (by simp [spec_l7Pieces.j0])
  | succ kj2 =>
   have H:=HA.out
   clear HA
   simp only [spec_l7Pieces.j0] at H
   by_cases c20 : x36_2 = true
   ·subst c20
    have H1 : (some (([] : List Int),false)) = some (r1,r2):=by rw [if_pos rfl] at H;exact H
    clear H
    have H:=H1
    clear H1
    simp only [Option.some.injEq,Prod.mk.injEq] at H
    obtain ⟨rfl,rfl⟩:=H
    go_wp2
    repeat (go_quiet (fail);try go_wp2)
    go_ret2
    exact ⟨_,by first|rfl|(simp [*,errW_none,errW_some] <;> rfl),by first|exact Kd.R_nil _ _ _ _ _|exact Kd.N_nil _ _ _ _ _|exact Kd.V_nil _ _ _ _ _|exact Kd.Q_nil _ _ _ _ _|exact Kd.S_nil _ _ _ _ _,by repeat (first|(with_reducible first|exact HB.out|apply below_alloc|apply pw_below_drewN|apply below_drew1|refine below_set ?_ GE186.out)|exact HB.out)⟩
   ·replace c20:=Bool.eq_false_iff.mpr c20
    subst c20
    have H1 : (if 0 ≤ a1 then (if a1 < (l0_0.length : Int) then (if 1 < ((rd_L1 l0_0 a1).length : Int) then (spec_l7Pieces.l0 kj2 (rd_L1 l0_0 a1) (wrap64 (rd (rd_L1 l0_0 a1) 1)) ([] : List Int) 0 l0_0 l0_1 l0_2 l0_3) else (none)) else (none)) else (none)) = some (r1,r2):=by rw [if_neg (show ¬ (false = true) by decide)] at H;exact H
    clear H
    have H:=H1
    clear H1
    by_cases c21 : 0 ≤ a1
    ·rw [if_pos c21] at H
     have c21b0 : decide (0 ≤ a1) = true:=decide_eq_true c21
     clear c21
     by_cases c22 : a1 < (l0_0.length : Int)
     ·rw [if_pos c22] at H
      have c22b0 : decide (a1 < (l0_0.length : Int)) = true:=decide_eq_true c22
      clear c22
      by_cases c23 : 1 < ((rd_L1 l0_0 a1).length : Int)
      ·rw [if_pos c23] at H
       have c23b0 : decide (1 < ((rd_L1 l0_0 a1).length : Int)) = true:=decide_eq_true c23
       have c23b1 : decide (1 < (rd_L1 l0_0 a1).length) = true:=decide_eq_true (by omega)
       clear c23
       have H':=Aside0.mk H
       clear H
       have hcz24_0 : wc.cell? ⟨gb186,0,none⟩ = some (.slice A0_0 l0_0.length c0_0):=(blk_cell BK186.out 0).trans rfl
       have hcz24_1 : wc.cell? ⟨gb186,1,none⟩ = some (.slice A0_1 l0_1.length c0_1):=(blk_cell BK186.out 1).trans rfl
       have hcz24_2 : wc.cell? ⟨gb186,2,none⟩ = some (.slice A0_2 l0_2.length c0_2):=(blk_cell BK186.out 2).trans rfl
       have hcz24_3 : wc.cell? ⟨gb186,3,none⟩ = some (.slice A0_3 l0_3.length c0_3):=(blk_cell BK186.out 3).trans rfl
       have hfz24_0:=blk_frozen BK186.out 0
       have hfz24_1:=blk_frozen BK186.out 1
       have hfz24_2:=blk_frozen BK186.out 2
       have hfz24_3:=blk_frozen BK186.out 3
       have p192 : 0 ≤ (a1 : Int):=of_decide_eq_true (by assumption)
       have q192 : a1 < (l0_0.length : Int):=of_decide_eq_true (by assumption)
       obtain ⟨ad192,A192_0,c192_0,e192,hx192_0,hl192_0,hi192_0⟩:=at_L1 HR0_0.out a1 p192 q192
       cases e192
       (try replace hx192_0:=(HB.out.cell (World.block_lt_of_cell? w _ hx192_0)).trans hx192_0)
       have HR192_0:=Aside0.mk hi192_0
       have HC192_0:=Aside0.mk hl192_0
       clear hi192_0 hl192_0
       replace p192:=eq_true p192
       replace q192:=eq_true q192
       have p193 : 0 ≤ (1 : Int):=(by omega)
       have q193 : 1 < ((rd_L1 l0_0 a1).length : Int):=of_decide_eq_true (by assumption)
       obtain ⟨ad193,e193,hx193_0⟩:=Kd.at_int HR192_0.out 1 p193 q193
       cases e193
       (try simp only [show (1 : Int).toNat = 1 from rfl,Nat.reduceMul,Nat.reduceEqDiff,Go.Addr.add,↓reduceIte] at hx193_0)
       have qi193 : (1 < (rd_L1 l0_0 a1).length) = True:=eq_true (by omega)
       (try rw [show ((1 : Int)).toNat = 1 from rfl] at hx193_0)
       (try replace hx193_0:=(HB.out.cell (World.block_lt_of_cell? w _ hx193_0)).trans hx193_0)
       replace p193:=eq_true p193
       replace q193:=eq_true q193
       go_wp2
       repeat (go_quiet (fail);try go_wp2)
       go_loopg [8,9] kj2 (fun kq v8 v9 w'=>∃ (x8_2 : List Int) (x9_2 : Int),v9 = .int .i64 x9_2∧Aside0 (spec_l7Pieces.l0 kq (rd_L1 l0_0 a1) (wrap64 (rd (rd_L1 l0_0 a1) 1)) x8_2 x9_2 l0_0 l0_1 l0_2 l0_3 = some (r1,r2))∧Aside0 (kq ≤ kj2)∧Aside0 (Kd.R (Kd.int .i64) 3 w' w.heap.size (fun _=>True) v8 x8_2)∧Aside0 (w'.heap[gb186]? = some (.cells #[(.slice (some ad192) l0_0.length c0_0),(.slice A0_1 l0_1.length c0_1),(.slice A0_2 l0_2.length c0_2),(.slice A0_3 l0_3.length c0_3)] 28 (0,0)))∧Aside0 (Below w.heap.size w w'))
       case atStart=>exact ⟨(([] : List Int)),(0),(by first|rfl|(simp;done)|(simp [*];done)),H',⟨Nat.le_refl _⟩,⟨by first|exact Kd.R_nil _ _ _ _ _|exact Kd.N_nil _ _ _ _ _|exact Kd.V_nil _ _ _ _ _|exact Kd.Q_nil _ _ _ _ _|exact Kd.S_nil _ _ _ _ _⟩,⟨by (with_reducible repeat first|apply blk_drewN|apply blk_drew|apply blk_alloc);exact BK186.out⟩,⟨by repeat (first|(with_reducible first|exact HB.out|apply below_alloc|apply pw_below_drewN|apply below_drew1|refine below_set ?_ GE186.out)|exact HB.out)⟩⟩
       case round =>
        clear H'
        try clear c1;try clear p1;try clear q1;try clear hx1;try clear qi1;try clear c2;try clear p2;try clear c6;try clear p6;try clear c7;try clear c7b0;try clear c8;try clear c8b0;try clear c9;try clear c9b0;try clear c9b1;try clear c10;try clear c10b0;try clear c10b1;try clear c11;try clear c11b0;try clear c11b1;try clear c18;try clear p18;try clear q18;try clear hx18;try clear qi18;try clear c19;try clear p19;try clear q19;try clear hx19;try clear qi19;try clear c20;try clear c21;try clear c21b0;try clear c22;try clear c22b0;try clear c23;try clear c23b0;try clear c23b1;try clear hcz12_0;try clear hcz12_1;try clear hcz12_2;try clear hcz12_3;try clear hcz14_0;try clear hcz14_1;try clear hcz14_2;try clear hcz14_3;try clear hcz15_0;try clear hcz15_1;try clear hcz15_2;try clear hcz15_3;try clear hcz17_0;try clear hcz17_1;try clear hcz17_2;try clear hcz17_3;try clear hcz18_0;try clear hcz18_1;try clear hcz18_2;try clear hcz18_3;try clear hcz24_0;try clear hcz24_1;try clear hcz24_2;try clear hcz24_3;try clear hfz12_0;try clear hfz12_1;try clear hfz12_2;try clear hfz12_3;try clear hfz14_0;try clear hfz14_1;try clear hfz14_2;try clear hfz14_3;try clear hfz15_0;try clear hfz15_1;try clear hfz15_2;try clear hfz15_3;try clear hfz17_0;try clear hfz17_1;try clear hfz17_2;try clear hfz17_3;try clear hfz18_0;try clear hfz18_1;try clear hfz18_2;try clear hfz18_3;try clear hfz24_0;try clear hfz24_1;try clear hfz24_2;try clear hfz24_3;try clear hx188_0;try clear hx189_0;try clear hx190_0;try clear hx191_0;try clear hx192_0;try clear hx193_0;try clear p1;try clear p18;try clear p188;try clear p189;try clear p19;try clear p190;try clear p191;try clear p192;try clear p193;try clear p2;try clear q1;try clear q18;try clear q188;try clear q189;try clear q19;try clear q190;try clear q191;try clear q192;try clear q193
        obtain ⟨x8_2,x9_2,rfl,HA,HK2,HO_8,BK186,HB⟩:=hrel
        cases gk with
        | zero=>exact absurd HA.out (by simp [spec_l7Pieces.l0])
        | succ k2 =>
         have H:=HA.out
         clear HA
         simp only [spec_l7Pieces.l0] at H
         by_cases c25 : x9_2 < (wrap64 (rd (rd_L1 l0_0 a1) 1))
         ·rw [if_pos c25] at H
          have c25b0 : decide (x9_2 < (wrap64 (rd (rd_L1 l0_0 a1) 1))) = true:=decide_eq_true c25
          clear c25
          obtain ⟨ji26,hji26⟩ : ∃ j_ : Int,(wrap64 (2 + (wrap64 (2 * x9_2)))) = j_:=⟨_,rfl⟩
          replace H : (if 0 ≤ (ji26) then (if (ji26) < ((rd_L1 l0_0 a1).length : Int) then (if 0 ≤ (wrap64 (3 + (wrap64 (2 * x9_2)))) then (if (wrap64 (3 + (wrap64 (2 * x9_2)))) < ((rd_L1 l0_0 a1).length : Int) then ((spec_l5Live.f k2 l0_0 l0_1 l0_2 l0_3 (wrap64 ((wrap64 ((wrap64 (rd (rd_L1 l0_0 a1) (ji26))) * 256)) + (wrap64 (rd (rd_L1 l0_0 a1) (wrap64 (3 + (wrap64 (2 * x9_2))))))))).bind fun t197=>(if t197 = true then ((spec_l5Has.f k2 x8_2 (wrap64 ((wrap64 ((wrap64 (rd (rd_L1 l0_0 a1) (ji26))) * 256)) + (wrap64 (rd (rd_L1 l0_0 a1) (wrap64 (3 + (wrap64 (2 * x9_2))))))))).bind fun t198=>(spec_l7Pieces.j2 k2 (rd_L1 l0_0 a1) (wrap64 (rd (rd_L1 l0_0 a1) 1)) x8_2 x9_2 (wrap64 ((wrap64 ((wrap64 (rd (rd_L1 l0_0 a1) (ji26))) * 256)) + (wrap64 (rd (rd_L1 l0_0 a1) (wrap64 (3 + (wrap64 (2 * x9_2)))))))) t198 l0_0 l0_1 l0_2 l0_3)) else (spec_l7Pieces.j2 k2 (rd_L1 l0_0 a1) (wrap64 (rd (rd_L1 l0_0 a1) 1)) x8_2 x9_2 (wrap64 ((wrap64 ((wrap64 (rd (rd_L1 l0_0 a1) (ji26))) * 256)) + (wrap64 (rd (rd_L1 l0_0 a1) (wrap64 (3 + (wrap64 (2 * x9_2)))))))) true l0_0 l0_1 l0_2 l0_3))) else (none)) else (none)) else (none)) else (none)) = some (r1,r2):=by first|(rw [hji26] at H;exact H)|(simp only [hji26] at H ⊢;exact H)
          have hji26w : (IntKind.i64.wrap (2 + (wrap64 (2 * x9_2)))) = ji26:=(i64_w _).trans hji26
          by_cases c27 : 0 ≤ (ji26)
          ·rw [if_pos c27] at H
           have c27b0 : decide (0 ≤ (ji26)) = true:=decide_eq_true c27
           clear c27
           by_cases c28 : (ji26) < ((rd_L1 l0_0 a1).length : Int)
           ·rw [if_pos c28] at H
            have c28b0 : decide ((ji26) < ((rd_L1 l0_0 a1).length : Int)) = true:=decide_eq_true c28
            clear c28
            obtain ⟨ji29,hji29⟩ : ∃ j_ : Int,(wrap64 (3 + (wrap64 (2 * x9_2)))) = j_:=⟨_,rfl⟩
            replace H : (if 0 ≤ (ji29) then (if (ji29) < ((rd_L1 l0_0 a1).length : Int) then ((spec_l5Live.f k2 l0_0 l0_1 l0_2 l0_3 (wrap64 ((wrap64 ((wrap64 (rd (rd_L1 l0_0 a1) (ji26))) * 256)) + (wrap64 (rd (rd_L1 l0_0 a1) (ji29)))))).bind fun t197=>(if t197 = true then ((spec_l5Has.f k2 x8_2 (wrap64 ((wrap64 ((wrap64 (rd (rd_L1 l0_0 a1) (ji26))) * 256)) + (wrap64 (rd (rd_L1 l0_0 a1) (ji29)))))).bind fun t198=>(spec_l7Pieces.j2 k2 (rd_L1 l0_0 a1) (wrap64 (rd (rd_L1 l0_0 a1) 1)) x8_2 x9_2 (wrap64 ((wrap64 ((wrap64 (rd (rd_L1 l0_0 a1) (ji26))) * 256)) + (wrap64 (rd (rd_L1 l0_0 a1) (ji29))))) t198 l0_0 l0_1 l0_2 l0_3)) else (spec_l7Pieces.j2 k2 (rd_L1 l0_0 a1) (wrap64 (rd (rd_L1 l0_0 a1) 1)) x8_2 x9_2 (wrap64 ((wrap64 ((wrap64 (rd (rd_L1 l0_0 a1) (ji26))) * 256)) + (wrap64 (rd (rd_L1 l0_0 a1) (ji29))))) true l0_0 l0_1 l0_2 l0_3))) else (none)) else (none)) = some (r1,r2):=by first|(rw [hji29] at H;exact H)|(simp only [hji29] at H ⊢;exact H)
            have hji29w : (IntKind.i64.wrap (3 + (wrap64 (2 * x9_2)))) = ji29:=(i64_w _).trans hji29
            by_cases c30 : 0 ≤ (ji29)
            ·rw [if_pos c30] at H
             have c30b0 : decide (0 ≤ (ji29)) = true:=decide_eq_true c30
             clear c30
             by_cases c31 : (ji29) < ((rd_L1 l0_0 a1).length : Int)
             ·rw [if_pos c31] at H
              have c31b0 : decide ((ji29) < ((rd_L1 l0_0 a1).length : Int)) = true:=decide_eq_true c31
              clear c31
              have HC32:=Aside0.mk H
              clear H
              have p195 : 0 ≤ ((ji26) : Int):=of_decide_eq_true (by assumption)
              have q195 : (ji26) < ((rd_L1 l0_0 a1).length : Int):=of_decide_eq_true (by assumption)
              obtain ⟨ad195,e195,hx195_0⟩:=Kd.at_int HR192_0.out (ji26) p195 q195
              obtain rfl : ad193 = ad195:=(by injection e195)
              (try replace hx195_0:=(HB.out.cell (World.block_lt_of_cell? w _ hx195_0)).trans hx195_0)
              replace p195:=eq_true p195
              replace q195:=eq_true q195
              have p196 : 0 ≤ ((ji29) : Int):=of_decide_eq_true (by assumption)
              have q196 : (ji29) < ((rd_L1 l0_0 a1).length : Int):=of_decide_eq_true (by assumption)
              obtain ⟨ad196,e196,hx196_0⟩:=Kd.at_int HR192_0.out (ji29) p196 q196
              obtain rfl : ad193 = ad196:=(by injection e196)
              (try replace hx196_0:=(HB.out.cell (World.block_lt_of_cell? w _ hx196_0)).trans hx196_0)
              replace p196:=eq_true p196
              replace q196:=eq_true q196
              go_upto_region 10 with (fail)
              repeat (go_quiet (fail);go_upto_region 10 with (fail))
              go_cut [75] (fun v75 wc=>∃ (kq : Nat) (x75_31 : Bool),v75 = .bool x75_31∧Aside0 (spec_l7Pieces.j2 kq (rd_L1 l0_0 a1) (wrap64 (rd (rd_L1 l0_0 a1) 1)) x8_2 x9_2 (wrap64 ((wrap64 ((wrap64 (rd (rd_L1 l0_0 a1) (ji26))) * 256)) + (wrap64 (rd (rd_L1 l0_0 a1) (ji29))))) x75_31 l0_0 l0_1 l0_2 l0_3 = some (r1,r2))∧Aside0 (kq ≤ k2)∧Aside0 (Kd.R (Kd.int .i64) 3 wc w.heap.size (fun _=>True) u8 x8_2)∧Aside0 (wc.heap[gb186]? = some (.cells #[(.slice (some ad192) l0_0.length c0_0),(.slice A0_1 l0_1.length c0_1),(.slice A0_2 l0_2.length c0_2),(.slice A0_3 l0_3.length c0_3)] 28 (0,0)))∧Aside0 (Below w.heap.size w wc))
              case first =>
               have H:=HC32.out
               clear HC32
               replace H:=Option.bind_eq_some_iff.mp H
               obtain ⟨t197,A330,H⟩:=H
               replace H : (if t197 = true then ((spec_l5Has.f k2 x8_2 (wrap64 ((wrap64 ((wrap64 (rd (rd_L1 l0_0 a1) (ji26))) * 256)) + (wrap64 (rd (rd_L1 l0_0 a1) (ji29)))))).bind fun t198=>(spec_l7Pieces.j2 k2 (rd_L1 l0_0 a1) (wrap64 (rd (rd_L1 l0_0 a1) 1)) x8_2 x9_2 (wrap64 ((wrap64 ((wrap64 (rd (rd_L1 l0_0 a1) (ji26))) * 256)) + (wrap64 (rd (rd_L1 l0_0 a1) (ji29))))) t198 l0_0 l0_1 l0_2 l0_3)) else (spec_l7Pieces.j2 k2 (rd_L1 l0_0 a1) (wrap64 (rd (rd_L1 l0_0 a1) 1)) x8_2 x9_2 (wrap64 ((wrap64 ((wrap64 (rd (rd_L1 l0_0 a1) (ji26))) * 256)) + (wrap64 (rd (rd_L1 l0_0 a1) (ji29))))) true l0_0 l0_1 l0_2 l0_3)) = some (r1,r2):=H
               have A33:=Aside0.mk A330
               clear A330
               by_cases c34 : t197 = true
               ·subst c34
                have H1 : ((spec_l5Has.f k2 x8_2 (wrap64 ((wrap64 ((wrap64 (rd (rd_L1 l0_0 a1) (ji26))) * 256)) + (wrap64 (rd (rd_L1 l0_0 a1) (ji29)))))).bind fun t198=>(spec_l7Pieces.j2 k2 (rd_L1 l0_0 a1) (wrap64 (rd (rd_L1 l0_0 a1) 1)) x8_2 x9_2 (wrap64 ((wrap64 ((wrap64 (rd (rd_L1 l0_0 a1) (ji26))) * 256)) + (wrap64 (rd (rd_L1 l0_0 a1) (ji29))))) t198 l0_0 l0_1 l0_2 l0_3)) = some (r1,r2):=by rw [if_pos rfl] at H;exact H
                clear H
                have H:=H1
                clear H1
                replace H:=Option.bind_eq_some_iff.mp H
                obtain ⟨t198,A350,H⟩:=H
                replace H : (spec_l7Pieces.j2 k2 (rd_L1 l0_0 a1) (wrap64 (rd (rd_L1 l0_0 a1) 1)) x8_2 x9_2 (wrap64 ((wrap64 ((wrap64 (rd (rd_L1 l0_0 a1) (ji26))) * 256)) + (wrap64 (rd (rd_L1 l0_0 a1) (ji29))))) t198 l0_0 l0_1 l0_2 l0_3) = some (r1,r2):=H
                have A35:=Aside0.mk A350
                clear A350
                have H':=Aside0.mk H
                clear H
                have hcz36_0 : wr.cell? ⟨gb186,0,none⟩ = some (.slice (some ad192) l0_0.length c0_0):=(blk_cell BK186.out 0).trans rfl
                have hcz36_1 : wr.cell? ⟨gb186,1,none⟩ = some (.slice A0_1 l0_1.length c0_1):=(blk_cell BK186.out 1).trans rfl
                have hcz36_2 : wr.cell? ⟨gb186,2,none⟩ = some (.slice A0_2 l0_2.length c0_2):=(blk_cell BK186.out 2).trans rfl
                have hcz36_3 : wr.cell? ⟨gb186,3,none⟩ = some (.slice A0_3 l0_3.length c0_3):=(blk_cell BK186.out 3).trans rfl
                have hfz36_0:=blk_frozen BK186.out 0
                have hfz36_1:=blk_frozen BK186.out 1
                have hfz36_2:=blk_frozen BK186.out 2
                have hfz36_3:=blk_frozen BK186.out 3
                go_wp2_with (first|(go_at_call 55;(with_reducible refine (spec_l5Live.calls k2 _ _ l0_0 _ _ l0_1 _ _ l0_2 _ _ l0_3 (wrap64 ((wrap64 ((wrap64 (rd (rd_L1 l0_0 a1) (ji26))) * 256)) + (wrap64 (rd (rd_L1 l0_0 a1) (ji29))))) true _ ?side1 ?side2 ?side3 ?side4 ?side5 ?side6 ?side7 ?side8 A33.out).mono ?_);(case side1=>repeat (first|exact (Kd.C_below HR0_0.out HB.out)|(with_reducible first|apply Kd.C_alloc|apply Kd.C_drewN|apply Kd.C_drew)));(case side2=>exact HC0_0.out);(case side3=>repeat (first|exact (Kd.C_below HR0_1.out HB.out)|(with_reducible first|apply Kd.C_alloc|apply Kd.C_drewN|apply Kd.C_drew)));(case side4=>exact HC0_1.out);(case side5=>repeat (first|exact (Kd.C_below HR0_2.out HB.out)|(with_reducible first|apply Kd.C_alloc|apply Kd.C_drewN|apply Kd.C_drew)));(case side6=>exact HC0_2.out);(case side7=>repeat (first|exact (Kd.C_below HR0_3.out HB.out)|(with_reducible first|apply Kd.C_alloc|apply Kd.C_drewN|apply Kd.C_drew)));(case side8=>exact HC0_3.out);rintro e w37 ⟨rfl,hb⟩;have n0_:=Aside0.mk (Kd.R_below (by (with_reducible repeat (first|apply Kd.R_alloc|apply Kd.R_drewN|apply Kd.R_drew));exact HO_8.out) hb);have n1_:=Aside0.mk (blk_below (g:=gb186) (o:=.cells #[.slice (some ad192) l0_0.length c0_0,.slice A0_1 l0_1.length c0_1,.slice A0_2 l0_2.length c0_2,.slice A0_3 l0_3.length c0_3] 28 (0,0)) (by (with_reducible repeat first|apply blk_drewN|apply blk_drew|apply blk_alloc);exact BK186.out) hb);have n2_:=Aside0.mk (below_step (by repeat (first|(with_reducible first|exact HB.out|apply below_alloc|apply pw_below_drewN|apply below_drew1|refine below_set ?_ GE186.out)|exact HB.out)) hb);clear HO_8;clear BK186;clear HB;have HO_8:=n0_;have BK186:=n1_;have HB:=n2_;clear n0_ n1_ n2_;(try clear hb);(try clear hb2);(try clear hk);(try clear hi);obtain ⟨Ao38,co38,eo38⟩:=Kd.R_slice HO_8.out;subst eo38)|(go_at_call 56;(with_reducible refine (spec_l5Has.calls k2 _ _ x8_2 (wrap64 ((wrap64 ((wrap64 (rd (rd_L1 l0_0 a1) (ji26))) * 256)) + (wrap64 (rd (rd_L1 l0_0 a1) (ji29))))) t198 _ ?side1 ?side2 A35.out).mono ?_);(case side1=>repeat (first|exact (Kd.R_reads' HO_8.out).2.2|(with_reducible first|apply Kd.C_alloc|apply Kd.C_drewN|apply Kd.C_drew)));(case side2=>exact (Kd.R_reads' HO_8.out).2.1);rintro e w' ⟨rfl,⟨nd,rfl⟩⟩;(try first|exact ⟨rfl,_,World.drewN_drewN _ _ _⟩|exact ⟨rfl,_,Eq.trans (World.drewN_drewN _ _ _) (congrArg (World.drewN _) (Nat.add_assoc _ _ _))⟩)))
                have hwq : ∀ n,IntKind.i64.wrap n = wrap64 n:=fun n=>by rw [IntKind.wrap_i64];unfold wrap64;first|rfl|omega
                repeat (go_quiet (first|(go_at_call 55;(with_reducible refine (spec_l5Live.calls k2 _ _ l0_0 _ _ l0_1 _ _ l0_2 _ _ l0_3 (wrap64 ((wrap64 ((wrap64 (rd (rd_L1 l0_0 a1) (ji26))) * 256)) + (wrap64 (rd (rd_L1 l0_0 a1) (ji29))))) true _ ?side1 ?side2 ?side3 ?side4 ?side5 ?side6 ?side7 ?side8 A33.out).mono ?_);(case side1=>repeat (first|exact (Kd.C_below HR0_0.out HB.out)|(with_reducible first|apply Kd.C_alloc|apply Kd.C_drewN|apply Kd.C_drew)));(case side2=>exact HC0_0.out);(case side3=>repeat (first|exact (Kd.C_below HR0_1.out HB.out)|(with_reducible first|apply Kd.C_alloc|apply Kd.C_drewN|apply Kd.C_drew)));(case side4=>exact HC0_1.out);(case side5=>repeat (first|exact (Kd.C_below HR0_2.out HB.out)|(with_reducible first|apply Kd.C_alloc|apply Kd.C_drewN|apply Kd.C_drew)));(case side6=>exact HC0_2.out);(case side7=>repeat (first|exact (Kd.C_below HR0_3.out HB.out)|(with_reducible first|apply Kd.C_alloc|apply Kd.C_drewN|apply Kd.C_drew)));(case side8=>exact HC0_3.out);rintro e w37 ⟨rfl,hb⟩;have n0_:=Aside0.mk (Kd.R_below (by (with_reducible repeat (first|apply Kd.R_alloc|apply Kd.R_drewN|apply Kd.R_drew));exact HO_8.out) hb);have n1_:=Aside0.mk (blk_below (g:=gb186) (o:=.cells #[.slice (some ad192) l0_0.length c0_0,.slice A0_1 l0_1.length c0_1,.slice A0_2 l0_2.length c0_2,.slice A0_3 l0_3.length c0_3] 28 (0,0)) (by (with_reducible repeat first|apply blk_drewN|apply blk_drew|apply blk_alloc);exact BK186.out) hb);have n2_:=Aside0.mk (below_step (by repeat (first|(with_reducible first|exact HB.out|apply below_alloc|apply pw_below_drewN|apply below_drew1|refine below_set ?_ GE186.out)|exact HB.out)) hb);clear HO_8;clear BK186;clear HB;have HO_8:=n0_;have BK186:=n1_;have HB:=n2_;clear n0_ n1_ n2_;(try clear hb);(try clear hb2);(try clear hk);(try clear hi);obtain ⟨Ao38,co38,eo38⟩:=Kd.R_slice HO_8.out;subst eo38)|(go_at_call 56;(with_reducible refine (spec_l5Has.calls k2 _ _ x8_2 (wrap64 ((wrap64 ((wrap64 (rd (rd_L1 l0_0 a1) (ji26))) * 256)) + (wrap64 (rd (rd_L1 l0_0 a1) (ji29))))) t198 _ ?side1 ?side2 A35.out).mono ?_);(case side1=>repeat (first|exact (Kd.R_reads' HO_8.out).2.2|(with_reducible first|apply Kd.C_alloc|apply Kd.C_drewN|apply Kd.C_drew)));(case side2=>exact (Kd.R_reads' HO_8.out).2.1);rintro e w' ⟨rfl,⟨nd,rfl⟩⟩;(try first|exact ⟨rfl,_,World.drewN_drewN _ _ _⟩|exact ⟨rfl,_,Eq.trans (World.drewN_drewN _ _ _) (congrArg (World.drewN _) (Nat.add_assoc _ _ _))⟩)));try go_wp2_with (first|(go_at_call 55;(with_reducible refine (spec_l5Live.calls k2 _ _ l0_0 _ _ l0_1 _ _ l0_2 _ _ l0_3 (wrap64 ((wrap64 ((wrap64 (rd (rd_L1 l0_0 a1) (ji26))) * 256)) + (wrap64 (rd (rd_L1 l0_0 a1) (ji29))))) true _ ?side1 ?side2 ?side3 ?side4 ?side5 ?side6 ?side7 ?side8 A33.out).mono ?_);(case side1=>repeat (first|exact (Kd.C_below HR0_0.out HB.out)|(with_reducible first|apply Kd.C_alloc|apply Kd.C_drewN|apply Kd.C_drew)));(case side2=>exact HC0_0.out);(case side3=>repeat (first|exact (Kd.C_below HR0_1.out HB.out)|(with_reducible first|apply Kd.C_alloc|apply Kd.C_drewN|apply Kd.C_drew)));(case side4=>exact HC0_1.out);(case side5=>repeat (first|exact (Kd.C_below HR0_2.out HB.out)|(with_reducible first|apply Kd.C_alloc|apply Kd.C_drewN|apply Kd.C_drew)));(case side6=>exact HC0_2.out);(case side7=>repeat (first|exact (Kd.C_below HR0_3.out HB.out)|(with_reducible first|apply Kd.C_alloc|apply Kd.C_drewN|apply Kd.C_drew)));(case side8=>exact HC0_3.out);rintro e w37 ⟨rfl,hb⟩;have n0_:=Aside0.mk (Kd.R_below (by (with_reducible repeat (first|apply Kd.R_alloc|apply Kd.R_drewN|apply Kd.R_drew));exact HO_8.out) hb);have n1_:=Aside0.mk (blk_below (g:=gb186) (o:=.cells #[.slice (some ad192) l0_0.length c0_0,.slice A0_1 l0_1.length c0_1,.slice A0_2 l0_2.length c0_2,.slice A0_3 l0_3.length c0_3] 28 (0,0)) (by (with_reducible repeat first|apply blk_drewN|apply blk_drew|apply blk_alloc);exact BK186.out) hb);have n2_:=Aside0.mk (below_step (by repeat (first|(with_reducible first|exact HB.out|apply below_alloc|apply pw_below_drewN|apply below_drew1|refine below_set ?_ GE186.out)|exact HB.out)) hb);clear HO_8;clear BK186;clear HB;have HO_8:=n0_;have BK186:=n1_;have HB:=n2_;clear n0_ n1_ n2_;(try clear hb);(try clear hb2);(try clear hk);(try clear hi);obtain ⟨Ao38,co38,eo38⟩:=Kd.R_slice HO_8.out;subst eo38)|(go_at_call 56;(with_reducible refine (spec_l5Has.calls k2 _ _ x8_2 (wrap64 ((wrap64 ((wrap64 (rd (rd_L1 l0_0 a1) (ji26))) * 256)) + (wrap64 (rd (rd_L1 l0_0 a1) (ji29))))) t198 _ ?side1 ?side2 A35.out).mono ?_);(case side1=>repeat (first|exact (Kd.R_reads' HO_8.out).2.2|(with_reducible first|apply Kd.C_alloc|apply Kd.C_drewN|apply Kd.C_drew)));(case side2=>exact (Kd.R_reads' HO_8.out).2.1);rintro e w' ⟨rfl,⟨nd,rfl⟩⟩;(try first|exact ⟨rfl,_,World.drewN_drewN _ _ _⟩|exact ⟨rfl,_,Eq.trans (World.drewN_drewN _ _ _) (congrArg (World.drewN _) (Nat.add_assoc _ _ _))⟩))))
                go_meet
                case rel=>exact ⟨_,(t198),(by first|rfl|(simp;done)|(simp [*];done)),H',⟨by have:=HJ2.out;have:=HK2.out;first|omega|exact Nat.le_refl _⟩,⟨by (with_reducible repeat (first|apply Kd.R_alloc|apply Kd.R_drewN|apply Kd.R_drew));exact HO_8.out⟩,⟨by (with_reducible repeat first|apply blk_drewN|apply blk_drew|apply blk_alloc);exact BK186.out⟩,⟨by repeat (first|(with_reducible first|exact HB.out|apply below_alloc|apply pw_below_drewN|apply below_drew1|refine below_set ?_ GE186.out)|exact HB.out)⟩⟩
               ·replace c34:=Bool.eq_false_iff.mpr c34
                subst c34
                have H1 : (spec_l7Pieces.j2 k2 (rd_L1 l0_0 a1) (wrap64 (rd (rd_L1 l0_0 a1) 1)) x8_2 x9_2 (wrap64 ((wrap64 ((wrap64 (rd (rd_L1 l0_0 a1) (ji26))) * 256)) + (wrap64 (rd (rd_L1 l0_0 a1) (ji29))))) true l0_0 l0_1 l0_2 l0_3) = some (r1,r2):=by rw [if_neg (show ¬ (false = true) by decide)] at H;exact H
                clear H
                have H:=H1
                clear H1
                have H':=Aside0.mk H
                clear H
                have hcz39_0 : wr.cell? ⟨gb186,0,none⟩ = some (.slice (some ad192) l0_0.length c0_0):=(blk_cell BK186.out 0).trans rfl
                have hcz39_1 : wr.cell? ⟨gb186,1,none⟩ = some (.slice A0_1 l0_1.length c0_1):=(blk_cell BK186.out 1).trans rfl
                have hcz39_2 : wr.cell? ⟨gb186,2,none⟩ = some (.slice A0_2 l0_2.length c0_2):=(blk_cell BK186.out 2).trans rfl
                have hcz39_3 : wr.cell? ⟨gb186,3,none⟩ = some (.slice A0_3 l0_3.length c0_3):=(blk_cell BK186.out 3).trans rfl
                have hfz39_0:=blk_frozen BK186.out 0
                have hfz39_1:=blk_frozen BK186.out 1
                have hfz39_2:=blk_frozen BK186.out 2
                have hfz39_3:=blk_frozen BK186.out 3
                go_wp2_with (first|(go_at_call 55;(with_reducible refine (spec_l5Live.calls k2 _ _ l0_0 _ _ l0_1 _ _ l0_2 _ _ l0_3 (wrap64 ((wrap64 ((wrap64 (rd (rd_L1 l0_0 a1) (ji26))) * 256)) + (wrap64 (rd (rd_L1 l0_0 a1) (ji29))))) false _ ?side1 ?side2 ?side3 ?side4 ?side5 ?side6 ?side7 ?side8 A33.out).mono ?_);(case side1=>repeat (first|exact (Kd.C_below HR0_0.out HB.out)|(with_reducible first|apply Kd.C_alloc|apply Kd.C_drewN|apply Kd.C_drew)));(case side2=>exact HC0_0.out);(case side3=>repeat (first|exact (Kd.C_below HR0_1.out HB.out)|(with_reducible first|apply Kd.C_alloc|apply Kd.C_drewN|apply Kd.C_drew)));(case side4=>exact HC0_1.out);(case side5=>repeat (first|exact (Kd.C_below HR0_2.out HB.out)|(with_reducible first|apply Kd.C_alloc|apply Kd.C_drewN|apply Kd.C_drew)));(case side6=>exact HC0_2.out);(case side7=>repeat (first|exact (Kd.C_below HR0_3.out HB.out)|(with_reducible first|apply Kd.C_alloc|apply Kd.C_drewN|apply Kd.C_drew)));(case side8=>exact HC0_3.out);rintro e w40 ⟨rfl,hb⟩;have n0_:=Aside0.mk (Kd.R_below (by (with_reducible repeat (first|apply Kd.R_alloc|apply Kd.R_drewN|apply Kd.R_drew));exact HO_8.out) hb);have n1_:=Aside0.mk (blk_below (g:=gb186) (o:=.cells #[.slice (some ad192) l0_0.length c0_0,.slice A0_1 l0_1.length c0_1,.slice A0_2 l0_2.length c0_2,.slice A0_3 l0_3.length c0_3] 28 (0,0)) (by (with_reducible repeat first|apply blk_drewN|apply blk_drew|apply blk_alloc);exact BK186.out) hb);have n2_:=Aside0.mk (below_step (by repeat (first|(with_reducible first|exact HB.out|apply below_alloc|apply pw_below_drewN|apply below_drew1|refine below_set ?_ GE186.out)|exact HB.out)) hb);clear HO_8;clear BK186;clear HB;have HO_8:=n0_;have BK186:=n1_;have HB:=n2_;clear n0_ n1_ n2_;(try clear hb);(try clear hb2);(try clear hk);(try clear hi)))
                have hwq : ∀ n,IntKind.i64.wrap n = wrap64 n:=fun n=>by rw [IntKind.wrap_i64];unfold wrap64;first|rfl|omega
                repeat (go_quiet (first|(go_at_call 55;(with_reducible refine (spec_l5Live.calls k2 _ _ l0_0 _ _ l0_1 _ _ l0_2 _ _ l0_3 (wrap64 ((wrap64 ((wrap64 (rd (rd_L1 l0_0 a1) (ji26))) * 256)) + (wrap64 (rd (rd_L1 l0_0 a1) (ji29))))) false _ ?side1 ?side2 ?side3 ?side4 ?side5 ?side6 ?side7 ?side8 A33.out).mono ?_);(case side1=>repeat (first|exact (Kd.C_below HR0_0.out HB.out)|(with_reducible first|apply Kd.C_alloc|apply Kd.C_drewN|apply Kd.C_drew)));(case side2=>exact HC0_0.out);(case side3=>repeat (first|exact (Kd.C_below HR0_1.out HB.out)|(with_reducible first|apply Kd.C_alloc|apply Kd.C_drewN|apply Kd.C_drew)));(case side4=>exact HC0_1.out);(case side5=>repeat (first|exact (Kd.C_below HR0_2.out HB.out)|(with_reducible first|apply Kd.C_alloc|apply Kd.C_drewN|apply Kd.C_drew)));(case side6=>exact HC0_2.out);(case side7=>repeat (first|exact (Kd.C_below HR0_3.out HB.out)|(with_reducible first|apply Kd.C_alloc|apply Kd.C_drewN|apply Kd.C_drew)));(case side8=>exact HC0_3.out);rintro e w40 ⟨rfl,hb⟩;have n0_:=Aside0.mk (Kd.R_below (by (with_reducible repeat (first|apply Kd.R_alloc|apply Kd.R_drewN|apply Kd.R_drew));exact HO_8.out) hb);have n1_:=Aside0.mk (blk_below (g:=gb186) (o:=.cells #[.slice (some ad192) l0_0.length c0_0,.slice A0_1 l0_1.length c0_1,.slice A0_2 l0_2.length c0_2,.slice A0_3 l0_3.length c0_3] 28 (0,0)) (by (with_reducible repeat first|apply blk_drewN|apply blk_drew|apply blk_alloc);exact BK186.out) hb);have n2_:=Aside0.mk (below_step (by repeat (first|(with_reducible first|exact HB.out|apply below_alloc|apply pw_below_drewN|apply below_drew1|refine below_set ?_ GE186.out)|exact HB.out)) hb);clear HO_8;clear BK186;clear HB;have HO_8:=n0_;have BK186:=n1_;have HB:=n2_;clear n0_ n1_ n2_;(try clear hb);(try clear hb2);(try clear hk);(try clear hi)));try go_wp2_with (first|(go_at_call 55;(with_reducible refine (spec_l5Live.calls k2 _ _ l0_0 _ _ l0_1 _ _ l0_2 _ _ l0_3 (wrap64 ((wrap64 ((wrap64 (rd (rd_L1 l0_0 a1) (ji26))) * 256)) + (wrap64 (rd (rd_L1 l0_0 a1) (ji29))))) false _ ?side1 ?side2 ?side3 ?side4 ?side5 ?side6 ?side7 ?side8 A33.out).mono ?_);(case side1=>repeat (first|exact (Kd.C_below HR0_0.out HB.out)|(with_reducible first|apply Kd.C_alloc|apply Kd.C_drewN|apply Kd.C_drew)));(case side2=>exact HC0_0.out);(case side3=>repeat (first|exact (Kd.C_below HR0_1.out HB.out)|(with_reducible first|apply Kd.C_alloc|apply Kd.C_drewN|apply Kd.C_drew)));(case side4=>exact HC0_1.out);(case side5=>repeat (first|exact (Kd.C_below HR0_2.out HB.out)|(with_reducible first|apply Kd.C_alloc|apply Kd.C_drewN|apply Kd.C_drew)));(case side6=>exact HC0_2.out);(case side7=>repeat (first|exact (Kd.C_below HR0_3.out HB.out)|(with_reducible first|apply Kd.C_alloc|apply Kd.C_drewN|apply Kd.C_drew)));(case side8=>exact HC0_3.out);rintro e w40 ⟨rfl,hb⟩;have n0_:=Aside0.mk (Kd.R_below (by (with_reducible repeat (first|apply Kd.R_alloc|apply Kd.R_drewN|apply Kd.R_drew));exact HO_8.out) hb);have n1_:=Aside0.mk (blk_below (g:=gb186) (o:=.cells #[.slice (some ad192) l0_0.length c0_0,.slice A0_1 l0_1.length c0_1,.slice A0_2 l0_2.length c0_2,.slice A0_3 l0_3.length c0_3] 28 (0,0)) (by (with_reducible repeat first|apply blk_drewN|apply blk_drew|apply blk_alloc);exact BK186.out) hb);have n2_:=Aside0.mk (below_step (by repeat (first|(with_reducible first|exact HB.out|apply below_alloc|apply pw_below_drewN|apply below_drew1|refine below_set ?_ GE186.out)|exact HB.out)) hb);clear HO_8;clear BK186;clear HB;have HO_8:=n0_;have BK186:=n1_;have HB:=n2_;clear n0_ n1_ n2_;(try clear hb);(try clear hb2);(try clear hk);(try clear hi))))
                go_meet
                case rel=>exact ⟨_,(true),(by first|rfl|(simp;done)|(simp [*];done)),H',⟨by have:=HJ2.out;have:=HK2.out;first|omega|exact Nat.le_refl _⟩,⟨by (with_reducible repeat (first|apply Kd.R_alloc|apply Kd.R_drewN|apply Kd.R_drew));exact HO_8.out⟩,⟨by (with_reducible repeat first|apply blk_drewN|apply blk_drew|apply blk_alloc);exact BK186.out⟩,⟨by repeat (first|(with_reducible first|exact HB.out|apply below_alloc|apply pw_below_drewN|apply below_drew1|refine below_set ?_ GE186.out)|exact HB.out)⟩⟩
              case rest =>
               clear HC32
               try clear c1;try clear p1;try clear q1;try clear hx1;try clear qi1;try clear c2;try clear p2;try clear c3;try clear c6;try clear p6;try clear c7;try clear c7b0;try clear c8;try clear c8b0;try clear c9;try clear c9b0;try clear c9b1;try clear c10;try clear c10b0;try clear c10b1;try clear c11;try clear c11b0;try clear c11b1;try clear c18;try clear p18;try clear q18;try clear hx18;try clear qi18;try clear c19;try clear p19;try clear q19;try clear hx19;try clear qi19;try clear c20;try clear c21;try clear c21b0;try clear c22;try clear c22b0;try clear c23;try clear c23b0;try clear c23b1;try clear c25;try clear c25b0;try clear c27;try clear c27b0;try clear c28;try clear c28b0;try clear c30;try clear c30b0;try clear c31;try clear c31b0;try clear c34;try clear hcz12_0;try clear hcz12_1;try clear hcz12_2;try clear hcz12_3;try clear hcz14_0;try clear hcz14_1;try clear hcz14_2;try clear hcz14_3;try clear hcz15_0;try clear hcz15_1;try clear hcz15_2;try clear hcz15_3;try clear hcz17_0;try clear hcz17_1;try clear hcz17_2;try clear hcz17_3;try clear hcz18_0;try clear hcz18_1;try clear hcz18_2;try clear hcz18_3;try clear hcz24_0;try clear hcz24_1;try clear hcz24_2;try clear hcz24_3;try clear hcz36_0;try clear hcz36_1;try clear hcz36_2;try clear hcz36_3;try clear hcz39_0;try clear hcz39_1;try clear hcz39_2;try clear hcz39_3;try clear hfz12_0;try clear hfz12_1;try clear hfz12_2;try clear hfz12_3;try clear hfz14_0;try clear hfz14_1;try clear hfz14_2;try clear hfz14_3;try clear hfz15_0;try clear hfz15_1;try clear hfz15_2;try clear hfz15_3;try clear hfz17_0;try clear hfz17_1;try clear hfz17_2;try clear hfz17_3;try clear hfz18_0;try clear hfz18_1;try clear hfz18_2;try clear hfz18_3;try clear hfz24_0;try clear hfz24_1;try clear hfz24_2;try clear hfz24_3;try clear hfz36_0;try clear hfz36_1;try clear hfz36_2;try clear hfz36_3;try clear hfz39_0;try clear hfz39_1;try clear hfz39_2;try clear hfz39_3;try clear hx188_0;try clear hx189_0;try clear hx190_0;try clear hx191_0;try clear hx192_0;try clear hx193_0;try clear hx195_0;try clear hx196_0;try clear p1;try clear p18;try clear p188;try clear p189;try clear p19;try clear p190;try clear p191;try clear p192;try clear p193;try clear p195;try clear p196;try clear p2;try clear p6;try clear q1;try clear q18;try clear q188;try clear q189;try clear q19;try clear q190;try clear q191;try clear q192;try clear q193;try clear q195;try clear q196
               obtain ⟨kq,x75_31,rfl,HA,HJ31,HO_8,BK186,HB⟩:=hcut
               cases kq with
               | zero=>exact absurd HA.out (by simp [spec_l7Pieces.j2])
               | succ kj31 =>
                have H:=HA.out
                clear HA
                simp only [spec_l7Pieces.j2] at H
                by_cases c41 : x75_31 = true
                ·subst c41
                 have H1 : (some (([] : List Int),false)) = some (r1,r2):=by rw [if_pos rfl] at H;exact H
                 clear H
                 have H:=H1
                 clear H1
                 simp only [Option.some.injEq,Prod.mk.injEq] at H
                 obtain ⟨rfl,rfl⟩:=H
                 go_wp2
                 repeat (go_quiet (fail);try go_wp2)
                 go_ret2
                 exact ⟨_,by first|rfl|(simp [errW_none,errW_some] <;> rfl)|(simp only [← hji26,← hji29];first|rfl|(simp [errW_none,errW_some] <;> rfl))|(simp [*,errW_none,errW_some] <;> rfl),by first|exact Kd.R_nil _ _ _ _ _|exact Kd.N_nil _ _ _ _ _|exact Kd.V_nil _ _ _ _ _|exact Kd.Q_nil _ _ _ _ _|exact Kd.S_nil _ _ _ _ _,by repeat (first|(with_reducible first|exact HB.out|apply below_alloc|apply pw_below_drewN|apply below_drew1|refine below_set ?_ GE186.out)|exact HB.out)⟩
                ·replace c41:=Bool.eq_false_iff.mpr c41
                 subst c41
                 have H1 : (if 0 ≤ (wrap64 ((wrap64 ((wrap64 (rd (rd_L1 l0_0 a1) (ji26))) * 256)) + (wrap64 (rd (rd_L1 l0_0 a1) (ji29))))) then (if (wrap64 ((wrap64 ((wrap64 (rd (rd_L1 l0_0 a1) (ji26))) * 256)) + (wrap64 (rd (rd_L1 l0_0 a1) (ji29))))) < (l0_0.length : Int) then (if 2 < ((rd_L1 l0_0 (wrap64 ((wrap64 ((wrap64 (rd (rd_L1 l0_0 a1) (ji26))) * 256)) + (wrap64 (rd (rd_L1 l0_0 a1) (ji29)))))).length : Int) then (if 0 < ((rd_L1 l0_0 (wrap64 ((wrap64 ((wrap64 (rd (rd_L1 l0_0 a1) (ji26))) * 256)) + (wrap64 (rd (rd_L1 l0_0 a1) (ji29)))))).length : Int) then (if (rd (rd_L1 l0_0 (wrap64 ((wrap64 ((wrap64 (rd (rd_L1 l0_0 a1) (ji26))) * 256)) + (wrap64 (rd (rd_L1 l0_0 a1) (ji29)))))) 0) = 83 then (if 1 < ((rd_L1 l0_0 (wrap64 ((wrap64 ((wrap64 (rd (rd_L1 l0_0 a1) (ji26))) * 256)) + (wrap64 (rd (rd_L1 l0_0 a1) (ji29)))))).length : Int) then ((spec_l1In.f (wrap64 (rd (rd_L1 l0_0 (wrap64 ((wrap64 ((wrap64 (rd (rd_L1 l0_0 a1) (ji26))) * 256)) + (wrap64 (rd (rd_L1 l0_0 a1) (ji29)))))) 1)) 1 250).bind fun t203=>(if t203 = true then ((spec_l1In.f (wrap64 (rd (rd_L1 l0_0 (wrap64 ((wrap64 ((wrap64 (rd (rd_L1 l0_0 a1) (ji26))) * 256)) + (wrap64 (rd (rd_L1 l0_0 a1) (ji29)))))) 2)) 1 40).bind fun t204=>(if t204 = true then (if x9_2 < (wrap64 ((wrap64 (rd (rd_L1 l0_0 a1) 1)) - 1)) then (if (wrap64 (rd (rd_L1 l0_0 (wrap64 ((wrap64 ((wrap64 (rd (rd_L1 l0_0 a1) (ji26))) * 256)) + (wrap64 (rd (rd_L1 l0_0 a1) (ji29)))))) 2)) = 40 then ((spec_l7Rest.f kj31 (rd_L1 l0_0 (wrap64 ((wrap64 ((wrap64 (rd (rd_L1 l0_0 a1) (ji26))) * 256)) + (wrap64 (rd (rd_L1 l0_0 a1) (ji29)))))) (wrap64 (3 + (wrap64 (rd (rd_L1 l0_0 (wrap64 ((wrap64 ((wrap64 (rd (rd_L1 l0_0 a1) (ji26))) * 256)) + (wrap64 (rd (rd_L1 l0_0 a1) (ji29)))))) 2))))).bind fun t205=>(if t205 = true then (if x8_2.length < 17592186044416 then (spec_l7Pieces.l0 kj31 (rd_L1 l0_0 a1) (wrap64 (rd (rd_L1 l0_0 a1) 1)) (x8_2 ++ [(wrap64 ((wrap64 ((wrap64 (rd (rd_L1 l0_0 a1) (ji26))) * 256)) + (wrap64 (rd (rd_L1 l0_0 a1) (ji29)))))]) (wrap64 (x9_2 + 1)) l0_0 l0_1 l0_2 l0_3) else (none)) else (some (([] : List Int),false)))) else (some (([] : List Int),false))) else ((spec_l7Rest.f kj31 (rd_L1 l0_0 (wrap64 ((wrap64 ((wrap64 (rd (rd_L1 l0_0 a1) (ji26))) * 256)) + (wrap64 (rd (rd_L1 l0_0 a1) (ji29)))))) (wrap64 (3 + (wrap64 (rd (rd_L1 l0_0 (wrap64 ((wrap64 ((wrap64 (rd (rd_L1 l0_0 a1) (ji26))) * 256)) + (wrap64 (rd (rd_L1 l0_0 a1) (ji29)))))) 2))))).bind fun t209=>(if t209 = true then (if x8_2.length < 17592186044416 then (spec_l7Pieces.l0 kj31 (rd_L1 l0_0 a1) (wrap64 (rd (rd_L1 l0_0 a1) 1)) (x8_2 ++ [(wrap64 ((wrap64 ((wrap64 (rd (rd_L1 l0_0 a1) (ji26))) * 256)) + (wrap64 (rd (rd_L1 l0_0 a1) (ji29)))))]) (wrap64 (x9_2 + 1)) l0_0 l0_1 l0_2 l0_3) else (none)) else (some (([] : List Int),false))))) else (some (([] : List Int),false)))) else (some (([] : List Int),false)))) else (none)) else (some (([] : List Int),false))) else (none)) else (none)) else (none)) else (none)) = some (r1,r2):=by rw [if_neg (show ¬ (false = true) by decide)] at H;exact H
                 clear H
                 have H:=H1
                 clear H1
                 obtain ⟨ji42,hji42⟩ : ∃ j_ : Int,(wrap64 ((wrap64 ((wrap64 (rd (rd_L1 l0_0 a1) (ji26))) * 256)) + (wrap64 (rd (rd_L1 l0_0 a1) (ji29))))) = j_:=⟨_,rfl⟩
                 replace H : (if 0 ≤ (ji42) then (if (ji42) < (l0_0.length : Int) then (if 2 < ((rd_L1 l0_0 (ji42)).length : Int) then (if 0 < ((rd_L1 l0_0 (ji42)).length : Int) then (if (rd (rd_L1 l0_0 (ji42)) 0) = 83 then (if 1 < ((rd_L1 l0_0 (ji42)).length : Int) then ((spec_l1In.f (wrap64 (rd (rd_L1 l0_0 (ji42)) 1)) 1 250).bind fun t203=>(if t203 = true then ((spec_l1In.f (wrap64 (rd (rd_L1 l0_0 (ji42)) 2)) 1 40).bind fun t204=>(if t204 = true then (if x9_2 < (wrap64 ((wrap64 (rd (rd_L1 l0_0 a1) 1)) - 1)) then (if (wrap64 (rd (rd_L1 l0_0 (ji42)) 2)) = 40 then ((spec_l7Rest.f kj31 (rd_L1 l0_0 (ji42)) (wrap64 (3 + (wrap64 (rd (rd_L1 l0_0 (ji42)) 2))))).bind fun t205=>(if t205 = true then (if x8_2.length < 17592186044416 then (spec_l7Pieces.l0 kj31 (rd_L1 l0_0 a1) (wrap64 (rd (rd_L1 l0_0 a1) 1)) (x8_2 ++ [(ji42)]) (wrap64 (x9_2 + 1)) l0_0 l0_1 l0_2 l0_3) else (none)) else (some (([] : List Int),false)))) else (some (([] : List Int),false))) else ((spec_l7Rest.f kj31 (rd_L1 l0_0 (ji42)) (wrap64 (3 + (wrap64 (rd (rd_L1 l0_0 (ji42)) 2))))).bind fun t209=>(if t209 = true then (if x8_2.length < 17592186044416 then (spec_l7Pieces.l0 kj31 (rd_L1 l0_0 a1) (wrap64 (rd (rd_L1 l0_0 a1) 1)) (x8_2 ++ [(ji42)]) (wrap64 (x9_2 + 1)) l0_0 l0_1 l0_2 l0_3) else (none)) else (some (([] : List Int),false))))) else (some (([] : List Int),false)))) else (some (([] : List Int),false)))) else (none)) else (some (([] : List Int),false))) else (none)) else (none)) else (none)) else (none)) = some (r1,r2):=by first|(rw [hji42] at H;exact H)|(simp only [hji42] at H ⊢;exact H)
                 have hji42w : (IntKind.i64.wrap ((wrap64 ((wrap64 (rd (rd_L1 l0_0 a1) (ji26))) * 256)) + (wrap64 (rd (rd_L1 l0_0 a1) (ji29))))) = ji42:=(i64_w _).trans hji42
                 by_cases c43 : 0 ≤ (ji42)
                 ·rw [if_pos c43] at H
                  have c43b0 : decide (0 ≤ (ji42)) = true:=decide_eq_true c43
                  clear c43
                  by_cases c44 : (ji42) < (l0_0.length : Int)
                  ·rw [if_pos c44] at H
                   have c44b0 : decide ((ji42) < (l0_0.length : Int)) = true:=decide_eq_true c44
                   clear c44
                   by_cases c45 : 2 < ((rd_L1 l0_0 (ji42)).length : Int)
                   ·rw [if_pos c45] at H
                    have c45b0 : decide (2 < ((rd_L1 l0_0 (ji42)).length : Int)) = true:=decide_eq_true c45
                    have c45b1 : decide (2 < (rd_L1 l0_0 (ji42)).length) = true:=decide_eq_true (by omega)
                    clear c45
                    by_cases c46 : 0 < ((rd_L1 l0_0 (ji42)).length : Int)
                    ·rw [if_pos c46] at H
                     have c46b0 : decide (0 < ((rd_L1 l0_0 (ji42)).length : Int)) = true:=decide_eq_true c46
                     have c46b1 : decide (0 < (rd_L1 l0_0 (ji42)).length) = true:=decide_eq_true (by omega)
                     clear c46
                     by_cases c47 : (rd (rd_L1 l0_0 (ji42)) 0) = 83
                     ·rw [if_pos c47] at H
                      have c47b0 : ((rd (rd_L1 l0_0 (ji42)) 0) == 83) = true:=beq_iff_eq.mpr c47
                      have c47b1 : ((rd (rd_L1 l0_0 (ji42)) 0) != 83) = false:=bne_eq_false_iff_eq.mpr c47
                      clear c47
                      by_cases c48 : 1 < ((rd_L1 l0_0 (ji42)).length : Int)
                      ·rw [if_pos c48] at H
                       have c48b0 : decide (1 < ((rd_L1 l0_0 (ji42)).length : Int)) = true:=decide_eq_true c48
                       have c48b1 : decide (1 < (rd_L1 l0_0 (ji42)).length) = true:=decide_eq_true (by omega)
                       clear c48
                       replace H:=Option.bind_eq_some_iff.mp H
                       obtain ⟨t203,A490,H⟩:=H
                       replace H : (if t203 = true then ((spec_l1In.f (wrap64 (rd (rd_L1 l0_0 (ji42)) 2)) 1 40).bind fun t204=>(if t204 = true then (if x9_2 < (wrap64 ((wrap64 (rd (rd_L1 l0_0 a1) 1)) - 1)) then (if (wrap64 (rd (rd_L1 l0_0 (ji42)) 2)) = 40 then ((spec_l7Rest.f kj31 (rd_L1 l0_0 (ji42)) (wrap64 (3 + (wrap64 (rd (rd_L1 l0_0 (ji42)) 2))))).bind fun t205=>(if t205 = true then (if x8_2.length < 17592186044416 then (spec_l7Pieces.l0 kj31 (rd_L1 l0_0 a1) (wrap64 (rd (rd_L1 l0_0 a1) 1)) (x8_2 ++ [(ji42)]) (wrap64 (x9_2 + 1)) l0_0 l0_1 l0_2 l0_3) else (none)) else (some (([] : List Int),false)))) else (some (([] : List Int),false))) else ((spec_l7Rest.f kj31 (rd_L1 l0_0 (ji42)) (wrap64 (3 + (wrap64 (rd (rd_L1 l0_0 (ji42)) 2))))).bind fun t209=>(if t209 = true then (if x8_2.length < 17592186044416 then (spec_l7Pieces.l0 kj31 (rd_L1 l0_0 a1) (wrap64 (rd (rd_L1 l0_0 a1) 1)) (x8_2 ++ [(ji42)]) (wrap64 (x9_2 + 1)) l0_0 l0_1 l0_2 l0_3) else (none)) else (some (([] : List Int),false))))) else (some (([] : List Int),false)))) else (some (([] : List Int),false))) = some (r1,r2):=H
                       have A49:=Aside0.mk A490
                       clear A490
                       by_cases c50 : t203 = true
                       ·subst c50
                        have H1 : ((spec_l1In.f (wrap64 (rd (rd_L1 l0_0 (ji42)) 2)) 1 40).bind fun t204=>(if t204 = true then (if x9_2 < (wrap64 ((wrap64 (rd (rd_L1 l0_0 a1) 1)) - 1)) then (if (wrap64 (rd (rd_L1 l0_0 (ji42)) 2)) = 40 then ((spec_l7Rest.f kj31 (rd_L1 l0_0 (ji42)) (wrap64 (3 + (wrap64 (rd (rd_L1 l0_0 (ji42)) 2))))).bind fun t205=>(if t205 = true then (if x8_2.length < 17592186044416 then (spec_l7Pieces.l0 kj31 (rd_L1 l0_0 a1) (wrap64 (rd (rd_L1 l0_0 a1) 1)) (x8_2 ++ [(ji42)]) (wrap64 (x9_2 + 1)) l0_0 l0_1 l0_2 l0_3) else (none)) else (some (([] : List Int),false)))) else (some (([] : List Int),false))) else ((spec_l7Rest.f kj31 (rd_L1 l0_0 (ji42)) (wrap64 (3 + (wrap64 (rd (rd_L1 l0_0 (ji42)) 2))))).bind fun t209=>(if t209 = true then (if x8_2.length < 17592186044416 then (spec_l7Pieces.l0 kj31 (rd_L1 l0_0 a1) (wrap64 (rd (rd_L1 l0_0 a1) 1)) (x8_2 ++ [(ji42)]) (wrap64 (x9_2 + 1)) l0_0 l0_1 l0_2 l0_3) else (none)) else (some (([] : List Int),false))))) else (some (([] : List Int),false)))) = some (r1,r2):=by rw [if_pos rfl] at H;exact H
                        clear H
                        have H:=H1
                        clear H1
                        replace H:=Option.bind_eq_some_iff.mp H
                        obtain ⟨t204,A510,H⟩:=H
                        replace H : (if t204 = true then (if x9_2 < (wrap64 ((wrap64 (rd (rd_L1 l0_0 a1) 1)) - 1)) then (if (wrap64 (rd (rd_L1 l0_0 (ji42)) 2)) = 40 then ((spec_l7Rest.f kj31 (rd_L1 l0_0 (ji42)) (wrap64 (3 + (wrap64 (rd (rd_L1 l0_0 (ji42)) 2))))).bind fun t205=>(if t205 = true then (if x8_2.length < 17592186044416 then (spec_l7Pieces.l0 kj31 (rd_L1 l0_0 a1) (wrap64 (rd (rd_L1 l0_0 a1) 1)) (x8_2 ++ [(ji42)]) (wrap64 (x9_2 + 1)) l0_0 l0_1 l0_2 l0_3) else (none)) else (some (([] : List Int),false)))) else (some (([] : List Int),false))) else ((spec_l7Rest.f kj31 (rd_L1 l0_0 (ji42)) (wrap64 (3 + (wrap64 (rd (rd_L1 l0_0 (ji42)) 2))))).bind fun t209=>(if t209 = true then (if x8_2.length < 17592186044416 then (spec_l7Pieces.l0 kj31 (rd_L1 l0_0 a1) (wrap64 (rd (rd_L1 l0_0 a1) 1)) (x8_2 ++ [(ji42)]) (wrap64 (x9_2 + 1)) l0_0 l0_1 l0_2 l0_3) else (none)) else (some (([] : List Int),false))))) else (some (([] : List Int),false))) = some (r1,r2):=H
                        have A51:=Aside0.mk A510
                        clear A510
                        by_cases c52 : t204 = true
                        ·subst c52
                         have H1 : (if x9_2 < (wrap64 ((wrap64 (rd (rd_L1 l0_0 a1) 1)) - 1)) then (if (wrap64 (rd (rd_L1 l0_0 (ji42)) 2)) = 40 then ((spec_l7Rest.f kj31 (rd_L1 l0_0 (ji42)) (wrap64 (3 + (wrap64 (rd (rd_L1 l0_0 (ji42)) 2))))).bind fun t205=>(if t205 = true then (if x8_2.length < 17592186044416 then (spec_l7Pieces.l0 kj31 (rd_L1 l0_0 a1) (wrap64 (rd (rd_L1 l0_0 a1) 1)) (x8_2 ++ [(ji42)]) (wrap64 (x9_2 + 1)) l0_0 l0_1 l0_2 l0_3) else (none)) else (some (([] : List Int),false)))) else (some (([] : List Int),false))) else ((spec_l7Rest.f kj31 (rd_L1 l0_0 (ji42)) (wrap64 (3 + (wrap64 (rd (rd_L1 l0_0 (ji42)) 2))))).bind fun t209=>(if t209 = true then (if x8_2.length < 17592186044416 then (spec_l7Pieces.l0 kj31 (rd_L1 l0_0 a1) (wrap64 (rd (rd_L1 l0_0 a1) 1)) (x8_2 ++ [(ji42)]) (wrap64 (x9_2 + 1)) l0_0 l0_1 l0_2 l0_3) else (none)) else (some (([] : List Int),false))))) = some (r1,r2):=by rw [if_pos rfl] at H;exact H
                         clear H
                         have H:=H1
                         clear H1
                         by_cases c53 : x9_2 < (wrap64 ((wrap64 (rd (rd_L1 l0_0 a1) 1)) - 1))
                         ·rw [if_pos c53] at H
                          have c53b0 : decide (x9_2 < (wrap64 ((wrap64 (rd (rd_L1 l0_0 a1) 1)) - 1))) = true:=decide_eq_true c53
                          clear c53
                          by_cases c54 : (wrap64 (rd (rd_L1 l0_0 (ji42)) 2)) = 40
                          ·rw [if_pos c54] at H
                           have c54b0 : ((wrap64 (rd (rd_L1 l0_0 (ji42)) 2)) == 40) = true:=beq_iff_eq.mpr c54
                           have c54b1 : ((wrap64 (rd (rd_L1 l0_0 (ji42)) 2)) != 40) = false:=bne_eq_false_iff_eq.mpr c54
                           clear c54
                           replace H:=Option.bind_eq_some_iff.mp H
                           obtain ⟨t205,A550,H⟩:=H
                           replace H : (if t205 = true then (if x8_2.length < 17592186044416 then (spec_l7Pieces.l0 kj31 (rd_L1 l0_0 a1) (wrap64 (rd (rd_L1 l0_0 a1) 1)) (x8_2 ++ [(ji42)]) (wrap64 (x9_2 + 1)) l0_0 l0_1 l0_2 l0_3) else (none)) else (some (([] : List Int),false))) = some (r1,r2):=H
                           have A55:=Aside0.mk A550
                           clear A550
                           by_cases c56 : t205 = true
                           ·subst c56
                            have H1 : (if x8_2.length < 17592186044416 then (spec_l7Pieces.l0 kj31 (rd_L1 l0_0 a1) (wrap64 (rd (rd_L1 l0_0 a1) 1)) (x8_2 ++ [(ji42)]) (wrap64 (x9_2 + 1)) l0_0 l0_1 l0_2 l0_3) else (none)) = some (r1,r2):=by rw [if_pos rfl] at H;exact H
                            clear H
                            have H:=H1
                            clear H1
                            by_cases c57 : x8_2.length < 17592186044416
                            ·rw [if_pos c57] at H
                             have LMc57:=Aside0.mk c57
                             clear c57
                             obtain ⟨y206,hy206⟩ : ∃ y_ : List Int,y_ = (x8_2 ++ [(ji42)]):=⟨_,rfl⟩
                             replace H : (spec_l7Pieces.l0 kj31 (rd_L1 l0_0 a1) (wrap64 (rd (rd_L1 l0_0 a1) 1)) y206 (wrap64 (x9_2 + 1)) l0_0 l0_1 l0_2 l0_3) = some (r1,r2):=by first|(rw [hy206];with_reducible exact H)|(have H2_:=(Option.bind_some _ _).symm.trans H;rw [hy206];with_reducible exact H2_)|(have H2_:=(Option.bind_some _ _).symm.trans H;with_reducible exact H2_)|with_reducible exact H|(rw [hy206];exact H)|exact H
                             have Ny206:=Aside0.mk hy206
                             clear hy206
                             have H':=Aside0.mk H
                             clear H
                             have hcz58_0 : wc.cell? ⟨gb186,0,none⟩ = some (.slice (some ad192) l0_0.length c0_0):=(blk_cell BK186.out 0).trans rfl
                             have hcz58_1 : wc.cell? ⟨gb186,1,none⟩ = some (.slice A0_1 l0_1.length c0_1):=(blk_cell BK186.out 1).trans rfl
                             have hcz58_2 : wc.cell? ⟨gb186,2,none⟩ = some (.slice A0_2 l0_2.length c0_2):=(blk_cell BK186.out 2).trans rfl
                             have hcz58_3 : wc.cell? ⟨gb186,3,none⟩ = some (.slice A0_3 l0_3.length c0_3):=(blk_cell BK186.out 3).trans rfl
                             have hfz58_0:=blk_frozen BK186.out 0
                             have hfz58_1:=blk_frozen BK186.out 1
                             have hfz58_2:=blk_frozen BK186.out 2
                             have hfz58_3:=blk_frozen BK186.out 3
                             have p199 : 0 ≤ ((ji42) : Int):=of_decide_eq_true (by assumption)
                             have q199 : (ji42) < (l0_0.length : Int):=of_decide_eq_true (by assumption)
                             obtain ⟨ad199,A199_0,c199_0,e199,hx199_0,hl199_0,hi199_0⟩:=at_L1 HR0_0.out (ji42) p199 q199
                             obtain rfl : ad192 = ad199:=(by injection e199)
                             (try replace hx199_0:=(HB.out.cell (World.block_lt_of_cell? w _ hx199_0)).trans hx199_0)
                             have HR199_0:=Aside0.mk hi199_0
                             have HC199_0:=Aside0.mk hl199_0
                             clear hi199_0 hl199_0
                             replace p199:=eq_true p199
                             replace q199:=eq_true q199
                             have p200 : 0 ≤ (2 : Int):=(by omega)
                             have q200 : 2 < ((rd_L1 l0_0 (ji42)).length : Int):=of_decide_eq_true (by assumption)
                             obtain ⟨ad200,e200,hx200_0⟩:=Kd.at_int HR199_0.out 2 p200 q200
                             cases e200
                             (try simp only [show (2 : Int).toNat = 2 from rfl,Nat.reduceMul,Nat.reduceEqDiff,Go.Addr.add,↓reduceIte] at hx200_0)
                             have qi200 : (2 < (rd_L1 l0_0 (ji42)).length) = True:=eq_true (by omega)
                             (try rw [show ((2 : Int)).toNat = 2 from rfl] at hx200_0)
                             (try replace hx200_0:=(HB.out.cell (World.block_lt_of_cell? w _ hx200_0)).trans hx200_0)
                             replace p200:=eq_true p200
                             replace q200:=eq_true q200
                             have p201 : 0 ≤ (0 : Int):=(by omega)
                             have q201 : 0 < ((rd_L1 l0_0 (ji42)).length : Int):=of_decide_eq_true (by assumption)
                             obtain ⟨ad201,e201,hx201_0⟩:=Kd.at_int HR199_0.out 0 p201 q201
                             obtain rfl : ad200 = ad201:=(by injection e201)
                             have qi201 : (0 < (rd_L1 l0_0 (ji42)).length) = True:=eq_true (by omega)
                             (try rw [show ((0 : Int)).toNat = 0 from rfl] at hx201_0)
                             (try rw [Addr.add_zero'] at hx201_0)
                             (try replace hx201_0:=(HB.out.cell (World.block_lt_of_cell? w _ hx201_0)).trans hx201_0)
                             replace p201:=eq_true p201
                             replace q201:=eq_true q201
                             have p202 : 0 ≤ (1 : Int):=(by omega)
                             have q202 : 1 < ((rd_L1 l0_0 (ji42)).length : Int):=of_decide_eq_true (by assumption)
                             obtain ⟨ad202,e202,hx202_0⟩:=Kd.at_int HR199_0.out 1 p202 q202
                             obtain rfl : ad200 = ad202:=(by injection e202)
                             (try simp only [show (1 : Int).toNat = 1 from rfl,Nat.reduceMul,Nat.reduceEqDiff,Go.Addr.add,↓reduceIte] at hx202_0)
                             have qi202 : (1 < (rd_L1 l0_0 (ji42)).length) = True:=eq_true (by omega)
                             (try rw [show ((1 : Int)).toNat = 1 from rfl] at hx202_0)
                             (try replace hx202_0:=(HB.out.cell (World.block_lt_of_cell? w _ hx202_0)).trans hx202_0)
                             replace p202:=eq_true p202
                             replace q202:=eq_true q202
                             go_wp2_with (first|(go_at_call 53;(with_reducible refine (spec_l1In.calls (wrap64 (rd (rd_L1 l0_0 (ji42)) 1)) 1 250 true _ A49.out).mono ?_);rintro e w' ⟨rfl,⟨nd,rfl⟩⟩;(try first|exact ⟨rfl,_,World.drewN_drewN _ _ _⟩|exact ⟨rfl,_,Eq.trans (World.drewN_drewN _ _ _) (congrArg (World.drewN _) (Nat.add_assoc _ _ _))⟩))|(go_at_call 53;(with_reducible refine (spec_l1In.calls (wrap64 (rd (rd_L1 l0_0 (ji42)) 2)) 1 40 true _ A51.out).mono ?_);rintro e w' ⟨rfl,⟨nd,rfl⟩⟩;(try first|exact ⟨rfl,_,World.drewN_drewN _ _ _⟩|exact ⟨rfl,_,Eq.trans (World.drewN_drewN _ _ _) (congrArg (World.drewN _) (Nat.add_assoc _ _ _))⟩))|(go_at_call 57;(with_reducible refine (spec_l7Rest.calls kj31 _ _ (rd_L1 l0_0 (ji42)) (wrap64 (3 + (wrap64 (rd (rd_L1 l0_0 (ji42)) 2)))) true _ ?side1 ?side2 A55.out).mono ?_);(case side1=>repeat (first|exact (Kd.C_below HR199_0.out (by repeat (first|(with_reducible first|exact HB.out|apply below_alloc|apply pw_below_drewN|apply below_drew1|refine below_set ?_ GE186.out)|exact HB.out)))|(with_reducible first|apply Kd.C_alloc|apply Kd.C_drewN|apply Kd.C_drew)));(case side2=>exact HC199_0.out);rintro e w' ⟨rfl,⟨nd,rfl⟩⟩;(try first|exact ⟨rfl,_,World.drewN_drewN _ _ _⟩|exact ⟨rfl,_,Eq.trans (World.drewN_drewN _ _ _) (congrArg (World.drewN _) (Nat.add_assoc _ _ _))⟩))|((with_reducible refine gate_builtin (b:=.append) (xs:=#[.tmp 119,.tmp 121]) rfl ?_);at_builtin;refine Kd.R_append (Kd.int .i64) (w0:=w) w.heap.size rfl (.tmp 119) (.tmp 121) 24 3 (.int .i64 0) 8 rfl Try.underlying24 info3 rfl (by decide) (by omega) u8 x8_2 (ji42) [.int .i64 (ji42)] (fun _=>True) (fun _=>False) rfl rfl ?aP (fun _ hk=>hk.elim) ?aF ?aO ?aB ?aS ?aL ?_;(case aP=>exact rfl);(case aB=>exact (by repeat (first|(with_reducible first|exact HB.out|apply below_alloc|apply pw_below_drewN|apply below_drew1|refine below_set ?_ GE186.out)|exact HB.out)));(case aF=>exact (fun _ _=>trivial));(case aO=>exact (by (with_reducible repeat (first|apply Kd.R_alloc|apply Kd.R_drewN|apply Kd.R_drew));exact HO_8.out));(case aS=>exact (below_size (by repeat (first|(with_reducible first|exact HB.out|apply below_alloc|apply pw_below_drewN|apply below_drew1|refine below_set ?_ GE186.out)|exact HB.out))));(case aL=>have:=LMc57.out;omega);intro v207 w59 ho hb hg hat;rw [← Ny206.out] at ho;have n0_:=Aside0.mk (blk_grown (g:=gb186) (o:=.cells #[.slice (some ad192) l0_0.length c0_0,.slice A0_1 l0_1.length c0_1,.slice A0_2 l0_2.length c0_2,.slice A0_3 l0_3.length c0_3] 28 (0,0)) (by (with_reducible repeat first|apply blk_drewN|apply blk_drew|apply blk_alloc);exact BK186.out) hg (Kd.R_ne HO_8.out BK186.out (by decide)));have n1_:=Aside0.mk (hb);have n2_:=Aside0.mk (ho);clear BK186;clear HB;clear HO_8;have BK186:=n0_;have HB:=n1_;have HO208:=n2_;clear n0_ n1_ n2_;clear ho hb hg hat))
                             have hwq : ∀ n,IntKind.i64.wrap n = wrap64 n:=fun n=>by rw [IntKind.wrap_i64];unfold wrap64;first|rfl|omega
                             repeat (go_quiet (first|(go_at_call 53;(with_reducible refine (spec_l1In.calls (wrap64 (rd (rd_L1 l0_0 (ji42)) 1)) 1 250 true _ A49.out).mono ?_);rintro e w' ⟨rfl,⟨nd,rfl⟩⟩;(try first|exact ⟨rfl,_,World.drewN_drewN _ _ _⟩|exact ⟨rfl,_,Eq.trans (World.drewN_drewN _ _ _) (congrArg (World.drewN _) (Nat.add_assoc _ _ _))⟩))|(go_at_call 53;(with_reducible refine (spec_l1In.calls (wrap64 (rd (rd_L1 l0_0 (ji42)) 2)) 1 40 true _ A51.out).mono ?_);rintro e w' ⟨rfl,⟨nd,rfl⟩⟩;(try first|exact ⟨rfl,_,World.drewN_drewN _ _ _⟩|exact ⟨rfl,_,Eq.trans (World.drewN_drewN _ _ _) (congrArg (World.drewN _) (Nat.add_assoc _ _ _))⟩))|(go_at_call 57;(with_reducible refine (spec_l7Rest.calls kj31 _ _ (rd_L1 l0_0 (ji42)) (wrap64 (3 + (wrap64 (rd (rd_L1 l0_0 (ji42)) 2)))) true _ ?side1 ?side2 A55.out).mono ?_);(case side1=>repeat (first|exact (Kd.C_below HR199_0.out (by repeat (first|(with_reducible first|exact HB.out|apply below_alloc|apply pw_below_drewN|apply below_drew1|refine below_set ?_ GE186.out)|exact HB.out)))|(with_reducible first|apply Kd.C_alloc|apply Kd.C_drewN|apply Kd.C_drew)));(case side2=>exact HC199_0.out);rintro e w' ⟨rfl,⟨nd,rfl⟩⟩;(try first|exact ⟨rfl,_,World.drewN_drewN _ _ _⟩|exact ⟨rfl,_,Eq.trans (World.drewN_drewN _ _ _) (congrArg (World.drewN _) (Nat.add_assoc _ _ _))⟩))|((with_reducible refine gate_builtin (b:=.append) (xs:=#[.tmp 119,.tmp 121]) rfl ?_);at_builtin;refine Kd.R_append (Kd.int .i64) (w0:=w) w.heap.size rfl (.tmp 119) (.tmp 121) 24 3 (.int .i64 0) 8 rfl Try.underlying24 info3 rfl (by decide) (by omega) u8 x8_2 (ji42) [.int .i64 (ji42)] (fun _=>True) (fun _=>False) rfl rfl ?aP (fun _ hk=>hk.elim) ?aF ?aO ?aB ?aS ?aL ?_;(case aP=>exact rfl);(case aB=>exact (by repeat (first|(with_reducible first|exact HB.out|apply below_alloc|apply pw_below_drewN|apply below_drew1|refine below_set ?_ GE186.out)|exact HB.out)));(case aF=>exact (fun _ _=>trivial));(case aO=>exact (by (with_reducible repeat (first|apply Kd.R_alloc|apply Kd.R_drewN|apply Kd.R_drew));exact HO_8.out));(case aS=>exact (below_size (by repeat (first|(with_reducible first|exact HB.out|apply below_alloc|apply pw_below_drewN|apply below_drew1|refine below_set ?_ GE186.out)|exact HB.out))));(case aL=>have:=LMc57.out;omega);intro v207 w59 ho hb hg hat;rw [← Ny206.out] at ho;have n0_:=Aside0.mk (blk_grown (g:=gb186) (o:=.cells #[.slice (some ad192) l0_0.length c0_0,.slice A0_1 l0_1.length c0_1,.slice A0_2 l0_2.length c0_2,.slice A0_3 l0_3.length c0_3] 28 (0,0)) (by (with_reducible repeat first|apply blk_drewN|apply blk_drew|apply blk_alloc);exact BK186.out) hg (Kd.R_ne HO_8.out BK186.out (by decide)));have n1_:=Aside0.mk (hb);have n2_:=Aside0.mk (ho);clear BK186;clear HB;clear HO_8;have BK186:=n0_;have HB:=n1_;have HO208:=n2_;clear n0_ n1_ n2_;clear ho hb hg hat));try go_wp2_with (first|(go_at_call 53;(with_reducible refine (spec_l1In.calls (wrap64 (rd (rd_L1 l0_0 (ji42)) 1)) 1 250 true _ A49.out).mono ?_);rintro e w' ⟨rfl,⟨nd,rfl⟩⟩;(try first|exact ⟨rfl,_,World.drewN_drewN _ _ _⟩|exact ⟨rfl,_,Eq.trans (World.drewN_drewN _ _ _) (congrArg (World.drewN _) (Nat.add_assoc _ _ _))⟩))|(go_at_call 53;(with_reducible refine (spec_l1In.calls (wrap64 (rd (rd_L1 l0_0 (ji42)) 2)) 1 40 true _ A51.out).mono ?_);rintro e w' ⟨rfl,⟨nd,rfl⟩⟩;(try first|exact ⟨rfl,_,World.drewN_drewN _ _ _⟩|exact ⟨rfl,_,Eq.trans (World.drewN_drewN _ _ _) (congrArg (World.drewN _) (Nat.add_assoc _ _ _))⟩))|(go_at_call 57;(with_reducible refine (spec_l7Rest.calls kj31 _ _ (rd_L1 l0_0 (ji42)) (wrap64 (3 + (wrap64 (rd (rd_L1 l0_0 (ji42)) 2)))) true _ ?side1 ?side2 A55.out).mono ?_);(case side1=>repeat (first|exact (Kd.C_below HR199_0.out (by repeat (first|(with_reducible first|exact HB.out|apply below_alloc|apply pw_below_drewN|apply below_drew1|refine below_set ?_ GE186.out)|exact HB.out)))|(with_reducible first|apply Kd.C_alloc|apply Kd.C_drewN|apply Kd.C_drew)));(case side2=>exact HC199_0.out);rintro e w' ⟨rfl,⟨nd,rfl⟩⟩;(try first|exact ⟨rfl,_,World.drewN_drewN _ _ _⟩|exact ⟨rfl,_,Eq.trans (World.drewN_drewN _ _ _) (congrArg (World.drewN _) (Nat.add_assoc _ _ _))⟩))|((with_reducible refine gate_builtin (b:=.append) (xs:=#[.tmp 119,.tmp 121]) rfl ?_);at_builtin;refine Kd.R_append (Kd.int .i64) (w0:=w) w.heap.size rfl (.tmp 119) (.tmp 121) 24 3 (.int .i64 0) 8 rfl Try.underlying24 info3 rfl (by decide) (by omega) u8 x8_2 (ji42) [.int .i64 (ji42)] (fun _=>True) (fun _=>False) rfl rfl ?aP (fun _ hk=>hk.elim) ?aF ?aO ?aB ?aS ?aL ?_;(case aP=>exact rfl);(case aB=>exact (by repeat (first|(with_reducible first|exact HB.out|apply below_alloc|apply pw_below_drewN|apply below_drew1|refine below_set ?_ GE186.out)|exact HB.out)));(case aF=>exact (fun _ _=>trivial));(case aO=>exact (by (with_reducible repeat (first|apply Kd.R_alloc|apply Kd.R_drewN|apply Kd.R_drew));exact HO_8.out));(case aS=>exact (below_size (by repeat (first|(with_reducible first|exact HB.out|apply below_alloc|apply pw_below_drewN|apply below_drew1|refine below_set ?_ GE186.out)|exact HB.out))));(case aL=>have:=LMc57.out;omega);intro v207 w59 ho hb hg hat;rw [← Ny206.out] at ho;have n0_:=Aside0.mk (blk_grown (g:=gb186) (o:=.cells #[.slice (some ad192) l0_0.length c0_0,.slice A0_1 l0_1.length c0_1,.slice A0_2 l0_2.length c0_2,.slice A0_3 l0_3.length c0_3] 28 (0,0)) (by (with_reducible repeat first|apply blk_drewN|apply blk_drew|apply blk_alloc);exact BK186.out) hg (Kd.R_ne HO_8.out BK186.out (by decide)));have n1_:=Aside0.mk (hb);have n2_:=Aside0.mk (ho);clear BK186;clear HB;clear HO_8;have BK186:=n0_;have HB:=n1_;have HO208:=n2_;clear n0_ n1_ n2_;clear ho hb hg hat)))
                             go_roundg kj31
                             case measure=>have:=HJ2.out;have:=HK2.out;have:=HJ31.out;omega
                             case rel=>exact ⟨(y206),(wrap64 (x9_2 + 1)),(by first|rfl|(simp;done)|(simp [*];done)),H',⟨by have:=HJ2.out;have:=HK2.out;have:=HJ31.out;omega⟩,⟨by (with_reducible repeat (first|apply Kd.R_alloc|apply Kd.R_drewN|apply Kd.R_drew));exact HO208.out⟩,⟨by (with_reducible repeat first|apply blk_drewN|apply blk_drew|apply blk_alloc);exact BK186.out⟩,⟨by repeat (first|(with_reducible first|exact HB.out|apply below_alloc|apply pw_below_drewN|apply below_drew1|refine below_set ?_ GE186.out)|exact HB.out)⟩⟩
                            ·rw [if_neg c57] at H
                             exact absurd H (by simp)
                           ·replace c56:=Bool.eq_false_iff.mpr c56
                            subst c56
                            have H1 : (some (([] : List Int),false)) = some (r1,r2):=by rw [if_neg (show ¬ (false = true) by decide)] at H;exact H
                            clear H
                            have H:=H1
                            clear H1
                            simp only [Option.some.injEq,Prod.mk.injEq] at H
                            obtain ⟨rfl,rfl⟩:=H
                            have hcz60_0 : wc.cell? ⟨gb186,0,none⟩ = some (.slice (some ad192) l0_0.length c0_0):=(blk_cell BK186.out 0).trans rfl
                            have hcz60_1 : wc.cell? ⟨gb186,1,none⟩ = some (.slice A0_1 l0_1.length c0_1):=(blk_cell BK186.out 1).trans rfl
                            have hcz60_2 : wc.cell? ⟨gb186,2,none⟩ = some (.slice A0_2 l0_2.length c0_2):=(blk_cell BK186.out 2).trans rfl
                            have hcz60_3 : wc.cell? ⟨gb186,3,none⟩ = some (.slice A0_3 l0_3.length c0_3):=(blk_cell BK186.out 3).trans rfl
                            have hfz60_0:=blk_frozen BK186.out 0
                            have hfz60_1:=blk_frozen BK186.out 1
                            have hfz60_2:=blk_frozen BK186.out 2
                            have hfz60_3:=blk_frozen BK186.out 3
                            have p199 : 0 ≤ ((ji42) : Int):=of_decide_eq_true (by assumption)
                            have q199 : (ji42) < (l0_0.length : Int):=of_decide_eq_true (by assumption)
                            obtain ⟨ad199,A199_0,c199_0,e199,hx199_0,hl199_0,hi199_0⟩:=at_L1 HR0_0.out (ji42) p199 q199
                            obtain rfl : ad192 = ad199:=(by injection e199)
                            (try replace hx199_0:=(HB.out.cell (World.block_lt_of_cell? w _ hx199_0)).trans hx199_0)
                            have HR199_0:=Aside0.mk hi199_0
                            have HC199_0:=Aside0.mk hl199_0
                            clear hi199_0 hl199_0
                            replace p199:=eq_true p199
                            replace q199:=eq_true q199
                            have p200 : 0 ≤ (2 : Int):=(by omega)
                            have q200 : 2 < ((rd_L1 l0_0 (ji42)).length : Int):=of_decide_eq_true (by assumption)
                            obtain ⟨ad200,e200,hx200_0⟩:=Kd.at_int HR199_0.out 2 p200 q200
                            cases e200
                            (try simp only [show (2 : Int).toNat = 2 from rfl,Nat.reduceMul,Nat.reduceEqDiff,Go.Addr.add,↓reduceIte] at hx200_0)
                            have qi200 : (2 < (rd_L1 l0_0 (ji42)).length) = True:=eq_true (by omega)
                            (try rw [show ((2 : Int)).toNat = 2 from rfl] at hx200_0)
                            (try replace hx200_0:=(HB.out.cell (World.block_lt_of_cell? w _ hx200_0)).trans hx200_0)
                            replace p200:=eq_true p200
                            replace q200:=eq_true q200
                            have p201 : 0 ≤ (0 : Int):=(by omega)
                            have q201 : 0 < ((rd_L1 l0_0 (ji42)).length : Int):=of_decide_eq_true (by assumption)
                            obtain ⟨ad201,e201,hx201_0⟩:=Kd.at_int HR199_0.out 0 p201 q201
                            obtain rfl : ad200 = ad201:=(by injection e201)
                            have qi201 : (0 < (rd_L1 l0_0 (ji42)).length) = True:=eq_true (by omega)
                            (try rw [show ((0 : Int)).toNat = 0 from rfl] at hx201_0)
                            (try rw [Addr.add_zero'] at hx201_0)
                            (try replace hx201_0:=(HB.out.cell (World.block_lt_of_cell? w _ hx201_0)).trans hx201_0)
                            replace p201:=eq_true p201
                            replace q201:=eq_true q201
                            have p202 : 0 ≤ (1 : Int):=(by omega)
                            have q202 : 1 < ((rd_L1 l0_0 (ji42)).length : Int):=of_decide_eq_true (by assumption)
                            obtain ⟨ad202,e202,hx202_0⟩:=Kd.at_int HR199_0.out 1 p202 q202
                            obtain rfl : ad200 = ad202:=(by injection e202)
                            (try simp only [show (1 : Int).toNat = 1 from rfl,Nat.reduceMul,Nat.reduceEqDiff,Go.Addr.add,↓reduceIte] at hx202_0)
                            have qi202 : (1 < (rd_L1 l0_0 (ji42)).length) = True:=eq_true (by omega)
                            (try rw [show ((1 : Int)).toNat = 1 from rfl] at hx202_0)
                            (try replace hx202_0:=(HB.out.cell (World.block_lt_of_cell? w _ hx202_0)).trans hx202_0)
                            replace p202:=eq_true p202
                            replace q202:=eq_true q202
                            go_wp2_with (first|(go_at_call 53;(with_reducible refine (spec_l1In.calls (wrap64 (rd (rd_L1 l0_0 (ji42)) 1)) 1 250 true _ A49.out).mono ?_);rintro e w' ⟨rfl,⟨nd,rfl⟩⟩;(try first|exact ⟨rfl,_,World.drewN_drewN _ _ _⟩|exact ⟨rfl,_,Eq.trans (World.drewN_drewN _ _ _) (congrArg (World.drewN _) (Nat.add_assoc _ _ _))⟩))|(go_at_call 53;(with_reducible refine (spec_l1In.calls (wrap64 (rd (rd_L1 l0_0 (ji42)) 2)) 1 40 true _ A51.out).mono ?_);rintro e w' ⟨rfl,⟨nd,rfl⟩⟩;(try first|exact ⟨rfl,_,World.drewN_drewN _ _ _⟩|exact ⟨rfl,_,Eq.trans (World.drewN_drewN _ _ _) (congrArg (World.drewN _) (Nat.add_assoc _ _ _))⟩))|(go_at_call 57;(with_reducible refine (spec_l7Rest.calls kj31 _ _ (rd_L1 l0_0 (ji42)) (wrap64 (3 + (wrap64 (rd (rd_L1 l0_0 (ji42)) 2)))) false _ ?side1 ?side2 A55.out).mono ?_);(case side1=>repeat (first|exact (Kd.C_below HR199_0.out (by repeat (first|(with_reducible first|exact HB.out|apply below_alloc|apply pw_below_drewN|apply below_drew1|refine below_set ?_ GE186.out)|exact HB.out)))|(with_reducible first|apply Kd.C_alloc|apply Kd.C_drewN|apply Kd.C_drew)));(case side2=>exact HC199_0.out);rintro e w' ⟨rfl,⟨nd,rfl⟩⟩;(try first|exact ⟨rfl,_,World.drewN_drewN _ _ _⟩|exact ⟨rfl,_,Eq.trans (World.drewN_drewN _ _ _) (congrArg (World.drewN _) (Nat.add_assoc _ _ _))⟩)))
                            have hwq : ∀ n,IntKind.i64.wrap n = wrap64 n:=fun n=>by rw [IntKind.wrap_i64];unfold wrap64;first|rfl|omega
                            repeat (go_quiet (first|(go_at_call 53;(with_reducible refine (spec_l1In.calls (wrap64 (rd (rd_L1 l0_0 (ji42)) 1)) 1 250 true _ A49.out).mono ?_);rintro e w' ⟨rfl,⟨nd,rfl⟩⟩;(try first|exact ⟨rfl,_,World.drewN_drewN _ _ _⟩|exact ⟨rfl,_,Eq.trans (World.drewN_drewN _ _ _) (congrArg (World.drewN _) (Nat.add_assoc _ _ _))⟩))|(go_at_call 53;(with_reducible refine (spec_l1In.calls (wrap64 (rd (rd_L1 l0_0 (ji42)) 2)) 1 40 true _ A51.out).mono ?_);rintro e w' ⟨rfl,⟨nd,rfl⟩⟩;(try first|exact ⟨rfl,_,World.drewN_drewN _ _ _⟩|exact ⟨rfl,_,Eq.trans (World.drewN_drewN _ _ _) (congrArg (World.drewN _) (Nat.add_assoc _ _ _))⟩))|(go_at_call 57;(with_reducible refine (spec_l7Rest.calls kj31 _ _ (rd_L1 l0_0 (ji42)) (wrap64 (3 + (wrap64 (rd (rd_L1 l0_0 (ji42)) 2)))) false _ ?side1 ?side2 A55.out).mono ?_);(case side1=>repeat (first|exact (Kd.C_below HR199_0.out (by repeat (first|(with_reducible first|exact HB.out|apply below_alloc|apply pw_below_drewN|apply below_drew1|refine below_set ?_ GE186.out)|exact HB.out)))|(with_reducible first|apply Kd.C_alloc|apply Kd.C_drewN|apply Kd.C_drew)));(case side2=>exact HC199_0.out);rintro e w' ⟨rfl,⟨nd,rfl⟩⟩;(try first|exact ⟨rfl,_,World.drewN_drewN _ _ _⟩|exact ⟨rfl,_,Eq.trans (World.drewN_drewN _ _ _) (congrArg (World.drewN _) (Nat.add_assoc _ _ _))⟩)));try go_wp2_with (first|(go_at_call 53;(with_reducible refine (spec_l1In.calls (wrap64 (rd (rd_L1 l0_0 (ji42)) 1)) 1 250 true _ A49.out).mono ?_);rintro e w' ⟨rfl,⟨nd,rfl⟩⟩;(try first|exact ⟨rfl,_,World.drewN_drewN _ _ _⟩|exact ⟨rfl,_,Eq.trans (World.drewN_drewN _ _ _) (congrArg (World.drewN _) (Nat.add_assoc _ _ _))⟩))|(go_at_call 53;(with_reducible refine (spec_l1In.calls (wrap64 (rd (rd_L1 l0_0 (ji42)) 2)) 1 40 true _ A51.out).mono ?_);rintro e w' ⟨rfl,⟨nd,rfl⟩⟩;(try first|exact ⟨rfl,_,World.drewN_drewN _ _ _⟩|exact ⟨rfl,_,Eq.trans (World.drewN_drewN _ _ _) (congrArg (World.drewN _) (Nat.add_assoc _ _ _))⟩))|(go_at_call 57;(with_reducible refine (spec_l7Rest.calls kj31 _ _ (rd_L1 l0_0 (ji42)) (wrap64 (3 + (wrap64 (rd (rd_L1 l0_0 (ji42)) 2)))) false _ ?side1 ?side2 A55.out).mono ?_);(case side1=>repeat (first|exact (Kd.C_below HR199_0.out (by repeat (first|(with_reducible first|exact HB.out|apply below_alloc|apply pw_below_drewN|apply below_drew1|refine below_set ?_ GE186.out)|exact HB.out)))|(with_reducible first|apply Kd.C_alloc|apply Kd.C_drewN|apply Kd.C_drew)));(case side2=>exact HC199_0.out);rintro e w' ⟨rfl,⟨nd,rfl⟩⟩;(try first|exact ⟨rfl,_,World.drewN_drewN _ _ _⟩|exact ⟨rfl,_,Eq.trans (World.drewN_drewN _ _ _) (congrArg (World.drewN _) (Nat.add_assoc _ _ _))⟩))))
                            go_ret2
                            exact ⟨_,by first|rfl|(simp [errW_none,errW_some] <;> rfl)|(simp only [← hji26,← hji29,← hji42];first|rfl|(simp [errW_none,errW_some] <;> rfl))|(simp [*,errW_none,errW_some] <;> rfl),by first|exact Kd.R_nil _ _ _ _ _|exact Kd.N_nil _ _ _ _ _|exact Kd.V_nil _ _ _ _ _|exact Kd.Q_nil _ _ _ _ _|exact Kd.S_nil _ _ _ _ _,by repeat (first|(with_reducible first|exact HB.out|apply below_alloc|apply pw_below_drewN|apply below_drew1|refine below_set ?_ GE186.out)|exact HB.out)⟩
                          ·rw [if_neg c54] at H
                           have c54b0 : ((wrap64 (rd (rd_L1 l0_0 (ji42)) 2)) == 40) = false:=beq_eq_false_iff_ne.mpr c54
                           have c54b1 : ((wrap64 (rd (rd_L1 l0_0 (ji42)) 2)) != 40) = true:=bne_iff_ne.mpr c54
                           simp only [Option.some.injEq,Prod.mk.injEq] at H
                           obtain ⟨rfl,rfl⟩:=H
                           have hcz61_0 : wc.cell? ⟨gb186,0,none⟩ = some (.slice (some ad192) l0_0.length c0_0):=(blk_cell BK186.out 0).trans rfl
                           have hcz61_1 : wc.cell? ⟨gb186,1,none⟩ = some (.slice A0_1 l0_1.length c0_1):=(blk_cell BK186.out 1).trans rfl
                           have hcz61_2 : wc.cell? ⟨gb186,2,none⟩ = some (.slice A0_2 l0_2.length c0_2):=(blk_cell BK186.out 2).trans rfl
                           have hcz61_3 : wc.cell? ⟨gb186,3,none⟩ = some (.slice A0_3 l0_3.length c0_3):=(blk_cell BK186.out 3).trans rfl
                           have hfz61_0:=blk_frozen BK186.out 0
                           have hfz61_1:=blk_frozen BK186.out 1
                           have hfz61_2:=blk_frozen BK186.out 2
                           have hfz61_3:=blk_frozen BK186.out 3
                           have p199 : 0 ≤ ((ji42) : Int):=of_decide_eq_true (by assumption)
                           have q199 : (ji42) < (l0_0.length : Int):=of_decide_eq_true (by assumption)
                           obtain ⟨ad199,A199_0,c199_0,e199,hx199_0,hl199_0,hi199_0⟩:=at_L1 HR0_0.out (ji42) p199 q199
                           obtain rfl : ad192 = ad199:=(by injection e199)
                           (try replace hx199_0:=(HB.out.cell (World.block_lt_of_cell? w _ hx199_0)).trans hx199_0)
                           have HR199_0:=Aside0.mk hi199_0
                           have HC199_0:=Aside0.mk hl199_0
                           clear hi199_0 hl199_0
                           replace p199:=eq_true p199
                           replace q199:=eq_true q199
                           have p200 : 0 ≤ (2 : Int):=(by omega)
                           have q200 : 2 < ((rd_L1 l0_0 (ji42)).length : Int):=of_decide_eq_true (by assumption)
                           obtain ⟨ad200,e200,hx200_0⟩:=Kd.at_int HR199_0.out 2 p200 q200
                           cases e200
                           (try simp only [show (2 : Int).toNat = 2 from rfl,Nat.reduceMul,Nat.reduceEqDiff,Go.Addr.add,↓reduceIte] at hx200_0)
                           have qi200 : (2 < (rd_L1 l0_0 (ji42)).length) = True:=eq_true (by omega)
                           (try rw [show ((2 : Int)).toNat = 2 from rfl] at hx200_0)
                           (try replace hx200_0:=(HB.out.cell (World.block_lt_of_cell? w _ hx200_0)).trans hx200_0)
                           replace p200:=eq_true p200
                           replace q200:=eq_true q200
                           have p201 : 0 ≤ (0 : Int):=(by omega)
                           have q201 : 0 < ((rd_L1 l0_0 (ji42)).length : Int):=of_decide_eq_true (by assumption)
                           obtain ⟨ad201,e201,hx201_0⟩:=Kd.at_int HR199_0.out 0 p201 q201
                           obtain rfl : ad200 = ad201:=(by injection e201)
                           have qi201 : (0 < (rd_L1 l0_0 (ji42)).length) = True:=eq_true (by omega)
                           (try rw [show ((0 : Int)).toNat = 0 from rfl] at hx201_0)
                           (try rw [Addr.add_zero'] at hx201_0)
                           (try replace hx201_0:=(HB.out.cell (World.block_lt_of_cell? w _ hx201_0)).trans hx201_0)
                           replace p201:=eq_true p201
                           replace q201:=eq_true q201
                           have p202 : 0 ≤ (1 : Int):=(by omega)
                           have q202 : 1 < ((rd_L1 l0_0 (ji42)).length : Int):=of_decide_eq_true (by assumption)
                           obtain ⟨ad202,e202,hx202_0⟩:=Kd.at_int HR199_0.out 1 p202 q202
                           obtain rfl : ad200 = ad202:=(by injection e202)
                           (try simp only [show (1 : Int).toNat = 1 from rfl,Nat.reduceMul,Nat.reduceEqDiff,Go.Addr.add,↓reduceIte] at hx202_0)
                           have qi202 : (1 < (rd_L1 l0_0 (ji42)).length) = True:=eq_true (by omega)
                           (try rw [show ((1 : Int)).toNat = 1 from rfl] at hx202_0)
                           (try replace hx202_0:=(HB.out.cell (World.block_lt_of_cell? w _ hx202_0)).trans hx202_0)
                           replace p202:=eq_true p202
                           replace q202:=eq_true q202
                           go_wp2_with (first|(go_at_call 53;(with_reducible refine (spec_l1In.calls (wrap64 (rd (rd_L1 l0_0 (ji42)) 1)) 1 250 true _ A49.out).mono ?_);rintro e w' ⟨rfl,⟨nd,rfl⟩⟩;(try first|exact ⟨rfl,_,World.drewN_drewN _ _ _⟩|exact ⟨rfl,_,Eq.trans (World.drewN_drewN _ _ _) (congrArg (World.drewN _) (Nat.add_assoc _ _ _))⟩))|(go_at_call 53;(with_reducible refine (spec_l1In.calls (wrap64 (rd (rd_L1 l0_0 (ji42)) 2)) 1 40 true _ A51.out).mono ?_);rintro e w' ⟨rfl,⟨nd,rfl⟩⟩;(try first|exact ⟨rfl,_,World.drewN_drewN _ _ _⟩|exact ⟨rfl,_,Eq.trans (World.drewN_drewN _ _ _) (congrArg (World.drewN _) (Nat.add_assoc _ _ _))⟩)))
                           have hwq : ∀ n,IntKind.i64.wrap n = wrap64 n:=fun n=>by rw [IntKind.wrap_i64];unfold wrap64;first|rfl|omega
                           repeat (go_quiet (first|(go_at_call 53;(with_reducible refine (spec_l1In.calls (wrap64 (rd (rd_L1 l0_0 (ji42)) 1)) 1 250 true _ A49.out).mono ?_);rintro e w' ⟨rfl,⟨nd,rfl⟩⟩;(try first|exact ⟨rfl,_,World.drewN_drewN _ _ _⟩|exact ⟨rfl,_,Eq.trans (World.drewN_drewN _ _ _) (congrArg (World.drewN _) (Nat.add_assoc _ _ _))⟩))|(go_at_call 53;(with_reducible refine (spec_l1In.calls (wrap64 (rd (rd_L1 l0_0 (ji42)) 2)) 1 40 true _ A51.out).mono ?_);rintro e w' ⟨rfl,⟨nd,rfl⟩⟩;(try first|exact ⟨rfl,_,World.drewN_drewN _ _ _⟩|exact ⟨rfl,_,Eq.trans (World.drewN_drewN _ _ _) (congrArg (World.drewN _) (Nat.add_assoc _ _ _))⟩)));try go_wp2_with (first|(go_at_call 53;(with_reducible refine (spec_l1In.calls (wrap64 (rd (rd_L1 l0_0 (ji42)) 1)) 1 250 true _ A49.out).mono ?_);rintro e w' ⟨rfl,⟨nd,rfl⟩⟩;(try first|exact ⟨rfl,_,World.drewN_drewN _ _ _⟩|exact ⟨rfl,_,Eq.trans (World.drewN_drewN _ _ _) (congrArg (World.drewN _) (Nat.add_assoc _ _ _))⟩))|(go_at_call 53;(with_reducible refine (spec_l1In.calls (wrap64 (rd (rd_L1 l0_0 (ji42)) 2)) 1 40 true _ A51.out).mono ?_);rintro e w' ⟨rfl,⟨nd,rfl⟩⟩;(try first|exact ⟨rfl,_,World.drewN_drewN _ _ _⟩|exact ⟨rfl,_,Eq.trans (World.drewN_drewN _ _ _) (congrArg (World.drewN _) (Nat.add_assoc _ _ _))⟩))))
                           go_ret2
                           exact ⟨_,by first|rfl|(simp [errW_none,errW_some] <;> rfl)|(simp only [← hji26,← hji29,← hji42];first|rfl|(simp [errW_none,errW_some] <;> rfl))|(simp [*,errW_none,errW_some] <;> rfl),by first|exact Kd.R_nil _ _ _ _ _|exact Kd.N_nil _ _ _ _ _|exact Kd.V_nil _ _ _ _ _|exact Kd.Q_nil _ _ _ _ _|exact Kd.S_nil _ _ _ _ _,by repeat (first|(with_reducible first|exact HB.out|apply below_alloc|apply pw_below_drewN|apply below_drew1|refine below_set ?_ GE186.out)|exact HB.out)⟩
                         ·rw [if_neg c53] at H
                          have c53b0 : decide (x9_2 < (wrap64 ((wrap64 (rd (rd_L1 l0_0 a1) 1)) - 1))) = false:=decide_eq_false c53
                          clear c53
                          replace H:=Option.bind_eq_some_iff.mp H
                          obtain ⟨t209,A620,H⟩:=H
                          replace H : (if t209 = true then (if x8_2.length < 17592186044416 then (spec_l7Pieces.l0 kj31 (rd_L1 l0_0 a1) (wrap64 (rd (rd_L1 l0_0 a1) 1)) (x8_2 ++ [(ji42)]) (wrap64 (x9_2 + 1)) l0_0 l0_1 l0_2 l0_3) else (none)) else (some (([] : List Int),false))) = some (r1,r2):=H
                          have A62:=Aside0.mk A620
                          clear A620
                          by_cases c63 : t209 = true
                          ·subst c63
                           have H1 : (if x8_2.length < 17592186044416 then (spec_l7Pieces.l0 kj31 (rd_L1 l0_0 a1) (wrap64 (rd (rd_L1 l0_0 a1) 1)) (x8_2 ++ [(ji42)]) (wrap64 (x9_2 + 1)) l0_0 l0_1 l0_2 l0_3) else (none)) = some (r1,r2):=by rw [if_pos rfl] at H;exact H
                           clear H
                           have H:=H1
                           clear H1
                           by_cases c64 : x8_2.length < 17592186044416
                           ·rw [if_pos c64] at H
                            have LMc64:=Aside0.mk c64
                            clear c64
                            obtain ⟨y210,hy210⟩ : ∃ y_ : List Int,y_ = (x8_2 ++ [(ji42)]):=⟨_,rfl⟩
                            replace H : (spec_l7Pieces.l0 kj31 (rd_L1 l0_0 a1) (wrap64 (rd (rd_L1 l0_0 a1) 1)) y210 (wrap64 (x9_2 + 1)) l0_0 l0_1 l0_2 l0_3) = some (r1,r2):=by first|(rw [hy210];with_reducible exact H)|(have H2_:=(Option.bind_some _ _).symm.trans H;rw [hy210];with_reducible exact H2_)|(have H2_:=(Option.bind_some _ _).symm.trans H;with_reducible exact H2_)|with_reducible exact H|(rw [hy210];exact H)|exact H
                            have Ny210:=Aside0.mk hy210
                            clear hy210
                            have H':=Aside0.mk H
                            clear H
                            have hcz65_0 : wc.cell? ⟨gb186,0,none⟩ = some (.slice (some ad192) l0_0.length c0_0):=(blk_cell BK186.out 0).trans rfl
                            have hcz65_1 : wc.cell? ⟨gb186,1,none⟩ = some (.slice A0_1 l0_1.length c0_1):=(blk_cell BK186.out 1).trans rfl
                            have hcz65_2 : wc.cell? ⟨gb186,2,none⟩ = some (.slice A0_2 l0_2.length c0_2):=(blk_cell BK186.out 2).trans rfl
                            have hcz65_3 : wc.cell? ⟨gb186,3,none⟩ = some (.slice A0_3 l0_3.length c0_3):=(blk_cell BK186.out 3).trans rfl
                            have hfz65_0:=blk_frozen BK186.out 0
                            have hfz65_1:=blk_frozen BK186.out 1
                            have hfz65_2:=blk_frozen BK186.out 2
                            have hfz65_3:=blk_frozen BK186.out 3
                            have p199 : 0 ≤ ((ji42) : Int):=of_decide_eq_true (by assumption)
                            have q199 : (ji42) < (l0_0.length : Int):=of_decide_eq_true (by assumption)
                            obtain ⟨ad199,A199_0,c199_0,e199,hx199_0,hl199_0,hi199_0⟩:=at_L1 HR0_0.out (ji42) p199 q199
                            obtain rfl : ad192 = ad199:=(by injection e199)
                            (try replace hx199_0:=(HB.out.cell (World.block_lt_of_cell? w _ hx199_0)).trans hx199_0)
                            have HR199_0:=Aside0.mk hi199_0
                            have HC199_0:=Aside0.mk hl199_0
                            clear hi199_0 hl199_0
                            replace p199:=eq_true p199
                            replace q199:=eq_true q199
                            have p200 : 0 ≤ (2 : Int):=(by omega)
                            have q200 : 2 < ((rd_L1 l0_0 (ji42)).length : Int):=of_decide_eq_true (by assumption)
                            obtain ⟨ad200,e200,hx200_0⟩:=Kd.at_int HR199_0.out 2 p200 q200
                            cases e200
                            (try simp only [show (2 : Int).toNat = 2 from rfl,Nat.reduceMul,Nat.reduceEqDiff,Go.Addr.add,↓reduceIte] at hx200_0)
                            have qi200 : (2 < (rd_L1 l0_0 (ji42)).length) = True:=eq_true (by omega)
                            (try rw [show ((2 : Int)).toNat = 2 from rfl] at hx200_0)
                            (try replace hx200_0:=(HB.out.cell (World.block_lt_of_cell? w _ hx200_0)).trans hx200_0)
                            replace p200:=eq_true p200
                            replace q200:=eq_true q200
                            have p201 : 0 ≤ (0 : Int):=(by omega)
                            have q201 : 0 < ((rd_L1 l0_0 (ji42)).length : Int):=of_decide_eq_true (by assumption)
                            obtain ⟨ad201,e201,hx201_0⟩:=Kd.at_int HR199_0.out 0 p201 q201
                            obtain rfl : ad200 = ad201:=(by injection e201)
                            have qi201 : (0 < (rd_L1 l0_0 (ji42)).length) = True:=eq_true (by omega)
                            (try rw [show ((0 : Int)).toNat = 0 from rfl] at hx201_0)
                            (try rw [Addr.add_zero'] at hx201_0)
                            (try replace hx201_0:=(HB.out.cell (World.block_lt_of_cell? w _ hx201_0)).trans hx201_0)
                            replace p201:=eq_true p201
                            replace q201:=eq_true q201
                            have p202 : 0 ≤ (1 : Int):=(by omega)
                            have q202 : 1 < ((rd_L1 l0_0 (ji42)).length : Int):=of_decide_eq_true (by assumption)
                            obtain ⟨ad202,e202,hx202_0⟩:=Kd.at_int HR199_0.out 1 p202 q202
                            obtain rfl : ad200 = ad202:=(by injection e202)
                            (try simp only [show (1 : Int).toNat = 1 from rfl,Nat.reduceMul,Nat.reduceEqDiff,Go.Addr.add,↓reduceIte] at hx202_0)
                            have qi202 : (1 < (rd_L1 l0_0 (ji42)).length) = True:=eq_true (by omega)
                            (try rw [show ((1 : Int)).toNat = 1 from rfl] at hx202_0)
                            (try replace hx202_0:=(HB.out.cell (World.block_lt_of_cell? w _ hx202_0)).trans hx202_0)
                            replace p202:=eq_true p202
                            replace q202:=eq_true q202
                            go_wp2_with (first|(go_at_call 53;(with_reducible refine (spec_l1In.calls (wrap64 (rd (rd_L1 l0_0 (ji42)) 1)) 1 250 true _ A49.out).mono ?_);rintro e w' ⟨rfl,⟨nd,rfl⟩⟩;(try first|exact ⟨rfl,_,World.drewN_drewN _ _ _⟩|exact ⟨rfl,_,Eq.trans (World.drewN_drewN _ _ _) (congrArg (World.drewN _) (Nat.add_assoc _ _ _))⟩))|(go_at_call 53;(with_reducible refine (spec_l1In.calls (wrap64 (rd (rd_L1 l0_0 (ji42)) 2)) 1 40 true _ A51.out).mono ?_);rintro e w' ⟨rfl,⟨nd,rfl⟩⟩;(try first|exact ⟨rfl,_,World.drewN_drewN _ _ _⟩|exact ⟨rfl,_,Eq.trans (World.drewN_drewN _ _ _) (congrArg (World.drewN _) (Nat.add_assoc _ _ _))⟩))|(go_at_call 57;(with_reducible refine (spec_l7Rest.calls kj31 _ _ (rd_L1 l0_0 (ji42)) (wrap64 (3 + (wrap64 (rd (rd_L1 l0_0 (ji42)) 2)))) true _ ?side1 ?side2 A62.out).mono ?_);(case side1=>repeat (first|exact (Kd.C_below HR199_0.out (by repeat (first|(with_reducible first|exact HB.out|apply below_alloc|apply pw_below_drewN|apply below_drew1|refine below_set ?_ GE186.out)|exact HB.out)))|(with_reducible first|apply Kd.C_alloc|apply Kd.C_drewN|apply Kd.C_drew)));(case side2=>exact HC199_0.out);rintro e w' ⟨rfl,⟨nd,rfl⟩⟩;(try first|exact ⟨rfl,_,World.drewN_drewN _ _ _⟩|exact ⟨rfl,_,Eq.trans (World.drewN_drewN _ _ _) (congrArg (World.drewN _) (Nat.add_assoc _ _ _))⟩))|((with_reducible refine gate_builtin (b:=.append) (xs:=#[.tmp 119,.tmp 121]) rfl ?_);at_builtin;refine Kd.R_append (Kd.int .i64) (w0:=w) w.heap.size rfl (.tmp 119) (.tmp 121) 24 3 (.int .i64 0) 8 rfl Try.underlying24 info3 rfl (by decide) (by omega) u8 x8_2 (ji42) [.int .i64 (ji42)] (fun _=>True) (fun _=>False) rfl rfl ?aP (fun _ hk=>hk.elim) ?aF ?aO ?aB ?aS ?aL ?_;(case aP=>exact rfl);(case aB=>exact (by repeat (first|(with_reducible first|exact HB.out|apply below_alloc|apply pw_below_drewN|apply below_drew1|refine below_set ?_ GE186.out)|exact HB.out)));(case aF=>exact (fun _ _=>trivial));(case aO=>exact (by (with_reducible repeat (first|apply Kd.R_alloc|apply Kd.R_drewN|apply Kd.R_drew));exact HO_8.out));(case aS=>exact (below_size (by repeat (first|(with_reducible first|exact HB.out|apply below_alloc|apply pw_below_drewN|apply below_drew1|refine below_set ?_ GE186.out)|exact HB.out))));(case aL=>have:=LMc64.out;omega);intro v211 w66 ho hb hg hat;rw [← Ny210.out] at ho;have n0_:=Aside0.mk (blk_grown (g:=gb186) (o:=.cells #[.slice (some ad192) l0_0.length c0_0,.slice A0_1 l0_1.length c0_1,.slice A0_2 l0_2.length c0_2,.slice A0_3 l0_3.length c0_3] 28 (0,0)) (by (with_reducible repeat first|apply blk_drewN|apply blk_drew|apply blk_alloc);exact BK186.out) hg (Kd.R_ne HO_8.out BK186.out (by decide)));have n1_:=Aside0.mk (hb);have n2_:=Aside0.mk (ho);clear BK186;clear HB;clear HO_8;have BK186:=n0_;have HB:=n1_;have HO212:=n2_;clear n0_ n1_ n2_;clear ho hb hg hat))
                            have hwq : ∀ n,IntKind.i64.wrap n = wrap64 n:=fun n=>by rw [IntKind.wrap_i64];unfold wrap64;first|rfl|omega
                            repeat (go_quiet (first|(go_at_call 53;(with_reducible refine (spec_l1In.calls (wrap64 (rd (rd_L1 l0_0 (ji42)) 1)) 1 250 true _ A49.out).mono ?_);rintro e w' ⟨rfl,⟨nd,rfl⟩⟩;(try first|exact ⟨rfl,_,World.drewN_drewN _ _ _⟩|exact ⟨rfl,_,Eq.trans (World.drewN_drewN _ _ _) (congrArg (World.drewN _) (Nat.add_assoc _ _ _))⟩))|(go_at_call 53;(with_reducible refine (spec_l1In.calls (wrap64 (rd (rd_L1 l0_0 (ji42)) 2)) 1 40 true _ A51.out).mono ?_);rintro e w' ⟨rfl,⟨nd,rfl⟩⟩;(try first|exact ⟨rfl,_,World.drewN_drewN _ _ _⟩|exact ⟨rfl,_,Eq.trans (World.drewN_drewN _ _ _) (congrArg (World.drewN _) (Nat.add_assoc _ _ _))⟩))|(go_at_call 57;(with_reducible refine (spec_l7Rest.calls kj31 _ _ (rd_L1 l0_0 (ji42)) (wrap64 (3 + (wrap64 (rd (rd_L1 l0_0 (ji42)) 2)))) true _ ?side1 ?side2 A62.out).mono ?_);(case side1=>repeat (first|exact (Kd.C_below HR199_0.out (by repeat (first|(with_reducible first|exact HB.out|apply below_alloc|apply pw_below_drewN|apply below_drew1|refine below_set ?_ GE186.out)|exact HB.out)))|(with_reducible first|apply Kd.C_alloc|apply Kd.C_drewN|apply Kd.C_drew)));(case side2=>exact HC199_0.out);rintro e w' ⟨rfl,⟨nd,rfl⟩⟩;(try first|exact ⟨rfl,_,World.drewN_drewN _ _ _⟩|exact ⟨rfl,_,Eq.trans (World.drewN_drewN _ _ _) (congrArg (World.drewN _) (Nat.add_assoc _ _ _))⟩))|((with_reducible refine gate_builtin (b:=.append) (xs:=#[.tmp 119,.tmp 121]) rfl ?_);at_builtin;refine Kd.R_append (Kd.int .i64) (w0:=w) w.heap.size rfl (.tmp 119) (.tmp 121) 24 3 (.int .i64 0) 8 rfl Try.underlying24 info3 rfl (by decide) (by omega) u8 x8_2 (ji42) [.int .i64 (ji42)] (fun _=>True) (fun _=>False) rfl rfl ?aP (fun _ hk=>hk.elim) ?aF ?aO ?aB ?aS ?aL ?_;(case aP=>exact rfl);(case aB=>exact (by repeat (first|(with_reducible first|exact HB.out|apply below_alloc|apply pw_below_drewN|apply below_drew1|refine below_set ?_ GE186.out)|exact HB.out)));(case aF=>exact (fun _ _=>trivial));(case aO=>exact (by (with_reducible repeat (first|apply Kd.R_alloc|apply Kd.R_drewN|apply Kd.R_drew));exact HO_8.out));(case aS=>exact (below_size (by repeat (first|(with_reducible first|exact HB.out|apply below_alloc|apply pw_below_drewN|apply below_drew1|refine below_set ?_ GE186.out)|exact HB.out))));(case aL=>have:=LMc64.out;omega);intro v211 w66 ho hb hg hat;rw [← Ny210.out] at ho;have n0_:=Aside0.mk (blk_grown (g:=gb186) (o:=.cells #[.slice (some ad192) l0_0.length c0_0,.slice A0_1 l0_1.length c0_1,.slice A0_2 l0_2.length c0_2,.slice A0_3 l0_3.length c0_3] 28 (0,0)) (by (with_reducible repeat first|apply blk_drewN|apply blk_drew|apply blk_alloc);exact BK186.out) hg (Kd.R_ne HO_8.out BK186.out (by decide)));have n1_:=Aside0.mk (hb);have n2_:=Aside0.mk (ho);clear BK186;clear HB;clear HO_8;have BK186:=n0_;have HB:=n1_;have HO212:=n2_;clear n0_ n1_ n2_;clear ho hb hg hat));try go_wp2_with (first|(go_at_call 53;(with_reducible refine (spec_l1In.calls (wrap64 (rd (rd_L1 l0_0 (ji42)) 1)) 1 250 true _ A49.out).mono ?_);rintro e w' ⟨rfl,⟨nd,rfl⟩⟩;(try first|exact ⟨rfl,_,World.drewN_drewN _ _ _⟩|exact ⟨rfl,_,Eq.trans (World.drewN_drewN _ _ _) (congrArg (World.drewN _) (Nat.add_assoc _ _ _))⟩))|(go_at_call 53;(with_reducible refine (spec_l1In.calls (wrap64 (rd (rd_L1 l0_0 (ji42)) 2)) 1 40 true _ A51.out).mono ?_);rintro e w' ⟨rfl,⟨nd,rfl⟩⟩;(try first|exact ⟨rfl,_,World.drewN_drewN _ _ _⟩|exact ⟨rfl,_,Eq.trans (World.drewN_drewN _ _ _) (congrArg (World.drewN _) (Nat.add_assoc _ _ _))⟩))|(go_at_call 57;(with_reducible refine (spec_l7Rest.calls kj31 _ _ (rd_L1 l0_0 (ji42)) (wrap64 (3 + (wrap64 (rd (rd_L1 l0_0 (ji42)) 2)))) true _ ?side1 ?side2 A62.out).mono ?_);(case side1=>repeat (first|exact (Kd.C_below HR199_0.out (by repeat (first|(with_reducible first|exact HB.out|apply below_alloc|apply pw_below_drewN|apply below_drew1|refine below_set ?_ GE186.out)|exact HB.out)))|(with_reducible first|apply Kd.C_alloc|apply Kd.C_drewN|apply Kd.C_drew)));(case side2=>exact HC199_0.out);rintro e w' ⟨rfl,⟨nd,rfl⟩⟩;(try first|exact ⟨rfl,_,World.drewN_drewN _ _ _⟩|exact ⟨rfl,_,Eq.trans (World.drewN_drewN _ _ _) (congrArg (World.drewN _) (Nat.add_assoc _ _ _))⟩))|((with_reducible refine gate_builtin (b:=.append) (xs:=#[.tmp 119,.tmp 121]) rfl ?_);at_builtin;refine Kd.R_append (Kd.int .i64) (w0:=w) w.heap.size rfl (.tmp 119) (.tmp 121) 24 3 (.int .i64 0) 8 rfl Try.underlying24 info3 rfl (by decide) (by omega) u8 x8_2 (ji42) [.int .i64 (ji42)] (fun _=>True) (fun _=>False) rfl rfl ?aP (fun _ hk=>hk.elim) ?aF ?aO ?aB ?aS ?aL ?_;(case aP=>exact rfl);(case aB=>exact (by repeat (first|(with_reducible first|exact HB.out|apply below_alloc|apply pw_below_drewN|apply below_drew1|refine below_set ?_ GE186.out)|exact HB.out)));(case aF=>exact (fun _ _=>trivial));(case aO=>exact (by (with_reducible repeat (first|apply Kd.R_alloc|apply Kd.R_drewN|apply Kd.R_drew));exact HO_8.out));(case aS=>exact (below_size (by repeat (first|(with_reducible first|exact HB.out|apply below_alloc|apply pw_below_drewN|apply below_drew1|refine below_set ?_ GE186.out)|exact HB.out))));(case aL=>have:=LMc64.out;omega);intro v211 w66 ho hb hg hat;rw [← Ny210.out] at ho;have n0_:=Aside0.mk (blk_grown (g:=gb186) (o:=.cells #[.slice (some ad192) l0_0.length c0_0,.slice A0_1 l0_1.length c0_1,.slice A0_2 l0_2.length c0_2,.slice A0_3 l0_3.length c0_3] 28 (0,0)) (by (with_reducible repeat first|apply blk_drewN|apply blk_drew|apply blk_alloc);exact BK186.out) hg (Kd.R_ne HO_8.out BK186.out (by decide)));have n1_:=Aside0.mk (hb);have n2_:=Aside0.mk (ho);clear BK186;clear HB;clear HO_8;have BK186:=n0_;have HB:=n1_;have HO212:=n2_;clear n0_ n1_ n2_;clear ho hb hg hat)))
                            go_roundg kj31
                            case measure=>have:=HJ2.out;have:=HK2.out;have:=HJ31.out;omega
                            case rel=>exact ⟨(y210),(wrap64 (x9_2 + 1)),(by first|rfl|(simp;done)|(simp [*];done)),H',⟨by have:=HJ2.out;have:=HK2.out;have:=HJ31.out;omega⟩,⟨by (with_reducible repeat (first|apply Kd.R_alloc|apply Kd.R_drewN|apply Kd.R_drew));exact HO212.out⟩,⟨by (with_reducible repeat first|apply blk_drewN|apply blk_drew|apply blk_alloc);exact BK186.out⟩,⟨by repeat (first|(with_reducible first|exact HB.out|apply below_alloc|apply pw_below_drewN|apply below_drew1|refine below_set ?_ GE186.out)|exact HB.out)⟩⟩
                           ·rw [if_neg c64] at H
                            exact absurd H (by simp)
                          ·replace c63:=Bool.eq_false_iff.mpr c63
                           subst c63
                           have H1 : (some (([] : List Int),false)) = some (r1,r2):=by rw [if_neg (show ¬ (false = true) by decide)] at H;exact H
                           clear H
                           have H:=H1
                           clear H1
                           simp only [Option.some.injEq,Prod.mk.injEq] at H
                           obtain ⟨rfl,rfl⟩:=H
                           have hcz67_0 : wc.cell? ⟨gb186,0,none⟩ = some (.slice (some ad192) l0_0.length c0_0):=(blk_cell BK186.out 0).trans rfl
                           have hcz67_1 : wc.cell? ⟨gb186,1,none⟩ = some (.slice A0_1 l0_1.length c0_1):=(blk_cell BK186.out 1).trans rfl
                           have hcz67_2 : wc.cell? ⟨gb186,2,none⟩ = some (.slice A0_2 l0_2.length c0_2):=(blk_cell BK186.out 2).trans rfl
                           have hcz67_3 : wc.cell? ⟨gb186,3,none⟩ = some (.slice A0_3 l0_3.length c0_3):=(blk_cell BK186.out 3).trans rfl
                           have hfz67_0:=blk_frozen BK186.out 0
                           have hfz67_1:=blk_frozen BK186.out 1
                           have hfz67_2:=blk_frozen BK186.out 2
                           have hfz67_3:=blk_frozen BK186.out 3
                           have p199 : 0 ≤ ((ji42) : Int):=of_decide_eq_true (by assumption)
                           have q199 : (ji42) < (l0_0.length : Int):=of_decide_eq_true (by assumption)
                           obtain ⟨ad199,A199_0,c199_0,e199,hx199_0,hl199_0,hi199_0⟩:=at_L1 HR0_0.out (ji42) p199 q199
                           obtain rfl : ad192 = ad199:=(by injection e199)
                           (try replace hx199_0:=(HB.out.cell (World.block_lt_of_cell? w _ hx199_0)).trans hx199_0)
                           have HR199_0:=Aside0.mk hi199_0
                           have HC199_0:=Aside0.mk hl199_0
                           clear hi199_0 hl199_0
                           replace p199:=eq_true p199
                           replace q199:=eq_true q199
                           have p200 : 0 ≤ (2 : Int):=(by omega)
                           have q200 : 2 < ((rd_L1 l0_0 (ji42)).length : Int):=of_decide_eq_true (by assumption)
                           obtain ⟨ad200,e200,hx200_0⟩:=Kd.at_int HR199_0.out 2 p200 q200
                           cases e200
                           (try simp only [show (2 : Int).toNat = 2 from rfl,Nat.reduceMul,Nat.reduceEqDiff,Go.Addr.add,↓reduceIte] at hx200_0)
                           have qi200 : (2 < (rd_L1 l0_0 (ji42)).length) = True:=eq_true (by omega)
                           (try rw [show ((2 : Int)).toNat = 2 from rfl] at hx200_0)
                           (try replace hx200_0:=(HB.out.cell (World.block_lt_of_cell? w _ hx200_0)).trans hx200_0)
                           replace p200:=eq_true p200
                           replace q200:=eq_true q200
                           have p201 : 0 ≤ (0 : Int):=(by omega)
                           have q201 : 0 < ((rd_L1 l0_0 (ji42)).length : Int):=of_decide_eq_true (by assumption)
                           obtain ⟨ad201,e201,hx201_0⟩:=Kd.at_int HR199_0.out 0 p201 q201
                           obtain rfl : ad200 = ad201:=(by injection e201)
                           have qi201 : (0 < (rd_L1 l0_0 (ji42)).length) = True:=eq_true (by omega)
                           (try rw [show ((0 : Int)).toNat = 0 from rfl] at hx201_0)
                           (try rw [Addr.add_zero'] at hx201_0)
                           (try replace hx201_0:=(HB.out.cell (World.block_lt_of_cell? w _ hx201_0)).trans hx201_0)
                           replace p201:=eq_true p201
                           replace q201:=eq_true q201
                           have p202 : 0 ≤ (1 : Int):=(by omega)
                           have q202 : 1 < ((rd_L1 l0_0 (ji42)).length : Int):=of_decide_eq_true (by assumption)
                           obtain ⟨ad202,e202,hx202_0⟩:=Kd.at_int HR199_0.out 1 p202 q202
                           obtain rfl : ad200 = ad202:=(by injection e202)
                           (try simp only [show (1 : Int).toNat = 1 from rfl,Nat.reduceMul,Nat.reduceEqDiff,Go.Addr.add,↓reduceIte] at hx202_0)
                           have qi202 : (1 < (rd_L1 l0_0 (ji42)).length) = True:=eq_true (by omega)
                           (try rw [show ((1 : Int)).toNat = 1 from rfl] at hx202_0)
                           (try replace hx202_0:=(HB.out.cell (World.block_lt_of_cell? w _ hx202_0)).trans hx202_0)
                           replace p202:=eq_true p202
                           replace q202:=eq_true q202
                           go_wp2_with (first|(go_at_call 53;(with_reducible refine (spec_l1In.calls (wrap64 (rd (rd_L1 l0_0 (ji42)) 1)) 1 250 true _ A49.out).mono ?_);rintro e w' ⟨rfl,⟨nd,rfl⟩⟩;(try first|exact ⟨rfl,_,World.drewN_drewN _ _ _⟩|exact ⟨rfl,_,Eq.trans (World.drewN_drewN _ _ _) (congrArg (World.drewN _) (Nat.add_assoc _ _ _))⟩))|(go_at_call 53;(with_reducible refine (spec_l1In.calls (wrap64 (rd (rd_L1 l0_0 (ji42)) 2)) 1 40 true _ A51.out).mono ?_);rintro e w' ⟨rfl,⟨nd,rfl⟩⟩;(try first|exact ⟨rfl,_,World.drewN_drewN _ _ _⟩|exact ⟨rfl,_,Eq.trans (World.drewN_drewN _ _ _) (congrArg (World.drewN _) (Nat.add_assoc _ _ _))⟩))|(go_at_call 57;(with_reducible refine (spec_l7Rest.calls kj31 _ _ (rd_L1 l0_0 (ji42)) (wrap64 (3 + (wrap64 (rd (rd_L1 l0_0 (ji42)) 2)))) false _ ?side1 ?side2 A62.out).mono ?_);(case side1=>repeat (first|exact (Kd.C_below HR199_0.out (by repeat (first|(with_reducible first|exact HB.out|apply below_alloc|apply pw_below_drewN|apply below_drew1|refine below_set ?_ GE186.out)|exact HB.out)))|(with_reducible first|apply Kd.C_alloc|apply Kd.C_drewN|apply Kd.C_drew)));(case side2=>exact HC199_0.out);rintro e w' ⟨rfl,⟨nd,rfl⟩⟩;(try first|exact ⟨rfl,_,World.drewN_drewN _ _ _⟩|exact ⟨rfl,_,Eq.trans (World.drewN_drewN _ _ _) (congrArg (World.drewN _) (Nat.add_assoc _ _ _))⟩)))
                           have hwq : ∀ n,IntKind.i64.wrap n = wrap64 n:=fun n=>by rw [IntKind.wrap_i64];unfold wrap64;first|rfl|omega
                           repeat (go_quiet (first|(go_at_call 53;(with_reducible refine (spec_l1In.calls (wrap64 (rd (rd_L1 l0_0 (ji42)) 1)) 1 250 true _ A49.out).mono ?_);rintro e w' ⟨rfl,⟨nd,rfl⟩⟩;(try first|exact ⟨rfl,_,World.drewN_drewN _ _ _⟩|exact ⟨rfl,_,Eq.trans (World.drewN_drewN _ _ _) (congrArg (World.drewN _) (Nat.add_assoc _ _ _))⟩))|(go_at_call 53;(with_reducible refine (spec_l1In.calls (wrap64 (rd (rd_L1 l0_0 (ji42)) 2)) 1 40 true _ A51.out).mono ?_);rintro e w' ⟨rfl,⟨nd,rfl⟩⟩;(try first|exact ⟨rfl,_,World.drewN_drewN _ _ _⟩|exact ⟨rfl,_,Eq.trans (World.drewN_drewN _ _ _) (congrArg (World.drewN _) (Nat.add_assoc _ _ _))⟩))|(go_at_call 57;(with_reducible refine (spec_l7Rest.calls kj31 _ _ (rd_L1 l0_0 (ji42)) (wrap64 (3 + (wrap64 (rd (rd_L1 l0_0 (ji42)) 2)))) false _ ?side1 ?side2 A62.out).mono ?_);(case side1=>repeat (first|exact (Kd.C_below HR199_0.out (by repeat (first|(with_reducible first|exact HB.out|apply below_alloc|apply pw_below_drewN|apply below_drew1|refine below_set ?_ GE186.out)|exact HB.out)))|(with_reducible first|apply Kd.C_alloc|apply Kd.C_drewN|apply Kd.C_drew)));(case side2=>exact HC199_0.out);rintro e w' ⟨rfl,⟨nd,rfl⟩⟩;(try first|exact ⟨rfl,_,World.drewN_drewN _ _ _⟩|exact ⟨rfl,_,Eq.trans (World.drewN_drewN _ _ _) (congrArg (World.drewN _) (Nat.add_assoc _ _ _))⟩)));try go_wp2_with (first|(go_at_call 53;(with_reducible refine (spec_l1In.calls (wrap64 (rd (rd_L1 l0_0 (ji42)) 1)) 1 250 true _ A49.out).mono ?_);rintro e w' ⟨rfl,⟨nd,rfl⟩⟩;(try first|exact ⟨rfl,_,World.drewN_drewN _ _ _⟩|exact ⟨rfl,_,Eq.trans (World.drewN_drewN _ _ _) (congrArg (World.drewN _) (Nat.add_assoc _ _ _))⟩))|(go_at_call 53;(with_reducible refine (spec_l1In.calls (wrap64 (rd (rd_L1 l0_0 (ji42)) 2)) 1 40 true _ A51.out).mono ?_);rintro e w' ⟨rfl,⟨nd,rfl⟩⟩;(try first|exact ⟨rfl,_,World.drewN_drewN _ _ _⟩|exact ⟨rfl,_,Eq.trans (World.drewN_drewN _ _ _) (congrArg (World.drewN _) (Nat.add_assoc _ _ _))⟩))|(go_at_call 57;(with_reducible refine (spec_l7Rest.calls kj31 _ _ (rd_L1 l0_0 (ji42)) (wrap64 (3 + (wrap64 (rd (rd_L1 l0_0 (ji42)) 2)))) false _ ?side1 ?side2 A62.out).mono ?_);(case side1=>repeat (first|exact (Kd.C_below HR199_0.out (by repeat (first|(with_reducible first|exact HB.out|apply below_alloc|apply pw_below_drewN|apply below_drew1|refine below_set ?_ GE186.out)|exact HB.out)))|(with_reducible first|apply Kd.C_alloc|apply Kd.C_drewN|apply Kd.C_drew)));(case side2=>exact HC199_0.out);rintro e w' ⟨rfl,⟨nd,rfl⟩⟩;(try first|exact ⟨rfl,_,World.drewN_drewN _ _ _⟩|exact ⟨rfl,_,Eq.trans (World.drewN_drewN _ _ _) (congrArg (World.drewN _) (Nat.add_assoc _ _ _))⟩))))
                           go_ret2
                           exact ⟨_,by first|rfl|(simp [errW_none,errW_some] <;> rfl)|(simp only [← hji26,← hji29,← hji42];first|rfl|(simp [errW_none,errW_some] <;> rfl))|(simp [*,errW_none,errW_some] <;> rfl),by first|exact Kd.R_nil _ _ _ _ _|exact Kd.N_nil _ _ _ _ _|exact Kd.V_nil _ _ _ _ _|exact Kd.Q_nil _ _ _ _ _|exact Kd.S_nil _ _ _ _ _,by repeat (first|(with_reducible first|exact HB.out|apply below_alloc|apply pw_below_drewN|apply below_drew1|refine below_set ?_ GE186.out)|exact HB.out)⟩
                        ·replace c52:=Bool.eq_false_iff.mpr c52
                         subst c52
                         have H1 : (some (([] : List Int),false)) = some (r1,r2):=by rw [if_neg (show ¬ (false = true) by decide)] at H;exact H
                         clear H
                         have H:=H1
                         clear H1
                         simp only [Option.some.injEq,Prod.mk.injEq] at H
                         obtain ⟨rfl,rfl⟩:=H
                         have hcz68_0 : wc.cell? ⟨gb186,0,none⟩ = some (.slice (some ad192) l0_0.length c0_0):=(blk_cell BK186.out 0).trans rfl
                         have hcz68_1 : wc.cell? ⟨gb186,1,none⟩ = some (.slice A0_1 l0_1.length c0_1):=(blk_cell BK186.out 1).trans rfl
                         have hcz68_2 : wc.cell? ⟨gb186,2,none⟩ = some (.slice A0_2 l0_2.length c0_2):=(blk_cell BK186.out 2).trans rfl
                         have hcz68_3 : wc.cell? ⟨gb186,3,none⟩ = some (.slice A0_3 l0_3.length c0_3):=(blk_cell BK186.out 3).trans rfl
                         have hfz68_0:=blk_frozen BK186.out 0
                         have hfz68_1:=blk_frozen BK186.out 1
                         have hfz68_2:=blk_frozen BK186.out 2
                         have hfz68_3:=blk_frozen BK186.out 3
                         have p199 : 0 ≤ ((ji42) : Int):=of_decide_eq_true (by assumption)
                         have q199 : (ji42) < (l0_0.length : Int):=of_decide_eq_true (by assumption)
                         obtain ⟨ad199,A199_0,c199_0,e199,hx199_0,hl199_0,hi199_0⟩:=at_L1 HR0_0.out (ji42) p199 q199
                         obtain rfl : ad192 = ad199:=(by injection e199)
                         (try replace hx199_0:=(HB.out.cell (World.block_lt_of_cell? w _ hx199_0)).trans hx199_0)
                         have HR199_0:=Aside0.mk hi199_0
                         have HC199_0:=Aside0.mk hl199_0
                         clear hi199_0 hl199_0
                         replace p199:=eq_true p199
                         replace q199:=eq_true q199
                         have p200 : 0 ≤ (2 : Int):=(by omega)
                         have q200 : 2 < ((rd_L1 l0_0 (ji42)).length : Int):=of_decide_eq_true (by assumption)
                         obtain ⟨ad200,e200,hx200_0⟩:=Kd.at_int HR199_0.out 2 p200 q200
                         cases e200
                         (try simp only [show (2 : Int).toNat = 2 from rfl,Nat.reduceMul,Nat.reduceEqDiff,Go.Addr.add,↓reduceIte] at hx200_0)
                         have qi200 : (2 < (rd_L1 l0_0 (ji42)).length) = True:=eq_true (by omega)
                         (try rw [show ((2 : Int)).toNat = 2 from rfl] at hx200_0)
                         (try replace hx200_0:=(HB.out.cell (World.block_lt_of_cell? w _ hx200_0)).trans hx200_0)
                         replace p200:=eq_true p200
                         replace q200:=eq_true q200
                         have p201 : 0 ≤ (0 : Int):=(by omega)
                         have q201 : 0 < ((rd_L1 l0_0 (ji42)).length : Int):=of_decide_eq_true (by assumption)
                         obtain ⟨ad201,e201,hx201_0⟩:=Kd.at_int HR199_0.out 0 p201 q201
                         obtain rfl : ad200 = ad201:=(by injection e201)
                         have qi201 : (0 < (rd_L1 l0_0 (ji42)).length) = True:=eq_true (by omega)
                         (try rw [show ((0 : Int)).toNat = 0 from rfl] at hx201_0)
                         (try rw [Addr.add_zero'] at hx201_0)
                         (try replace hx201_0:=(HB.out.cell (World.block_lt_of_cell? w _ hx201_0)).trans hx201_0)
                         replace p201:=eq_true p201
                         replace q201:=eq_true q201
                         have p202 : 0 ≤ (1 : Int):=(by omega)
                         have q202 : 1 < ((rd_L1 l0_0 (ji42)).length : Int):=of_decide_eq_true (by assumption)
                         obtain ⟨ad202,e202,hx202_0⟩:=Kd.at_int HR199_0.out 1 p202 q202
                         obtain rfl : ad200 = ad202:=(by injection e202)
                         (try simp only [show (1 : Int).toNat = 1 from rfl,Nat.reduceMul,Nat.reduceEqDiff,Go.Addr.add,↓reduceIte] at hx202_0)
                         have qi202 : (1 < (rd_L1 l0_0 (ji42)).length) = True:=eq_true (by omega)
                         (try rw [show ((1 : Int)).toNat = 1 from rfl] at hx202_0)
                         (try replace hx202_0:=(HB.out.cell (World.block_lt_of_cell? w _ hx202_0)).trans hx202_0)
                         replace p202:=eq_true p202
                         replace q202:=eq_true q202
                         go_wp2_with (first|(go_at_call 53;(with_reducible refine (spec_l1In.calls (wrap64 (rd (rd_L1 l0_0 (ji42)) 1)) 1 250 true _ A49.out).mono ?_);rintro e w' ⟨rfl,⟨nd,rfl⟩⟩;(try first|exact ⟨rfl,_,World.drewN_drewN _ _ _⟩|exact ⟨rfl,_,Eq.trans (World.drewN_drewN _ _ _) (congrArg (World.drewN _) (Nat.add_assoc _ _ _))⟩))|(go_at_call 53;(with_reducible refine (spec_l1In.calls (wrap64 (rd (rd_L1 l0_0 (ji42)) 2)) 1 40 false _ A51.out).mono ?_);rintro e w' ⟨rfl,⟨nd,rfl⟩⟩;(try first|exact ⟨rfl,_,World.drewN_drewN _ _ _⟩|exact ⟨rfl,_,Eq.trans (World.drewN_drewN _ _ _) (congrArg (World.drewN _) (Nat.add_assoc _ _ _))⟩)))
                         have hwq : ∀ n,IntKind.i64.wrap n = wrap64 n:=fun n=>by rw [IntKind.wrap_i64];unfold wrap64;first|rfl|omega
                         repeat (go_quiet (first|(go_at_call 53;(with_reducible refine (spec_l1In.calls (wrap64 (rd (rd_L1 l0_0 (ji42)) 1)) 1 250 true _ A49.out).mono ?_);rintro e w' ⟨rfl,⟨nd,rfl⟩⟩;(try first|exact ⟨rfl,_,World.drewN_drewN _ _ _⟩|exact ⟨rfl,_,Eq.trans (World.drewN_drewN _ _ _) (congrArg (World.drewN _) (Nat.add_assoc _ _ _))⟩))|(go_at_call 53;(with_reducible refine (spec_l1In.calls (wrap64 (rd (rd_L1 l0_0 (ji42)) 2)) 1 40 false _ A51.out).mono ?_);rintro e w' ⟨rfl,⟨nd,rfl⟩⟩;(try first|exact ⟨rfl,_,World.drewN_drewN _ _ _⟩|exact ⟨rfl,_,Eq.trans (World.drewN_drewN _ _ _) (congrArg (World.drewN _) (Nat.add_assoc _ _ _))⟩)));try go_wp2_with (first|(go_at_call 53;(with_reducible refine (spec_l1In.calls (wrap64 (rd (rd_L1 l0_0 (ji42)) 1)) 1 250 true _ A49.out).mono ?_);rintro e w' ⟨rfl,⟨nd,rfl⟩⟩;(try first|exact ⟨rfl,_,World.drewN_drewN _ _ _⟩|exact ⟨rfl,_,Eq.trans (World.drewN_drewN _ _ _) (congrArg (World.drewN _) (Nat.add_assoc _ _ _))⟩))|(go_at_call 53;(with_reducible refine (spec_l1In.calls (wrap64 (rd (rd_L1 l0_0 (ji42)) 2)) 1 40 false _ A51.out).mono ?_);rintro e w' ⟨rfl,⟨nd,rfl⟩⟩;(try first|exact ⟨rfl,_,World.drewN_drewN _ _ _⟩|exact ⟨rfl,_,Eq.trans (World.drewN_drewN _ _ _) (congrArg (World.drewN _) (Nat.add_assoc _ _ _))⟩))))
                         go_ret2
                         exact ⟨_,by first|rfl|(simp [errW_none,errW_some] <;> rfl)|(simp only [← hji26,← hji29,← hji42];first|rfl|(simp [errW_none,errW_some] <;> rfl))|(simp [*,errW_none,errW_some] <;> rfl),by first|exact Kd.R_nil _ _ _ _ _|exact Kd.N_nil _ _ _ _ _|exact Kd.V_nil _ _ _ _ _|exact Kd.Q_nil _ _ _ _ _|exact Kd.S_nil _ _ _ _ _,by repeat (first|(with_reducible first|exact HB.out|apply below_alloc|apply pw_below_drewN|apply below_drew1|refine below_set ?_ GE186.out)|exact HB.out)⟩
                       ·replace c50:=Bool.eq_false_iff.mpr c50
                        subst c50
                        have H1 : (some (([] : List Int),false)) = some (r1,r2):=by rw [if_neg (show ¬ (false = true) by decide)] at H;exact H
                        clear H
                        have H:=H1
                        clear H1
                        simp only [Option.some.injEq,Prod.mk.injEq] at H
                        obtain ⟨rfl,rfl⟩:=H
                        have hcz69_0 : wc.cell? ⟨gb186,0,none⟩ = some (.slice (some ad192) l0_0.length c0_0):=(blk_cell BK186.out 0).trans rfl
                        have hcz69_1 : wc.cell? ⟨gb186,1,none⟩ = some (.slice A0_1 l0_1.length c0_1):=(blk_cell BK186.out 1).trans rfl
                        have hcz69_2 : wc.cell? ⟨gb186,2,none⟩ = some (.slice A0_2 l0_2.length c0_2):=(blk_cell BK186.out 2).trans rfl
                        have hcz69_3 : wc.cell? ⟨gb186,3,none⟩ = some (.slice A0_3 l0_3.length c0_3):=(blk_cell BK186.out 3).trans rfl
                        have hfz69_0:=blk_frozen BK186.out 0
                        have hfz69_1:=blk_frozen BK186.out 1
                        have hfz69_2:=blk_frozen BK186.out 2
                        have hfz69_3:=blk_frozen BK186.out 3
                        have p199 : 0 ≤ ((ji42) : Int):=of_decide_eq_true (by assumption)
                        have q199 : (ji42) < (l0_0.length : Int):=of_decide_eq_true (by assumption)
                        obtain ⟨ad199,A199_0,c199_0,e199,hx199_0,hl199_0,hi199_0⟩:=at_L1 HR0_0.out (ji42) p199 q199
                        obtain rfl : ad192 = ad199:=(by injection e199)
                        (try replace hx199_0:=(HB.out.cell (World.block_lt_of_cell? w _ hx199_0)).trans hx199_0)
                        have HR199_0:=Aside0.mk hi199_0
                        have HC199_0:=Aside0.mk hl199_0
                        clear hi199_0 hl199_0
                        replace p199:=eq_true p199
                        replace q199:=eq_true q199
                        have p200 : 0 ≤ (2 : Int):=(by omega)
                        have q200 : 2 < ((rd_L1 l0_0 (ji42)).length : Int):=of_decide_eq_true (by assumption)
                        obtain ⟨ad200,e200,hx200_0⟩:=Kd.at_int HR199_0.out 2 p200 q200
                        cases e200
                        (try simp only [show (2 : Int).toNat = 2 from rfl,Nat.reduceMul,Nat.reduceEqDiff,Go.Addr.add,↓reduceIte] at hx200_0)
                        have qi200 : (2 < (rd_L1 l0_0 (ji42)).length) = True:=eq_true (by omega)
                        (try rw [show ((2 : Int)).toNat = 2 from rfl] at hx200_0)
                        (try replace hx200_0:=(HB.out.cell (World.block_lt_of_cell? w _ hx200_0)).trans hx200_0)
                        replace p200:=eq_true p200
                        replace q200:=eq_true q200
                        have p201 : 0 ≤ (0 : Int):=(by omega)
                        have q201 : 0 < ((rd_L1 l0_0 (ji42)).length : Int):=of_decide_eq_true (by assumption)
                        obtain ⟨ad201,e201,hx201_0⟩:=Kd.at_int HR199_0.out 0 p201 q201
                        obtain rfl : ad200 = ad201:=(by injection e201)
                        have qi201 : (0 < (rd_L1 l0_0 (ji42)).length) = True:=eq_true (by omega)
                        (try rw [show ((0 : Int)).toNat = 0 from rfl] at hx201_0)
                        (try rw [Addr.add_zero'] at hx201_0)
                        (try replace hx201_0:=(HB.out.cell (World.block_lt_of_cell? w _ hx201_0)).trans hx201_0)
                        replace p201:=eq_true p201
                        replace q201:=eq_true q201
                        have p202 : 0 ≤ (1 : Int):=(by omega)
                        have q202 : 1 < ((rd_L1 l0_0 (ji42)).length : Int):=of_decide_eq_true (by assumption)
                        obtain ⟨ad202,e202,hx202_0⟩:=Kd.at_int HR199_0.out 1 p202 q202
                        obtain rfl : ad200 = ad202:=(by injection e202)
                        (try simp only [show (1 : Int).toNat = 1 from rfl,Nat.reduceMul,Nat.reduceEqDiff,Go.Addr.add,↓reduceIte] at hx202_0)
                        have qi202 : (1 < (rd_L1 l0_0 (ji42)).length) = True:=eq_true (by omega)
                        (try rw [show ((1 : Int)).toNat = 1 from rfl] at hx202_0)
                        (try replace hx202_0:=(HB.out.cell (World.block_lt_of_cell? w _ hx202_0)).trans hx202_0)
                        replace p202:=eq_true p202
                        replace q202:=eq_true q202
                        go_wp2_with (first|(go_at_call 53;(with_reducible refine (spec_l1In.calls (wrap64 (rd (rd_L1 l0_0 (ji42)) 1)) 1 250 false _ A49.out).mono ?_);rintro e w' ⟨rfl,⟨nd,rfl⟩⟩;(try first|exact ⟨rfl,_,World.drewN_drewN _ _ _⟩|exact ⟨rfl,_,Eq.trans (World.drewN_drewN _ _ _) (congrArg (World.drewN _) (Nat.add_assoc _ _ _))⟩)))
                        have hwq : ∀ n,IntKind.i64.wrap n = wrap64 n:=fun n=>by rw [IntKind.wrap_i64];unfold wrap64;first|rfl|omega
                        repeat (go_quiet (first|(go_at_call 53;(with_reducible refine (spec_l1In.calls (wrap64 (rd (rd_L1 l0_0 (ji42)) 1)) 1 250 false _ A49.out).mono ?_);rintro e w' ⟨rfl,⟨nd,rfl⟩⟩;(try first|exact ⟨rfl,_,World.drewN_drewN _ _ _⟩|exact ⟨rfl,_,Eq.trans (World.drewN_drewN _ _ _) (congrArg (World.drewN _) (Nat.add_assoc _ _ _))⟩)));try go_wp2_with (first|(go_at_call 53;(with_reducible refine (spec_l1In.calls (wrap64 (rd (rd_L1 l0_0 (ji42)) 1)) 1 250 false _ A49.out).mono ?_);rintro e w' ⟨rfl,⟨nd,rfl⟩⟩;(try first|exact ⟨rfl,_,World.drewN_drewN _ _ _⟩|exact ⟨rfl,_,Eq.trans (World.drewN_drewN _ _ _) (congrArg (World.drewN _) (Nat.add_assoc _ _ _))⟩))))
                        go_ret2
                        exact ⟨_,by first|rfl|(simp [errW_none,errW_some] <;> rfl)|(simp only [← hji26,← hji29,← hji42];first|rfl|(simp [errW_none,errW_some] <;> rfl))|(simp [*,errW_none,errW_some] <;> rfl),by first|exact Kd.R_nil _ _ _ _ _|exact Kd.N_nil _ _ _ _ _|exact Kd.V_nil _ _ _ _ _|exact Kd.Q_nil _ _ _ _ _|exact Kd.S_nil _ _ _ _ _,by repeat (first|(with_reducible first|exact HB.out|apply below_alloc|apply pw_below_drewN|apply below_drew1|refine below_set ?_ GE186.out)|exact HB.out)⟩
                      ·rw [if_neg c48] at H
                       exact absurd H (by simp)
                     ·rw [if_neg c47] at H
                      have c47b0 : ((rd (rd_L1 l0_0 (ji42)) 0) == 83) = false:=beq_eq_false_iff_ne.mpr c47
                      have c47b1 : ((rd (rd_L1 l0_0 (ji42)) 0) != 83) = true:=bne_iff_ne.mpr c47
                      simp only [Option.some.injEq,Prod.mk.injEq] at H
                      obtain ⟨rfl,rfl⟩:=H
                      have hcz70_0 : wc.cell? ⟨gb186,0,none⟩ = some (.slice (some ad192) l0_0.length c0_0):=(blk_cell BK186.out 0).trans rfl
                      have hcz70_1 : wc.cell? ⟨gb186,1,none⟩ = some (.slice A0_1 l0_1.length c0_1):=(blk_cell BK186.out 1).trans rfl
                      have hcz70_2 : wc.cell? ⟨gb186,2,none⟩ = some (.slice A0_2 l0_2.length c0_2):=(blk_cell BK186.out 2).trans rfl
                      have hcz70_3 : wc.cell? ⟨gb186,3,none⟩ = some (.slice A0_3 l0_3.length c0_3):=(blk_cell BK186.out 3).trans rfl
                      have hfz70_0:=blk_frozen BK186.out 0
                      have hfz70_1:=blk_frozen BK186.out 1
                      have hfz70_2:=blk_frozen BK186.out 2
                      have hfz70_3:=blk_frozen BK186.out 3
                      have p199 : 0 ≤ ((ji42) : Int):=of_decide_eq_true (by assumption)
                      have q199 : (ji42) < (l0_0.length : Int):=of_decide_eq_true (by assumption)
                      obtain ⟨ad199,A199_0,c199_0,e199,hx199_0,hl199_0,hi199_0⟩:=at_L1 HR0_0.out (ji42) p199 q199
                      obtain rfl : ad192 = ad199:=(by injection e199)
                      (try replace hx199_0:=(HB.out.cell (World.block_lt_of_cell? w _ hx199_0)).trans hx199_0)
                      have HR199_0:=Aside0.mk hi199_0
                      have HC199_0:=Aside0.mk hl199_0
                      clear hi199_0 hl199_0
                      replace p199:=eq_true p199
                      replace q199:=eq_true q199
                      have p200 : 0 ≤ (2 : Int):=(by omega)
                      have q200 : 2 < ((rd_L1 l0_0 (ji42)).length : Int):=of_decide_eq_true (by assumption)
                      obtain ⟨ad200,e200,hx200_0⟩:=Kd.at_int HR199_0.out 2 p200 q200
                      cases e200
                      (try simp only [show (2 : Int).toNat = 2 from rfl,Nat.reduceMul,Nat.reduceEqDiff,Go.Addr.add,↓reduceIte] at hx200_0)
                      have qi200 : (2 < (rd_L1 l0_0 (ji42)).length) = True:=eq_true (by omega)
                      (try rw [show ((2 : Int)).toNat = 2 from rfl] at hx200_0)
                      (try replace hx200_0:=(HB.out.cell (World.block_lt_of_cell? w _ hx200_0)).trans hx200_0)
                      replace p200:=eq_true p200
                      replace q200:=eq_true q200
                      have p201 : 0 ≤ (0 : Int):=(by omega)
                      have q201 : 0 < ((rd_L1 l0_0 (ji42)).length : Int):=of_decide_eq_true (by assumption)
                      obtain ⟨ad201,e201,hx201_0⟩:=Kd.at_int HR199_0.out 0 p201 q201
                      obtain rfl : ad200 = ad201:=(by injection e201)
                      have qi201 : (0 < (rd_L1 l0_0 (ji42)).length) = True:=eq_true (by omega)
                      (try rw [show ((0 : Int)).toNat = 0 from rfl] at hx201_0)
                      (try rw [Addr.add_zero'] at hx201_0)
                      (try replace hx201_0:=(HB.out.cell (World.block_lt_of_cell? w _ hx201_0)).trans hx201_0)
                      replace p201:=eq_true p201
                      replace q201:=eq_true q201
                      go_wp2
                      repeat (go_quiet (fail);try go_wp2)
                      go_ret2
                      exact ⟨_,by first|rfl|(simp [errW_none,errW_some] <;> rfl)|(simp only [← hji26,← hji29,← hji42];first|rfl|(simp [errW_none,errW_some] <;> rfl))|(simp [*,errW_none,errW_some] <;> rfl),by first|exact Kd.R_nil _ _ _ _ _|exact Kd.N_nil _ _ _ _ _|exact Kd.V_nil _ _ _ _ _|exact Kd.Q_nil _ _ _ _ _|exact Kd.S_nil _ _ _ _ _,by repeat (first|(with_reducible first|exact HB.out|apply below_alloc|apply pw_below_drewN|apply below_drew1|refine below_set ?_ GE186.out)|exact HB.out)⟩
                    ·rw [if_neg c46] at H
                     exact absurd H (by simp)
                   ·rw [if_neg c45] at H
                    exact absurd H (by simp)
                  ·rw [if_neg c44] at H
                   exact absurd H (by simp)
                 ·rw [if_neg c43] at H
                  exact absurd H (by simp)
             ·rw [if_neg c31] at H
              exact absurd H (by simp)
            ·rw [if_neg c30] at H
             exact absurd H (by simp)
           ·rw [if_neg c28] at H
            exact absurd H (by simp)
          ·rw [if_neg c27] at H
           exact absurd H (by simp)
         ·rw [if_neg c25] at H
          have c25b0 : decide (x9_2 < (wrap64 (rd (rd_L1 l0_0 a1) 1))) = false:=decide_eq_false c25
          clear c25
          replace H:=Option.bind_eq_some_iff.mp H
          obtain ⟨t194,A710,H⟩:=H
          replace H : (some (x8_2,t194)) = some (r1,r2):=H
          have A71:=Aside0.mk A710
          clear A710
          simp only [Option.some.injEq,Prod.mk.injEq] at H
          obtain ⟨rfl,rfl⟩:=H
          go_wp2_with (first|(go_at_call 57;(with_reducible refine (spec_l7Rest.calls k2 _ _ (rd_L1 l0_0 a1) (wrap64 (2 + (wrap64 (2 * (wrap64 (rd (rd_L1 l0_0 a1) 1)))))) t194 _ ?side1 ?side2 A71.out).mono ?_);(case side1=>repeat (first|exact (Kd.C_below HR192_0.out HB.out)|(with_reducible first|apply Kd.C_alloc|apply Kd.C_drewN|apply Kd.C_drew)));(case side2=>exact HC192_0.out);rintro e w' ⟨rfl,⟨nd,rfl⟩⟩;(try first|exact ⟨rfl,_,World.drewN_drewN _ _ _⟩|exact ⟨rfl,_,Eq.trans (World.drewN_drewN _ _ _) (congrArg (World.drewN _) (Nat.add_assoc _ _ _))⟩)))
          have hwq : ∀ n,IntKind.i64.wrap n = wrap64 n:=fun n=>by rw [IntKind.wrap_i64];unfold wrap64;first|rfl|omega
          repeat (go_quiet (first|(go_at_call 57;(with_reducible refine (spec_l7Rest.calls k2 _ _ (rd_L1 l0_0 a1) (wrap64 (2 + (wrap64 (2 * (wrap64 (rd (rd_L1 l0_0 a1) 1)))))) t194 _ ?side1 ?side2 A71.out).mono ?_);(case side1=>repeat (first|exact (Kd.C_below HR192_0.out HB.out)|(with_reducible first|apply Kd.C_alloc|apply Kd.C_drewN|apply Kd.C_drew)));(case side2=>exact HC192_0.out);rintro e w' ⟨rfl,⟨nd,rfl⟩⟩;(try first|exact ⟨rfl,_,World.drewN_drewN _ _ _⟩|exact ⟨rfl,_,Eq.trans (World.drewN_drewN _ _ _) (congrArg (World.drewN _) (Nat.add_assoc _ _ _))⟩)));try go_wp2_with (first|(go_at_call 57;(with_reducible refine (spec_l7Rest.calls k2 _ _ (rd_L1 l0_0 a1) (wrap64 (2 + (wrap64 (2 * (wrap64 (rd (rd_L1 l0_0 a1) 1)))))) t194 _ ?side1 ?side2 A71.out).mono ?_);(case side1=>repeat (first|exact (Kd.C_below HR192_0.out HB.out)|(with_reducible first|apply Kd.C_alloc|apply Kd.C_drewN|apply Kd.C_drew)));(case side2=>exact HC192_0.out);rintro e w' ⟨rfl,⟨nd,rfl⟩⟩;(try first|exact ⟨rfl,_,World.drewN_drewN _ _ _⟩|exact ⟨rfl,_,Eq.trans (World.drewN_drewN _ _ _) (congrArg (World.drewN _) (Nat.add_assoc _ _ _))⟩))))
          go_ret2
          exact ⟨_,by first|rfl|(simp [*,errW_none,errW_some] <;> rfl),by (with_reducible repeat (first|apply Kd.R_alloc|apply Kd.R_drewN|apply Kd.R_drew));exact HO_8.out,by repeat (first|(with_reducible first|exact HB.out|apply below_alloc|apply pw_below_drewN|apply below_drew1|refine below_set ?_ GE186.out)|exact HB.out)⟩
      ·rw [if_neg c23] at H
       exact absurd H (by simp)
     ·rw [if_neg c22] at H
      exact absurd H (by simp)
    ·rw [if_neg c21] at H
     exact absurd H (by simp)

end Go.Proofs.Ytggnbbbhlnjleaa.PFnExactTextIn
