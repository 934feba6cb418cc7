-- Written by a program of this session over the print of the kit (wip/t/patch_print.py).
import Derived.Test.YtggnbbbhlnjleaaPFnExactTextInx0
import Derived.Test.YtggnbbbhlnjleaaPFnExactTextInx3
namespace Go.Proofs.Ytggnbbbhlnjleaa.PFnExactTextIn
open Go.RowKit Go.Proofs.YtggnbbbhlnjleaaW.PrintWords Go.Proofs.YtggnbbbhlnjleaaW.PrintLast Go.Proofs.YtggnbbbhlnjleaaW.PrintMore
attribute [local go_sem] max2_int min2_int max_two min_two max_three min_three max_four min_four   -- for this text's walks alone
set_option linter.unusedVariables false
set_option linter.unusedSimpArgs false

/-! ### spec_GoodSpace: function 39 -/
mutual
def spec_GoodSpace.j0 : Nat → Int → Bool → List (List Int) → List Int → List Int → List Int → Option (Bool)
 | 0,_,_,_,_,_,_=>none
 | k + 1,x3,x23,x168000,x168001,x168002,x168003=>if x23 = true then (some false) else (spec_GoodSpace.l0 k x3 x168000 (x168000.length : Int) 0 x168000 x168001 x168002 x168003)
def spec_GoodSpace.l0 : Nat → Int → List (List Int) → Int → Int → List (List Int) → List Int → List Int → List Int → Option (Bool)
 | 0,_,_,_,_,_,_,_,_=>none
 | k + 1,x3,x25,x26,x27,x168000,x168001,x168002,x168003=>if x27 < x26 then (if 0 ≤ x27 then (if x27 < (x25.length : Int) then (if ((rd_L1 x25 x27).length : Int) = 128 then (spec_GoodSpace.l0 k x3 x25 x26 (wrap64 (x27 + 1)) x168000 x168001 x168002 x168003) else (some false)) else (none)) else (none)) else (spec_GoodSpace.l1 k x3 0 x168000 x168001 x168002 x168003)
def spec_GoodSpace.l1 : Nat → Int → Int → List (List Int) → List Int → List Int → List Int → Option (Bool)
 | 0,_,_,_,_,_,_=>none
 | k + 1,x3,x6,x168000,x168001,x168002,x168003=>if x6 < 160 then ((spec_l5Used.f x168001 x6).bind fun t170=>(if x6 < 33 then (if t170 = true then (if x6 ≥ x3 then (some false) else (spec_GoodSpace.l1 k x3 (wrap64 (x6 + 1)) x168000 x168001 x168002 x168003)) else (some false)) else (if x6 ≥ x3 then (if t170 = true then (some false) else (spec_GoodSpace.l1 k x3 (wrap64 (x6 + 1)) x168000 x168001 x168002 x168003)) else (spec_GoodSpace.l1 k x3 (wrap64 (x6 + 1)) x168000 x168001 x168002 x168003)))) else ((some (([x168002,x168003] : List (List Int)) : List (List Int))).bind fun y171=>(spec_GoodSpace.l2 k x3 y171 (y171.length : Int) 0 x168000 x168001 x168002 x168003))
def spec_GoodSpace.l2 : Nat → Int → List (List Int) → Int → Int → List (List Int) → List Int → List Int → List Int → Option (Bool)
 | 0,_,_,_,_,_,_,_,_=>none
 | k + 1,x3,x61,x62,x63,x168000,x168001,x168002,x168003=>if x63 < x62 then (if 0 ≤ x63 then (if x63 < (x61.length : Int) then (spec_GoodSpace.l3 k x3 (rd_L4 x61 x63) x61 x62 x63 (rd_L4 x61 x63) ((rd_L4 x61 x63).length : Int) 0 x168000 x168001 x168002 x168003) else (none)) else (none)) else (some true)
def spec_GoodSpace.l3 : Nat → Int → List Int → List (List Int) → Int → Int → List Int → Int → Int → List (List Int) → List Int → List Int → List Int → Option (Bool)
 | 0,_,_,_,_,_,_,_,_,_,_,_,_=>none
 | k + 1,x3,x9,x61,x62,x63,x67,x68,x69,x168000,x168001,x168002,x168003=>if x69 < x68 then (if 0 ≤ x69 then (if x69 < (x67.length : Int) then ((spec_l1In.f (rd x67 x69) 33 (wrap64 (x3 - 1))).bind fun t176=>(if t176 = true then ((spec_l5Used.f x168001 (rd x67 x69)).bind fun t177=>(if t177 = true then (if x69 > 0 then (if 0 ≤ (wrap64 (x69 - 1)) then (if (wrap64 (x69 - 1)) < (x9.length : Int) then (if (rd x9 (wrap64 (x69 - 1))) ≥ (rd x67 x69) then (some false) else (spec_GoodSpace.l3 k x3 x9 x61 x62 x63 x67 x68 (wrap64 (x69 + 1)) x168000 x168001 x168002 x168003)) else (none)) else (none)) else (spec_GoodSpace.l3 k x3 x9 x61 x62 x63 x67 x68 (wrap64 (x69 + 1)) x168000 x168001 x168002 x168003)) else (some false))) else (some false))) else (none)) else (none)) else (spec_GoodSpace.l2 k x3 x61 x62 (wrap64 (x63 + 1)) x168000 x168001 x168002 x168003)
end
def spec_GoodSpace.f (k : Nat) (l0_0 : List (List Int)) (l0_1 : List Int) (l0_2 : List Int) (l0_3 : List Int) : Option (Bool):=(spec_l1In.f (l0_0.length : Int) 40 160).bind fun t168=>(if t168 = true then (spec_GoodSpace.j0 k (l0_0.length : Int) ((l0_1.length : Int) != 20) l0_0 l0_1 l0_2 l0_3) else (spec_GoodSpace.j0 k (l0_0.length : Int) true l0_0 l0_1 l0_2 l0_3))
theorem spec_GoodSpace.mono_l : ∀ k,(∀ y0 y1 y2 y3 y4 y5,LeO (spec_GoodSpace.j0 k y0 y1 y2 y3 y4 y5) (spec_GoodSpace.j0 (k + 1) y0 y1 y2 y3 y4 y5))∧(∀ y0 y1 y2 y3 y4 y5 y6 y7,LeO (spec_GoodSpace.l0 k y0 y1 y2 y3 y4 y5 y6 y7) (spec_GoodSpace.l0 (k + 1) y0 y1 y2 y3 y4 y5 y6 y7))∧(∀ y0 y1 y2 y3 y4 y5,LeO (spec_GoodSpace.l1 k y0 y1 y2 y3 y4 y5) (spec_GoodSpace.l1 (k + 1) y0 y1 y2 y3 y4 y5))∧(∀ y0 y1 y2 y3 y4 y5 y6 y7,LeO (spec_GoodSpace.l2 k y0 y1 y2 y3 y4 y5 y6 y7) (spec_GoodSpace.l2 (k + 1) y0 y1 y2 y3 y4 y5 y6 y7))∧(∀ y0 y1 y2 y3 y4 y5 y6 y7 y8 y9 y10 y11,LeO (spec_GoodSpace.l3 k y0 y1 y2 y3 y4 y5 y6 y7 y8 y9 y10 y11) (spec_GoodSpace.l3 (k + 1) y0 y1 y2 y3 y4 y5 y6 y7 y8 y9 y10 y11))
 | 0=>⟨fun _ _ _ _ _ _ r h=>by simp [spec_GoodSpace.j0] at h,fun _ _ _ _ _ _ _ _ r h=>by simp [spec_GoodSpace.l0] at h,fun _ _ _ _ _ _ r h=>by simp [spec_GoodSpace.l1] at h,fun _ _ _ _ _ _ _ _ r h=>by simp [spec_GoodSpace.l2] at h,fun _ _ _ _ _ _ _ _ _ _ _ _ r h=>by simp [spec_GoodSpace.l3] at h⟩
 | k + 1=>by
  obtain ⟨ih0,ih1,ih2,ih3,ih4⟩:=spec_GoodSpace.mono_l k
  refine ⟨?_,?_,?_,?_,?_⟩
  ·intro y0 y1 y2 y3 y4 y5
   unfold spec_GoodSpace.j0
   repeat' first
   | (with_reducible exact ih0 _ _ _ _ _ _)
   | (with_reducible exact ih1 _ _ _ _ _ _ _ _)
   | (with_reducible exact ih2 _ _ _ _ _ _)
   | (with_reducible exact ih3 _ _ _ _ _ _ _ _)
   | (with_reducible exact ih4 _ _ _ _ _ _ _ _ _ _ _ _)
   | (with_reducible exact LeO.refl _)
   | (with_reducible exact LeO.none _)
   | (with_reducible refine LeO.ite ?_ ?_)
   | (with_reducible refine LeO.bind ?_ (fun _=>?_))
   | exact ih0 _ _ _ _ _ _
   | exact ih1 _ _ _ _ _ _ _ _
   | exact ih2 _ _ _ _ _ _
   | exact ih3 _ _ _ _ _ _ _ _
   | exact ih4 _ _ _ _ _ _ _ _ _ _ _ _
   | exact LeO.none _
   | refine LeO.ite ?_ ?_
   | refine LeO.bind ?_ (fun _=>?_)
  ·intro y0 y1 y2 y3 y4 y5 y6 y7
   unfold spec_GoodSpace.l0
   repeat' first
   | (with_reducible exact ih0 _ _ _ _ _ _)
   | (with_reducible exact ih1 _ _ _ _ _ _ _ _)
   | (with_reducible exact ih2 _ _ _ _ _ _)
   | (with_reducible exact ih3 _ _ _ _ _ _ _ _)
   | (with_reducible exact ih4 _ _ _ _ _ _ _ _ _ _ _ _)
   | (with_reducible exact LeO.refl _)
   | (with_reducible exact LeO.none _)
   | (with_reducible refine LeO.ite ?_ ?_)
   | (with_reducible refine LeO.bind ?_ (fun _=>?_))
   | exact ih0 _ _ _ _ _ _
   | exact ih1 _ _ _ _ _ _ _ _
   | exact ih2 _ _ _ _ _ _
   | exact ih3 _ _ _ _ _ _ _ _
   | exact ih4 _ _ _ _ _ _ _ _ _ _ _ _
   | exact LeO.none _
   | refine LeO.ite ?_ ?_
   | refine LeO.bind ?_ (fun _=>?_)
  ·intro y0 y1 y2 y3 y4 y5
   unfold spec_GoodSpace.l1
   repeat' first
   | (with_reducible exact ih0 _ _ _ _ _ _)
   | (with_reducible exact ih1 _ _ _ _ _ _ _ _)
   | (with_reducible exact ih2 _ _ _ _ _ _)
   | (with_reducible exact ih3 _ _ _ _ _ _ _ _)
   | (with_reducible exact ih4 _ _ _ _ _ _ _ _ _ _ _ _)
   | (with_reducible exact LeO.refl _)
   | (with_reducible exact LeO.none _)
   | (with_reducible refine LeO.ite ?_ ?_)
   | (with_reducible refine LeO.bind ?_ (fun _=>?_))
   | exact ih0 _ _ _ _ _ _
   | exact ih1 _ _ _ _ _ _ _ _
   | exact ih2 _ _ _ _ _ _
   | exact ih3 _ _ _ _ _ _ _ _
   | exact ih4 _ _ _ _ _ _ _ _ _ _ _ _
   | exact LeO.none _
   | refine LeO.ite ?_ ?_
   | refine LeO.bind ?_ (fun _=>?_)
  ·intro y0 y1 y2 y3 y4 y5 y6 y7
   unfold spec_GoodSpace.l2
   repeat' first
   | (with_reducible exact ih0 _ _ _ _ _ _)
   | (with_reducible exact ih1 _ _ _ _ _ _ _ _)
   | (with_reducible exact ih2 _ _ _ _ _ _)
   | (with_reducible exact ih3 _ _ _ _ _ _ _ _)
   | (with_reducible exact ih4 _ _ _ _ _ _ _ _ _ _ _ _)
   | (with_reducible exact LeO.refl _)
   | (with_reducible exact LeO.none _)
   | (with_reducible refine LeO.ite ?_ ?_)
   | (with_reducible refine LeO.bind ?_ (fun _=>?_))
   | exact ih0 _ _ _ _ _ _
   | exact ih1 _ _ _ _ _ _ _ _
   | exact ih2 _ _ _ _ _ _
   | exact ih3 _ _ _ _ _ _ _ _
   | exact ih4 _ _ _ _ _ _ _ _ _ _ _ _
   | exact LeO.none _
   | refine LeO.ite ?_ ?_
   | refine LeO.bind ?_ (fun _=>?_)
  ·intro y0 y1 y2 y3 y4 y5 y6 y7 y8 y9 y10 y11
   unfold spec_GoodSpace.l3
   repeat' first
   | (with_reducible exact ih0 _ _ _ _ _ _)
   | (with_reducible exact ih1 _ _ _ _ _ _ _ _)
   | (with_reducible exact ih2 _ _ _ _ _ _)
   | (with_reducible exact ih3 _ _ _ _ _ _ _ _)
   | (with_reducible exact ih4 _ _ _ _ _ _ _ _ _ _ _ _)
   | (with_reducible exact LeO.refl _)
   | (with_reducible exact LeO.none _)
   | (with_reducible refine LeO.ite ?_ ?_)
   | (with_reducible refine LeO.bind ?_ (fun _=>?_))
   | exact ih0 _ _ _ _ _ _
   | exact ih1 _ _ _ _ _ _ _ _
   | exact ih2 _ _ _ _ _ _
   | exact ih3 _ _ _ _ _ _ _ _
   | exact ih4 _ _ _ _ _ _ _ _ _ _ _ _
   | exact LeO.none _
   | refine LeO.ite ?_ ?_
   | refine LeO.bind ?_ (fun _=>?_)
theorem spec_GoodSpace.mono : ∀ a0 a1 a2 a3 k,LeO (spec_GoodSpace.f k a0 a1 a2 a3) (spec_GoodSpace.f (k + 1) a0 a1 a2 a3):=by
 intro a0 a1 a2 a3 k
 obtain ⟨ih0,ih1,ih2,ih3,ih4⟩:=spec_GoodSpace.mono_l k
 unfold spec_GoodSpace.f
 repeat' first
   | (with_reducible exact ih0 _ _ _ _ _ _)
   | (with_reducible exact ih1 _ _ _ _ _ _ _ _)
   | (with_reducible exact ih2 _ _ _ _ _ _)
   | (with_reducible exact ih3 _ _ _ _ _ _ _ _)
   | (with_reducible exact ih4 _ _ _ _ _ _ _ _ _ _ _ _)
   | (with_reducible exact LeO.refl _)
   | (with_reducible exact LeO.none _)
   | (with_reducible refine LeO.ite ?_ ?_)
   | (with_reducible refine LeO.bind ?_ (fun _=>?_))
   | exact ih0 _ _ _ _ _ _
   | exact ih1 _ _ _ _ _ _ _ _
   | exact ih2 _ _ _ _ _ _
   | exact ih3 _ _ _ _ _ _ _ _
   | exact ih4 _ _ _ _ _ _ _ _ _ _ _ _
   | exact LeO.none _
   | refine LeO.ite ?_ ?_
   | refine LeO.bind ?_ (fun _=>?_)
set_option maxHeartbeats 8000000 in
set_option maxRecDepth 100000 in
theorem spec_GoodSpace.calls (k : Nat) (A0_0 : Option Addr) (c0_0 : Nat) (l0_0 : List (List Int)) (A0_1 : Option Addr) (c0_1 : Nat) (l0_1 : List Int) (P0_2_ : Nat → Prop) (A0_2 : Option Addr) (c0_2 : Nat) (l0_2 : List Int) (P0_3_ : Nat → Prop) (A0_3 : Option Addr) (c0_3 : Nat) (l0_3 : List Int) (r : Bool) (w : World) (hr0_0 : Kd.C (Kd.slice 5 (Kd.int .u8)) w A0_0 l0_0.length l0_0) (hc0_0 : l0_0.length ≤ c0_0) (hr0_1 : Kd.C (Kd.int .u8) w A0_1 l0_1.length l0_1) (hc0_1 : l0_1.length ≤ c0_1) (hs0_2 : Kd.V (Kd.int .i64) 3 w w.heap.size (fun k_=>P0_2_ k_) (.slice A0_2 l0_2.length c0_2) l0_2) (hs0_3 : Kd.V (Kd.int .i64) 3 w w.heap.size (fun k_=>P0_3_ k_) (.slice A0_3 l0_3.length c0_3) l0_3) (h : spec_GoodSpace.f k l0_0 l0_1 l0_2 l0_3 = some r) :
  Calls Try.prog 39 #[.agg #[.slice A0_0 l0_0.length c0_0,.slice A0_1 l0_1.length c0_1,.slice A0_2 l0_2.length c0_2,.slice A0_3 l0_3.length c0_3]] w fun e w'=>e = .returned (.bool r)∧Below w.heap.size w w':=by
 have hu28:=Try.underlying28
 have HR0_0:=Aside0.mk hr0_0
 have HC0_0:=Aside0.mk hc0_0
 clear hr0_0 hc0_0
 have HR0_1:=Aside0.mk hr0_1
 have HC0_1:=Aside0.mk hc0_1
 clear hr0_1 hc0_1
 have HO0_2:=Aside0.mk (show Kd.V (Kd.int .i64) 3 w w.heap.size (fun k_=>((P0_2_ k_ ∨ P0_3_ k_) ∨ w.heap.size ≤ k_)) (.slice A0_2 l0_2.length c0_2) l0_2 from Kd.V_mono hs0_2 (fun k_ hk=>.inl (.inl hk)))
 have HO0_3:=Aside0.mk (show Kd.V (Kd.int .i64) 3 w w.heap.size (fun k_=>((P0_2_ k_ ∨ P0_3_ k_) ∨ w.heap.size ≤ k_)) (.slice A0_3 l0_3.length c0_3) l0_3 from Kd.V_mono hs0_3 (fun k_ hk=>.inl (.inr hk)))
 have HB:=Aside0.mk (Below.refl w.heap.size w)
 have H : ((spec_l1In.f (l0_0.length : Int) 40 160).bind fun t168=>(if t168 = true then (spec_GoodSpace.j0 k (l0_0.length : Int) ((l0_1.length : Int) != 20) l0_0 l0_1 l0_2 l0_3) else (spec_GoodSpace.j0 k (l0_0.length : Int) true l0_0 l0_1 l0_2 l0_3))) = some r:=h
 clear h
 have HC2:=Aside0.mk H
 clear H
 go_enter Try.func39,Try.ntmps39
 go_upto_region 2 with (first|((with_reducible refine gate_dst (N:=1) rfl ?_);(try (refine gate_guard (by rfl) ?_;dsimp only));refine box_event ?hg (N:=1) ?hd (cs:=#[.slice A0_0 l0_0.length c0_0,.slice A0_1 l0_1.length c0_1,.slice A0_2 l0_2.length c0_2,.slice A0_3 l0_3.length c0_3]) (t:=28) ?hr ?_;(case hd=>rfl);(case hg=>rfl);(case hr=>first|(go_simp;done)|(go_simp;rfl));intro gb167 hg w3 hbox hb;have n0_:=Aside0.mk (Kd.V_below (Kd.V_elderB (by (with_reducible repeat (first|apply Kd.V_alloc|apply Kd.V_drewN|apply Kd.V_drew));exact HO0_2.out) gb167 (Nat.le_of_eq hg.symm)) hb);have n1_:=Aside0.mk (Kd.V_below (Kd.V_elderB (by (with_reducible repeat (first|apply Kd.V_alloc|apply Kd.V_drewN|apply Kd.V_drew));exact HO0_3.out) gb167 (Nat.le_of_eq hg.symm)) hb);have n2_:=Aside0.mk (below_step (by repeat (first|exact HB.out|apply below_alloc|apply pw_below_drewN|apply below_drew1)) hb);have n3_:=Aside0.mk (hbox);have n4_:=Aside0.mk ((by rw [hg];exact (below_size (by repeat (first|exact HB.out|apply below_alloc|apply pw_below_drewN|apply below_drew1))) : w.heap.size ≤ gb167));have n5_:=Aside0.mk ((by rw [hg];exact (below_size (by repeat (first|exact HB.out|apply below_alloc|apply pw_below_drewN|apply below_drew1))) : w.heap.size ≤ gb167));clear HO0_2;clear HO0_3;clear HB;have HO0_2:=n0_;have HO0_3:=n1_;have HB:=n2_;have BK167:=n3_;have GW167:=n4_;have GE167:=n5_;clear n0_ n1_ n2_ n3_ n4_ n5_;clear hb hbox hg;have hcz4_0 : w3.cell? ⟨gb167,0,none⟩ = some (.slice A0_0 l0_0.length c0_0):=(blk_cell BK167.out 0).trans rfl;have hcz4_1 : w3.cell? ⟨gb167,1,none⟩ = some (.slice A0_1 l0_1.length c0_1):=(blk_cell BK167.out 1).trans rfl;have hcz4_2 : w3.cell? ⟨gb167,2,none⟩ = some (.slice A0_2 l0_2.length c0_2):=(blk_cell BK167.out 2).trans rfl;have hcz4_3 : w3.cell? ⟨gb167,3,none⟩ = some (.slice A0_3 l0_3.length c0_3):=(blk_cell BK167.out 3).trans rfl;have hfz4_0:=blk_frozen BK167.out 0;have hfz4_1:=blk_frozen BK167.out 1;have hfz4_2:=blk_frozen BK167.out 2;have hfz4_3:=blk_frozen BK167.out 3))
 (try simp only [Act.put,List.setIfInBounds_toArray,List.set_cons_zero,List.set_cons_succ])
 go_cut [23] (fun v23 wc=>∃ (kq : Nat) (x23_1 : Bool),v23 = .bool x23_1∧Aside0 (spec_GoodSpace.j0 kq (l0_0.length : Int) x23_1 l0_0 l0_1 l0_2 l0_3 = some r)∧Aside0 (kq ≤ k)∧Aside0 (Kd.V (Kd.int .i64) 3 wc w.heap.size (fun k_=>((P0_2_ k_ ∨ P0_3_ k_) ∨ w.heap.size ≤ k_)∧k_ ≠ gb167) (.slice A0_2 l0_2.length c0_2) l0_2)∧Aside0 (Kd.V (Kd.int .i64) 3 wc w.heap.size (fun k_=>((P0_2_ k_ ∨ P0_3_ k_) ∨ w.heap.size ≤ k_)∧k_ ≠ gb167) (.slice A0_3 l0_3.length c0_3) l0_3)∧Aside0 (wc.heap[gb167]? = some (.cells #[(.slice A0_0 l0_0.length c0_0),(.slice A0_1 l0_1.length c0_1),(.slice A0_2 l0_2.length c0_2),(.slice A0_3 l0_3.length c0_3)] 28 (0,0)))∧Aside0 (Below w.heap.size w wc))
 case first =>
  have H:=HC2.out
  clear HC2
  replace H:=Option.bind_eq_some_iff.mp H
  obtain ⟨t168,A50,H⟩:=H
  replace H : (if t168 = true then (spec_GoodSpace.j0 k (l0_0.length : Int) ((l0_1.length : Int) != 20) l0_0 l0_1 l0_2 l0_3) else (spec_GoodSpace.j0 k (l0_0.length : Int) true l0_0 l0_1 l0_2 l0_3)) = some r:=H
  have A5:=Aside0.mk A50
  clear A50
  by_cases c6 : t168 = true
  ·subst c6
   have H1 : (spec_GoodSpace.j0 k (l0_0.length : Int) ((l0_1.length : Int) != 20) l0_0 l0_1 l0_2 l0_3) = some r:=by rw [if_pos rfl] at H;exact H
   clear H
   have H:=H1
   clear H1
   have H':=Aside0.mk H
   clear H
   go_wp2_with (first|((with_reducible refine gate_callee (f:=53) rfl ?_);refine goesL_ (some 16) rfl rfl Try.func53 (by kernel_rfl) rfl #[.int .i64 (l0_0.length : Int),.int .i64 40,.int .i64 160] rfl (by (try simp only [List.map_toArray,List.map_cons,List.map_nil]);first|done|rfl|(simp only [List.length_drop,List.length_take];rfl)) ?_;(with_reducible refine (spec_l1In.calls (l0_0.length : Int) 40 160 true _ A5.out).mono ?_);rintro e w' ⟨rfl,⟨nd,rfl⟩⟩;refine ⟨_,rfl,?_⟩;have hcz7_0 : w3.cell? ⟨gb167,0,none⟩ = some (.slice A0_0 l0_0.length c0_0):=(blk_cell BK167.out 0).trans rfl;have hcz7_1 : w3.cell? ⟨gb167,1,none⟩ = some (.slice A0_1 l0_1.length c0_1):=(blk_cell BK167.out 1).trans rfl;have hcz7_2 : w3.cell? ⟨gb167,2,none⟩ = some (.slice A0_2 l0_2.length c0_2):=(blk_cell BK167.out 2).trans rfl;have hcz7_3 : w3.cell? ⟨gb167,3,none⟩ = some (.slice A0_3 l0_3.length c0_3):=(blk_cell BK167.out 3).trans rfl;have hfz7_0:=blk_frozen BK167.out 0;have hfz7_1:=blk_frozen BK167.out 1;have hfz7_2:=blk_frozen BK167.out 2;have hfz7_3:=blk_frozen BK167.out 3))
   go_meet
   case rel=>exact ⟨_,(((l0_1.length : Int) != 20)),(by first|rfl|(simp;done)|(simp [*];done)),H',⟨by first|omega|exact Nat.le_refl _⟩,⟨by (with_reducible repeat (first|apply Kd.V_alloc|apply Kd.V_drewN|apply Kd.V_drew));exact HO0_2.out⟩,⟨by (with_reducible repeat (first|apply Kd.V_alloc|apply Kd.V_drewN|apply Kd.V_drew));exact HO0_3.out⟩,⟨by (with_reducible repeat first|apply blk_drewN|apply blk_drew|apply blk_alloc);exact BK167.out⟩,⟨by repeat (first|(with_reducible first|exact HB.out|apply below_alloc|apply pw_below_drewN|apply below_drew1|refine below_set ?_ GE167.out)|exact HB.out)⟩⟩
  ·replace c6:=Bool.eq_false_iff.mpr c6
   subst c6
   have H1 : (spec_GoodSpace.j0 k (l0_0.length : Int) true l0_0 l0_1 l0_2 l0_3) = some r:=by rw [if_neg (show ¬ (false = true) by decide)] at H;exact H
   clear H
   have H:=H1
   clear H1
   have H':=Aside0.mk H
   clear H
   go_wp2_with (first|((with_reducible refine gate_callee (f:=53) rfl ?_);refine goesL_ (some 16) rfl rfl Try.func53 (by kernel_rfl) rfl #[.int .i64 (l0_0.length : Int),.int .i64 40,.int .i64 160] rfl (by (try simp only [List.map_toArray,List.map_cons,List.map_nil]);first|done|rfl|(simp only [List.length_drop,List.length_take];rfl)) ?_;(with_reducible refine (spec_l1In.calls (l0_0.length : Int) 40 160 false _ A5.out).mono ?_);rintro e w' ⟨rfl,⟨nd,rfl⟩⟩;refine ⟨_,rfl,?_⟩))
   go_meet
   case rel=>exact ⟨_,(true),(by first|rfl|(simp;done)|(simp [*];done)),H',⟨by first|omega|exact Nat.le_refl _⟩,⟨by (with_reducible repeat (first|apply Kd.V_alloc|apply Kd.V_drewN|apply Kd.V_drew));exact HO0_2.out⟩,⟨by (with_reducible repeat (first|apply Kd.V_alloc|apply Kd.V_drewN|apply Kd.V_drew));exact HO0_3.out⟩,⟨by (with_reducible repeat first|apply blk_drewN|apply blk_drew|apply blk_alloc);exact BK167.out⟩,⟨by repeat (first|(with_reducible first|exact HB.out|apply below_alloc|apply pw_below_drewN|apply below_drew1|refine below_set ?_ GE167.out)|exact HB.out)⟩⟩
 case rest =>
  clear HC2
  try clear p2;try clear c3;try clear c5;try clear c6;try clear hcz4_0;try clear hcz4_1;try clear hcz4_2;try clear hcz4_3;try clear hcz7_0;try clear hcz7_1;try clear hcz7_2;try clear hcz7_3;try clear hfz4_0;try clear hfz4_1;try clear hfz4_2;try clear hfz4_3;try clear hfz7_0;try clear hfz7_1;try clear hfz7_2;try clear hfz7_3
  obtain ⟨kq,x23_1,rfl,HA,HJ1,HO_168002,HO_168003,BK167,HB⟩:=hcut
  cases kq with
  | zero=>exact absurd HA.out (by simp [spec_GoodSpace.j0])
  | succ kj1 =>
   have H:=HA.out
   clear HA
   simp only [spec_GoodSpace.j0] at H
   by_cases c8 : x23_1 = true
   ·subst c8
    have H1 : (some false) = some r:=by rw [if_pos rfl] at H;exact H
    clear H
    have H:=H1
    clear H1
    obtain rfl:=Option.some.inj H
    go_wp2
    go_ret
    exact ⟨by first|rfl|(simp [*,errW_none,errW_some] <;> rfl),by repeat (first|(with_reducible first|exact HB.out|apply below_alloc|apply pw_below_drewN|apply below_drew1|refine below_set ?_ GE167.out)|exact HB.out)⟩
   ·replace c8:=Bool.eq_false_iff.mpr c8
    subst c8
    have H1 : (spec_GoodSpace.l0 kj1 (l0_0.length : Int) l0_0 (l0_0.length : Int) 0 l0_0 l0_1 l0_2 l0_3) = some r:=by rw [if_neg (show ¬ (false = true) by decide)] at H;exact H
    clear H
    have H:=H1
    clear H1
    have H':=Aside0.mk H
    clear H
    have hcz9_0 : wc.cell? ⟨gb167,0,none⟩ = some (.slice A0_0 l0_0.length c0_0):=(blk_cell BK167.out 0).trans rfl
    have hcz9_1 : wc.cell? ⟨gb167,1,none⟩ = some (.slice A0_1 l0_1.length c0_1):=(blk_cell BK167.out 1).trans rfl
    have hcz9_2 : wc.cell? ⟨gb167,2,none⟩ = some (.slice A0_2 l0_2.length c0_2):=(blk_cell BK167.out 2).trans rfl
    have hcz9_3 : wc.cell? ⟨gb167,3,none⟩ = some (.slice A0_3 l0_3.length c0_3):=(blk_cell BK167.out 3).trans rfl
    have hfz9_0:=blk_frozen BK167.out 0
    have hfz9_1:=blk_frozen BK167.out 1
    have hfz9_2:=blk_frozen BK167.out 2
    have hfz9_3:=blk_frozen BK167.out 3
    go_wp2
    go_loopg [27] kj1 (fun kq v27 w'=>∃ (x27_2 : Int),v27 = .int .i64 x27_2∧Aside0 (spec_GoodSpace.l0 kq (l0_0.length : Int) l0_0 (l0_0.length : Int) x27_2 l0_0 l0_1 l0_2 l0_3 = some r)∧Aside0 (kq ≤ kj1)∧Aside0 (Kd.V (Kd.int .i64) 3 w' w.heap.size (fun k_=>((P0_2_ k_ ∨ P0_3_ k_) ∨ w.heap.size ≤ k_)∧k_ ≠ gb167) (.slice A0_2 l0_2.length c0_2) l0_2)∧Aside0 (Kd.V (Kd.int .i64) 3 w' w.heap.size (fun k_=>((P0_2_ k_ ∨ P0_3_ k_) ∨ w.heap.size ≤ k_)∧k_ ≠ gb167) (.slice A0_3 l0_3.length c0_3) l0_3)∧Aside0 (w'.heap[gb167]? = some (.cells #[(.slice A0_0 l0_0.length c0_0),(.slice A0_1 l0_1.length c0_1),(.slice A0_2 l0_2.length c0_2),(.slice A0_3 l0_3.length c0_3)] 28 (0,0)))∧Aside0 (Below w.heap.size w w'))
    case atStart=>exact ⟨(0),(by first|rfl|(simp;done)|(simp [*];done)),H',⟨Nat.le_refl _⟩,⟨by (with_reducible repeat (first|apply Kd.V_alloc|apply Kd.V_drewN|apply Kd.V_drew));exact HO_168002.out⟩,⟨by (with_reducible repeat (first|apply Kd.V_alloc|apply Kd.V_drewN|apply Kd.V_drew));exact HO_168003.out⟩,⟨by (with_reducible repeat first|apply blk_drewN|apply blk_drew|apply blk_alloc);exact BK167.out⟩,⟨by repeat (first|(with_reducible first|exact HB.out|apply below_alloc|apply pw_below_drewN|apply below_drew1|refine below_set ?_ GE167.out)|exact HB.out)⟩⟩
    case round =>
     clear H'
     try clear p2;try clear c3;try clear c5;try clear c6;try clear c8;try clear hcz4_0;try clear hcz4_1;try clear hcz4_2;try clear hcz4_3;try clear hcz7_0;try clear hcz7_1;try clear hcz7_2;try clear hcz7_3;try clear hcz9_0;try clear hcz9_1;try clear hcz9_2;try clear hcz9_3;try clear hfz4_0;try clear hfz4_1;try clear hfz4_2;try clear hfz4_3;try clear hfz7_0;try clear hfz7_1;try clear hfz7_2;try clear hfz7_3;try clear hfz9_0;try clear hfz9_1;try clear hfz9_2;try clear hfz9_3;try clear p2
     obtain ⟨x27_2,rfl,HA,HK2,HO_168002,HO_168003,BK167,HB⟩:=hrel
     cases gk with
     | zero=>exact absurd HA.out (by simp [spec_GoodSpace.l0])
     | succ k2 =>
      have H:=HA.out
      clear HA
      simp only [spec_GoodSpace.l0] at H
      by_cases c10 : x27_2 < (l0_0.length : Int)
      ·rw [if_pos c10] at H
       have c10b0 : decide (x27_2 < (l0_0.length : Int)) = true:=decide_eq_true c10
       clear c10
       by_cases c11 : 0 ≤ x27_2
       ·rw [if_pos c11] at H
        have c11b0 : decide (0 ≤ x27_2) = true:=decide_eq_true c11
        clear c11
        by_cases c12 : x27_2 < (l0_0.length : Int)
        ·rw [if_pos c12] at H
         have c12b0 : decide (x27_2 < (l0_0.length : Int)) = true:=decide_eq_true c12
         clear c12
         by_cases c13 : ((rd_L1 l0_0 x27_2).length : Int) = 128
         ·rw [if_pos c13] at H
          have c13b0 : (((rd_L1 l0_0 x27_2).length : Int) == 128) = true:=beq_iff_eq.mpr c13
          have c13b1 : (((rd_L1 l0_0 x27_2).length : Int) != 128) = false:=bne_eq_false_iff_eq.mpr c13
          clear c13
          have H':=Aside0.mk H
          clear H
          have p169 : 0 ≤ (x27_2 : Int):=of_decide_eq_true (by assumption)
          have q169 : x27_2 < (l0_0.length : Int):=of_decide_eq_true (by assumption)
          obtain ⟨ad169,A169_0,c169_0,e169,hx169_0,hl169_0,hi169_0⟩:=at_L1 HR0_0.out x27_2 p169 q169
          cases e169
          (try replace hx169_0:=(HB.out.cell (World.block_lt_of_cell? w _ hx169_0)).trans hx169_0)
          have HR169_0:=Aside0.mk hi169_0
          have HC169_0:=Aside0.mk hl169_0
          clear hi169_0 hl169_0
          replace p169:=eq_true p169
          replace q169:=eq_true q169
          go_wp2
          go_roundg k2
          case measure=>have:=HJ1.out;have:=HK2.out;omega
          case rel=>exact ⟨(wrap64 (x27_2 + 1)),(by first|rfl|(simp;done)|(simp [*];done)),H',⟨by have:=HJ1.out;have:=HK2.out;omega⟩,⟨by (with_reducible repeat (first|apply Kd.V_alloc|apply Kd.V_drewN|apply Kd.V_drew));exact HO_168002.out⟩,⟨by (with_reducible repeat (first|apply Kd.V_alloc|apply Kd.V_drewN|apply Kd.V_drew));exact HO_168003.out⟩,⟨by (with_reducible repeat first|apply blk_drewN|apply blk_drew|apply blk_alloc);exact BK167.out⟩,⟨by repeat (first|(with_reducible first|exact HB.out|apply below_alloc|apply pw_below_drewN|apply below_drew1|refine below_set ?_ GE167.out)|exact HB.out)⟩⟩
         ·rw [if_neg c13] at H
          have c13b0 : (((rd_L1 l0_0 x27_2).length : Int) == 128) = false:=beq_eq_false_iff_ne.mpr c13
          have c13b1 : (((rd_L1 l0_0 x27_2).length : Int) != 128) = true:=bne_iff_ne.mpr c13
          obtain rfl:=Option.some.inj H
          have p169 : 0 ≤ (x27_2 : Int):=of_decide_eq_true (by assumption)
          have q169 : x27_2 < (l0_0.length : Int):=of_decide_eq_true (by assumption)
          obtain ⟨ad169,A169_0,c169_0,e169,hx169_0,hl169_0,hi169_0⟩:=at_L1 HR0_0.out x27_2 p169 q169
          cases e169
          (try replace hx169_0:=(HB.out.cell (World.block_lt_of_cell? w _ hx169_0)).trans hx169_0)
          have HR169_0:=Aside0.mk hi169_0
          have HC169_0:=Aside0.mk hl169_0
          clear hi169_0 hl169_0
          replace p169:=eq_true p169
          replace q169:=eq_true q169
          go_wp2
          go_ret
          exact ⟨by first|rfl|(simp [*,errW_none,errW_some] <;> rfl),by repeat (first|(with_reducible first|exact HB.out|apply below_alloc|apply pw_below_drewN|apply below_drew1|refine below_set ?_ GE167.out)|exact HB.out)⟩
        ·rw [if_neg c12] at H
         exact absurd H (by simp)
       ·rw [if_neg c11] at H
        exact absurd H (by simp)
      ·rw [if_neg c10] at H
       have c10b0 : decide (x27_2 < (l0_0.length : Int)) = false:=decide_eq_false c10
       clear c10
       have H':=Aside0.mk H
       clear H
       go_wp2
       go_loopg [6] k2 (fun kq v6 w'=>∃ (x6_3 : Int),v6 = .int .i64 x6_3∧Aside0 (spec_GoodSpace.l1 kq (l0_0.length : Int) x6_3 l0_0 l0_1 l0_2 l0_3 = some r)∧Aside0 (kq ≤ k2)∧Aside0 (Kd.V (Kd.int .i64) 3 w' w.heap.size (fun k_=>((P0_2_ k_ ∨ P0_3_ k_) ∨ w.heap.size ≤ k_)∧k_ ≠ gb167) (.slice A0_2 l0_2.length c0_2) l0_2)∧Aside0 (Kd.V (Kd.int .i64) 3 w' w.heap.size (fun k_=>((P0_2_ k_ ∨ P0_3_ k_) ∨ w.heap.size ≤ k_)∧k_ ≠ gb167) (.slice A0_3 l0_3.length c0_3) l0_3)∧Aside0 (w'.heap[gb167]? = some (.cells #[(.slice A0_0 l0_0.length c0_0),(.slice A0_1 l0_1.length c0_1),(.slice A0_2 l0_2.length c0_2),(.slice A0_3 l0_3.length c0_3)] 28 (0,0)))∧Aside0 (Below w.heap.size w w'))
       case atStart=>exact ⟨(0),(by first|rfl|(simp;done)|(simp [*];done)),H',⟨Nat.le_refl _⟩,⟨by (with_reducible repeat (first|apply Kd.V_alloc|apply Kd.V_drewN|apply Kd.V_drew));exact HO_168002.out⟩,⟨by (with_reducible repeat (first|apply Kd.V_alloc|apply Kd.V_drewN|apply Kd.V_drew));exact HO_168003.out⟩,⟨by (with_reducible repeat first|apply blk_drewN|apply blk_drew|apply blk_alloc);exact BK167.out⟩,⟨by repeat (first|(with_reducible first|exact HB.out|apply below_alloc|apply pw_below_drewN|apply below_drew1|refine below_set ?_ GE167.out)|exact HB.out)⟩⟩
       case round =>
        clear H'
        try clear c1;try clear p1;try clear q1;try clear hx1;try clear p2;try clear c3;try clear c5;try clear c6;try clear p6;try clear c8;try clear c10;try clear c10b0;try clear c11;try clear c11b0;try clear c12;try clear c12b0;try clear c13;try clear c13b0;try clear c13b1;try clear hcz4_0;try clear hcz4_1;try clear hcz4_2;try clear hcz4_3;try clear hcz7_0;try clear hcz7_1;try clear hcz7_2;try clear hcz7_3;try clear hcz9_0;try clear hcz9_1;try clear hcz9_2;try clear hcz9_3;try clear hfz4_0;try clear hfz4_1;try clear hfz4_2;try clear hfz4_3;try clear hfz7_0;try clear hfz7_1;try clear hfz7_2;try clear hfz7_3;try clear hfz9_0;try clear hfz9_1;try clear hfz9_2;try clear hfz9_3;try clear hx169_0;try clear p169;try clear p2;try clear q169
        obtain ⟨x6_3,rfl,HA,HK3,HO_168002,HO_168003,BK167,HB⟩:=hrel
        cases gk with
        | zero=>exact absurd HA.out (by simp [spec_GoodSpace.l1])
        | succ k3 =>
         have H:=HA.out
         clear HA
         simp only [spec_GoodSpace.l1] at H
         by_cases c14 : x6_3 < 160
         ·rw [if_pos c14] at H
          have c14b0 : decide (x6_3 < 160) = true:=decide_eq_true c14
          clear c14
          replace H:=Option.bind_eq_some_iff.mp H
          obtain ⟨t170,A150,H⟩:=H
          replace H : (if x6_3 < 33 then (if t170 = true then (if x6_3 ≥ (l0_0.length : Int) then (some false) else (spec_GoodSpace.l1 k3 (l0_0.length : Int) (wrap64 (x6_3 + 1)) l0_0 l0_1 l0_2 l0_3)) else (some false)) else (if x6_3 ≥ (l0_0.length : Int) then (if t170 = true then (some false) else (spec_GoodSpace.l1 k3 (l0_0.length : Int) (wrap64 (x6_3 + 1)) l0_0 l0_1 l0_2 l0_3)) else (spec_GoodSpace.l1 k3 (l0_0.length : Int) (wrap64 (x6_3 + 1)) l0_0 l0_1 l0_2 l0_3))) = some r:=H
          have A15:=Aside0.mk A150
          clear A150
          by_cases c16 : x6_3 < 33
          ·rw [if_pos c16] at H
           have c16b0 : decide (x6_3 < 33) = true:=decide_eq_true c16
           clear c16
           by_cases c17 : t170 = true
           ·subst c17
            have H1 : (if x6_3 ≥ (l0_0.length : Int) then (some false) else (spec_GoodSpace.l1 k3 (l0_0.length : Int) (wrap64 (x6_3 + 1)) l0_0 l0_1 l0_2 l0_3)) = some r:=by rw [if_pos rfl] at H;exact H
            clear H
            have H:=H1
            clear H1
            by_cases c18 : x6_3 ≥ (l0_0.length : Int)
            ·rw [if_pos c18] at H
             have c18b0 : decide ((l0_0.length : Int) ≤ x6_3) = true:=decide_eq_true c18
             clear c18
             obtain rfl:=Option.some.inj H
             have hcz19_0 : wr.cell? ⟨gb167,0,none⟩ = some (.slice A0_0 l0_0.length c0_0):=(blk_cell BK167.out 0).trans rfl
             have hcz19_1 : wr.cell? ⟨gb167,1,none⟩ = some (.slice A0_1 l0_1.length c0_1):=(blk_cell BK167.out 1).trans rfl
             have hcz19_2 : wr.cell? ⟨gb167,2,none⟩ = some (.slice A0_2 l0_2.length c0_2):=(blk_cell BK167.out 2).trans rfl
             have hcz19_3 : wr.cell? ⟨gb167,3,none⟩ = some (.slice A0_3 l0_3.length c0_3):=(blk_cell BK167.out 3).trans rfl
             have hfz19_0:=blk_frozen BK167.out 0
             have hfz19_1:=blk_frozen BK167.out 1
             have hfz19_2:=blk_frozen BK167.out 2
             have hfz19_3:=blk_frozen BK167.out 3
             go_wp2_with (first|((with_reducible refine gate_callee (f:=54) rfl ?_);refine goesL_ (some 42) rfl rfl Try.func54 (by kernel_rfl) rfl #[.slice A0_1 l0_1.length c0_1,.int .i64 x6_3] rfl (by (try simp only [List.map_toArray,List.map_cons,List.map_nil]);first|done|rfl|(simp only [List.length_drop,List.length_take];rfl)) ?_;(with_reducible refine (spec_l5Used.calls _ _ l0_1 x6_3 true _ ?side1 ?side2 A15.out).mono ?_);(case side1=>repeat (first|exact (Kd.C_below HR0_1.out HB.out)|(with_reducible first|apply Kd.C_alloc|apply Kd.C_drewN|apply Kd.C_drew)));(case side2=>exact HC0_1.out);rintro e w' ⟨rfl,⟨nd,rfl⟩⟩;refine ⟨_,rfl,?_⟩))
             go_ret
             exact ⟨by first|rfl|(simp [*,errW_none,errW_some] <;> rfl),by repeat (first|(with_reducible first|exact HB.out|apply below_alloc|apply pw_below_drewN|apply below_drew1|refine below_set ?_ GE167.out)|exact HB.out)⟩
            ·rw [if_neg c18] at H
             have c18b0 : decide ((l0_0.length : Int) ≤ x6_3) = false:=decide_eq_false c18
             clear c18
             have H':=Aside0.mk H
             clear H
             have hcz20_0 : wr.cell? ⟨gb167,0,none⟩ = some (.slice A0_0 l0_0.length c0_0):=(blk_cell BK167.out 0).trans rfl
             have hcz20_1 : wr.cell? ⟨gb167,1,none⟩ = some (.slice A0_1 l0_1.length c0_1):=(blk_cell BK167.out 1).trans rfl
             have hcz20_2 : wr.cell? ⟨gb167,2,none⟩ = some (.slice A0_2 l0_2.length c0_2):=(blk_cell BK167.out 2).trans rfl
             have hcz20_3 : wr.cell? ⟨gb167,3,none⟩ = some (.slice A0_3 l0_3.length c0_3):=(blk_cell BK167.out 3).trans rfl
             have hfz20_0:=blk_frozen BK167.out 0
             have hfz20_1:=blk_frozen BK167.out 1
             have hfz20_2:=blk_frozen BK167.out 2
             have hfz20_3:=blk_frozen BK167.out 3
             go_wp2_with (first|((with_reducible refine gate_callee (f:=54) rfl ?_);refine goesL_ (some 42) rfl rfl Try.func54 (by kernel_rfl) rfl #[.slice A0_1 l0_1.length c0_1,.int .i64 x6_3] rfl (by (try simp only [List.map_toArray,List.map_cons,List.map_nil]);first|done|rfl|(simp only [List.length_drop,List.length_take];rfl)) ?_;(with_reducible refine (spec_l5Used.calls _ _ l0_1 x6_3 true _ ?side1 ?side2 A15.out).mono ?_);(case side1=>repeat (first|exact (Kd.C_below HR0_1.out HB.out)|(with_reducible first|apply Kd.C_alloc|apply Kd.C_drewN|apply Kd.C_drew)));(case side2=>exact HC0_1.out);rintro e w' ⟨rfl,⟨nd,rfl⟩⟩;refine ⟨_,rfl,?_⟩))
             go_roundg k3
             case measure=>have:=HJ1.out;have:=HK2.out;have:=HK3.out;omega
             case rel=>exact ⟨(wrap64 (x6_3 + 1)),(by first|rfl|(simp;done)|(simp [*];done)),H',⟨by have:=HJ1.out;have:=HK2.out;have:=HK3.out;omega⟩,⟨by (with_reducible repeat (first|apply Kd.V_alloc|apply Kd.V_drewN|apply Kd.V_drew));exact HO_168002.out⟩,⟨by (with_reducible repeat (first|apply Kd.V_alloc|apply Kd.V_drewN|apply Kd.V_drew));exact HO_168003.out⟩,⟨by (with_reducible repeat first|apply blk_drewN|apply blk_drew|apply blk_alloc);exact BK167.out⟩,⟨by repeat (first|(with_reducible first|exact HB.out|apply below_alloc|apply pw_below_drewN|apply below_drew1|refine below_set ?_ GE167.out)|exact HB.out)⟩⟩
           ·replace c17:=Bool.eq_false_iff.mpr c17
            subst c17
            have H1 : (some false) = some r:=by rw [if_neg (show ¬ (false = true) by decide)] at H;exact H
            clear H
            have H:=H1
            clear H1
            obtain rfl:=Option.some.inj H
            have hcz21_0 : wr.cell? ⟨gb167,0,none⟩ = some (.slice A0_0 l0_0.length c0_0):=(blk_cell BK167.out 0).trans rfl
            have hcz21_1 : wr.cell? ⟨gb167,1,none⟩ = some (.slice A0_1 l0_1.length c0_1):=(blk_cell BK167.out 1).trans rfl
            have hcz21_2 : wr.cell? ⟨gb167,2,none⟩ = some (.slice A0_2 l0_2.length c0_2):=(blk_cell BK167.out 2).trans rfl
            have hcz21_3 : wr.cell? ⟨gb167,3,none⟩ = some (.slice A0_3 l0_3.length c0_3):=(blk_cell BK167.out 3).trans rfl
            have hfz21_0:=blk_frozen BK167.out 0
            have hfz21_1:=blk_frozen BK167.out 1
            have hfz21_2:=blk_frozen BK167.out 2
            have hfz21_3:=blk_frozen BK167.out 3
            go_wp2_with (first|((with_reducible refine gate_callee (f:=54) rfl ?_);refine goesL_ (some 42) rfl rfl Try.func54 (by kernel_rfl) rfl #[.slice A0_1 l0_1.length c0_1,.int .i64 x6_3] rfl (by (try simp only [List.map_toArray,List.map_cons,List.map_nil]);first|done|rfl|(simp only [List.length_drop,List.length_take];rfl)) ?_;(with_reducible refine (spec_l5Used.calls _ _ l0_1 x6_3 false _ ?side1 ?side2 A15.out).mono ?_);(case side1=>repeat (first|exact (Kd.C_below HR0_1.out HB.out)|(with_reducible first|apply Kd.C_alloc|apply Kd.C_drewN|apply Kd.C_drew)));(case side2=>exact HC0_1.out);rintro e w' ⟨rfl,⟨nd,rfl⟩⟩;refine ⟨_,rfl,?_⟩))
            go_ret
            exact ⟨by first|rfl|(simp [*,errW_none,errW_some] <;> rfl),by repeat (first|(with_reducible first|exact HB.out|apply below_alloc|apply pw_below_drewN|apply below_drew1|refine below_set ?_ GE167.out)|exact HB.out)⟩
          ·rw [if_neg c16] at H
           have c16b0 : decide (x6_3 < 33) = false:=decide_eq_false c16
           clear c16
           by_cases c22 : x6_3 ≥ (l0_0.length : Int)
           ·rw [if_pos c22] at H
            have c22b0 : decide ((l0_0.length : Int) ≤ x6_3) = true:=decide_eq_true c22
            clear c22
            by_cases c23 : t170 = true
            ·subst c23
             have H1 : (some false) = some r:=by rw [if_pos rfl] at H;exact H
             clear H
             have H:=H1
             clear H1
             obtain rfl:=Option.some.inj H
             have hcz24_0 : wr.cell? ⟨gb167,0,none⟩ = some (.slice A0_0 l0_0.length c0_0):=(blk_cell BK167.out 0).trans rfl
             have hcz24_1 : wr.cell? ⟨gb167,1,none⟩ = some (.slice A0_1 l0_1.length c0_1):=(blk_cell BK167.out 1).trans rfl
             have hcz24_2 : wr.cell? ⟨gb167,2,none⟩ = some (.slice A0_2 l0_2.length c0_2):=(blk_cell BK167.out 2).trans rfl
             have hcz24_3 : wr.cell? ⟨gb167,3,none⟩ = some (.slice A0_3 l0_3.length c0_3):=(blk_cell BK167.out 3).trans rfl
             have hfz24_0:=blk_frozen BK167.out 0
             have hfz24_1:=blk_frozen BK167.out 1
             have hfz24_2:=blk_frozen BK167.out 2
             have hfz24_3:=blk_frozen BK167.out 3
             go_wp2_with (first|((with_reducible refine gate_callee (f:=54) rfl ?_);refine goesL_ (some 42) rfl rfl Try.func54 (by kernel_rfl) rfl #[.slice A0_1 l0_1.length c0_1,.int .i64 x6_3] rfl (by (try simp only [List.map_toArray,List.map_cons,List.map_nil]);first|done|rfl|(simp only [List.length_drop,List.length_take];rfl)) ?_;(with_reducible refine (spec_l5Used.calls _ _ l0_1 x6_3 true _ ?side1 ?side2 A15.out).mono ?_);(case side1=>repeat (first|exact (Kd.C_below HR0_1.out HB.out)|(with_reducible first|apply Kd.C_alloc|apply Kd.C_drewN|apply Kd.C_drew)));(case side2=>exact HC0_1.out);rintro e w' ⟨rfl,⟨nd,rfl⟩⟩;refine ⟨_,rfl,?_⟩))
             go_ret
             exact ⟨by first|rfl|(simp [*,errW_none,errW_some] <;> rfl),by repeat (first|(with_reducible first|exact HB.out|apply below_alloc|apply pw_below_drewN|apply below_drew1|refine below_set ?_ GE167.out)|exact HB.out)⟩
            ·replace c23:=Bool.eq_false_iff.mpr c23
             subst c23
             have H1 : (spec_GoodSpace.l1 k3 (l0_0.length : Int) (wrap64 (x6_3 + 1)) l0_0 l0_1 l0_2 l0_3) = some r:=by rw [if_neg (show ¬ (false = true) by decide)] at H;exact H
             clear H
             have H:=H1
             clear H1
             have H':=Aside0.mk H
             clear H
             have hcz25_0 : wr.cell? ⟨gb167,0,none⟩ = some (.slice A0_0 l0_0.length c0_0):=(blk_cell BK167.out 0).trans rfl
             have hcz25_1 : wr.cell? ⟨gb167,1,none⟩ = some (.slice A0_1 l0_1.length c0_1):=(blk_cell BK167.out 1).trans rfl
             have hcz25_2 : wr.cell? ⟨gb167,2,none⟩ = some (.slice A0_2 l0_2.length c0_2):=(blk_cell BK167.out 2).trans rfl
             have hcz25_3 : wr.cell? ⟨gb167,3,none⟩ = some (.slice A0_3 l0_3.length c0_3):=(blk_cell BK167.out 3).trans rfl
             have hfz25_0:=blk_frozen BK167.out 0
             have hfz25_1:=blk_frozen BK167.out 1
             have hfz25_2:=blk_frozen BK167.out 2
             have hfz25_3:=blk_frozen BK167.out 3
             go_wp2_with (first|((with_reducible refine gate_callee (f:=54) rfl ?_);refine goesL_ (some 42) rfl rfl Try.func54 (by kernel_rfl) rfl #[.slice A0_1 l0_1.length c0_1,.int .i64 x6_3] rfl (by (try simp only [List.map_toArray,List.map_cons,List.map_nil]);first|done|rfl|(simp only [List.length_drop,List.length_take];rfl)) ?_;(with_reducible refine (spec_l5Used.calls _ _ l0_1 x6_3 false _ ?side1 ?side2 A15.out).mono ?_);(case side1=>repeat (first|exact (Kd.C_below HR0_1.out HB.out)|(with_reducible first|apply Kd.C_alloc|apply Kd.C_drewN|apply Kd.C_drew)));(case side2=>exact HC0_1.out);rintro e w' ⟨rfl,⟨nd,rfl⟩⟩;refine ⟨_,rfl,?_⟩))
             go_roundg k3
             case measure=>have:=HJ1.out;have:=HK2.out;have:=HK3.out;omega
             case rel=>exact ⟨(wrap64 (x6_3 + 1)),(by first|rfl|(simp;done)|(simp [*];done)),H',⟨by have:=HJ1.out;have:=HK2.out;have:=HK3.out;omega⟩,⟨by (with_reducible repeat (first|apply Kd.V_alloc|apply Kd.V_drewN|apply Kd.V_drew));exact HO_168002.out⟩,⟨by (with_reducible repeat (first|apply Kd.V_alloc|apply Kd.V_drewN|apply Kd.V_drew));exact HO_168003.out⟩,⟨by (with_reducible repeat first|apply blk_drewN|apply blk_drew|apply blk_alloc);exact BK167.out⟩,⟨by repeat (first|(with_reducible first|exact HB.out|apply below_alloc|apply pw_below_drewN|apply below_drew1|refine below_set ?_ GE167.out)|exact HB.out)⟩⟩
           ·rw [if_neg c22] at H
            have c22b0 : decide ((l0_0.length : Int) ≤ x6_3) = false:=decide_eq_false c22
            clear c22
            have H':=Aside0.mk H
            clear H
            have hcz26_0 : wr.cell? ⟨gb167,0,none⟩ = some (.slice A0_0 l0_0.length c0_0):=(blk_cell BK167.out 0).trans rfl
            have hcz26_1 : wr.cell? ⟨gb167,1,none⟩ = some (.slice A0_1 l0_1.length c0_1):=(blk_cell BK167.out 1).trans rfl
            have hcz26_2 : wr.cell? ⟨gb167,2,none⟩ = some (.slice A0_2 l0_2.length c0_2):=(blk_cell BK167.out 2).trans rfl
            have hcz26_3 : wr.cell? ⟨gb167,3,none⟩ = some (.slice A0_3 l0_3.length c0_3):=(blk_cell BK167.out 3).trans rfl
            have hfz26_0:=blk_frozen BK167.out 0
            have hfz26_1:=blk_frozen BK167.out 1
            have hfz26_2:=blk_frozen BK167.out 2
            have hfz26_3:=blk_frozen BK167.out 3
            go_wp2_with (first|((with_reducible refine gate_callee (f:=54) rfl ?_);refine goesL_ (some 42) rfl rfl Try.func54 (by kernel_rfl) rfl #[.slice A0_1 l0_1.length c0_1,.int .i64 x6_3] rfl (by (try simp only [List.map_toArray,List.map_cons,List.map_nil]);first|done|rfl|(simp only [List.length_drop,List.length_take];rfl)) ?_;(with_reducible refine (spec_l5Used.calls _ _ l0_1 x6_3 t170 _ ?side1 ?side2 A15.out).mono ?_);(case side1=>repeat (first|exact (Kd.C_below HR0_1.out HB.out)|(with_reducible first|apply Kd.C_alloc|apply Kd.C_drewN|apply Kd.C_drew)));(case side2=>exact HC0_1.out);rintro e w' ⟨rfl,⟨nd,rfl⟩⟩;refine ⟨_,rfl,?_⟩))
            go_roundg k3
            case measure=>have:=HJ1.out;have:=HK2.out;have:=HK3.out;omega
            case rel=>exact ⟨(wrap64 (x6_3 + 1)),(by first|rfl|(simp;done)|(simp [*];done)),H',⟨by have:=HJ1.out;have:=HK2.out;have:=HK3.out;omega⟩,⟨by (with_reducible repeat (first|apply Kd.V_alloc|apply Kd.V_drewN|apply Kd.V_drew));exact HO_168002.out⟩,⟨by (with_reducible repeat (first|apply Kd.V_alloc|apply Kd.V_drewN|apply Kd.V_drew));exact HO_168003.out⟩,⟨by (with_reducible repeat first|apply blk_drewN|apply blk_drew|apply blk_alloc);exact BK167.out⟩,⟨by repeat (first|(with_reducible first|exact HB.out|apply below_alloc|apply pw_below_drewN|apply below_drew1|refine below_set ?_ GE167.out)|exact HB.out)⟩⟩
         ·rw [if_neg c14] at H
          have c14b0 : decide (x6_3 < 160) = false:=decide_eq_false c14
          clear c14
          obtain ⟨y171,hy171⟩ : ∃ y_ : List (List Int),y_ = (([l0_2,l0_3] : List (List Int))):=⟨_,rfl⟩
          replace H : (spec_GoodSpace.l2 k3 (l0_0.length : Int) y171 (y171.length : Int) 0 l0_0 l0_1 l0_2 l0_3) = some r:=by first|(rw [hy171];with_reducible exact H)|(have H2_:=(Option.bind_some _ _).symm.trans H;rw [hy171];with_reducible exact H2_)|(have H2_:=(Option.bind_some _ _).symm.trans H;with_reducible exact H2_)|with_reducible exact H|(rw [hy171];exact H)|exact H
          have Ny171:=Aside0.mk hy171
          clear hy171
          have H':=Aside0.mk H
          clear H
          have hcz27_0 : wr.cell? ⟨gb167,0,none⟩ = some (.slice A0_0 l0_0.length c0_0):=(blk_cell BK167.out 0).trans rfl
          have hcz27_1 : wr.cell? ⟨gb167,1,none⟩ = some (.slice A0_1 l0_1.length c0_1):=(blk_cell BK167.out 1).trans rfl
          have hcz27_2 : wr.cell? ⟨gb167,2,none⟩ = some (.slice A0_2 l0_2.length c0_2):=(blk_cell BK167.out 2).trans rfl
          have hcz27_3 : wr.cell? ⟨gb167,3,none⟩ = some (.slice A0_3 l0_3.length c0_3):=(blk_cell BK167.out 3).trans rfl
          have hfz27_0:=blk_frozen BK167.out 0
          have hfz27_1:=blk_frozen BK167.out 1
          have hfz27_2:=blk_frozen BK167.out 2
          have hfz27_3:=blk_frozen BK167.out 3
          go_wp2_with (first|((with_reducible refine gate_dst (N:=61) rfl ?_);(try (refine gate_guard (by rfl) ?_;dsimp only));refine Kd.N_lit (Kd.slice 3 (Kd.int .i64)) _ 24 ?hg (N':=61) ?hd (xs:=([l0_2,l0_3] : List (List Int))) (inner:=[.slice A0_2 l0_2.length c0_2,.slice A0_3 l0_3.length c0_3]) (ok:=(fun k_=>((P0_2_ k_ ∨ P0_3_ k_) ∨ w.heap.size ≤ k_)∧k_ ≠ gb167)) (okp:=(fun k_=>((P0_2_ k_ ∨ P0_3_ k_) ∨ w.heap.size ≤ k_)∧k_ ≠ gb167)) ?hr ?hp (fun _ hk=>hk) ((show ∀ k_,wr.heap.size ≤ k_ → (fun k_=>((P0_2_ k_ ∨ P0_3_ k_) ∨ w.heap.size ≤ k_)∧k_ ≠ gb167) k_ from fun k_ hk=>⟨(.inr (Nat.le_trans (below_size (by repeat (first|(with_reducible first|exact HB.out|apply below_alloc|apply pw_below_drewN|apply below_drew1|refine below_set ?_ GE167.out)|exact HB.out))) hk)),Kd.freshB (g:=gb167) (o:=.cells #[.slice A0_0 l0_0.length c0_0,.slice A0_1 l0_1.length c0_1,.slice A0_2 l0_2.length c0_2,.slice A0_3 l0_3.length c0_3] 28 (0,0)) (by (with_reducible repeat first|apply blk_drewN|apply blk_drew|apply blk_alloc);exact BK167.out) k_ hk⟩) _ (Nat.le_refl _)) (Below.refl _ _) (Nat.le_refl _) (by simp) ?_;(case hd=>rfl);(case hg=>rfl);(case hr=>first|(go_simp;done)|(go_simp;rfl));(case hp=>exact (Reps.one (show Kd.FK (Kd.slice 3 (Kd.int .i64)) _ _ l0_2 [.slice A0_2 l0_2.length c0_2] from (Kd.FK_slice_mk (Kd.V_reads' (Kd.V_mono (ok':=(fun k_=>((P0_2_ k_ ∨ P0_3_ k_) ∨ w.heap.size ≤ k_)∧k_ ≠ gb167)) (HO_168002.out) (fun k_ hk=>⟨hk.1,hk.2⟩))).2.1 (Kd.V_F (Kd.V_mono (ok':=(fun k_=>((P0_2_ k_ ∨ P0_3_ k_) ∨ w.heap.size ≤ k_)∧k_ ≠ gb167)) (HO_168002.out) (fun k_ hk=>⟨hk.1,hk.2⟩))))) (Reps.one (show Kd.FK (Kd.slice 3 (Kd.int .i64)) _ _ l0_3 [.slice A0_3 l0_3.length c0_3] from (Kd.FK_slice_mk (Kd.V_reads' (Kd.V_mono (ok':=(fun k_=>((P0_2_ k_ ∨ P0_3_ k_) ∨ w.heap.size ≤ k_)∧k_ ≠ gb167)) (HO_168003.out) (fun k_ hk=>⟨hk.1,hk.2⟩))).2.1 (Kd.V_F (Kd.V_mono (ok':=(fun k_=>((P0_2_ k_ ∨ P0_3_ k_) ∨ w.heap.size ≤ k_)∧k_ ≠ gb167)) (HO_168003.out) (fun k_ hk=>⟨hk.1,hk.2⟩))))) (Reps.none _ _))));intro v172 w28 ho29 hb hg_ hnew_;clear hg_ hnew_;(first|rw [← Ny171.out] at ho29|(simp only [Int.reduceToNat] at ho29;rw [← Ny171.out] at ho29));have n0_:=Aside0.mk (Kd.V_elder' (by (with_reducible repeat (first|apply Kd.V_alloc|apply Kd.V_drewN|apply Kd.V_drew));exact HO_168002.out) (Kd.N_base ho29) hb);have n1_:=Aside0.mk (Kd.V_elder' (by (with_reducible repeat (first|apply Kd.V_alloc|apply Kd.V_drewN|apply Kd.V_drew));exact HO_168003.out) (Kd.N_base ho29) hb);have n2_:=Aside0.mk (Kd.N_lower ho29 (below_size (by repeat (first|(with_reducible first|exact HB.out|apply below_alloc|apply pw_below_drewN|apply below_drew1|refine below_set ?_ GE167.out)|exact HB.out))));have n3_:=Aside0.mk (blk_below (g:=gb167) (o:=.cells #[.slice A0_0 l0_0.length c0_0,.slice A0_1 l0_1.length c0_1,.slice A0_2 l0_2.length c0_2,.slice A0_3 l0_3.length c0_3] 28 (0,0)) (by (with_reducible repeat first|apply blk_drewN|apply blk_drew|apply blk_alloc);exact BK167.out) hb);have n4_:=Aside0.mk (below_step (by repeat (first|(with_reducible first|exact HB.out|apply below_alloc|apply pw_below_drewN|apply below_drew1|refine below_set ?_ GE167.out)|exact HB.out)) hb);clear HO_168002;clear HO_168003;clear BK167;clear HB;have HO_168002:=n0_;have HO_168003:=n1_;have HO173:=n2_;have BK167:=n3_;have HB:=n4_;clear n0_ n1_ n2_ n3_ n4_;clear hb ho29;obtain ⟨Ao30,co30,eo30⟩:=Kd.N_slice HO173.out;subst eo30))
          go_loopg [63] k3 (fun kq v63 w'=>∃ (x63_4 : Int),v63 = .int .i64 x63_4∧Aside0 (spec_GoodSpace.l2 kq (l0_0.length : Int) y171 (y171.length : Int) x63_4 l0_0 l0_1 l0_2 l0_3 = some r)∧Aside0 (kq ≤ k3)∧Aside0 (Kd.N (Kd.slice 3 (Kd.int .i64)) 24 w' w.heap.size (fun k_=>((P0_2_ k_ ∨ P0_3_ k_) ∨ w.heap.size ≤ k_)∧k_ ≠ gb167) (.slice Ao30 y171.length co30) y171)∧Aside0 (Kd.V (Kd.int .i64) 3 w' w.heap.size (fun k_=>((P0_2_ k_ ∨ P0_3_ k_) ∨ w.heap.size ≤ k_)∧some k_ ≠ ((.slice Ao30 y171.length co30) : Value).ownBlock∧k_ ≠ gb167) (.slice A0_2 l0_2.length c0_2) l0_2)∧Aside0 (Kd.V (Kd.int .i64) 3 w' w.heap.size (fun k_=>((P0_2_ k_ ∨ P0_3_ k_) ∨ w.heap.size ≤ k_)∧some k_ ≠ ((.slice Ao30 y171.length co30) : Value).ownBlock∧k_ ≠ gb167) (.slice A0_3 l0_3.length c0_3) l0_3)∧Aside0 (w'.heap[gb167]? = some (.cells #[(.slice A0_0 l0_0.length c0_0),(.slice A0_1 l0_1.length c0_1),(.slice A0_2 l0_2.length c0_2),(.slice A0_3 l0_3.length c0_3)] 28 (0,0)))∧Aside0 (Below w.heap.size w w'))
          case atStart=>exact ⟨(0),(by first|rfl|(simp;done)|(simp [*];done)),H',⟨Nat.le_refl _⟩,⟨by (with_reducible repeat (first|apply Kd.N_alloc|apply Kd.N_drewN|apply Kd.N_drew));exact HO173.out⟩,⟨by (with_reducible repeat (first|apply Kd.V_alloc|apply Kd.V_drewN|apply Kd.V_drew));exact Kd.V_mono HO_168002.out (fun _ hk=>⟨hk.1.1,⟨hk.2,hk.1.2⟩⟩)⟩,⟨by (with_reducible repeat (first|apply Kd.V_alloc|apply Kd.V_drewN|apply Kd.V_drew));exact Kd.V_mono HO_168003.out (fun _ hk=>⟨hk.1.1,⟨hk.2,hk.1.2⟩⟩)⟩,⟨by (with_reducible repeat first|apply blk_drewN|apply blk_drew|apply blk_alloc);exact BK167.out⟩,⟨by repeat (first|(with_reducible first|exact HB.out|apply below_alloc|apply pw_below_drewN|apply below_drew1|refine below_set ?_ GE167.out)|exact HB.out)⟩⟩
          case round =>
           clear H'
           try clear c1;try clear p1;try clear q1;try clear hx1;try clear c2;try clear p2;try clear c3;try clear c5;try clear c6;try clear p6;try clear c8;try clear c10;try clear c10b0;try clear c11;try clear c11b0;try clear c12;try clear c12b0;try clear c13;try clear c13b0;try clear c13b1;try clear c14;try clear c14b0;try clear c16;try clear c16b0;try clear p16;try clear q16;try clear hx16;try clear c17;try clear c18;try clear c18b0;try clear c22;try clear c22b0;try clear c23;try clear hcz19_0;try clear hcz19_1;try clear hcz19_2;try clear hcz19_3;try clear hcz20_0;try clear hcz20_1;try clear hcz20_2;try clear hcz20_3;try clear hcz21_0;try clear hcz21_1;try clear hcz21_2;try clear hcz21_3;try clear hcz24_0;try clear hcz24_1;try clear hcz24_2;try clear hcz24_3;try clear hcz25_0;try clear hcz25_1;try clear hcz25_2;try clear hcz25_3;try clear hcz26_0;try clear hcz26_1;try clear hcz26_2;try clear hcz26_3;try clear hcz27_0;try clear hcz27_1;try clear hcz27_2;try clear hcz27_3;try clear hcz4_0;try clear hcz4_1;try clear hcz4_2;try clear hcz4_3;try clear hcz7_0;try clear hcz7_1;try clear hcz7_2;try clear hcz7_3;try clear hcz9_0;try clear hcz9_1;try clear hcz9_2;try clear hcz9_3;try clear hfz19_0;try clear hfz19_1;try clear hfz19_2;try clear hfz19_3;try clear hfz20_0;try clear hfz20_1;try clear hfz20_2;try clear hfz20_3;try clear hfz21_0;try clear hfz21_1;try clear hfz21_2;try clear hfz21_3;try clear hfz24_0;try clear hfz24_1;try clear hfz24_2;try clear hfz24_3;try clear hfz25_0;try clear hfz25_1;try clear hfz25_2;try clear hfz25_3;try clear hfz26_0;try clear hfz26_1;try clear hfz26_2;try clear hfz26_3;try clear hfz27_0;try clear hfz27_1;try clear hfz27_2;try clear hfz27_3;try clear hfz4_0;try clear hfz4_1;try clear hfz4_2;try clear hfz4_3;try clear hfz7_0;try clear hfz7_1;try clear hfz7_2;try clear hfz7_3;try clear hfz9_0;try clear hfz9_1;try clear hfz9_2;try clear hfz9_3;try clear hx169_0;try clear p1;try clear p169;try clear p2;try clear p6;try clear q1;try clear q169
           obtain ⟨x63_4,rfl,HA,HK4,HO_61,HO_168002,HO_168003,BK167,HB⟩:=hrel
           cases gk with
           | zero=>exact absurd HA.out (by simp [spec_GoodSpace.l2])
           | succ k4 =>
            have H:=HA.out
            clear HA
            simp only [spec_GoodSpace.l2] at H
            by_cases c31 : x63_4 < (y171.length : Int)
            ·rw [if_pos c31] at H
             have c31b0 : decide (x63_4 < (y171.length : Int)) = true:=decide_eq_true c31
             clear c31
             by_cases c32 : 0 ≤ x63_4
             ·rw [if_pos c32] at H
              have c32b0 : decide (0 ≤ x63_4) = true:=decide_eq_true c32
              clear c32
              by_cases c33 : x63_4 < (y171.length : Int)
              ·rw [if_pos c33] at H
               have c33b0 : decide (x63_4 < (y171.length : Int)) = true:=decide_eq_true c33
               clear c33
               have H':=Aside0.mk H
               clear H
               have p174 : 0 ≤ (x63_4 : Int):=of_decide_eq_true (by assumption)
               have q174 : x63_4 < (y171.length : Int):=of_decide_eq_true (by assumption)
               obtain ⟨ad174,A174_0,c174_0,e174,hx174_0,hl174_0,hi174_0⟩:=at_L4 (Kd.N_reads' HO_61.out).2.2 x63_4 p174 q174
               cases e174
               obtain ⟨ce174,hce174,hMe174,hcc174⟩:=Kd.N_get HO_61.out [] x63_4 p174 (by first|exact q174|exact of_decide_eq_true (by assumption)|(have e_:=(Kd.N_reads' HO_61.out).1;omega))
               obtain ⟨ua174_0,uc174_0,rfl,ul174_0,ge174_0⟩:=Kd.FK_slice_open hMe174
               have hv174_0:=hcc174 0 _ rfl
               rw [Nat.add_zero,show ((Kd.slice 3 (Kd.int .i64))).sz = 1 from rfl,Nat.mul_one] at hv174_0
               replace hv174_0:=Option.some.inj (hv174_0.symm.trans hx174_0)
               injection hv174_0 with hva_ hvn_ hvc_
               rw [hva_] at ge174_0
               rw [hvc_] at ul174_0
               have HL174_0:=Aside0.mk (show Kd.V (Kd.int .i64) 3 _ w.heap.size _ _ (rd_L4 y171 x63_4) from Kd.V_mk ul174_0 ge174_0)
               clear hva_ hvn_ hvc_ ge174_0 ul174_0
               clear hcc174 hce174
               have HR174_0:=Aside0.mk hi174_0
               have HC174_0:=Aside0.mk hl174_0
               clear hi174_0 hl174_0
               replace p174:=eq_true p174
               replace q174:=eq_true q174
               go_wp2
               go_loopg [69] k4 (fun kq v69 w'=>∃ (x69_5 : Int),v69 = .int .i64 x69_5∧Aside0 (spec_GoodSpace.l3 kq (l0_0.length : Int) (rd_L4 y171 x63_4) y171 (y171.length : Int) x63_4 (rd_L4 y171 x63_4) ((rd_L4 y171 x63_4).length : Int) x69_5 l0_0 l0_1 l0_2 l0_3 = some r)∧Aside0 (kq ≤ k4)∧Aside0 (Kd.N (Kd.slice 3 (Kd.int .i64)) 24 w' w.heap.size (fun k_=>((P0_2_ k_ ∨ P0_3_ k_) ∨ w.heap.size ≤ k_)∧k_ ≠ gb167) (.slice (some ad174) y171.length co30) y171)∧Aside0 (Kd.V (Kd.int .i64) 3 w' w.heap.size (fun k_=>((P0_2_ k_ ∨ P0_3_ k_) ∨ w.heap.size ≤ k_)∧some k_ ≠ ((.slice (some ad174) y171.length co30) : Value).ownBlock∧k_ ≠ gb167) (.slice A0_2 l0_2.length c0_2) l0_2)∧Aside0 (Kd.V (Kd.int .i64) 3 w' w.heap.size (fun k_=>((P0_2_ k_ ∨ P0_3_ k_) ∨ w.heap.size ≤ k_)∧some k_ ≠ ((.slice (some ad174) y171.length co30) : Value).ownBlock∧k_ ≠ gb167) (.slice A0_3 l0_3.length c0_3) l0_3)∧Aside0 (w'.heap[gb167]? = some (.cells #[(.slice A0_0 l0_0.length c0_0),(.slice A0_1 l0_1.length c0_1),(.slice A0_2 l0_2.length c0_2),(.slice A0_3 l0_3.length c0_3)] 28 (0,0)))∧Aside0 (Kd.C (Kd.int .i64) w' A174_0 (rd_L4 y171 x63_4).length (rd_L4 y171 x63_4))∧Aside0 (Below w.heap.size w w'))
               case atStart=>exact ⟨(0),(by first|rfl|(simp;done)|(simp [*];done)),H',⟨Nat.le_refl _⟩,⟨by (with_reducible repeat (first|apply Kd.N_alloc|apply Kd.N_drewN|apply Kd.N_drew));exact HO_61.out⟩,⟨by (with_reducible repeat (first|apply Kd.V_alloc|apply Kd.V_drewN|apply Kd.V_drew));exact HO_168002.out⟩,⟨by (with_reducible repeat (first|apply Kd.V_alloc|apply Kd.V_drewN|apply Kd.V_drew));exact HO_168003.out⟩,⟨by (with_reducible repeat first|apply blk_drewN|apply blk_drew|apply blk_alloc);exact BK167.out⟩,⟨by repeat (first|(with_reducible exact HR174_0.out)|(with_reducible first|apply Kd.C_alloc|apply Kd.C_drewN|apply Kd.C_drew)|exact HR174_0.out)⟩,⟨by repeat (first|(with_reducible first|exact HB.out|apply below_alloc|apply pw_below_drewN|apply below_drew1|refine below_set ?_ GE167.out)|exact HB.out)⟩⟩
               case round =>
                clear H'
                try clear c1;try clear p1;try clear q1;try clear hx1;try clear c2;try clear p2;try clear c3;try clear c5;try clear c6;try clear p6;try clear c8;try clear c10;try clear c10b0;try clear c11;try clear c11b0;try clear c12;try clear c12b0;try clear c13;try clear c13b0;try clear c13b1;try clear c14;try clear c14b0;try clear c16;try clear c16b0;try clear p16;try clear q16;try clear hx16;try clear c17;try clear p17;try clear q17;try clear hx17;try clear c18;try clear c18b0;try clear c22;try clear c22b0;try clear c23;try clear c31;try clear c31b0;try clear c32;try clear c32b0;try clear c33;try clear c33b0;try clear hcz19_0;try clear hcz19_1;try clear hcz19_2;try clear hcz19_3;try clear hcz20_0;try clear hcz20_1;try clear hcz20_2;try clear hcz20_3;try clear hcz21_0;try clear hcz21_1;try clear hcz21_2;try clear hcz21_3;try clear hcz24_0;try clear hcz24_1;try clear hcz24_2;try clear hcz24_3;try clear hcz25_0;try clear hcz25_1;try clear hcz25_2;try clear hcz25_3;try clear hcz26_0;try clear hcz26_1;try clear hcz26_2;try clear hcz26_3;try clear hcz27_0;try clear hcz27_1;try clear hcz27_2;try clear hcz27_3;try clear hcz4_0;try clear hcz4_1;try clear hcz4_2;try clear hcz4_3;try clear hcz7_0;try clear hcz7_1;try clear hcz7_2;try clear hcz7_3;try clear hcz9_0;try clear hcz9_1;try clear hcz9_2;try clear hcz9_3;try clear hfz19_0;try clear hfz19_1;try clear hfz19_2;try clear hfz19_3;try clear hfz20_0;try clear hfz20_1;try clear hfz20_2;try clear hfz20_3;try clear hfz21_0;try clear hfz21_1;try clear hfz21_2;try clear hfz21_3;try clear hfz24_0;try clear hfz24_1;try clear hfz24_2;try clear hfz24_3;try clear hfz25_0;try clear hfz25_1;try clear hfz25_2;try clear hfz25_3;try clear hfz26_0;try clear hfz26_1;try clear hfz26_2;try clear hfz26_3;try clear hfz27_0;try clear hfz27_1;try clear hfz27_2;try clear hfz27_3;try clear hfz4_0;try clear hfz4_1;try clear hfz4_2;try clear hfz4_3;try clear hfz7_0;try clear hfz7_1;try clear hfz7_2;try clear hfz7_3;try clear hfz9_0;try clear hfz9_1;try clear hfz9_2;try clear hfz9_3;try clear hx169_0;try clear hx174_0;try clear p1;try clear p16;try clear p169;try clear p174;try clear p2;try clear p6;try clear q1;try clear q16;try clear q169;try clear q174
                obtain ⟨x69_5,rfl,HA,HK5,HO_61,HO_168002,HO_168003,BK167,HR174_0,HB⟩:=hrel
                cases gk with
                | zero=>exact absurd HA.out (by simp [spec_GoodSpace.l3])
                | succ k5 =>
                 have H:=HA.out
                 clear HA
                 simp only [spec_GoodSpace.l3] at H
                 by_cases c34 : x69_5 < ((rd_L4 y171 x63_4).length : Int)
                 ·rw [if_pos c34] at H
                  have c34b0 : decide (x69_5 < ((rd_L4 y171 x63_4).length : Int)) = true:=decide_eq_true c34
                  clear c34
                  by_cases c35 : 0 ≤ x69_5
                  ·rw [if_pos c35] at H
                   have c35b0 : decide (0 ≤ x69_5) = true:=decide_eq_true c35
                   clear c35
                   by_cases c36 : x69_5 < ((rd_L4 y171 x63_4).length : Int)
                   ·rw [if_pos c36] at H
                    have c36b0 : decide (x69_5 < ((rd_L4 y171 x63_4).length : Int)) = true:=decide_eq_true c36
                    clear c36
                    replace H:=Option.bind_eq_some_iff.mp H
                    obtain ⟨t176,A370,H⟩:=H
                    replace H : (if t176 = true then ((spec_l5Used.f l0_1 (rd (rd_L4 y171 x63_4) x69_5)).bind fun t177=>(if t177 = true then (if x69_5 > 0 then (if 0 ≤ (wrap64 (x69_5 - 1)) then (if (wrap64 (x69_5 - 1)) < ((rd_L4 y171 x63_4).length : Int) then (if (rd (rd_L4 y171 x63_4) (wrap64 (x69_5 - 1))) ≥ (rd (rd_L4 y171 x63_4) x69_5) then (some false) else (spec_GoodSpace.l3 k5 (l0_0.length : Int) (rd_L4 y171 x63_4) y171 (y171.length : Int) x63_4 (rd_L4 y171 x63_4) ((rd_L4 y171 x63_4).length : Int) (wrap64 (x69_5 + 1)) l0_0 l0_1 l0_2 l0_3)) else (none)) else (none)) else (spec_GoodSpace.l3 k5 (l0_0.length : Int) (rd_L4 y171 x63_4) y171 (y171.length : Int) x63_4 (rd_L4 y171 x63_4) ((rd_L4 y171 x63_4).length : Int) (wrap64 (x69_5 + 1)) l0_0 l0_1 l0_2 l0_3)) else (some false))) else (some false)) = some r:=H
                    have A37:=Aside0.mk A370
                    clear A370
                    by_cases c38 : t176 = true
                    ·subst c38
                     have H1 : ((spec_l5Used.f l0_1 (rd (rd_L4 y171 x63_4) x69_5)).bind fun t177=>(if t177 = true then (if x69_5 > 0 then (if 0 ≤ (wrap64 (x69_5 - 1)) then (if (wrap64 (x69_5 - 1)) < ((rd_L4 y171 x63_4).length : Int) then (if (rd (rd_L4 y171 x63_4) (wrap64 (x69_5 - 1))) ≥ (rd (rd_L4 y171 x63_4) x69_5) then (some false) else (spec_GoodSpace.l3 k5 (l0_0.length : Int) (rd_L4 y171 x63_4) y171 (y171.length : Int) x63_4 (rd_L4 y171 x63_4) ((rd_L4 y171 x63_4).length : Int) (wrap64 (x69_5 + 1)) l0_0 l0_1 l0_2 l0_3)) else (none)) else (none)) else (spec_GoodSpace.l3 k5 (l0_0.length : Int) (rd_L4 y171 x63_4) y171 (y171.length : Int) x63_4 (rd_L4 y171 x63_4) ((rd_L4 y171 x63_4).length : Int) (wrap64 (x69_5 + 1)) l0_0 l0_1 l0_2 l0_3)) else (some false))) = some r:=by rw [if_pos rfl] at H;exact H
                     clear H
                     have H:=H1
                     clear H1
                     replace H:=Option.bind_eq_some_iff.mp H
                     obtain ⟨t177,A390,H⟩:=H
                     replace H : (if t177 = true then (if x69_5 > 0 then (if 0 ≤ (wrap64 (x69_5 - 1)) then (if (wrap64 (x69_5 - 1)) < ((rd_L4 y171 x63_4).length : Int) then (if (rd (rd_L4 y171 x63_4) (wrap64 (x69_5 - 1))) ≥ (rd (rd_L4 y171 x63_4) x69_5) then (some false) else (spec_GoodSpace.l3 k5 (l0_0.length : Int) (rd_L4 y171 x63_4) y171 (y171.length : Int) x63_4 (rd_L4 y171 x63_4) ((rd_L4 y171 x63_4).length : Int) (wrap64 (x69_5 + 1)) l0_0 l0_1 l0_2 l0_3)) else (none)) else (none)) else (spec_GoodSpace.l3 k5 (l0_0.length : Int) (rd_L4 y171 x63_4) y171 (y171.length : Int) x63_4 (rd_L4 y171 x63_4) ((rd_L4 y171 x63_4).length : Int) (wrap64 (x69_5 + 1)) l0_0 l0_1 l0_2 l0_3)) else (some false)) = some r:=H
                     have A39:=Aside0.mk A390
                     clear A390
                     by_cases c40 : t177 = true
                     ·subst c40
                      have H1 : (if x69_5 > 0 then (if 0 ≤ (wrap64 (x69_5 - 1)) then (if (wrap64 (x69_5 - 1)) < ((rd_L4 y171 x63_4).length : Int) then (if (rd (rd_L4 y171 x63_4) (wrap64 (x69_5 - 1))) ≥ (rd (rd_L4 y171 x63_4) x69_5) then (some false) else (spec_GoodSpace.l3 k5 (l0_0.length : Int) (rd_L4 y171 x63_4) y171 (y171.length : Int) x63_4 (rd_L4 y171 x63_4) ((rd_L4 y171 x63_4).length : Int) (wrap64 (x69_5 + 1)) l0_0 l0_1 l0_2 l0_3)) else (none)) else (none)) else (spec_GoodSpace.l3 k5 (l0_0.length : Int) (rd_L4 y171 x63_4) y171 (y171.length : Int) x63_4 (rd_L4 y171 x63_4) ((rd_L4 y171 x63_4).length : Int) (wrap64 (x69_5 + 1)) l0_0 l0_1 l0_2 l0_3)) = some r:=by rw [if_pos rfl] at H;exact H
                      clear H
                      have H:=H1
                      clear H1
                      by_cases c41 : x69_5 > 0
                      ·rw [if_pos c41] at H
                       have c41b0 : decide (0 < x69_5) = true:=decide_eq_true c41
                       clear c41
                       obtain ⟨ji42,hji42⟩ : ∃ j_ : Int,(wrap64 (x69_5 - 1)) = j_:=⟨_,rfl⟩
                       replace H : (if 0 ≤ (ji42) then (if (ji42) < ((rd_L4 y171 x63_4).length : Int) then (if (rd (rd_L4 y171 x63_4) (ji42)) ≥ (rd (rd_L4 y171 x63_4) x69_5) then (some false) else (spec_GoodSpace.l3 k5 (l0_0.length : Int) (rd_L4 y171 x63_4) y171 (y171.length : Int) x63_4 (rd_L4 y171 x63_4) ((rd_L4 y171 x63_4).length : Int) (wrap64 (x69_5 + 1)) l0_0 l0_1 l0_2 l0_3)) else (none)) else (none)) = some r:=by first|(rw [hji42] at H;exact H)|(simp only [hji42] at H ⊢;exact H)
                       (try rw [hji42] at A37)
                       (try rw [hji42] at A39)
                       have hji42w : (IntKind.i64.wrap (x69_5 - 1)) = ji42:=(i64_w _).trans hji42
                       by_cases c43 : 0 ≤ (ji42)
                       ·rw [if_pos c43] at H
                        have c43b0 : decide (0 ≤ (ji42)) = true:=decide_eq_true c43
                        clear c43
                        by_cases c44 : (ji42) < ((rd_L4 y171 x63_4).length : Int)
                        ·rw [if_pos c44] at H
                         have c44b0 : decide ((ji42) < ((rd_L4 y171 x63_4).length : Int)) = true:=decide_eq_true c44
                         clear c44
                         by_cases c45 : (rd (rd_L4 y171 x63_4) (ji42)) ≥ (rd (rd_L4 y171 x63_4) x69_5)
                         ·rw [if_pos c45] at H
                          have c45b0 : decide ((rd (rd_L4 y171 x63_4) x69_5) ≤ (rd (rd_L4 y171 x63_4) (ji42))) = true:=decide_eq_true c45
                          clear c45
                          obtain rfl:=Option.some.inj H
                          have p175 : 0 ≤ (x69_5 : Int):=of_decide_eq_true (by assumption)
                          have q175 : x69_5 < ((rd_L4 y171 x63_4).length : Int):=of_decide_eq_true (by assumption)
                          obtain ⟨ad175,e175,hx175_0⟩:=Kd.at_int HR174_0.out x69_5 p175 q175
                          cases e175
                          (try replace hx175_0:=(HB.out.cell (World.block_lt_of_cell? w _ hx175_0)).trans hx175_0)
                          replace p175:=eq_true p175
                          replace q175:=eq_true q175
                          go_wp2_with (first|((with_reducible refine gate_callee (f:=53) rfl ?_);refine goesL_ (some 77) rfl rfl Try.func53 (by kernel_rfl) rfl #[.int .i64 (rd (rd_L4 y171 x63_4) x69_5),.int .i64 33,.int .i64 (wrap64 ((l0_0.length : Int) - 1))] rfl (by (try simp only [List.map_toArray,List.map_cons,List.map_nil]);first|done|rfl|(simp only [List.length_drop,List.length_take];rfl)) ?_;(with_reducible refine (spec_l1In.calls (rd (rd_L4 y171 x63_4) x69_5) 33 (wrap64 ((l0_0.length : Int) - 1)) true _ A37.out).mono ?_);rintro e w' ⟨rfl,⟨nd,rfl⟩⟩;refine ⟨_,rfl,?_⟩;have hcz46_0 : wr.cell? ⟨gb167,0,none⟩ = some (.slice A0_0 l0_0.length c0_0):=(blk_cell BK167.out 0).trans rfl;have hcz46_1 : wr.cell? ⟨gb167,1,none⟩ = some (.slice A0_1 l0_1.length c0_1):=(blk_cell BK167.out 1).trans rfl;have hcz46_2 : wr.cell? ⟨gb167,2,none⟩ = some (.slice A0_2 l0_2.length c0_2):=(blk_cell BK167.out 2).trans rfl;have hcz46_3 : wr.cell? ⟨gb167,3,none⟩ = some (.slice A0_3 l0_3.length c0_3):=(blk_cell BK167.out 3).trans rfl;have hfz46_0:=blk_frozen BK167.out 0;have hfz46_1:=blk_frozen BK167.out 1;have hfz46_2:=blk_frozen BK167.out 2;have hfz46_3:=blk_frozen BK167.out 3)|(go_at_call 54;(with_reducible refine (spec_l5Used.calls _ _ l0_1 (rd (rd_L4 y171 x63_4) x69_5) true _ ?side1 ?side2 A39.out).mono ?_);(case side1=>repeat (first|exact (Kd.C_below HR0_1.out (by repeat (first|(with_reducible first|exact HB.out|apply below_alloc|apply pw_below_drewN|apply below_drew1|refine below_set ?_ GE167.out)|exact HB.out)))|(with_reducible first|apply Kd.C_alloc|apply Kd.C_drewN|apply Kd.C_drew)));(case side2=>exact HC0_1.out);rintro e w' ⟨rfl,⟨nd,rfl⟩⟩;have p178 : 0 ≤ ((ji42) : Int):=of_decide_eq_true (by assumption);have q178 : (ji42) < ((rd_L4 y171 x63_4).length : Int):=of_decide_eq_true (by assumption);obtain ⟨ad178,e178,hx178_0⟩:=Kd.at_int HR174_0.out (ji42) p178 q178;obtain rfl : ad175 = ad178:=(by injection e178);(try replace hx178_0:=(HB.out.cell (World.block_lt_of_cell? w _ hx178_0)).trans hx178_0);replace p178:=eq_true p178;replace q178:=eq_true q178))
                          go_ret
                          exact ⟨by first|rfl|(simp [errW_none,errW_some] <;> rfl)|(simp only [← hji42];first|rfl|(simp [errW_none,errW_some] <;> rfl))|(simp [*,errW_none,errW_some] <;> rfl),by repeat (first|(with_reducible first|exact HB.out|apply below_alloc|apply pw_below_drewN|apply below_drew1|refine below_set ?_ GE167.out)|exact HB.out)⟩
                         ·rw [if_neg c45] at H
                          have c45b0 : decide ((rd (rd_L4 y171 x63_4) x69_5) ≤ (rd (rd_L4 y171 x63_4) (ji42))) = false:=decide_eq_false c45
                          clear c45
                          have H':=Aside0.mk H
                          clear H
                          have p175 : 0 ≤ (x69_5 : Int):=of_decide_eq_true (by assumption)
                          have q175 : x69_5 < ((rd_L4 y171 x63_4).length : Int):=of_decide_eq_true (by assumption)
                          obtain ⟨ad175,e175,hx175_0⟩:=Kd.at_int HR174_0.out x69_5 p175 q175
                          cases e175
                          (try replace hx175_0:=(HB.out.cell (World.block_lt_of_cell? w _ hx175_0)).trans hx175_0)
                          replace p175:=eq_true p175
                          replace q175:=eq_true q175
                          go_wp2_with (first|((with_reducible refine gate_callee (f:=53) rfl ?_);refine goesL_ (some 77) rfl rfl Try.func53 (by kernel_rfl) rfl #[.int .i64 (rd (rd_L4 y171 x63_4) x69_5),.int .i64 33,.int .i64 (wrap64 ((l0_0.length : Int) - 1))] rfl (by (try simp only [List.map_toArray,List.map_cons,List.map_nil]);first|done|rfl|(simp only [List.length_drop,List.length_take];rfl)) ?_;(with_reducible refine (spec_l1In.calls (rd (rd_L4 y171 x63_4) x69_5) 33 (wrap64 ((l0_0.length : Int) - 1)) true _ A37.out).mono ?_);rintro e w' ⟨rfl,⟨nd,rfl⟩⟩;refine ⟨_,rfl,?_⟩;have hcz47_0 : wr.cell? ⟨gb167,0,none⟩ = some (.slice A0_0 l0_0.length c0_0):=(blk_cell BK167.out 0).trans rfl;have hcz47_1 : wr.cell? ⟨gb167,1,none⟩ = some (.slice A0_1 l0_1.length c0_1):=(blk_cell BK167.out 1).trans rfl;have hcz47_2 : wr.cell? ⟨gb167,2,none⟩ = some (.slice A0_2 l0_2.length c0_2):=(blk_cell BK167.out 2).trans rfl;have hcz47_3 : wr.cell? ⟨gb167,3,none⟩ = some (.slice A0_3 l0_3.length c0_3):=(blk_cell BK167.out 3).trans rfl;have hfz47_0:=blk_frozen BK167.out 0;have hfz47_1:=blk_frozen BK167.out 1;have hfz47_2:=blk_frozen BK167.out 2;have hfz47_3:=blk_frozen BK167.out 3)|(go_at_call 54;(with_reducible refine (spec_l5Used.calls _ _ l0_1 (rd (rd_L4 y171 x63_4) x69_5) true _ ?side1 ?side2 A39.out).mono ?_);(case side1=>repeat (first|exact (Kd.C_below HR0_1.out (by repeat (first|(with_reducible first|exact HB.out|apply below_alloc|apply pw_below_drewN|apply below_drew1|refine below_set ?_ GE167.out)|exact HB.out)))|(with_reducible first|apply Kd.C_alloc|apply Kd.C_drewN|apply Kd.C_drew)));(case side2=>exact HC0_1.out);rintro e w' ⟨rfl,⟨nd,rfl⟩⟩;have p178 : 0 ≤ ((ji42) : Int):=of_decide_eq_true (by assumption);have q178 : (ji42) < ((rd_L4 y171 x63_4).length : Int):=of_decide_eq_true (by assumption);obtain ⟨ad178,e178,hx178_0⟩:=Kd.at_int HR174_0.out (ji42) p178 q178;obtain rfl : ad175 = ad178:=(by injection e178);(try replace hx178_0:=(HB.out.cell (World.block_lt_of_cell? w _ hx178_0)).trans hx178_0);replace p178:=eq_true p178;replace q178:=eq_true q178))
                          go_roundg k5
                          case measure=>have:=HJ1.out;have:=HK2.out;have:=HK3.out;have:=HK4.out;have:=HK5.out;omega
                          case rel=>exact ⟨(wrap64 (x69_5 + 1)),(by first|rfl|(simp;done)|(simp [*];done)),H',⟨by have:=HJ1.out;have:=HK2.out;have:=HK3.out;have:=HK4.out;have:=HK5.out;omega⟩,⟨by (with_reducible repeat (first|apply Kd.N_alloc|apply Kd.N_drewN|apply Kd.N_drew));exact HO_61.out⟩,⟨by (with_reducible repeat (first|apply Kd.V_alloc|apply Kd.V_drewN|apply Kd.V_drew));exact HO_168002.out⟩,⟨by (with_reducible repeat (first|apply Kd.V_alloc|apply Kd.V_drewN|apply Kd.V_drew));exact HO_168003.out⟩,⟨by (with_reducible repeat first|apply blk_drewN|apply blk_drew|apply blk_alloc);exact BK167.out⟩,⟨by repeat (first|(with_reducible exact HR174_0.out)|(with_reducible first|apply Kd.C_alloc|apply Kd.C_drewN|apply Kd.C_drew)|exact HR174_0.out)⟩,⟨by repeat (first|(with_reducible first|exact HB.out|apply below_alloc|apply pw_below_drewN|apply below_drew1|refine below_set ?_ GE167.out)|exact HB.out)⟩⟩
                        ·rw [if_neg c44] at H
                         exact absurd H (by simp)
                       ·rw [if_neg c43] at H
                        exact absurd H (by simp)
                      ·rw [if_neg c41] at H
                       have c41b0 : decide (0 < x69_5) = false:=decide_eq_false c41
                       clear c41
                       have H':=Aside0.mk H
                       clear H
                       have p175 : 0 ≤ (x69_5 : Int):=of_decide_eq_true (by assumption)
                       have q175 : x69_5 < ((rd_L4 y171 x63_4).length : Int):=of_decide_eq_true (by assumption)
                       obtain ⟨ad175,e175,hx175_0⟩:=Kd.at_int HR174_0.out x69_5 p175 q175
                       cases e175
                       (try replace hx175_0:=(HB.out.cell (World.block_lt_of_cell? w _ hx175_0)).trans hx175_0)
                       replace p175:=eq_true p175
                       replace q175:=eq_true q175
                       go_wp2_with (first|((with_reducible refine gate_callee (f:=53) rfl ?_);refine goesL_ (some 77) rfl rfl Try.func53 (by kernel_rfl) rfl #[.int .i64 (rd (rd_L4 y171 x63_4) x69_5),.int .i64 33,.int .i64 (wrap64 ((l0_0.length : Int) - 1))] rfl (by (try simp only [List.map_toArray,List.map_cons,List.map_nil]);first|done|rfl|(simp only [List.length_drop,List.length_take];rfl)) ?_;(with_reducible refine (spec_l1In.calls (rd (rd_L4 y171 x63_4) x69_5) 33 (wrap64 ((l0_0.length : Int) - 1)) true _ A37.out).mono ?_);rintro e w' ⟨rfl,⟨nd,rfl⟩⟩;refine ⟨_,rfl,?_⟩;have hcz48_0 : wr.cell? ⟨gb167,0,none⟩ = some (.slice A0_0 l0_0.length c0_0):=(blk_cell BK167.out 0).trans rfl;have hcz48_1 : wr.cell? ⟨gb167,1,none⟩ = some (.slice A0_1 l0_1.length c0_1):=(blk_cell BK167.out 1).trans rfl;have hcz48_2 : wr.cell? ⟨gb167,2,none⟩ = some (.slice A0_2 l0_2.length c0_2):=(blk_cell BK167.out 2).trans rfl;have hcz48_3 : wr.cell? ⟨gb167,3,none⟩ = some (.slice A0_3 l0_3.length c0_3):=(blk_cell BK167.out 3).trans rfl;have hfz48_0:=blk_frozen BK167.out 0;have hfz48_1:=blk_frozen BK167.out 1;have hfz48_2:=blk_frozen BK167.out 2;have hfz48_3:=blk_frozen BK167.out 3)|(go_at_call 54;(with_reducible refine (spec_l5Used.calls _ _ l0_1 (rd (rd_L4 y171 x63_4) x69_5) true _ ?side1 ?side2 A39.out).mono ?_);(case side1=>repeat (first|exact (Kd.C_below HR0_1.out (by repeat (first|(with_reducible first|exact HB.out|apply below_alloc|apply pw_below_drewN|apply below_drew1|refine below_set ?_ GE167.out)|exact HB.out)))|(with_reducible first|apply Kd.C_alloc|apply Kd.C_drewN|apply Kd.C_drew)));(case side2=>exact HC0_1.out);rintro e w' ⟨rfl,⟨nd,rfl⟩⟩))
                       go_roundg k5
                       case measure=>have:=HJ1.out;have:=HK2.out;have:=HK3.out;have:=HK4.out;have:=HK5.out;omega
                       case rel=>exact ⟨(wrap64 (x69_5 + 1)),(by first|rfl|(simp;done)|(simp [*];done)),H',⟨by have:=HJ1.out;have:=HK2.out;have:=HK3.out;have:=HK4.out;have:=HK5.out;omega⟩,⟨by (with_reducible repeat (first|apply Kd.N_alloc|apply Kd.N_drewN|apply Kd.N_drew));exact HO_61.out⟩,⟨by (with_reducible repeat (first|apply Kd.V_alloc|apply Kd.V_drewN|apply Kd.V_drew));exact HO_168002.out⟩,⟨by (with_reducible repeat (first|apply Kd.V_alloc|apply Kd.V_drewN|apply Kd.V_drew));exact HO_168003.out⟩,⟨by (with_reducible repeat first|apply blk_drewN|apply blk_drew|apply blk_alloc);exact BK167.out⟩,⟨by repeat (first|(with_reducible exact HR174_0.out)|(with_reducible first|apply Kd.C_alloc|apply Kd.C_drewN|apply Kd.C_drew)|exact HR174_0.out)⟩,⟨by repeat (first|(with_reducible first|exact HB.out|apply below_alloc|apply pw_below_drewN|apply below_drew1|refine below_set ?_ GE167.out)|exact HB.out)⟩⟩
                     ·replace c40:=Bool.eq_false_iff.mpr c40
                      subst c40
                      have H1 : (some false) = some r:=by rw [if_neg (show ¬ (false = true) by decide)] at H;exact H
                      clear H
                      have H:=H1
                      clear H1
                      obtain rfl:=Option.some.inj H
                      have p175 : 0 ≤ (x69_5 : Int):=of_decide_eq_true (by assumption)
                      have q175 : x69_5 < ((rd_L4 y171 x63_4).length : Int):=of_decide_eq_true (by assumption)
                      obtain ⟨ad175,e175,hx175_0⟩:=Kd.at_int HR174_0.out x69_5 p175 q175
                      cases e175
                      (try replace hx175_0:=(HB.out.cell (World.block_lt_of_cell? w _ hx175_0)).trans hx175_0)
                      replace p175:=eq_true p175
                      replace q175:=eq_true q175
                      go_wp2_with (first|((with_reducible refine gate_callee (f:=53) rfl ?_);refine goesL_ (some 77) rfl rfl Try.func53 (by kernel_rfl) rfl #[.int .i64 (rd (rd_L4 y171 x63_4) x69_5),.int .i64 33,.int .i64 (wrap64 ((l0_0.length : Int) - 1))] rfl (by (try simp only [List.map_toArray,List.map_cons,List.map_nil]);first|done|rfl|(simp only [List.length_drop,List.length_take];rfl)) ?_;(with_reducible refine (spec_l1In.calls (rd (rd_L4 y171 x63_4) x69_5) 33 (wrap64 ((l0_0.length : Int) - 1)) true _ A37.out).mono ?_);rintro e w' ⟨rfl,⟨nd,rfl⟩⟩;refine ⟨_,rfl,?_⟩;have hcz49_0 : wr.cell? ⟨gb167,0,none⟩ = some (.slice A0_0 l0_0.length c0_0):=(blk_cell BK167.out 0).trans rfl;have hcz49_1 : wr.cell? ⟨gb167,1,none⟩ = some (.slice A0_1 l0_1.length c0_1):=(blk_cell BK167.out 1).trans rfl;have hcz49_2 : wr.cell? ⟨gb167,2,none⟩ = some (.slice A0_2 l0_2.length c0_2):=(blk_cell BK167.out 2).trans rfl;have hcz49_3 : wr.cell? ⟨gb167,3,none⟩ = some (.slice A0_3 l0_3.length c0_3):=(blk_cell BK167.out 3).trans rfl;have hfz49_0:=blk_frozen BK167.out 0;have hfz49_1:=blk_frozen BK167.out 1;have hfz49_2:=blk_frozen BK167.out 2;have hfz49_3:=blk_frozen BK167.out 3)|(go_at_call 54;(with_reducible refine (spec_l5Used.calls _ _ l0_1 (rd (rd_L4 y171 x63_4) x69_5) false _ ?side1 ?side2 A39.out).mono ?_);(case side1=>repeat (first|exact (Kd.C_below HR0_1.out (by repeat (first|(with_reducible first|exact HB.out|apply below_alloc|apply pw_below_drewN|apply below_drew1|refine below_set ?_ GE167.out)|exact HB.out)))|(with_reducible first|apply Kd.C_alloc|apply Kd.C_drewN|apply Kd.C_drew)));(case side2=>exact HC0_1.out);rintro e w' ⟨rfl,⟨nd,rfl⟩⟩))
                      go_ret
                      exact ⟨by first|rfl|(simp [*,errW_none,errW_some] <;> rfl),by repeat (first|(with_reducible first|exact HB.out|apply below_alloc|apply pw_below_drewN|apply below_drew1|refine below_set ?_ GE167.out)|exact HB.out)⟩
                    ·replace c38:=Bool.eq_false_iff.mpr c38
                     subst c38
                     have H1 : (some false) = some r:=by rw [if_neg (show ¬ (false = true) by decide)] at H;exact H
                     clear H
                     have H:=H1
                     clear H1
                     obtain rfl:=Option.some.inj H
                     have p175 : 0 ≤ (x69_5 : Int):=of_decide_eq_true (by assumption)
                     have q175 : x69_5 < ((rd_L4 y171 x63_4).length : Int):=of_decide_eq_true (by assumption)
                     obtain ⟨ad175,e175,hx175_0⟩:=Kd.at_int HR174_0.out x69_5 p175 q175
                     cases e175
                     (try replace hx175_0:=(HB.out.cell (World.block_lt_of_cell? w _ hx175_0)).trans hx175_0)
                     replace p175:=eq_true p175
                     replace q175:=eq_true q175
                     go_wp2_with (first|((with_reducible refine gate_callee (f:=53) rfl ?_);refine goesL_ (some 77) rfl rfl Try.func53 (by kernel_rfl) rfl #[.int .i64 (rd (rd_L4 y171 x63_4) x69_5),.int .i64 33,.int .i64 (wrap64 ((l0_0.length : Int) - 1))] rfl (by (try simp only [List.map_toArray,List.map_cons,List.map_nil]);first|done|rfl|(simp only [List.length_drop,List.length_take];rfl)) ?_;(with_reducible refine (spec_l1In.calls (rd (rd_L4 y171 x63_4) x69_5) 33 (wrap64 ((l0_0.length : Int) - 1)) false _ A37.out).mono ?_);rintro e w' ⟨rfl,⟨nd,rfl⟩⟩;refine ⟨_,rfl,?_⟩))
                     go_ret
                     exact ⟨by first|rfl|(simp [*,errW_none,errW_some] <;> rfl),by repeat (first|(with_reducible first|exact HB.out|apply below_alloc|apply pw_below_drewN|apply below_drew1|refine below_set ?_ GE167.out)|exact HB.out)⟩
                   ·rw [if_neg c36] at H
                    exact absurd H (by simp)
                  ·rw [if_neg c35] at H
                   exact absurd H (by simp)
                 ·rw [if_neg c34] at H
                  have c34b0 : decide (x69_5 < ((rd_L4 y171 x63_4).length : Int)) = false:=decide_eq_false c34
                  clear c34
                  have H':=Aside0.mk H
                  clear H
                  go_wp2
                  go_roundg k5
                  case measure=>have:=HJ1.out;have:=HK2.out;have:=HK3.out;have:=HK4.out;have:=HK5.out;omega
                  case rel=>exact ⟨(wrap64 (x63_4 + 1)),(by first|rfl|(simp;done)|(simp [*];done)),H',⟨by have:=HJ1.out;have:=HK2.out;have:=HK3.out;have:=HK4.out;have:=HK5.out;omega⟩,⟨by (with_reducible repeat (first|apply Kd.N_alloc|apply Kd.N_drewN|apply Kd.N_drew));exact HO_61.out⟩,⟨by (with_reducible repeat (first|apply Kd.V_alloc|apply Kd.V_drewN|apply Kd.V_drew));exact HO_168002.out⟩,⟨by (with_reducible repeat (first|apply Kd.V_alloc|apply Kd.V_drewN|apply Kd.V_drew));exact HO_168003.out⟩,⟨by (with_reducible repeat first|apply blk_drewN|apply blk_drew|apply blk_alloc);exact BK167.out⟩,⟨by repeat (first|(with_reducible first|exact HB.out|apply below_alloc|apply pw_below_drewN|apply below_drew1|refine below_set ?_ GE167.out)|exact HB.out)⟩⟩
              ·rw [if_neg c33] at H
               exact absurd H (by simp)
             ·rw [if_neg c32] at H
              exact absurd H (by simp)
            ·rw [if_neg c31] at H
             have c31b0 : decide (x63_4 < (y171.length : Int)) = false:=decide_eq_false c31
             clear c31
             obtain rfl:=Option.some.inj H
             go_wp2
             go_ret
             exact ⟨by first|rfl|(simp [*,errW_none,errW_some] <;> rfl),by repeat (first|(with_reducible first|exact HB.out|apply below_alloc|apply pw_below_drewN|apply below_drew1|refine below_set ?_ GE167.out)|exact HB.out)⟩

end Go.Proofs.Ytggnbbbhlnjleaa.PFnExactTextIn
