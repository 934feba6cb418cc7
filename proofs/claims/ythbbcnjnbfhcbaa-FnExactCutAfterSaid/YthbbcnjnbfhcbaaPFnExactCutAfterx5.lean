-- Written by a program of this session over the print of the kit (wip/t/patch_print.py).
import Derived.Test.YthbbcnjnbfhcbaaPFnExactCutAfterx0
import Derived.Test.YthbbcnjnbfhcbaaPFnExactCutAfterx1
import Derived.Test.YthbbcnjnbfhcbaaPFnExactCutAfterx2
import Derived.Test.YthbbcnjnbfhcbaaPFnExactCutAfterx3
import Derived.Test.YthbbcnjnbfhcbaaPFnExactCutAfterx4
namespace Go.Proofs.Ythbbcnjnbfhcbaa.PFnExactCutAfter
open Go.RowKit Go.Proofs.YthbbcnjnbfhcbaaW.PrintWords Go.Proofs.YthbbcnjnbfhcbaaW.PrintLast Go.Proofs.YthbbcnjnbfhcbaaW.PrintMore
attribute [local go_sem] max2_int min2_int max_two min_two max_three min_three max_four min_four   -- for this text's walks alone
set_option linter.unusedVariables false
set_option linter.unusedSimpArgs false

/-! ### laws_FnExactCutAfter: function 7 -/
mutual
def laws_FnExactCutAfter.j0 : Nat → Int → Int → Int → Bool → List (List Int) → Int → Bool → Int → List (List Int) → Int → Bool → Int → List (List Int) → Int → Bool → Int → List (List Int) → Int → Bool → Int → Option (Bool)
  | 0, _, _, _, _, _, _, _, _, _, _, _, _, _, _, _, _, _, _, _, _ => none
  | k + 1, x1, x7, x10, x44, x216000, x216001, x216002, x216003, x231000, x231001, x231002, x231003, x238000, x238001, x238002, x238003, x246000, x246001, x246002, x246003 => if x44 = true then (some false) else ((laws_toDisk.f k x216000 x216001 x216002 x216003).bind fun bt247 => ((laws_eqDisk.f k x238000 x238001 x238002 x238003 bt247.1 bt247.2.1 bt247.2.2.1 bt247.2.2.2).bind fun t253 => (if t253 = true then ((laws_markDisk.f k x238000 x238001 x238002 x238003 1).bind fun bt254 => (if bt254.1 < 0 then (laws_FnExactCutAfter.j1 k x1 x7 true x216000 x216001 x216002 x216003 x231000 x231001 x231002 x231003 x246000 x246001 x246002 x246003) else ((laws_eqDisk.f k x246000 x246001 x246002 x246003 x231000 x231001 x231002 x231003).bind fun t256 => (if t256 = true then (laws_FnExactCutAfter.j1 k x1 x7 (x10 != x7) x216000 x216001 x216002 x216003 x231000 x231001 x231002 x231003 x246000 x246001 x246002 x246003) else (laws_FnExactCutAfter.j1 k x1 x7 true x216000 x216001 x216002 x216003 x231000 x231001 x231002 x231003 x246000 x246001 x246002 x246003))))) else (some false))))
def laws_FnExactCutAfter.j1 : Nat → Int → Int → Bool → List (List Int) → Int → Bool → Int → List (List Int) → Int → Bool → Int → List (List Int) → Int → Bool → Int → Option (Bool)
  | 0, _, _, _, _, _, _, _, _, _, _, _, _, _, _, _ => none
  | k + 1, x1, x7, x65, x216000, x216001, x216002, x216003, x231000, x231001, x231002, x231003, x246000, x246001, x246002, x246003 => if x65 = true then (some false) else ((laws_markDisk.f k x246000 x246001 x246002 x246003 1).bind fun bt257 => ((laws_heldDisk.f k bt257.2 x246001 x246002 x246003 1).bind fun t259 => (if t259 < 0 then (some false) else (if t259 = bt257.1 then ((laws_toDisk.f k x216000 x216001 x216002 x216003).bind fun bt260 => ((impl_CutAfter.f k bt260.1 bt260.2.1 bt260.2.2.1 bt260.2.2.2 x1).bind fun bt266 => ((laws_eqDisk.f k bt266.1 bt266.2.1 bt266.2.2.1 bt266.2.2.2.1 x231000 x231001 x231002 x231003).bind fun t274 => (if t274 = true then (laws_FnExactCutAfter.j2 k bt257.1 (bt266.2.2.2.2 != x7) bt257.2 x246001 x246002 x246003) else (laws_FnExactCutAfter.j2 k bt257.1 true bt257.2 x246001 x246002 x246003))))) else (some false)))))
def laws_FnExactCutAfter.j2 : Nat → Int → Bool → List (List Int) → Int → Bool → Int → Option (Bool)
  | 0, _, _, _, _, _, _ => none
  | k + 1, x12, x92, x246000, x246001, x246002, x246003 => if x92 = true then (some false) else ((laws_heldDisk.f k x246000 x246001 x246002 x246003 1).bind fun t275 => (if t275 < 0 then (some false) else (if t275 = x12 then (some true) else (some false))))
end
def laws_FnExactCutAfter.f (k : Nat) (l0_0 : List (List Int)) (a0_1 : Int) (a0_2 : Bool) (a0_3 : Int) (a1 : Int) : Option (Bool) := (laws_szDisk.f k l0_0 a0_1 a0_2 a0_3 1048576).bind fun t216 => (if t216 < 0 then (some true) else ((laws_toDisk.f k l0_0 a0_1 a0_2 a0_3).bind fun bt217 => ((spec_CutAfter.f k bt217.1 bt217.2.1 bt217.2.2.1 bt217.2.2.2 a1).bind fun bt223 => ((laws_toDisk.f k l0_0 a0_1 a0_2 a0_3).bind fun bt231 => ((impl_CutAfter.f k bt231.1 bt231.2.1 bt231.2.2.1 bt231.2.2.2 a1).bind fun bt238 => ((laws_eqDisk.f k bt238.1 bt238.2.1 bt238.2.2.1 bt238.2.2.2.1 bt223.1 bt223.2.1 bt223.2.2.1 bt223.2.2.2.1).bind fun t246 => (if t246 = true then (laws_FnExactCutAfter.j0 k a1 bt223.2.2.2.2 bt238.2.2.2.2 (bt238.2.2.2.2 != bt223.2.2.2.2) l0_0 a0_1 a0_2 a0_3 bt223.1 bt223.2.1 bt223.2.2.1 bt223.2.2.2.1 bt231.1 bt231.2.1 bt231.2.2.1 bt231.2.2.2 bt238.1 bt238.2.1 bt238.2.2.1 bt238.2.2.2.1) else (laws_FnExactCutAfter.j0 k a1 bt223.2.2.2.2 bt238.2.2.2.2 true l0_0 a0_1 a0_2 a0_3 bt223.1 bt223.2.1 bt223.2.2.1 bt223.2.2.2.1 bt231.1 bt231.2.1 bt231.2.2.1 bt231.2.2.2 bt238.1 bt238.2.1 bt238.2.2.1 bt238.2.2.2.1))))))))
theorem laws_FnExactCutAfter.mono_l : ∀ k, (∀ y0 y1 y2 y3 y4 y5 y6 y7 y8 y9 y10 y11 y12 y13 y14 y15 y16 y17 y18 y19, LeO (laws_FnExactCutAfter.j0 k y0 y1 y2 y3 y4 y5 y6 y7 y8 y9 y10 y11 y12 y13 y14 y15 y16 y17 y18 y19) (laws_FnExactCutAfter.j0 (k + 1) y0 y1 y2 y3 y4 y5 y6 y7 y8 y9 y10 y11 y12 y13 y14 y15 y16 y17 y18 y19)) ∧ (∀ y0 y1 y2 y3 y4 y5 y6 y7 y8 y9 y10 y11 y12 y13 y14, LeO (laws_FnExactCutAfter.j1 k y0 y1 y2 y3 y4 y5 y6 y7 y8 y9 y10 y11 y12 y13 y14) (laws_FnExactCutAfter.j1 (k + 1) y0 y1 y2 y3 y4 y5 y6 y7 y8 y9 y10 y11 y12 y13 y14)) ∧ (∀ y0 y1 y2 y3 y4 y5, LeO (laws_FnExactCutAfter.j2 k y0 y1 y2 y3 y4 y5) (laws_FnExactCutAfter.j2 (k + 1) y0 y1 y2 y3 y4 y5))
  | 0 => ⟨fun _ _ _ _ _ _ _ _ _ _ _ _ _ _ _ _ _ _ _ _ r h => by simp [laws_FnExactCutAfter.j0] at h, fun _ _ _ _ _ _ _ _ _ _ _ _ _ _ _ r h => by simp [laws_FnExactCutAfter.j1] at h, fun _ _ _ _ _ _ r h => by simp [laws_FnExactCutAfter.j2] at h⟩
  | k + 1 => by
    obtain ⟨ih0, ih1, ih2⟩ := laws_FnExactCutAfter.mono_l k
    refine ⟨?_, ?_, ?_⟩
    · intro y0 y1 y2 y3 y4 y5 y6 y7 y8 y9 y10 y11 y12 y13 y14 y15 y16 y17 y18 y19
      unfold laws_FnExactCutAfter.j0
      repeat' first
      | (with_reducible exact ih0 _ _ _ _ _ _ _ _ _ _ _ _ _ _ _ _ _ _ _ _)
      | (with_reducible exact ih1 _ _ _ _ _ _ _ _ _ _ _ _ _ _ _)
      | (with_reducible exact ih2 _ _ _ _ _ _)
      | (with_reducible exact impl_CutAfter.mono _ _ _ _ _ _)
      | (with_reducible exact laws_eqDisk.mono _ _ _ _ _ _ _ _ _)
      | (with_reducible exact laws_heldDisk.mono _ _ _ _ _ _)
      | (with_reducible exact laws_markDisk.mono _ _ _ _ _ _)
      | (with_reducible exact laws_szDisk.mono _ _ _ _ _ _)
      | (with_reducible exact laws_toDisk.mono _ _ _ _ _)
      | (with_reducible exact spec_CutAfter.mono _ _ _ _ _ _)
      | (with_reducible exact LeO.refl _)
      | (with_reducible exact LeO.none _)
      | (with_reducible refine LeO.ite ?_ ?_)
      | (with_reducible refine LeO.bind ?_ (fun _ => ?_))
      | exact ih0 _ _ _ _ _ _ _ _ _ _ _ _ _ _ _ _ _ _ _ _
      | exact ih1 _ _ _ _ _ _ _ _ _ _ _ _ _ _ _
      | exact ih2 _ _ _ _ _ _
      | exact impl_CutAfter.mono _ _ _ _ _ _
      | exact laws_eqDisk.mono _ _ _ _ _ _ _ _ _
      | exact laws_heldDisk.mono _ _ _ _ _ _
      | exact laws_markDisk.mono _ _ _ _ _ _
      | exact laws_szDisk.mono _ _ _ _ _ _
      | exact laws_toDisk.mono _ _ _ _ _
      | exact spec_CutAfter.mono _ _ _ _ _ _
      | exact LeO.none _
      | refine LeO.ite ?_ ?_
      | refine LeO.bind ?_ (fun _ => ?_)
    · intro y0 y1 y2 y3 y4 y5 y6 y7 y8 y9 y10 y11 y12 y13 y14
      unfold laws_FnExactCutAfter.j1
      repeat' first
      | (with_reducible exact ih0 _ _ _ _ _ _ _ _ _ _ _ _ _ _ _ _ _ _ _ _)
      | (with_reducible exact ih1 _ _ _ _ _ _ _ _ _ _ _ _ _ _ _)
      | (with_reducible exact ih2 _ _ _ _ _ _)
      | (with_reducible exact impl_CutAfter.mono _ _ _ _ _ _)
      | (with_reducible exact laws_eqDisk.mono _ _ _ _ _ _ _ _ _)
      | (with_reducible exact laws_heldDisk.mono _ _ _ _ _ _)
      | (with_reducible exact laws_markDisk.mono _ _ _ _ _ _)
      | (with_reducible exact laws_szDisk.mono _ _ _ _ _ _)
      | (with_reducible exact laws_toDisk.mono _ _ _ _ _)
      | (with_reducible exact spec_CutAfter.mono _ _ _ _ _ _)
      | (with_reducible exact LeO.refl _)
      | (with_reducible exact LeO.none _)
      | (with_reducible refine LeO.ite ?_ ?_)
      | (with_reducible refine LeO.bind ?_ (fun _ => ?_))
      | exact ih0 _ _ _ _ _ _ _ _ _ _ _ _ _ _ _ _ _ _ _ _
      | exact ih1 _ _ _ _ _ _ _ _ _ _ _ _ _ _ _
      | exact ih2 _ _ _ _ _ _
      | exact impl_CutAfter.mono _ _ _ _ _ _
      | exact laws_eqDisk.mono _ _ _ _ _ _ _ _ _
      | exact laws_heldDisk.mono _ _ _ _ _ _
      | exact laws_markDisk.mono _ _ _ _ _ _
      | exact laws_szDisk.mono _ _ _ _ _ _
      | exact laws_toDisk.mono _ _ _ _ _
      | exact spec_CutAfter.mono _ _ _ _ _ _
      | exact LeO.none _
      | refine LeO.ite ?_ ?_
      | refine LeO.bind ?_ (fun _ => ?_)
    · intro y0 y1 y2 y3 y4 y5
      unfold laws_FnExactCutAfter.j2
      repeat' first
      | (with_reducible exact ih0 _ _ _ _ _ _ _ _ _ _ _ _ _ _ _ _ _ _ _ _)
      | (with_reducible exact ih1 _ _ _ _ _ _ _ _ _ _ _ _ _ _ _)
      | (with_reducible exact ih2 _ _ _ _ _ _)
      | (with_reducible exact impl_CutAfter.mono _ _ _ _ _ _)
      | (with_reducible exact laws_eqDisk.mono _ _ _ _ _ _ _ _ _)
      | (with_reducible exact laws_heldDisk.mono _ _ _ _ _ _)
      | (with_reducible exact laws_markDisk.mono _ _ _ _ _ _)
      | (with_reducible exact laws_szDisk.mono _ _ _ _ _ _)
      | (with_reducible exact laws_toDisk.mono _ _ _ _ _)
      | (with_reducible exact spec_CutAfter.mono _ _ _ _ _ _)
      | (with_reducible exact LeO.refl _)
      | (with_reducible exact LeO.none _)
      | (with_reducible refine LeO.ite ?_ ?_)
      | (with_reducible refine LeO.bind ?_ (fun _ => ?_))
      | exact ih0 _ _ _ _ _ _ _ _ _ _ _ _ _ _ _ _ _ _ _ _
      | exact ih1 _ _ _ _ _ _ _ _ _ _ _ _ _ _ _
      | exact ih2 _ _ _ _ _ _
      | exact impl_CutAfter.mono _ _ _ _ _ _
      | exact laws_eqDisk.mono _ _ _ _ _ _ _ _ _
      | exact laws_heldDisk.mono _ _ _ _ _ _
      | exact laws_markDisk.mono _ _ _ _ _ _
      | exact laws_szDisk.mono _ _ _ _ _ _
      | exact laws_toDisk.mono _ _ _ _ _
      | exact spec_CutAfter.mono _ _ _ _ _ _
      | exact LeO.none _
      | refine LeO.ite ?_ ?_
      | refine LeO.bind ?_ (fun _ => ?_)
theorem laws_FnExactCutAfter.mono : ∀ a0 a1 a2 a3 a4 k, LeO (laws_FnExactCutAfter.f k a0 a1 a2 a3 a4) (laws_FnExactCutAfter.f (k + 1) a0 a1 a2 a3 a4) := by
  intro a0 a1 a2 a3 a4 k
  obtain ⟨ih0, ih1, ih2⟩ := laws_FnExactCutAfter.mono_l k
  unfold laws_FnExactCutAfter.f
  repeat' first
      | (with_reducible exact ih0 _ _ _ _ _ _ _ _ _ _ _ _ _ _ _ _ _ _ _ _)
      | (with_reducible exact ih1 _ _ _ _ _ _ _ _ _ _ _ _ _ _ _)
      | (with_reducible exact ih2 _ _ _ _ _ _)
      | (with_reducible exact impl_CutAfter.mono _ _ _ _ _ _)
      | (with_reducible exact laws_eqDisk.mono _ _ _ _ _ _ _ _ _)
      | (with_reducible exact laws_heldDisk.mono _ _ _ _ _ _)
      | (with_reducible exact laws_markDisk.mono _ _ _ _ _ _)
      | (with_reducible exact laws_szDisk.mono _ _ _ _ _ _)
      | (with_reducible exact laws_toDisk.mono _ _ _ _ _)
      | (with_reducible exact spec_CutAfter.mono _ _ _ _ _ _)
      | (with_reducible exact LeO.refl _)
      | (with_reducible exact LeO.none _)
      | (with_reducible refine LeO.ite ?_ ?_)
      | (with_reducible refine LeO.bind ?_ (fun _ => ?_))
      | exact ih0 _ _ _ _ _ _ _ _ _ _ _ _ _ _ _ _ _ _ _ _
      | exact ih1 _ _ _ _ _ _ _ _ _ _ _ _ _ _ _
      | exact ih2 _ _ _ _ _ _
      | exact impl_CutAfter.mono _ _ _ _ _ _
      | exact laws_eqDisk.mono _ _ _ _ _ _ _ _ _
      | exact laws_heldDisk.mono _ _ _ _ _ _
      | exact laws_markDisk.mono _ _ _ _ _ _
      | exact laws_szDisk.mono _ _ _ _ _ _
      | exact laws_toDisk.mono _ _ _ _ _
      | exact spec_CutAfter.mono _ _ _ _ _ _
      | exact LeO.none _
      | refine LeO.ite ?_ ?_
      | refine LeO.bind ?_ (fun _ => ?_)
set_option maxHeartbeats 8000000 in
set_option maxRecDepth 100000 in
theorem laws_FnExactCutAfter.calls (k : Nat) (A0_0 : Option Addr) (c0_0 : Nat) (l0_0 : List (List Int)) (a0_1 : Int) (a0_2 : Bool) (a0_3 : Int) (a1 : Int) (r : Bool) (w : World) (hr0_0 : Kd.C (Kd.slice 5 (Kd.int .u8)) w A0_0 l0_0.length l0_0) (hc0_0 : l0_0.length ≤ c0_0) (h : laws_FnExactCutAfter.f k l0_0 a0_1 a0_2 a0_3 a1 = some r) :
    Calls Try.prog 7 #[.agg #[.slice A0_0 l0_0.length c0_0, .int .i64 a0_1, .bool a0_2, .int .i64 a0_3], .int .i64 a1] w fun e w' => e = .returned (.bool r) ∧ Below w.heap.size w w' := by
  have hu30 := Try.underlying30
  have hu24 := Try.underlying24
  have HR0_0 := Aside0.mk hr0_0
  have HC0_0 := Aside0.mk hc0_0
  clear hr0_0 hc0_0
  have HB := Aside0.mk (Below.refl w.heap.size w)
  have H : ((laws_szDisk.f k l0_0 a0_1 a0_2 a0_3 1048576).bind fun t216 => (if t216 < 0 then (some true) else ((laws_toDisk.f k l0_0 a0_1 a0_2 a0_3).bind fun bt217 => ((spec_CutAfter.f k bt217.1 bt217.2.1 bt217.2.2.1 bt217.2.2.2 a1).bind fun bt223 => ((laws_toDisk.f k l0_0 a0_1 a0_2 a0_3).bind fun bt231 => ((impl_CutAfter.f k bt231.1 bt231.2.1 bt231.2.2.1 bt231.2.2.2 a1).bind fun bt238 => ((laws_eqDisk.f k bt238.1 bt238.2.1 bt238.2.2.1 bt238.2.2.2.1 bt223.1 bt223.2.1 bt223.2.2.1 bt223.2.2.2.1).bind fun t246 => (if t246 = true then (laws_FnExactCutAfter.j0 k a1 bt223.2.2.2.2 bt238.2.2.2.2 (bt238.2.2.2.2 != bt223.2.2.2.2) l0_0 a0_1 a0_2 a0_3 bt223.1 bt223.2.1 bt223.2.2.1 bt223.2.2.2.1 bt231.1 bt231.2.1 bt231.2.2.1 bt231.2.2.2 bt238.1 bt238.2.1 bt238.2.2.1 bt238.2.2.2.1) else (laws_FnExactCutAfter.j0 k a1 bt223.2.2.2.2 bt238.2.2.2.2 true l0_0 a0_1 a0_2 a0_3 bt223.1 bt223.2.1 bt223.2.2.1 bt223.2.2.2.1 bt231.1 bt231.2.1 bt231.2.2.1 bt231.2.2.2 bt238.1 bt238.2.1 bt238.2.2.1 bt238.2.2.2.1))))))))) = some r := h
  clear h
  replace H := Option.bind_eq_some_iff.mp H
  obtain ⟨t216, A30, H⟩ := H
  replace H : (if t216 < 0 then (some true) else ((laws_toDisk.f k l0_0 a0_1 a0_2 a0_3).bind fun bt217 => ((spec_CutAfter.f k bt217.1 bt217.2.1 bt217.2.2.1 bt217.2.2.2 a1).bind fun bt223 => ((laws_toDisk.f k l0_0 a0_1 a0_2 a0_3).bind fun bt231 => ((impl_CutAfter.f k bt231.1 bt231.2.1 bt231.2.2.1 bt231.2.2.2 a1).bind fun bt238 => ((laws_eqDisk.f k bt238.1 bt238.2.1 bt238.2.2.1 bt238.2.2.2.1 bt223.1 bt223.2.1 bt223.2.2.1 bt223.2.2.2.1).bind fun t246 => (if t246 = true then (laws_FnExactCutAfter.j0 k a1 bt223.2.2.2.2 bt238.2.2.2.2 (bt238.2.2.2.2 != bt223.2.2.2.2) l0_0 a0_1 a0_2 a0_3 bt223.1 bt223.2.1 bt223.2.2.1 bt223.2.2.2.1 bt231.1 bt231.2.1 bt231.2.2.1 bt231.2.2.2 bt238.1 bt238.2.1 bt238.2.2.1 bt238.2.2.2.1) else (laws_FnExactCutAfter.j0 k a1 bt223.2.2.2.2 bt238.2.2.2.2 true l0_0 a0_1 a0_2 a0_3 bt223.1 bt223.2.1 bt223.2.2.1 bt223.2.2.2.1 bt231.1 bt231.2.1 bt231.2.2.1 bt231.2.2.2 bt238.1 bt238.2.1 bt238.2.2.1 bt238.2.2.2.1)))))))) = some r := H
  have A3 := Aside0.mk A30
  clear A30
  by_cases c4 : t216 < 0
  · rw [if_pos c4] at H
    have c4b0 : decide (t216 < 0) = true := decide_eq_true c4
    clear c4
    obtain rfl := Option.some.inj H
    go_enter Try.func7, Try.ntmps7
    go_wp2_with (first | ((with_reducible refine gate_dst (N := 2) rfl ?_); refine box_event ?hg (N := 2) ?hd (cs := #[.slice A0_0 l0_0.length c0_0, .int .i64 a0_1, .bool a0_2, .int .i64 a0_3]) (t := 30) ?hr ?_; (case hd => rfl); (case hg => rfl); (case hr => first | (go_simp; done) | (go_simp; rfl)); intro gb215 hg w5 hbox hb; have n0_ := Aside0.mk (below_step (by repeat (first | (with_reducible first | exact HB.out | apply below_alloc | apply pw_below_drewN | apply below_drew1) | exact HB.out)) hb); have n1_ := Aside0.mk (hbox); have n2_ := Aside0.mk ((by rw [hg]; exact (below_size (by repeat (first | (with_reducible first | exact HB.out | apply below_alloc | apply pw_below_drewN | apply below_drew1) | exact HB.out))) : w.heap.size ≤ gb215)); have n3_ := Aside0.mk ((by rw [hg]; exact (below_size (by repeat (first | (with_reducible first | exact HB.out | apply below_alloc | apply pw_below_drewN | apply below_drew1) | exact HB.out))) : w.heap.size ≤ gb215)); clear HB; have HB := n0_; have BK215 := n1_; have GW215 := n2_; have GE215 := n3_; clear n0_ n1_ n2_ n3_; clear hb hbox hg; have hcz6_0 : w5.cell? ⟨gb215, 0, none⟩ = some (.slice A0_0 l0_0.length c0_0) := (blk_cell BK215.out 0).trans rfl; have hcz6_1 : w5.cell? ⟨gb215, 1, none⟩ = some (.int .i64 a0_1) := (blk_cell BK215.out 1).trans rfl; have hcz6_2 : w5.cell? ⟨gb215, 2, none⟩ = some (.bool a0_2) := (blk_cell BK215.out 2).trans rfl; have hcz6_3 : w5.cell? ⟨gb215, 3, none⟩ = some (.int .i64 a0_3) := (blk_cell BK215.out 3).trans rfl; have hfz6_0 := blk_frozen BK215.out 0; have hfz6_1 := blk_frozen BK215.out 1; have hfz6_2 := blk_frozen BK215.out 2; have hfz6_3 := blk_frozen BK215.out 3) | ((with_reducible refine gate_callee (f := 16) rfl ?_); refine goesL_ (some 18) rfl rfl Try.func16 (by kernel_rfl) rfl #[.agg #[.slice A0_0 l0_0.length c0_0, .int .i64 a0_1, .bool a0_2, .int .i64 a0_3], .int .i64 1048576] rfl (by (try simp only [List.map_toArray, List.map_cons, List.map_nil]); first | done | rfl | (simp only [List.length_drop, List.length_take]; rfl)) ?_; (with_reducible refine (laws_szDisk.calls k _ _ l0_0 a0_1 a0_2 a0_3 1048576 t216 _ ?side1 ?side2 A3.out).mono ?_); (case side1 => repeat (first | exact (Kd.C_below HR0_0.out HB.out) | (with_reducible refine Kd.C_alloc ?_ _) | (with_reducible refine Kd.C_drewN ?_ _) | (with_reducible refine Kd.C_drew ?_))); (case side2 => exact HC0_0.out); rintro e w7 ⟨rfl, hb⟩; refine ⟨_, rfl, ?_⟩; have n0_ := Aside0.mk (blk_below (g := gb215) (o := .cells #[.slice A0_0 l0_0.length c0_0, .int .i64 a0_1, .bool a0_2, .int .i64 a0_3] 30 (0, 0)) (by (with_reducible repeat (first | refine blk_drewN ?_ _ | refine blk_drew ?_ | refine blk_alloc ?_ _)); exact BK215.out) hb); have n1_ := Aside0.mk (below_step (by repeat (first | (with_reducible first | exact HB.out | apply below_alloc | apply pw_below_drewN | apply below_drew1 | refine below_set ?_ GE215.out) | exact HB.out)) hb); clear BK215; clear HB; have BK215 := n0_; have HB := n1_; clear n0_ n1_; (try clear hb); (try clear hb2); (try clear hk); (try clear hi)))
    go_ret
    exact ⟨by first | rfl | (simp [errW_none, errW_some] <;> rfl) | (simp [*, errW_none, errW_some] <;> rfl), by repeat (first | (with_reducible first | exact HB.out | apply below_alloc | apply pw_below_drewN | apply below_drew1 | refine below_set ?_ GE215.out) | exact HB.out)⟩
  · rw [if_neg c4] at H
    have c4b0 : decide (t216 < 0) = false := decide_eq_false c4
    clear c4
    replace H := Option.bind_eq_some_iff.mp H
    obtain ⟨⟨t217, t220, t221, t222⟩, A80, H⟩ := H
    replace H : ((spec_CutAfter.f k t217 t220 t221 t222 a1).bind fun bt223 => ((laws_toDisk.f k l0_0 a0_1 a0_2 a0_3).bind fun bt231 => ((impl_CutAfter.f k bt231.1 bt231.2.1 bt231.2.2.1 bt231.2.2.2 a1).bind fun bt238 => ((laws_eqDisk.f k bt238.1 bt238.2.1 bt238.2.2.1 bt238.2.2.2.1 bt223.1 bt223.2.1 bt223.2.2.1 bt223.2.2.2.1).bind fun t246 => (if t246 = true then (laws_FnExactCutAfter.j0 k a1 bt223.2.2.2.2 bt238.2.2.2.2 (bt238.2.2.2.2 != bt223.2.2.2.2) l0_0 a0_1 a0_2 a0_3 bt223.1 bt223.2.1 bt223.2.2.1 bt223.2.2.2.1 bt231.1 bt231.2.1 bt231.2.2.1 bt231.2.2.2 bt238.1 bt238.2.1 bt238.2.2.1 bt238.2.2.2.1) else (laws_FnExactCutAfter.j0 k a1 bt223.2.2.2.2 bt238.2.2.2.2 true l0_0 a0_1 a0_2 a0_3 bt223.1 bt223.2.1 bt223.2.2.1 bt223.2.2.2.1 bt231.1 bt231.2.1 bt231.2.2.1 bt231.2.2.2 bt238.1 bt238.2.1 bt238.2.2.1 bt238.2.2.2.1)))))) = some r := H
    have A8 := Aside0.mk A80
    clear A80
    replace H := Option.bind_eq_some_iff.mp H
    obtain ⟨⟨t223, t226, t227, t228, t229⟩, A90, H⟩ := H
    replace H : ((laws_toDisk.f k l0_0 a0_1 a0_2 a0_3).bind fun bt231 => ((impl_CutAfter.f k bt231.1 bt231.2.1 bt231.2.2.1 bt231.2.2.2 a1).bind fun bt238 => ((laws_eqDisk.f k bt238.1 bt238.2.1 bt238.2.2.1 bt238.2.2.2.1 t223 t226 t227 t228).bind fun t246 => (if t246 = true then (laws_FnExactCutAfter.j0 k a1 t229 bt238.2.2.2.2 (bt238.2.2.2.2 != t229) l0_0 a0_1 a0_2 a0_3 t223 t226 t227 t228 bt231.1 bt231.2.1 bt231.2.2.1 bt231.2.2.2 bt238.1 bt238.2.1 bt238.2.2.1 bt238.2.2.2.1) else (laws_FnExactCutAfter.j0 k a1 t229 bt238.2.2.2.2 true l0_0 a0_1 a0_2 a0_3 t223 t226 t227 t228 bt231.1 bt231.2.1 bt231.2.2.1 bt231.2.2.2 bt238.1 bt238.2.1 bt238.2.2.1 bt238.2.2.2.1))))) = some r := H
    have A9 := Aside0.mk A90
    clear A90
    replace H := Option.bind_eq_some_iff.mp H
    obtain ⟨⟨t231, t234, t235, t236⟩, A100, H⟩ := H
    replace H : ((impl_CutAfter.f k t231 t234 t235 t236 a1).bind fun bt238 => ((laws_eqDisk.f k bt238.1 bt238.2.1 bt238.2.2.1 bt238.2.2.2.1 t223 t226 t227 t228).bind fun t246 => (if t246 = true then (laws_FnExactCutAfter.j0 k a1 t229 bt238.2.2.2.2 (bt238.2.2.2.2 != t229) l0_0 a0_1 a0_2 a0_3 t223 t226 t227 t228 t231 t234 t235 t236 bt238.1 bt238.2.1 bt238.2.2.1 bt238.2.2.2.1) else (laws_FnExactCutAfter.j0 k a1 t229 bt238.2.2.2.2 true l0_0 a0_1 a0_2 a0_3 t223 t226 t227 t228 t231 t234 t235 t236 bt238.1 bt238.2.1 bt238.2.2.1 bt238.2.2.2.1)))) = some r := H
    have A10 := Aside0.mk A100
    clear A100
    replace H := Option.bind_eq_some_iff.mp H
    obtain ⟨⟨t238, t241, t242, t243, t244⟩, A110, H⟩ := H
    replace H : ((laws_eqDisk.f k t238 t241 t242 t243 t223 t226 t227 t228).bind fun t246 => (if t246 = true then (laws_FnExactCutAfter.j0 k a1 t229 t244 (t244 != t229) l0_0 a0_1 a0_2 a0_3 t223 t226 t227 t228 t231 t234 t235 t236 t238 t241 t242 t243) else (laws_FnExactCutAfter.j0 k a1 t229 t244 true l0_0 a0_1 a0_2 a0_3 t223 t226 t227 t228 t231 t234 t235 t236 t238 t241 t242 t243))) = some r := H
    have A11 := Aside0.mk A110
    clear A110
    have HC12 := Aside0.mk H
    clear H
    go_enter Try.func7, Try.ntmps7
    go_upto_region 8 with (first | ((with_reducible refine gate_dst (N := 2) rfl ?_); refine box_event ?hg (N := 2) ?hd (cs := #[.slice A0_0 l0_0.length c0_0, .int .i64 a0_1, .bool a0_2, .int .i64 a0_3]) (t := 30) ?hr ?_; (case hd => rfl); (case hg => rfl); (case hr => first | (go_simp; done) | (go_simp; rfl)); intro gb215 hg w13 hbox hb; have n0_ := Aside0.mk (below_step (by repeat (first | (with_reducible first | exact HB.out | apply below_alloc | apply pw_below_drewN | apply below_drew1) | exact HB.out)) hb); have n1_ := Aside0.mk (hbox); have n2_ := Aside0.mk ((by rw [hg]; exact (below_size (by repeat (first | (with_reducible first | exact HB.out | apply below_alloc | apply pw_below_drewN | apply below_drew1) | exact HB.out))) : w.heap.size ≤ gb215)); have n3_ := Aside0.mk ((by rw [hg]; exact (below_size (by repeat (first | (with_reducible first | exact HB.out | apply below_alloc | apply pw_below_drewN | apply below_drew1) | exact HB.out))) : w.heap.size ≤ gb215)); clear HB; have HB := n0_; have BK215 := n1_; have GW215 := n2_; have GE215 := n3_; clear n0_ n1_ n2_ n3_; clear hb hbox hg; have hcz14_0 : w13.cell? ⟨gb215, 0, none⟩ = some (.slice A0_0 l0_0.length c0_0) := (blk_cell BK215.out 0).trans rfl; have hcz14_1 : w13.cell? ⟨gb215, 1, none⟩ = some (.int .i64 a0_1) := (blk_cell BK215.out 1).trans rfl; have hcz14_2 : w13.cell? ⟨gb215, 2, none⟩ = some (.bool a0_2) := (blk_cell BK215.out 2).trans rfl; have hcz14_3 : w13.cell? ⟨gb215, 3, none⟩ = some (.int .i64 a0_3) := (blk_cell BK215.out 3).trans rfl; have hfz14_0 := blk_frozen BK215.out 0; have hfz14_1 := blk_frozen BK215.out 1; have hfz14_2 := blk_frozen BK215.out 2; have hfz14_3 := blk_frozen BK215.out 3) | ((with_reducible refine gate_callee (f := 16) rfl ?_); refine goesL_ (some 18) rfl rfl Try.func16 (by kernel_rfl) rfl #[.agg #[.slice A0_0 l0_0.length c0_0, .int .i64 a0_1, .bool a0_2, .int .i64 a0_3], .int .i64 1048576] rfl (by (try simp only [List.map_toArray, List.map_cons, List.map_nil]); first | done | rfl | (simp only [List.length_drop, List.length_take]; rfl)) ?_; (with_reducible refine (laws_szDisk.calls k _ _ l0_0 a0_1 a0_2 a0_3 1048576 t216 _ ?side1 ?side2 A3.out).mono ?_); (case side1 => repeat (first | exact (Kd.C_below HR0_0.out HB.out) | (with_reducible refine Kd.C_alloc ?_ _) | (with_reducible refine Kd.C_drewN ?_ _) | (with_reducible refine Kd.C_drew ?_))); (case side2 => exact HC0_0.out); rintro e w15 ⟨rfl, hb⟩; refine ⟨_, rfl, ?_⟩; have n0_ := Aside0.mk (blk_below (g := gb215) (o := .cells #[.slice A0_0 l0_0.length c0_0, .int .i64 a0_1, .bool a0_2, .int .i64 a0_3] 30 (0, 0)) (by (with_reducible repeat (first | refine blk_drewN ?_ _ | refine blk_drew ?_ | refine blk_alloc ?_ _)); exact BK215.out) hb); have n1_ := Aside0.mk (below_step (by repeat (first | (with_reducible first | exact HB.out | apply below_alloc | apply pw_below_drewN | apply below_drew1 | refine below_set ?_ GE215.out) | exact HB.out)) hb); clear BK215; clear HB; have BK215 := n0_; have HB := n1_; clear n0_ n1_; (try clear hb); (try clear hb2); (try clear hk); (try clear hi); have hcz16_0 : w15.cell? ⟨gb215, 0, none⟩ = some (.slice A0_0 l0_0.length c0_0) := (blk_cell BK215.out 0).trans rfl; have hcz16_1 : w15.cell? ⟨gb215, 1, none⟩ = some (.int .i64 a0_1) := (blk_cell BK215.out 1).trans rfl; have hcz16_2 : w15.cell? ⟨gb215, 2, none⟩ = some (.bool a0_2) := (blk_cell BK215.out 2).trans rfl; have hcz16_3 : w15.cell? ⟨gb215, 3, none⟩ = some (.int .i64 a0_3) := (blk_cell BK215.out 3).trans rfl; have hfz16_0 := blk_frozen BK215.out 0; have hfz16_1 := blk_frozen BK215.out 1; have hfz16_2 := blk_frozen BK215.out 2; have hfz16_3 := blk_frozen BK215.out 3) | ((with_reducible refine gate_callee (f := 18) rfl ?_); refine goesL_ (some 23) rfl rfl Try.func18 (by kernel_rfl) rfl #[.agg #[.slice A0_0 l0_0.length c0_0, .int .i64 a0_1, .bool a0_2, .int .i64 a0_3]] rfl (by (try simp only [List.map_toArray, List.map_cons, List.map_nil]); first | done | rfl | (simp only [List.length_drop, List.length_take]; rfl)) ?_; (with_reducible refine (laws_toDisk.calls k _ _ l0_0 a0_1 a0_2 a0_3 t217 t220 t221 t222 _ ?side1 ?side2 A8.out).mono ?_); (case side1 => repeat (first | exact (Kd.C_below HR0_0.out HB.out) | (with_reducible refine Kd.C_alloc ?_ _) | (with_reducible refine Kd.C_drewN ?_ _) | (with_reducible refine Kd.C_drew ?_))); (case side2 => exact HC0_0.out); rintro e w17 ⟨v218, rfl, ho0, hb⟩; refine ⟨_, rfl, ?_⟩; have n0_ := Aside0.mk (Kd.S_lower (Kd.S_mono (Kd.S_bound ho0) (fun k_ h_ => (⟨h_.1, (by first | exact h_.2.1 | simpa only [World.size_setCell] using h_.2.1)⟩ : _ ∧ w15.heap.size ≤ k_))) (below_size (by repeat (first | (with_reducible first | exact HB.out | apply below_alloc | apply pw_below_drewN | apply below_drew1 | refine below_set ?_ GE215.out) | exact HB.out)))); have n1_ := Aside0.mk (blk_below (g := gb215) (o := .cells #[.slice A0_0 l0_0.length c0_0, .int .i64 a0_1, .bool a0_2, .int .i64 a0_3] 30 (0, 0)) (by (with_reducible repeat (first | refine blk_drewN ?_ _ | refine blk_drew ?_ | refine blk_alloc ?_ _)); exact BK215.out) hb); have n2_ := Aside0.mk (below_step (by repeat (first | (with_reducible first | exact HB.out | apply below_alloc | apply pw_below_drewN | apply below_drew1 | refine below_set ?_ GE215.out) | exact HB.out)) hb); clear BK215; clear HB; have HO219 := n0_; have BK215 := n1_; have HB := n2_; clear n0_ n1_ n2_; (try clear hb); (try clear hb2); (try clear hk); (try clear hi); (try clear ho0); obtain ⟨Ao18, co18, eo18⟩ := Kd.S_slice HO219.out; subst eo18) | ((with_reducible refine gate_callee (f := 28) rfl ?_); refine goesL_ (some 25) rfl rfl Try.func28 (by kernel_rfl) rfl #[.agg #[.slice Ao18 t217.length co18, .int .i64 t220, .bool t221, .int .i64 t222], .int .i64 a1] rfl (by (try simp only [List.map_toArray, List.map_cons, List.map_nil]); first | done | rfl | (simp only [List.length_drop, List.length_take]; rfl)) ?_; (with_reducible refine (spec_CutAfter.calls k _ _ t217 t220 t221 t222 a1 t223 t226 t227 t228 t229 _ ?side1 ?side2 A9.out).mono ?_); (case side1 => repeat (first | exact (Kd.S_reads' HO219.out).2.2 | (with_reducible refine Kd.C_alloc ?_ _) | (with_reducible refine Kd.C_drewN ?_ _) | (with_reducible refine Kd.C_drew ?_))); (case side2 => exact (Kd.S_reads' HO219.out).2.1); rintro e w19 ⟨v224, rfl, ho0, hb⟩; refine ⟨_, rfl, ?_⟩; have n0_ := Aside0.mk (Kd.S_told (Kd.S_old (by (with_reducible repeat (first | apply Kd.S_alloc | apply Kd.S_drewN | apply Kd.S_drew)); exact HO219.out) hb) (Kd.S_base ho0)); have n1_ := Aside0.mk (Kd.S_lower (Kd.S_new' (Kd.S_mono (Kd.S_bound ho0) (fun k_ h_ => (⟨h_.1, (by first | exact h_.2.1 | simpa only [World.size_setCell] using h_.2.1)⟩ : _ ∧ w17.heap.size ≤ k_))) (Kd.S_lt (by (with_reducible repeat (first | apply Kd.S_alloc | apply Kd.S_drewN | apply Kd.S_drew)); exact HO219.out))) (below_size (by repeat (first | (with_reducible first | exact HB.out | apply below_alloc | apply pw_below_drewN | apply below_drew1 | refine below_set ?_ GE215.out) | exact HB.out)))); have n2_ := Aside0.mk (blk_below (g := gb215) (o := .cells #[.slice A0_0 l0_0.length c0_0, .int .i64 a0_1, .bool a0_2, .int .i64 a0_3] 30 (0, 0)) (by (with_reducible repeat (first | refine blk_drewN ?_ _ | refine blk_drew ?_ | refine blk_alloc ?_ _)); exact BK215.out) hb); have n3_ := Aside0.mk (below_step (by repeat (first | (with_reducible first | exact HB.out | apply below_alloc | apply pw_below_drewN | apply below_drew1 | refine below_set ?_ GE215.out) | exact HB.out)) hb); clear HO219; clear BK215; clear HB; have HO219 := n0_; have HO225 := n1_; have BK215 := n2_; have HB := n3_; clear n0_ n1_ n2_ n3_; (try clear hb); (try clear hb2); (try clear hk); (try clear hi); (try clear ho0)) | ((with_reducible refine gate_dst (N := 6) rfl ?_); refine box_event ?hg (N := 6) ?hd (cs := #[.slice none 0 0, .int .i64 0, .bool false, .int .i64 0]) (t := 24) ?hr ?_; (case hd => rfl); (case hg => rfl); (case hr => first | (go_simp; done) | (go_simp; rfl)); intro gb230 hg w20 hbox hb; have n0_ := Aside0.mk (Kd.S_below (by (with_reducible repeat (first | apply Kd.S_alloc | apply Kd.S_drewN | apply Kd.S_drew)); exact HO219.out) hb); have n1_ := Aside0.mk (Kd.S_below (by (with_reducible repeat (first | apply Kd.S_alloc | apply Kd.S_drewN | apply Kd.S_drew)); exact HO225.out) hb); have n2_ := Aside0.mk (blk_below (g := gb215) (o := .cells #[.slice A0_0 l0_0.length c0_0, .int .i64 a0_1, .bool a0_2, .int .i64 a0_3] 30 (0, 0)) (by (with_reducible repeat (first | refine blk_drewN ?_ _ | refine blk_drew ?_ | refine blk_alloc ?_ _)); exact BK215.out) hb); have n3_ := Aside0.mk (below_step (by repeat (first | (with_reducible first | exact HB.out | apply below_alloc | apply pw_below_drewN | apply below_drew1 | refine below_set ?_ GE215.out) | exact HB.out)) hb); have n4_ := Aside0.mk (hbox); have n5_ := Aside0.mk ((by rw [hg]; exact (below_size (by repeat (first | (with_reducible first | exact HB.out | apply below_alloc | apply pw_below_drewN | apply below_drew1 | refine below_set ?_ GE215.out) | exact HB.out))) : w.heap.size ≤ gb230)); have n6_ := Aside0.mk ((by rw [hg]; exact (below_size (by repeat (first | (with_reducible first | exact HB.out | apply below_alloc | apply pw_below_drewN | apply below_drew1 | refine below_set ?_ GE215.out) | exact HB.out))) : w.heap.size ≤ gb230)); have n7_ := Aside0.mk ((by rw [hg]; exact Nat.ne_of_lt (blk_lt (g := gb215) (o := .cells #[.slice A0_0 l0_0.length c0_0, .int .i64 a0_1, .bool a0_2, .int .i64 a0_3] 30 (0, 0)) (by (with_reducible repeat (first | refine blk_drewN ?_ _ | refine blk_drew ?_ | refine blk_alloc ?_ _)); exact BK215.out)) : gb215 ≠ gb230)); have n8_ := Aside0.mk ((by rw [hg]; exact Nat.ne_of_gt (blk_lt (g := gb215) (o := .cells #[.slice A0_0 l0_0.length c0_0, .int .i64 a0_1, .bool a0_2, .int .i64 a0_3] 30 (0, 0)) (by (with_reducible repeat (first | refine blk_drewN ?_ _ | refine blk_drew ?_ | refine blk_alloc ?_ _)); exact BK215.out)) : gb230 ≠ gb215)); clear HO219; clear HO225; clear BK215; clear HB; have HO219 := n0_; have HO225 := n1_; have BK215 := n2_; have HB := n3_; have BK230 := n4_; have GW230 := n5_; have GE230 := n6_; have NB215_230 := n7_; have NB230_215 := n8_; clear n0_ n1_ n2_ n3_ n4_ n5_ n6_ n7_ n8_; clear hb hbox hg; obtain ⟨Ao21, co21, eo21⟩ := Kd.S_slice HO225.out; subst eo21; have hnb22 := NB230_215.out; have hnc22 := NB215_230.out; have hcz23_0 : w20.cell? ⟨gb230, 0, none⟩ = some (.slice none 0 0) := (blk_cell BK230.out 0).trans rfl; have hcz23_1 : w20.cell? ⟨gb230, 1, none⟩ = some (.int .i64 0) := (blk_cell BK230.out 1).trans rfl; have hcz23_2 : w20.cell? ⟨gb230, 2, none⟩ = some (.bool false) := (blk_cell BK230.out 2).trans rfl; have hcz23_3 : w20.cell? ⟨gb230, 3, none⟩ = some (.int .i64 0) := (blk_cell BK230.out 3).trans rfl; have hfz23_0 := blk_frozen BK230.out 0; have hfz23_1 := blk_frozen BK230.out 1; have hfz23_2 := blk_frozen BK230.out 2; have hfz23_3 := blk_frozen BK230.out 3; have hcz24_0 : w20.cell? ⟨gb215, 0, none⟩ = some (.slice A0_0 l0_0.length c0_0) := (blk_cell BK215.out 0).trans rfl; have hcz24_1 : w20.cell? ⟨gb215, 1, none⟩ = some (.int .i64 a0_1) := (blk_cell BK215.out 1).trans rfl; have hcz24_2 : w20.cell? ⟨gb215, 2, none⟩ = some (.bool a0_2) := (blk_cell BK215.out 2).trans rfl; have hcz24_3 : w20.cell? ⟨gb215, 3, none⟩ = some (.int .i64 a0_3) := (blk_cell BK215.out 3).trans rfl; have hfz24_0 := blk_frozen BK215.out 0; have hfz24_1 := blk_frozen BK215.out 1; have hfz24_2 := blk_frozen BK215.out 2; have hfz24_3 := blk_frozen BK215.out 3) | ((with_reducible refine gate_callee (f := 18) rfl ?_); refine goesL_ (some 29) rfl rfl Try.func18 (by kernel_rfl) rfl #[.agg #[.slice A0_0 l0_0.length c0_0, .int .i64 a0_1, .bool a0_2, .int .i64 a0_3]] rfl (by (try simp only [List.map_toArray, List.map_cons, List.map_nil]); first | done | rfl | (simp only [List.length_drop, List.length_take]; rfl)) ?_; (with_reducible refine (laws_toDisk.calls k _ _ l0_0 a0_1 a0_2 a0_3 t231 t234 t235 t236 _ ?side1 ?side2 A10.out).mono ?_); (case side1 => exact Kd.C_below HR0_0.out (by repeat (first | (with_reducible first | exact HB.out | apply below_alloc | apply pw_below_drewN | apply below_drew1 | refine below_set ?_ GE215.out | refine below_set ?_ GE230.out) | exact HB.out))); (case side2 => exact HC0_0.out); rintro e w25 ⟨v232, rfl, ho0, hb⟩; refine ⟨_, rfl, ?_⟩; have n0_ := Aside0.mk (Kd.S_mono (Kd.S_told (Kd.S_old (by (with_reducible repeat (first | apply Kd.S_alloc | apply Kd.S_drewN | apply Kd.S_drew)); exact (Kd.S_mono (Kd.S_far (p := ⟨gb230, 3, none⟩) (Kd.S_far (p := ⟨gb230, 2, none⟩) (Kd.S_far (p := ⟨gb230, 1, none⟩) (Kd.S_far (p := ⟨gb230, 0, none⟩) (Kd.S_types HO219.out BK230.out (by decide)) (fun _ hk => hk.2) (.slice Ao21 t223.length co21)) (fun _ hk => hk.2) (.int .i64 t226)) (fun _ hk => hk.2) (.bool t227)) (fun _ hk => hk.2) (.int .i64 t228)) (fun _ h_ => h_.1))) hb) (Kd.S_base ho0)) (fun k_ h_ => (⟨h_.1, (by first | exact h_.2 | simpa only [World.size_setCell] using h_.2)⟩ : _ ∧ k_ < w20.heap.size))); have n1_ := Aside0.mk (Kd.S_mono (Kd.S_told (Kd.S_old (by (with_reducible repeat (first | apply Kd.S_alloc | apply Kd.S_drewN | apply Kd.S_drew)); exact (Kd.S_mono (Kd.S_far (p := ⟨gb230, 3, none⟩) (Kd.S_far (p := ⟨gb230, 2, none⟩) (Kd.S_far (p := ⟨gb230, 1, none⟩) (Kd.S_far (p := ⟨gb230, 0, none⟩) (Kd.S_types HO225.out BK230.out (by decide)) (fun _ hk => hk.2) (.slice Ao21 t223.length co21)) (fun _ hk => hk.2) (.int .i64 t226)) (fun _ hk => hk.2) (.bool t227)) (fun _ hk => hk.2) (.int .i64 t228)) (fun _ h_ => h_.1))) hb) (Kd.S_base ho0)) (fun k_ h_ => (⟨h_.1, (by first | exact h_.2 | simpa only [World.size_setCell] using h_.2)⟩ : _ ∧ k_ < w20.heap.size))); have n2_ := Aside0.mk (Kd.S_lower (Kd.S_new' (Kd.S_new' (Kd.S_mono (Kd.S_bound ho0) (fun k_ h_ => (⟨h_.1, (by first | exact h_.2.1 | simpa only [World.size_setCell] using h_.2.1)⟩ : _ ∧ w20.heap.size ≤ k_))) (Kd.S_lt (by (with_reducible repeat (first | apply Kd.S_alloc | apply Kd.S_drewN | apply Kd.S_drew)); exact (Kd.S_mono (Kd.S_far (p := ⟨gb230, 3, none⟩) (Kd.S_far (p := ⟨gb230, 2, none⟩) (Kd.S_far (p := ⟨gb230, 1, none⟩) (Kd.S_far (p := ⟨gb230, 0, none⟩) (Kd.S_types HO219.out BK230.out (by decide)) (fun _ hk => hk.2) (.slice Ao21 t223.length co21)) (fun _ hk => hk.2) (.int .i64 t226)) (fun _ hk => hk.2) (.bool t227)) (fun _ hk => hk.2) (.int .i64 t228)) (fun _ h_ => h_.1))))) (Kd.S_lt (by (with_reducible repeat (first | apply Kd.S_alloc | apply Kd.S_drewN | apply Kd.S_drew)); exact (Kd.S_mono (Kd.S_far (p := ⟨gb230, 3, none⟩) (Kd.S_far (p := ⟨gb230, 2, none⟩) (Kd.S_far (p := ⟨gb230, 1, none⟩) (Kd.S_far (p := ⟨gb230, 0, none⟩) (Kd.S_types HO225.out BK230.out (by decide)) (fun _ hk => hk.2) (.slice Ao21 t223.length co21)) (fun _ hk => hk.2) (.int .i64 t226)) (fun _ hk => hk.2) (.bool t227)) (fun _ hk => hk.2) (.int .i64 t228)) (fun _ h_ => h_.1))))) (below_size (by repeat (first | (with_reducible first | exact HB.out | apply below_alloc | apply pw_below_drewN | apply below_drew1 | refine below_set ?_ GE215.out | refine below_set ?_ GE230.out) | exact HB.out)))); have n3_ := Aside0.mk (blk_below (g := gb215) (o := .cells #[.slice A0_0 l0_0.length c0_0, .int .i64 a0_1, .bool a0_2, .int .i64 a0_3] 30 (0, 0)) (by (with_reducible repeat (first | refine blk_drewN ?_ _ | refine blk_drew ?_ | refine blk_alloc ?_ _)); refine blk_far ?_ NB215_230.out _; (with_reducible repeat (first | refine blk_drewN ?_ _ | refine blk_drew ?_ | refine blk_alloc ?_ _)); refine blk_far ?_ NB215_230.out _; (with_reducible repeat (first | refine blk_drewN ?_ _ | refine blk_drew ?_ | refine blk_alloc ?_ _)); refine blk_far ?_ NB215_230.out _; (with_reducible repeat (first | refine blk_drewN ?_ _ | refine blk_drew ?_ | refine blk_alloc ?_ _)); refine blk_far ?_ NB215_230.out _; (with_reducible repeat (first | refine blk_drewN ?_ _ | refine blk_drew ?_ | refine blk_alloc ?_ _)); exact BK215.out) hb); have n4_ := Aside0.mk (blk_below (g := gb230) (o := .cells #[.slice Ao21 t223.length co21, .int .i64 t226, .bool t227, .int .i64 t228] 24 (0, 0)) (by (with_reducible repeat (first | refine blk_drewN ?_ _ | refine blk_drew ?_ | refine blk_alloc ?_ _)); refine blk_put (cs := #[.slice Ao21 t223.length co21, .int .i64 t226, .bool t227, .int .i64 0]) ?_ 3 _ rfl; (with_reducible repeat (first | refine blk_drewN ?_ _ | refine blk_drew ?_ | refine blk_alloc ?_ _)); refine blk_put (cs := #[.slice Ao21 t223.length co21, .int .i64 t226, .bool false, .int .i64 0]) ?_ 2 _ rfl; (with_reducible repeat (first | refine blk_drewN ?_ _ | refine blk_drew ?_ | refine blk_alloc ?_ _)); refine blk_put (cs := #[.slice Ao21 t223.length co21, .int .i64 0, .bool false, .int .i64 0]) ?_ 1 _ rfl; (with_reducible repeat (first | refine blk_drewN ?_ _ | refine blk_drew ?_ | refine blk_alloc ?_ _)); refine blk_put (cs := #[.slice none 0 0, .int .i64 0, .bool false, .int .i64 0]) ?_ 0 _ rfl; (with_reducible repeat (first | refine blk_drewN ?_ _ | refine blk_drew ?_ | refine blk_alloc ?_ _)); exact BK230.out) hb); have n5_ := Aside0.mk (below_step (by repeat (first | (with_reducible first | exact HB.out | apply below_alloc | apply pw_below_drewN | apply below_drew1 | refine below_set ?_ GE215.out | refine below_set ?_ GE230.out) | exact HB.out)) hb); clear HO219; clear HO225; clear BK215; clear BK230; clear HB; have HO219 := n0_; have HO225 := n1_; have HO233 := n2_; have BK215 := n3_; have BK230 := n4_; have HB := n5_; clear n0_ n1_ n2_ n3_ n4_ n5_; (try clear hb); (try clear hb2); (try clear hk); (try clear hi); (try clear ho0)) | ((with_reducible refine gate_dst (N := 8) rfl ?_); refine box_event ?hg (N := 8) ?hd (cs := #[.slice none 0 0, .int .i64 0, .bool false, .int .i64 0]) (t := 24) ?hr ?_; (case hd => rfl); (case hg => rfl); (case hr => first | (go_simp; done) | (go_simp; rfl)); intro gb237 hg w26 hbox hb; have n0_ := Aside0.mk (Kd.S_below (by (with_reducible repeat (first | apply Kd.S_alloc | apply Kd.S_drewN | apply Kd.S_drew)); exact HO219.out) hb); have n1_ := Aside0.mk (Kd.S_below (by (with_reducible repeat (first | apply Kd.S_alloc | apply Kd.S_drewN | apply Kd.S_drew)); exact HO225.out) hb); have n2_ := Aside0.mk (Kd.S_below (by (with_reducible repeat (first | apply Kd.S_alloc | apply Kd.S_drewN | apply Kd.S_drew)); exact HO233.out) hb); have n3_ := Aside0.mk (blk_below (g := gb215) (o := .cells #[.slice A0_0 l0_0.length c0_0, .int .i64 a0_1, .bool a0_2, .int .i64 a0_3] 30 (0, 0)) (by (with_reducible repeat (first | refine blk_drewN ?_ _ | refine blk_drew ?_ | refine blk_alloc ?_ _)); exact BK215.out) hb); have n4_ := Aside0.mk (blk_below (g := gb230) (o := .cells #[.slice Ao21 t223.length co21, .int .i64 t226, .bool t227, .int .i64 t228] 24 (0, 0)) (by (with_reducible repeat (first | refine blk_drewN ?_ _ | refine blk_drew ?_ | refine blk_alloc ?_ _)); exact BK230.out) hb); have n5_ := Aside0.mk (below_step (by repeat (first | (with_reducible first | exact HB.out | apply below_alloc | apply pw_below_drewN | apply below_drew1 | refine below_set ?_ GE215.out | refine below_set ?_ GE230.out) | exact HB.out)) hb); have n6_ := Aside0.mk (hbox); have n7_ := Aside0.mk ((by rw [hg]; exact (below_size (by repeat (first | (with_reducible first | exact HB.out | apply below_alloc | apply pw_below_drewN | apply below_drew1 | refine below_set ?_ GE215.out | refine below_set ?_ GE230.out) | exact HB.out))) : w.heap.size ≤ gb237)); have n8_ := Aside0.mk ((by rw [hg]; exact (below_size (by repeat (first | (with_reducible first | exact HB.out | apply below_alloc | apply pw_below_drewN | apply below_drew1 | refine below_set ?_ GE215.out | refine below_set ?_ GE230.out) | exact HB.out))) : w.heap.size ≤ gb237)); have n9_ := Aside0.mk ((by rw [hg]; exact Nat.ne_of_lt (blk_lt (g := gb215) (o := .cells #[.slice A0_0 l0_0.length c0_0, .int .i64 a0_1, .bool a0_2, .int .i64 a0_3] 30 (0, 0)) (by (with_reducible repeat (first | refine blk_drewN ?_ _ | refine blk_drew ?_ | refine blk_alloc ?_ _)); exact BK215.out)) : gb215 ≠ gb237)); have n10_ := Aside0.mk ((by rw [hg]; exact Nat.ne_of_gt (blk_lt (g := gb215) (o := .cells #[.slice A0_0 l0_0.length c0_0, .int .i64 a0_1, .bool a0_2, .int .i64 a0_3] 30 (0, 0)) (by (with_reducible repeat (first | refine blk_drewN ?_ _ | refine blk_drew ?_ | refine blk_alloc ?_ _)); exact BK215.out)) : gb237 ≠ gb215)); have n11_ := Aside0.mk ((by rw [hg]; exact Nat.ne_of_lt (blk_lt (g := gb230) (o := .cells #[.slice Ao21 t223.length co21, .int .i64 t226, .bool t227, .int .i64 t228] 24 (0, 0)) (by (with_reducible repeat (first | refine blk_drewN ?_ _ | refine blk_drew ?_ | refine blk_alloc ?_ _)); exact BK230.out)) : gb230 ≠ gb237)); have n12_ := Aside0.mk ((by rw [hg]; exact Nat.ne_of_gt (blk_lt (g := gb230) (o := .cells #[.slice Ao21 t223.length co21, .int .i64 t226, .bool t227, .int .i64 t228] 24 (0, 0)) (by (with_reducible repeat (first | refine blk_drewN ?_ _ | refine blk_drew ?_ | refine blk_alloc ?_ _)); exact BK230.out)) : gb237 ≠ gb230)); clear HO219; clear HO225; clear HO233; clear BK215; clear BK230; clear HB; have HO219 := n0_; have HO225 := n1_; have HO233 := n2_; have BK215 := n3_; have BK230 := n4_; have HB := n5_; have BK237 := n6_; have GW237 := n7_; have GE237 := n8_; have NB215_237 := n9_; have NB237_215 := n10_; have NB230_237 := n11_; have NB237_230 := n12_; clear n0_ n1_ n2_ n3_ n4_ n5_ n6_ n7_ n8_ n9_ n10_ n11_ n12_; clear hb hbox hg; obtain ⟨Ao27, co27, eo27⟩ := Kd.S_slice HO233.out; subst eo27; have hnb28 := NB237_215.out; have hnc28 := NB215_237.out; have hnb29 := NB237_230.out; have hnc29 := NB230_237.out; have hcz30_0 : w26.cell? ⟨gb237, 0, none⟩ = some (.slice none 0 0) := (blk_cell BK237.out 0).trans rfl; have hcz30_1 : w26.cell? ⟨gb237, 1, none⟩ = some (.int .i64 0) := (blk_cell BK237.out 1).trans rfl; have hcz30_2 : w26.cell? ⟨gb237, 2, none⟩ = some (.bool false) := (blk_cell BK237.out 2).trans rfl; have hcz30_3 : w26.cell? ⟨gb237, 3, none⟩ = some (.int .i64 0) := (blk_cell BK237.out 3).trans rfl; have hfz30_0 := blk_frozen BK237.out 0; have hfz30_1 := blk_frozen BK237.out 1; have hfz30_2 := blk_frozen BK237.out 2; have hfz30_3 := blk_frozen BK237.out 3) | ((with_reducible refine gate_callee (f := 29) rfl ?_); refine goesL_ (some 33) rfl rfl Try.func29 (by kernel_rfl) rfl #[.agg #[.slice Ao27 t231.length co27, .int .i64 t234, .bool t235, .int .i64 t236], .int .i64 a1] rfl (by (try simp only [List.map_toArray, List.map_cons, List.map_nil]); first | done | rfl | (simp only [List.length_drop, List.length_take]; rfl)) ?_; (with_reducible refine (impl_CutAfter.calls k _ _ t231 t234 t235 t236 a1 t238 t241 t242 t243 t244 _ ?side1 ?side2 A11.out).mono ?_); (case side1 => refine (Kd.S_reads' (e := 35) (base := w.heap.size) (ok := fun k_ => (((True ∧ w20.heap.size ≤ k_) ∧ some k_ ≠ (.slice Ao18 t217.length co18 : Value).ownBlock) ∧ some k_ ≠ (.slice Ao21 t223.length co21 : Value).ownBlock)) (n := t231.length) (c := co27) ?_).2.2; exact (by (with_reducible repeat (first | apply Kd.S_alloc | apply Kd.S_drewN | apply Kd.S_drew)); exact (Kd.S_mono (Kd.S_far (p := ⟨gb237, 3, none⟩) (Kd.S_far (p := ⟨gb237, 2, none⟩) (Kd.S_far (p := ⟨gb237, 1, none⟩) (Kd.S_far (p := ⟨gb237, 0, none⟩) (Kd.S_types HO233.out BK237.out (by decide)) (fun _ hk => hk.2) (.slice Ao27 t231.length co27)) (fun _ hk => hk.2) (.int .i64 t234)) (fun _ hk => hk.2) (.bool t235)) (fun _ hk => hk.2) (.int .i64 t236)) (fun _ h_ => h_.1)))); (case side2 => exact (Kd.S_reads' HO233.out).2.1); rintro e w31 ⟨v239, rfl, ho0, hb⟩; refine ⟨_, rfl, ?_⟩; have n0_ := Aside0.mk (Kd.S_mono (Kd.S_told (Kd.S_old (by (with_reducible repeat (first | apply Kd.S_alloc | apply Kd.S_drewN | apply Kd.S_drew)); exact (Kd.S_mono (Kd.S_far (p := ⟨gb237, 3, none⟩) (Kd.S_far (p := ⟨gb237, 2, none⟩) (Kd.S_far (p := ⟨gb237, 1, none⟩) (Kd.S_far (p := ⟨gb237, 0, none⟩) (Kd.S_types HO219.out BK237.out (by decide)) (fun _ hk => hk.2) (.slice Ao27 t231.length co27)) (fun _ hk => hk.2) (.int .i64 t234)) (fun _ hk => hk.2) (.bool t235)) (fun _ hk => hk.2) (.int .i64 t236)) (fun _ h_ => h_.1))) hb) (Kd.S_base ho0)) (fun k_ h_ => (⟨h_.1, (by first | exact h_.2 | simpa only [World.size_setCell] using h_.2)⟩ : _ ∧ k_ < w26.heap.size))); have n1_ := Aside0.mk (Kd.S_mono (Kd.S_told (Kd.S_old (by (with_reducible repeat (first | apply Kd.S_alloc | apply Kd.S_drewN | apply Kd.S_drew)); exact (Kd.S_mono (Kd.S_far (p := ⟨gb237, 3, none⟩) (Kd.S_far (p := ⟨gb237, 2, none⟩) (Kd.S_far (p := ⟨gb237, 1, none⟩) (Kd.S_far (p := ⟨gb237, 0, none⟩) (Kd.S_types HO225.out BK237.out (by decide)) (fun _ hk => hk.2) (.slice Ao27 t231.length co27)) (fun _ hk => hk.2) (.int .i64 t234)) (fun _ hk => hk.2) (.bool t235)) (fun _ hk => hk.2) (.int .i64 t236)) (fun _ h_ => h_.1))) hb) (Kd.S_base ho0)) (fun k_ h_ => (⟨h_.1, (by first | exact h_.2 | simpa only [World.size_setCell] using h_.2)⟩ : _ ∧ k_ < w26.heap.size))); have n2_ := Aside0.mk (Kd.S_mono (Kd.S_told (Kd.S_old (by (with_reducible repeat (first | apply Kd.S_alloc | apply Kd.S_drewN | apply Kd.S_drew)); exact (Kd.S_mono (Kd.S_far (p := ⟨gb237, 3, none⟩) (Kd.S_far (p := ⟨gb237, 2, none⟩) (Kd.S_far (p := ⟨gb237, 1, none⟩) (Kd.S_far (p := ⟨gb237, 0, none⟩) (Kd.S_types HO233.out BK237.out (by decide)) (fun _ hk => hk.2) (.slice Ao27 t231.length co27)) (fun _ hk => hk.2) (.int .i64 t234)) (fun _ hk => hk.2) (.bool t235)) (fun _ hk => hk.2) (.int .i64 t236)) (fun _ h_ => h_.1))) hb) (Kd.S_base ho0)) (fun k_ h_ => (⟨h_.1, (by first | exact h_.2 | simpa only [World.size_setCell] using h_.2)⟩ : _ ∧ k_ < w26.heap.size))); have n3_ := Aside0.mk (Kd.S_lower (Kd.S_new' (Kd.S_new' (Kd.S_new' (Kd.S_mono (Kd.S_bound ho0) (fun k_ h_ => (⟨h_.1, (by first | exact h_.2.1 | simpa only [World.size_setCell] using h_.2.1)⟩ : _ ∧ w26.heap.size ≤ k_))) (Kd.S_lt (by (with_reducible repeat (first | apply Kd.S_alloc | apply Kd.S_drewN | apply Kd.S_drew)); exact (Kd.S_mono (Kd.S_far (p := ⟨gb237, 3, none⟩) (Kd.S_far (p := ⟨gb237, 2, none⟩) (Kd.S_far (p := ⟨gb237, 1, none⟩) (Kd.S_far (p := ⟨gb237, 0, none⟩) (Kd.S_types HO219.out BK237.out (by decide)) (fun _ hk => hk.2) (.slice Ao27 t231.length co27)) (fun _ hk => hk.2) (.int .i64 t234)) (fun _ hk => hk.2) (.bool t235)) (fun _ hk => hk.2) (.int .i64 t236)) (fun _ h_ => h_.1))))) (Kd.S_lt (by (with_reducible repeat (first | apply Kd.S_alloc | apply Kd.S_drewN | apply Kd.S_drew)); exact (Kd.S_mono (Kd.S_far (p := ⟨gb237, 3, none⟩) (Kd.S_far (p := ⟨gb237, 2, none⟩) (Kd.S_far (p := ⟨gb237, 1, none⟩) (Kd.S_far (p := ⟨gb237, 0, none⟩) (Kd.S_types HO225.out BK237.out (by decide)) (fun _ hk => hk.2) (.slice Ao27 t231.length co27)) (fun _ hk => hk.2) (.int .i64 t234)) (fun _ hk => hk.2) (.bool t235)) (fun _ hk => hk.2) (.int .i64 t236)) (fun _ h_ => h_.1))))) (Kd.S_lt (by (with_reducible repeat (first | apply Kd.S_alloc | apply Kd.S_drewN | apply Kd.S_drew)); exact (Kd.S_mono (Kd.S_far (p := ⟨gb237, 3, none⟩) (Kd.S_far (p := ⟨gb237, 2, none⟩) (Kd.S_far (p := ⟨gb237, 1, none⟩) (Kd.S_far (p := ⟨gb237, 0, none⟩) (Kd.S_types HO233.out BK237.out (by decide)) (fun _ hk => hk.2) (.slice Ao27 t231.length co27)) (fun _ hk => hk.2) (.int .i64 t234)) (fun _ hk => hk.2) (.bool t235)) (fun _ hk => hk.2) (.int .i64 t236)) (fun _ h_ => h_.1))))) (below_size (by repeat (first | (with_reducible first | exact HB.out | apply below_alloc | apply pw_below_drewN | apply below_drew1 | refine below_set ?_ GE215.out | refine below_set ?_ GE230.out | refine below_set ?_ GE237.out) | exact HB.out)))); have n4_ := Aside0.mk (blk_below (g := gb215) (o := .cells #[.slice A0_0 l0_0.length c0_0, .int .i64 a0_1, .bool a0_2, .int .i64 a0_3] 30 (0, 0)) (by (with_reducible repeat (first | refine blk_drewN ?_ _ | refine blk_drew ?_ | refine blk_alloc ?_ _)); refine blk_far ?_ NB215_237.out _; (with_reducible repeat (first | refine blk_drewN ?_ _ | refine blk_drew ?_ | refine blk_alloc ?_ _)); refine blk_far ?_ NB215_237.out _; (with_reducible repeat (first | refine blk_drewN ?_ _ | refine blk_drew ?_ | refine blk_alloc ?_ _)); refine blk_far ?_ NB215_237.out _; (with_reducible repeat (first | refine blk_drewN ?_ _ | refine blk_drew ?_ | refine blk_alloc ?_ _)); refine blk_far ?_ NB215_237.out _; (with_reducible repeat (first | refine blk_drewN ?_ _ | refine blk_drew ?_ | refine blk_alloc ?_ _)); exact BK215.out) hb); have n5_ := Aside0.mk (blk_below (g := gb230) (o := .cells #[.slice Ao21 t223.length co21, .int .i64 t226, .bool t227, .int .i64 t228] 24 (0, 0)) (by (with_reducible repeat (first | refine blk_drewN ?_ _ | refine blk_drew ?_ | refine blk_alloc ?_ _)); refine blk_far ?_ NB230_237.out _; (with_reducible repeat (first | refine blk_drewN ?_ _ | refine blk_drew ?_ | refine blk_alloc ?_ _)); refine blk_far ?_ NB230_237.out _; (with_reducible repeat (first | refine blk_drewN ?_ _ | refine blk_drew ?_ | refine blk_alloc ?_ _)); refine blk_far ?_ NB230_237.out _; (with_reducible repeat (first | refine blk_drewN ?_ _ | refine blk_drew ?_ | refine blk_alloc ?_ _)); refine blk_far ?_ NB230_237.out _; (with_reducible repeat (first | refine blk_drewN ?_ _ | refine blk_drew ?_ | refine blk_alloc ?_ _)); exact BK230.out) hb); have n6_ := Aside0.mk (blk_below (g := gb237) (o := .cells #[.slice Ao27 t231.length co27, .int .i64 t234, .bool t235, .int .i64 t236] 24 (0, 0)) (by (with_reducible repeat (first | refine blk_drewN ?_ _ | refine blk_drew ?_ | refine blk_alloc ?_ _)); refine blk_put (cs := #[.slice Ao27 t231.length co27, .int .i64 t234, .bool t235, .int .i64 0]) ?_ 3 _ rfl; (with_reducible repeat (first | refine blk_drewN ?_ _ | refine blk_drew ?_ | refine blk_alloc ?_ _)); refine blk_put (cs := #[.slice Ao27 t231.length co27, .int .i64 t234, .bool false, .int .i64 0]) ?_ 2 _ rfl; (with_reducible repeat (first | refine blk_drewN ?_ _ | refine blk_drew ?_ | refine blk_alloc ?_ _)); refine blk_put (cs := #[.slice Ao27 t231.length co27, .int .i64 0, .bool false, .int .i64 0]) ?_ 1 _ rfl; (with_reducible repeat (first | refine blk_drewN ?_ _ | refine blk_drew ?_ | refine blk_alloc ?_ _)); refine blk_put (cs := #[.slice none 0 0, .int .i64 0, .bool false, .int .i64 0]) ?_ 0 _ rfl; (with_reducible repeat (first | refine blk_drewN ?_ _ | refine blk_drew ?_ | refine blk_alloc ?_ _)); exact BK237.out) hb); have n7_ := Aside0.mk (below_step (by repeat (first | (with_reducible first | exact HB.out | apply below_alloc | apply pw_below_drewN | apply below_drew1 | refine below_set ?_ GE215.out | refine below_set ?_ GE230.out | refine below_set ?_ GE237.out) | exact HB.out)) hb); clear HO219; clear HO225; clear HO233; clear BK215; clear BK230; clear BK237; clear HB; have HO219 := n0_; have HO225 := n1_; have HO233 := n2_; have HO240 := n3_; have BK215 := n4_; have BK230 := n5_; have BK237 := n6_; have HB := n7_; clear n0_ n1_ n2_ n3_ n4_ n5_ n6_ n7_; (try clear hb); (try clear hb2); (try clear hk); (try clear hi); (try clear ho0)) | ((with_reducible refine gate_dst (N := 9) rfl ?_); refine box_event ?hg (N := 9) ?hd (cs := #[.slice none 0 0, .int .i64 0, .bool false, .int .i64 0]) (t := 24) ?hr ?_; (case hd => rfl); (case hg => rfl); (case hr => first | (go_simp; done) | (go_simp; rfl)); intro gb245 hg w32 hbox hb; have n0_ := Aside0.mk (Kd.S_below (by (with_reducible repeat (first | apply Kd.S_alloc | apply Kd.S_drewN | apply Kd.S_drew)); exact HO219.out) hb); have n1_ := Aside0.mk (Kd.S_below (by (with_reducible repeat (first | apply Kd.S_alloc | apply Kd.S_drewN | apply Kd.S_drew)); exact HO225.out) hb); have n2_ := Aside0.mk (Kd.S_below (by (with_reducible repeat (first | apply Kd.S_alloc | apply Kd.S_drewN | apply Kd.S_drew)); exact HO233.out) hb); have n3_ := Aside0.mk (Kd.S_below (by (with_reducible repeat (first | apply Kd.S_alloc | apply Kd.S_drewN | apply Kd.S_drew)); exact HO240.out) hb); have n4_ := Aside0.mk (blk_below (g := gb215) (o := .cells #[.slice A0_0 l0_0.length c0_0, .int .i64 a0_1, .bool a0_2, .int .i64 a0_3] 30 (0, 0)) (by (with_reducible repeat (first | refine blk_drewN ?_ _ | refine blk_drew ?_ | refine blk_alloc ?_ _)); exact BK215.out) hb); have n5_ := Aside0.mk (blk_below (g := gb230) (o := .cells #[.slice Ao21 t223.length co21, .int .i64 t226, .bool t227, .int .i64 t228] 24 (0, 0)) (by (with_reducible repeat (first | refine blk_drewN ?_ _ | refine blk_drew ?_ | refine blk_alloc ?_ _)); exact BK230.out) hb); have n6_ := Aside0.mk (blk_below (g := gb237) (o := .cells #[.slice Ao27 t231.length co27, .int .i64 t234, .bool t235, .int .i64 t236] 24 (0, 0)) (by (with_reducible repeat (first | refine blk_drewN ?_ _ | refine blk_drew ?_ | refine blk_alloc ?_ _)); exact BK237.out) hb); have n7_ := Aside0.mk (below_step (by repeat (first | (with_reducible first | exact HB.out | apply below_alloc | apply pw_below_drewN | apply below_drew1 | refine below_set ?_ GE215.out | refine below_set ?_ GE230.out | refine below_set ?_ GE237.out) | exact HB.out)) hb); have n8_ := Aside0.mk (hbox); have n9_ := Aside0.mk ((by rw [hg]; exact (below_size (by repeat (first | (with_reducible first | exact HB.out | apply below_alloc | apply pw_below_drewN | apply below_drew1 | refine below_set ?_ GE215.out | refine below_set ?_ GE230.out | refine below_set ?_ GE237.out) | exact HB.out))) : w.heap.size ≤ gb245)); have n10_ := Aside0.mk ((by rw [hg]; exact (below_size (by repeat (first | (with_reducible first | exact HB.out | apply below_alloc | apply pw_below_drewN | apply below_drew1 | refine below_set ?_ GE215.out | refine below_set ?_ GE230.out | refine below_set ?_ GE237.out) | exact HB.out))) : w.heap.size ≤ gb245)); have n11_ := Aside0.mk ((by rw [hg]; exact Nat.ne_of_lt (blk_lt (g := gb215) (o := .cells #[.slice A0_0 l0_0.length c0_0, .int .i64 a0_1, .bool a0_2, .int .i64 a0_3] 30 (0, 0)) (by (with_reducible repeat (first | refine blk_drewN ?_ _ | refine blk_drew ?_ | refine blk_alloc ?_ _)); exact BK215.out)) : gb215 ≠ gb245)); have n12_ := Aside0.mk ((by rw [hg]; exact Nat.ne_of_gt (blk_lt (g := gb215) (o := .cells #[.slice A0_0 l0_0.length c0_0, .int .i64 a0_1, .bool a0_2, .int .i64 a0_3] 30 (0, 0)) (by (with_reducible repeat (first | refine blk_drewN ?_ _ | refine blk_drew ?_ | refine blk_alloc ?_ _)); exact BK215.out)) : gb245 ≠ gb215)); have n13_ := Aside0.mk ((by rw [hg]; exact Nat.ne_of_lt (blk_lt (g := gb230) (o := .cells #[.slice Ao21 t223.length co21, .int .i64 t226, .bool t227, .int .i64 t228] 24 (0, 0)) (by (with_reducible repeat (first | refine blk_drewN ?_ _ | refine blk_drew ?_ | refine blk_alloc ?_ _)); exact BK230.out)) : gb230 ≠ gb245)); have n14_ := Aside0.mk ((by rw [hg]; exact Nat.ne_of_gt (blk_lt (g := gb230) (o := .cells #[.slice Ao21 t223.length co21, .int .i64 t226, .bool t227, .int .i64 t228] 24 (0, 0)) (by (with_reducible repeat (first | refine blk_drewN ?_ _ | refine blk_drew ?_ | refine blk_alloc ?_ _)); exact BK230.out)) : gb245 ≠ gb230)); have n15_ := Aside0.mk ((by rw [hg]; exact Nat.ne_of_lt (blk_lt (g := gb237) (o := .cells #[.slice Ao27 t231.length co27, .int .i64 t234, .bool t235, .int .i64 t236] 24 (0, 0)) (by (with_reducible repeat (first | refine blk_drewN ?_ _ | refine blk_drew ?_ | refine blk_alloc ?_ _)); exact BK237.out)) : gb237 ≠ gb245)); have n16_ := Aside0.mk ((by rw [hg]; exact Nat.ne_of_gt (blk_lt (g := gb237) (o := .cells #[.slice Ao27 t231.length co27, .int .i64 t234, .bool t235, .int .i64 t236] 24 (0, 0)) (by (with_reducible repeat (first | refine blk_drewN ?_ _ | refine blk_drew ?_ | refine blk_alloc ?_ _)); exact BK237.out)) : gb245 ≠ gb237)); clear HO219; clear HO225; clear HO233; clear HO240; clear BK215; clear BK230; clear BK237; clear HB; have HO219 := n0_; have HO225 := n1_; have HO233 := n2_; have HO240 := n3_; have BK215 := n4_; have BK230 := n5_; have BK237 := n6_; have HB := n7_; have BK245 := n8_; have GW245 := n9_; have GE245 := n10_; have NB215_245 := n11_; have NB245_215 := n12_; have NB230_245 := n13_; have NB245_230 := n14_; have NB237_245 := n15_; have NB245_237 := n16_; clear n0_ n1_ n2_ n3_ n4_ n5_ n6_ n7_ n8_ n9_ n10_ n11_ n12_ n13_ n14_ n15_ n16_; clear hb hbox hg; obtain ⟨Ao33, co33, eo33⟩ := Kd.S_slice HO240.out; subst eo33; have hnb34 := NB245_215.out; have hnc34 := NB215_245.out; have hnb35 := NB245_230.out; have hnc35 := NB230_245.out; have hnb36 := NB245_237.out; have hnc36 := NB237_245.out; have hcz37_0 : w32.cell? ⟨gb245, 0, none⟩ = some (.slice none 0 0) := (blk_cell BK245.out 0).trans rfl; have hcz37_1 : w32.cell? ⟨gb245, 1, none⟩ = some (.int .i64 0) := (blk_cell BK245.out 1).trans rfl; have hcz37_2 : w32.cell? ⟨gb245, 2, none⟩ = some (.bool false) := (blk_cell BK245.out 2).trans rfl; have hcz37_3 : w32.cell? ⟨gb245, 3, none⟩ = some (.int .i64 0) := (blk_cell BK245.out 3).trans rfl; have hfz37_0 := blk_frozen BK245.out 0; have hfz37_1 := blk_frozen BK245.out 1; have hfz37_2 := blk_frozen BK245.out 2; have hfz37_3 := blk_frozen BK245.out 3))
    (try simp only [Act.put, List.setIfInBounds_toArray, List.set_cons_zero, List.set_cons_succ])
    go_cut [44] (fun v44 wc => ∃ (kq : Nat) (x44_11 : Bool), v44 = .bool x44_11 ∧ Aside0 (laws_FnExactCutAfter.j0 kq a1 t229 t244 x44_11 l0_0 a0_1 a0_2 a0_3 t223 t226 t227 t228 t231 t234 t235 t236 t238 t241 t242 t243 = some r) ∧ Aside0 (kq ≤ k) ∧ Aside0 (Kd.S (Kd.slice 5 (Kd.int .u8)) 35 wc w.heap.size (fun k_ => some k_ ≠ ((.slice Ao27 t231.length co27) : Value).ownBlock ∧ some k_ ≠ ((.slice Ao33 t238.length co33) : Value).ownBlock ∧ w17.heap.size ≤ k_ ∧ k_ < w20.heap.size ∧ k_ < w26.heap.size) (.slice Ao21 t223.length co21) t223) ∧ Aside0 (Kd.S (Kd.slice 5 (Kd.int .u8)) 35 wc w.heap.size (fun k_ => some k_ ≠ ((.slice Ao21 t223.length co21) : Value).ownBlock ∧ some k_ ≠ ((.slice Ao33 t238.length co33) : Value).ownBlock ∧ w20.heap.size ≤ k_ ∧ k_ < w26.heap.size) (.slice Ao27 t231.length co27) t231) ∧ Aside0 (Kd.S (Kd.slice 5 (Kd.int .u8)) 35 wc w.heap.size (fun k_ => some k_ ≠ ((.slice Ao21 t223.length co21) : Value).ownBlock ∧ some k_ ≠ ((.slice Ao27 t231.length co27) : Value).ownBlock ∧ w26.heap.size ≤ k_) (.slice Ao33 t238.length co33) t238) ∧ Aside0 (wc.heap[gb215]? = some (.cells #[(.slice A0_0 l0_0.length c0_0), .int .i64 a0_1, .bool a0_2, .int .i64 a0_3] 30 (0, 0))) ∧ Aside0 (wc.heap[gb230]? = some (.cells #[(.slice Ao21 t223.length co21), .int .i64 t226, .bool t227, .int .i64 t228] 24 (0, 0))) ∧ Aside0 (wc.heap[gb237]? = some (.cells #[(.slice Ao27 t231.length co27), .int .i64 t234, .bool t235, .int .i64 t236] 24 (0, 0))) ∧ Aside0 (wc.heap[gb245]? = some (.cells #[(.slice Ao33 t238.length co33), .int .i64 t241, .bool t242, .int .i64 t243] 24 (0, 0))) ∧ Aside0 (Below w.heap.size w wc))
    case first =>
      have H := HC12.out
      clear HC12
      replace H := Option.bind_eq_some_iff.mp H
      obtain ⟨t246, A380, H⟩ := H
      replace H : (if t246 = true then (laws_FnExactCutAfter.j0 k a1 t229 t244 (t244 != t229) l0_0 a0_1 a0_2 a0_3 t223 t226 t227 t228 t231 t234 t235 t236 t238 t241 t242 t243) else (laws_FnExactCutAfter.j0 k a1 t229 t244 true l0_0 a0_1 a0_2 a0_3 t223 t226 t227 t228 t231 t234 t235 t236 t238 t241 t242 t243)) = some r := H
      have A38 := Aside0.mk A380
      clear A380
      by_cases c39 : t246 = true
      · subst c39
        have H1 : (laws_FnExactCutAfter.j0 k a1 t229 t244 (t244 != t229) l0_0 a0_1 a0_2 a0_3 t223 t226 t227 t228 t231 t234 t235 t236 t238 t241 t242 t243) = some r := by rw [if_pos rfl] at H; exact H
        clear H
        have H := H1
        clear H1
        have H' := Aside0.mk H
        clear H
        have hnb40 := NB245_215.out
        have hnc40 := NB215_245.out
        have hnb41 := NB245_230.out
        have hnc41 := NB230_245.out
        have hnb42 := NB245_237.out
        have hnc42 := NB237_245.out
        have hcz43_0 : w32.cell? ⟨gb245, 0, none⟩ = some (.slice none 0 0) := (blk_cell BK245.out 0).trans rfl
        have hcz43_1 : w32.cell? ⟨gb245, 1, none⟩ = some (.int .i64 0) := (blk_cell BK245.out 1).trans rfl
        have hcz43_2 : w32.cell? ⟨gb245, 2, none⟩ = some (.bool false) := (blk_cell BK245.out 2).trans rfl
        have hcz43_3 : w32.cell? ⟨gb245, 3, none⟩ = some (.int .i64 0) := (blk_cell BK245.out 3).trans rfl
        have hfz43_0 := blk_frozen BK245.out 0
        have hfz43_1 := blk_frozen BK245.out 1
        have hfz43_2 := blk_frozen BK245.out 2
        have hfz43_3 := blk_frozen BK245.out 3
        have hnb44 := NB230_215.out
        have hnc44 := NB215_230.out
        have hnb45 := NB230_237.out
        have hnc45 := NB237_230.out
        have hcz46_0 : w32.cell? ⟨gb230, 0, none⟩ = some (.slice Ao21 t223.length co21) := (blk_cell BK230.out 0).trans rfl
        have hcz46_1 : w32.cell? ⟨gb230, 1, none⟩ = some (.int .i64 t226) := (blk_cell BK230.out 1).trans rfl
        have hcz46_2 : w32.cell? ⟨gb230, 2, none⟩ = some (.bool t227) := (blk_cell BK230.out 2).trans rfl
        have hcz46_3 : w32.cell? ⟨gb230, 3, none⟩ = some (.int .i64 t228) := (blk_cell BK230.out 3).trans rfl
        have hfz46_0 := blk_frozen BK230.out 0
        have hfz46_1 := blk_frozen BK230.out 1
        have hfz46_2 := blk_frozen BK230.out 2
        have hfz46_3 := blk_frozen BK230.out 3
        go_wp2_with (first | ((with_reducible refine gate_callee (f := 13) rfl ?_); refine goesL_ (some 38) rfl rfl Try.func13 (by kernel_rfl) rfl #[.agg #[.slice Ao33 t238.length co33, .int .i64 t241, .bool t242, .int .i64 t243], .agg #[.slice Ao21 t223.length co21, .int .i64 t226, .bool t227, .int .i64 t228]] rfl (by (try simp only [List.map_toArray, List.map_cons, List.map_nil]); first | done | rfl | (simp only [List.length_drop, List.length_take]; rfl)) ?_; (with_reducible refine (laws_eqDisk.calls k _ _ t238 t241 t242 t243 _ _ t223 t226 t227 t228 true _ ?side1 ?side2 ?side3 ?side4 A38.out).mono ?_); (case side1 => refine (Kd.S_reads' (e := 35) (base := w.heap.size) (ok := fun k_ => ((((True ∧ w26.heap.size ≤ k_) ∧ some k_ ≠ (.slice Ao18 t217.length co18 : Value).ownBlock) ∧ some k_ ≠ (.slice Ao21 t223.length co21 : Value).ownBlock) ∧ some k_ ≠ (.slice Ao27 t231.length co27 : Value).ownBlock)) (n := t238.length) (c := co33) ?_).2.2; exact (by (with_reducible repeat (first | apply Kd.S_alloc | apply Kd.S_drewN | apply Kd.S_drew)); exact (Kd.S_mono (Kd.S_far (p := ⟨gb245, 3, none⟩) (Kd.S_far (p := ⟨gb245, 2, none⟩) (Kd.S_far (p := ⟨gb245, 1, none⟩) (Kd.S_far (p := ⟨gb245, 0, none⟩) (Kd.S_types HO240.out BK245.out (by decide)) (fun _ hk => hk.2) (.slice Ao33 t238.length co33)) (fun _ hk => hk.2) (.int .i64 t241)) (fun _ hk => hk.2) (.bool t242)) (fun _ hk => hk.2) (.int .i64 t243)) (fun _ h_ => h_.1)))); (case side2 => exact (Kd.S_reads' HO240.out).2.1); (case side3 => refine (Kd.S_reads' (e := 35) (base := w.heap.size) (ok := fun k_ => ((((((True ∧ w17.heap.size ≤ k_) ∧ some k_ ≠ (.slice Ao18 t217.length co18 : Value).ownBlock) ∧ some k_ ≠ (.slice Ao27 t231.length co27 : Value).ownBlock) ∧ k_ < w20.heap.size) ∧ some k_ ≠ (.slice Ao33 t238.length co33 : Value).ownBlock) ∧ k_ < w26.heap.size)) (n := t223.length) (c := co21) ?_).2.2; exact (by (with_reducible repeat (first | apply Kd.S_alloc | apply Kd.S_drewN | apply Kd.S_drew)); exact (Kd.S_mono (Kd.S_far (p := ⟨gb245, 3, none⟩) (Kd.S_far (p := ⟨gb245, 2, none⟩) (Kd.S_far (p := ⟨gb245, 1, none⟩) (Kd.S_far (p := ⟨gb245, 0, none⟩) (Kd.S_types HO225.out BK245.out (by decide)) (fun _ hk => hk.2) (.slice Ao33 t238.length co33)) (fun _ hk => hk.2) (.int .i64 t241)) (fun _ hk => hk.2) (.bool t242)) (fun _ hk => hk.2) (.int .i64 t243)) (fun _ h_ => h_.1)))); (case side4 => exact (Kd.S_reads' HO225.out).2.1); rintro e w47 ⟨rfl, hb⟩; refine ⟨_, rfl, ?_⟩; have n0_ := Aside0.mk (Kd.S_below (by (with_reducible repeat (first | apply Kd.S_alloc | apply Kd.S_drewN | apply Kd.S_drew)); exact (Kd.S_mono (Kd.S_far (p := ⟨gb245, 3, none⟩) (Kd.S_far (p := ⟨gb245, 2, none⟩) (Kd.S_far (p := ⟨gb245, 1, none⟩) (Kd.S_far (p := ⟨gb245, 0, none⟩) (Kd.S_types HO219.out BK245.out (by decide)) (fun _ hk => hk.2) (.slice Ao33 t238.length co33)) (fun _ hk => hk.2) (.int .i64 t241)) (fun _ hk => hk.2) (.bool t242)) (fun _ hk => hk.2) (.int .i64 t243)) (fun _ h_ => h_.1))) hb); have n1_ := Aside0.mk (Kd.S_below (by (with_reducible repeat (first | apply Kd.S_alloc | apply Kd.S_drewN | apply Kd.S_drew)); exact (Kd.S_mono (Kd.S_far (p := ⟨gb245, 3, none⟩) (Kd.S_far (p := ⟨gb245, 2, none⟩) (Kd.S_far (p := ⟨gb245, 1, none⟩) (Kd.S_far (p := ⟨gb245, 0, none⟩) (Kd.S_types HO225.out BK245.out (by decide)) (fun _ hk => hk.2) (.slice Ao33 t238.length co33)) (fun _ hk => hk.2) (.int .i64 t241)) (fun _ hk => hk.2) (.bool t242)) (fun _ hk => hk.2) (.int .i64 t243)) (fun _ h_ => h_.1))) hb); have n2_ := Aside0.mk (Kd.S_below (by (with_reducible repeat (first | apply Kd.S_alloc | apply Kd.S_drewN | apply Kd.S_drew)); exact (Kd.S_mono (Kd.S_far (p := ⟨gb245, 3, none⟩) (Kd.S_far (p := ⟨gb245, 2, none⟩) (Kd.S_far (p := ⟨gb245, 1, none⟩) (Kd.S_far (p := ⟨gb245, 0, none⟩) (Kd.S_types HO233.out BK245.out (by decide)) (fun _ hk => hk.2) (.slice Ao33 t238.length co33)) (fun _ hk => hk.2) (.int .i64 t241)) (fun _ hk => hk.2) (.bool t242)) (fun _ hk => hk.2) (.int .i64 t243)) (fun _ h_ => h_.1))) hb); have n3_ := Aside0.mk (Kd.S_below (by (with_reducible repeat (first | apply Kd.S_alloc | apply Kd.S_drewN | apply Kd.S_drew)); exact (Kd.S_mono (Kd.S_far (p := ⟨gb245, 3, none⟩) (Kd.S_far (p := ⟨gb245, 2, none⟩) (Kd.S_far (p := ⟨gb245, 1, none⟩) (Kd.S_far (p := ⟨gb245, 0, none⟩) (Kd.S_types HO240.out BK245.out (by decide)) (fun _ hk => hk.2) (.slice Ao33 t238.length co33)) (fun _ hk => hk.2) (.int .i64 t241)) (fun _ hk => hk.2) (.bool t242)) (fun _ hk => hk.2) (.int .i64 t243)) (fun _ h_ => h_.1))) hb); have n4_ := Aside0.mk (blk_below (g := gb215) (o := .cells #[.slice A0_0 l0_0.length c0_0, .int .i64 a0_1, .bool a0_2, .int .i64 a0_3] 30 (0, 0)) (by (with_reducible repeat (first | refine blk_drewN ?_ _ | refine blk_drew ?_ | refine blk_alloc ?_ _)); refine blk_far ?_ NB215_245.out _; (with_reducible repeat (first | refine blk_drewN ?_ _ | refine blk_drew ?_ | refine blk_alloc ?_ _)); refine blk_far ?_ NB215_245.out _; (with_reducible repeat (first | refine blk_drewN ?_ _ | refine blk_drew ?_ | refine blk_alloc ?_ _)); refine blk_far ?_ NB215_245.out _; (with_reducible repeat (first | refine blk_drewN ?_ _ | refine blk_drew ?_ | refine blk_alloc ?_ _)); refine blk_far ?_ NB215_245.out _; (with_reducible repeat (first | refine blk_drewN ?_ _ | refine blk_drew ?_ | refine blk_alloc ?_ _)); exact BK215.out) hb); have n5_ := Aside0.mk (blk_below (g := gb230) (o := .cells #[.slice Ao21 t223.length co21, .int .i64 t226, .bool t227, .int .i64 t228] 24 (0, 0)) (by (with_reducible repeat (first | refine blk_drewN ?_ _ | refine blk_drew ?_ | refine blk_alloc ?_ _)); refine blk_far ?_ NB230_245.out _; (with_reducible repeat (first | refine blk_drewN ?_ _ | refine blk_drew ?_ | refine blk_alloc ?_ _)); refine blk_far ?_ NB230_245.out _; (with_reducible repeat (first | refine blk_drewN ?_ _ | refine blk_drew ?_ | refine blk_alloc ?_ _)); refine blk_far ?_ NB230_245.out _; (with_reducible repeat (first | refine blk_drewN ?_ _ | refine blk_drew ?_ | refine blk_alloc ?_ _)); refine blk_far ?_ NB230_245.out _; (with_reducible repeat (first | refine blk_drewN ?_ _ | refine blk_drew ?_ | refine blk_alloc ?_ _)); exact BK230.out) hb); have n6_ := Aside0.mk (blk_below (g := gb237) (o := .cells #[.slice Ao27 t231.length co27, .int .i64 t234, .bool t235, .int .i64 t236] 24 (0, 0)) (by (with_reducible repeat (first | refine blk_drewN ?_ _ | refine blk_drew ?_ | refine blk_alloc ?_ _)); refine blk_far ?_ NB237_245.out _; (with_reducible repeat (first | refine blk_drewN ?_ _ | refine blk_drew ?_ | refine blk_alloc ?_ _)); refine blk_far ?_ NB237_245.out _; (with_reducible repeat (first | refine blk_drewN ?_ _ | refine blk_drew ?_ | refine blk_alloc ?_ _)); refine blk_far ?_ NB237_245.out _; (with_reducible repeat (first | refine blk_drewN ?_ _ | refine blk_drew ?_ | refine blk_alloc ?_ _)); refine blk_far ?_ NB237_245.out _; (with_reducible repeat (first | refine blk_drewN ?_ _ | refine blk_drew ?_ | refine blk_alloc ?_ _)); exact BK237.out) hb); have n7_ := Aside0.mk (blk_below (g := gb245) (o := .cells #[.slice Ao33 t238.length co33, .int .i64 t241, .bool t242, .int .i64 t243] 24 (0, 0)) (by (with_reducible repeat (first | refine blk_drewN ?_ _ | refine blk_drew ?_ | refine blk_alloc ?_ _)); refine blk_put (cs := #[.slice Ao33 t238.length co33, .int .i64 t241, .bool t242, .int .i64 0]) ?_ 3 _ rfl; (with_reducible repeat (first | refine blk_drewN ?_ _ | refine blk_drew ?_ | refine blk_alloc ?_ _)); refine blk_put (cs := #[.slice Ao33 t238.length co33, .int .i64 t241, .bool false, .int .i64 0]) ?_ 2 _ rfl; (with_reducible repeat (first | refine blk_drewN ?_ _ | refine blk_drew ?_ | refine blk_alloc ?_ _)); refine blk_put (cs := #[.slice Ao33 t238.length co33, .int .i64 0, .bool false, .int .i64 0]) ?_ 1 _ rfl; (with_reducible repeat (first | refine blk_drewN ?_ _ | refine blk_drew ?_ | refine blk_alloc ?_ _)); refine blk_put (cs := #[.slice none 0 0, .int .i64 0, .bool false, .int .i64 0]) ?_ 0 _ rfl; (with_reducible repeat (first | refine blk_drewN ?_ _ | refine blk_drew ?_ | refine blk_alloc ?_ _)); exact BK245.out) hb); have n8_ := Aside0.mk (below_step (by repeat (first | (with_reducible first | exact HB.out | apply below_alloc | apply pw_below_drewN | apply below_drew1 | refine below_set ?_ GE215.out | refine below_set ?_ GE230.out | refine below_set ?_ GE237.out | refine below_set ?_ GE245.out) | exact HB.out)) hb); clear HO219; clear HO225; clear HO233; clear HO240; clear BK215; clear BK230; clear BK237; clear BK245; clear HB; have HO219 := n0_; have HO225 := n1_; have HO233 := n2_; have HO240 := n3_; have BK215 := n4_; have BK230 := n5_; have BK237 := n6_; have BK245 := n7_; have HB := n8_; clear n0_ n1_ n2_ n3_ n4_ n5_ n6_ n7_ n8_; (try clear hb); (try clear hb2); (try clear hk); (try clear hi)))
        go_meet
        case rel => exact ⟨_, ((t244 != t229)), (by first | rfl | (simp; done) | (simp [*]; done)), H', ⟨by first | omega | exact Nat.le_refl _⟩, ⟨by (with_reducible repeat (first | apply Kd.S_alloc | apply Kd.S_drewN | apply Kd.S_drew)); exact Kd.S_mono HO225.out (fun _ hk => ⟨hk.1.1.1.2, ⟨hk.1.2, ⟨hk.1.1.1.1.1.2, ⟨hk.1.1.2, hk.2⟩⟩⟩⟩)⟩, ⟨by (with_reducible repeat (first | apply Kd.S_alloc | apply Kd.S_drewN | apply Kd.S_drew)); exact Kd.S_mono HO233.out (fun _ hk => ⟨hk.1.1.2, ⟨hk.1.2, ⟨hk.1.1.1.1.2, hk.2⟩⟩⟩)⟩, ⟨by (with_reducible repeat (first | apply Kd.S_alloc | apply Kd.S_drewN | apply Kd.S_drew)); exact Kd.S_mono HO240.out (fun _ hk => ⟨hk.1.2, ⟨hk.2, hk.1.1.1.2⟩⟩)⟩, ⟨by (with_reducible repeat (first | refine blk_drewN ?_ _ | refine blk_drew ?_ | refine blk_alloc ?_ _)); exact BK215.out⟩, ⟨by (with_reducible repeat (first | refine blk_drewN ?_ _ | refine blk_drew ?_ | refine blk_alloc ?_ _)); exact BK230.out⟩, ⟨by (with_reducible repeat (first | refine blk_drewN ?_ _ | refine blk_drew ?_ | refine blk_alloc ?_ _)); exact BK237.out⟩, ⟨by (with_reducible repeat (first | refine blk_drewN ?_ _ | refine blk_drew ?_ | refine blk_alloc ?_ _)); exact BK245.out⟩, ⟨by repeat (first | (with_reducible first | exact HB.out | apply below_alloc | apply pw_below_drewN | apply below_drew1 | refine below_set ?_ GE215.out | refine below_set ?_ GE230.out | refine below_set ?_ GE237.out | refine below_set ?_ GE245.out) | exact HB.out)⟩⟩
      · replace c39 := Bool.eq_false_iff.mpr c39
        subst c39
        have H1 : (laws_FnExactCutAfter.j0 k a1 t229 t244 true l0_0 a0_1 a0_2 a0_3 t223 t226 t227 t228 t231 t234 t235 t236 t238 t241 t242 t243) = some r := by rw [if_neg (show ¬ (false = true) by decide)] at H; exact H
        clear H
        have H := H1
        clear H1
        have H' := Aside0.mk H
        clear H
        have hnb48 := NB245_215.out
        have hnc48 := NB215_245.out
        have hnb49 := NB245_230.out
        have hnc49 := NB230_245.out
        have hnb50 := NB245_237.out
        have hnc50 := NB237_245.out
        have hcz51_0 : w32.cell? ⟨gb245, 0, none⟩ = some (.slice none 0 0) := (blk_cell BK245.out 0).trans rfl
        have hcz51_1 : w32.cell? ⟨gb245, 1, none⟩ = some (.int .i64 0) := (blk_cell BK245.out 1).trans rfl
        have hcz51_2 : w32.cell? ⟨gb245, 2, none⟩ = some (.bool false) := (blk_cell BK245.out 2).trans rfl
        have hcz51_3 : w32.cell? ⟨gb245, 3, none⟩ = some (.int .i64 0) := (blk_cell BK245.out 3).trans rfl
        have hfz51_0 := blk_frozen BK245.out 0
        have hfz51_1 := blk_frozen BK245.out 1
        have hfz51_2 := blk_frozen BK245.out 2
        have hfz51_3 := blk_frozen BK245.out 3
        have hnb52 := NB230_215.out
        have hnc52 := NB215_230.out
        have hnb53 := NB230_237.out
        have hnc53 := NB237_230.out
        have hcz54_0 : w32.cell? ⟨gb230, 0, none⟩ = some (.slice Ao21 t223.length co21) := (blk_cell BK230.out 0).trans rfl
        have hcz54_1 : w32.cell? ⟨gb230, 1, none⟩ = some (.int .i64 t226) := (blk_cell BK230.out 1).trans rfl
        have hcz54_2 : w32.cell? ⟨gb230, 2, none⟩ = some (.bool t227) := (blk_cell BK230.out 2).trans rfl
        have hcz54_3 : w32.cell? ⟨gb230, 3, none⟩ = some (.int .i64 t228) := (blk_cell BK230.out 3).trans rfl
        have hfz54_0 := blk_frozen BK230.out 0
        have hfz54_1 := blk_frozen BK230.out 1
        have hfz54_2 := blk_frozen BK230.out 2
        have hfz54_3 := blk_frozen BK230.out 3
        go_wp2_with (first | ((with_reducible refine gate_callee (f := 13) rfl ?_); refine goesL_ (some 38) rfl rfl Try.func13 (by kernel_rfl) rfl #[.agg #[.slice Ao33 t238.length co33, .int .i64 t241, .bool t242, .int .i64 t243], .agg #[.slice Ao21 t223.length co21, .int .i64 t226, .bool t227, .int .i64 t228]] rfl (by (try simp only [List.map_toArray, List.map_cons, List.map_nil]); first | done | rfl | (simp only [List.length_drop, List.length_take]; rfl)) ?_; (with_reducible refine (laws_eqDisk.calls k _ _ t238 t241 t242 t243 _ _ t223 t226 t227 t228 false _ ?side1 ?side2 ?side3 ?side4 A38.out).mono ?_); (case side1 => refine (Kd.S_reads' (e := 35) (base := w.heap.size) (ok := fun k_ => ((((True ∧ w26.heap.size ≤ k_) ∧ some k_ ≠ (.slice Ao18 t217.length co18 : Value).ownBlock) ∧ some k_ ≠ (.slice Ao21 t223.length co21 : Value).ownBlock) ∧ some k_ ≠ (.slice Ao27 t231.length co27 : Value).ownBlock)) (n := t238.length) (c := co33) ?_).2.2; exact (by (with_reducible repeat (first | apply Kd.S_alloc | apply Kd.S_drewN | apply Kd.S_drew)); exact (Kd.S_mono (Kd.S_far (p := ⟨gb245, 3, none⟩) (Kd.S_far (p := ⟨gb245, 2, none⟩) (Kd.S_far (p := ⟨gb245, 1, none⟩) (Kd.S_far (p := ⟨gb245, 0, none⟩) (Kd.S_types HO240.out BK245.out (by decide)) (fun _ hk => hk.2) (.slice Ao33 t238.length co33)) (fun _ hk => hk.2) (.int .i64 t241)) (fun _ hk => hk.2) (.bool t242)) (fun _ hk => hk.2) (.int .i64 t243)) (fun _ h_ => h_.1)))); (case side2 => exact (Kd.S_reads' HO240.out).2.1); (case side3 => refine (Kd.S_reads' (e := 35) (base := w.heap.size) (ok := fun k_ => ((((((True ∧ w17.heap.size ≤ k_) ∧ some k_ ≠ (.slice Ao18 t217.length co18 : Value).ownBlock) ∧ some k_ ≠ (.slice Ao27 t231.length co27 : Value).ownBlock) ∧ k_ < w20.heap.size) ∧ some k_ ≠ (.slice Ao33 t238.length co33 : Value).ownBlock) ∧ k_ < w26.heap.size)) (n := t223.length) (c := co21) ?_).2.2; exact (by (with_reducible repeat (first | apply Kd.S_alloc | apply Kd.S_drewN | apply Kd.S_drew)); exact (Kd.S_mono (Kd.S_far (p := ⟨gb245, 3, none⟩) (Kd.S_far (p := ⟨gb245, 2, none⟩) (Kd.S_far (p := ⟨gb245, 1, none⟩) (Kd.S_far (p := ⟨gb245, 0, none⟩) (Kd.S_types HO225.out BK245.out (by decide)) (fun _ hk => hk.2) (.slice Ao33 t238.length co33)) (fun _ hk => hk.2) (.int .i64 t241)) (fun _ hk => hk.2) (.bool t242)) (fun _ hk => hk.2) (.int .i64 t243)) (fun _ h_ => h_.1)))); (case side4 => exact (Kd.S_reads' HO225.out).2.1); rintro e w55 ⟨rfl, hb⟩; refine ⟨_, rfl, ?_⟩; have n0_ := Aside0.mk (Kd.S_below (by (with_reducible repeat (first | apply Kd.S_alloc | apply Kd.S_drewN | apply Kd.S_drew)); exact (Kd.S_mono (Kd.S_far (p := ⟨gb245, 3, none⟩) (Kd.S_far (p := ⟨gb245, 2, none⟩) (Kd.S_far (p := ⟨gb245, 1, none⟩) (Kd.S_far (p := ⟨gb245, 0, none⟩) (Kd.S_types HO219.out BK245.out (by decide)) (fun _ hk => hk.2) (.slice Ao33 t238.length co33)) (fun _ hk => hk.2) (.int .i64 t241)) (fun _ hk => hk.2) (.bool t242)) (fun _ hk => hk.2) (.int .i64 t243)) (fun _ h_ => h_.1))) hb); have n1_ := Aside0.mk (Kd.S_below (by (with_reducible repeat (first | apply Kd.S_alloc | apply Kd.S_drewN | apply Kd.S_drew)); exact (Kd.S_mono (Kd.S_far (p := ⟨gb245, 3, none⟩) (Kd.S_far (p := ⟨gb245, 2, none⟩) (Kd.S_far (p := ⟨gb245, 1, none⟩) (Kd.S_far (p := ⟨gb245, 0, none⟩) (Kd.S_types HO225.out BK245.out (by decide)) (fun _ hk => hk.2) (.slice Ao33 t238.length co33)) (fun _ hk => hk.2) (.int .i64 t241)) (fun _ hk => hk.2) (.bool t242)) (fun _ hk => hk.2) (.int .i64 t243)) (fun _ h_ => h_.1))) hb); have n2_ := Aside0.mk (Kd.S_below (by (with_reducible repeat (first | apply Kd.S_alloc | apply Kd.S_drewN | apply Kd.S_drew)); exact (Kd.S_mono (Kd.S_far (p := ⟨gb245, 3, none⟩) (Kd.S_far (p := ⟨gb245, 2, none⟩) (Kd.S_far (p := ⟨gb245, 1, none⟩) (Kd.S_far (p := ⟨gb245, 0, none⟩) (Kd.S_types HO233.out BK245.out (by decide)) (fun _ hk => hk.2) (.slice Ao33 t238.length co33)) (fun _ hk => hk.2) (.int .i64 t241)) (fun _ hk => hk.2) (.bool t242)) (fun _ hk => hk.2) (.int .i64 t243)) (fun _ h_ => h_.1))) hb); have n3_ := Aside0.mk (Kd.S_below (by (with_reducible repeat (first | apply Kd.S_alloc | apply Kd.S_drewN | apply Kd.S_drew)); exact (Kd.S_mono (Kd.S_far (p := ⟨gb245, 3, none⟩) (Kd.S_far (p := ⟨gb245, 2, none⟩) (Kd.S_far (p := ⟨gb245, 1, none⟩) (Kd.S_far (p := ⟨gb245, 0, none⟩) (Kd.S_types HO240.out BK245.out (by decide)) (fun _ hk => hk.2) (.slice Ao33 t238.length co33)) (fun _ hk => hk.2) (.int .i64 t241)) (fun _ hk => hk.2) (.bool t242)) (fun _ hk => hk.2) (.int .i64 t243)) (fun _ h_ => h_.1))) hb); have n4_ := Aside0.mk (blk_below (g := gb215) (o := .cells #[.slice A0_0 l0_0.length c0_0, .int .i64 a0_1, .bool a0_2, .int .i64 a0_3] 30 (0, 0)) (by (with_reducible repeat (first | refine blk_drewN ?_ _ | refine blk_drew ?_ | refine blk_alloc ?_ _)); refine blk_far ?_ NB215_245.out _; (with_reducible repeat (first | refine blk_drewN ?_ _ | refine blk_drew ?_ | refine blk_alloc ?_ _)); refine blk_far ?_ NB215_245.out _; (with_reducible repeat (first | refine blk_drewN ?_ _ | refine blk_drew ?_ | refine blk_alloc ?_ _)); refine blk_far ?_ NB215_245.out _; (with_reducible repeat (first | refine blk_drewN ?_ _ | refine blk_drew ?_ | refine blk_alloc ?_ _)); refine blk_far ?_ NB215_245.out _; (with_reducible repeat (first | refine blk_drewN ?_ _ | refine blk_drew ?_ | refine blk_alloc ?_ _)); exact BK215.out) hb); have n5_ := Aside0.mk (blk_below (g := gb230) (o := .cells #[.slice Ao21 t223.length co21, .int .i64 t226, .bool t227, .int .i64 t228] 24 (0, 0)) (by (with_reducible repeat (first | refine blk_drewN ?_ _ | refine blk_drew ?_ | refine blk_alloc ?_ _)); refine blk_far ?_ NB230_245.out _; (with_reducible repeat (first | refine blk_drewN ?_ _ | refine blk_drew ?_ | refine blk_alloc ?_ _)); refine blk_far ?_ NB230_245.out _; (with_reducible repeat (first | refine blk_drewN ?_ _ | refine blk_drew ?_ | refine blk_alloc ?_ _)); refine blk_far ?_ NB230_245.out _; (with_reducible repeat (first | refine blk_drewN ?_ _ | refine blk_drew ?_ | refine blk_alloc ?_ _)); refine blk_far ?_ NB230_245.out _; (with_reducible repeat (first | refine blk_drewN ?_ _ | refine blk_drew ?_ | refine blk_alloc ?_ _)); exact BK230.out) hb); have n6_ := Aside0.mk (blk_below (g := gb237) (o := .cells #[.slice Ao27 t231.length co27, .int .i64 t234, .bool t235, .int .i64 t236] 24 (0, 0)) (by (with_reducible repeat (first | refine blk_drewN ?_ _ | refine blk_drew ?_ | refine blk_alloc ?_ _)); refine blk_far ?_ NB237_245.out _; (with_reducible repeat (first | refine blk_drewN ?_ _ | refine blk_drew ?_ | refine blk_alloc ?_ _)); refine blk_far ?_ NB237_245.out _; (with_reducible repeat (first | refine blk_drewN ?_ _ | refine blk_drew ?_ | refine blk_alloc ?_ _)); refine blk_far ?_ NB237_245.out _; (with_reducible repeat (first | refine blk_drewN ?_ _ | refine blk_drew ?_ | refine blk_alloc ?_ _)); refine blk_far ?_ NB237_245.out _; (with_reducible repeat (first | refine blk_drewN ?_ _ | refine blk_drew ?_ | refine blk_alloc ?_ _)); exact BK237.out) hb); have n7_ := Aside0.mk (blk_below (g := gb245) (o := .cells #[.slice Ao33 t238.length co33, .int .i64 t241, .bool t242, .int .i64 t243] 24 (0, 0)) (by (with_reducible repeat (first | refine blk_drewN ?_ _ | refine blk_drew ?_ | refine blk_alloc ?_ _)); refine blk_put (cs := #[.slice Ao33 t238.length co33, .int .i64 t241, .bool t242, .int .i64 0]) ?_ 3 _ rfl; (with_reducible repeat (first | refine blk_drewN ?_ _ | refine blk_drew ?_ | refine blk_alloc ?_ _)); refine blk_put (cs := #[.slice Ao33 t238.length co33, .int .i64 t241, .bool false, .int .i64 0]) ?_ 2 _ rfl; (with_reducible repeat (first | refine blk_drewN ?_ _ | refine blk_drew ?_ | refine blk_alloc ?_ _)); refine blk_put (cs := #[.slice Ao33 t238.length co33, .int .i64 0, .bool false, .int .i64 0]) ?_ 1 _ rfl; (with_reducible repeat (first | refine blk_drewN ?_ _ | refine blk_drew ?_ | refine blk_alloc ?_ _)); refine blk_put (cs := #[.slice none 0 0, .int .i64 0, .bool false, .int .i64 0]) ?_ 0 _ rfl; (with_reducible repeat (first | refine blk_drewN ?_ _ | refine blk_drew ?_ | refine blk_alloc ?_ _)); exact BK245.out) hb); have n8_ := Aside0.mk (below_step (by repeat (first | (with_reducible first | exact HB.out | apply below_alloc | apply pw_below_drewN | apply below_drew1 | refine below_set ?_ GE215.out | refine below_set ?_ GE230.out | refine below_set ?_ GE237.out | refine below_set ?_ GE245.out) | exact HB.out)) hb); clear HO219; clear HO225; clear HO233; clear HO240; clear BK215; clear BK230; clear BK237; clear BK245; clear HB; have HO219 := n0_; have HO225 := n1_; have HO233 := n2_; have HO240 := n3_; have BK215 := n4_; have BK230 := n5_; have BK237 := n6_; have BK245 := n7_; have HB := n8_; clear n0_ n1_ n2_ n3_ n4_ n5_ n6_ n7_ n8_; (try clear hb); (try clear hb2); (try clear hk); (try clear hi)))
        go_meet
        case rel => exact ⟨_, (true), (by first | rfl | (simp; done) | (simp [*]; done)), H', ⟨by first | omega | exact Nat.le_refl _⟩, ⟨by (with_reducible repeat (first | apply Kd.S_alloc | apply Kd.S_drewN | apply Kd.S_drew)); exact Kd.S_mono HO225.out (fun _ hk => ⟨hk.1.1.1.2, ⟨hk.1.2, ⟨hk.1.1.1.1.1.2, ⟨hk.1.1.2, hk.2⟩⟩⟩⟩)⟩, ⟨by (with_reducible repeat (first | apply Kd.S_alloc | apply Kd.S_drewN | apply Kd.S_drew)); exact Kd.S_mono HO233.out (fun _ hk => ⟨hk.1.1.2, ⟨hk.1.2, ⟨hk.1.1.1.1.2, hk.2⟩⟩⟩)⟩, ⟨by (with_reducible repeat (first | apply Kd.S_alloc | apply Kd.S_drewN | apply Kd.S_drew)); exact Kd.S_mono HO240.out (fun _ hk => ⟨hk.1.2, ⟨hk.2, hk.1.1.1.2⟩⟩)⟩, ⟨by (with_reducible repeat (first | refine blk_drewN ?_ _ | refine blk_drew ?_ | refine blk_alloc ?_ _)); exact BK215.out⟩, ⟨by (with_reducible repeat (first | refine blk_drewN ?_ _ | refine blk_drew ?_ | refine blk_alloc ?_ _)); exact BK230.out⟩, ⟨by (with_reducible repeat (first | refine blk_drewN ?_ _ | refine blk_drew ?_ | refine blk_alloc ?_ _)); exact BK237.out⟩, ⟨by (with_reducible repeat (first | refine blk_drewN ?_ _ | refine blk_drew ?_ | refine blk_alloc ?_ _)); exact BK245.out⟩, ⟨by repeat (first | (with_reducible first | exact HB.out | apply below_alloc | apply pw_below_drewN | apply below_drew1 | refine below_set ?_ GE215.out | refine below_set ?_ GE230.out | refine below_set ?_ GE237.out | refine below_set ?_ GE245.out) | exact HB.out)⟩⟩
    case rest =>
      clear HC12
      try clear c1
      try clear c2
      try clear p2
      try clear c3
      try clear c4
      try clear c4b0
      try clear c5
      try clear c7
      try clear c13
      try clear c16
      try clear c18
      try clear c22
      try clear c28
      try clear c29
      try clear c34
      try clear c35
      try clear c36
      try clear c39
      try clear c40
      try clear c41
      try clear c42
      try clear c44
      try clear c45
      try clear c48
      try clear c49
      try clear c50
      try clear c52
      try clear c53
      try clear hcz14_0
      try clear hcz14_1
      try clear hcz14_2
      try clear hcz14_3
      try clear hcz16_0
      try clear hcz16_1
      try clear hcz16_2
      try clear hcz16_3
      try clear hcz23_0
      try clear hcz23_1
      try clear hcz23_2
      try clear hcz23_3
      try clear hcz24_0
      try clear hcz24_1
      try clear hcz24_2
      try clear hcz24_3
      try clear hcz30_0
      try clear hcz30_1
      try clear hcz30_2
      try clear hcz30_3
      try clear hcz37_0
      try clear hcz37_1
      try clear hcz37_2
      try clear hcz37_3
      try clear hcz43_0
      try clear hcz43_1
      try clear hcz43_2
      try clear hcz43_3
      try clear hcz46_0
      try clear hcz46_1
      try clear hcz46_2
      try clear hcz46_3
      try clear hcz51_0
      try clear hcz51_1
      try clear hcz51_2
      try clear hcz51_3
      try clear hcz54_0
      try clear hcz54_1
      try clear hcz54_2
      try clear hcz54_3
      try clear hcz6_0
      try clear hcz6_1
      try clear hcz6_2
      try clear hcz6_3
      try clear hfz14_0
      try clear hfz14_1
      try clear hfz14_2
      try clear hfz14_3
      try clear hfz16_0
      try clear hfz16_1
      try clear hfz16_2
      try clear hfz16_3
      try clear hfz23_0
      try clear hfz23_1
      try clear hfz23_2
      try clear hfz23_3
      try clear hfz24_0
      try clear hfz24_1
      try clear hfz24_2
      try clear hfz24_3
      try clear hfz30_0
      try clear hfz30_1
      try clear hfz30_2
      try clear hfz30_3
      try clear hfz37_0
      try clear hfz37_1
      try clear hfz37_2
      try clear hfz37_3
      try clear hfz43_0
      try clear hfz43_1
      try clear hfz43_2
      try clear hfz43_3
      try clear hfz46_0
      try clear hfz46_1
      try clear hfz46_2
      try clear hfz46_3
      try clear hfz51_0
      try clear hfz51_1
      try clear hfz51_2
      try clear hfz51_3
      try clear hfz54_0
      try clear hfz54_1
      try clear hfz54_2
      try clear hfz54_3
      try clear hfz6_0
      try clear hfz6_1
      try clear hfz6_2
      try clear hfz6_3
      obtain ⟨kq, x44_11, rfl, HA, HJ11, HO_231000, HO_238000, HO_246000, BK215, BK230, BK237, BK245, HB⟩ := hcut
      cases kq with
      | zero => exact absurd HA.out (by simp [laws_FnExactCutAfter.j0])
      | succ kj11 =>
        have H := HA.out
        clear HA
        simp only [laws_FnExactCutAfter.j0] at H
        by_cases c56 : x44_11 = true
        · subst c56
          have H1 : (some false) = some r := by rw [if_pos rfl] at H; exact H
          clear H
          have H := H1
          clear H1
          obtain rfl := Option.some.inj H
          go_wp2
          go_ret
          exact ⟨by first | rfl | (simp [errW_none, errW_some] <;> rfl) | (simp [*, errW_none, errW_some] <;> rfl), by repeat (first | (with_reducible first | exact HB.out | apply below_alloc | apply pw_below_drewN | apply below_drew1 | refine below_set ?_ GE215.out | refine below_set ?_ GE230.out | refine below_set ?_ GE237.out | refine below_set ?_ GE245.out) | exact HB.out)⟩
        · replace c56 := Bool.eq_false_iff.mpr c56
          subst c56
          have H1 : ((laws_toDisk.f kj11 l0_0 a0_1 a0_2 a0_3).bind fun bt247 => ((laws_eqDisk.f kj11 t231 t234 t235 t236 bt247.1 bt247.2.1 bt247.2.2.1 bt247.2.2.2).bind fun t253 => (if t253 = true then ((laws_markDisk.f kj11 t231 t234 t235 t236 1).bind fun bt254 => (if bt254.1 < 0 then (laws_FnExactCutAfter.j1 kj11 a1 t229 true l0_0 a0_1 a0_2 a0_3 t223 t226 t227 t228 t238 t241 t242 t243) else ((laws_eqDisk.f kj11 t238 t241 t242 t243 t223 t226 t227 t228).bind fun t256 => (if t256 = true then (laws_FnExactCutAfter.j1 kj11 a1 t229 (t244 != t229) l0_0 a0_1 a0_2 a0_3 t223 t226 t227 t228 t238 t241 t242 t243) else (laws_FnExactCutAfter.j1 kj11 a1 t229 true l0_0 a0_1 a0_2 a0_3 t223 t226 t227 t228 t238 t241 t242 t243))))) else (some false)))) = some r := by rw [if_neg (show ¬ (false = true) by decide)] at H; exact H
          clear H
          have H := H1
          clear H1
          replace H := Option.bind_eq_some_iff.mp H
          obtain ⟨⟨t247, t250, t251, t252⟩, A570, H⟩ := H
          replace H : ((laws_eqDisk.f kj11 t231 t234 t235 t236 t247 t250 t251 t252).bind fun t253 => (if t253 = true then ((laws_markDisk.f kj11 t231 t234 t235 t236 1).bind fun bt254 => (if bt254.1 < 0 then (laws_FnExactCutAfter.j1 kj11 a1 t229 true l0_0 a0_1 a0_2 a0_3 t223 t226 t227 t228 t238 t241 t242 t243) else ((laws_eqDisk.f kj11 t238 t241 t242 t243 t223 t226 t227 t228).bind fun t256 => (if t256 = true then (laws_FnExactCutAfter.j1 kj11 a1 t229 (t244 != t229) l0_0 a0_1 a0_2 a0_3 t223 t226 t227 t228 t238 t241 t242 t243) else (laws_FnExactCutAfter.j1 kj11 a1 t229 true l0_0 a0_1 a0_2 a0_3 t223 t226 t227 t228 t238 t241 t242 t243))))) else (some false))) = some r := H
          have A57 := Aside0.mk A570
          clear A570
          replace H := Option.bind_eq_some_iff.mp H
          obtain ⟨t253, A580, H⟩ := H
          replace H : (if t253 = true then ((laws_markDisk.f kj11 t231 t234 t235 t236 1).bind fun bt254 => (if bt254.1 < 0 then (laws_FnExactCutAfter.j1 kj11 a1 t229 true l0_0 a0_1 a0_2 a0_3 t223 t226 t227 t228 t238 t241 t242 t243) else ((laws_eqDisk.f kj11 t238 t241 t242 t243 t223 t226 t227 t228).bind fun t256 => (if t256 = true then (laws_FnExactCutAfter.j1 kj11 a1 t229 (t244 != t229) l0_0 a0_1 a0_2 a0_3 t223 t226 t227 t228 t238 t241 t242 t243) else (laws_FnExactCutAfter.j1 kj11 a1 t229 true l0_0 a0_1 a0_2 a0_3 t223 t226 t227 t228 t238 t241 t242 t243))))) else (some false)) = some r := H
          have A58 := Aside0.mk A580
          clear A580
          by_cases c59 : t253 = true
          · subst c59
            have H1 : ((laws_markDisk.f kj11 t231 t234 t235 t236 1).bind fun bt254 => (if bt254.1 < 0 then (laws_FnExactCutAfter.j1 kj11 a1 t229 true l0_0 a0_1 a0_2 a0_3 t223 t226 t227 t228 t238 t241 t242 t243) else ((laws_eqDisk.f kj11 t238 t241 t242 t243 t223 t226 t227 t228).bind fun t256 => (if t256 = true then (laws_FnExactCutAfter.j1 kj11 a1 t229 (t244 != t229) l0_0 a0_1 a0_2 a0_3 t223 t226 t227 t228 t238 t241 t242 t243) else (laws_FnExactCutAfter.j1 kj11 a1 t229 true l0_0 a0_1 a0_2 a0_3 t223 t226 t227 t228 t238 t241 t242 t243))))) = some r := by rw [if_pos rfl] at H; exact H
            clear H
            have H := H1
            clear H1
            replace H := Option.bind_eq_some_iff.mp H
            obtain ⟨⟨t254, t255⟩, A600, H⟩ := H
            replace H : (if t254 < 0 then (laws_FnExactCutAfter.j1 kj11 a1 t229 true l0_0 a0_1 a0_2 a0_3 t223 t226 t227 t228 t238 t241 t242 t243) else ((laws_eqDisk.f kj11 t238 t241 t242 t243 t223 t226 t227 t228).bind fun t256 => (if t256 = true then (laws_FnExactCutAfter.j1 kj11 a1 t229 (t244 != t229) l0_0 a0_1 a0_2 a0_3 t223 t226 t227 t228 t238 t241 t242 t243) else (laws_FnExactCutAfter.j1 kj11 a1 t229 true l0_0 a0_1 a0_2 a0_3 t223 t226 t227 t228 t238 t241 t242 t243)))) = some r := H
            have A60 := Aside0.mk A600
            clear A600
            have HC61 := Aside0.mk H
            clear H
            try go_wp2
            have n0_ := Aside0.mk (Kd.S_drew HO_231000.out)
            have n1_ := Aside0.mk (Kd.S_drew HO_238000.out)
            have n2_ := Aside0.mk (Kd.S_drew HO_246000.out)
            have n3_ := Aside0.mk (blk_drew BK215.out)
            have n4_ := Aside0.mk (blk_drew BK230.out)
            have n5_ := Aside0.mk (blk_drew BK237.out)
            have n6_ := Aside0.mk (blk_drew BK245.out)
            have n7_ := Aside0.mk (below_drew1 HB.out)
            clear HO_231000
            clear HO_238000
            clear HO_246000
            clear BK215
            clear BK230
            clear BK237
            clear BK245
            clear HB
            have HO_231000 := n0_
            have HO_238000 := n1_
            have HO_246000 := n2_
            have BK215 := n3_
            have BK230 := n4_
            have BK237 := n5_
            have BK245 := n6_
            have HB := n7_
            clear n0_ n1_ n2_ n3_ n4_ n5_ n6_ n7_
            refine start_ (n := 5) (S := fun w' => w'.cell? ⟨gb237, 0, none⟩ = some (.slice Ao27 t231.length co27) ∧ w'.cell? ⟨gb237, 1, none⟩ = some (.int .i64 t234) ∧ w'.cell? ⟨gb237, 2, none⟩ = some (.bool t235) ∧ w'.cell? ⟨gb237, 3, none⟩ = some (.int .i64 t236) ∧ w'.cell? ⟨gb215, 0, none⟩ = some (.slice A0_0 l0_0.length c0_0) ∧ w'.cell? ⟨gb215, 1, none⟩ = some (.int .i64 a0_1) ∧ w'.cell? ⟨gb215, 2, none⟩ = some (.bool a0_2) ∧ w'.cell? ⟨gb215, 3, none⟩ = some (.int .i64 a0_3)) (ds := []) #[false, false, false, false, false] (by kernel_rfl) rfl rfl ⟨(blk_cell BK237.out 0).trans rfl, (blk_cell BK237.out 1).trans rfl, (blk_cell BK237.out 2).trans rfl, (blk_cell BK237.out 3).trans rfl, (blk_cell BK215.out 0).trans rfl, (blk_cell BK215.out 1).trans rfl, (blk_cell BK215.out 2).trans rfl, (blk_cell BK215.out 3).trans rfl⟩ (fun hHeld => ?_)
            generalize wc.drew = w62 at HO_231000 HO_238000 HO_246000 BK215 BK230 BK237 BK245 HB hHeld ⊢
            refine take_ (i := 0) (N := some 45) (v := ?_) (a' := ?_) #[true, false, false, false, false] rfl rfl (by kernel_rfl) (fun _ _ _ h => h) (Or.inl ⟨by rfl, ?_⟩) hHeld ?_ ?_
            rotate_left
            · rintro w' ⟨s0, s1, s2, s3, s4, s5, s6, s7⟩
              go_simp
              with_reducible rfl
            rotate_left
            · simp only [Act.put, List.setIfInBounds_toArray, List.set_cons_zero, List.set_cons_succ, i64_w, i32_w]
              rfl
            refine take_ (i := 1) (N := some 46) (v := ?_) (a' := ?_) #[true, true, false, false, false] rfl rfl (by kernel_rfl) (fun _ _ _ h => h) (Or.inl ⟨by rfl, ?_⟩) hHeld ?_ ?_
            rotate_left
            · rintro w' ⟨s0, s1, s2, s3, s4, s5, s6, s7⟩
              go_simp
              with_reducible rfl
            rotate_left
            · simp only [Act.put, List.setIfInBounds_toArray, List.set_cons_zero, List.set_cons_succ, i64_w, i32_w]
              rfl
            refine one_ (i := 2) (N := some 47) #[true, true, true, false, false] rfl rfl (by kernel_rfl) (by decide) (fun K hK => ?_)
            refine goes_ Try.func18 (by kernel_rfl) rfl #[.agg #[.slice A0_0 l0_0.length c0_0, .int .i64 a0_1, .bool a0_2, .int .i64 a0_3]] (by rfl) rfl rfl (by (try simp only [List.map_toArray, List.map_cons, List.map_nil]); first | done | rfl | (simp only [List.length_drop, List.length_take]; rfl)) ?_
            with_reducible refine (laws_toDisk.calls kj11 _ _ l0_0 a0_1 a0_2 a0_3 t247 t250 t251 t252 _ ?side1 ?side2 A57.out).mono ?_
            (case side1 => repeat (first | exact (Kd.C_below HR0_0.out HB.out) | (with_reducible refine Kd.C_alloc ?_ _) | (with_reducible refine Kd.C_drewN ?_ _) | (with_reducible refine Kd.C_drew ?_)))
            (case side2 => exact HC0_0.out)
            rintro e w63 ⟨v248, rfl, ho0, hb⟩
            refine ⟨_, rfl, ?_⟩
            have n0_ := Aside0.mk (Kd.S_told (Kd.S_old (by (with_reducible repeat (first | apply Kd.S_alloc | apply Kd.S_drewN | apply Kd.S_drew)); exact HO_231000.out) hb) (Kd.S_base ho0))
            have n1_ := Aside0.mk (Kd.S_told (Kd.S_old (by (with_reducible repeat (first | apply Kd.S_alloc | apply Kd.S_drewN | apply Kd.S_drew)); exact HO_238000.out) hb) (Kd.S_base ho0))
            have n2_ := Aside0.mk (Kd.S_told (Kd.S_old (by (with_reducible repeat (first | apply Kd.S_alloc | apply Kd.S_drewN | apply Kd.S_drew)); exact HO_246000.out) hb) (Kd.S_base ho0))
            have n3_ := Aside0.mk (Kd.S_lower (Kd.S_new' (Kd.S_new' (Kd.S_new' (Kd.S_mono (Kd.S_bound ho0) (fun k_ h_ => (⟨h_.1, (by first | exact h_.2.1 | simpa only [World.size_setCell] using h_.2.1)⟩ : _ ∧ w62.heap.size ≤ k_))) (Kd.S_lt (by (with_reducible repeat (first | apply Kd.S_alloc | apply Kd.S_drewN | apply Kd.S_drew)); exact HO_231000.out))) (Kd.S_lt (by (with_reducible repeat (first | apply Kd.S_alloc | apply Kd.S_drewN | apply Kd.S_drew)); exact HO_238000.out))) (Kd.S_lt (by (with_reducible repeat (first | apply Kd.S_alloc | apply Kd.S_drewN | apply Kd.S_drew)); exact HO_246000.out))) (below_size (by repeat (first | (with_reducible first | exact HB.out | apply below_alloc | apply pw_below_drewN | apply below_drew1 | refine below_set ?_ GE215.out | refine below_set ?_ GE230.out | refine below_set ?_ GE237.out | refine below_set ?_ GE245.out) | exact HB.out))))
            have n4_ := Aside0.mk (blk_below (g := gb215) (o := .cells #[.slice A0_0 l0_0.length c0_0, .int .i64 a0_1, .bool a0_2, .int .i64 a0_3] 30 (0, 0)) (by (with_reducible repeat (first | refine blk_drewN ?_ _ | refine blk_drew ?_ | refine blk_alloc ?_ _)); exact BK215.out) hb)
            have n5_ := Aside0.mk (blk_below (g := gb230) (o := .cells #[.slice Ao21 t223.length co21, .int .i64 t226, .bool t227, .int .i64 t228] 24 (0, 0)) (by (with_reducible repeat (first | refine blk_drewN ?_ _ | refine blk_drew ?_ | refine blk_alloc ?_ _)); exact BK230.out) hb)
            have n6_ := Aside0.mk (blk_below (g := gb237) (o := .cells #[.slice Ao27 t231.length co27, .int .i64 t234, .bool t235, .int .i64 t236] 24 (0, 0)) (by (with_reducible repeat (first | refine blk_drewN ?_ _ | refine blk_drew ?_ | refine blk_alloc ?_ _)); exact BK237.out) hb)
            have n7_ := Aside0.mk (blk_below (g := gb245) (o := .cells #[.slice Ao33 t238.length co33, .int .i64 t241, .bool t242, .int .i64 t243] 24 (0, 0)) (by (with_reducible repeat (first | refine blk_drewN ?_ _ | refine blk_drew ?_ | refine blk_alloc ?_ _)); exact BK245.out) hb)
            have n8_ := Aside0.mk (below_step (by repeat (first | (with_reducible first | exact HB.out | apply below_alloc | apply pw_below_drewN | apply below_drew1 | refine below_set ?_ GE215.out | refine below_set ?_ GE230.out | refine below_set ?_ GE237.out | refine below_set ?_ GE245.out) | exact HB.out)) hb)
            clear HO_231000
            clear HO_238000
            clear HO_246000
            clear BK215
            clear BK230
            clear BK237
            clear BK245
            clear HB
            have HO_231000 := n0_
            have HO_238000 := n1_
            have HO_246000 := n2_
            have HO249 := n3_
            have BK215 := n4_
            have BK230 := n5_
            have BK237 := n6_
            have BK245 := n7_
            have HB := n8_
            clear n0_ n1_ n2_ n3_ n4_ n5_ n6_ n7_ n8_
            (try clear hb)
            (try clear hb2)
            (try clear hk)
            (try clear hi)
            (try clear ho0)
            obtain ⟨Ao64, co64, eo64⟩ := Kd.S_slice HO249.out
            (first | subst eo64 | (injection eo64 with f1_ f2_ f3_; have f4_ := f1_.symm; have f5_ := f3_.symm; clear f1_ f2_ f3_; subst f4_; subst f5_))
            refine hK.out _ _ ⟨(blk_cell BK237.out 0).trans rfl, (blk_cell BK237.out 1).trans rfl, (blk_cell BK237.out 2).trans rfl, (blk_cell BK237.out 3).trans rfl, (blk_cell BK215.out 0).trans rfl, (blk_cell BK215.out 1).trans rfl, (blk_cell BK215.out 2).trans rfl, (blk_cell BK215.out 3).trans rfl⟩ (fun hHeld => ?_)
            clear hK K
            refine norm_ (a' := ?_) ?_ ?_
            rotate_left
            · show Act.put _ (some 47) _ = _
              simp only [Act.put, List.setIfInBounds_toArray, List.set_cons_zero, List.set_cons_succ, i64_w, i32_w]
              rfl
            refine one_ (i := 3) (N := some 48) #[true, true, true, true, false] rfl rfl (by kernel_rfl) (by decide) (fun K hK => ?_)
            refine goes_ Try.func13 (by kernel_rfl) rfl #[.agg #[.slice Ao27 t231.length co27, .int .i64 t234, .bool t235, .int .i64 t236], .agg #[.slice Ao64 t247.length co64, .int .i64 t250, .bool t251, .int .i64 t252]] (by rfl) rfl rfl (by (try simp only [List.map_toArray, List.map_cons, List.map_nil]); first | done | rfl | (simp only [List.length_drop, List.length_take]; rfl)) ?_
            with_reducible refine (laws_eqDisk.calls kj11 _ _ t231 t234 t235 t236 _ _ t247 t250 t251 t252 true _ ?side1 ?side2 ?side3 ?side4 A58.out).mono ?_
            (case side1 => repeat (first | exact (Kd.S_reads' HO_238000.out).2.2 | (with_reducible refine Kd.C_alloc ?_ _) | (with_reducible refine Kd.C_drewN ?_ _) | (with_reducible refine Kd.C_drew ?_)))
            (case side2 => exact (Kd.S_reads' HO_238000.out).2.1)
            (case side3 => repeat (first | exact (Kd.S_reads' HO249.out).2.2 | (with_reducible refine Kd.C_alloc ?_ _) | (with_reducible refine Kd.C_drewN ?_ _) | (with_reducible refine Kd.C_drew ?_)))
            (case side4 => exact (Kd.S_reads' HO249.out).2.1)
            rintro e w65 ⟨rfl, hb⟩
            refine ⟨_, rfl, ?_⟩
            have n0_ := Aside0.mk (Kd.S_below (by (with_reducible repeat (first | apply Kd.S_alloc | apply Kd.S_drewN | apply Kd.S_drew)); exact HO_231000.out) hb)
            have n1_ := Aside0.mk (Kd.S_below (by (with_reducible repeat (first | apply Kd.S_alloc | apply Kd.S_drewN | apply Kd.S_drew)); exact HO_238000.out) hb)
            have n2_ := Aside0.mk (Kd.S_below (by (with_reducible repeat (first | apply Kd.S_alloc | apply Kd.S_drewN | apply Kd.S_drew)); exact HO_246000.out) hb)
            have n3_ := Aside0.mk (Kd.S_below (by (with_reducible repeat (first | apply Kd.S_alloc | apply Kd.S_drewN | apply Kd.S_drew)); exact HO249.out) hb)
            have n4_ := Aside0.mk (blk_below (g := gb215) (o := .cells #[.slice A0_0 l0_0.length c0_0, .int .i64 a0_1, .bool a0_2, .int .i64 a0_3] 30 (0, 0)) (by (with_reducible repeat (first | refine blk_drewN ?_ _ | refine blk_drew ?_ | refine blk_alloc ?_ _)); exact BK215.out) hb)
            have n5_ := Aside0.mk (blk_below (g := gb230) (o := .cells #[.slice Ao21 t223.length co21, .int .i64 t226, .bool t227, .int .i64 t228] 24 (0, 0)) (by (with_reducible repeat (first | refine blk_drewN ?_ _ | refine blk_drew ?_ | refine blk_alloc ?_ _)); exact BK230.out) hb)
            have n6_ := Aside0.mk (blk_below (g := gb237) (o := .cells #[.slice Ao27 t231.length co27, .int .i64 t234, .bool t235, .int .i64 t236] 24 (0, 0)) (by (with_reducible repeat (first | refine blk_drewN ?_ _ | refine blk_drew ?_ | refine blk_alloc ?_ _)); exact BK237.out) hb)
            have n7_ := Aside0.mk (blk_below (g := gb245) (o := .cells #[.slice Ao33 t238.length co33, .int .i64 t241, .bool t242, .int .i64 t243] 24 (0, 0)) (by (with_reducible repeat (first | refine blk_drewN ?_ _ | refine blk_drew ?_ | refine blk_alloc ?_ _)); exact BK245.out) hb)
            have n8_ := Aside0.mk (below_step (by repeat (first | (with_reducible first | exact HB.out | apply below_alloc | apply pw_below_drewN | apply below_drew1 | refine below_set ?_ GE215.out | refine below_set ?_ GE230.out | refine below_set ?_ GE237.out | refine below_set ?_ GE245.out) | exact HB.out)) hb)
            clear HO_231000
            clear HO_238000
            clear HO_246000
            clear HO249
            clear BK215
            clear BK230
            clear BK237
            clear BK245
            clear HB
            have HO_231000 := n0_
            have HO_238000 := n1_
            have HO_246000 := n2_
            have HO249 := n3_
            have BK215 := n4_
            have BK230 := n5_
            have BK237 := n6_
            have BK245 := n7_
            have HB := n8_
            clear n0_ n1_ n2_ n3_ n4_ n5_ n6_ n7_ n8_
            (try clear hb)
            (try clear hb2)
            (try clear hk)
            (try clear hi)
            refine hK.out _ _ ⟨(blk_cell BK237.out 0).trans rfl, (blk_cell BK237.out 1).trans rfl, (blk_cell BK237.out 2).trans rfl, (blk_cell BK237.out 3).trans rfl, (blk_cell BK215.out 0).trans rfl, (blk_cell BK215.out 1).trans rfl, (blk_cell BK215.out 2).trans rfl, (blk_cell BK215.out 3).trans rfl⟩ (fun hHeld => ?_)
            clear hK K
            refine norm_ (a' := ?_) ?_ ?_
            rotate_left
            · show Act.put _ (some 48) _ = _
              simp only [Act.put, List.setIfInBounds_toArray, List.set_cons_zero, List.set_cons_succ, i64_w, i32_w]
              rfl
            refine pure_ (i := 4) (N := some 49) (v := ?_) (a' := ?_) #[true, true, true, true, true] rfl rfl (by kernel_rfl) (fun _ _ _ h => h) (Or.inl ⟨by rfl, ?_⟩) ?_ ?_
            rotate_left
            · intro w'
              go_simp
              with_reducible rfl
            rotate_left
            · simp only [Act.put, List.setIfInBounds_toArray, List.set_cons_zero, List.set_cons_succ, i64_w, i32_w]
              rfl
            refine done_ (by kernel_rfl) ?_
            have hnb66 := NB237_215.out
            have hnc66 := NB215_237.out
            have hnb67 := NB237_230.out
            have hnc67 := NB230_237.out
            have hnb68 := NB237_245.out
            have hnc68 := NB245_237.out
            have hcz69_0 : w65.cell? ⟨gb237, 0, none⟩ = some (.slice Ao27 t231.length co27) := (blk_cell BK237.out 0).trans rfl
            have hcz69_1 : w65.cell? ⟨gb237, 1, none⟩ = some (.int .i64 t234) := (blk_cell BK237.out 1).trans rfl
            have hcz69_2 : w65.cell? ⟨gb237, 2, none⟩ = some (.bool t235) := (blk_cell BK237.out 2).trans rfl
            have hcz69_3 : w65.cell? ⟨gb237, 3, none⟩ = some (.int .i64 t236) := (blk_cell BK237.out 3).trans rfl
            have hfz69_0 := blk_frozen BK237.out 0
            have hfz69_1 := blk_frozen BK237.out 1
            have hfz69_2 := blk_frozen BK237.out 2
            have hfz69_3 := blk_frozen BK237.out 3
            go_upto_region 14 with (first | ((with_reducible refine gate_callee (f := 14) rfl ?_); refine goesL_ (some 52) rfl rfl Try.func14 (by kernel_rfl) rfl #[.agg #[.slice Ao27 t231.length co27, .int .i64 t234, .bool t235, .int .i64 t236], .int .i64 1] rfl (by (try simp only [List.map_toArray, List.map_cons, List.map_nil]); first | done | rfl | (simp only [List.length_drop, List.length_take]; rfl)) ?_; (with_reducible refine (laws_markDisk.calls kj11 (SB_ (Kd.slice 5 (Kd.int .u8)) 35 w65 w.heap.size (fun k_ => (((some k_ ≠ (.slice Ao21 t223.length co21 : Value).ownBlock ∧ (some k_ ≠ (.slice Ao33 t238.length co33 : Value).ownBlock ∧ (w20.heap.size ≤ k_ ∧ k_ < w26.heap.size))) ∧ some k_ ≠ (.slice Ao64 t247.length co64 : Value).ownBlock) ∧ k_ < w62.heap.size))) (.slice Ao27 t231.length co27) t231 t234 t235 t236 1 t254 t255 w _ ?side1 ?side2 A60.out).mono ?_); (case side1 => repeat (first | (with_reducible first | exact HB.out | apply below_alloc | apply pw_below_drewN | apply below_drew1 | refine below_set ?_ GE215.out | refine below_set ?_ GE230.out | refine below_set ?_ GE237.out | refine below_set ?_ GE245.out) | exact HB.out)); (case side2 => exact SB_own HO_238000.out); rintro e w70 ⟨rfl, hy0, hb, hkp⟩; refine ⟨_, rfl, ?_⟩; have n0_ := Aside0.mk (Kd.S_mono (ok' := fun k_ => some k_ ≠ (.slice Ao33 t238.length co33 : Value).ownBlock ∧ some k_ ≠ (.slice Ao64 t247.length co64 : Value).ownBlock ∧ w17.heap.size ≤ k_ ∧ k_ < w20.heap.size ∧ k_ < w26.heap.size ∧ k_ < w62.heap.size) (Kd.S_keptB ((S_apartSBn (d' := (Kd.slice 5 (Kd.int .u8))) (e' := 35) (base' := w.heap.size) (ok' := (fun k_ => (((some k_ ≠ (.slice Ao21 t223.length co21 : Value).ownBlock ∧ (some k_ ≠ (.slice Ao33 t238.length co33 : Value).ownBlock ∧ (w20.heap.size ≤ k_ ∧ k_ < w26.heap.size))) ∧ some k_ ≠ (.slice Ao64 t247.length co64 : Value).ownBlock) ∧ k_ < w62.heap.size))) HO_231000.out (fun k_ hk h2_ => absurd (hk.1.1.2.2.2.1) (Nat.not_lt.2 (h2_.1.1.2.2.1))))) hkp (fun k_ hk_ hs_ => (hk_.2) hs_)) (fun k_ hk_ => ⟨hk_.1.1.1.1.2.1, hk_.1.1.1.2, hk_.1.1.1.1.2.2.1, hk_.1.1.1.1.2.2.2.1, hk_.1.1.1.1.2.2.2.2, hk_.1.1.2⟩)); have n1_ := Aside0.mk (Kd.S_mono (ok' := fun k_ => some k_ ≠ (.slice Ao21 t223.length co21 : Value).ownBlock ∧ some k_ ≠ (.slice Ao64 t247.length co64 : Value).ownBlock ∧ w26.heap.size ≤ k_ ∧ k_ < w62.heap.size) (Kd.S_keptB ((S_apartSBn (d' := (Kd.slice 5 (Kd.int .u8))) (e' := 35) (base' := w.heap.size) (ok' := (fun k_ => (((some k_ ≠ (.slice Ao21 t223.length co21 : Value).ownBlock ∧ (some k_ ≠ (.slice Ao33 t238.length co33 : Value).ownBlock ∧ (w20.heap.size ≤ k_ ∧ k_ < w26.heap.size))) ∧ some k_ ≠ (.slice Ao64 t247.length co64 : Value).ownBlock) ∧ k_ < w62.heap.size))) HO_246000.out (fun k_ hk h2_ => absurd (h2_.1.1.2.2.2) (Nat.not_lt.2 (hk.1.1.2.2))))) hkp (fun k_ hk_ hs_ => (hk_.2) hs_)) (fun k_ hk_ => ⟨hk_.1.1.1.1.1, hk_.1.1.1.2, hk_.1.1.1.1.2.2, hk_.1.1.2⟩)); have n2_ := Aside0.mk (blk_kept (by (with_reducible repeat (first | refine blk_drewN ?_ _ | refine blk_drew ?_ | refine blk_alloc ?_ _)); exact BK215.out) hkp (fun hs_ => (fun e_ => (blk_SB BK215.out (by decide)) e_) hs_)); have n3_ := Aside0.mk (blk_kept (by (with_reducible repeat (first | refine blk_drewN ?_ _ | refine blk_drew ?_ | refine blk_alloc ?_ _)); exact BK230.out) hkp (fun hs_ => (fun e_ => (blk_SB BK230.out (by decide)) e_) hs_)); have n4_ := Aside0.mk (blk_kept (by (with_reducible repeat (first | refine blk_drewN ?_ _ | refine blk_drew ?_ | refine blk_alloc ?_ _)); exact BK237.out) hkp (fun hs_ => (fun e_ => (blk_SB BK237.out (by decide)) e_) hs_)); have n5_ := Aside0.mk (blk_kept (by (with_reducible repeat (first | refine blk_drewN ?_ _ | refine blk_drew ?_ | refine blk_alloc ?_ _)); exact BK245.out) hkp (fun hs_ => (fun e_ => (blk_SB BK245.out (by decide)) e_) hs_)); have n6_ := Aside0.mk (Kd.S_mono (ok' := fun k_ => some k_ ≠ (.slice Ao21 t223.length co21 : Value).ownBlock ∧ some k_ ≠ (.slice Ao33 t238.length co33 : Value).ownBlock ∧ w62.heap.size ≤ k_) (Kd.S_keptB ((S_apartSBn (d' := (Kd.slice 5 (Kd.int .u8))) (e' := 35) (base' := w.heap.size) (ok' := (fun k_ => (((some k_ ≠ (.slice Ao21 t223.length co21 : Value).ownBlock ∧ (some k_ ≠ (.slice Ao33 t238.length co33 : Value).ownBlock ∧ (w20.heap.size ≤ k_ ∧ k_ < w26.heap.size))) ∧ some k_ ≠ (.slice Ao64 t247.length co64 : Value).ownBlock) ∧ k_ < w62.heap.size))) HO249.out (fun k_ hk h2_ => absurd (h2_.2) (Nat.not_lt.2 (hk.1.1.1.2))))) hkp (fun k_ hk_ hs_ => (hk_.2) hs_)) (fun k_ hk_ => ⟨hk_.1.1.1.1.2, hk_.1.1.2, hk_.1.1.1.1.1.2⟩)); have n7_ := Aside0.mk (hb); clear HO_231000; clear HO_246000; clear BK215; clear BK230; clear BK237; clear BK245; clear HO249; clear HB; clear HO_238000; have HO_231000 := n0_; have HO_246000 := n1_; have BK215 := n2_; have BK230 := n3_; have BK237 := n4_; have BK245 := n5_; have HO249 := n6_; have HB := n7_; clear n0_ n1_ n2_ n3_ n4_ n5_ n6_ n7_; (try clear hb); (try clear hkp); (try clear hy0)))
            (try simp only [Act.put, List.setIfInBounds_toArray, List.set_cons_zero, List.set_cons_succ])
            go_cut [65] (fun v65 wc => ∃ (kq : Nat) (x65_60 : Bool), v65 = .bool x65_60 ∧ Aside0 (laws_FnExactCutAfter.j1 kq a1 t229 x65_60 l0_0 a0_1 a0_2 a0_3 t223 t226 t227 t228 t238 t241 t242 t243 = some r) ∧ Aside0 (kq ≤ kj11) ∧ Aside0 (Kd.S (Kd.slice 5 (Kd.int .u8)) 35 wc w.heap.size (fun k_ => some k_ ≠ ((.slice Ao33 t238.length co33) : Value).ownBlock ∧ w17.heap.size ≤ k_ ∧ k_ < w20.heap.size ∧ k_ < w26.heap.size ∧ k_ < w62.heap.size) (.slice Ao21 t223.length co21) t223) ∧ Aside0 (Kd.S (Kd.slice 5 (Kd.int .u8)) 35 wc w.heap.size (fun k_ => some k_ ≠ ((.slice Ao21 t223.length co21) : Value).ownBlock ∧ w26.heap.size ≤ k_ ∧ k_ < w62.heap.size) (.slice Ao33 t238.length co33) t238) ∧ Aside0 (wc.heap[gb215]? = some (.cells #[(.slice A0_0 l0_0.length c0_0), .int .i64 a0_1, .bool a0_2, .int .i64 a0_3] 30 (0, 0))) ∧ Aside0 (wc.heap[gb230]? = some (.cells #[(.slice Ao21 t223.length co21), .int .i64 t226, .bool t227, .int .i64 t228] 24 (0, 0))) ∧ Aside0 (wc.heap[gb245]? = some (.cells #[(.slice Ao33 t238.length co33), .int .i64 t241, .bool t242, .int .i64 t243] 24 (0, 0))) ∧ Aside0 (Below w.heap.size w wc))
            case first =>
              have H := HC61.out
              clear HC61
              by_cases c71 : t254 < 0
              · rw [if_pos c71] at H
                have c71b0 : decide (t254 < 0) = true := decide_eq_true c71
                clear c71
                (first | rw [c71b0] | (simp only [i64_w, i32_w]; rw [c71b0]) | skip)
                have H' := Aside0.mk H
                clear H
                go_wp2
                go_meet
                case rel => exact ⟨_, (true), (by first | rfl | (simp; done) | (simp [*]; done)), H', ⟨by have := HJ11.out; first | omega | exact Nat.le_refl _⟩, ⟨by (with_reducible repeat (first | apply Kd.S_alloc | apply Kd.S_drewN | apply Kd.S_drew)); exact Kd.S_mono HO_231000.out (fun _ hk => ⟨hk.1, ⟨hk.2.2.1, ⟨hk.2.2.2.1, ⟨hk.2.2.2.2.1, hk.2.2.2.2.2⟩⟩⟩⟩)⟩, ⟨by (with_reducible repeat (first | apply Kd.S_alloc | apply Kd.S_drewN | apply Kd.S_drew)); exact Kd.S_mono HO_246000.out (fun _ hk => ⟨hk.1, ⟨hk.2.2.1, hk.2.2.2⟩⟩)⟩, ⟨by (with_reducible repeat (first | refine blk_drewN ?_ _ | refine blk_drew ?_ | refine blk_alloc ?_ _)); exact BK215.out⟩, ⟨by (with_reducible repeat (first | refine blk_drewN ?_ _ | refine blk_drew ?_ | refine blk_alloc ?_ _)); exact BK230.out⟩, ⟨by (with_reducible repeat (first | refine blk_drewN ?_ _ | refine blk_drew ?_ | refine blk_alloc ?_ _)); exact BK245.out⟩, ⟨by repeat (first | (with_reducible first | exact HB.out | apply below_alloc | apply pw_below_drewN | apply below_drew1 | refine below_set ?_ GE215.out | refine below_set ?_ GE230.out | refine below_set ?_ GE237.out | refine below_set ?_ GE245.out) | exact HB.out)⟩⟩
              · rw [if_neg c71] at H
                have c71b0 : decide (t254 < 0) = false := decide_eq_false c71
                clear c71
                (first | rw [c71b0] | (simp only [i64_w, i32_w]; rw [c71b0]) | skip)
                replace H := Option.bind_eq_some_iff.mp H
                obtain ⟨t256, A720, H⟩ := H
                replace H : (if t256 = true then (laws_FnExactCutAfter.j1 kj11 a1 t229 (t244 != t229) l0_0 a0_1 a0_2 a0_3 t223 t226 t227 t228 t238 t241 t242 t243) else (laws_FnExactCutAfter.j1 kj11 a1 t229 true l0_0 a0_1 a0_2 a0_3 t223 t226 t227 t228 t238 t241 t242 t243)) = some r := H
                have A72 := Aside0.mk A720
                clear A720
                by_cases c73 : t256 = true
                · subst c73
                  have H1 : (laws_FnExactCutAfter.j1 kj11 a1 t229 (t244 != t229) l0_0 a0_1 a0_2 a0_3 t223 t226 t227 t228 t238 t241 t242 t243) = some r := by rw [if_pos rfl] at H; exact H
                  clear H
                  have H := H1
                  clear H1
                  have H' := Aside0.mk H
                  clear H
                  have hnb74 := NB245_215.out
                  have hnc74 := NB215_245.out
                  have hnb75 := NB245_230.out
                  have hnc75 := NB230_245.out
                  have hnb76 := NB245_237.out
                  have hnc76 := NB237_245.out
                  have hcz77_0 : w70.cell? ⟨gb245, 0, none⟩ = some (.slice Ao33 t238.length co33) := (blk_cell BK245.out 0).trans rfl
                  have hcz77_1 : w70.cell? ⟨gb245, 1, none⟩ = some (.int .i64 t241) := (blk_cell BK245.out 1).trans rfl
                  have hcz77_2 : w70.cell? ⟨gb245, 2, none⟩ = some (.bool t242) := (blk_cell BK245.out 2).trans rfl
                  have hcz77_3 : w70.cell? ⟨gb245, 3, none⟩ = some (.int .i64 t243) := (blk_cell BK245.out 3).trans rfl
                  have hfz77_0 := blk_frozen BK245.out 0
                  have hfz77_1 := blk_frozen BK245.out 1
                  have hfz77_2 := blk_frozen BK245.out 2
                  have hfz77_3 := blk_frozen BK245.out 3
                  have hnb78 := NB230_215.out
                  have hnc78 := NB215_230.out
                  have hnb79 := NB230_237.out
                  have hnc79 := NB237_230.out
                  have hcz80_0 : w70.cell? ⟨gb230, 0, none⟩ = some (.slice Ao21 t223.length co21) := (blk_cell BK230.out 0).trans rfl
                  have hcz80_1 : w70.cell? ⟨gb230, 1, none⟩ = some (.int .i64 t226) := (blk_cell BK230.out 1).trans rfl
                  have hcz80_2 : w70.cell? ⟨gb230, 2, none⟩ = some (.bool t227) := (blk_cell BK230.out 2).trans rfl
                  have hcz80_3 : w70.cell? ⟨gb230, 3, none⟩ = some (.int .i64 t228) := (blk_cell BK230.out 3).trans rfl
                  have hfz80_0 := blk_frozen BK230.out 0
                  have hfz80_1 := blk_frozen BK230.out 1
                  have hfz80_2 := blk_frozen BK230.out 2
                  have hfz80_3 := blk_frozen BK230.out 3
                  go_wp2_with (first | (go_at_call 13; (with_reducible refine (laws_eqDisk.calls kj11 _ _ t238 t241 t242 t243 _ _ t223 t226 t227 t228 true _ ?side1 ?side2 ?side3 ?side4 A72.out).mono ?_); (case side1 => repeat (first | exact (Kd.S_reads' HO_246000.out).2.2 | (with_reducible refine Kd.C_alloc ?_ _) | (with_reducible refine Kd.C_drewN ?_ _) | (with_reducible refine Kd.C_drew ?_))); (case side2 => exact (Kd.S_reads' HO_246000.out).2.1); (case side3 => repeat (first | exact (Kd.S_reads' HO_231000.out).2.2 | (with_reducible refine Kd.C_alloc ?_ _) | (with_reducible refine Kd.C_drewN ?_ _) | (with_reducible refine Kd.C_drew ?_))); (case side4 => exact (Kd.S_reads' HO_231000.out).2.1); rintro e w81 ⟨rfl, hb⟩; have n0_ := Aside0.mk (Kd.S_below (by (with_reducible repeat (first | apply Kd.S_alloc | apply Kd.S_drewN | apply Kd.S_drew)); exact HO_231000.out) hb); have n1_ := Aside0.mk (Kd.S_below (by (with_reducible repeat (first | apply Kd.S_alloc | apply Kd.S_drewN | apply Kd.S_drew)); exact HO_246000.out) hb); have n2_ := Aside0.mk (Kd.S_below (by (with_reducible repeat (first | apply Kd.S_alloc | apply Kd.S_drewN | apply Kd.S_drew)); exact HO249.out) hb); have n3_ := Aside0.mk (blk_below (g := gb215) (o := .cells #[.slice A0_0 l0_0.length c0_0, .int .i64 a0_1, .bool a0_2, .int .i64 a0_3] 30 (0, 0)) (by (with_reducible repeat (first | refine blk_drewN ?_ _ | refine blk_drew ?_ | refine blk_alloc ?_ _)); exact BK215.out) hb); have n4_ := Aside0.mk (blk_below (g := gb230) (o := .cells #[.slice Ao21 t223.length co21, .int .i64 t226, .bool t227, .int .i64 t228] 24 (0, 0)) (by (with_reducible repeat (first | refine blk_drewN ?_ _ | refine blk_drew ?_ | refine blk_alloc ?_ _)); exact BK230.out) hb); have n5_ := Aside0.mk (blk_below (g := gb237) (o := .cells #[.slice Ao27 t231.length co27, .int .i64 t234, .bool t235, .int .i64 t236] 24 (0, 0)) (by (with_reducible repeat (first | refine blk_drewN ?_ _ | refine blk_drew ?_ | refine blk_alloc ?_ _)); exact BK237.out) hb); have n6_ := Aside0.mk (blk_below (g := gb245) (o := .cells #[.slice Ao33 t238.length co33, .int .i64 t241, .bool t242, .int .i64 t243] 24 (0, 0)) (by (with_reducible repeat (first | refine blk_drewN ?_ _ | refine blk_drew ?_ | refine blk_alloc ?_ _)); exact BK245.out) hb); have n7_ := Aside0.mk (below_step (by repeat (first | (with_reducible first | exact HB.out | apply below_alloc | apply pw_below_drewN | apply below_drew1 | refine below_set ?_ GE215.out | refine below_set ?_ GE230.out | refine below_set ?_ GE237.out | refine below_set ?_ GE245.out) | exact HB.out)) hb); clear HO_231000; clear HO_246000; clear HO249; clear BK215; clear BK230; clear BK237; clear BK245; clear HB; have HO_231000 := n0_; have HO_246000 := n1_; have HO249 := n2_; have BK215 := n3_; have BK230 := n4_; have BK237 := n5_; have BK245 := n6_; have HB := n7_; clear n0_ n1_ n2_ n3_ n4_ n5_ n6_ n7_; (try clear hb); (try clear hb2); (try clear hk); (try clear hi)))
                  go_meet
                  case rel => exact ⟨_, ((t244 != t229)), (by first | rfl | (simp; done) | (simp [*]; done)), H', ⟨by have := HJ11.out; first | omega | exact Nat.le_refl _⟩, ⟨by (with_reducible repeat (first | apply Kd.S_alloc | apply Kd.S_drewN | apply Kd.S_drew)); exact Kd.S_mono HO_231000.out (fun _ hk => ⟨hk.1, ⟨hk.2.2.1, ⟨hk.2.2.2.1, ⟨hk.2.2.2.2.1, hk.2.2.2.2.2⟩⟩⟩⟩)⟩, ⟨by (with_reducible repeat (first | apply Kd.S_alloc | apply Kd.S_drewN | apply Kd.S_drew)); exact Kd.S_mono HO_246000.out (fun _ hk => ⟨hk.1, ⟨hk.2.2.1, hk.2.2.2⟩⟩)⟩, ⟨by (with_reducible repeat (first | refine blk_drewN ?_ _ | refine blk_drew ?_ | refine blk_alloc ?_ _)); exact BK215.out⟩, ⟨by (with_reducible repeat (first | refine blk_drewN ?_ _ | refine blk_drew ?_ | refine blk_alloc ?_ _)); exact BK230.out⟩, ⟨by (with_reducible repeat (first | refine blk_drewN ?_ _ | refine blk_drew ?_ | refine blk_alloc ?_ _)); exact BK245.out⟩, ⟨by repeat (first | (with_reducible first | exact HB.out | apply below_alloc | apply pw_below_drewN | apply below_drew1 | refine below_set ?_ GE215.out | refine below_set ?_ GE230.out | refine below_set ?_ GE237.out | refine below_set ?_ GE245.out) | exact HB.out)⟩⟩
                · replace c73 := Bool.eq_false_iff.mpr c73
                  subst c73
                  have H1 : (laws_FnExactCutAfter.j1 kj11 a1 t229 true l0_0 a0_1 a0_2 a0_3 t223 t226 t227 t228 t238 t241 t242 t243) = some r := by rw [if_neg (show ¬ (false = true) by decide)] at H; exact H
                  clear H
                  have H := H1
                  clear H1
                  have H' := Aside0.mk H
                  clear H
                  have hnb82 := NB245_215.out
                  have hnc82 := NB215_245.out
                  have hnb83 := NB245_230.out
                  have hnc83 := NB230_245.out
                  have hnb84 := NB245_237.out
                  have hnc84 := NB237_245.out
                  have hcz85_0 : w70.cell? ⟨gb245, 0, none⟩ = some (.slice Ao33 t238.length co33) := (blk_cell BK245.out 0).trans rfl
                  have hcz85_1 : w70.cell? ⟨gb245, 1, none⟩ = some (.int .i64 t241) := (blk_cell BK245.out 1).trans rfl
                  have hcz85_2 : w70.cell? ⟨gb245, 2, none⟩ = some (.bool t242) := (blk_cell BK245.out 2).trans rfl
                  have hcz85_3 : w70.cell? ⟨gb245, 3, none⟩ = some (.int .i64 t243) := (blk_cell BK245.out 3).trans rfl
                  have hfz85_0 := blk_frozen BK245.out 0
                  have hfz85_1 := blk_frozen BK245.out 1
                  have hfz85_2 := blk_frozen BK245.out 2
                  have hfz85_3 := blk_frozen BK245.out 3
                  have hnb86 := NB230_215.out
                  have hnc86 := NB215_230.out
                  have hnb87 := NB230_237.out
                  have hnc87 := NB237_230.out
                  have hcz88_0 : w70.cell? ⟨gb230, 0, none⟩ = some (.slice Ao21 t223.length co21) := (blk_cell BK230.out 0).trans rfl
                  have hcz88_1 : w70.cell? ⟨gb230, 1, none⟩ = some (.int .i64 t226) := (blk_cell BK230.out 1).trans rfl
                  have hcz88_2 : w70.cell? ⟨gb230, 2, none⟩ = some (.bool t227) := (blk_cell BK230.out 2).trans rfl
                  have hcz88_3 : w70.cell? ⟨gb230, 3, none⟩ = some (.int .i64 t228) := (blk_cell BK230.out 3).trans rfl
                  have hfz88_0 := blk_frozen BK230.out 0
                  have hfz88_1 := blk_frozen BK230.out 1
                  have hfz88_2 := blk_frozen BK230.out 2
                  have hfz88_3 := blk_frozen BK230.out 3
                  go_wp2_with (first | (go_at_call 13; (with_reducible refine (laws_eqDisk.calls kj11 _ _ t238 t241 t242 t243 _ _ t223 t226 t227 t228 false _ ?side1 ?side2 ?side3 ?side4 A72.out).mono ?_); (case side1 => repeat (first | exact (Kd.S_reads' HO_246000.out).2.2 | (with_reducible refine Kd.C_alloc ?_ _) | (with_reducible refine Kd.C_drewN ?_ _) | (with_reducible refine Kd.C_drew ?_))); (case side2 => exact (Kd.S_reads' HO_246000.out).2.1); (case side3 => repeat (first | exact (Kd.S_reads' HO_231000.out).2.2 | (with_reducible refine Kd.C_alloc ?_ _) | (with_reducible refine Kd.C_drewN ?_ _) | (with_reducible refine Kd.C_drew ?_))); (case side4 => exact (Kd.S_reads' HO_231000.out).2.1); rintro e w89 ⟨rfl, hb⟩; have n0_ := Aside0.mk (Kd.S_below (by (with_reducible repeat (first | apply Kd.S_alloc | apply Kd.S_drewN | apply Kd.S_drew)); exact HO_231000.out) hb); have n1_ := Aside0.mk (Kd.S_below (by (with_reducible repeat (first | apply Kd.S_alloc | apply Kd.S_drewN | apply Kd.S_drew)); exact HO_246000.out) hb); have n2_ := Aside0.mk (Kd.S_below (by (with_reducible repeat (first | apply Kd.S_alloc | apply Kd.S_drewN | apply Kd.S_drew)); exact HO249.out) hb); have n3_ := Aside0.mk (blk_below (g := gb215) (o := .cells #[.slice A0_0 l0_0.length c0_0, .int .i64 a0_1, .bool a0_2, .int .i64 a0_3] 30 (0, 0)) (by (with_reducible repeat (first | refine blk_drewN ?_ _ | refine blk_drew ?_ | refine blk_alloc ?_ _)); exact BK215.out) hb); have n4_ := Aside0.mk (blk_below (g := gb230) (o := .cells #[.slice Ao21 t223.length co21, .int .i64 t226, .bool t227, .int .i64 t228] 24 (0, 0)) (by (with_reducible repeat (first | refine blk_drewN ?_ _ | refine blk_drew ?_ | refine blk_alloc ?_ _)); exact BK230.out) hb); have n5_ := Aside0.mk (blk_below (g := gb237) (o := .cells #[.slice Ao27 t231.length co27, .int .i64 t234, .bool t235, .int .i64 t236] 24 (0, 0)) (by (with_reducible repeat (first | refine blk_drewN ?_ _ | refine blk_drew ?_ | refine blk_alloc ?_ _)); exact BK237.out) hb); have n6_ := Aside0.mk (blk_below (g := gb245) (o := .cells #[.slice Ao33 t238.length co33, .int .i64 t241, .bool t242, .int .i64 t243] 24 (0, 0)) (by (with_reducible repeat (first | refine blk_drewN ?_ _ | refine blk_drew ?_ | refine blk_alloc ?_ _)); exact BK245.out) hb); have n7_ := Aside0.mk (below_step (by repeat (first | (with_reducible first | exact HB.out | apply below_alloc | apply pw_below_drewN | apply below_drew1 | refine below_set ?_ GE215.out | refine below_set ?_ GE230.out | refine below_set ?_ GE237.out | refine below_set ?_ GE245.out) | exact HB.out)) hb); clear HO_231000; clear HO_246000; clear HO249; clear BK215; clear BK230; clear BK237; clear BK245; clear HB; have HO_231000 := n0_; have HO_246000 := n1_; have HO249 := n2_; have BK215 := n3_; have BK230 := n4_; have BK237 := n5_; have BK245 := n6_; have HB := n7_; clear n0_ n1_ n2_ n3_ n4_ n5_ n6_ n7_; (try clear hb); (try clear hb2); (try clear hk); (try clear hi)))
                  go_meet
                  case rel => exact ⟨_, (true), (by first | rfl | (simp; done) | (simp [*]; done)), H', ⟨by have := HJ11.out; first | omega | exact Nat.le_refl _⟩, ⟨by (with_reducible repeat (first | apply Kd.S_alloc | apply Kd.S_drewN | apply Kd.S_drew)); exact Kd.S_mono HO_231000.out (fun _ hk => ⟨hk.1, ⟨hk.2.2.1, ⟨hk.2.2.2.1, ⟨hk.2.2.2.2.1, hk.2.2.2.2.2⟩⟩⟩⟩)⟩, ⟨by (with_reducible repeat (first | apply Kd.S_alloc | apply Kd.S_drewN | apply Kd.S_drew)); exact Kd.S_mono HO_246000.out (fun _ hk => ⟨hk.1, ⟨hk.2.2.1, hk.2.2.2⟩⟩)⟩, ⟨by (with_reducible repeat (first | refine blk_drewN ?_ _ | refine blk_drew ?_ | refine blk_alloc ?_ _)); exact BK215.out⟩, ⟨by (with_reducible repeat (first | refine blk_drewN ?_ _ | refine blk_drew ?_ | refine blk_alloc ?_ _)); exact BK230.out⟩, ⟨by (with_reducible repeat (first | refine blk_drewN ?_ _ | refine blk_drew ?_ | refine blk_alloc ?_ _)); exact BK245.out⟩, ⟨by repeat (first | (with_reducible first | exact HB.out | apply below_alloc | apply pw_below_drewN | apply below_drew1 | refine below_set ?_ GE215.out | refine below_set ?_ GE230.out | refine below_set ?_ GE237.out | refine below_set ?_ GE245.out) | exact HB.out)⟩⟩
            case rest =>
              clear HC61
              try clear c1
              try clear c2
              try clear p2
              try clear c3
              try clear c4
              try clear c4b0
              try clear c5
              try clear c6
              try clear c7
              try clear c8
              try clear c13
              try clear c14
              try clear c16
              try clear c18
              try clear c22
              try clear c28
              try clear c29
              try clear c34
              try clear c35
              try clear c36
              try clear c39
              try clear c40
              try clear c41
              try clear c42
              try clear c44
              try clear c45
              try clear c48
              try clear c49
              try clear c50
              try clear c52
              try clear c53
              try clear c56
              try clear c59
              try clear c66
              try clear c67
              try clear c68
              try clear c71
              try clear c71b0
              try clear c73
              try clear c74
              try clear c75
              try clear c76
              try clear c78
              try clear c79
              try clear c82
              try clear c83
              try clear c84
              try clear c86
              try clear c87
              try clear hcz14_0
              try clear hcz14_1
              try clear hcz14_2
              try clear hcz14_3
              try clear hcz16_0
              try clear hcz16_1
              try clear hcz16_2
              try clear hcz16_3
              try clear hcz23_0
              try clear hcz23_1
              try clear hcz23_2
              try clear hcz23_3
              try clear hcz24_0
              try clear hcz24_1
              try clear hcz24_2
              try clear hcz24_3
              try clear hcz30_0
              try clear hcz30_1
              try clear hcz30_2
              try clear hcz30_3
              try clear hcz37_0
              try clear hcz37_1
              try clear hcz37_2
              try clear hcz37_3
              try clear hcz43_0
              try clear hcz43_1
              try clear hcz43_2
              try clear hcz43_3
              try clear hcz46_0
              try clear hcz46_1
              try clear hcz46_2
              try clear hcz46_3
              try clear hcz51_0
              try clear hcz51_1
              try clear hcz51_2
              try clear hcz51_3
              try clear hcz54_0
              try clear hcz54_1
              try clear hcz54_2
              try clear hcz54_3
              try clear hcz69_0
              try clear hcz69_1
              try clear hcz69_2
              try clear hcz69_3
              try clear hcz6_0
              try clear hcz6_1
              try clear hcz6_2
              try clear hcz6_3
              try clear hcz77_0
              try clear hcz77_1
              try clear hcz77_2
              try clear hcz77_3
              try clear hcz80_0
              try clear hcz80_1
              try clear hcz80_2
              try clear hcz80_3
              try clear hcz85_0
              try clear hcz85_1
              try clear hcz85_2
              try clear hcz85_3
              try clear hcz88_0
              try clear hcz88_1
              try clear hcz88_2
              try clear hcz88_3
              try clear hfz14_0
              try clear hfz14_1
              try clear hfz14_2
              try clear hfz14_3
              try clear hfz16_0
              try clear hfz16_1
              try clear hfz16_2
              try clear hfz16_3
              try clear hfz23_0
              try clear hfz23_1
              try clear hfz23_2
              try clear hfz23_3
              try clear hfz24_0
              try clear hfz24_1
              try clear hfz24_2
              try clear hfz24_3
              try clear hfz30_0
              try clear hfz30_1
              try clear hfz30_2
              try clear hfz30_3
              try clear hfz37_0
              try clear hfz37_1
              try clear hfz37_2
              try clear hfz37_3
              try clear hfz43_0
              try clear hfz43_1
              try clear hfz43_2
              try clear hfz43_3
              try clear hfz46_0
              try clear hfz46_1
              try clear hfz46_2
              try clear hfz46_3
              try clear hfz51_0
              try clear hfz51_1
              try clear hfz51_2
              try clear hfz51_3
              try clear hfz54_0
              try clear hfz54_1
              try clear hfz54_2
              try clear hfz54_3
              try clear hfz69_0
              try clear hfz69_1
              try clear hfz69_2
              try clear hfz69_3
              try clear hfz6_0
              try clear hfz6_1
              try clear hfz6_2
              try clear hfz6_3
              try clear hfz77_0
              try clear hfz77_1
              try clear hfz77_2
              try clear hfz77_3
              try clear hfz80_0
              try clear hfz80_1
              try clear hfz80_2
              try clear hfz80_3
              try clear hfz85_0
              try clear hfz85_1
              try clear hfz85_2
              try clear hfz85_3
              try clear hfz88_0
              try clear hfz88_1
              try clear hfz88_2
              try clear hfz88_3
              try clear p2
              obtain ⟨kq, x65_60, rfl, HA, HJ60, HO_231000, HO_246000, BK215, BK230, BK245, HB⟩ := hcut
              cases kq with
              | zero => exact absurd HA.out (by simp [laws_FnExactCutAfter.j1])
              | succ kj60 =>
                have H := HA.out
                clear HA
                simp only [laws_FnExactCutAfter.j1] at H
                by_cases c90 : x65_60 = true
                · subst c90
                  have H1 : (some false) = some r := by rw [if_pos rfl] at H; exact H
                  clear H
                  have H := H1
                  clear H1
                  obtain rfl := Option.some.inj H
                  go_wp2
                  go_ret
                  exact ⟨by first | rfl | (simp [errW_none, errW_some] <;> rfl) | (simp [*, errW_none, errW_some] <;> rfl), by repeat (first | (with_reducible first | exact HB.out | apply below_alloc | apply pw_below_drewN | apply below_drew1 | refine below_set ?_ GE215.out | refine below_set ?_ GE230.out | refine below_set ?_ GE245.out) | exact HB.out)⟩
                · replace c90 := Bool.eq_false_iff.mpr c90
                  subst c90
                  have H1 : ((laws_markDisk.f kj60 t238 t241 t242 t243 1).bind fun bt257 => ((laws_heldDisk.f kj60 bt257.2 t241 t242 t243 1).bind fun t259 => (if t259 < 0 then (some false) else (if t259 = bt257.1 then ((laws_toDisk.f kj60 l0_0 a0_1 a0_2 a0_3).bind fun bt260 => ((impl_CutAfter.f kj60 bt260.1 bt260.2.1 bt260.2.2.1 bt260.2.2.2 a1).bind fun bt266 => ((laws_eqDisk.f kj60 bt266.1 bt266.2.1 bt266.2.2.1 bt266.2.2.2.1 t223 t226 t227 t228).bind fun t274 => (if t274 = true then (laws_FnExactCutAfter.j2 kj60 bt257.1 (bt266.2.2.2.2 != t229) bt257.2 t241 t242 t243) else (laws_FnExactCutAfter.j2 kj60 bt257.1 true bt257.2 t241 t242 t243))))) else (some false))))) = some r := by rw [if_neg (show ¬ (false = true) by decide)] at H; exact H
                  clear H
                  have H := H1
                  clear H1
                  replace H := Option.bind_eq_some_iff.mp H
                  obtain ⟨⟨t257, t258⟩, A910, H⟩ := H
                  replace H : ((laws_heldDisk.f kj60 t258 t241 t242 t243 1).bind fun t259 => (if t259 < 0 then (some false) else (if t259 = t257 then ((laws_toDisk.f kj60 l0_0 a0_1 a0_2 a0_3).bind fun bt260 => ((impl_CutAfter.f kj60 bt260.1 bt260.2.1 bt260.2.2.1 bt260.2.2.2 a1).bind fun bt266 => ((laws_eqDisk.f kj60 bt266.1 bt266.2.1 bt266.2.2.1 bt266.2.2.2.1 t223 t226 t227 t228).bind fun t274 => (if t274 = true then (laws_FnExactCutAfter.j2 kj60 t257 (bt266.2.2.2.2 != t229) t258 t241 t242 t243) else (laws_FnExactCutAfter.j2 kj60 t257 true t258 t241 t242 t243))))) else (some false)))) = some r := H
                  have A91 := Aside0.mk A910
                  clear A910
                  replace H := Option.bind_eq_some_iff.mp H
                  obtain ⟨t259, A920, H⟩ := H
                  replace H : (if t259 < 0 then (some false) else (if t259 = t257 then ((laws_toDisk.f kj60 l0_0 a0_1 a0_2 a0_3).bind fun bt260 => ((impl_CutAfter.f kj60 bt260.1 bt260.2.1 bt260.2.2.1 bt260.2.2.2 a1).bind fun bt266 => ((laws_eqDisk.f kj60 bt266.1 bt266.2.1 bt266.2.2.1 bt266.2.2.2.1 t223 t226 t227 t228).bind fun t274 => (if t274 = true then (laws_FnExactCutAfter.j2 kj60 t257 (bt266.2.2.2.2 != t229) t258 t241 t242 t243) else (laws_FnExactCutAfter.j2 kj60 t257 true t258 t241 t242 t243))))) else (some false))) = some r := H
                  have A92 := Aside0.mk A920
                  clear A920
                  by_cases c93 : t259 < 0
                  · rw [if_pos c93] at H
                    have c93b0 : decide (t259 < 0) = true := decide_eq_true c93
                    clear c93
                    obtain rfl := Option.some.inj H
                    have hnb94 := NB245_215.out
                    have hnc94 := NB215_245.out
                    have hnb95 := NB245_230.out
                    have hnc95 := NB230_245.out
                    have hcz96_0 : wc.cell? ⟨gb245, 0, none⟩ = some (.slice Ao33 t238.length co33) := (blk_cell BK245.out 0).trans rfl
                    have hcz96_1 : wc.cell? ⟨gb245, 1, none⟩ = some (.int .i64 t241) := (blk_cell BK245.out 1).trans rfl
                    have hcz96_2 : wc.cell? ⟨gb245, 2, none⟩ = some (.bool t242) := (blk_cell BK245.out 2).trans rfl
                    have hcz96_3 : wc.cell? ⟨gb245, 3, none⟩ = some (.int .i64 t243) := (blk_cell BK245.out 3).trans rfl
                    have hfz96_0 := blk_frozen BK245.out 0
                    have hfz96_1 := blk_frozen BK245.out 1
                    have hfz96_2 := blk_frozen BK245.out 2
                    have hfz96_3 := blk_frozen BK245.out 3
                    go_wp2_with (first | ((with_reducible refine gate_callee (f := 14) rfl ?_); refine goesL_ (some 68) rfl rfl Try.func14 (by kernel_rfl) rfl #[.agg #[.slice Ao33 t238.length co33, .int .i64 t241, .bool t242, .int .i64 t243], .int .i64 1] rfl (by (try simp only [List.map_toArray, List.map_cons, List.map_nil]); first | done | rfl | (simp only [List.length_drop, List.length_take]; rfl)) ?_; (with_reducible refine (laws_markDisk.calls kj60 (SB_ (Kd.slice 5 (Kd.int .u8)) 35 wc w.heap.size (fun k_ => (some k_ ≠ (.slice Ao21 t223.length co21 : Value).ownBlock ∧ (w26.heap.size ≤ k_ ∧ k_ < w62.heap.size)))) (.slice Ao33 t238.length co33) t238 t241 t242 t243 1 t257 t258 w _ ?side1 ?side2 A91.out).mono ?_); (case side1 => repeat (first | (with_reducible first | exact HB.out | apply below_alloc | apply pw_below_drewN | apply below_drew1 | refine below_set ?_ GE215.out | refine below_set ?_ GE230.out | refine below_set ?_ GE245.out) | exact HB.out)); (case side2 => exact SB_own HO_246000.out); rintro e w97 ⟨rfl, hy0, hb, hkp⟩; refine ⟨_, rfl, ?_⟩; have n0_ := Aside0.mk (Kd.S_mono (ok' := fun k_ => some k_ ≠ (.slice Ao33 t238.length co33 : Value).ownBlock ∧ w17.heap.size ≤ k_ ∧ k_ < w20.heap.size ∧ k_ < w26.heap.size ∧ k_ < w62.heap.size) (Kd.S_keptB ((S_apartSBn (d' := (Kd.slice 5 (Kd.int .u8))) (e' := 35) (base' := w.heap.size) (ok' := (fun k_ => (some k_ ≠ (.slice Ao21 t223.length co21 : Value).ownBlock ∧ (w26.heap.size ≤ k_ ∧ k_ < w62.heap.size)))) HO_231000.out (fun k_ hk h2_ => absurd (hk.2.2.2.1) (Nat.not_lt.2 (h2_.2.1))))) hkp (fun k_ hk_ hs_ => (hk_.2) hs_)) (fun k_ hk_ => ⟨hk_.1.1.1, hk_.1.1.2.1, hk_.1.1.2.2.1, hk_.1.1.2.2.2.1, hk_.1.1.2.2.2.2⟩)); have n1_ := Aside0.mk (Kd.S_mono (ok' := fun k_ => some k_ ≠ (.slice Ao21 t223.length co21 : Value).ownBlock) hy0 (fun k_ h_ => Or.elim h_ (fun p_ => p_.1.1) (fun n_ => (Kd.fresh' (Kd.S_lt (by (with_reducible repeat (first | apply Kd.S_alloc | apply Kd.S_drewN | apply Kd.S_drew)); exact HO_231000.out)) k_ n_)))); have n2_ := Aside0.mk (blk_kept (by (with_reducible repeat (first | refine blk_drewN ?_ _ | refine blk_drew ?_ | refine blk_alloc ?_ _)); exact BK215.out) hkp (fun hs_ => (fun e_ => (blk_SB BK215.out (by decide)) e_) hs_)); have n3_ := Aside0.mk (blk_kept (by (with_reducible repeat (first | refine blk_drewN ?_ _ | refine blk_drew ?_ | refine blk_alloc ?_ _)); exact BK230.out) hkp (fun hs_ => (fun e_ => (blk_SB BK230.out (by decide)) e_) hs_)); have n4_ := Aside0.mk (blk_kept (by (with_reducible repeat (first | refine blk_drewN ?_ _ | refine blk_drew ?_ | refine blk_alloc ?_ _)); exact BK245.out) hkp (fun hs_ => (fun e_ => (blk_SB BK245.out (by decide)) e_) hs_)); have n5_ := Aside0.mk (hb); clear HO_231000; clear HO_246000; clear BK215; clear BK230; clear BK245; clear HB; have HO_231000 := n0_; have HO_246000 := n1_; have BK215 := n2_; have BK230 := n3_; have BK245 := n4_; have HB := n5_; clear n0_ n1_ n2_ n3_ n4_ n5_; (try clear hb); (try clear hkp); (try clear hy0); have hcz98_0 : w97.cell? ⟨gb245, 0, none⟩ = some (.slice Ao33 t238.length co33) := (blk_cell BK245.out 0).trans rfl; have hcz98_1 : w97.cell? ⟨gb245, 1, none⟩ = some (.int .i64 t241) := (blk_cell BK245.out 1).trans rfl; have hcz98_2 : w97.cell? ⟨gb245, 2, none⟩ = some (.bool t242) := (blk_cell BK245.out 2).trans rfl; have hcz98_3 : w97.cell? ⟨gb245, 3, none⟩ = some (.int .i64 t243) := (blk_cell BK245.out 3).trans rfl; have hfz98_0 := blk_frozen BK245.out 0; have hfz98_1 := blk_frozen BK245.out 1; have hfz98_2 := blk_frozen BK245.out 2; have hfz98_3 := blk_frozen BK245.out 3) | ((with_reducible refine gate_callee (f := 15) rfl ?_); refine goesL_ (some 71) rfl rfl Try.func15 (by kernel_rfl) rfl #[.agg #[.slice Ao33 t258.length co33, .int .i64 t241, .bool t242, .int .i64 t243], .int .i64 1] rfl (by (try simp only [List.map_toArray, List.map_cons, List.map_nil]); first | done | (rw [show t258.length = t238.length from (Kd.S_reads' HO_246000.out).1.symm] <;> rfl) | rfl | (simp only [List.length_drop, List.length_take]; rfl)) ?_; (with_reducible refine (laws_heldDisk.calls kj60 _ _ t258 t241 t242 t243 1 t259 _ ?side1 ?side2 A92.out).mono ?_); (case side1 => repeat (first | exact (Kd.S_reads' HO_246000.out).2.2 | (with_reducible refine Kd.C_alloc ?_ _) | (with_reducible refine Kd.C_drewN ?_ _) | (with_reducible refine Kd.C_drew ?_))); (case side2 => rw [show t258.length = t238.length from (Kd.S_reads' HO_246000.out).1.symm]; exact (Kd.S_reads' HO_246000.out).2.1); rintro e w99 ⟨rfl, hb⟩; refine ⟨_, rfl, ?_⟩; have n0_ := Aside0.mk (Kd.S_below (by (with_reducible repeat (first | apply Kd.S_alloc | apply Kd.S_drewN | apply Kd.S_drew)); exact HO_231000.out) hb); have n1_ := Aside0.mk (Kd.S_below (by (with_reducible repeat (first | apply Kd.S_alloc | apply Kd.S_drewN | apply Kd.S_drew)); exact HO_246000.out) hb); have n2_ := Aside0.mk (blk_below (g := gb215) (o := .cells #[.slice A0_0 l0_0.length c0_0, .int .i64 a0_1, .bool a0_2, .int .i64 a0_3] 30 (0, 0)) (by (with_reducible repeat (first | refine blk_drewN ?_ _ | refine blk_drew ?_ | refine blk_alloc ?_ _)); exact BK215.out) hb); have n3_ := Aside0.mk (blk_below (g := gb230) (o := .cells #[.slice Ao21 t223.length co21, .int .i64 t226, .bool t227, .int .i64 t228] 24 (0, 0)) (by (with_reducible repeat (first | refine blk_drewN ?_ _ | refine blk_drew ?_ | refine blk_alloc ?_ _)); exact BK230.out) hb); have n4_ := Aside0.mk (blk_below (g := gb245) (o := .cells #[.slice Ao33 t238.length co33, .int .i64 t241, .bool t242, .int .i64 t243] 24 (0, 0)) (by (with_reducible repeat (first | refine blk_drewN ?_ _ | refine blk_drew ?_ | refine blk_alloc ?_ _)); exact BK245.out) hb); have n5_ := Aside0.mk (below_step (by repeat (first | (with_reducible first | exact HB.out | apply below_alloc | apply pw_below_drewN | apply below_drew1 | refine below_set ?_ GE215.out | refine below_set ?_ GE230.out | refine below_set ?_ GE245.out) | exact HB.out)) hb); clear HO_231000; clear HO_246000; clear BK215; clear BK230; clear BK245; clear HB; have HO_231000 := n0_; have HO_246000 := n1_; have BK215 := n2_; have BK230 := n3_; have BK245 := n4_; have HB := n5_; clear n0_ n1_ n2_ n3_ n4_ n5_; (try clear hb); (try clear hb2); (try clear hk); (try clear hi)))
                    go_ret
                    exact ⟨by first | rfl | (simp [errW_none, errW_some] <;> rfl) | (simp [*, errW_none, errW_some] <;> rfl), by repeat (first | (with_reducible first | exact HB.out | apply below_alloc | apply pw_below_drewN | apply below_drew1 | refine below_set ?_ GE215.out | refine below_set ?_ GE230.out | refine below_set ?_ GE245.out) | exact HB.out)⟩
                  · rw [if_neg c93] at H
                    have c93b0 : decide (t259 < 0) = false := decide_eq_false c93
                    clear c93
                    by_cases c100 : t259 = t257
                    · rw [if_pos c100] at H
                      have c100b0 : (t259 == t257) = true := beq_iff_eq.mpr c100
                      have c100b1 : (t259 != t257) = false := bne_eq_false_iff_eq.mpr c100
                      clear c100
                      replace H := Option.bind_eq_some_iff.mp H
                      obtain ⟨⟨t260, t263, t264, t265⟩, A1010, H⟩ := H
                      replace H : ((impl_CutAfter.f kj60 t260 t263 t264 t265 a1).bind fun bt266 => ((laws_eqDisk.f kj60 bt266.1 bt266.2.1 bt266.2.2.1 bt266.2.2.2.1 t223 t226 t227 t228).bind fun t274 => (if t274 = true then (laws_FnExactCutAfter.j2 kj60 t257 (bt266.2.2.2.2 != t229) t258 t241 t242 t243) else (laws_FnExactCutAfter.j2 kj60 t257 true t258 t241 t242 t243)))) = some r := H
                      have A101 := Aside0.mk A1010
                      clear A1010
                      replace H := Option.bind_eq_some_iff.mp H
                      obtain ⟨⟨t266, t269, t270, t271, t272⟩, A1020, H⟩ := H
                      replace H : ((laws_eqDisk.f kj60 t266 t269 t270 t271 t223 t226 t227 t228).bind fun t274 => (if t274 = true then (laws_FnExactCutAfter.j2 kj60 t257 (t272 != t229) t258 t241 t242 t243) else (laws_FnExactCutAfter.j2 kj60 t257 true t258 t241 t242 t243))) = some r := H
                      have A102 := Aside0.mk A1020
                      clear A1020
                      have HC103 := Aside0.mk H
                      clear H
                      have hnb104 := NB245_215.out
                      have hnc104 := NB215_245.out
                      have hnb105 := NB245_230.out
                      have hnc105 := NB230_245.out
                      have hcz106_0 : wc.cell? ⟨gb245, 0, none⟩ = some (.slice Ao33 t238.length co33) := (blk_cell BK245.out 0).trans rfl
                      have hcz106_1 : wc.cell? ⟨gb245, 1, none⟩ = some (.int .i64 t241) := (blk_cell BK245.out 1).trans rfl
                      have hcz106_2 : wc.cell? ⟨gb245, 2, none⟩ = some (.bool t242) := (blk_cell BK245.out 2).trans rfl
                      have hcz106_3 : wc.cell? ⟨gb245, 3, none⟩ = some (.int .i64 t243) := (blk_cell BK245.out 3).trans rfl
                      have hfz106_0 := blk_frozen BK245.out 0
                      have hfz106_1 := blk_frozen BK245.out 1
                      have hfz106_2 := blk_frozen BK245.out 2
                      have hfz106_3 := blk_frozen BK245.out 3
                      go_upto_region 25 with (first | ((with_reducible refine gate_callee (f := 14) rfl ?_); refine goesL_ (some 68) rfl rfl Try.func14 (by kernel_rfl) rfl #[.agg #[.slice Ao33 t238.length co33, .int .i64 t241, .bool t242, .int .i64 t243], .int .i64 1] rfl (by (try simp only [List.map_toArray, List.map_cons, List.map_nil]); first | done | rfl | (simp only [List.length_drop, List.length_take]; rfl)) ?_; (with_reducible refine (laws_markDisk.calls kj60 (SB_ (Kd.slice 5 (Kd.int .u8)) 35 wc w.heap.size (fun k_ => (some k_ ≠ (.slice Ao21 t223.length co21 : Value).ownBlock ∧ (w26.heap.size ≤ k_ ∧ k_ < w62.heap.size)))) (.slice Ao33 t238.length co33) t238 t241 t242 t243 1 t257 t258 w _ ?side1 ?side2 A91.out).mono ?_); (case side1 => repeat (first | (with_reducible first | exact HB.out | apply below_alloc | apply pw_below_drewN | apply below_drew1 | refine below_set ?_ GE215.out | refine below_set ?_ GE230.out | refine below_set ?_ GE245.out) | exact HB.out)); (case side2 => exact SB_own HO_246000.out); rintro e w107 ⟨rfl, hy0, hb, hkp⟩; refine ⟨_, rfl, ?_⟩; have n0_ := Aside0.mk (Kd.S_mono (ok' := fun k_ => some k_ ≠ (.slice Ao33 t238.length co33 : Value).ownBlock ∧ w17.heap.size ≤ k_ ∧ k_ < w20.heap.size ∧ k_ < w26.heap.size ∧ k_ < w62.heap.size) (Kd.S_keptB ((S_apartSBn (d' := (Kd.slice 5 (Kd.int .u8))) (e' := 35) (base' := w.heap.size) (ok' := (fun k_ => (some k_ ≠ (.slice Ao21 t223.length co21 : Value).ownBlock ∧ (w26.heap.size ≤ k_ ∧ k_ < w62.heap.size)))) HO_231000.out (fun k_ hk h2_ => absurd (hk.2.2.2.1) (Nat.not_lt.2 (h2_.2.1))))) hkp (fun k_ hk_ hs_ => (hk_.2) hs_)) (fun k_ hk_ => ⟨hk_.1.1.1, hk_.1.1.2.1, hk_.1.1.2.2.1, hk_.1.1.2.2.2.1, hk_.1.1.2.2.2.2⟩)); have n1_ := Aside0.mk (Kd.S_mono (ok' := fun k_ => some k_ ≠ (.slice Ao21 t223.length co21 : Value).ownBlock) hy0 (fun k_ h_ => Or.elim h_ (fun p_ => p_.1.1) (fun n_ => (Kd.fresh' (Kd.S_lt (by (with_reducible repeat (first | apply Kd.S_alloc | apply Kd.S_drewN | apply Kd.S_drew)); exact HO_231000.out)) k_ n_)))); have n2_ := Aside0.mk (blk_kept (by (with_reducible repeat (first | refine blk_drewN ?_ _ | refine blk_drew ?_ | refine blk_alloc ?_ _)); exact BK215.out) hkp (fun hs_ => (fun e_ => (blk_SB BK215.out (by decide)) e_) hs_)); have n3_ := Aside0.mk (blk_kept (by (with_reducible repeat (first | refine blk_drewN ?_ _ | refine blk_drew ?_ | refine blk_alloc ?_ _)); exact BK230.out) hkp (fun hs_ => (fun e_ => (blk_SB BK230.out (by decide)) e_) hs_)); have n4_ := Aside0.mk (blk_kept (by (with_reducible repeat (first | refine blk_drewN ?_ _ | refine blk_drew ?_ | refine blk_alloc ?_ _)); exact BK245.out) hkp (fun hs_ => (fun e_ => (blk_SB BK245.out (by decide)) e_) hs_)); have n5_ := Aside0.mk (hb); clear HO_231000; clear HO_246000; clear BK215; clear BK230; clear BK245; clear HB; have HO_231000 := n0_; have HO_246000 := n1_; have BK215 := n2_; have BK230 := n3_; have BK245 := n4_; have HB := n5_; clear n0_ n1_ n2_ n3_ n4_ n5_; (try clear hb); (try clear hkp); (try clear hy0); have hcz108_0 : w107.cell? ⟨gb245, 0, none⟩ = some (.slice Ao33 t238.length co33) := (blk_cell BK245.out 0).trans rfl; have hcz108_1 : w107.cell? ⟨gb245, 1, none⟩ = some (.int .i64 t241) := (blk_cell BK245.out 1).trans rfl; have hcz108_2 : w107.cell? ⟨gb245, 2, none⟩ = some (.bool t242) := (blk_cell BK245.out 2).trans rfl; have hcz108_3 : w107.cell? ⟨gb245, 3, none⟩ = some (.int .i64 t243) := (blk_cell BK245.out 3).trans rfl; have hfz108_0 := blk_frozen BK245.out 0; have hfz108_1 := blk_frozen BK245.out 1; have hfz108_2 := blk_frozen BK245.out 2; have hfz108_3 := blk_frozen BK245.out 3) | ((with_reducible refine gate_callee (f := 15) rfl ?_); refine goesL_ (some 71) rfl rfl Try.func15 (by kernel_rfl) rfl #[.agg #[.slice Ao33 t258.length co33, .int .i64 t241, .bool t242, .int .i64 t243], .int .i64 1] rfl (by (try simp only [List.map_toArray, List.map_cons, List.map_nil]); first | done | (rw [show t258.length = t238.length from (Kd.S_reads' HO_246000.out).1.symm] <;> rfl) | rfl | (simp only [List.length_drop, List.length_take]; rfl)) ?_; (with_reducible refine (laws_heldDisk.calls kj60 _ _ t258 t241 t242 t243 1 t259 _ ?side1 ?side2 A92.out).mono ?_); (case side1 => repeat (first | exact (Kd.S_reads' HO_246000.out).2.2 | (with_reducible refine Kd.C_alloc ?_ _) | (with_reducible refine Kd.C_drewN ?_ _) | (with_reducible refine Kd.C_drew ?_))); (case side2 => rw [show t258.length = t238.length from (Kd.S_reads' HO_246000.out).1.symm]; exact (Kd.S_reads' HO_246000.out).2.1); rintro e w109 ⟨rfl, hb⟩; refine ⟨_, rfl, ?_⟩; have n0_ := Aside0.mk (Kd.S_below (by (with_reducible repeat (first | apply Kd.S_alloc | apply Kd.S_drewN | apply Kd.S_drew)); exact HO_231000.out) hb); have n1_ := Aside0.mk (Kd.S_below (by (with_reducible repeat (first | apply Kd.S_alloc | apply Kd.S_drewN | apply Kd.S_drew)); exact HO_246000.out) hb); have n2_ := Aside0.mk (blk_below (g := gb215) (o := .cells #[.slice A0_0 l0_0.length c0_0, .int .i64 a0_1, .bool a0_2, .int .i64 a0_3] 30 (0, 0)) (by (with_reducible repeat (first | refine blk_drewN ?_ _ | refine blk_drew ?_ | refine blk_alloc ?_ _)); exact BK215.out) hb); have n3_ := Aside0.mk (blk_below (g := gb230) (o := .cells #[.slice Ao21 t223.length co21, .int .i64 t226, .bool t227, .int .i64 t228] 24 (0, 0)) (by (with_reducible repeat (first | refine blk_drewN ?_ _ | refine blk_drew ?_ | refine blk_alloc ?_ _)); exact BK230.out) hb); have n4_ := Aside0.mk (blk_below (g := gb245) (o := .cells #[.slice Ao33 t238.length co33, .int .i64 t241, .bool t242, .int .i64 t243] 24 (0, 0)) (by (with_reducible repeat (first | refine blk_drewN ?_ _ | refine blk_drew ?_ | refine blk_alloc ?_ _)); exact BK245.out) hb); have n5_ := Aside0.mk (below_step (by repeat (first | (with_reducible first | exact HB.out | apply below_alloc | apply pw_below_drewN | apply below_drew1 | refine below_set ?_ GE215.out | refine below_set ?_ GE230.out | refine below_set ?_ GE245.out) | exact HB.out)) hb); clear HO_231000; clear HO_246000; clear BK215; clear BK230; clear BK245; clear HB; have HO_231000 := n0_; have HO_246000 := n1_; have BK215 := n2_; have BK230 := n3_; have BK245 := n4_; have HB := n5_; clear n0_ n1_ n2_ n3_ n4_ n5_; (try clear hb); (try clear hb2); (try clear hk); (try clear hi); have hnb110 := NB215_230.out; have hnc110 := NB230_215.out; have hcz111_0 : w109.cell? ⟨gb215, 0, none⟩ = some (.slice A0_0 l0_0.length c0_0) := (blk_cell BK215.out 0).trans rfl; have hcz111_1 : w109.cell? ⟨gb215, 1, none⟩ = some (.int .i64 a0_1) := (blk_cell BK215.out 1).trans rfl; have hcz111_2 : w109.cell? ⟨gb215, 2, none⟩ = some (.bool a0_2) := (blk_cell BK215.out 2).trans rfl; have hcz111_3 : w109.cell? ⟨gb215, 3, none⟩ = some (.int .i64 a0_3) := (blk_cell BK215.out 3).trans rfl; have hfz111_0 := blk_frozen BK215.out 0; have hfz111_1 := blk_frozen BK215.out 1; have hfz111_2 := blk_frozen BK215.out 2; have hfz111_3 := blk_frozen BK215.out 3) | ((with_reducible refine gate_callee (f := 18) rfl ?_); refine goesL_ (some 79) rfl rfl Try.func18 (by kernel_rfl) rfl #[.agg #[.slice A0_0 l0_0.length c0_0, .int .i64 a0_1, .bool a0_2, .int .i64 a0_3]] rfl (by (try simp only [List.map_toArray, List.map_cons, List.map_nil]); first | done | rfl | (simp only [List.length_drop, List.length_take]; rfl)) ?_; (with_reducible refine (laws_toDisk.calls kj60 _ _ l0_0 a0_1 a0_2 a0_3 t260 t263 t264 t265 _ ?side1 ?side2 A101.out).mono ?_); (case side1 => repeat (first | exact (Kd.C_below HR0_0.out HB.out) | (with_reducible refine Kd.C_alloc ?_ _) | (with_reducible refine Kd.C_drewN ?_ _) | (with_reducible refine Kd.C_drew ?_))); (case side2 => exact HC0_0.out); rintro e w112 ⟨v261, rfl, ho0, hb⟩; refine ⟨_, rfl, ?_⟩; have n0_ := Aside0.mk (Kd.S_told (Kd.S_old (by (with_reducible repeat (first | apply Kd.S_alloc | apply Kd.S_drewN | apply Kd.S_drew)); exact HO_231000.out) hb) (Kd.S_base ho0)); have n1_ := Aside0.mk (Kd.S_told (Kd.S_old (by (with_reducible repeat (first | apply Kd.S_alloc | apply Kd.S_drewN | apply Kd.S_drew)); exact HO_246000.out) hb) (Kd.S_base ho0)); have n2_ := Aside0.mk (Kd.S_lower (Kd.S_new' (Kd.S_new' (Kd.S_mono (Kd.S_bound ho0) (fun k_ h_ => (⟨h_.1, (by first | exact h_.2.1 | simpa only [World.size_setCell] using h_.2.1)⟩ : _ ∧ w109.heap.size ≤ k_))) (Kd.S_lt (by (with_reducible repeat (first | apply Kd.S_alloc | apply Kd.S_drewN | apply Kd.S_drew)); exact HO_231000.out))) (Kd.S_lt (by (with_reducible repeat (first | apply Kd.S_alloc | apply Kd.S_drewN | apply Kd.S_drew)); exact HO_246000.out))) (below_size (by repeat (first | (with_reducible first | exact HB.out | apply below_alloc | apply pw_below_drewN | apply below_drew1 | refine below_set ?_ GE215.out | refine below_set ?_ GE230.out | refine below_set ?_ GE245.out) | exact HB.out)))); have n3_ := Aside0.mk (blk_below (g := gb215) (o := .cells #[.slice A0_0 l0_0.length c0_0, .int .i64 a0_1, .bool a0_2, .int .i64 a0_3] 30 (0, 0)) (by (with_reducible repeat (first | refine blk_drewN ?_ _ | refine blk_drew ?_ | refine blk_alloc ?_ _)); exact BK215.out) hb); have n4_ := Aside0.mk (blk_below (g := gb230) (o := .cells #[.slice Ao21 t223.length co21, .int .i64 t226, .bool t227, .int .i64 t228] 24 (0, 0)) (by (with_reducible repeat (first | refine blk_drewN ?_ _ | refine blk_drew ?_ | refine blk_alloc ?_ _)); exact BK230.out) hb); have n5_ := Aside0.mk (blk_below (g := gb245) (o := .cells #[.slice Ao33 t238.length co33, .int .i64 t241, .bool t242, .int .i64 t243] 24 (0, 0)) (by (with_reducible repeat (first | refine blk_drewN ?_ _ | refine blk_drew ?_ | refine blk_alloc ?_ _)); exact BK245.out) hb); have n6_ := Aside0.mk (below_step (by repeat (first | (with_reducible first | exact HB.out | apply below_alloc | apply pw_below_drewN | apply below_drew1 | refine below_set ?_ GE215.out | refine below_set ?_ GE230.out | refine below_set ?_ GE245.out) | exact HB.out)) hb); clear HO_231000; clear HO_246000; clear BK215; clear BK230; clear BK245; clear HB; have HO_231000 := n0_; have HO_246000 := n1_; have HO262 := n2_; have BK215 := n3_; have BK230 := n4_; have BK245 := n5_; have HB := n6_; clear n0_ n1_ n2_ n3_ n4_ n5_ n6_; (try clear hb); (try clear hb2); (try clear hk); (try clear hi); (try clear ho0); obtain ⟨Ao113, co113, eo113⟩ := Kd.S_slice HO262.out; subst eo113) | ((with_reducible refine gate_callee (f := 29) rfl ?_); refine goesL_ (some 81) rfl rfl Try.func29 (by kernel_rfl) rfl #[.agg #[.slice Ao113 t260.length co113, .int .i64 t263, .bool t264, .int .i64 t265], .int .i64 a1] rfl (by (try simp only [List.map_toArray, List.map_cons, List.map_nil]); first | done | rfl | (simp only [List.length_drop, List.length_take]; rfl)) ?_; (with_reducible refine (impl_CutAfter.calls kj60 _ _ t260 t263 t264 t265 a1 t266 t269 t270 t271 t272 _ ?side1 ?side2 A102.out).mono ?_); (case side1 => repeat (first | exact (Kd.S_reads' HO262.out).2.2 | (with_reducible refine Kd.C_alloc ?_ _) | (with_reducible refine Kd.C_drewN ?_ _) | (with_reducible refine Kd.C_drew ?_))); (case side2 => exact (Kd.S_reads' HO262.out).2.1); rintro e w114 ⟨v267, rfl, ho0, hb⟩; refine ⟨_, rfl, ?_⟩; have n0_ := Aside0.mk (Kd.S_told (Kd.S_old (by (with_reducible repeat (first | apply Kd.S_alloc | apply Kd.S_drewN | apply Kd.S_drew)); exact HO_231000.out) hb) (Kd.S_base ho0)); have n1_ := Aside0.mk (Kd.S_told (Kd.S_old (by (with_reducible repeat (first | apply Kd.S_alloc | apply Kd.S_drewN | apply Kd.S_drew)); exact HO_246000.out) hb) (Kd.S_base ho0)); have n2_ := Aside0.mk (Kd.S_told (Kd.S_old (by (with_reducible repeat (first | apply Kd.S_alloc | apply Kd.S_drewN | apply Kd.S_drew)); exact HO262.out) hb) (Kd.S_base ho0)); have n3_ := Aside0.mk (Kd.S_lower (Kd.S_new' (Kd.S_new' (Kd.S_new' (Kd.S_mono (Kd.S_bound ho0) (fun k_ h_ => (⟨h_.1, (by first | exact h_.2.1 | simpa only [World.size_setCell] using h_.2.1)⟩ : _ ∧ w112.heap.size ≤ k_))) (Kd.S_lt (by (with_reducible repeat (first | apply Kd.S_alloc | apply Kd.S_drewN | apply Kd.S_drew)); exact HO_231000.out))) (Kd.S_lt (by (with_reducible repeat (first | apply Kd.S_alloc | apply Kd.S_drewN | apply Kd.S_drew)); exact HO_246000.out))) (Kd.S_lt (by (with_reducible repeat (first | apply Kd.S_alloc | apply Kd.S_drewN | apply Kd.S_drew)); exact HO262.out))) (below_size (by repeat (first | (with_reducible first | exact HB.out | apply below_alloc | apply pw_below_drewN | apply below_drew1 | refine below_set ?_ GE215.out | refine below_set ?_ GE230.out | refine below_set ?_ GE245.out) | exact HB.out)))); have n4_ := Aside0.mk (blk_below (g := gb215) (o := .cells #[.slice A0_0 l0_0.length c0_0, .int .i64 a0_1, .bool a0_2, .int .i64 a0_3] 30 (0, 0)) (by (with_reducible repeat (first | refine blk_drewN ?_ _ | refine blk_drew ?_ | refine blk_alloc ?_ _)); exact BK215.out) hb); have n5_ := Aside0.mk (blk_below (g := gb230) (o := .cells #[.slice Ao21 t223.length co21, .int .i64 t226, .bool t227, .int .i64 t228] 24 (0, 0)) (by (with_reducible repeat (first | refine blk_drewN ?_ _ | refine blk_drew ?_ | refine blk_alloc ?_ _)); exact BK230.out) hb); have n6_ := Aside0.mk (blk_below (g := gb245) (o := .cells #[.slice Ao33 t238.length co33, .int .i64 t241, .bool t242, .int .i64 t243] 24 (0, 0)) (by (with_reducible repeat (first | refine blk_drewN ?_ _ | refine blk_drew ?_ | refine blk_alloc ?_ _)); exact BK245.out) hb); have n7_ := Aside0.mk (below_step (by repeat (first | (with_reducible first | exact HB.out | apply below_alloc | apply pw_below_drewN | apply below_drew1 | refine below_set ?_ GE215.out | refine below_set ?_ GE230.out | refine below_set ?_ GE245.out) | exact HB.out)) hb); clear HO_231000; clear HO_246000; clear HO262; clear BK215; clear BK230; clear BK245; clear HB; have HO_231000 := n0_; have HO_246000 := n1_; have HO262 := n2_; have HO268 := n3_; have BK215 := n4_; have BK230 := n5_; have BK245 := n6_; have HB := n7_; clear n0_ n1_ n2_ n3_ n4_ n5_ n6_ n7_; (try clear hb); (try clear hb2); (try clear hk); (try clear hi); (try clear ho0)) | ((with_reducible refine gate_dst (N := 14) rfl ?_); refine box_event ?hg (N := 14) ?hd (cs := #[.slice none 0 0, .int .i64 0, .bool false, .int .i64 0]) (t := 24) ?hr ?_; (case hd => rfl); (case hg => rfl); (case hr => first | (go_simp; done) | (go_simp; rfl)); intro gb273 hg w115 hbox hb; have n0_ := Aside0.mk (Kd.S_below (by (with_reducible repeat (first | apply Kd.S_alloc | apply Kd.S_drewN | apply Kd.S_drew)); exact HO_231000.out) hb); have n1_ := Aside0.mk (Kd.S_below (by (with_reducible repeat (first | apply Kd.S_alloc | apply Kd.S_drewN | apply Kd.S_drew)); exact HO_246000.out) hb); have n2_ := Aside0.mk (Kd.S_below (by (with_reducible repeat (first | apply Kd.S_alloc | apply Kd.S_drewN | apply Kd.S_drew)); exact HO262.out) hb); have n3_ := Aside0.mk (Kd.S_below (by (with_reducible repeat (first | apply Kd.S_alloc | apply Kd.S_drewN | apply Kd.S_drew)); exact HO268.out) hb); have n4_ := Aside0.mk (blk_below (g := gb215) (o := .cells #[.slice A0_0 l0_0.length c0_0, .int .i64 a0_1, .bool a0_2, .int .i64 a0_3] 30 (0, 0)) (by (with_reducible repeat (first | refine blk_drewN ?_ _ | refine blk_drew ?_ | refine blk_alloc ?_ _)); exact BK215.out) hb); have n5_ := Aside0.mk (blk_below (g := gb230) (o := .cells #[.slice Ao21 t223.length co21, .int .i64 t226, .bool t227, .int .i64 t228] 24 (0, 0)) (by (with_reducible repeat (first | refine blk_drewN ?_ _ | refine blk_drew ?_ | refine blk_alloc ?_ _)); exact BK230.out) hb); have n6_ := Aside0.mk (blk_below (g := gb245) (o := .cells #[.slice Ao33 t238.length co33, .int .i64 t241, .bool t242, .int .i64 t243] 24 (0, 0)) (by (with_reducible repeat (first | refine blk_drewN ?_ _ | refine blk_drew ?_ | refine blk_alloc ?_ _)); exact BK245.out) hb); have n7_ := Aside0.mk (below_step (by repeat (first | (with_reducible first | exact HB.out | apply below_alloc | apply pw_below_drewN | apply below_drew1 | refine below_set ?_ GE215.out | refine below_set ?_ GE230.out | refine below_set ?_ GE245.out) | exact HB.out)) hb); have n8_ := Aside0.mk (hbox); have n9_ := Aside0.mk ((by rw [hg]; exact (below_size (by repeat (first | (with_reducible first | exact HB.out | apply below_alloc | apply pw_below_drewN | apply below_drew1 | refine below_set ?_ GE215.out | refine below_set ?_ GE230.out | refine below_set ?_ GE245.out) | exact HB.out))) : w.heap.size ≤ gb273)); have n10_ := Aside0.mk ((by rw [hg]; exact (below_size (by repeat (first | (with_reducible first | exact HB.out | apply below_alloc | apply pw_below_drewN | apply below_drew1 | refine below_set ?_ GE215.out | refine below_set ?_ GE230.out | refine below_set ?_ GE245.out) | exact HB.out))) : w.heap.size ≤ gb273)); have n11_ := Aside0.mk ((by rw [hg]; exact Nat.ne_of_lt (blk_lt (g := gb215) (o := .cells #[.slice A0_0 l0_0.length c0_0, .int .i64 a0_1, .bool a0_2, .int .i64 a0_3] 30 (0, 0)) (by (with_reducible repeat (first | refine blk_drewN ?_ _ | refine blk_drew ?_ | refine blk_alloc ?_ _)); exact BK215.out)) : gb215 ≠ gb273)); have n12_ := Aside0.mk ((by rw [hg]; exact Nat.ne_of_gt (blk_lt (g := gb215) (o := .cells #[.slice A0_0 l0_0.length c0_0, .int .i64 a0_1, .bool a0_2, .int .i64 a0_3] 30 (0, 0)) (by (with_reducible repeat (first | refine blk_drewN ?_ _ | refine blk_drew ?_ | refine blk_alloc ?_ _)); exact BK215.out)) : gb273 ≠ gb215)); have n13_ := Aside0.mk ((by rw [hg]; exact Nat.ne_of_lt (blk_lt (g := gb230) (o := .cells #[.slice Ao21 t223.length co21, .int .i64 t226, .bool t227, .int .i64 t228] 24 (0, 0)) (by (with_reducible repeat (first | refine blk_drewN ?_ _ | refine blk_drew ?_ | refine blk_alloc ?_ _)); exact BK230.out)) : gb230 ≠ gb273)); have n14_ := Aside0.mk ((by rw [hg]; exact Nat.ne_of_gt (blk_lt (g := gb230) (o := .cells #[.slice Ao21 t223.length co21, .int .i64 t226, .bool t227, .int .i64 t228] 24 (0, 0)) (by (with_reducible repeat (first | refine blk_drewN ?_ _ | refine blk_drew ?_ | refine blk_alloc ?_ _)); exact BK230.out)) : gb273 ≠ gb230)); have n15_ := Aside0.mk ((by rw [hg]; exact Nat.ne_of_lt (blk_lt (g := gb245) (o := .cells #[.slice Ao33 t238.length co33, .int .i64 t241, .bool t242, .int .i64 t243] 24 (0, 0)) (by (with_reducible repeat (first | refine blk_drewN ?_ _ | refine blk_drew ?_ | refine blk_alloc ?_ _)); exact BK245.out)) : gb245 ≠ gb273)); have n16_ := Aside0.mk ((by rw [hg]; exact Nat.ne_of_gt (blk_lt (g := gb245) (o := .cells #[.slice Ao33 t238.length co33, .int .i64 t241, .bool t242, .int .i64 t243] 24 (0, 0)) (by (with_reducible repeat (first | refine blk_drewN ?_ _ | refine blk_drew ?_ | refine blk_alloc ?_ _)); exact BK245.out)) : gb273 ≠ gb245)); clear HO_231000; clear HO_246000; clear HO262; clear HO268; clear BK215; clear BK230; clear BK245; clear HB; have HO_231000 := n0_; have HO_246000 := n1_; have HO262 := n2_; have HO268 := n3_; have BK215 := n4_; have BK230 := n5_; have BK245 := n6_; have HB := n7_; have BK273 := n8_; have GW273 := n9_; have GE273 := n10_; have NB215_273 := n11_; have NB273_215 := n12_; have NB230_273 := n13_; have NB273_230 := n14_; have NB245_273 := n15_; have NB273_245 := n16_; clear n0_ n1_ n2_ n3_ n4_ n5_ n6_ n7_ n8_ n9_ n10_ n11_ n12_ n13_ n14_ n15_ n16_; clear hb hbox hg; obtain ⟨Ao116, co116, eo116⟩ := Kd.S_slice HO268.out; subst eo116; have hnb117 := NB273_215.out; have hnc117 := NB215_273.out; have hnb118 := NB273_230.out; have hnc118 := NB230_273.out; have hnb119 := NB273_245.out; have hnc119 := NB245_273.out; have hcz120_0 : w115.cell? ⟨gb273, 0, none⟩ = some (.slice none 0 0) := (blk_cell BK273.out 0).trans rfl; have hcz120_1 : w115.cell? ⟨gb273, 1, none⟩ = some (.int .i64 0) := (blk_cell BK273.out 1).trans rfl; have hcz120_2 : w115.cell? ⟨gb273, 2, none⟩ = some (.bool false) := (blk_cell BK273.out 2).trans rfl; have hcz120_3 : w115.cell? ⟨gb273, 3, none⟩ = some (.int .i64 0) := (blk_cell BK273.out 3).trans rfl; have hfz120_0 := blk_frozen BK273.out 0; have hfz120_1 := blk_frozen BK273.out 1; have hfz120_2 := blk_frozen BK273.out 2; have hfz120_3 := blk_frozen BK273.out 3))
                      (try simp only [Act.put, List.setIfInBounds_toArray, List.set_cons_zero, List.set_cons_succ])
                      go_cut [92] (fun v92 wc => ∃ (kq : Nat) (x92_102 : Bool), v92 = .bool x92_102 ∧ Aside0 (laws_FnExactCutAfter.j2 kq t257 x92_102 t258 t241 t242 t243 = some r) ∧ Aside0 (kq ≤ kj60) ∧ Aside0 (Kd.S (Kd.slice 5 (Kd.int .u8)) 35 wc w.heap.size (fun k_ => some k_ ≠ ((.slice Ao33 t238.length co33) : Value).ownBlock ∧ some k_ ≠ ((.slice Ao116 t266.length co116) : Value).ownBlock ∧ w17.heap.size ≤ k_ ∧ k_ < w20.heap.size ∧ k_ < w26.heap.size ∧ k_ < w62.heap.size ∧ k_ < w109.heap.size ∧ k_ < w112.heap.size) (.slice Ao21 t223.length co21) t223) ∧ Aside0 (Kd.S (Kd.slice 5 (Kd.int .u8)) 35 wc w.heap.size (fun k_ => some k_ ≠ ((.slice Ao21 t223.length co21) : Value).ownBlock ∧ some k_ ≠ ((.slice Ao116 t266.length co116) : Value).ownBlock ∧ k_ < w109.heap.size ∧ k_ < w112.heap.size) (.slice Ao33 t238.length co33) t258) ∧ Aside0 (Kd.S (Kd.slice 5 (Kd.int .u8)) 35 wc w.heap.size (fun k_ => some k_ ≠ ((.slice Ao21 t223.length co21) : Value).ownBlock ∧ some k_ ≠ ((.slice Ao33 t238.length co33) : Value).ownBlock ∧ w112.heap.size ≤ k_) (.slice Ao116 t266.length co116) t266) ∧ Aside0 (wc.heap[gb215]? = some (.cells #[(.slice A0_0 l0_0.length c0_0), .int .i64 a0_1, .bool a0_2, .int .i64 a0_3] 30 (0, 0))) ∧ Aside0 (wc.heap[gb230]? = some (.cells #[(.slice Ao21 t223.length co21), .int .i64 t226, .bool t227, .int .i64 t228] 24 (0, 0))) ∧ Aside0 (wc.heap[gb245]? = some (.cells #[(.slice Ao33 t238.length co33), .int .i64 t241, .bool t242, .int .i64 t243] 24 (0, 0))) ∧ Aside0 (wc.heap[gb273]? = some (.cells #[(.slice Ao116 t266.length co116), .int .i64 t269, .bool t270, .int .i64 t271] 24 (0, 0))) ∧ Aside0 (Below w.heap.size w wc))
                      case first =>
                        have H := HC103.out
                        clear HC103
                        replace H := Option.bind_eq_some_iff.mp H
                        obtain ⟨t274, A1210, H⟩ := H
                        replace H : (if t274 = true then (laws_FnExactCutAfter.j2 kj60 t257 (t272 != t229) t258 t241 t242 t243) else (laws_FnExactCutAfter.j2 kj60 t257 true t258 t241 t242 t243)) = some r := H
                        have A121 := Aside0.mk A1210
                        clear A1210
                        by_cases c122 : t274 = true
                        · subst c122
                          have H1 : (laws_FnExactCutAfter.j2 kj60 t257 (t272 != t229) t258 t241 t242 t243) = some r := by rw [if_pos rfl] at H; exact H
                          clear H
                          have H := H1
                          clear H1
                          have H' := Aside0.mk H
                          clear H
                          have hnb123 := NB273_215.out
                          have hnc123 := NB215_273.out
                          have hnb124 := NB273_230.out
                          have hnc124 := NB230_273.out
                          have hnb125 := NB273_245.out
                          have hnc125 := NB245_273.out
                          have hcz126_0 : w115.cell? ⟨gb273, 0, none⟩ = some (.slice none 0 0) := (blk_cell BK273.out 0).trans rfl
                          have hcz126_1 : w115.cell? ⟨gb273, 1, none⟩ = some (.int .i64 0) := (blk_cell BK273.out 1).trans rfl
                          have hcz126_2 : w115.cell? ⟨gb273, 2, none⟩ = some (.bool false) := (blk_cell BK273.out 2).trans rfl
                          have hcz126_3 : w115.cell? ⟨gb273, 3, none⟩ = some (.int .i64 0) := (blk_cell BK273.out 3).trans rfl
                          have hfz126_0 := blk_frozen BK273.out 0
                          have hfz126_1 := blk_frozen BK273.out 1
                          have hfz126_2 := blk_frozen BK273.out 2
                          have hfz126_3 := blk_frozen BK273.out 3
                          have hnb127 := NB230_215.out
                          have hnc127 := NB215_230.out
                          have hnb128 := NB230_245.out
                          have hnc128 := NB245_230.out
                          have hcz129_0 : w115.cell? ⟨gb230, 0, none⟩ = some (.slice Ao21 t223.length co21) := (blk_cell BK230.out 0).trans rfl
                          have hcz129_1 : w115.cell? ⟨gb230, 1, none⟩ = some (.int .i64 t226) := (blk_cell BK230.out 1).trans rfl
                          have hcz129_2 : w115.cell? ⟨gb230, 2, none⟩ = some (.bool t227) := (blk_cell BK230.out 2).trans rfl
                          have hcz129_3 : w115.cell? ⟨gb230, 3, none⟩ = some (.int .i64 t228) := (blk_cell BK230.out 3).trans rfl
                          have hfz129_0 := blk_frozen BK230.out 0
                          have hfz129_1 := blk_frozen BK230.out 1
                          have hfz129_2 := blk_frozen BK230.out 2
                          have hfz129_3 := blk_frozen BK230.out 3
                          go_wp2_with (first | ((with_reducible refine gate_callee (f := 13) rfl ?_); refine goesL_ (some 86) rfl rfl Try.func13 (by kernel_rfl) rfl #[.agg #[.slice Ao116 t266.length co116, .int .i64 t269, .bool t270, .int .i64 t271], .agg #[.slice Ao21 t223.length co21, .int .i64 t226, .bool t227, .int .i64 t228]] rfl (by (try simp only [List.map_toArray, List.map_cons, List.map_nil]); first | done | rfl | (simp only [List.length_drop, List.length_take]; rfl)) ?_; (with_reducible refine (laws_eqDisk.calls kj60 _ _ t266 t269 t270 t271 _ _ t223 t226 t227 t228 true _ ?side1 ?side2 ?side3 ?side4 A121.out).mono ?_); (case side1 => refine (Kd.S_reads' (e := 35) (base := w.heap.size) (ok := fun k_ => ((((True ∧ w112.heap.size ≤ k_) ∧ some k_ ≠ (.slice Ao21 t223.length co21 : Value).ownBlock) ∧ some k_ ≠ (.slice Ao33 t238.length co33 : Value).ownBlock) ∧ some k_ ≠ (.slice Ao113 t260.length co113 : Value).ownBlock)) (n := t266.length) (c := co116) ?_).2.2; exact (by (with_reducible repeat (first | apply Kd.S_alloc | apply Kd.S_drewN | apply Kd.S_drew)); exact (Kd.S_mono (Kd.S_far (p := ⟨gb273, 3, none⟩) (Kd.S_far (p := ⟨gb273, 2, none⟩) (Kd.S_far (p := ⟨gb273, 1, none⟩) (Kd.S_far (p := ⟨gb273, 0, none⟩) (Kd.S_types HO268.out BK273.out (by decide)) (fun _ hk => hk.2) (.slice Ao116 t266.length co116)) (fun _ hk => hk.2) (.int .i64 t269)) (fun _ hk => hk.2) (.bool t270)) (fun _ hk => hk.2) (.int .i64 t271)) (fun _ h_ => h_.1)))); (case side2 => exact (Kd.S_reads' HO268.out).2.1); (case side3 => refine (Kd.S_reads' (e := 35) (base := w.heap.size) (ok := fun k_ => (((((some k_ ≠ (.slice Ao33 t238.length co33 : Value).ownBlock ∧ (w17.heap.size ≤ k_ ∧ (k_ < w20.heap.size ∧ (k_ < w26.heap.size ∧ k_ < w62.heap.size)))) ∧ some k_ ≠ (.slice Ao113 t260.length co113 : Value).ownBlock) ∧ k_ < w109.heap.size) ∧ some k_ ≠ (.slice Ao116 t266.length co116 : Value).ownBlock) ∧ k_ < w112.heap.size)) (n := t223.length) (c := co21) ?_).2.2; exact (by (with_reducible repeat (first | apply Kd.S_alloc | apply Kd.S_drewN | apply Kd.S_drew)); exact (Kd.S_mono (Kd.S_far (p := ⟨gb273, 3, none⟩) (Kd.S_far (p := ⟨gb273, 2, none⟩) (Kd.S_far (p := ⟨gb273, 1, none⟩) (Kd.S_far (p := ⟨gb273, 0, none⟩) (Kd.S_types HO_231000.out BK273.out (by decide)) (fun _ hk => hk.2) (.slice Ao116 t266.length co116)) (fun _ hk => hk.2) (.int .i64 t269)) (fun _ hk => hk.2) (.bool t270)) (fun _ hk => hk.2) (.int .i64 t271)) (fun _ h_ => h_.1)))); (case side4 => exact (Kd.S_reads' HO_231000.out).2.1); rintro e w130 ⟨rfl, hb⟩; refine ⟨_, rfl, ?_⟩; have n0_ := Aside0.mk (Kd.S_below (by (with_reducible repeat (first | apply Kd.S_alloc | apply Kd.S_drewN | apply Kd.S_drew)); exact (Kd.S_mono (Kd.S_far (p := ⟨gb273, 3, none⟩) (Kd.S_far (p := ⟨gb273, 2, none⟩) (Kd.S_far (p := ⟨gb273, 1, none⟩) (Kd.S_far (p := ⟨gb273, 0, none⟩) (Kd.S_types HO_231000.out BK273.out (by decide)) (fun _ hk => hk.2) (.slice Ao116 t266.length co116)) (fun _ hk => hk.2) (.int .i64 t269)) (fun _ hk => hk.2) (.bool t270)) (fun _ hk => hk.2) (.int .i64 t271)) (fun _ h_ => h_.1))) hb); have n1_ := Aside0.mk (Kd.S_below (by (with_reducible repeat (first | apply Kd.S_alloc | apply Kd.S_drewN | apply Kd.S_drew)); exact (Kd.S_mono (Kd.S_far (p := ⟨gb273, 3, none⟩) (Kd.S_far (p := ⟨gb273, 2, none⟩) (Kd.S_far (p := ⟨gb273, 1, none⟩) (Kd.S_far (p := ⟨gb273, 0, none⟩) (Kd.S_types HO_246000.out BK273.out (by decide)) (fun _ hk => hk.2) (.slice Ao116 t266.length co116)) (fun _ hk => hk.2) (.int .i64 t269)) (fun _ hk => hk.2) (.bool t270)) (fun _ hk => hk.2) (.int .i64 t271)) (fun _ h_ => h_.1))) hb); have n2_ := Aside0.mk (Kd.S_below (by (with_reducible repeat (first | apply Kd.S_alloc | apply Kd.S_drewN | apply Kd.S_drew)); exact (Kd.S_mono (Kd.S_far (p := ⟨gb273, 3, none⟩) (Kd.S_far (p := ⟨gb273, 2, none⟩) (Kd.S_far (p := ⟨gb273, 1, none⟩) (Kd.S_far (p := ⟨gb273, 0, none⟩) (Kd.S_types HO262.out BK273.out (by decide)) (fun _ hk => hk.2) (.slice Ao116 t266.length co116)) (fun _ hk => hk.2) (.int .i64 t269)) (fun _ hk => hk.2) (.bool t270)) (fun _ hk => hk.2) (.int .i64 t271)) (fun _ h_ => h_.1))) hb); have n3_ := Aside0.mk (Kd.S_below (by (with_reducible repeat (first | apply Kd.S_alloc | apply Kd.S_drewN | apply Kd.S_drew)); exact (Kd.S_mono (Kd.S_far (p := ⟨gb273, 3, none⟩) (Kd.S_far (p := ⟨gb273, 2, none⟩) (Kd.S_far (p := ⟨gb273, 1, none⟩) (Kd.S_far (p := ⟨gb273, 0, none⟩) (Kd.S_types HO268.out BK273.out (by decide)) (fun _ hk => hk.2) (.slice Ao116 t266.length co116)) (fun _ hk => hk.2) (.int .i64 t269)) (fun _ hk => hk.2) (.bool t270)) (fun _ hk => hk.2) (.int .i64 t271)) (fun _ h_ => h_.1))) hb); have n4_ := Aside0.mk (blk_below (g := gb215) (o := .cells #[.slice A0_0 l0_0.length c0_0, .int .i64 a0_1, .bool a0_2, .int .i64 a0_3] 30 (0, 0)) (by (with_reducible repeat (first | refine blk_drewN ?_ _ | refine blk_drew ?_ | refine blk_alloc ?_ _)); refine blk_far ?_ NB215_273.out _; (with_reducible repeat (first | refine blk_drewN ?_ _ | refine blk_drew ?_ | refine blk_alloc ?_ _)); refine blk_far ?_ NB215_273.out _; (with_reducible repeat (first | refine blk_drewN ?_ _ | refine blk_drew ?_ | refine blk_alloc ?_ _)); refine blk_far ?_ NB215_273.out _; (with_reducible repeat (first | refine blk_drewN ?_ _ | refine blk_drew ?_ | refine blk_alloc ?_ _)); refine blk_far ?_ NB215_273.out _; (with_reducible repeat (first | refine blk_drewN ?_ _ | refine blk_drew ?_ | refine blk_alloc ?_ _)); exact BK215.out) hb); have n5_ := Aside0.mk (blk_below (g := gb230) (o := .cells #[.slice Ao21 t223.length co21, .int .i64 t226, .bool t227, .int .i64 t228] 24 (0, 0)) (by (with_reducible repeat (first | refine blk_drewN ?_ _ | refine blk_drew ?_ | refine blk_alloc ?_ _)); refine blk_far ?_ NB230_273.out _; (with_reducible repeat (first | refine blk_drewN ?_ _ | refine blk_drew ?_ | refine blk_alloc ?_ _)); refine blk_far ?_ NB230_273.out _; (with_reducible repeat (first | refine blk_drewN ?_ _ | refine blk_drew ?_ | refine blk_alloc ?_ _)); refine blk_far ?_ NB230_273.out _; (with_reducible repeat (first | refine blk_drewN ?_ _ | refine blk_drew ?_ | refine blk_alloc ?_ _)); refine blk_far ?_ NB230_273.out _; (with_reducible repeat (first | refine blk_drewN ?_ _ | refine blk_drew ?_ | refine blk_alloc ?_ _)); exact BK230.out) hb); have n6_ := Aside0.mk (blk_below (g := gb245) (o := .cells #[.slice Ao33 t238.length co33, .int .i64 t241, .bool t242, .int .i64 t243] 24 (0, 0)) (by (with_reducible repeat (first | refine blk_drewN ?_ _ | refine blk_drew ?_ | refine blk_alloc ?_ _)); refine blk_far ?_ NB245_273.out _; (with_reducible repeat (first | refine blk_drewN ?_ _ | refine blk_drew ?_ | refine blk_alloc ?_ _)); refine blk_far ?_ NB245_273.out _; (with_reducible repeat (first | refine blk_drewN ?_ _ | refine blk_drew ?_ | refine blk_alloc ?_ _)); refine blk_far ?_ NB245_273.out _; (with_reducible repeat (first | refine blk_drewN ?_ _ | refine blk_drew ?_ | refine blk_alloc ?_ _)); refine blk_far ?_ NB245_273.out _; (with_reducible repeat (first | refine blk_drewN ?_ _ | refine blk_drew ?_ | refine blk_alloc ?_ _)); exact BK245.out) hb); have n7_ := Aside0.mk (blk_below (g := gb273) (o := .cells #[.slice Ao116 t266.length co116, .int .i64 t269, .bool t270, .int .i64 t271] 24 (0, 0)) (by (with_reducible repeat (first | refine blk_drewN ?_ _ | refine blk_drew ?_ | refine blk_alloc ?_ _)); refine blk_put (cs := #[.slice Ao116 t266.length co116, .int .i64 t269, .bool t270, .int .i64 0]) ?_ 3 _ rfl; (with_reducible repeat (first | refine blk_drewN ?_ _ | refine blk_drew ?_ | refine blk_alloc ?_ _)); refine blk_put (cs := #[.slice Ao116 t266.length co116, .int .i64 t269, .bool false, .int .i64 0]) ?_ 2 _ rfl; (with_reducible repeat (first | refine blk_drewN ?_ _ | refine blk_drew ?_ | refine blk_alloc ?_ _)); refine blk_put (cs := #[.slice Ao116 t266.length co116, .int .i64 0, .bool false, .int .i64 0]) ?_ 1 _ rfl; (with_reducible repeat (first | refine blk_drewN ?_ _ | refine blk_drew ?_ | refine blk_alloc ?_ _)); refine blk_put (cs := #[.slice none 0 0, .int .i64 0, .bool false, .int .i64 0]) ?_ 0 _ rfl; (with_reducible repeat (first | refine blk_drewN ?_ _ | refine blk_drew ?_ | refine blk_alloc ?_ _)); exact BK273.out) hb); have n8_ := Aside0.mk (below_step (by repeat (first | (with_reducible first | exact HB.out | apply below_alloc | apply pw_below_drewN | apply below_drew1 | refine below_set ?_ GE215.out | refine below_set ?_ GE230.out | refine below_set ?_ GE245.out | refine below_set ?_ GE273.out) | exact HB.out)) hb); clear HO_231000; clear HO_246000; clear HO262; clear HO268; clear BK215; clear BK230; clear BK245; clear BK273; clear HB; have HO_231000 := n0_; have HO_246000 := n1_; have HO262 := n2_; have HO268 := n3_; have BK215 := n4_; have BK230 := n5_; have BK245 := n6_; have BK273 := n7_; have HB := n8_; clear n0_ n1_ n2_ n3_ n4_ n5_ n6_ n7_ n8_; (try clear hb); (try clear hb2); (try clear hk); (try clear hi)))
                          go_meet
                          case rel => exact ⟨_, ((t272 != t229)), (by first | rfl | (simp; done) | (simp [*]; done)), H', ⟨by have := HJ11.out; have := HJ60.out; first | omega | exact Nat.le_refl _⟩, ⟨by (with_reducible repeat (first | apply Kd.S_alloc | apply Kd.S_drewN | apply Kd.S_drew)); exact Kd.S_mono HO_231000.out (fun _ hk => ⟨hk.1.1.1.1.1, ⟨hk.1.2, ⟨hk.1.1.1.1.2.1, ⟨hk.1.1.1.1.2.2.1, ⟨hk.1.1.1.1.2.2.2.1, ⟨hk.1.1.1.1.2.2.2.2, ⟨hk.1.1.2, hk.2⟩⟩⟩⟩⟩⟩⟩)⟩, ⟨by (with_reducible repeat (first | apply Kd.S_alloc | apply Kd.S_drewN | apply Kd.S_drew)); exact Kd.S_mono HO_246000.out (fun _ hk => ⟨hk.1.1.1.1, ⟨hk.1.2, ⟨hk.1.1.2, hk.2⟩⟩⟩)⟩, ⟨by (with_reducible repeat (first | apply Kd.S_alloc | apply Kd.S_drewN | apply Kd.S_drew)); exact Kd.S_mono HO268.out (fun _ hk => ⟨hk.1.1.2, ⟨hk.1.2, hk.1.1.1.2⟩⟩)⟩, ⟨by (with_reducible repeat (first | refine blk_drewN ?_ _ | refine blk_drew ?_ | refine blk_alloc ?_ _)); exact BK215.out⟩, ⟨by (with_reducible repeat (first | refine blk_drewN ?_ _ | refine blk_drew ?_ | refine blk_alloc ?_ _)); exact BK230.out⟩, ⟨by (with_reducible repeat (first | refine blk_drewN ?_ _ | refine blk_drew ?_ | refine blk_alloc ?_ _)); exact BK245.out⟩, ⟨by (with_reducible repeat (first | refine blk_drewN ?_ _ | refine blk_drew ?_ | refine blk_alloc ?_ _)); exact BK273.out⟩, ⟨by repeat (first | (with_reducible first | exact HB.out | apply below_alloc | apply pw_below_drewN | apply below_drew1 | refine below_set ?_ GE215.out | refine below_set ?_ GE230.out | refine below_set ?_ GE245.out | refine below_set ?_ GE273.out) | exact HB.out)⟩⟩
                        · replace c122 := Bool.eq_false_iff.mpr c122
                          subst c122
                          have H1 : (laws_FnExactCutAfter.j2 kj60 t257 true t258 t241 t242 t243) = some r := by rw [if_neg (show ¬ (false = true) by decide)] at H; exact H
                          clear H
                          have H := H1
                          clear H1
                          have H' := Aside0.mk H
                          clear H
                          have hnb131 := NB273_215.out
                          have hnc131 := NB215_273.out
                          have hnb132 := NB273_230.out
                          have hnc132 := NB230_273.out
                          have hnb133 := NB273_245.out
                          have hnc133 := NB245_273.out
                          have hcz134_0 : w115.cell? ⟨gb273, 0, none⟩ = some (.slice none 0 0) := (blk_cell BK273.out 0).trans rfl
                          have hcz134_1 : w115.cell? ⟨gb273, 1, none⟩ = some (.int .i64 0) := (blk_cell BK273.out 1).trans rfl
                          have hcz134_2 : w115.cell? ⟨gb273, 2, none⟩ = some (.bool false) := (blk_cell BK273.out 2).trans rfl
                          have hcz134_3 : w115.cell? ⟨gb273, 3, none⟩ = some (.int .i64 0) := (blk_cell BK273.out 3).trans rfl
                          have hfz134_0 := blk_frozen BK273.out 0
                          have hfz134_1 := blk_frozen BK273.out 1
                          have hfz134_2 := blk_frozen BK273.out 2
                          have hfz134_3 := blk_frozen BK273.out 3
                          have hnb135 := NB230_215.out
                          have hnc135 := NB215_230.out
                          have hnb136 := NB230_245.out
                          have hnc136 := NB245_230.out
                          have hcz137_0 : w115.cell? ⟨gb230, 0, none⟩ = some (.slice Ao21 t223.length co21) := (blk_cell BK230.out 0).trans rfl
                          have hcz137_1 : w115.cell? ⟨gb230, 1, none⟩ = some (.int .i64 t226) := (blk_cell BK230.out 1).trans rfl
                          have hcz137_2 : w115.cell? ⟨gb230, 2, none⟩ = some (.bool t227) := (blk_cell BK230.out 2).trans rfl
                          have hcz137_3 : w115.cell? ⟨gb230, 3, none⟩ = some (.int .i64 t228) := (blk_cell BK230.out 3).trans rfl
                          have hfz137_0 := blk_frozen BK230.out 0
                          have hfz137_1 := blk_frozen BK230.out 1
                          have hfz137_2 := blk_frozen BK230.out 2
                          have hfz137_3 := blk_frozen BK230.out 3
                          go_wp2_with (first | ((with_reducible refine gate_callee (f := 13) rfl ?_); refine goesL_ (some 86) rfl rfl Try.func13 (by kernel_rfl) rfl #[.agg #[.slice Ao116 t266.length co116, .int .i64 t269, .bool t270, .int .i64 t271], .agg #[.slice Ao21 t223.length co21, .int .i64 t226, .bool t227, .int .i64 t228]] rfl (by (try simp only [List.map_toArray, List.map_cons, List.map_nil]); first | done | rfl | (simp only [List.length_drop, List.length_take]; rfl)) ?_; (with_reducible refine (laws_eqDisk.calls kj60 _ _ t266 t269 t270 t271 _ _ t223 t226 t227 t228 false _ ?side1 ?side2 ?side3 ?side4 A121.out).mono ?_); (case side1 => refine (Kd.S_reads' (e := 35) (base := w.heap.size) (ok := fun k_ => ((((True ∧ w112.heap.size ≤ k_) ∧ some k_ ≠ (.slice Ao21 t223.length co21 : Value).ownBlock) ∧ some k_ ≠ (.slice Ao33 t238.length co33 : Value).ownBlock) ∧ some k_ ≠ (.slice Ao113 t260.length co113 : Value).ownBlock)) (n := t266.length) (c := co116) ?_).2.2; exact (by (with_reducible repeat (first | apply Kd.S_alloc | apply Kd.S_drewN | apply Kd.S_drew)); exact (Kd.S_mono (Kd.S_far (p := ⟨gb273, 3, none⟩) (Kd.S_far (p := ⟨gb273, 2, none⟩) (Kd.S_far (p := ⟨gb273, 1, none⟩) (Kd.S_far (p := ⟨gb273, 0, none⟩) (Kd.S_types HO268.out BK273.out (by decide)) (fun _ hk => hk.2) (.slice Ao116 t266.length co116)) (fun _ hk => hk.2) (.int .i64 t269)) (fun _ hk => hk.2) (.bool t270)) (fun _ hk => hk.2) (.int .i64 t271)) (fun _ h_ => h_.1)))); (case side2 => exact (Kd.S_reads' HO268.out).2.1); (case side3 => refine (Kd.S_reads' (e := 35) (base := w.heap.size) (ok := fun k_ => (((((some k_ ≠ (.slice Ao33 t238.length co33 : Value).ownBlock ∧ (w17.heap.size ≤ k_ ∧ (k_ < w20.heap.size ∧ (k_ < w26.heap.size ∧ k_ < w62.heap.size)))) ∧ some k_ ≠ (.slice Ao113 t260.length co113 : Value).ownBlock) ∧ k_ < w109.heap.size) ∧ some k_ ≠ (.slice Ao116 t266.length co116 : Value).ownBlock) ∧ k_ < w112.heap.size)) (n := t223.length) (c := co21) ?_).2.2; exact (by (with_reducible repeat (first | apply Kd.S_alloc | apply Kd.S_drewN | apply Kd.S_drew)); exact (Kd.S_mono (Kd.S_far (p := ⟨gb273, 3, none⟩) (Kd.S_far (p := ⟨gb273, 2, none⟩) (Kd.S_far (p := ⟨gb273, 1, none⟩) (Kd.S_far (p := ⟨gb273, 0, none⟩) (Kd.S_types HO_231000.out BK273.out (by decide)) (fun _ hk => hk.2) (.slice Ao116 t266.length co116)) (fun _ hk => hk.2) (.int .i64 t269)) (fun _ hk => hk.2) (.bool t270)) (fun _ hk => hk.2) (.int .i64 t271)) (fun _ h_ => h_.1)))); (case side4 => exact (Kd.S_reads' HO_231000.out).2.1); rintro e w138 ⟨rfl, hb⟩; refine ⟨_, rfl, ?_⟩; have n0_ := Aside0.mk (Kd.S_below (by (with_reducible repeat (first | apply Kd.S_alloc | apply Kd.S_drewN | apply Kd.S_drew)); exact (Kd.S_mono (Kd.S_far (p := ⟨gb273, 3, none⟩) (Kd.S_far (p := ⟨gb273, 2, none⟩) (Kd.S_far (p := ⟨gb273, 1, none⟩) (Kd.S_far (p := ⟨gb273, 0, none⟩) (Kd.S_types HO_231000.out BK273.out (by decide)) (fun _ hk => hk.2) (.slice Ao116 t266.length co116)) (fun _ hk => hk.2) (.int .i64 t269)) (fun _ hk => hk.2) (.bool t270)) (fun _ hk => hk.2) (.int .i64 t271)) (fun _ h_ => h_.1))) hb); have n1_ := Aside0.mk (Kd.S_below (by (with_reducible repeat (first | apply Kd.S_alloc | apply Kd.S_drewN | apply Kd.S_drew)); exact (Kd.S_mono (Kd.S_far (p := ⟨gb273, 3, none⟩) (Kd.S_far (p := ⟨gb273, 2, none⟩) (Kd.S_far (p := ⟨gb273, 1, none⟩) (Kd.S_far (p := ⟨gb273, 0, none⟩) (Kd.S_types HO_246000.out BK273.out (by decide)) (fun _ hk => hk.2) (.slice Ao116 t266.length co116)) (fun _ hk => hk.2) (.int .i64 t269)) (fun _ hk => hk.2) (.bool t270)) (fun _ hk => hk.2) (.int .i64 t271)) (fun _ h_ => h_.1))) hb); have n2_ := Aside0.mk (Kd.S_below (by (with_reducible repeat (first | apply Kd.S_alloc | apply Kd.S_drewN | apply Kd.S_drew)); exact (Kd.S_mono (Kd.S_far (p := ⟨gb273, 3, none⟩) (Kd.S_far (p := ⟨gb273, 2, none⟩) (Kd.S_far (p := ⟨gb273, 1, none⟩) (Kd.S_far (p := ⟨gb273, 0, none⟩) (Kd.S_types HO262.out BK273.out (by decide)) (fun _ hk => hk.2) (.slice Ao116 t266.length co116)) (fun _ hk => hk.2) (.int .i64 t269)) (fun _ hk => hk.2) (.bool t270)) (fun _ hk => hk.2) (.int .i64 t271)) (fun _ h_ => h_.1))) hb); have n3_ := Aside0.mk (Kd.S_below (by (with_reducible repeat (first | apply Kd.S_alloc | apply Kd.S_drewN | apply Kd.S_drew)); exact (Kd.S_mono (Kd.S_far (p := ⟨gb273, 3, none⟩) (Kd.S_far (p := ⟨gb273, 2, none⟩) (Kd.S_far (p := ⟨gb273, 1, none⟩) (Kd.S_far (p := ⟨gb273, 0, none⟩) (Kd.S_types HO268.out BK273.out (by decide)) (fun _ hk => hk.2) (.slice Ao116 t266.length co116)) (fun _ hk => hk.2) (.int .i64 t269)) (fun _ hk => hk.2) (.bool t270)) (fun _ hk => hk.2) (.int .i64 t271)) (fun _ h_ => h_.1))) hb); have n4_ := Aside0.mk (blk_below (g := gb215) (o := .cells #[.slice A0_0 l0_0.length c0_0, .int .i64 a0_1, .bool a0_2, .int .i64 a0_3] 30 (0, 0)) (by (with_reducible repeat (first | refine blk_drewN ?_ _ | refine blk_drew ?_ | refine blk_alloc ?_ _)); refine blk_far ?_ NB215_273.out _; (with_reducible repeat (first | refine blk_drewN ?_ _ | refine blk_drew ?_ | refine blk_alloc ?_ _)); refine blk_far ?_ NB215_273.out _; (with_reducible repeat (first | refine blk_drewN ?_ _ | refine blk_drew ?_ | refine blk_alloc ?_ _)); refine blk_far ?_ NB215_273.out _; (with_reducible repeat (first | refine blk_drewN ?_ _ | refine blk_drew ?_ | refine blk_alloc ?_ _)); refine blk_far ?_ NB215_273.out _; (with_reducible repeat (first | refine blk_drewN ?_ _ | refine blk_drew ?_ | refine blk_alloc ?_ _)); exact BK215.out) hb); have n5_ := Aside0.mk (blk_below (g := gb230) (o := .cells #[.slice Ao21 t223.length co21, .int .i64 t226, .bool t227, .int .i64 t228] 24 (0, 0)) (by (with_reducible repeat (first | refine blk_drewN ?_ _ | refine blk_drew ?_ | refine blk_alloc ?_ _)); refine blk_far ?_ NB230_273.out _; (with_reducible repeat (first | refine blk_drewN ?_ _ | refine blk_drew ?_ | refine blk_alloc ?_ _)); refine blk_far ?_ NB230_273.out _; (with_reducible repeat (first | refine blk_drewN ?_ _ | refine blk_drew ?_ | refine blk_alloc ?_ _)); refine blk_far ?_ NB230_273.out _; (with_reducible repeat (first | refine blk_drewN ?_ _ | refine blk_drew ?_ | refine blk_alloc ?_ _)); refine blk_far ?_ NB230_273.out _; (with_reducible repeat (first | refine blk_drewN ?_ _ | refine blk_drew ?_ | refine blk_alloc ?_ _)); exact BK230.out) hb); have n6_ := Aside0.mk (blk_below (g := gb245) (o := .cells #[.slice Ao33 t238.length co33, .int .i64 t241, .bool t242, .int .i64 t243] 24 (0, 0)) (by (with_reducible repeat (first | refine blk_drewN ?_ _ | refine blk_drew ?_ | refine blk_alloc ?_ _)); refine blk_far ?_ NB245_273.out _; (with_reducible repeat (first | refine blk_drewN ?_ _ | refine blk_drew ?_ | refine blk_alloc ?_ _)); refine blk_far ?_ NB245_273.out _; (with_reducible repeat (first | refine blk_drewN ?_ _ | refine blk_drew ?_ | refine blk_alloc ?_ _)); refine blk_far ?_ NB245_273.out _; (with_reducible repeat (first | refine blk_drewN ?_ _ | refine blk_drew ?_ | refine blk_alloc ?_ _)); refine blk_far ?_ NB245_273.out _; (with_reducible repeat (first | refine blk_drewN ?_ _ | refine blk_drew ?_ | refine blk_alloc ?_ _)); exact BK245.out) hb); have n7_ := Aside0.mk (blk_below (g := gb273) (o := .cells #[.slice Ao116 t266.length co116, .int .i64 t269, .bool t270, .int .i64 t271] 24 (0, 0)) (by (with_reducible repeat (first | refine blk_drewN ?_ _ | refine blk_drew ?_ | refine blk_alloc ?_ _)); refine blk_put (cs := #[.slice Ao116 t266.length co116, .int .i64 t269, .bool t270, .int .i64 0]) ?_ 3 _ rfl; (with_reducible repeat (first | refine blk_drewN ?_ _ | refine blk_drew ?_ | refine blk_alloc ?_ _)); refine blk_put (cs := #[.slice Ao116 t266.length co116, .int .i64 t269, .bool false, .int .i64 0]) ?_ 2 _ rfl; (with_reducible repeat (first | refine blk_drewN ?_ _ | refine blk_drew ?_ | refine blk_alloc ?_ _)); refine blk_put (cs := #[.slice Ao116 t266.length co116, .int .i64 0, .bool false, .int .i64 0]) ?_ 1 _ rfl; (with_reducible repeat (first | refine blk_drewN ?_ _ | refine blk_drew ?_ | refine blk_alloc ?_ _)); refine blk_put (cs := #[.slice none 0 0, .int .i64 0, .bool false, .int .i64 0]) ?_ 0 _ rfl; (with_reducible repeat (first | refine blk_drewN ?_ _ | refine blk_drew ?_ | refine blk_alloc ?_ _)); exact BK273.out) hb); have n8_ := Aside0.mk (below_step (by repeat (first | (with_reducible first | exact HB.out | apply below_alloc | apply pw_below_drewN | apply below_drew1 | refine below_set ?_ GE215.out | refine below_set ?_ GE230.out | refine below_set ?_ GE245.out | refine below_set ?_ GE273.out) | exact HB.out)) hb); clear HO_231000; clear HO_246000; clear HO262; clear HO268; clear BK215; clear BK230; clear BK245; clear BK273; clear HB; have HO_231000 := n0_; have HO_246000 := n1_; have HO262 := n2_; have HO268 := n3_; have BK215 := n4_; have BK230 := n5_; have BK245 := n6_; have BK273 := n7_; have HB := n8_; clear n0_ n1_ n2_ n3_ n4_ n5_ n6_ n7_ n8_; (try clear hb); (try clear hb2); (try clear hk); (try clear hi)))
                          go_meet
                          case rel => exact ⟨_, (true), (by first | rfl | (simp; done) | (simp [*]; done)), H', ⟨by have := HJ11.out; have := HJ60.out; first | omega | exact Nat.le_refl _⟩, ⟨by (with_reducible repeat (first | apply Kd.S_alloc | apply Kd.S_drewN | apply Kd.S_drew)); exact Kd.S_mono HO_231000.out (fun _ hk => ⟨hk.1.1.1.1.1, ⟨hk.1.2, ⟨hk.1.1.1.1.2.1, ⟨hk.1.1.1.1.2.2.1, ⟨hk.1.1.1.1.2.2.2.1, ⟨hk.1.1.1.1.2.2.2.2, ⟨hk.1.1.2, hk.2⟩⟩⟩⟩⟩⟩⟩)⟩, ⟨by (with_reducible repeat (first | apply Kd.S_alloc | apply Kd.S_drewN | apply Kd.S_drew)); exact Kd.S_mono HO_246000.out (fun _ hk => ⟨hk.1.1.1.1, ⟨hk.1.2, ⟨hk.1.1.2, hk.2⟩⟩⟩)⟩, ⟨by (with_reducible repeat (first | apply Kd.S_alloc | apply Kd.S_drewN | apply Kd.S_drew)); exact Kd.S_mono HO268.out (fun _ hk => ⟨hk.1.1.2, ⟨hk.1.2, hk.1.1.1.2⟩⟩)⟩, ⟨by (with_reducible repeat (first | refine blk_drewN ?_ _ | refine blk_drew ?_ | refine blk_alloc ?_ _)); exact BK215.out⟩, ⟨by (with_reducible repeat (first | refine blk_drewN ?_ _ | refine blk_drew ?_ | refine blk_alloc ?_ _)); exact BK230.out⟩, ⟨by (with_reducible repeat (first | refine blk_drewN ?_ _ | refine blk_drew ?_ | refine blk_alloc ?_ _)); exact BK245.out⟩, ⟨by (with_reducible repeat (first | refine blk_drewN ?_ _ | refine blk_drew ?_ | refine blk_alloc ?_ _)); exact BK273.out⟩, ⟨by repeat (first | (with_reducible first | exact HB.out | apply below_alloc | apply pw_below_drewN | apply below_drew1 | refine below_set ?_ GE215.out | refine below_set ?_ GE230.out | refine below_set ?_ GE245.out | refine below_set ?_ GE273.out) | exact HB.out)⟩⟩
                      case rest =>
                        clear HC103
                        try clear c1
                        try clear c2
                        try clear p2
                        try clear c3
                        try clear c4
                        try clear c4b0
                        try clear c5
                        try clear c6
                        try clear c7
                        try clear c8
                        try clear c9
                        try clear c10
                        try clear c11
                        try clear c12
                        try clear c13
                        try clear c14
                        try clear c15
                        try clear c16
                        try clear c18
                        try clear c22
                        try clear c28
                        try clear c29
                        try clear c34
                        try clear c35
                        try clear c36
                        try clear c39
                        try clear c40
                        try clear c41
                        try clear c42
                        try clear c44
                        try clear c45
                        try clear c48
                        try clear c49
                        try clear c50
                        try clear c52
                        try clear c53
                        try clear c56
                        try clear c59
                        try clear c66
                        try clear c67
                        try clear c68
                        try clear c71
                        try clear c71b0
                        try clear c73
                        try clear c74
                        try clear c75
                        try clear c76
                        try clear c78
                        try clear c79
                        try clear c82
                        try clear c83
                        try clear c84
                        try clear c86
                        try clear c87
                        try clear c90
                        try clear c93
                        try clear c93b0
                        try clear c94
                        try clear c95
                        try clear c100
                        try clear c100b0
                        try clear c100b1
                        try clear c104
                        try clear c105
                        try clear c110
                        try clear c117
                        try clear c118
                        try clear c119
                        try clear c122
                        try clear c123
                        try clear c124
                        try clear c125
                        try clear c127
                        try clear c128
                        try clear c131
                        try clear c132
                        try clear c133
                        try clear c135
                        try clear c136
                        try clear hcz106_0
                        try clear hcz106_1
                        try clear hcz106_2
                        try clear hcz106_3
                        try clear hcz108_0
                        try clear hcz108_1
                        try clear hcz108_2
                        try clear hcz108_3
                        try clear hcz111_0
                        try clear hcz111_1
                        try clear hcz111_2
                        try clear hcz111_3
                        try clear hcz120_0
                        try clear hcz120_1
                        try clear hcz120_2
                        try clear hcz120_3
                        try clear hcz126_0
                        try clear hcz126_1
                        try clear hcz126_2
                        try clear hcz126_3
                        try clear hcz129_0
                        try clear hcz129_1
                        try clear hcz129_2
                        try clear hcz129_3
                        try clear hcz134_0
                        try clear hcz134_1
                        try clear hcz134_2
                        try clear hcz134_3
                        try clear hcz137_0
                        try clear hcz137_1
                        try clear hcz137_2
                        try clear hcz137_3
                        try clear hcz14_0
                        try clear hcz14_1
                        try clear hcz14_2
                        try clear hcz14_3
                        try clear hcz16_0
                        try clear hcz16_1
                        try clear hcz16_2
                        try clear hcz16_3
                        try clear hcz23_0
                        try clear hcz23_1
                        try clear hcz23_2
                        try clear hcz23_3
                        try clear hcz24_0
                        try clear hcz24_1
                        try clear hcz24_2
                        try clear hcz24_3
                        try clear hcz30_0
                        try clear hcz30_1
                        try clear hcz30_2
                        try clear hcz30_3
                        try clear hcz37_0
                        try clear hcz37_1
                        try clear hcz37_2
                        try clear hcz37_3
                        try clear hcz43_0
                        try clear hcz43_1
                        try clear hcz43_2
                        try clear hcz43_3
                        try clear hcz46_0
                        try clear hcz46_1
                        try clear hcz46_2
                        try clear hcz46_3
                        try clear hcz51_0
                        try clear hcz51_1
                        try clear hcz51_2
                        try clear hcz51_3
                        try clear hcz54_0
                        try clear hcz54_1
                        try clear hcz54_2
                        try clear hcz54_3
                        try clear hcz69_0
                        try clear hcz69_1
                        try clear hcz69_2
                        try clear hcz69_3
                        try clear hcz6_0
                        try clear hcz6_1
                        try clear hcz6_2
                        try clear hcz6_3
                        try clear hcz77_0
                        try clear hcz77_1
                        try clear hcz77_2
                        try clear hcz77_3
                        try clear hcz80_0
                        try clear hcz80_1
                        try clear hcz80_2
                        try clear hcz80_3
                        try clear hcz85_0
                        try clear hcz85_1
                        try clear hcz85_2
                        try clear hcz85_3
                        try clear hcz88_0
                        try clear hcz88_1
                        try clear hcz88_2
                        try clear hcz88_3
                        try clear hcz96_0
                        try clear hcz96_1
                        try clear hcz96_2
                        try clear hcz96_3
                        try clear hcz98_0
                        try clear hcz98_1
                        try clear hcz98_2
                        try clear hcz98_3
                        try clear hfz106_0
                        try clear hfz106_1
                        try clear hfz106_2
                        try clear hfz106_3
                        try clear hfz108_0
                        try clear hfz108_1
                        try clear hfz108_2
                        try clear hfz108_3
                        try clear hfz111_0
                        try clear hfz111_1
                        try clear hfz111_2
                        try clear hfz111_3
                        try clear hfz120_0
                        try clear hfz120_1
                        try clear hfz120_2
                        try clear hfz120_3
                        try clear hfz126_0
                        try clear hfz126_1
                        try clear hfz126_2
                        try clear hfz126_3
                        try clear hfz129_0
                        try clear hfz129_1
                        try clear hfz129_2
                        try clear hfz129_3
                        try clear hfz134_0
                        try clear hfz134_1
                        try clear hfz134_2
                        try clear hfz134_3
                        try clear hfz137_0
                        try clear hfz137_1
                        try clear hfz137_2
                        try clear hfz137_3
                        try clear hfz14_0
                        try clear hfz14_1
                        try clear hfz14_2
                        try clear hfz14_3
                        try clear hfz16_0
                        try clear hfz16_1
                        try clear hfz16_2
                        try clear hfz16_3
                        try clear hfz23_0
                        try clear hfz23_1
                        try clear hfz23_2
                        try clear hfz23_3
                        try clear hfz24_0
                        try clear hfz24_1
                        try clear hfz24_2
                        try clear hfz24_3
                        try clear hfz30_0
                        try clear hfz30_1
                        try clear hfz30_2
                        try clear hfz30_3
                        try clear hfz37_0
                        try clear hfz37_1
                        try clear hfz37_2
                        try clear hfz37_3
                        try clear hfz43_0
                        try clear hfz43_1
                        try clear hfz43_2
                        try clear hfz43_3
                        try clear hfz46_0
                        try clear hfz46_1
                        try clear hfz46_2
                        try clear hfz46_3
                        try clear hfz51_0
                        try clear hfz51_1
                        try clear hfz51_2
                        try clear hfz51_3
                        try clear hfz54_0
                        try clear hfz54_1
                        try clear hfz54_2
                        try clear hfz54_3
                        try clear hfz69_0
                        try clear hfz69_1
                        try clear hfz69_2
                        try clear hfz69_3
                        try clear hfz6_0
                        try clear hfz6_1
                        try clear hfz6_2
                        try clear hfz6_3
                        try clear hfz77_0
                        try clear hfz77_1
                        try clear hfz77_2
                        try clear hfz77_3
                        try clear hfz80_0
                        try clear hfz80_1
                        try clear hfz80_2
                        try clear hfz80_3
                        try clear hfz85_0
                        try clear hfz85_1
                        try clear hfz85_2
                        try clear hfz85_3
                        try clear hfz88_0
                        try clear hfz88_1
                        try clear hfz88_2
                        try clear hfz88_3
                        try clear hfz96_0
                        try clear hfz96_1
                        try clear hfz96_2
                        try clear hfz96_3
                        try clear hfz98_0
                        try clear hfz98_1
                        try clear hfz98_2
                        try clear hfz98_3
                        try clear p2
                        obtain ⟨kq, x92_102, rfl, HA, HJ102, HO_231000, HO_246000, HO_274000, BK215, BK230, BK245, BK273, HB⟩ := hcut
                        have hl246000_102 := (Kd.S_reads' HO_246000.out).1
                        rw [hl246000_102] at HO_246000
                        (try simp only [hl246000_102])
                        (try simp only [hl246000_102] at BK215)
                        (try simp only [hl246000_102] at BK230)
                        (try simp only [hl246000_102] at BK245)
                        (try simp only [hl246000_102] at BK273)
                        (try simp only [hl246000_102] at HO_231000)
                        (try simp only [hl246000_102] at HO_274000)
                        cases kq with
                        | zero => exact absurd HA.out (by simp [laws_FnExactCutAfter.j2])
                        | succ kj102 =>
                          have H := HA.out
                          clear HA
                          simp only [laws_FnExactCutAfter.j2] at H
                          by_cases c139 : x92_102 = true
                          · subst c139
                            have H1 : (some false) = some r := by rw [if_pos rfl] at H; exact H
                            clear H
                            have H := H1
                            clear H1
                            obtain rfl := Option.some.inj H
                            go_wp2
                            go_ret
                            exact ⟨by first | rfl | (simp [errW_none, errW_some] <;> rfl) | (simp [*, errW_none, errW_some] <;> rfl), by repeat (first | (with_reducible first | exact HB.out | apply below_alloc | apply pw_below_drewN | apply below_drew1 | refine below_set ?_ GE215.out | refine below_set ?_ GE230.out | refine below_set ?_ GE245.out | refine below_set ?_ GE273.out) | exact HB.out)⟩
                          · replace c139 := Bool.eq_false_iff.mpr c139
                            subst c139
                            have H1 : ((laws_heldDisk.f kj102 t258 t241 t242 t243 1).bind fun t275 => (if t275 < 0 then (some false) else (if t275 = t257 then (some true) else (some false)))) = some r := by rw [if_neg (show ¬ (false = true) by decide)] at H; exact H
                            clear H
                            have H := H1
                            clear H1
                            replace H := Option.bind_eq_some_iff.mp H
                            obtain ⟨t275, A1400, H⟩ := H
                            replace H : (if t275 < 0 then (some false) else (if t275 = t257 then (some true) else (some false))) = some r := H
                            have A140 := Aside0.mk A1400
                            clear A1400
                            by_cases c141 : t275 < 0
                            · rw [if_pos c141] at H
                              have c141b0 : decide (t275 < 0) = true := decide_eq_true c141
                              clear c141
                              obtain rfl := Option.some.inj H
                              have hnb142 := NB245_215.out
                              have hnc142 := NB215_245.out
                              have hnb143 := NB245_230.out
                              have hnc143 := NB230_245.out
                              have hnb144 := NB245_273.out
                              have hnc144 := NB273_245.out
                              have hcz145_0 : wc.cell? ⟨gb245, 0, none⟩ = some (.slice Ao33 t258.length co33) := (blk_cell BK245.out 0).trans rfl
                              have hcz145_1 : wc.cell? ⟨gb245, 1, none⟩ = some (.int .i64 t241) := (blk_cell BK245.out 1).trans rfl
                              have hcz145_2 : wc.cell? ⟨gb245, 2, none⟩ = some (.bool t242) := (blk_cell BK245.out 2).trans rfl
                              have hcz145_3 : wc.cell? ⟨gb245, 3, none⟩ = some (.int .i64 t243) := (blk_cell BK245.out 3).trans rfl
                              have hfz145_0 := blk_frozen BK245.out 0
                              have hfz145_1 := blk_frozen BK245.out 1
                              have hfz145_2 := blk_frozen BK245.out 2
                              have hfz145_3 := blk_frozen BK245.out 3
                              go_wp2_with (first | ((with_reducible refine gate_callee (f := 15) rfl ?_); refine goesL_ (some 95) rfl rfl Try.func15 (by kernel_rfl) rfl #[.agg #[.slice Ao33 t258.length co33, .int .i64 t241, .bool t242, .int .i64 t243], .int .i64 1] rfl (by (try simp only [List.map_toArray, List.map_cons, List.map_nil]); first | done | rfl | (simp only [List.length_drop, List.length_take]; rfl)) ?_; (with_reducible refine (laws_heldDisk.calls kj102 _ _ t258 t241 t242 t243 1 t275 _ ?side1 ?side2 A140.out).mono ?_); (case side1 => repeat (first | exact (Kd.S_reads' HO_246000.out).2.2 | (with_reducible refine Kd.C_alloc ?_ _) | (with_reducible refine Kd.C_drewN ?_ _) | (with_reducible refine Kd.C_drew ?_))); (case side2 => exact (Kd.S_reads' HO_246000.out).2.1); rintro e w146 ⟨rfl, hb⟩; refine ⟨_, rfl, ?_⟩; have n0_ := Aside0.mk (Kd.S_below (by (with_reducible repeat (first | apply Kd.S_alloc | apply Kd.S_drewN | apply Kd.S_drew)); exact HO_231000.out) hb); have n1_ := Aside0.mk (Kd.S_below (by (with_reducible repeat (first | apply Kd.S_alloc | apply Kd.S_drewN | apply Kd.S_drew)); exact HO_246000.out) hb); have n2_ := Aside0.mk (Kd.S_below (by (with_reducible repeat (first | apply Kd.S_alloc | apply Kd.S_drewN | apply Kd.S_drew)); exact HO_274000.out) hb); have n3_ := Aside0.mk (blk_below (g := gb215) (o := .cells #[.slice A0_0 l0_0.length c0_0, .int .i64 a0_1, .bool a0_2, .int .i64 a0_3] 30 (0, 0)) (by (with_reducible repeat (first | refine blk_drewN ?_ _ | refine blk_drew ?_ | refine blk_alloc ?_ _)); exact BK215.out) hb); have n4_ := Aside0.mk (blk_below (g := gb230) (o := .cells #[.slice Ao21 t223.length co21, .int .i64 t226, .bool t227, .int .i64 t228] 24 (0, 0)) (by (with_reducible repeat (first | refine blk_drewN ?_ _ | refine blk_drew ?_ | refine blk_alloc ?_ _)); exact BK230.out) hb); have n5_ := Aside0.mk (blk_below (g := gb245) (o := .cells #[.slice Ao33 t258.length co33, .int .i64 t241, .bool t242, .int .i64 t243] 24 (0, 0)) (by (with_reducible repeat (first | refine blk_drewN ?_ _ | refine blk_drew ?_ | refine blk_alloc ?_ _)); exact BK245.out) hb); have n6_ := Aside0.mk (blk_below (g := gb273) (o := .cells #[.slice Ao116 t266.length co116, .int .i64 t269, .bool t270, .int .i64 t271] 24 (0, 0)) (by (with_reducible repeat (first | refine blk_drewN ?_ _ | refine blk_drew ?_ | refine blk_alloc ?_ _)); exact BK273.out) hb); have n7_ := Aside0.mk (below_step (by repeat (first | (with_reducible first | exact HB.out | apply below_alloc | apply pw_below_drewN | apply below_drew1 | refine below_set ?_ GE215.out | refine below_set ?_ GE230.out | refine below_set ?_ GE245.out | refine below_set ?_ GE273.out) | exact HB.out)) hb); clear HO_231000; clear HO_246000; clear HO_274000; clear BK215; clear BK230; clear BK245; clear BK273; clear HB; have HO_231000 := n0_; have HO_246000 := n1_; have HO_274000 := n2_; have BK215 := n3_; have BK230 := n4_; have BK245 := n5_; have BK273 := n6_; have HB := n7_; clear n0_ n1_ n2_ n3_ n4_ n5_ n6_ n7_; (try clear hb); (try clear hb2); (try clear hk); (try clear hi)))
                              go_ret
                              exact ⟨by first | rfl | (simp [errW_none, errW_some] <;> rfl) | (simp [*, errW_none, errW_some] <;> rfl), by repeat (first | (with_reducible first | exact HB.out | apply below_alloc | apply pw_below_drewN | apply below_drew1 | refine below_set ?_ GE215.out | refine below_set ?_ GE230.out | refine below_set ?_ GE245.out | refine below_set ?_ GE273.out) | exact HB.out)⟩
                            · rw [if_neg c141] at H
                              have c141b0 : decide (t275 < 0) = false := decide_eq_false c141
                              clear c141
                              by_cases c147 : t275 = t257
                              · rw [if_pos c147] at H
                                have c147b0 : (t275 == t257) = true := beq_iff_eq.mpr c147
                                have c147b1 : (t275 != t257) = false := bne_eq_false_iff_eq.mpr c147
                                clear c147
                                obtain rfl := Option.some.inj H
                                have hnb148 := NB245_215.out
                                have hnc148 := NB215_245.out
                                have hnb149 := NB245_230.out
                                have hnc149 := NB230_245.out
                                have hnb150 := NB245_273.out
                                have hnc150 := NB273_245.out
                                have hcz151_0 : wc.cell? ⟨gb245, 0, none⟩ = some (.slice Ao33 t258.length co33) := (blk_cell BK245.out 0).trans rfl
                                have hcz151_1 : wc.cell? ⟨gb245, 1, none⟩ = some (.int .i64 t241) := (blk_cell BK245.out 1).trans rfl
                                have hcz151_2 : wc.cell? ⟨gb245, 2, none⟩ = some (.bool t242) := (blk_cell BK245.out 2).trans rfl
                                have hcz151_3 : wc.cell? ⟨gb245, 3, none⟩ = some (.int .i64 t243) := (blk_cell BK245.out 3).trans rfl
                                have hfz151_0 := blk_frozen BK245.out 0
                                have hfz151_1 := blk_frozen BK245.out 1
                                have hfz151_2 := blk_frozen BK245.out 2
                                have hfz151_3 := blk_frozen BK245.out 3
                                go_wp2_with (first | ((with_reducible refine gate_callee (f := 15) rfl ?_); refine goesL_ (some 95) rfl rfl Try.func15 (by kernel_rfl) rfl #[.agg #[.slice Ao33 t258.length co33, .int .i64 t241, .bool t242, .int .i64 t243], .int .i64 1] rfl (by (try simp only [List.map_toArray, List.map_cons, List.map_nil]); first | done | rfl | (simp only [List.length_drop, List.length_take]; rfl)) ?_; (with_reducible refine (laws_heldDisk.calls kj102 _ _ t258 t241 t242 t243 1 t275 _ ?side1 ?side2 A140.out).mono ?_); (case side1 => repeat (first | exact (Kd.S_reads' HO_246000.out).2.2 | (with_reducible refine Kd.C_alloc ?_ _) | (with_reducible refine Kd.C_drewN ?_ _) | (with_reducible refine Kd.C_drew ?_))); (case side2 => exact (Kd.S_reads' HO_246000.out).2.1); rintro e w152 ⟨rfl, hb⟩; refine ⟨_, rfl, ?_⟩; have n0_ := Aside0.mk (Kd.S_below (by (with_reducible repeat (first | apply Kd.S_alloc | apply Kd.S_drewN | apply Kd.S_drew)); exact HO_231000.out) hb); have n1_ := Aside0.mk (Kd.S_below (by (with_reducible repeat (first | apply Kd.S_alloc | apply Kd.S_drewN | apply Kd.S_drew)); exact HO_246000.out) hb); have n2_ := Aside0.mk (Kd.S_below (by (with_reducible repeat (first | apply Kd.S_alloc | apply Kd.S_drewN | apply Kd.S_drew)); exact HO_274000.out) hb); have n3_ := Aside0.mk (blk_below (g := gb215) (o := .cells #[.slice A0_0 l0_0.length c0_0, .int .i64 a0_1, .bool a0_2, .int .i64 a0_3] 30 (0, 0)) (by (with_reducible repeat (first | refine blk_drewN ?_ _ | refine blk_drew ?_ | refine blk_alloc ?_ _)); exact BK215.out) hb); have n4_ := Aside0.mk (blk_below (g := gb230) (o := .cells #[.slice Ao21 t223.length co21, .int .i64 t226, .bool t227, .int .i64 t228] 24 (0, 0)) (by (with_reducible repeat (first | refine blk_drewN ?_ _ | refine blk_drew ?_ | refine blk_alloc ?_ _)); exact BK230.out) hb); have n5_ := Aside0.mk (blk_below (g := gb245) (o := .cells #[.slice Ao33 t258.length co33, .int .i64 t241, .bool t242, .int .i64 t243] 24 (0, 0)) (by (with_reducible repeat (first | refine blk_drewN ?_ _ | refine blk_drew ?_ | refine blk_alloc ?_ _)); exact BK245.out) hb); have n6_ := Aside0.mk (blk_below (g := gb273) (o := .cells #[.slice Ao116 t266.length co116, .int .i64 t269, .bool t270, .int .i64 t271] 24 (0, 0)) (by (with_reducible repeat (first | refine blk_drewN ?_ _ | refine blk_drew ?_ | refine blk_alloc ?_ _)); exact BK273.out) hb); have n7_ := Aside0.mk (below_step (by repeat (first | (with_reducible first | exact HB.out | apply below_alloc | apply pw_below_drewN | apply below_drew1 | refine below_set ?_ GE215.out | refine below_set ?_ GE230.out | refine below_set ?_ GE245.out | refine below_set ?_ GE273.out) | exact HB.out)) hb); clear HO_231000; clear HO_246000; clear HO_274000; clear BK215; clear BK230; clear BK245; clear BK273; clear HB; have HO_231000 := n0_; have HO_246000 := n1_; have HO_274000 := n2_; have BK215 := n3_; have BK230 := n4_; have BK245 := n5_; have BK273 := n6_; have HB := n7_; clear n0_ n1_ n2_ n3_ n4_ n5_ n6_ n7_; (try clear hb); (try clear hb2); (try clear hk); (try clear hi)))
                                go_ret
                                exact ⟨by first | rfl | (simp [errW_none, errW_some] <;> rfl) | (simp [*, errW_none, errW_some] <;> rfl), by repeat (first | (with_reducible first | exact HB.out | apply below_alloc | apply pw_below_drewN | apply below_drew1 | refine below_set ?_ GE215.out | refine below_set ?_ GE230.out | refine below_set ?_ GE245.out | refine below_set ?_ GE273.out) | exact HB.out)⟩
                              · rw [if_neg c147] at H
                                have c147b0 : (t275 == t257) = false := beq_eq_false_iff_ne.mpr c147
                                have c147b1 : (t275 != t257) = true := bne_iff_ne.mpr c147
                                obtain rfl := Option.some.inj H
                                have hnb153 := NB245_215.out
                                have hnc153 := NB215_245.out
                                have hnb154 := NB245_230.out
                                have hnc154 := NB230_245.out
                                have hnb155 := NB245_273.out
                                have hnc155 := NB273_245.out
                                have hcz156_0 : wc.cell? ⟨gb245, 0, none⟩ = some (.slice Ao33 t258.length co33) := (blk_cell BK245.out 0).trans rfl
                                have hcz156_1 : wc.cell? ⟨gb245, 1, none⟩ = some (.int .i64 t241) := (blk_cell BK245.out 1).trans rfl
                                have hcz156_2 : wc.cell? ⟨gb245, 2, none⟩ = some (.bool t242) := (blk_cell BK245.out 2).trans rfl
                                have hcz156_3 : wc.cell? ⟨gb245, 3, none⟩ = some (.int .i64 t243) := (blk_cell BK245.out 3).trans rfl
                                have hfz156_0 := blk_frozen BK245.out 0
                                have hfz156_1 := blk_frozen BK245.out 1
                                have hfz156_2 := blk_frozen BK245.out 2
                                have hfz156_3 := blk_frozen BK245.out 3
                                go_wp2_with (first | ((with_reducible refine gate_callee (f := 15) rfl ?_); refine goesL_ (some 95) rfl rfl Try.func15 (by kernel_rfl) rfl #[.agg #[.slice Ao33 t258.length co33, .int .i64 t241, .bool t242, .int .i64 t243], .int .i64 1] rfl (by (try simp only [List.map_toArray, List.map_cons, List.map_nil]); first | done | rfl | (simp only [List.length_drop, List.length_take]; rfl)) ?_; (with_reducible refine (laws_heldDisk.calls kj102 _ _ t258 t241 t242 t243 1 t275 _ ?side1 ?side2 A140.out).mono ?_); (case side1 => repeat (first | exact (Kd.S_reads' HO_246000.out).2.2 | (with_reducible refine Kd.C_alloc ?_ _) | (with_reducible refine Kd.C_drewN ?_ _) | (with_reducible refine Kd.C_drew ?_))); (case side2 => exact (Kd.S_reads' HO_246000.out).2.1); rintro e w157 ⟨rfl, hb⟩; refine ⟨_, rfl, ?_⟩; have n0_ := Aside0.mk (Kd.S_below (by (with_reducible repeat (first | apply Kd.S_alloc | apply Kd.S_drewN | apply Kd.S_drew)); exact HO_231000.out) hb); have n1_ := Aside0.mk (Kd.S_below (by (with_reducible repeat (first | apply Kd.S_alloc | apply Kd.S_drewN | apply Kd.S_drew)); exact HO_246000.out) hb); have n2_ := Aside0.mk (Kd.S_below (by (with_reducible repeat (first | apply Kd.S_alloc | apply Kd.S_drewN | apply Kd.S_drew)); exact HO_274000.out) hb); have n3_ := Aside0.mk (blk_below (g := gb215) (o := .cells #[.slice A0_0 l0_0.length c0_0, .int .i64 a0_1, .bool a0_2, .int .i64 a0_3] 30 (0, 0)) (by (with_reducible repeat (first | refine blk_drewN ?_ _ | refine blk_drew ?_ | refine blk_alloc ?_ _)); exact BK215.out) hb); have n4_ := Aside0.mk (blk_below (g := gb230) (o := .cells #[.slice Ao21 t223.length co21, .int .i64 t226, .bool t227, .int .i64 t228] 24 (0, 0)) (by (with_reducible repeat (first | refine blk_drewN ?_ _ | refine blk_drew ?_ | refine blk_alloc ?_ _)); exact BK230.out) hb); have n5_ := Aside0.mk (blk_below (g := gb245) (o := .cells #[.slice Ao33 t258.length co33, .int .i64 t241, .bool t242, .int .i64 t243] 24 (0, 0)) (by (with_reducible repeat (first | refine blk_drewN ?_ _ | refine blk_drew ?_ | refine blk_alloc ?_ _)); exact BK245.out) hb); have n6_ := Aside0.mk (blk_below (g := gb273) (o := .cells #[.slice Ao116 t266.length co116, .int .i64 t269, .bool t270, .int .i64 t271] 24 (0, 0)) (by (with_reducible repeat (first | refine blk_drewN ?_ _ | refine blk_drew ?_ | refine blk_alloc ?_ _)); exact BK273.out) hb); have n7_ := Aside0.mk (below_step (by repeat (first | (with_reducible first | exact HB.out | apply below_alloc | apply pw_below_drewN | apply below_drew1 | refine below_set ?_ GE215.out | refine below_set ?_ GE230.out | refine below_set ?_ GE245.out | refine below_set ?_ GE273.out) | exact HB.out)) hb); clear HO_231000; clear HO_246000; clear HO_274000; clear BK215; clear BK230; clear BK245; clear BK273; clear HB; have HO_231000 := n0_; have HO_246000 := n1_; have HO_274000 := n2_; have BK215 := n3_; have BK230 := n4_; have BK245 := n5_; have BK273 := n6_; have HB := n7_; clear n0_ n1_ n2_ n3_ n4_ n5_ n6_ n7_; (try clear hb); (try clear hb2); (try clear hk); (try clear hi)))
                                go_ret
                                exact ⟨by first | rfl | (simp [errW_none, errW_some] <;> rfl) | (simp [*, errW_none, errW_some] <;> rfl), by repeat (first | (with_reducible first | exact HB.out | apply below_alloc | apply pw_below_drewN | apply below_drew1 | refine below_set ?_ GE215.out | refine below_set ?_ GE230.out | refine below_set ?_ GE245.out | refine below_set ?_ GE273.out) | exact HB.out)⟩
                    · rw [if_neg c100] at H
                      have c100b0 : (t259 == t257) = false := beq_eq_false_iff_ne.mpr c100
                      have c100b1 : (t259 != t257) = true := bne_iff_ne.mpr c100
                      obtain rfl := Option.some.inj H
                      have hnb158 := NB245_215.out
                      have hnc158 := NB215_245.out
                      have hnb159 := NB245_230.out
                      have hnc159 := NB230_245.out
                      have hcz160_0 : wc.cell? ⟨gb245, 0, none⟩ = some (.slice Ao33 t238.length co33) := (blk_cell BK245.out 0).trans rfl
                      have hcz160_1 : wc.cell? ⟨gb245, 1, none⟩ = some (.int .i64 t241) := (blk_cell BK245.out 1).trans rfl
                      have hcz160_2 : wc.cell? ⟨gb245, 2, none⟩ = some (.bool t242) := (blk_cell BK245.out 2).trans rfl
                      have hcz160_3 : wc.cell? ⟨gb245, 3, none⟩ = some (.int .i64 t243) := (blk_cell BK245.out 3).trans rfl
                      have hfz160_0 := blk_frozen BK245.out 0
                      have hfz160_1 := blk_frozen BK245.out 1
                      have hfz160_2 := blk_frozen BK245.out 2
                      have hfz160_3 := blk_frozen BK245.out 3
                      go_wp2_with (first | ((with_reducible refine gate_callee (f := 14) rfl ?_); refine goesL_ (some 68) rfl rfl Try.func14 (by kernel_rfl) rfl #[.agg #[.slice Ao33 t238.length co33, .int .i64 t241, .bool t242, .int .i64 t243], .int .i64 1] rfl (by (try simp only [List.map_toArray, List.map_cons, List.map_nil]); first | done | rfl | (simp only [List.length_drop, List.length_take]; rfl)) ?_; (with_reducible refine (laws_markDisk.calls kj60 (SB_ (Kd.slice 5 (Kd.int .u8)) 35 wc w.heap.size (fun k_ => (some k_ ≠ (.slice Ao21 t223.length co21 : Value).ownBlock ∧ (w26.heap.size ≤ k_ ∧ k_ < w62.heap.size)))) (.slice Ao33 t238.length co33) t238 t241 t242 t243 1 t257 t258 w _ ?side1 ?side2 A91.out).mono ?_); (case side1 => repeat (first | (with_reducible first | exact HB.out | apply below_alloc | apply pw_below_drewN | apply below_drew1 | refine below_set ?_ GE215.out | refine below_set ?_ GE230.out | refine below_set ?_ GE245.out) | exact HB.out)); (case side2 => exact SB_own HO_246000.out); rintro e w161 ⟨rfl, hy0, hb, hkp⟩; refine ⟨_, rfl, ?_⟩; have n0_ := Aside0.mk (Kd.S_mono (ok' := fun k_ => some k_ ≠ (.slice Ao33 t238.length co33 : Value).ownBlock ∧ w17.heap.size ≤ k_ ∧ k_ < w20.heap.size ∧ k_ < w26.heap.size ∧ k_ < w62.heap.size) (Kd.S_keptB ((S_apartSBn (d' := (Kd.slice 5 (Kd.int .u8))) (e' := 35) (base' := w.heap.size) (ok' := (fun k_ => (some k_ ≠ (.slice Ao21 t223.length co21 : Value).ownBlock ∧ (w26.heap.size ≤ k_ ∧ k_ < w62.heap.size)))) HO_231000.out (fun k_ hk h2_ => absurd (hk.2.2.2.1) (Nat.not_lt.2 (h2_.2.1))))) hkp (fun k_ hk_ hs_ => (hk_.2) hs_)) (fun k_ hk_ => ⟨hk_.1.1.1, hk_.1.1.2.1, hk_.1.1.2.2.1, hk_.1.1.2.2.2.1, hk_.1.1.2.2.2.2⟩)); have n1_ := Aside0.mk (Kd.S_mono (ok' := fun k_ => some k_ ≠ (.slice Ao21 t223.length co21 : Value).ownBlock) hy0 (fun k_ h_ => Or.elim h_ (fun p_ => p_.1.1) (fun n_ => (Kd.fresh' (Kd.S_lt (by (with_reducible repeat (first | apply Kd.S_alloc | apply Kd.S_drewN | apply Kd.S_drew)); exact HO_231000.out)) k_ n_)))); have n2_ := Aside0.mk (blk_kept (by (with_reducible repeat (first | refine blk_drewN ?_ _ | refine blk_drew ?_ | refine blk_alloc ?_ _)); exact BK215.out) hkp (fun hs_ => (fun e_ => (blk_SB BK215.out (by decide)) e_) hs_)); have n3_ := Aside0.mk (blk_kept (by (with_reducible repeat (first | refine blk_drewN ?_ _ | refine blk_drew ?_ | refine blk_alloc ?_ _)); exact BK230.out) hkp (fun hs_ => (fun e_ => (blk_SB BK230.out (by decide)) e_) hs_)); have n4_ := Aside0.mk (blk_kept (by (with_reducible repeat (first | refine blk_drewN ?_ _ | refine blk_drew ?_ | refine blk_alloc ?_ _)); exact BK245.out) hkp (fun hs_ => (fun e_ => (blk_SB BK245.out (by decide)) e_) hs_)); have n5_ := Aside0.mk (hb); clear HO_231000; clear HO_246000; clear BK215; clear BK230; clear BK245; clear HB; have HO_231000 := n0_; have HO_246000 := n1_; have BK215 := n2_; have BK230 := n3_; have BK245 := n4_; have HB := n5_; clear n0_ n1_ n2_ n3_ n4_ n5_; (try clear hb); (try clear hkp); (try clear hy0); have hcz162_0 : w161.cell? ⟨gb245, 0, none⟩ = some (.slice Ao33 t238.length co33) := (blk_cell BK245.out 0).trans rfl; have hcz162_1 : w161.cell? ⟨gb245, 1, none⟩ = some (.int .i64 t241) := (blk_cell BK245.out 1).trans rfl; have hcz162_2 : w161.cell? ⟨gb245, 2, none⟩ = some (.bool t242) := (blk_cell BK245.out 2).trans rfl; have hcz162_3 : w161.cell? ⟨gb245, 3, none⟩ = some (.int .i64 t243) := (blk_cell BK245.out 3).trans rfl; have hfz162_0 := blk_frozen BK245.out 0; have hfz162_1 := blk_frozen BK245.out 1; have hfz162_2 := blk_frozen BK245.out 2; have hfz162_3 := blk_frozen BK245.out 3) | ((with_reducible refine gate_callee (f := 15) rfl ?_); refine goesL_ (some 71) rfl rfl Try.func15 (by kernel_rfl) rfl #[.agg #[.slice Ao33 t258.length co33, .int .i64 t241, .bool t242, .int .i64 t243], .int .i64 1] rfl (by (try simp only [List.map_toArray, List.map_cons, List.map_nil]); first | done | (rw [show t258.length = t238.length from (Kd.S_reads' HO_246000.out).1.symm] <;> rfl) | rfl | (simp only [List.length_drop, List.length_take]; rfl)) ?_; (with_reducible refine (laws_heldDisk.calls kj60 _ _ t258 t241 t242 t243 1 t259 _ ?side1 ?side2 A92.out).mono ?_); (case side1 => repeat (first | exact (Kd.S_reads' HO_246000.out).2.2 | (with_reducible refine Kd.C_alloc ?_ _) | (with_reducible refine Kd.C_drewN ?_ _) | (with_reducible refine Kd.C_drew ?_))); (case side2 => rw [show t258.length = t238.length from (Kd.S_reads' HO_246000.out).1.symm]; exact (Kd.S_reads' HO_246000.out).2.1); rintro e w163 ⟨rfl, hb⟩; refine ⟨_, rfl, ?_⟩; have n0_ := Aside0.mk (Kd.S_below (by (with_reducible repeat (first | apply Kd.S_alloc | apply Kd.S_drewN | apply Kd.S_drew)); exact HO_231000.out) hb); have n1_ := Aside0.mk (Kd.S_below (by (with_reducible repeat (first | apply Kd.S_alloc | apply Kd.S_drewN | apply Kd.S_drew)); exact HO_246000.out) hb); have n2_ := Aside0.mk (blk_below (g := gb215) (o := .cells #[.slice A0_0 l0_0.length c0_0, .int .i64 a0_1, .bool a0_2, .int .i64 a0_3] 30 (0, 0)) (by (with_reducible repeat (first | refine blk_drewN ?_ _ | refine blk_drew ?_ | refine blk_alloc ?_ _)); exact BK215.out) hb); have n3_ := Aside0.mk (blk_below (g := gb230) (o := .cells #[.slice Ao21 t223.length co21, .int .i64 t226, .bool t227, .int .i64 t228] 24 (0, 0)) (by (with_reducible repeat (first | refine blk_drewN ?_ _ | refine blk_drew ?_ | refine blk_alloc ?_ _)); exact BK230.out) hb); have n4_ := Aside0.mk (blk_below (g := gb245) (o := .cells #[.slice Ao33 t238.length co33, .int .i64 t241, .bool t242, .int .i64 t243] 24 (0, 0)) (by (with_reducible repeat (first | refine blk_drewN ?_ _ | refine blk_drew ?_ | refine blk_alloc ?_ _)); exact BK245.out) hb); have n5_ := Aside0.mk (below_step (by repeat (first | (with_reducible first | exact HB.out | apply below_alloc | apply pw_below_drewN | apply below_drew1 | refine below_set ?_ GE215.out | refine below_set ?_ GE230.out | refine below_set ?_ GE245.out) | exact HB.out)) hb); clear HO_231000; clear HO_246000; clear BK215; clear BK230; clear BK245; clear HB; have HO_231000 := n0_; have HO_246000 := n1_; have BK215 := n2_; have BK230 := n3_; have BK245 := n4_; have HB := n5_; clear n0_ n1_ n2_ n3_ n4_ n5_; (try clear hb); (try clear hb2); (try clear hk); (try clear hi)))
                      go_ret
                      exact ⟨by first | rfl | (simp [errW_none, errW_some] <;> rfl) | (simp [*, errW_none, errW_some] <;> rfl), by repeat (first | (with_reducible first | exact HB.out | apply below_alloc | apply pw_below_drewN | apply below_drew1 | refine below_set ?_ GE215.out | refine below_set ?_ GE230.out | refine below_set ?_ GE245.out) | exact HB.out)⟩
          · replace c59 := Bool.eq_false_iff.mpr c59
            subst c59
            have H1 : (some false) = some r := by rw [if_neg (show ¬ (false = true) by decide)] at H; exact H
            clear H
            have H := H1
            clear H1
            obtain rfl := Option.some.inj H
            try go_wp2
            have n0_ := Aside0.mk (Kd.S_drew HO_231000.out)
            have n1_ := Aside0.mk (Kd.S_drew HO_238000.out)
            have n2_ := Aside0.mk (Kd.S_drew HO_246000.out)
            have n3_ := Aside0.mk (blk_drew BK215.out)
            have n4_ := Aside0.mk (blk_drew BK230.out)
            have n5_ := Aside0.mk (blk_drew BK237.out)
            have n6_ := Aside0.mk (blk_drew BK245.out)
            have n7_ := Aside0.mk (below_drew1 HB.out)
            clear HO_231000
            clear HO_238000
            clear HO_246000
            clear BK215
            clear BK230
            clear BK237
            clear BK245
            clear HB
            have HO_231000 := n0_
            have HO_238000 := n1_
            have HO_246000 := n2_
            have BK215 := n3_
            have BK230 := n4_
            have BK237 := n5_
            have BK245 := n6_
            have HB := n7_
            clear n0_ n1_ n2_ n3_ n4_ n5_ n6_ n7_
            refine start_ (n := 5) (S := fun w' => w'.cell? ⟨gb237, 0, none⟩ = some (.slice Ao27 t231.length co27) ∧ w'.cell? ⟨gb237, 1, none⟩ = some (.int .i64 t234) ∧ w'.cell? ⟨gb237, 2, none⟩ = some (.bool t235) ∧ w'.cell? ⟨gb237, 3, none⟩ = some (.int .i64 t236) ∧ w'.cell? ⟨gb215, 0, none⟩ = some (.slice A0_0 l0_0.length c0_0) ∧ w'.cell? ⟨gb215, 1, none⟩ = some (.int .i64 a0_1) ∧ w'.cell? ⟨gb215, 2, none⟩ = some (.bool a0_2) ∧ w'.cell? ⟨gb215, 3, none⟩ = some (.int .i64 a0_3)) (ds := []) #[false, false, false, false, false] (by kernel_rfl) rfl rfl ⟨(blk_cell BK237.out 0).trans rfl, (blk_cell BK237.out 1).trans rfl, (blk_cell BK237.out 2).trans rfl, (blk_cell BK237.out 3).trans rfl, (blk_cell BK215.out 0).trans rfl, (blk_cell BK215.out 1).trans rfl, (blk_cell BK215.out 2).trans rfl, (blk_cell BK215.out 3).trans rfl⟩ (fun hHeld => ?_)
            generalize wc.drew = w164 at HO_231000 HO_238000 HO_246000 BK215 BK230 BK237 BK245 HB hHeld ⊢
            refine take_ (i := 0) (N := some 45) (v := ?_) (a' := ?_) #[true, false, false, false, false] rfl rfl (by kernel_rfl) (fun _ _ _ h => h) (Or.inl ⟨by rfl, ?_⟩) hHeld ?_ ?_
            rotate_left
            · rintro w' ⟨s0, s1, s2, s3, s4, s5, s6, s7⟩
              go_simp
              with_reducible rfl
            rotate_left
            · simp only [Act.put, List.setIfInBounds_toArray, List.set_cons_zero, List.set_cons_succ, i64_w, i32_w]
              rfl
            refine take_ (i := 1) (N := some 46) (v := ?_) (a' := ?_) #[true, true, false, false, false] rfl rfl (by kernel_rfl) (fun _ _ _ h => h) (Or.inl ⟨by rfl, ?_⟩) hHeld ?_ ?_
            rotate_left
            · rintro w' ⟨s0, s1, s2, s3, s4, s5, s6, s7⟩
              go_simp
              with_reducible rfl
            rotate_left
            · simp only [Act.put, List.setIfInBounds_toArray, List.set_cons_zero, List.set_cons_succ, i64_w, i32_w]
              rfl
            refine one_ (i := 2) (N := some 47) #[true, true, true, false, false] rfl rfl (by kernel_rfl) (by decide) (fun K hK => ?_)
            refine goes_ Try.func18 (by kernel_rfl) rfl #[.agg #[.slice A0_0 l0_0.length c0_0, .int .i64 a0_1, .bool a0_2, .int .i64 a0_3]] (by rfl) rfl rfl (by (try simp only [List.map_toArray, List.map_cons, List.map_nil]); first | done | rfl | (simp only [List.length_drop, List.length_take]; rfl)) ?_
            with_reducible refine (laws_toDisk.calls kj11 _ _ l0_0 a0_1 a0_2 a0_3 t247 t250 t251 t252 _ ?side1 ?side2 A57.out).mono ?_
            (case side1 => repeat (first | exact (Kd.C_below HR0_0.out HB.out) | (with_reducible refine Kd.C_alloc ?_ _) | (with_reducible refine Kd.C_drewN ?_ _) | (with_reducible refine Kd.C_drew ?_)))
            (case side2 => exact HC0_0.out)
            rintro e w165 ⟨v248, rfl, ho0, hb⟩
            refine ⟨_, rfl, ?_⟩
            have n0_ := Aside0.mk (Kd.S_told (Kd.S_old (by (with_reducible repeat (first | apply Kd.S_alloc | apply Kd.S_drewN | apply Kd.S_drew)); exact HO_231000.out) hb) (Kd.S_base ho0))
            have n1_ := Aside0.mk (Kd.S_told (Kd.S_old (by (with_reducible repeat (first | apply Kd.S_alloc | apply Kd.S_drewN | apply Kd.S_drew)); exact HO_238000.out) hb) (Kd.S_base ho0))
            have n2_ := Aside0.mk (Kd.S_told (Kd.S_old (by (with_reducible repeat (first | apply Kd.S_alloc | apply Kd.S_drewN | apply Kd.S_drew)); exact HO_246000.out) hb) (Kd.S_base ho0))
            have n3_ := Aside0.mk (Kd.S_lower (Kd.S_new' (Kd.S_new' (Kd.S_new' (Kd.S_mono (Kd.S_bound ho0) (fun k_ h_ => (⟨h_.1, (by first | exact h_.2.1 | simpa only [World.size_setCell] using h_.2.1)⟩ : _ ∧ w164.heap.size ≤ k_))) (Kd.S_lt (by (with_reducible repeat (first | apply Kd.S_alloc | apply Kd.S_drewN | apply Kd.S_drew)); exact HO_231000.out))) (Kd.S_lt (by (with_reducible repeat (first | apply Kd.S_alloc | apply Kd.S_drewN | apply Kd.S_drew)); exact HO_238000.out))) (Kd.S_lt (by (with_reducible repeat (first | apply Kd.S_alloc | apply Kd.S_drewN | apply Kd.S_drew)); exact HO_246000.out))) (below_size (by repeat (first | (with_reducible first | exact HB.out | apply below_alloc | apply pw_below_drewN | apply below_drew1 | refine below_set ?_ GE215.out | refine below_set ?_ GE230.out | refine below_set ?_ GE237.out | refine below_set ?_ GE245.out) | exact HB.out))))
            have n4_ := Aside0.mk (blk_below (g := gb215) (o := .cells #[.slice A0_0 l0_0.length c0_0, .int .i64 a0_1, .bool a0_2, .int .i64 a0_3] 30 (0, 0)) (by (with_reducible repeat (first | refine blk_drewN ?_ _ | refine blk_drew ?_ | refine blk_alloc ?_ _)); exact BK215.out) hb)
            have n5_ := Aside0.mk (blk_below (g := gb230) (o := .cells #[.slice Ao21 t223.length co21, .int .i64 t226, .bool t227, .int .i64 t228] 24 (0, 0)) (by (with_reducible repeat (first | refine blk_drewN ?_ _ | refine blk_drew ?_ | refine blk_alloc ?_ _)); exact BK230.out) hb)
            have n6_ := Aside0.mk (blk_below (g := gb237) (o := .cells #[.slice Ao27 t231.length co27, .int .i64 t234, .bool t235, .int .i64 t236] 24 (0, 0)) (by (with_reducible repeat (first | refine blk_drewN ?_ _ | refine blk_drew ?_ | refine blk_alloc ?_ _)); exact BK237.out) hb)
            have n7_ := Aside0.mk (blk_below (g := gb245) (o := .cells #[.slice Ao33 t238.length co33, .int .i64 t241, .bool t242, .int .i64 t243] 24 (0, 0)) (by (with_reducible repeat (first | refine blk_drewN ?_ _ | refine blk_drew ?_ | refine blk_alloc ?_ _)); exact BK245.out) hb)
            have n8_ := Aside0.mk (below_step (by repeat (first | (with_reducible first | exact HB.out | apply below_alloc | apply pw_below_drewN | apply below_drew1 | refine below_set ?_ GE215.out | refine below_set ?_ GE230.out | refine below_set ?_ GE237.out | refine below_set ?_ GE245.out) | exact HB.out)) hb)
            clear HO_231000
            clear HO_238000
            clear HO_246000
            clear BK215
            clear BK230
            clear BK237
            clear BK245
            clear HB
            have HO_231000 := n0_
            have HO_238000 := n1_
            have HO_246000 := n2_
            have HO249 := n3_
            have BK215 := n4_
            have BK230 := n5_
            have BK237 := n6_
            have BK245 := n7_
            have HB := n8_
            clear n0_ n1_ n2_ n3_ n4_ n5_ n6_ n7_ n8_
            (try clear hb)
            (try clear hb2)
            (try clear hk)
            (try clear hi)
            (try clear ho0)
            obtain ⟨Ao166, co166, eo166⟩ := Kd.S_slice HO249.out
            (first | subst eo166 | (injection eo166 with f1_ f2_ f3_; have f4_ := f1_.symm; have f5_ := f3_.symm; clear f1_ f2_ f3_; subst f4_; subst f5_))
            refine hK.out _ _ ⟨(blk_cell BK237.out 0).trans rfl, (blk_cell BK237.out 1).trans rfl, (blk_cell BK237.out 2).trans rfl, (blk_cell BK237.out 3).trans rfl, (blk_cell BK215.out 0).trans rfl, (blk_cell BK215.out 1).trans rfl, (blk_cell BK215.out 2).trans rfl, (blk_cell BK215.out 3).trans rfl⟩ (fun hHeld => ?_)
            clear hK K
            refine norm_ (a' := ?_) ?_ ?_
            rotate_left
            · show Act.put _ (some 47) _ = _
              simp only [Act.put, List.setIfInBounds_toArray, List.set_cons_zero, List.set_cons_succ, i64_w, i32_w]
              rfl
            refine one_ (i := 3) (N := some 48) #[true, true, true, true, false] rfl rfl (by kernel_rfl) (by decide) (fun K hK => ?_)
            refine goes_ Try.func13 (by kernel_rfl) rfl #[.agg #[.slice Ao27 t231.length co27, .int .i64 t234, .bool t235, .int .i64 t236], .agg #[.slice Ao166 t247.length co166, .int .i64 t250, .bool t251, .int .i64 t252]] (by rfl) rfl rfl (by (try simp only [List.map_toArray, List.map_cons, List.map_nil]); first | done | rfl | (simp only [List.length_drop, List.length_take]; rfl)) ?_
            with_reducible refine (laws_eqDisk.calls kj11 _ _ t231 t234 t235 t236 _ _ t247 t250 t251 t252 false _ ?side1 ?side2 ?side3 ?side4 A58.out).mono ?_
            (case side1 => repeat (first | exact (Kd.S_reads' HO_238000.out).2.2 | (with_reducible refine Kd.C_alloc ?_ _) | (with_reducible refine Kd.C_drewN ?_ _) | (with_reducible refine Kd.C_drew ?_)))
            (case side2 => exact (Kd.S_reads' HO_238000.out).2.1)
            (case side3 => repeat (first | exact (Kd.S_reads' HO249.out).2.2 | (with_reducible refine Kd.C_alloc ?_ _) | (with_reducible refine Kd.C_drewN ?_ _) | (with_reducible refine Kd.C_drew ?_)))
            (case side4 => exact (Kd.S_reads' HO249.out).2.1)
            rintro e w167 ⟨rfl, hb⟩
            refine ⟨_, rfl, ?_⟩
            have n0_ := Aside0.mk (Kd.S_below (by (with_reducible repeat (first | apply Kd.S_alloc | apply Kd.S_drewN | apply Kd.S_drew)); exact HO_231000.out) hb)
            have n1_ := Aside0.mk (Kd.S_below (by (with_reducible repeat (first | apply Kd.S_alloc | apply Kd.S_drewN | apply Kd.S_drew)); exact HO_238000.out) hb)
            have n2_ := Aside0.mk (Kd.S_below (by (with_reducible repeat (first | apply Kd.S_alloc | apply Kd.S_drewN | apply Kd.S_drew)); exact HO_246000.out) hb)
            have n3_ := Aside0.mk (Kd.S_below (by (with_reducible repeat (first | apply Kd.S_alloc | apply Kd.S_drewN | apply Kd.S_drew)); exact HO249.out) hb)
            have n4_ := Aside0.mk (blk_below (g := gb215) (o := .cells #[.slice A0_0 l0_0.length c0_0, .int .i64 a0_1, .bool a0_2, .int .i64 a0_3] 30 (0, 0)) (by (with_reducible repeat (first | refine blk_drewN ?_ _ | refine blk_drew ?_ | refine blk_alloc ?_ _)); exact BK215.out) hb)
            have n5_ := Aside0.mk (blk_below (g := gb230) (o := .cells #[.slice Ao21 t223.length co21, .int .i64 t226, .bool t227, .int .i64 t228] 24 (0, 0)) (by (with_reducible repeat (first | refine blk_drewN ?_ _ | refine blk_drew ?_ | refine blk_alloc ?_ _)); exact BK230.out) hb)
            have n6_ := Aside0.mk (blk_below (g := gb237) (o := .cells #[.slice Ao27 t231.length co27, .int .i64 t234, .bool t235, .int .i64 t236] 24 (0, 0)) (by (with_reducible repeat (first | refine blk_drewN ?_ _ | refine blk_drew ?_ | refine blk_alloc ?_ _)); exact BK237.out) hb)
            have n7_ := Aside0.mk (blk_below (g := gb245) (o := .cells #[.slice Ao33 t238.length co33, .int .i64 t241, .bool t242, .int .i64 t243] 24 (0, 0)) (by (with_reducible repeat (first | refine blk_drewN ?_ _ | refine blk_drew ?_ | refine blk_alloc ?_ _)); exact BK245.out) hb)
            have n8_ := Aside0.mk (below_step (by repeat (first | (with_reducible first | exact HB.out | apply below_alloc | apply pw_below_drewN | apply below_drew1 | refine below_set ?_ GE215.out | refine below_set ?_ GE230.out | refine below_set ?_ GE237.out | refine below_set ?_ GE245.out) | exact HB.out)) hb)
            clear HO_231000
            clear HO_238000
            clear HO_246000
            clear HO249
            clear BK215
            clear BK230
            clear BK237
            clear BK245
            clear HB
            have HO_231000 := n0_
            have HO_238000 := n1_
            have HO_246000 := n2_
            have HO249 := n3_
            have BK215 := n4_
            have BK230 := n5_
            have BK237 := n6_
            have BK245 := n7_
            have HB := n8_
            clear n0_ n1_ n2_ n3_ n4_ n5_ n6_ n7_ n8_
            (try clear hb)
            (try clear hb2)
            (try clear hk)
            (try clear hi)
            refine hK.out _ _ ⟨(blk_cell BK237.out 0).trans rfl, (blk_cell BK237.out 1).trans rfl, (blk_cell BK237.out 2).trans rfl, (blk_cell BK237.out 3).trans rfl, (blk_cell BK215.out 0).trans rfl, (blk_cell BK215.out 1).trans rfl, (blk_cell BK215.out 2).trans rfl, (blk_cell BK215.out 3).trans rfl⟩ (fun hHeld => ?_)
            clear hK K
            refine norm_ (a' := ?_) ?_ ?_
            rotate_left
            · show Act.put _ (some 48) _ = _
              simp only [Act.put, List.setIfInBounds_toArray, List.set_cons_zero, List.set_cons_succ, i64_w, i32_w]
              rfl
            refine pure_ (i := 4) (N := some 49) (v := ?_) (a' := ?_) #[true, true, true, true, true] rfl rfl (by kernel_rfl) (fun _ _ _ h => h) (Or.inl ⟨by rfl, ?_⟩) ?_ ?_
            rotate_left
            · intro w'
              go_simp
              with_reducible rfl
            rotate_left
            · simp only [Act.put, List.setIfInBounds_toArray, List.set_cons_zero, List.set_cons_succ, i64_w, i32_w]
              rfl
            refine done_ (by kernel_rfl) ?_
            try go_wp2
            go_ret
            exact ⟨by first | rfl | (simp [errW_none, errW_some] <;> rfl) | (simp [*, errW_none, errW_some] <;> rfl), by repeat (first | (with_reducible first | exact HB.out | apply below_alloc | apply pw_below_drewN | apply below_drew1 | refine below_set ?_ GE215.out | refine below_set ?_ GE230.out | refine below_set ?_ GE237.out | refine below_set ?_ GE245.out) | exact HB.out)⟩

end Go.Proofs.Ythbbcnjnbfhcbaa.PFnExactCutAfter
