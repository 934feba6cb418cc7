-- Written by a program of this session over the print of the kit (wip/t/patch_print.py).
import Derived.Test.YthbbcnjnbfhcbaaPFnExactRestartx0
import Derived.Test.YthbbcnjnbfhcbaaPFnExactRestartx1
import Derived.Test.YthbbcnjnbfhcbaaPFnExactRestartx2
import Derived.Test.YthbbcnjnbfhcbaaPFnExactRestartx3
import Derived.Test.YthbbcnjnbfhcbaaPFnExactRestartx4
namespace Go.Proofs.Ythbbcnjnbfhcbaa.PFnExactRestart
open Go.RowKit Go.Proofs.YthbbcnjnbfhcbaaW.PrintWords Go.Proofs.YthbbcnjnbfhcbaaW.PrintLast Go.Proofs.YthbbcnjnbfhcbaaW.PrintMore
attribute [local go_sem] max2_int min2_int max_two min_two max_three min_three max_four min_four   -- for this text's walks alone
set_option linter.unusedVariables false
set_option linter.unusedSimpArgs false

/-! ### laws_FnExactRestart: function 8 -/
mutual
def laws_FnExactRestart.j0 : Nat → Int → Int → Bool → List (List Int) → Int → Bool → Int → List (List Int) → Int → Bool → Int → List (List Int) → Int → Bool → Int → List (List Int) → Int → Bool → Int → Option (Bool)
  | 0, _, _, _, _, _, _, _, _, _, _, _, _, _, _, _, _, _, _, _ => none
  | k + 1, x5, x8, x40, x208000, x208001, x208002, x208003, x223000, x223001, x223002, x223003, x230000, x230001, x230002, x230003, x238000, x238001, x238002, x238003 => if x40 = true then (some false) else ((laws_toDisk.f k x208000 x208001 x208002 x208003).bind fun bt239 => ((laws_eqDisk.f k x230000 x230001 x230002 x230003 bt239.1 bt239.2.1 bt239.2.2.1 bt239.2.2.2).bind fun t245 => (if t245 = true then ((laws_markDisk.f k x230000 x230001 x230002 x230003 1).bind fun bt246 => (if bt246.1 < 0 then (laws_FnExactRestart.j1 k x5 true x208000 x208001 x208002 x208003 x223000 x223001 x223002 x223003 x238000 x238001 x238002 x238003) else ((laws_eqDisk.f k x238000 x238001 x238002 x238003 x223000 x223001 x223002 x223003).bind fun t248 => (if t248 = true then (laws_FnExactRestart.j1 k x5 (x8 != x5) x208000 x208001 x208002 x208003 x223000 x223001 x223002 x223003 x238000 x238001 x238002 x238003) else (laws_FnExactRestart.j1 k x5 true x208000 x208001 x208002 x208003 x223000 x223001 x223002 x223003 x238000 x238001 x238002 x238003))))) else (some false))))
def laws_FnExactRestart.j1 : Nat → Int → Bool → List (List Int) → Int → Bool → Int → List (List Int) → Int → Bool → Int → List (List Int) → Int → Bool → Int → Option (Bool)
  | 0, _, _, _, _, _, _, _, _, _, _, _, _, _, _ => none
  | k + 1, x5, x61, x208000, x208001, x208002, x208003, x223000, x223001, x223002, x223003, x238000, x238001, x238002, x238003 => if x61 = true then (some false) else ((laws_markDisk.f k x238000 x238001 x238002 x238003 1).bind fun bt249 => ((laws_heldDisk.f k bt249.2 x238001 x238002 x238003 1).bind fun t251 => (if t251 < 0 then (some false) else (if t251 = bt249.1 then ((laws_toDisk.f k x208000 x208001 x208002 x208003).bind fun bt252 => ((impl_Restart.f k bt252.1 bt252.2.1 bt252.2.2.1 bt252.2.2.2).bind fun bt258 => ((laws_eqDisk.f k bt258.1 bt258.2.1 bt258.2.2.1 bt258.2.2.2.1 x223000 x223001 x223002 x223003).bind fun t266 => (if t266 = true then (laws_FnExactRestart.j2 k bt249.1 (bt258.2.2.2.2 != x5) bt249.2 x238001 x238002 x238003) else (laws_FnExactRestart.j2 k bt249.1 true bt249.2 x238001 x238002 x238003))))) else (some false)))))
def laws_FnExactRestart.j2 : Nat → Int → Bool → List (List Int) → Int → Bool → Int → Option (Bool)
  | 0, _, _, _, _, _, _ => none
  | k + 1, x10, x87, x238000, x238001, x238002, x238003 => if x87 = true then (some false) else ((laws_heldDisk.f k x238000 x238001 x238002 x238003 1).bind fun t267 => (if t267 < 0 then (some false) else (if t267 = x10 then (some true) else (some false))))
end
def laws_FnExactRestart.f (k : Nat) (l0_0 : List (List Int)) (a0_1 : Int) (a0_2 : Bool) (a0_3 : Int) : Option (Bool) := (laws_szDisk.f k l0_0 a0_1 a0_2 a0_3 1048576).bind fun t208 => (if t208 < 0 then (some true) else ((laws_toDisk.f k l0_0 a0_1 a0_2 a0_3).bind fun bt209 => ((spec_Restart.f k bt209.1 bt209.2.1 bt209.2.2.1 bt209.2.2.2).bind fun bt215 => ((laws_toDisk.f k l0_0 a0_1 a0_2 a0_3).bind fun bt223 => ((impl_Restart.f k bt223.1 bt223.2.1 bt223.2.2.1 bt223.2.2.2).bind fun bt230 => ((laws_eqDisk.f k bt230.1 bt230.2.1 bt230.2.2.1 bt230.2.2.2.1 bt215.1 bt215.2.1 bt215.2.2.1 bt215.2.2.2.1).bind fun t238 => (if t238 = true then (laws_FnExactRestart.j0 k bt215.2.2.2.2 bt230.2.2.2.2 (bt230.2.2.2.2 != bt215.2.2.2.2) l0_0 a0_1 a0_2 a0_3 bt215.1 bt215.2.1 bt215.2.2.1 bt215.2.2.2.1 bt223.1 bt223.2.1 bt223.2.2.1 bt223.2.2.2 bt230.1 bt230.2.1 bt230.2.2.1 bt230.2.2.2.1) else (laws_FnExactRestart.j0 k bt215.2.2.2.2 bt230.2.2.2.2 true l0_0 a0_1 a0_2 a0_3 bt215.1 bt215.2.1 bt215.2.2.1 bt215.2.2.2.1 bt223.1 bt223.2.1 bt223.2.2.1 bt223.2.2.2 bt230.1 bt230.2.1 bt230.2.2.1 bt230.2.2.2.1))))))))
theorem laws_FnExactRestart.mono_l : ∀ k, (∀ y0 y1 y2 y3 y4 y5 y6 y7 y8 y9 y10 y11 y12 y13 y14 y15 y16 y17 y18, LeO (laws_FnExactRestart.j0 k y0 y1 y2 y3 y4 y5 y6 y7 y8 y9 y10 y11 y12 y13 y14 y15 y16 y17 y18) (laws_FnExactRestart.j0 (k + 1) y0 y1 y2 y3 y4 y5 y6 y7 y8 y9 y10 y11 y12 y13 y14 y15 y16 y17 y18)) ∧ (∀ y0 y1 y2 y3 y4 y5 y6 y7 y8 y9 y10 y11 y12 y13, LeO (laws_FnExactRestart.j1 k y0 y1 y2 y3 y4 y5 y6 y7 y8 y9 y10 y11 y12 y13) (laws_FnExactRestart.j1 (k + 1) y0 y1 y2 y3 y4 y5 y6 y7 y8 y9 y10 y11 y12 y13)) ∧ (∀ y0 y1 y2 y3 y4 y5, LeO (laws_FnExactRestart.j2 k y0 y1 y2 y3 y4 y5) (laws_FnExactRestart.j2 (k + 1) y0 y1 y2 y3 y4 y5))
  | 0 => ⟨fun _ _ _ _ _ _ _ _ _ _ _ _ _ _ _ _ _ _ _ r h => by simp [laws_FnExactRestart.j0] at h, fun _ _ _ _ _ _ _ _ _ _ _ _ _ _ r h => by simp [laws_FnExactRestart.j1] at h, fun _ _ _ _ _ _ r h => by simp [laws_FnExactRestart.j2] at h⟩
  | k + 1 => by
    obtain ⟨ih0, ih1, ih2⟩ := laws_FnExactRestart.mono_l k
    refine ⟨?_, ?_, ?_⟩
    · intro y0 y1 y2 y3 y4 y5 y6 y7 y8 y9 y10 y11 y12 y13 y14 y15 y16 y17 y18
      unfold laws_FnExactRestart.j0
      repeat' first
      | (with_reducible exact ih0 _ _ _ _ _ _ _ _ _ _ _ _ _ _ _ _ _ _ _)
      | (with_reducible exact ih1 _ _ _ _ _ _ _ _ _ _ _ _ _ _)
      | (with_reducible exact ih2 _ _ _ _ _ _)
      | (with_reducible exact impl_Restart.mono _ _ _ _ _)
      | (with_reducible exact laws_eqDisk.mono _ _ _ _ _ _ _ _ _)
      | (with_reducible exact laws_heldDisk.mono _ _ _ _ _ _)
      | (with_reducible exact laws_markDisk.mono _ _ _ _ _ _)
      | (with_reducible exact laws_szDisk.mono _ _ _ _ _ _)
      | (with_reducible exact laws_toDisk.mono _ _ _ _ _)
      | (with_reducible exact spec_Restart.mono _ _ _ _ _)
      | (with_reducible exact LeO.refl _)
      | (with_reducible exact LeO.none _)
      | (with_reducible refine LeO.ite ?_ ?_)
      | (with_reducible refine LeO.bind ?_ (fun _ => ?_))
      | exact ih0 _ _ _ _ _ _ _ _ _ _ _ _ _ _ _ _ _ _ _
      | exact ih1 _ _ _ _ _ _ _ _ _ _ _ _ _ _
      | exact ih2 _ _ _ _ _ _
      | exact impl_Restart.mono _ _ _ _ _
      | exact laws_eqDisk.mono _ _ _ _ _ _ _ _ _
      | exact laws_heldDisk.mono _ _ _ _ _ _
      | exact laws_markDisk.mono _ _ _ _ _ _
      | exact laws_szDisk.mono _ _ _ _ _ _
      | exact laws_toDisk.mono _ _ _ _ _
      | exact spec_Restart.mono _ _ _ _ _
      | exact LeO.none _
      | refine LeO.ite ?_ ?_
      | refine LeO.bind ?_ (fun _ => ?_)
    · intro y0 y1 y2 y3 y4 y5 y6 y7 y8 y9 y10 y11 y12 y13
      unfold laws_FnExactRestart.j1
      repeat' first
      | (with_reducible exact ih0 _ _ _ _ _ _ _ _ _ _ _ _ _ _ _ _ _ _ _)
      | (with_reducible exact ih1 _ _ _ _ _ _ _ _ _ _ _ _ _ _)
      | (with_reducible exact ih2 _ _ _ _ _ _)
      | (with_reducible exact impl_Restart.mono _ _ _ _ _)
      | (with_reducible exact laws_eqDisk.mono _ _ _ _ _ _ _ _ _)
      | (with_reducible exact laws_heldDisk.mono _ _ _ _ _ _)
      | (with_reducible exact laws_markDisk.mono _ _ _ _ _ _)
      | (with_reducible exact laws_szDisk.mono _ _ _ _ _ _)
      | (with_reducible exact laws_toDisk.mono _ _ _ _ _)
      | (with_reducible exact spec_Restart.mono _ _ _ _ _)
      | (with_reducible exact LeO.refl _)
      | (with_reducible exact LeO.none _)
      | (with_reducible refine LeO.ite ?_ ?_)
      | (with_reducible refine LeO.bind ?_ (fun _ => ?_))
      | exact ih0 _ _ _ _ _ _ _ _ _ _ _ _ _ _ _ _ _ _ _
      | exact ih1 _ _ _ _ _ _ _ _ _ _ _ _ _ _
      | exact ih2 _ _ _ _ _ _
      | exact impl_Restart.mono _ _ _ _ _
      | exact laws_eqDisk.mono _ _ _ _ _ _ _ _ _
      | exact laws_heldDisk.mono _ _ _ _ _ _
      | exact laws_markDisk.mono _ _ _ _ _ _
      | exact laws_szDisk.mono _ _ _ _ _ _
      | exact laws_toDisk.mono _ _ _ _ _
      | exact spec_Restart.mono _ _ _ _ _
      | exact LeO.none _
      | refine LeO.ite ?_ ?_
      | refine LeO.bind ?_ (fun _ => ?_)
    · intro y0 y1 y2 y3 y4 y5
      unfold laws_FnExactRestart.j2
      repeat' first
      | (with_reducible exact ih0 _ _ _ _ _ _ _ _ _ _ _ _ _ _ _ _ _ _ _)
      | (with_reducible exact ih1 _ _ _ _ _ _ _ _ _ _ _ _ _ _)
      | (with_reducible exact ih2 _ _ _ _ _ _)
      | (with_reducible exact impl_Restart.mono _ _ _ _ _)
      | (with_reducible exact laws_eqDisk.mono _ _ _ _ _ _ _ _ _)
      | (with_reducible exact laws_heldDisk.mono _ _ _ _ _ _)
      | (with_reducible exact laws_markDisk.mono _ _ _ _ _ _)
      | (with_reducible exact laws_szDisk.mono _ _ _ _ _ _)
      | (with_reducible exact laws_toDisk.mono _ _ _ _ _)
      | (with_reducible exact spec_Restart.mono _ _ _ _ _)
      | (with_reducible exact LeO.refl _)
      | (with_reducible exact LeO.none _)
      | (with_reducible refine LeO.ite ?_ ?_)
      | (with_reducible refine LeO.bind ?_ (fun _ => ?_))
      | exact ih0 _ _ _ _ _ _ _ _ _ _ _ _ _ _ _ _ _ _ _
      | exact ih1 _ _ _ _ _ _ _ _ _ _ _ _ _ _
      | exact ih2 _ _ _ _ _ _
      | exact impl_Restart.mono _ _ _ _ _
      | exact laws_eqDisk.mono _ _ _ _ _ _ _ _ _
      | exact laws_heldDisk.mono _ _ _ _ _ _
      | exact laws_markDisk.mono _ _ _ _ _ _
      | exact laws_szDisk.mono _ _ _ _ _ _
      | exact laws_toDisk.mono _ _ _ _ _
      | exact spec_Restart.mono _ _ _ _ _
      | exact LeO.none _
      | refine LeO.ite ?_ ?_
      | refine LeO.bind ?_ (fun _ => ?_)
theorem laws_FnExactRestart.mono : ∀ a0 a1 a2 a3 k, LeO (laws_FnExactRestart.f k a0 a1 a2 a3) (laws_FnExactRestart.f (k + 1) a0 a1 a2 a3) := by
  intro a0 a1 a2 a3 k
  obtain ⟨ih0, ih1, ih2⟩ := laws_FnExactRestart.mono_l k
  unfold laws_FnExactRestart.f
  repeat' first
      | (with_reducible exact ih0 _ _ _ _ _ _ _ _ _ _ _ _ _ _ _ _ _ _ _)
      | (with_reducible exact ih1 _ _ _ _ _ _ _ _ _ _ _ _ _ _)
      | (with_reducible exact ih2 _ _ _ _ _ _)
      | (with_reducible exact impl_Restart.mono _ _ _ _ _)
      | (with_reducible exact laws_eqDisk.mono _ _ _ _ _ _ _ _ _)
      | (with_reducible exact laws_heldDisk.mono _ _ _ _ _ _)
      | (with_reducible exact laws_markDisk.mono _ _ _ _ _ _)
      | (with_reducible exact laws_szDisk.mono _ _ _ _ _ _)
      | (with_reducible exact laws_toDisk.mono _ _ _ _ _)
      | (with_reducible exact spec_Restart.mono _ _ _ _ _)
      | (with_reducible exact LeO.refl _)
      | (with_reducible exact LeO.none _)
      | (with_reducible refine LeO.ite ?_ ?_)
      | (with_reducible refine LeO.bind ?_ (fun _ => ?_))
      | exact ih0 _ _ _ _ _ _ _ _ _ _ _ _ _ _ _ _ _ _ _
      | exact ih1 _ _ _ _ _ _ _ _ _ _ _ _ _ _
      | exact ih2 _ _ _ _ _ _
      | exact impl_Restart.mono _ _ _ _ _
      | exact laws_eqDisk.mono _ _ _ _ _ _ _ _ _
      | exact laws_heldDisk.mono _ _ _ _ _ _
      | exact laws_markDisk.mono _ _ _ _ _ _
      | exact laws_szDisk.mono _ _ _ _ _ _
      | exact laws_toDisk.mono _ _ _ _ _
      | exact spec_Restart.mono _ _ _ _ _
      | exact LeO.none _
      | refine LeO.ite ?_ ?_
      | refine LeO.bind ?_ (fun _ => ?_)
set_option maxHeartbeats 8000000 in
set_option maxRecDepth 100000 in
theorem laws_FnExactRestart.calls (k : Nat) (A0_0 : Option Addr) (c0_0 : Nat) (l0_0 : List (List Int)) (a0_1 : Int) (a0_2 : Bool) (a0_3 : Int) (r : Bool) (w : World) (hr0_0 : Kd.C (Kd.slice 5 (Kd.int .u8)) w A0_0 l0_0.length l0_0) (hc0_0 : l0_0.length ≤ c0_0) (h : laws_FnExactRestart.f k l0_0 a0_1 a0_2 a0_3 = some r) :
    Calls Try.prog 8 #[.agg #[.slice A0_0 l0_0.length c0_0, .int .i64 a0_1, .bool a0_2, .int .i64 a0_3]] w fun e w' => e = .returned (.bool r) ∧ Below w.heap.size w w' := by
  have hu30 := Try.underlying30
  have hu24 := Try.underlying24
  have HR0_0 := Aside0.mk hr0_0
  have HC0_0 := Aside0.mk hc0_0
  clear hr0_0 hc0_0
  have HB := Aside0.mk (Below.refl w.heap.size w)
  have H : ((laws_szDisk.f k l0_0 a0_1 a0_2 a0_3 1048576).bind fun t208 => (if t208 < 0 then (some true) else ((laws_toDisk.f k l0_0 a0_1 a0_2 a0_3).bind fun bt209 => ((spec_Restart.f k bt209.1 bt209.2.1 bt209.2.2.1 bt209.2.2.2).bind fun bt215 => ((laws_toDisk.f k l0_0 a0_1 a0_2 a0_3).bind fun bt223 => ((impl_Restart.f k bt223.1 bt223.2.1 bt223.2.2.1 bt223.2.2.2).bind fun bt230 => ((laws_eqDisk.f k bt230.1 bt230.2.1 bt230.2.2.1 bt230.2.2.2.1 bt215.1 bt215.2.1 bt215.2.2.1 bt215.2.2.2.1).bind fun t238 => (if t238 = true then (laws_FnExactRestart.j0 k bt215.2.2.2.2 bt230.2.2.2.2 (bt230.2.2.2.2 != bt215.2.2.2.2) l0_0 a0_1 a0_2 a0_3 bt215.1 bt215.2.1 bt215.2.2.1 bt215.2.2.2.1 bt223.1 bt223.2.1 bt223.2.2.1 bt223.2.2.2 bt230.1 bt230.2.1 bt230.2.2.1 bt230.2.2.2.1) else (laws_FnExactRestart.j0 k bt215.2.2.2.2 bt230.2.2.2.2 true l0_0 a0_1 a0_2 a0_3 bt215.1 bt215.2.1 bt215.2.2.1 bt215.2.2.2.1 bt223.1 bt223.2.1 bt223.2.2.1 bt223.2.2.2 bt230.1 bt230.2.1 bt230.2.2.1 bt230.2.2.2.1))))))))) = some r := h
  clear h
  replace H := Option.bind_eq_some_iff.mp H
  obtain ⟨t208, A20, H⟩ := H
  replace H : (if t208 < 0 then (some true) else ((laws_toDisk.f k l0_0 a0_1 a0_2 a0_3).bind fun bt209 => ((spec_Restart.f k bt209.1 bt209.2.1 bt209.2.2.1 bt209.2.2.2).bind fun bt215 => ((laws_toDisk.f k l0_0 a0_1 a0_2 a0_3).bind fun bt223 => ((impl_Restart.f k bt223.1 bt223.2.1 bt223.2.2.1 bt223.2.2.2).bind fun bt230 => ((laws_eqDisk.f k bt230.1 bt230.2.1 bt230.2.2.1 bt230.2.2.2.1 bt215.1 bt215.2.1 bt215.2.2.1 bt215.2.2.2.1).bind fun t238 => (if t238 = true then (laws_FnExactRestart.j0 k bt215.2.2.2.2 bt230.2.2.2.2 (bt230.2.2.2.2 != bt215.2.2.2.2) l0_0 a0_1 a0_2 a0_3 bt215.1 bt215.2.1 bt215.2.2.1 bt215.2.2.2.1 bt223.1 bt223.2.1 bt223.2.2.1 bt223.2.2.2 bt230.1 bt230.2.1 bt230.2.2.1 bt230.2.2.2.1) else (laws_FnExactRestart.j0 k bt215.2.2.2.2 bt230.2.2.2.2 true l0_0 a0_1 a0_2 a0_3 bt215.1 bt215.2.1 bt215.2.2.1 bt215.2.2.2.1 bt223.1 bt223.2.1 bt223.2.2.1 bt223.2.2.2 bt230.1 bt230.2.1 bt230.2.2.1 bt230.2.2.2.1)))))))) = some r := H
  have A2 := Aside0.mk A20
  clear A20
  by_cases c3 : t208 < 0
  · rw [if_pos c3] at H
    have c3b0 : decide (t208 < 0) = true := decide_eq_true c3
    clear c3
    obtain rfl := Option.some.inj H
    go_enter Try.func8, Try.ntmps8
    go_wp2_with (first | ((with_reducible refine gate_dst (N := 1) rfl ?_); refine box_event ?hg (N := 1) ?hd (cs := #[.slice A0_0 l0_0.length c0_0, .int .i64 a0_1, .bool a0_2, .int .i64 a0_3]) (t := 30) ?hr ?_; (case hd => rfl); (case hg => rfl); (case hr => first | (go_simp; done) | (go_simp; rfl)); intro gb207 hg w4 hbox hb; have n0_ := Aside0.mk (below_step (by repeat (first | (with_reducible first | exact HB.out | apply below_alloc | apply pw_below_drewN | apply below_drew1) | exact HB.out)) hb); have n1_ := Aside0.mk (hbox); have n2_ := Aside0.mk ((by rw [hg]; exact (below_size (by repeat (first | (with_reducible first | exact HB.out | apply below_alloc | apply pw_below_drewN | apply below_drew1) | exact HB.out))) : w.heap.size ≤ gb207)); have n3_ := Aside0.mk ((by rw [hg]; exact (below_size (by repeat (first | (with_reducible first | exact HB.out | apply below_alloc | apply pw_below_drewN | apply below_drew1) | exact HB.out))) : w.heap.size ≤ gb207)); clear HB; have HB := n0_; have BK207 := n1_; have GW207 := n2_; have GE207 := n3_; clear n0_ n1_ n2_ n3_; clear hb hbox hg; have hcz5_0 : w4.cell? ⟨gb207, 0, none⟩ = some (.slice A0_0 l0_0.length c0_0) := (blk_cell BK207.out 0).trans rfl; have hcz5_1 : w4.cell? ⟨gb207, 1, none⟩ = some (.int .i64 a0_1) := (blk_cell BK207.out 1).trans rfl; have hcz5_2 : w4.cell? ⟨gb207, 2, none⟩ = some (.bool a0_2) := (blk_cell BK207.out 2).trans rfl; have hcz5_3 : w4.cell? ⟨gb207, 3, none⟩ = some (.int .i64 a0_3) := (blk_cell BK207.out 3).trans rfl; have hfz5_0 := blk_frozen BK207.out 0; have hfz5_1 := blk_frozen BK207.out 1; have hfz5_2 := blk_frozen BK207.out 2; have hfz5_3 := blk_frozen BK207.out 3) | ((with_reducible refine gate_callee (f := 16) rfl ?_); refine goesL_ (some 16) rfl rfl Try.func16 (by kernel_rfl) rfl #[.agg #[.slice A0_0 l0_0.length c0_0, .int .i64 a0_1, .bool a0_2, .int .i64 a0_3], .int .i64 1048576] rfl (by (try simp only [List.map_toArray, List.map_cons, List.map_nil]); first | done | rfl | (simp only [List.length_drop, List.length_take]; rfl)) ?_; (with_reducible refine (laws_szDisk.calls k _ _ l0_0 a0_1 a0_2 a0_3 1048576 t208 _ ?side1 ?side2 A2.out).mono ?_); (case side1 => repeat (first | exact (Kd.C_below HR0_0.out HB.out) | (with_reducible refine Kd.C_alloc ?_ _) | (with_reducible refine Kd.C_drewN ?_ _) | (with_reducible refine Kd.C_drew ?_))); (case side2 => exact HC0_0.out); rintro e w6 ⟨rfl, hb⟩; refine ⟨_, rfl, ?_⟩; have n0_ := Aside0.mk (blk_below (g := gb207) (o := .cells #[.slice A0_0 l0_0.length c0_0, .int .i64 a0_1, .bool a0_2, .int .i64 a0_3] 30 (0, 0)) (by (with_reducible repeat (first | refine blk_drewN ?_ _ | refine blk_drew ?_ | refine blk_alloc ?_ _)); exact BK207.out) hb); have n1_ := Aside0.mk (below_step (by repeat (first | (with_reducible first | exact HB.out | apply below_alloc | apply pw_below_drewN | apply below_drew1 | refine below_set ?_ GE207.out) | exact HB.out)) hb); clear BK207; clear HB; have BK207 := n0_; have HB := n1_; clear n0_ n1_; (try clear hb); (try clear hb2); (try clear hk); (try clear hi)))
    go_ret
    exact ⟨by first | rfl | (simp [errW_none, errW_some] <;> rfl) | (simp [*, errW_none, errW_some] <;> rfl), by repeat (first | (with_reducible first | exact HB.out | apply below_alloc | apply pw_below_drewN | apply below_drew1 | refine below_set ?_ GE207.out) | exact HB.out)⟩
  · rw [if_neg c3] at H
    have c3b0 : decide (t208 < 0) = false := decide_eq_false c3
    clear c3
    replace H := Option.bind_eq_some_iff.mp H
    obtain ⟨⟨t209, t212, t213, t214⟩, A70, H⟩ := H
    replace H : ((spec_Restart.f k t209 t212 t213 t214).bind fun bt215 => ((laws_toDisk.f k l0_0 a0_1 a0_2 a0_3).bind fun bt223 => ((impl_Restart.f k bt223.1 bt223.2.1 bt223.2.2.1 bt223.2.2.2).bind fun bt230 => ((laws_eqDisk.f k bt230.1 bt230.2.1 bt230.2.2.1 bt230.2.2.2.1 bt215.1 bt215.2.1 bt215.2.2.1 bt215.2.2.2.1).bind fun t238 => (if t238 = true then (laws_FnExactRestart.j0 k bt215.2.2.2.2 bt230.2.2.2.2 (bt230.2.2.2.2 != bt215.2.2.2.2) l0_0 a0_1 a0_2 a0_3 bt215.1 bt215.2.1 bt215.2.2.1 bt215.2.2.2.1 bt223.1 bt223.2.1 bt223.2.2.1 bt223.2.2.2 bt230.1 bt230.2.1 bt230.2.2.1 bt230.2.2.2.1) else (laws_FnExactRestart.j0 k bt215.2.2.2.2 bt230.2.2.2.2 true l0_0 a0_1 a0_2 a0_3 bt215.1 bt215.2.1 bt215.2.2.1 bt215.2.2.2.1 bt223.1 bt223.2.1 bt223.2.2.1 bt223.2.2.2 bt230.1 bt230.2.1 bt230.2.2.1 bt230.2.2.2.1)))))) = some r := H
    have A7 := Aside0.mk A70
    clear A70
    replace H := Option.bind_eq_some_iff.mp H
    obtain ⟨⟨t215, t218, t219, t220, t221⟩, A80, H⟩ := H
    replace H : ((laws_toDisk.f k l0_0 a0_1 a0_2 a0_3).bind fun bt223 => ((impl_Restart.f k bt223.1 bt223.2.1 bt223.2.2.1 bt223.2.2.2).bind fun bt230 => ((laws_eqDisk.f k bt230.1 bt230.2.1 bt230.2.2.1 bt230.2.2.2.1 t215 t218 t219 t220).bind fun t238 => (if t238 = true then (laws_FnExactRestart.j0 k t221 bt230.2.2.2.2 (bt230.2.2.2.2 != t221) l0_0 a0_1 a0_2 a0_3 t215 t218 t219 t220 bt223.1 bt223.2.1 bt223.2.2.1 bt223.2.2.2 bt230.1 bt230.2.1 bt230.2.2.1 bt230.2.2.2.1) else (laws_FnExactRestart.j0 k t221 bt230.2.2.2.2 true l0_0 a0_1 a0_2 a0_3 t215 t218 t219 t220 bt223.1 bt223.2.1 bt223.2.2.1 bt223.2.2.2 bt230.1 bt230.2.1 bt230.2.2.1 bt230.2.2.2.1))))) = some r := H
    have A8 := Aside0.mk A80
    clear A80
    replace H := Option.bind_eq_some_iff.mp H
    obtain ⟨⟨t223, t226, t227, t228⟩, A90, H⟩ := H
    replace H : ((impl_Restart.f k t223 t226 t227 t228).bind fun bt230 => ((laws_eqDisk.f k bt230.1 bt230.2.1 bt230.2.2.1 bt230.2.2.2.1 t215 t218 t219 t220).bind fun t238 => (if t238 = true then (laws_FnExactRestart.j0 k t221 bt230.2.2.2.2 (bt230.2.2.2.2 != t221) l0_0 a0_1 a0_2 a0_3 t215 t218 t219 t220 t223 t226 t227 t228 bt230.1 bt230.2.1 bt230.2.2.1 bt230.2.2.2.1) else (laws_FnExactRestart.j0 k t221 bt230.2.2.2.2 true l0_0 a0_1 a0_2 a0_3 t215 t218 t219 t220 t223 t226 t227 t228 bt230.1 bt230.2.1 bt230.2.2.1 bt230.2.2.2.1)))) = some r := H
    have A9 := Aside0.mk A90
    clear A90
    replace H := Option.bind_eq_some_iff.mp H
    obtain ⟨⟨t230, t233, t234, t235, t236⟩, A100, H⟩ := H
    replace H : ((laws_eqDisk.f k t230 t233 t234 t235 t215 t218 t219 t220).bind fun t238 => (if t238 = true then (laws_FnExactRestart.j0 k t221 t236 (t236 != t221) l0_0 a0_1 a0_2 a0_3 t215 t218 t219 t220 t223 t226 t227 t228 t230 t233 t234 t235) else (laws_FnExactRestart.j0 k t221 t236 true l0_0 a0_1 a0_2 a0_3 t215 t218 t219 t220 t223 t226 t227 t228 t230 t233 t234 t235))) = some r := H
    have A10 := Aside0.mk A100
    clear A100
    have HC11 := Aside0.mk H
    clear H
    go_enter Try.func8, Try.ntmps8
    go_upto_region 8 with (first | ((with_reducible refine gate_dst (N := 1) rfl ?_); refine box_event ?hg (N := 1) ?hd (cs := #[.slice A0_0 l0_0.length c0_0, .int .i64 a0_1, .bool a0_2, .int .i64 a0_3]) (t := 30) ?hr ?_; (case hd => rfl); (case hg => rfl); (case hr => first | (go_simp; done) | (go_simp; rfl)); intro gb207 hg w12 hbox hb; have n0_ := Aside0.mk (below_step (by repeat (first | (with_reducible first | exact HB.out | apply below_alloc | apply pw_below_drewN | apply below_drew1) | exact HB.out)) hb); have n1_ := Aside0.mk (hbox); have n2_ := Aside0.mk ((by rw [hg]; exact (below_size (by repeat (first | (with_reducible first | exact HB.out | apply below_alloc | apply pw_below_drewN | apply below_drew1) | exact HB.out))) : w.heap.size ≤ gb207)); have n3_ := Aside0.mk ((by rw [hg]; exact (below_size (by repeat (first | (with_reducible first | exact HB.out | apply below_alloc | apply pw_below_drewN | apply below_drew1) | exact HB.out))) : w.heap.size ≤ gb207)); clear HB; have HB := n0_; have BK207 := n1_; have GW207 := n2_; have GE207 := n3_; clear n0_ n1_ n2_ n3_; clear hb hbox hg; have hcz13_0 : w12.cell? ⟨gb207, 0, none⟩ = some (.slice A0_0 l0_0.length c0_0) := (blk_cell BK207.out 0).trans rfl; have hcz13_1 : w12.cell? ⟨gb207, 1, none⟩ = some (.int .i64 a0_1) := (blk_cell BK207.out 1).trans rfl; have hcz13_2 : w12.cell? ⟨gb207, 2, none⟩ = some (.bool a0_2) := (blk_cell BK207.out 2).trans rfl; have hcz13_3 : w12.cell? ⟨gb207, 3, none⟩ = some (.int .i64 a0_3) := (blk_cell BK207.out 3).trans rfl; have hfz13_0 := blk_frozen BK207.out 0; have hfz13_1 := blk_frozen BK207.out 1; have hfz13_2 := blk_frozen BK207.out 2; have hfz13_3 := blk_frozen BK207.out 3) | ((with_reducible refine gate_callee (f := 16) rfl ?_); refine goesL_ (some 16) rfl rfl Try.func16 (by kernel_rfl) rfl #[.agg #[.slice A0_0 l0_0.length c0_0, .int .i64 a0_1, .bool a0_2, .int .i64 a0_3], .int .i64 1048576] rfl (by (try simp only [List.map_toArray, List.map_cons, List.map_nil]); first | done | rfl | (simp only [List.length_drop, List.length_take]; rfl)) ?_; (with_reducible refine (laws_szDisk.calls k _ _ l0_0 a0_1 a0_2 a0_3 1048576 t208 _ ?side1 ?side2 A2.out).mono ?_); (case side1 => repeat (first | exact (Kd.C_below HR0_0.out HB.out) | (with_reducible refine Kd.C_alloc ?_ _) | (with_reducible refine Kd.C_drewN ?_ _) | (with_reducible refine Kd.C_drew ?_))); (case side2 => exact HC0_0.out); rintro e w14 ⟨rfl, hb⟩; refine ⟨_, rfl, ?_⟩; have n0_ := Aside0.mk (blk_below (g := gb207) (o := .cells #[.slice A0_0 l0_0.length c0_0, .int .i64 a0_1, .bool a0_2, .int .i64 a0_3] 30 (0, 0)) (by (with_reducible repeat (first | refine blk_drewN ?_ _ | refine blk_drew ?_ | refine blk_alloc ?_ _)); exact BK207.out) hb); have n1_ := Aside0.mk (below_step (by repeat (first | (with_reducible first | exact HB.out | apply below_alloc | apply pw_below_drewN | apply below_drew1 | refine below_set ?_ GE207.out) | exact HB.out)) hb); clear BK207; clear HB; have BK207 := n0_; have HB := n1_; clear n0_ n1_; (try clear hb); (try clear hb2); (try clear hk); (try clear hi); have hcz15_0 : w14.cell? ⟨gb207, 0, none⟩ = some (.slice A0_0 l0_0.length c0_0) := (blk_cell BK207.out 0).trans rfl; have hcz15_1 : w14.cell? ⟨gb207, 1, none⟩ = some (.int .i64 a0_1) := (blk_cell BK207.out 1).trans rfl; have hcz15_2 : w14.cell? ⟨gb207, 2, none⟩ = some (.bool a0_2) := (blk_cell BK207.out 2).trans rfl; have hcz15_3 : w14.cell? ⟨gb207, 3, none⟩ = some (.int .i64 a0_3) := (blk_cell BK207.out 3).trans rfl; have hfz15_0 := blk_frozen BK207.out 0; have hfz15_1 := blk_frozen BK207.out 1; have hfz15_2 := blk_frozen BK207.out 2; have hfz15_3 := blk_frozen BK207.out 3) | ((with_reducible refine gate_callee (f := 18) rfl ?_); refine goesL_ (some 21) rfl rfl Try.func18 (by kernel_rfl) rfl #[.agg #[.slice A0_0 l0_0.length c0_0, .int .i64 a0_1, .bool a0_2, .int .i64 a0_3]] rfl (by (try simp only [List.map_toArray, List.map_cons, List.map_nil]); first | done | rfl | (simp only [List.length_drop, List.length_take]; rfl)) ?_; (with_reducible refine (laws_toDisk.calls k _ _ l0_0 a0_1 a0_2 a0_3 t209 t212 t213 t214 _ ?side1 ?side2 A7.out).mono ?_); (case side1 => repeat (first | exact (Kd.C_below HR0_0.out HB.out) | (with_reducible refine Kd.C_alloc ?_ _) | (with_reducible refine Kd.C_drewN ?_ _) | (with_reducible refine Kd.C_drew ?_))); (case side2 => exact HC0_0.out); rintro e w16 ⟨v210, rfl, ho0, hb⟩; refine ⟨_, rfl, ?_⟩; have n0_ := Aside0.mk (Kd.S_lower (Kd.S_mono (Kd.S_bound ho0) (fun k_ h_ => (⟨h_.1, (by first | exact h_.2.1 | simpa only [World.size_setCell] using h_.2.1)⟩ : _ ∧ w14.heap.size ≤ k_))) (below_size (by repeat (first | (with_reducible first | exact HB.out | apply below_alloc | apply pw_below_drewN | apply below_drew1 | refine below_set ?_ GE207.out) | exact HB.out)))); have n1_ := Aside0.mk (blk_below (g := gb207) (o := .cells #[.slice A0_0 l0_0.length c0_0, .int .i64 a0_1, .bool a0_2, .int .i64 a0_3] 30 (0, 0)) (by (with_reducible repeat (first | refine blk_drewN ?_ _ | refine blk_drew ?_ | refine blk_alloc ?_ _)); exact BK207.out) hb); have n2_ := Aside0.mk (below_step (by repeat (first | (with_reducible first | exact HB.out | apply below_alloc | apply pw_below_drewN | apply below_drew1 | refine below_set ?_ GE207.out) | exact HB.out)) hb); clear BK207; clear HB; have HO211 := n0_; have BK207 := n1_; have HB := n2_; clear n0_ n1_ n2_; (try clear hb); (try clear hb2); (try clear hk); (try clear hi); (try clear ho0); obtain ⟨Ao17, co17, eo17⟩ := Kd.S_slice HO211.out; subst eo17) | ((with_reducible refine gate_callee (f := 30) rfl ?_); refine goesL_ (some 22) rfl rfl Try.func30 (by kernel_rfl) rfl #[.agg #[.slice Ao17 t209.length co17, .int .i64 t212, .bool t213, .int .i64 t214]] rfl (by (try simp only [List.map_toArray, List.map_cons, List.map_nil]); first | done | rfl | (simp only [List.length_drop, List.length_take]; rfl)) ?_; (with_reducible refine (spec_Restart.calls k _ _ t209 t212 t213 t214 t215 t218 t219 t220 t221 _ ?side1 ?side2 A8.out).mono ?_); (case side1 => repeat (first | exact (Kd.S_reads' HO211.out).2.2 | (with_reducible refine Kd.C_alloc ?_ _) | (with_reducible refine Kd.C_drewN ?_ _) | (with_reducible refine Kd.C_drew ?_))); (case side2 => exact (Kd.S_reads' HO211.out).2.1); rintro e w18 ⟨v216, rfl, ho0, hb⟩; refine ⟨_, rfl, ?_⟩; have n0_ := Aside0.mk (Kd.S_told (Kd.S_old (by (with_reducible repeat (first | apply Kd.S_alloc | apply Kd.S_drewN | apply Kd.S_drew)); exact HO211.out) hb) (Kd.S_base ho0)); have n1_ := Aside0.mk (Kd.S_lower (Kd.S_new' (Kd.S_mono (Kd.S_bound ho0) (fun k_ h_ => (⟨h_.1, (by first | exact h_.2.1 | simpa only [World.size_setCell] using h_.2.1)⟩ : _ ∧ w16.heap.size ≤ k_))) (Kd.S_lt (by (with_reducible repeat (first | apply Kd.S_alloc | apply Kd.S_drewN | apply Kd.S_drew)); exact HO211.out))) (below_size (by repeat (first | (with_reducible first | exact HB.out | apply below_alloc | apply pw_below_drewN | apply below_drew1 | refine below_set ?_ GE207.out) | exact HB.out)))); have n2_ := Aside0.mk (blk_below (g := gb207) (o := .cells #[.slice A0_0 l0_0.length c0_0, .int .i64 a0_1, .bool a0_2, .int .i64 a0_3] 30 (0, 0)) (by (with_reducible repeat (first | refine blk_drewN ?_ _ | refine blk_drew ?_ | refine blk_alloc ?_ _)); exact BK207.out) hb); have n3_ := Aside0.mk (below_step (by repeat (first | (with_reducible first | exact HB.out | apply below_alloc | apply pw_below_drewN | apply below_drew1 | refine below_set ?_ GE207.out) | exact HB.out)) hb); clear HO211; clear BK207; clear HB; have HO211 := n0_; have HO217 := n1_; have BK207 := n2_; have HB := n3_; clear n0_ n1_ n2_ n3_; (try clear hb); (try clear hb2); (try clear hk); (try clear hi); (try clear ho0)) | ((with_reducible refine gate_dst (N := 4) rfl ?_); refine box_event ?hg (N := 4) ?hd (cs := #[.slice none 0 0, .int .i64 0, .bool false, .int .i64 0]) (t := 24) ?hr ?_; (case hd => rfl); (case hg => rfl); (case hr => first | (go_simp; done) | (go_simp; rfl)); intro gb222 hg w19 hbox hb; have n0_ := Aside0.mk (Kd.S_below (by (with_reducible repeat (first | apply Kd.S_alloc | apply Kd.S_drewN | apply Kd.S_drew)); exact HO211.out) hb); have n1_ := Aside0.mk (Kd.S_below (by (with_reducible repeat (first | apply Kd.S_alloc | apply Kd.S_drewN | apply Kd.S_drew)); exact HO217.out) hb); have n2_ := Aside0.mk (blk_below (g := gb207) (o := .cells #[.slice A0_0 l0_0.length c0_0, .int .i64 a0_1, .bool a0_2, .int .i64 a0_3] 30 (0, 0)) (by (with_reducible repeat (first | refine blk_drewN ?_ _ | refine blk_drew ?_ | refine blk_alloc ?_ _)); exact BK207.out) hb); have n3_ := Aside0.mk (below_step (by repeat (first | (with_reducible first | exact HB.out | apply below_alloc | apply pw_below_drewN | apply below_drew1 | refine below_set ?_ GE207.out) | exact HB.out)) hb); have n4_ := Aside0.mk (hbox); have n5_ := Aside0.mk ((by rw [hg]; exact (below_size (by repeat (first | (with_reducible first | exact HB.out | apply below_alloc | apply pw_below_drewN | apply below_drew1 | refine below_set ?_ GE207.out) | exact HB.out))) : w.heap.size ≤ gb222)); have n6_ := Aside0.mk ((by rw [hg]; exact (below_size (by repeat (first | (with_reducible first | exact HB.out | apply below_alloc | apply pw_below_drewN | apply below_drew1 | refine below_set ?_ GE207.out) | exact HB.out))) : w.heap.size ≤ gb222)); have n7_ := Aside0.mk ((by rw [hg]; exact Nat.ne_of_lt (blk_lt (g := gb207) (o := .cells #[.slice A0_0 l0_0.length c0_0, .int .i64 a0_1, .bool a0_2, .int .i64 a0_3] 30 (0, 0)) (by (with_reducible repeat (first | refine blk_drewN ?_ _ | refine blk_drew ?_ | refine blk_alloc ?_ _)); exact BK207.out)) : gb207 ≠ gb222)); have n8_ := Aside0.mk ((by rw [hg]; exact Nat.ne_of_gt (blk_lt (g := gb207) (o := .cells #[.slice A0_0 l0_0.length c0_0, .int .i64 a0_1, .bool a0_2, .int .i64 a0_3] 30 (0, 0)) (by (with_reducible repeat (first | refine blk_drewN ?_ _ | refine blk_drew ?_ | refine blk_alloc ?_ _)); exact BK207.out)) : gb222 ≠ gb207)); clear HO211; clear HO217; clear BK207; clear HB; have HO211 := n0_; have HO217 := n1_; have BK207 := n2_; have HB := n3_; have BK222 := n4_; have GW222 := n5_; have GE222 := n6_; have NB207_222 := n7_; have NB222_207 := n8_; clear n0_ n1_ n2_ n3_ n4_ n5_ n6_ n7_ n8_; clear hb hbox hg; obtain ⟨Ao20, co20, eo20⟩ := Kd.S_slice HO217.out; subst eo20; have hnb21 := NB222_207.out; have hnc21 := NB207_222.out; have hcz22_0 : w19.cell? ⟨gb222, 0, none⟩ = some (.slice none 0 0) := (blk_cell BK222.out 0).trans rfl; have hcz22_1 : w19.cell? ⟨gb222, 1, none⟩ = some (.int .i64 0) := (blk_cell BK222.out 1).trans rfl; have hcz22_2 : w19.cell? ⟨gb222, 2, none⟩ = some (.bool false) := (blk_cell BK222.out 2).trans rfl; have hcz22_3 : w19.cell? ⟨gb222, 3, none⟩ = some (.int .i64 0) := (blk_cell BK222.out 3).trans rfl; have hfz22_0 := blk_frozen BK222.out 0; have hfz22_1 := blk_frozen BK222.out 1; have hfz22_2 := blk_frozen BK222.out 2; have hfz22_3 := blk_frozen BK222.out 3; have hcz23_0 : w19.cell? ⟨gb207, 0, none⟩ = some (.slice A0_0 l0_0.length c0_0) := (blk_cell BK207.out 0).trans rfl; have hcz23_1 : w19.cell? ⟨gb207, 1, none⟩ = some (.int .i64 a0_1) := (blk_cell BK207.out 1).trans rfl; have hcz23_2 : w19.cell? ⟨gb207, 2, none⟩ = some (.bool a0_2) := (blk_cell BK207.out 2).trans rfl; have hcz23_3 : w19.cell? ⟨gb207, 3, none⟩ = some (.int .i64 a0_3) := (blk_cell BK207.out 3).trans rfl; have hfz23_0 := blk_frozen BK207.out 0; have hfz23_1 := blk_frozen BK207.out 1; have hfz23_2 := blk_frozen BK207.out 2; have hfz23_3 := blk_frozen BK207.out 3) | ((with_reducible refine gate_callee (f := 18) rfl ?_); refine goesL_ (some 26) rfl rfl Try.func18 (by kernel_rfl) rfl #[.agg #[.slice A0_0 l0_0.length c0_0, .int .i64 a0_1, .bool a0_2, .int .i64 a0_3]] rfl (by (try simp only [List.map_toArray, List.map_cons, List.map_nil]); first | done | rfl | (simp only [List.length_drop, List.length_take]; rfl)) ?_; (with_reducible refine (laws_toDisk.calls k _ _ l0_0 a0_1 a0_2 a0_3 t223 t226 t227 t228 _ ?side1 ?side2 A9.out).mono ?_); (case side1 => exact Kd.C_below HR0_0.out (by repeat (first | (with_reducible first | exact HB.out | apply below_alloc | apply pw_below_drewN | apply below_drew1 | refine below_set ?_ GE207.out | refine below_set ?_ GE222.out) | exact HB.out))); (case side2 => exact HC0_0.out); rintro e w24 ⟨v224, rfl, ho0, hb⟩; refine ⟨_, rfl, ?_⟩; have n0_ := Aside0.mk (Kd.S_mono (Kd.S_told (Kd.S_old (by (with_reducible repeat (first | apply Kd.S_alloc | apply Kd.S_drewN | apply Kd.S_drew)); exact (Kd.S_mono (Kd.S_far (p := ⟨gb222, 3, none⟩) (Kd.S_far (p := ⟨gb222, 2, none⟩) (Kd.S_far (p := ⟨gb222, 1, none⟩) (Kd.S_far (p := ⟨gb222, 0, none⟩) (Kd.S_types HO211.out BK222.out (by decide)) (fun _ hk => hk.2) (.slice Ao20 t215.length co20)) (fun _ hk => hk.2) (.int .i64 t218)) (fun _ hk => hk.2) (.bool t219)) (fun _ hk => hk.2) (.int .i64 t220)) (fun _ h_ => h_.1))) hb) (Kd.S_base ho0)) (fun k_ h_ => (⟨h_.1, (by first | exact h_.2 | simpa only [World.size_setCell] using h_.2)⟩ : _ ∧ k_ < w19.heap.size))); have n1_ := Aside0.mk (Kd.S_mono (Kd.S_told (Kd.S_old (by (with_reducible repeat (first | apply Kd.S_alloc | apply Kd.S_drewN | apply Kd.S_drew)); exact (Kd.S_mono (Kd.S_far (p := ⟨gb222, 3, none⟩) (Kd.S_far (p := ⟨gb222, 2, none⟩) (Kd.S_far (p := ⟨gb222, 1, none⟩) (Kd.S_far (p := ⟨gb222, 0, none⟩) (Kd.S_types HO217.out BK222.out (by decide)) (fun _ hk => hk.2) (.slice Ao20 t215.length co20)) (fun _ hk => hk.2) (.int .i64 t218)) (fun _ hk => hk.2) (.bool t219)) (fun _ hk => hk.2) (.int .i64 t220)) (fun _ h_ => h_.1))) hb) (Kd.S_base ho0)) (fun k_ h_ => (⟨h_.1, (by first | exact h_.2 | simpa only [World.size_setCell] using h_.2)⟩ : _ ∧ k_ < w19.heap.size))); have n2_ := Aside0.mk (Kd.S_lower (Kd.S_new' (Kd.S_new' (Kd.S_mono (Kd.S_bound ho0) (fun k_ h_ => (⟨h_.1, (by first | exact h_.2.1 | simpa only [World.size_setCell] using h_.2.1)⟩ : _ ∧ w19.heap.size ≤ k_))) (Kd.S_lt (by (with_reducible repeat (first | apply Kd.S_alloc | apply Kd.S_drewN | apply Kd.S_drew)); exact (Kd.S_mono (Kd.S_far (p := ⟨gb222, 3, none⟩) (Kd.S_far (p := ⟨gb222, 2, none⟩) (Kd.S_far (p := ⟨gb222, 1, none⟩) (Kd.S_far (p := ⟨gb222, 0, none⟩) (Kd.S_types HO211.out BK222.out (by decide)) (fun _ hk => hk.2) (.slice Ao20 t215.length co20)) (fun _ hk => hk.2) (.int .i64 t218)) (fun _ hk => hk.2) (.bool t219)) (fun _ hk => hk.2) (.int .i64 t220)) (fun _ h_ => h_.1))))) (Kd.S_lt (by (with_reducible repeat (first | apply Kd.S_alloc | apply Kd.S_drewN | apply Kd.S_drew)); exact (Kd.S_mono (Kd.S_far (p := ⟨gb222, 3, none⟩) (Kd.S_far (p := ⟨gb222, 2, none⟩) (Kd.S_far (p := ⟨gb222, 1, none⟩) (Kd.S_far (p := ⟨gb222, 0, none⟩) (Kd.S_types HO217.out BK222.out (by decide)) (fun _ hk => hk.2) (.slice Ao20 t215.length co20)) (fun _ hk => hk.2) (.int .i64 t218)) (fun _ hk => hk.2) (.bool t219)) (fun _ hk => hk.2) (.int .i64 t220)) (fun _ h_ => h_.1))))) (below_size (by repeat (first | (with_reducible first | exact HB.out | apply below_alloc | apply pw_below_drewN | apply below_drew1 | refine below_set ?_ GE207.out | refine below_set ?_ GE222.out) | exact HB.out)))); have n3_ := Aside0.mk (blk_below (g := gb207) (o := .cells #[.slice A0_0 l0_0.length c0_0, .int .i64 a0_1, .bool a0_2, .int .i64 a0_3] 30 (0, 0)) (by (with_reducible repeat (first | refine blk_drewN ?_ _ | refine blk_drew ?_ | refine blk_alloc ?_ _)); refine blk_far ?_ NB207_222.out _; (with_reducible repeat (first | refine blk_drewN ?_ _ | refine blk_drew ?_ | refine blk_alloc ?_ _)); refine blk_far ?_ NB207_222.out _; (with_reducible repeat (first | refine blk_drewN ?_ _ | refine blk_drew ?_ | refine blk_alloc ?_ _)); refine blk_far ?_ NB207_222.out _; (with_reducible repeat (first | refine blk_drewN ?_ _ | refine blk_drew ?_ | refine blk_alloc ?_ _)); refine blk_far ?_ NB207_222.out _; (with_reducible repeat (first | refine blk_drewN ?_ _ | refine blk_drew ?_ | refine blk_alloc ?_ _)); exact BK207.out) hb); have n4_ := Aside0.mk (blk_below (g := gb222) (o := .cells #[.slice Ao20 t215.length co20, .int .i64 t218, .bool t219, .int .i64 t220] 24 (0, 0)) (by (with_reducible repeat (first | refine blk_drewN ?_ _ | refine blk_drew ?_ | refine blk_alloc ?_ _)); refine blk_put (cs := #[.slice Ao20 t215.length co20, .int .i64 t218, .bool t219, .int .i64 0]) ?_ 3 _ rfl; (with_reducible repeat (first | refine blk_drewN ?_ _ | refine blk_drew ?_ | refine blk_alloc ?_ _)); refine blk_put (cs := #[.slice Ao20 t215.length co20, .int .i64 t218, .bool false, .int .i64 0]) ?_ 2 _ rfl; (with_reducible repeat (first | refine blk_drewN ?_ _ | refine blk_drew ?_ | refine blk_alloc ?_ _)); refine blk_put (cs := #[.slice Ao20 t215.length co20, .int .i64 0, .bool false, .int .i64 0]) ?_ 1 _ rfl; (with_reducible repeat (first | refine blk_drewN ?_ _ | refine blk_drew ?_ | refine blk_alloc ?_ _)); refine blk_put (cs := #[.slice none 0 0, .int .i64 0, .bool false, .int .i64 0]) ?_ 0 _ rfl; (with_reducible repeat (first | refine blk_drewN ?_ _ | refine blk_drew ?_ | refine blk_alloc ?_ _)); exact BK222.out) hb); have n5_ := Aside0.mk (below_step (by repeat (first | (with_reducible first | exact HB.out | apply below_alloc | apply pw_below_drewN | apply below_drew1 | refine below_set ?_ GE207.out | refine below_set ?_ GE222.out) | exact HB.out)) hb); clear HO211; clear HO217; clear BK207; clear BK222; clear HB; have HO211 := n0_; have HO217 := n1_; have HO225 := n2_; have BK207 := n3_; have BK222 := n4_; have HB := n5_; clear n0_ n1_ n2_ n3_ n4_ n5_; (try clear hb); (try clear hb2); (try clear hk); (try clear hi); (try clear ho0)) | ((with_reducible refine gate_dst (N := 6) rfl ?_); refine box_event ?hg (N := 6) ?hd (cs := #[.slice none 0 0, .int .i64 0, .bool false, .int .i64 0]) (t := 24) ?hr ?_; (case hd => rfl); (case hg => rfl); (case hr => first | (go_simp; done) | (go_simp; rfl)); intro gb229 hg w25 hbox hb; have n0_ := Aside0.mk (Kd.S_below (by (with_reducible repeat (first | apply Kd.S_alloc | apply Kd.S_drewN | apply Kd.S_drew)); exact HO211.out) hb); have n1_ := Aside0.mk (Kd.S_below (by (with_reducible repeat (first | apply Kd.S_alloc | apply Kd.S_drewN | apply Kd.S_drew)); exact HO217.out) hb); have n2_ := Aside0.mk (Kd.S_below (by (with_reducible repeat (first | apply Kd.S_alloc | apply Kd.S_drewN | apply Kd.S_drew)); exact HO225.out) hb); have n3_ := Aside0.mk (blk_below (g := gb207) (o := .cells #[.slice A0_0 l0_0.length c0_0, .int .i64 a0_1, .bool a0_2, .int .i64 a0_3] 30 (0, 0)) (by (with_reducible repeat (first | refine blk_drewN ?_ _ | refine blk_drew ?_ | refine blk_alloc ?_ _)); exact BK207.out) hb); have n4_ := Aside0.mk (blk_below (g := gb222) (o := .cells #[.slice Ao20 t215.length co20, .int .i64 t218, .bool t219, .int .i64 t220] 24 (0, 0)) (by (with_reducible repeat (first | refine blk_drewN ?_ _ | refine blk_drew ?_ | refine blk_alloc ?_ _)); exact BK222.out) hb); have n5_ := Aside0.mk (below_step (by repeat (first | (with_reducible first | exact HB.out | apply below_alloc | apply pw_below_drewN | apply below_drew1 | refine below_set ?_ GE207.out | refine below_set ?_ GE222.out) | exact HB.out)) hb); have n6_ := Aside0.mk (hbox); have n7_ := Aside0.mk ((by rw [hg]; exact (below_size (by repeat (first | (with_reducible first | exact HB.out | apply below_alloc | apply pw_below_drewN | apply below_drew1 | refine below_set ?_ GE207.out | refine below_set ?_ GE222.out) | exact HB.out))) : w.heap.size ≤ gb229)); have n8_ := Aside0.mk ((by rw [hg]; exact (below_size (by repeat (first | (with_reducible first | exact HB.out | apply below_alloc | apply pw_below_drewN | apply below_drew1 | refine below_set ?_ GE207.out | refine below_set ?_ GE222.out) | exact HB.out))) : w.heap.size ≤ gb229)); have n9_ := Aside0.mk ((by rw [hg]; exact Nat.ne_of_lt (blk_lt (g := gb207) (o := .cells #[.slice A0_0 l0_0.length c0_0, .int .i64 a0_1, .bool a0_2, .int .i64 a0_3] 30 (0, 0)) (by (with_reducible repeat (first | refine blk_drewN ?_ _ | refine blk_drew ?_ | refine blk_alloc ?_ _)); exact BK207.out)) : gb207 ≠ gb229)); have n10_ := Aside0.mk ((by rw [hg]; exact Nat.ne_of_gt (blk_lt (g := gb207) (o := .cells #[.slice A0_0 l0_0.length c0_0, .int .i64 a0_1, .bool a0_2, .int .i64 a0_3] 30 (0, 0)) (by (with_reducible repeat (first | refine blk_drewN ?_ _ | refine blk_drew ?_ | refine blk_alloc ?_ _)); exact BK207.out)) : gb229 ≠ gb207)); have n11_ := Aside0.mk ((by rw [hg]; exact Nat.ne_of_lt (blk_lt (g := gb222) (o := .cells #[.slice Ao20 t215.length co20, .int .i64 t218, .bool t219, .int .i64 t220] 24 (0, 0)) (by (with_reducible repeat (first | refine blk_drewN ?_ _ | refine blk_drew ?_ | refine blk_alloc ?_ _)); exact BK222.out)) : gb222 ≠ gb229)); have n12_ := Aside0.mk ((by rw [hg]; exact Nat.ne_of_gt (blk_lt (g := gb222) (o := .cells #[.slice Ao20 t215.length co20, .int .i64 t218, .bool t219, .int .i64 t220] 24 (0, 0)) (by (with_reducible repeat (first | refine blk_drewN ?_ _ | refine blk_drew ?_ | refine blk_alloc ?_ _)); exact BK222.out)) : gb229 ≠ gb222)); clear HO211; clear HO217; clear HO225; clear BK207; clear BK222; clear HB; have HO211 := n0_; have HO217 := n1_; have HO225 := n2_; have BK207 := n3_; have BK222 := n4_; have HB := n5_; have BK229 := n6_; have GW229 := n7_; have GE229 := n8_; have NB207_229 := n9_; have NB229_207 := n10_; have NB222_229 := n11_; have NB229_222 := n12_; clear n0_ n1_ n2_ n3_ n4_ n5_ n6_ n7_ n8_ n9_ n10_ n11_ n12_; clear hb hbox hg; obtain ⟨Ao26, co26, eo26⟩ := Kd.S_slice HO225.out; subst eo26; have hnb27 := NB229_207.out; have hnc27 := NB207_229.out; have hnb28 := NB229_222.out; have hnc28 := NB222_229.out; have hcz29_0 : w25.cell? ⟨gb229, 0, none⟩ = some (.slice none 0 0) := (blk_cell BK229.out 0).trans rfl; have hcz29_1 : w25.cell? ⟨gb229, 1, none⟩ = some (.int .i64 0) := (blk_cell BK229.out 1).trans rfl; have hcz29_2 : w25.cell? ⟨gb229, 2, none⟩ = some (.bool false) := (blk_cell BK229.out 2).trans rfl; have hcz29_3 : w25.cell? ⟨gb229, 3, none⟩ = some (.int .i64 0) := (blk_cell BK229.out 3).trans rfl; have hfz29_0 := blk_frozen BK229.out 0; have hfz29_1 := blk_frozen BK229.out 1; have hfz29_2 := blk_frozen BK229.out 2; have hfz29_3 := blk_frozen BK229.out 3) | ((with_reducible refine gate_callee (f := 31) rfl ?_); refine goesL_ (some 29) rfl rfl Try.func31 (by kernel_rfl) rfl #[.agg #[.slice Ao26 t223.length co26, .int .i64 t226, .bool t227, .int .i64 t228]] rfl (by (try simp only [List.map_toArray, List.map_cons, List.map_nil]); first | done | rfl | (simp only [List.length_drop, List.length_take]; rfl)) ?_; (with_reducible refine (impl_Restart.calls k _ _ t223 t226 t227 t228 t230 t233 t234 t235 t236 _ ?side1 ?side2 A10.out).mono ?_); (case side1 => refine (Kd.S_reads' (e := 35) (base := w.heap.size) (ok := fun k_ => (((True ∧ w19.heap.size ≤ k_) ∧ some k_ ≠ (.slice Ao17 t209.length co17 : Value).ownBlock) ∧ some k_ ≠ (.slice Ao20 t215.length co20 : Value).ownBlock)) (n := t223.length) (c := co26) ?_).2.2; exact (by (with_reducible repeat (first | apply Kd.S_alloc | apply Kd.S_drewN | apply Kd.S_drew)); exact (Kd.S_mono (Kd.S_far (p := ⟨gb229, 3, none⟩) (Kd.S_far (p := ⟨gb229, 2, none⟩) (Kd.S_far (p := ⟨gb229, 1, none⟩) (Kd.S_far (p := ⟨gb229, 0, none⟩) (Kd.S_types HO225.out BK229.out (by decide)) (fun _ hk => hk.2) (.slice Ao26 t223.length co26)) (fun _ hk => hk.2) (.int .i64 t226)) (fun _ hk => hk.2) (.bool t227)) (fun _ hk => hk.2) (.int .i64 t228)) (fun _ h_ => h_.1)))); (case side2 => exact (Kd.S_reads' HO225.out).2.1); rintro e w30 ⟨v231, rfl, ho0, hb⟩; refine ⟨_, rfl, ?_⟩; have n0_ := Aside0.mk (Kd.S_mono (Kd.S_told (Kd.S_old (by (with_reducible repeat (first | apply Kd.S_alloc | apply Kd.S_drewN | apply Kd.S_drew)); exact (Kd.S_mono (Kd.S_far (p := ⟨gb229, 3, none⟩) (Kd.S_far (p := ⟨gb229, 2, none⟩) (Kd.S_far (p := ⟨gb229, 1, none⟩) (Kd.S_far (p := ⟨gb229, 0, none⟩) (Kd.S_types HO211.out BK229.out (by decide)) (fun _ hk => hk.2) (.slice Ao26 t223.length co26)) (fun _ hk => hk.2) (.int .i64 t226)) (fun _ hk => hk.2) (.bool t227)) (fun _ hk => hk.2) (.int .i64 t228)) (fun _ h_ => h_.1))) hb) (Kd.S_base ho0)) (fun k_ h_ => (⟨h_.1, (by first | exact h_.2 | simpa only [World.size_setCell] using h_.2)⟩ : _ ∧ k_ < w25.heap.size))); have n1_ := Aside0.mk (Kd.S_mono (Kd.S_told (Kd.S_old (by (with_reducible repeat (first | apply Kd.S_alloc | apply Kd.S_drewN | apply Kd.S_drew)); exact (Kd.S_mono (Kd.S_far (p := ⟨gb229, 3, none⟩) (Kd.S_far (p := ⟨gb229, 2, none⟩) (Kd.S_far (p := ⟨gb229, 1, none⟩) (Kd.S_far (p := ⟨gb229, 0, none⟩) (Kd.S_types HO217.out BK229.out (by decide)) (fun _ hk => hk.2) (.slice Ao26 t223.length co26)) (fun _ hk => hk.2) (.int .i64 t226)) (fun _ hk => hk.2) (.bool t227)) (fun _ hk => hk.2) (.int .i64 t228)) (fun _ h_ => h_.1))) hb) (Kd.S_base ho0)) (fun k_ h_ => (⟨h_.1, (by first | exact h_.2 | simpa only [World.size_setCell] using h_.2)⟩ : _ ∧ k_ < w25.heap.size))); have n2_ := Aside0.mk (Kd.S_mono (Kd.S_told (Kd.S_old (by (with_reducible repeat (first | apply Kd.S_alloc | apply Kd.S_drewN | apply Kd.S_drew)); exact (Kd.S_mono (Kd.S_far (p := ⟨gb229, 3, none⟩) (Kd.S_far (p := ⟨gb229, 2, none⟩) (Kd.S_far (p := ⟨gb229, 1, none⟩) (Kd.S_far (p := ⟨gb229, 0, none⟩) (Kd.S_types HO225.out BK229.out (by decide)) (fun _ hk => hk.2) (.slice Ao26 t223.length co26)) (fun _ hk => hk.2) (.int .i64 t226)) (fun _ hk => hk.2) (.bool t227)) (fun _ hk => hk.2) (.int .i64 t228)) (fun _ h_ => h_.1))) hb) (Kd.S_base ho0)) (fun k_ h_ => (⟨h_.1, (by first | exact h_.2 | simpa only [World.size_setCell] using h_.2)⟩ : _ ∧ k_ < w25.heap.size))); have n3_ := Aside0.mk (Kd.S_lower (Kd.S_new' (Kd.S_new' (Kd.S_new' (Kd.S_mono (Kd.S_bound ho0) (fun k_ h_ => (⟨h_.1, (by first | exact h_.2.1 | simpa only [World.size_setCell] using h_.2.1)⟩ : _ ∧ w25.heap.size ≤ k_))) (Kd.S_lt (by (with_reducible repeat (first | apply Kd.S_alloc | apply Kd.S_drewN | apply Kd.S_drew)); exact (Kd.S_mono (Kd.S_far (p := ⟨gb229, 3, none⟩) (Kd.S_far (p := ⟨gb229, 2, none⟩) (Kd.S_far (p := ⟨gb229, 1, none⟩) (Kd.S_far (p := ⟨gb229, 0, none⟩) (Kd.S_types HO211.out BK229.out (by decide)) (fun _ hk => hk.2) (.slice Ao26 t223.length co26)) (fun _ hk => hk.2) (.int .i64 t226)) (fun _ hk => hk.2) (.bool t227)) (fun _ hk => hk.2) (.int .i64 t228)) (fun _ h_ => h_.1))))) (Kd.S_lt (by (with_reducible repeat (first | apply Kd.S_alloc | apply Kd.S_drewN | apply Kd.S_drew)); exact (Kd.S_mono (Kd.S_far (p := ⟨gb229, 3, none⟩) (Kd.S_far (p := ⟨gb229, 2, none⟩) (Kd.S_far (p := ⟨gb229, 1, none⟩) (Kd.S_far (p := ⟨gb229, 0, none⟩) (Kd.S_types HO217.out BK229.out (by decide)) (fun _ hk => hk.2) (.slice Ao26 t223.length co26)) (fun _ hk => hk.2) (.int .i64 t226)) (fun _ hk => hk.2) (.bool t227)) (fun _ hk => hk.2) (.int .i64 t228)) (fun _ h_ => h_.1))))) (Kd.S_lt (by (with_reducible repeat (first | apply Kd.S_alloc | apply Kd.S_drewN | apply Kd.S_drew)); exact (Kd.S_mono (Kd.S_far (p := ⟨gb229, 3, none⟩) (Kd.S_far (p := ⟨gb229, 2, none⟩) (Kd.S_far (p := ⟨gb229, 1, none⟩) (Kd.S_far (p := ⟨gb229, 0, none⟩) (Kd.S_types HO225.out BK229.out (by decide)) (fun _ hk => hk.2) (.slice Ao26 t223.length co26)) (fun _ hk => hk.2) (.int .i64 t226)) (fun _ hk => hk.2) (.bool t227)) (fun _ hk => hk.2) (.int .i64 t228)) (fun _ h_ => h_.1))))) (below_size (by repeat (first | (with_reducible first | exact HB.out | apply below_alloc | apply pw_below_drewN | apply below_drew1 | refine below_set ?_ GE207.out | refine below_set ?_ GE222.out | refine below_set ?_ GE229.out) | exact HB.out)))); have n4_ := Aside0.mk (blk_below (g := gb207) (o := .cells #[.slice A0_0 l0_0.length c0_0, .int .i64 a0_1, .bool a0_2, .int .i64 a0_3] 30 (0, 0)) (by (with_reducible repeat (first | refine blk_drewN ?_ _ | refine blk_drew ?_ | refine blk_alloc ?_ _)); refine blk_far ?_ NB207_229.out _; (with_reducible repeat (first | refine blk_drewN ?_ _ | refine blk_drew ?_ | refine blk_alloc ?_ _)); refine blk_far ?_ NB207_229.out _; (with_reducible repeat (first | refine blk_drewN ?_ _ | refine blk_drew ?_ | refine blk_alloc ?_ _)); refine blk_far ?_ NB207_229.out _; (with_reducible repeat (first | refine blk_drewN ?_ _ | refine blk_drew ?_ | refine blk_alloc ?_ _)); refine blk_far ?_ NB207_229.out _; (with_reducible repeat (first | refine blk_drewN ?_ _ | refine blk_drew ?_ | refine blk_alloc ?_ _)); exact BK207.out) hb); have n5_ := Aside0.mk (blk_below (g := gb222) (o := .cells #[.slice Ao20 t215.length co20, .int .i64 t218, .bool t219, .int .i64 t220] 24 (0, 0)) (by (with_reducible repeat (first | refine blk_drewN ?_ _ | refine blk_drew ?_ | refine blk_alloc ?_ _)); refine blk_far ?_ NB222_229.out _; (with_reducible repeat (first | refine blk_drewN ?_ _ | refine blk_drew ?_ | refine blk_alloc ?_ _)); refine blk_far ?_ NB222_229.out _; (with_reducible repeat (first | refine blk_drewN ?_ _ | refine blk_drew ?_ | refine blk_alloc ?_ _)); refine blk_far ?_ NB222_229.out _; (with_reducible repeat (first | refine blk_drewN ?_ _ | refine blk_drew ?_ | refine blk_alloc ?_ _)); refine blk_far ?_ NB222_229.out _; (with_reducible repeat (first | refine blk_drewN ?_ _ | refine blk_drew ?_ | refine blk_alloc ?_ _)); exact BK222.out) hb); have n6_ := Aside0.mk (blk_below (g := gb229) (o := .cells #[.slice Ao26 t223.length co26, .int .i64 t226, .bool t227, .int .i64 t228] 24 (0, 0)) (by (with_reducible repeat (first | refine blk_drewN ?_ _ | refine blk_drew ?_ | refine blk_alloc ?_ _)); refine blk_put (cs := #[.slice Ao26 t223.length co26, .int .i64 t226, .bool t227, .int .i64 0]) ?_ 3 _ rfl; (with_reducible repeat (first | refine blk_drewN ?_ _ | refine blk_drew ?_ | refine blk_alloc ?_ _)); refine blk_put (cs := #[.slice Ao26 t223.length co26, .int .i64 t226, .bool false, .int .i64 0]) ?_ 2 _ rfl; (with_reducible repeat (first | refine blk_drewN ?_ _ | refine blk_drew ?_ | refine blk_alloc ?_ _)); refine blk_put (cs := #[.slice Ao26 t223.length co26, .int .i64 0, .bool false, .int .i64 0]) ?_ 1 _ rfl; (with_reducible repeat (first | refine blk_drewN ?_ _ | refine blk_drew ?_ | refine blk_alloc ?_ _)); refine blk_put (cs := #[.slice none 0 0, .int .i64 0, .bool false, .int .i64 0]) ?_ 0 _ rfl; (with_reducible repeat (first | refine blk_drewN ?_ _ | refine blk_drew ?_ | refine blk_alloc ?_ _)); exact BK229.out) hb); have n7_ := Aside0.mk (below_step (by repeat (first | (with_reducible first | exact HB.out | apply below_alloc | apply pw_below_drewN | apply below_drew1 | refine below_set ?_ GE207.out | refine below_set ?_ GE222.out | refine below_set ?_ GE229.out) | exact HB.out)) hb); clear HO211; clear HO217; clear HO225; clear BK207; clear BK222; clear BK229; clear HB; have HO211 := n0_; have HO217 := n1_; have HO225 := n2_; have HO232 := n3_; have BK207 := n4_; have BK222 := n5_; have BK229 := n6_; have HB := n7_; clear n0_ n1_ n2_ n3_ n4_ n5_ n6_ n7_; (try clear hb); (try clear hb2); (try clear hk); (try clear hi); (try clear ho0)) | ((with_reducible refine gate_dst (N := 7) rfl ?_); refine box_event ?hg (N := 7) ?hd (cs := #[.slice none 0 0, .int .i64 0, .bool false, .int .i64 0]) (t := 24) ?hr ?_; (case hd => rfl); (case hg => rfl); (case hr => first | (go_simp; done) | (go_simp; rfl)); intro gb237 hg w31 hbox hb; have n0_ := Aside0.mk (Kd.S_below (by (with_reducible repeat (first | apply Kd.S_alloc | apply Kd.S_drewN | apply Kd.S_drew)); exact HO211.out) hb); have n1_ := Aside0.mk (Kd.S_below (by (with_reducible repeat (first | apply Kd.S_alloc | apply Kd.S_drewN | apply Kd.S_drew)); exact HO217.out) hb); have n2_ := Aside0.mk (Kd.S_below (by (with_reducible repeat (first | apply Kd.S_alloc | apply Kd.S_drewN | apply Kd.S_drew)); exact HO225.out) hb); have n3_ := Aside0.mk (Kd.S_below (by (with_reducible repeat (first | apply Kd.S_alloc | apply Kd.S_drewN | apply Kd.S_drew)); exact HO232.out) hb); have n4_ := Aside0.mk (blk_below (g := gb207) (o := .cells #[.slice A0_0 l0_0.length c0_0, .int .i64 a0_1, .bool a0_2, .int .i64 a0_3] 30 (0, 0)) (by (with_reducible repeat (first | refine blk_drewN ?_ _ | refine blk_drew ?_ | refine blk_alloc ?_ _)); exact BK207.out) hb); have n5_ := Aside0.mk (blk_below (g := gb222) (o := .cells #[.slice Ao20 t215.length co20, .int .i64 t218, .bool t219, .int .i64 t220] 24 (0, 0)) (by (with_reducible repeat (first | refine blk_drewN ?_ _ | refine blk_drew ?_ | refine blk_alloc ?_ _)); exact BK222.out) hb); have n6_ := Aside0.mk (blk_below (g := gb229) (o := .cells #[.slice Ao26 t223.length co26, .int .i64 t226, .bool t227, .int .i64 t228] 24 (0, 0)) (by (with_reducible repeat (first | refine blk_drewN ?_ _ | refine blk_drew ?_ | refine blk_alloc ?_ _)); exact BK229.out) hb); have n7_ := Aside0.mk (below_step (by repeat (first | (with_reducible first | exact HB.out | apply below_alloc | apply pw_below_drewN | apply below_drew1 | refine below_set ?_ GE207.out | refine below_set ?_ GE222.out | refine below_set ?_ GE229.out) | exact HB.out)) hb); have n8_ := Aside0.mk (hbox); have n9_ := Aside0.mk ((by rw [hg]; exact (below_size (by repeat (first | (with_reducible first | exact HB.out | apply below_alloc | apply pw_below_drewN | apply below_drew1 | refine below_set ?_ GE207.out | refine below_set ?_ GE222.out | refine below_set ?_ GE229.out) | exact HB.out))) : w.heap.size ≤ gb237)); have n10_ := Aside0.mk ((by rw [hg]; exact (below_size (by repeat (first | (with_reducible first | exact HB.out | apply below_alloc | apply pw_below_drewN | apply below_drew1 | refine below_set ?_ GE207.out | refine below_set ?_ GE222.out | refine below_set ?_ GE229.out) | exact HB.out))) : w.heap.size ≤ gb237)); have n11_ := Aside0.mk ((by rw [hg]; exact Nat.ne_of_lt (blk_lt (g := gb207) (o := .cells #[.slice A0_0 l0_0.length c0_0, .int .i64 a0_1, .bool a0_2, .int .i64 a0_3] 30 (0, 0)) (by (with_reducible repeat (first | refine blk_drewN ?_ _ | refine blk_drew ?_ | refine blk_alloc ?_ _)); exact BK207.out)) : gb207 ≠ gb237)); have n12_ := Aside0.mk ((by rw [hg]; exact Nat.ne_of_gt (blk_lt (g := gb207) (o := .cells #[.slice A0_0 l0_0.length c0_0, .int .i64 a0_1, .bool a0_2, .int .i64 a0_3] 30 (0, 0)) (by (with_reducible repeat (first | refine blk_drewN ?_ _ | refine blk_drew ?_ | refine blk_alloc ?_ _)); exact BK207.out)) : gb237 ≠ gb207)); have n13_ := Aside0.mk ((by rw [hg]; exact Nat.ne_of_lt (blk_lt (g := gb222) (o := .cells #[.slice Ao20 t215.length co20, .int .i64 t218, .bool t219, .int .i64 t220] 24 (0, 0)) (by (with_reducible repeat (first | refine blk_drewN ?_ _ | refine blk_drew ?_ | refine blk_alloc ?_ _)); exact BK222.out)) : gb222 ≠ gb237)); have n14_ := Aside0.mk ((by rw [hg]; exact Nat.ne_of_gt (blk_lt (g := gb222) (o := .cells #[.slice Ao20 t215.length co20, .int .i64 t218, .bool t219, .int .i64 t220] 24 (0, 0)) (by (with_reducible repeat (first | refine blk_drewN ?_ _ | refine blk_drew ?_ | refine blk_alloc ?_ _)); exact BK222.out)) : gb237 ≠ gb222)); have n15_ := Aside0.mk ((by rw [hg]; exact Nat.ne_of_lt (blk_lt (g := gb229) (o := .cells #[.slice Ao26 t223.length co26, .int .i64 t226, .bool t227, .int .i64 t228] 24 (0, 0)) (by (with_reducible repeat (first | refine blk_drewN ?_ _ | refine blk_drew ?_ | refine blk_alloc ?_ _)); exact BK229.out)) : gb229 ≠ gb237)); have n16_ := Aside0.mk ((by rw [hg]; exact Nat.ne_of_gt (blk_lt (g := gb229) (o := .cells #[.slice Ao26 t223.length co26, .int .i64 t226, .bool t227, .int .i64 t228] 24 (0, 0)) (by (with_reducible repeat (first | refine blk_drewN ?_ _ | refine blk_drew ?_ | refine blk_alloc ?_ _)); exact BK229.out)) : gb237 ≠ gb229)); clear HO211; clear HO217; clear HO225; clear HO232; clear BK207; clear BK222; clear BK229; clear HB; have HO211 := n0_; have HO217 := n1_; have HO225 := n2_; have HO232 := n3_; have BK207 := n4_; have BK222 := n5_; have BK229 := n6_; have HB := n7_; have BK237 := n8_; have GW237 := n9_; have GE237 := n10_; have NB207_237 := n11_; have NB237_207 := n12_; have NB222_237 := n13_; have NB237_222 := n14_; have NB229_237 := n15_; have NB237_229 := n16_; clear n0_ n1_ n2_ n3_ n4_ n5_ n6_ n7_ n8_ n9_ n10_ n11_ n12_ n13_ n14_ n15_ n16_; clear hb hbox hg; obtain ⟨Ao32, co32, eo32⟩ := Kd.S_slice HO232.out; subst eo32; have hnb33 := NB237_207.out; have hnc33 := NB207_237.out; have hnb34 := NB237_222.out; have hnc34 := NB222_237.out; have hnb35 := NB237_229.out; have hnc35 := NB229_237.out; have hcz36_0 : w31.cell? ⟨gb237, 0, none⟩ = some (.slice none 0 0) := (blk_cell BK237.out 0).trans rfl; have hcz36_1 : w31.cell? ⟨gb237, 1, none⟩ = some (.int .i64 0) := (blk_cell BK237.out 1).trans rfl; have hcz36_2 : w31.cell? ⟨gb237, 2, none⟩ = some (.bool false) := (blk_cell BK237.out 2).trans rfl; have hcz36_3 : w31.cell? ⟨gb237, 3, none⟩ = some (.int .i64 0) := (blk_cell BK237.out 3).trans rfl; have hfz36_0 := blk_frozen BK237.out 0; have hfz36_1 := blk_frozen BK237.out 1; have hfz36_2 := blk_frozen BK237.out 2; have hfz36_3 := blk_frozen BK237.out 3))
    (try simp only [Act.put, List.setIfInBounds_toArray, List.set_cons_zero, List.set_cons_succ])
    go_cut [40] (fun v40 wc => ∃ (kq : Nat) (x40_10 : Bool), v40 = .bool x40_10 ∧ Aside0 (laws_FnExactRestart.j0 kq t221 t236 x40_10 l0_0 a0_1 a0_2 a0_3 t215 t218 t219 t220 t223 t226 t227 t228 t230 t233 t234 t235 = some r) ∧ Aside0 (kq ≤ k) ∧ Aside0 (Kd.S (Kd.slice 5 (Kd.int .u8)) 35 wc w.heap.size (fun k_ => some k_ ≠ ((.slice Ao26 t223.length co26) : Value).ownBlock ∧ some k_ ≠ ((.slice Ao32 t230.length co32) : Value).ownBlock ∧ w16.heap.size ≤ k_ ∧ k_ < w19.heap.size ∧ k_ < w25.heap.size) (.slice Ao20 t215.length co20) t215) ∧ Aside0 (Kd.S (Kd.slice 5 (Kd.int .u8)) 35 wc w.heap.size (fun k_ => some k_ ≠ ((.slice Ao20 t215.length co20) : Value).ownBlock ∧ some k_ ≠ ((.slice Ao32 t230.length co32) : Value).ownBlock ∧ w19.heap.size ≤ k_ ∧ k_ < w25.heap.size) (.slice Ao26 t223.length co26) t223) ∧ Aside0 (Kd.S (Kd.slice 5 (Kd.int .u8)) 35 wc w.heap.size (fun k_ => some k_ ≠ ((.slice Ao20 t215.length co20) : Value).ownBlock ∧ some k_ ≠ ((.slice Ao26 t223.length co26) : Value).ownBlock ∧ w25.heap.size ≤ k_) (.slice Ao32 t230.length co32) t230) ∧ Aside0 (wc.heap[gb207]? = some (.cells #[(.slice A0_0 l0_0.length c0_0), .int .i64 a0_1, .bool a0_2, .int .i64 a0_3] 30 (0, 0))) ∧ Aside0 (wc.heap[gb222]? = some (.cells #[(.slice Ao20 t215.length co20), .int .i64 t218, .bool t219, .int .i64 t220] 24 (0, 0))) ∧ Aside0 (wc.heap[gb229]? = some (.cells #[(.slice Ao26 t223.length co26), .int .i64 t226, .bool t227, .int .i64 t228] 24 (0, 0))) ∧ Aside0 (wc.heap[gb237]? = some (.cells #[(.slice Ao32 t230.length co32), .int .i64 t233, .bool t234, .int .i64 t235] 24 (0, 0))) ∧ Aside0 (Below w.heap.size w wc))
    case first =>
      have H := HC11.out
      clear HC11
      replace H := Option.bind_eq_some_iff.mp H
      obtain ⟨t238, A370, H⟩ := H
      replace H : (if t238 = true then (laws_FnExactRestart.j0 k t221 t236 (t236 != t221) l0_0 a0_1 a0_2 a0_3 t215 t218 t219 t220 t223 t226 t227 t228 t230 t233 t234 t235) else (laws_FnExactRestart.j0 k t221 t236 true l0_0 a0_1 a0_2 a0_3 t215 t218 t219 t220 t223 t226 t227 t228 t230 t233 t234 t235)) = some r := H
      have A37 := Aside0.mk A370
      clear A370
      by_cases c38 : t238 = true
      · subst c38
        have H1 : (laws_FnExactRestart.j0 k t221 t236 (t236 != t221) l0_0 a0_1 a0_2 a0_3 t215 t218 t219 t220 t223 t226 t227 t228 t230 t233 t234 t235) = some r := by rw [if_pos rfl] at H; exact H
        clear H
        have H := H1
        clear H1
        have H' := Aside0.mk H
        clear H
        have hnb39 := NB237_207.out
        have hnc39 := NB207_237.out
        have hnb40 := NB237_222.out
        have hnc40 := NB222_237.out
        have hnb41 := NB237_229.out
        have hnc41 := NB229_237.out
        have hcz42_0 : w31.cell? ⟨gb237, 0, none⟩ = some (.slice none 0 0) := (blk_cell BK237.out 0).trans rfl
        have hcz42_1 : w31.cell? ⟨gb237, 1, none⟩ = some (.int .i64 0) := (blk_cell BK237.out 1).trans rfl
        have hcz42_2 : w31.cell? ⟨gb237, 2, none⟩ = some (.bool false) := (blk_cell BK237.out 2).trans rfl
        have hcz42_3 : w31.cell? ⟨gb237, 3, none⟩ = some (.int .i64 0) := (blk_cell BK237.out 3).trans rfl
        have hfz42_0 := blk_frozen BK237.out 0
        have hfz42_1 := blk_frozen BK237.out 1
        have hfz42_2 := blk_frozen BK237.out 2
        have hfz42_3 := blk_frozen BK237.out 3
        have hnb43 := NB222_207.out
        have hnc43 := NB207_222.out
        have hnb44 := NB222_229.out
        have hnc44 := NB229_222.out
        have hcz45_0 : w31.cell? ⟨gb222, 0, none⟩ = some (.slice Ao20 t215.length co20) := (blk_cell BK222.out 0).trans rfl
        have hcz45_1 : w31.cell? ⟨gb222, 1, none⟩ = some (.int .i64 t218) := (blk_cell BK222.out 1).trans rfl
        have hcz45_2 : w31.cell? ⟨gb222, 2, none⟩ = some (.bool t219) := (blk_cell BK222.out 2).trans rfl
        have hcz45_3 : w31.cell? ⟨gb222, 3, none⟩ = some (.int .i64 t220) := (blk_cell BK222.out 3).trans rfl
        have hfz45_0 := blk_frozen BK222.out 0
        have hfz45_1 := blk_frozen BK222.out 1
        have hfz45_2 := blk_frozen BK222.out 2
        have hfz45_3 := blk_frozen BK222.out 3
        go_wp2_with (first | ((with_reducible refine gate_callee (f := 13) rfl ?_); refine goesL_ (some 34) rfl rfl Try.func13 (by kernel_rfl) rfl #[.agg #[.slice Ao32 t230.length co32, .int .i64 t233, .bool t234, .int .i64 t235], .agg #[.slice Ao20 t215.length co20, .int .i64 t218, .bool t219, .int .i64 t220]] rfl (by (try simp only [List.map_toArray, List.map_cons, List.map_nil]); first | done | rfl | (simp only [List.length_drop, List.length_take]; rfl)) ?_; (with_reducible refine (laws_eqDisk.calls k _ _ t230 t233 t234 t235 _ _ t215 t218 t219 t220 true _ ?side1 ?side2 ?side3 ?side4 A37.out).mono ?_); (case side1 => refine (Kd.S_reads' (e := 35) (base := w.heap.size) (ok := fun k_ => ((((True ∧ w25.heap.size ≤ k_) ∧ some k_ ≠ (.slice Ao17 t209.length co17 : Value).ownBlock) ∧ some k_ ≠ (.slice Ao20 t215.length co20 : Value).ownBlock) ∧ some k_ ≠ (.slice Ao26 t223.length co26 : Value).ownBlock)) (n := t230.length) (c := co32) ?_).2.2; exact (by (with_reducible repeat (first | apply Kd.S_alloc | apply Kd.S_drewN | apply Kd.S_drew)); exact (Kd.S_mono (Kd.S_far (p := ⟨gb237, 3, none⟩) (Kd.S_far (p := ⟨gb237, 2, none⟩) (Kd.S_far (p := ⟨gb237, 1, none⟩) (Kd.S_far (p := ⟨gb237, 0, none⟩) (Kd.S_types HO232.out BK237.out (by decide)) (fun _ hk => hk.2) (.slice Ao32 t230.length co32)) (fun _ hk => hk.2) (.int .i64 t233)) (fun _ hk => hk.2) (.bool t234)) (fun _ hk => hk.2) (.int .i64 t235)) (fun _ h_ => h_.1)))); (case side2 => exact (Kd.S_reads' HO232.out).2.1); (case side3 => refine (Kd.S_reads' (e := 35) (base := w.heap.size) (ok := fun k_ => ((((((True ∧ w16.heap.size ≤ k_) ∧ some k_ ≠ (.slice Ao17 t209.length co17 : Value).ownBlock) ∧ some k_ ≠ (.slice Ao26 t223.length co26 : Value).ownBlock) ∧ k_ < w19.heap.size) ∧ some k_ ≠ (.slice Ao32 t230.length co32 : Value).ownBlock) ∧ k_ < w25.heap.size)) (n := t215.length) (c := co20) ?_).2.2; exact (by (with_reducible repeat (first | apply Kd.S_alloc | apply Kd.S_drewN | apply Kd.S_drew)); exact (Kd.S_mono (Kd.S_far (p := ⟨gb237, 3, none⟩) (Kd.S_far (p := ⟨gb237, 2, none⟩) (Kd.S_far (p := ⟨gb237, 1, none⟩) (Kd.S_far (p := ⟨gb237, 0, none⟩) (Kd.S_types HO217.out BK237.out (by decide)) (fun _ hk => hk.2) (.slice Ao32 t230.length co32)) (fun _ hk => hk.2) (.int .i64 t233)) (fun _ hk => hk.2) (.bool t234)) (fun _ hk => hk.2) (.int .i64 t235)) (fun _ h_ => h_.1)))); (case side4 => exact (Kd.S_reads' HO217.out).2.1); rintro e w46 ⟨rfl, hb⟩; refine ⟨_, rfl, ?_⟩; have n0_ := Aside0.mk (Kd.S_below (by (with_reducible repeat (first | apply Kd.S_alloc | apply Kd.S_drewN | apply Kd.S_drew)); exact (Kd.S_mono (Kd.S_far (p := ⟨gb237, 3, none⟩) (Kd.S_far (p := ⟨gb237, 2, none⟩) (Kd.S_far (p := ⟨gb237, 1, none⟩) (Kd.S_far (p := ⟨gb237, 0, none⟩) (Kd.S_types HO211.out BK237.out (by decide)) (fun _ hk => hk.2) (.slice Ao32 t230.length co32)) (fun _ hk => hk.2) (.int .i64 t233)) (fun _ hk => hk.2) (.bool t234)) (fun _ hk => hk.2) (.int .i64 t235)) (fun _ h_ => h_.1))) hb); have n1_ := Aside0.mk (Kd.S_below (by (with_reducible repeat (first | apply Kd.S_alloc | apply Kd.S_drewN | apply Kd.S_drew)); exact (Kd.S_mono (Kd.S_far (p := ⟨gb237, 3, none⟩) (Kd.S_far (p := ⟨gb237, 2, none⟩) (Kd.S_far (p := ⟨gb237, 1, none⟩) (Kd.S_far (p := ⟨gb237, 0, none⟩) (Kd.S_types HO217.out BK237.out (by decide)) (fun _ hk => hk.2) (.slice Ao32 t230.length co32)) (fun _ hk => hk.2) (.int .i64 t233)) (fun _ hk => hk.2) (.bool t234)) (fun _ hk => hk.2) (.int .i64 t235)) (fun _ h_ => h_.1))) hb); have n2_ := Aside0.mk (Kd.S_below (by (with_reducible repeat (first | apply Kd.S_alloc | apply Kd.S_drewN | apply Kd.S_drew)); exact (Kd.S_mono (Kd.S_far (p := ⟨gb237, 3, none⟩) (Kd.S_far (p := ⟨gb237, 2, none⟩) (Kd.S_far (p := ⟨gb237, 1, none⟩) (Kd.S_far (p := ⟨gb237, 0, none⟩) (Kd.S_types HO225.out BK237.out (by decide)) (fun _ hk => hk.2) (.slice Ao32 t230.length co32)) (fun _ hk => hk.2) (.int .i64 t233)) (fun _ hk => hk.2) (.bool t234)) (fun _ hk => hk.2) (.int .i64 t235)) (fun _ h_ => h_.1))) hb); have n3_ := Aside0.mk (Kd.S_below (by (with_reducible repeat (first | apply Kd.S_alloc | apply Kd.S_drewN | apply Kd.S_drew)); exact (Kd.S_mono (Kd.S_far (p := ⟨gb237, 3, none⟩) (Kd.S_far (p := ⟨gb237, 2, none⟩) (Kd.S_far (p := ⟨gb237, 1, none⟩) (Kd.S_far (p := ⟨gb237, 0, none⟩) (Kd.S_types HO232.out BK237.out (by decide)) (fun _ hk => hk.2) (.slice Ao32 t230.length co32)) (fun _ hk => hk.2) (.int .i64 t233)) (fun _ hk => hk.2) (.bool t234)) (fun _ hk => hk.2) (.int .i64 t235)) (fun _ h_ => h_.1))) hb); have n4_ := Aside0.mk (blk_below (g := gb207) (o := .cells #[.slice A0_0 l0_0.length c0_0, .int .i64 a0_1, .bool a0_2, .int .i64 a0_3] 30 (0, 0)) (by (with_reducible repeat (first | refine blk_drewN ?_ _ | refine blk_drew ?_ | refine blk_alloc ?_ _)); refine blk_far ?_ NB207_237.out _; (with_reducible repeat (first | refine blk_drewN ?_ _ | refine blk_drew ?_ | refine blk_alloc ?_ _)); refine blk_far ?_ NB207_237.out _; (with_reducible repeat (first | refine blk_drewN ?_ _ | refine blk_drew ?_ | refine blk_alloc ?_ _)); refine blk_far ?_ NB207_237.out _; (with_reducible repeat (first | refine blk_drewN ?_ _ | refine blk_drew ?_ | refine blk_alloc ?_ _)); refine blk_far ?_ NB207_237.out _; (with_reducible repeat (first | refine blk_drewN ?_ _ | refine blk_drew ?_ | refine blk_alloc ?_ _)); exact BK207.out) hb); have n5_ := Aside0.mk (blk_below (g := gb222) (o := .cells #[.slice Ao20 t215.length co20, .int .i64 t218, .bool t219, .int .i64 t220] 24 (0, 0)) (by (with_reducible repeat (first | refine blk_drewN ?_ _ | refine blk_drew ?_ | refine blk_alloc ?_ _)); refine blk_far ?_ NB222_237.out _; (with_reducible repeat (first | refine blk_drewN ?_ _ | refine blk_drew ?_ | refine blk_alloc ?_ _)); refine blk_far ?_ NB222_237.out _; (with_reducible repeat (first | refine blk_drewN ?_ _ | refine blk_drew ?_ | refine blk_alloc ?_ _)); refine blk_far ?_ NB222_237.out _; (with_reducible repeat (first | refine blk_drewN ?_ _ | refine blk_drew ?_ | refine blk_alloc ?_ _)); refine blk_far ?_ NB222_237.out _; (with_reducible repeat (first | refine blk_drewN ?_ _ | refine blk_drew ?_ | refine blk_alloc ?_ _)); exact BK222.out) hb); have n6_ := Aside0.mk (blk_below (g := gb229) (o := .cells #[.slice Ao26 t223.length co26, .int .i64 t226, .bool t227, .int .i64 t228] 24 (0, 0)) (by (with_reducible repeat (first | refine blk_drewN ?_ _ | refine blk_drew ?_ | refine blk_alloc ?_ _)); refine blk_far ?_ NB229_237.out _; (with_reducible repeat (first | refine blk_drewN ?_ _ | refine blk_drew ?_ | refine blk_alloc ?_ _)); refine blk_far ?_ NB229_237.out _; (with_reducible repeat (first | refine blk_drewN ?_ _ | refine blk_drew ?_ | refine blk_alloc ?_ _)); refine blk_far ?_ NB229_237.out _; (with_reducible repeat (first | refine blk_drewN ?_ _ | refine blk_drew ?_ | refine blk_alloc ?_ _)); refine blk_far ?_ NB229_237.out _; (with_reducible repeat (first | refine blk_drewN ?_ _ | refine blk_drew ?_ | refine blk_alloc ?_ _)); exact BK229.out) hb); have n7_ := Aside0.mk (blk_below (g := gb237) (o := .cells #[.slice Ao32 t230.length co32, .int .i64 t233, .bool t234, .int .i64 t235] 24 (0, 0)) (by (with_reducible repeat (first | refine blk_drewN ?_ _ | refine blk_drew ?_ | refine blk_alloc ?_ _)); refine blk_put (cs := #[.slice Ao32 t230.length co32, .int .i64 t233, .bool t234, .int .i64 0]) ?_ 3 _ rfl; (with_reducible repeat (first | refine blk_drewN ?_ _ | refine blk_drew ?_ | refine blk_alloc ?_ _)); refine blk_put (cs := #[.slice Ao32 t230.length co32, .int .i64 t233, .bool false, .int .i64 0]) ?_ 2 _ rfl; (with_reducible repeat (first | refine blk_drewN ?_ _ | refine blk_drew ?_ | refine blk_alloc ?_ _)); refine blk_put (cs := #[.slice Ao32 t230.length co32, .int .i64 0, .bool false, .int .i64 0]) ?_ 1 _ rfl; (with_reducible repeat (first | refine blk_drewN ?_ _ | refine blk_drew ?_ | refine blk_alloc ?_ _)); refine blk_put (cs := #[.slice none 0 0, .int .i64 0, .bool false, .int .i64 0]) ?_ 0 _ rfl; (with_reducible repeat (first | refine blk_drewN ?_ _ | refine blk_drew ?_ | refine blk_alloc ?_ _)); exact BK237.out) hb); have n8_ := Aside0.mk (below_step (by repeat (first | (with_reducible first | exact HB.out | apply below_alloc | apply pw_below_drewN | apply below_drew1 | refine below_set ?_ GE207.out | refine below_set ?_ GE222.out | refine below_set ?_ GE229.out | refine below_set ?_ GE237.out) | exact HB.out)) hb); clear HO211; clear HO217; clear HO225; clear HO232; clear BK207; clear BK222; clear BK229; clear BK237; clear HB; have HO211 := n0_; have HO217 := n1_; have HO225 := n2_; have HO232 := n3_; have BK207 := n4_; have BK222 := n5_; have BK229 := n6_; have BK237 := n7_; have HB := n8_; clear n0_ n1_ n2_ n3_ n4_ n5_ n6_ n7_ n8_; (try clear hb); (try clear hb2); (try clear hk); (try clear hi)))
        go_meet
        case rel => exact ⟨_, ((t236 != t221)), (by first | rfl | (simp; done) | (simp [*]; done)), H', ⟨by first | omega | exact Nat.le_refl _⟩, ⟨by (with_reducible repeat (first | apply Kd.S_alloc | apply Kd.S_drewN | apply Kd.S_drew)); exact Kd.S_mono HO217.out (fun _ hk => ⟨hk.1.1.1.2, ⟨hk.1.2, ⟨hk.1.1.1.1.1.2, ⟨hk.1.1.2, hk.2⟩⟩⟩⟩)⟩, ⟨by (with_reducible repeat (first | apply Kd.S_alloc | apply Kd.S_drewN | apply Kd.S_drew)); exact Kd.S_mono HO225.out (fun _ hk => ⟨hk.1.1.2, ⟨hk.1.2, ⟨hk.1.1.1.1.2, hk.2⟩⟩⟩)⟩, ⟨by (with_reducible repeat (first | apply Kd.S_alloc | apply Kd.S_drewN | apply Kd.S_drew)); exact Kd.S_mono HO232.out (fun _ hk => ⟨hk.1.2, ⟨hk.2, hk.1.1.1.2⟩⟩)⟩, ⟨by (with_reducible repeat (first | refine blk_drewN ?_ _ | refine blk_drew ?_ | refine blk_alloc ?_ _)); exact BK207.out⟩, ⟨by (with_reducible repeat (first | refine blk_drewN ?_ _ | refine blk_drew ?_ | refine blk_alloc ?_ _)); exact BK222.out⟩, ⟨by (with_reducible repeat (first | refine blk_drewN ?_ _ | refine blk_drew ?_ | refine blk_alloc ?_ _)); exact BK229.out⟩, ⟨by (with_reducible repeat (first | refine blk_drewN ?_ _ | refine blk_drew ?_ | refine blk_alloc ?_ _)); exact BK237.out⟩, ⟨by repeat (first | (with_reducible first | exact HB.out | apply below_alloc | apply pw_below_drewN | apply below_drew1 | refine below_set ?_ GE207.out | refine below_set ?_ GE222.out | refine below_set ?_ GE229.out | refine below_set ?_ GE237.out) | exact HB.out)⟩⟩
      · replace c38 := Bool.eq_false_iff.mpr c38
        subst c38
        have H1 : (laws_FnExactRestart.j0 k t221 t236 true l0_0 a0_1 a0_2 a0_3 t215 t218 t219 t220 t223 t226 t227 t228 t230 t233 t234 t235) = some r := by rw [if_neg (show ¬ (false = true) by decide)] at H; exact H
        clear H
        have H := H1
        clear H1
        have H' := Aside0.mk H
        clear H
        have hnb47 := NB237_207.out
        have hnc47 := NB207_237.out
        have hnb48 := NB237_222.out
        have hnc48 := NB222_237.out
        have hnb49 := NB237_229.out
        have hnc49 := NB229_237.out
        have hcz50_0 : w31.cell? ⟨gb237, 0, none⟩ = some (.slice none 0 0) := (blk_cell BK237.out 0).trans rfl
        have hcz50_1 : w31.cell? ⟨gb237, 1, none⟩ = some (.int .i64 0) := (blk_cell BK237.out 1).trans rfl
        have hcz50_2 : w31.cell? ⟨gb237, 2, none⟩ = some (.bool false) := (blk_cell BK237.out 2).trans rfl
        have hcz50_3 : w31.cell? ⟨gb237, 3, none⟩ = some (.int .i64 0) := (blk_cell BK237.out 3).trans rfl
        have hfz50_0 := blk_frozen BK237.out 0
        have hfz50_1 := blk_frozen BK237.out 1
        have hfz50_2 := blk_frozen BK237.out 2
        have hfz50_3 := blk_frozen BK237.out 3
        have hnb51 := NB222_207.out
        have hnc51 := NB207_222.out
        have hnb52 := NB222_229.out
        have hnc52 := NB229_222.out
        have hcz53_0 : w31.cell? ⟨gb222, 0, none⟩ = some (.slice Ao20 t215.length co20) := (blk_cell BK222.out 0).trans rfl
        have hcz53_1 : w31.cell? ⟨gb222, 1, none⟩ = some (.int .i64 t218) := (blk_cell BK222.out 1).trans rfl
        have hcz53_2 : w31.cell? ⟨gb222, 2, none⟩ = some (.bool t219) := (blk_cell BK222.out 2).trans rfl
        have hcz53_3 : w31.cell? ⟨gb222, 3, none⟩ = some (.int .i64 t220) := (blk_cell BK222.out 3).trans rfl
        have hfz53_0 := blk_frozen BK222.out 0
        have hfz53_1 := blk_frozen BK222.out 1
        have hfz53_2 := blk_frozen BK222.out 2
        have hfz53_3 := blk_frozen BK222.out 3
        go_wp2_with (first | ((with_reducible refine gate_callee (f := 13) rfl ?_); refine goesL_ (some 34) rfl rfl Try.func13 (by kernel_rfl) rfl #[.agg #[.slice Ao32 t230.length co32, .int .i64 t233, .bool t234, .int .i64 t235], .agg #[.slice Ao20 t215.length co20, .int .i64 t218, .bool t219, .int .i64 t220]] rfl (by (try simp only [List.map_toArray, List.map_cons, List.map_nil]); first | done | rfl | (simp only [List.length_drop, List.length_take]; rfl)) ?_; (with_reducible refine (laws_eqDisk.calls k _ _ t230 t233 t234 t235 _ _ t215 t218 t219 t220 false _ ?side1 ?side2 ?side3 ?side4 A37.out).mono ?_); (case side1 => refine (Kd.S_reads' (e := 35) (base := w.heap.size) (ok := fun k_ => ((((True ∧ w25.heap.size ≤ k_) ∧ some k_ ≠ (.slice Ao17 t209.length co17 : Value).ownBlock) ∧ some k_ ≠ (.slice Ao20 t215.length co20 : Value).ownBlock) ∧ some k_ ≠ (.slice Ao26 t223.length co26 : Value).ownBlock)) (n := t230.length) (c := co32) ?_).2.2; exact (by (with_reducible repeat (first | apply Kd.S_alloc | apply Kd.S_drewN | apply Kd.S_drew)); exact (Kd.S_mono (Kd.S_far (p := ⟨gb237, 3, none⟩) (Kd.S_far (p := ⟨gb237, 2, none⟩) (Kd.S_far (p := ⟨gb237, 1, none⟩) (Kd.S_far (p := ⟨gb237, 0, none⟩) (Kd.S_types HO232.out BK237.out (by decide)) (fun _ hk => hk.2) (.slice Ao32 t230.length co32)) (fun _ hk => hk.2) (.int .i64 t233)) (fun _ hk => hk.2) (.bool t234)) (fun _ hk => hk.2) (.int .i64 t235)) (fun _ h_ => h_.1)))); (case side2 => exact (Kd.S_reads' HO232.out).2.1); (case side3 => refine (Kd.S_reads' (e := 35) (base := w.heap.size) (ok := fun k_ => ((((((True ∧ w16.heap.size ≤ k_) ∧ some k_ ≠ (.slice Ao17 t209.length co17 : Value).ownBlock) ∧ some k_ ≠ (.slice Ao26 t223.length co26 : Value).ownBlock) ∧ k_ < w19.heap.size) ∧ some k_ ≠ (.slice Ao32 t230.length co32 : Value).ownBlock) ∧ k_ < w25.heap.size)) (n := t215.length) (c := co20) ?_).2.2; exact (by (with_reducible repeat (first | apply Kd.S_alloc | apply Kd.S_drewN | apply Kd.S_drew)); exact (Kd.S_mono (Kd.S_far (p := ⟨gb237, 3, none⟩) (Kd.S_far (p := ⟨gb237, 2, none⟩) (Kd.S_far (p := ⟨gb237, 1, none⟩) (Kd.S_far (p := ⟨gb237, 0, none⟩) (Kd.S_types HO217.out BK237.out (by decide)) (fun _ hk => hk.2) (.slice Ao32 t230.length co32)) (fun _ hk => hk.2) (.int .i64 t233)) (fun _ hk => hk.2) (.bool t234)) (fun _ hk => hk.2) (.int .i64 t235)) (fun _ h_ => h_.1)))); (case side4 => exact (Kd.S_reads' HO217.out).2.1); rintro e w54 ⟨rfl, hb⟩; refine ⟨_, rfl, ?_⟩; have n0_ := Aside0.mk (Kd.S_below (by (with_reducible repeat (first | apply Kd.S_alloc | apply Kd.S_drewN | apply Kd.S_drew)); exact (Kd.S_mono (Kd.S_far (p := ⟨gb237, 3, none⟩) (Kd.S_far (p := ⟨gb237, 2, none⟩) (Kd.S_far (p := ⟨gb237, 1, none⟩) (Kd.S_far (p := ⟨gb237, 0, none⟩) (Kd.S_types HO211.out BK237.out (by decide)) (fun _ hk => hk.2) (.slice Ao32 t230.length co32)) (fun _ hk => hk.2) (.int .i64 t233)) (fun _ hk => hk.2) (.bool t234)) (fun _ hk => hk.2) (.int .i64 t235)) (fun _ h_ => h_.1))) hb); have n1_ := Aside0.mk (Kd.S_below (by (with_reducible repeat (first | apply Kd.S_alloc | apply Kd.S_drewN | apply Kd.S_drew)); exact (Kd.S_mono (Kd.S_far (p := ⟨gb237, 3, none⟩) (Kd.S_far (p := ⟨gb237, 2, none⟩) (Kd.S_far (p := ⟨gb237, 1, none⟩) (Kd.S_far (p := ⟨gb237, 0, none⟩) (Kd.S_types HO217.out BK237.out (by decide)) (fun _ hk => hk.2) (.slice Ao32 t230.length co32)) (fun _ hk => hk.2) (.int .i64 t233)) (fun _ hk => hk.2) (.bool t234)) (fun _ hk => hk.2) (.int .i64 t235)) (fun _ h_ => h_.1))) hb); have n2_ := Aside0.mk (Kd.S_below (by (with_reducible repeat (first | apply Kd.S_alloc | apply Kd.S_drewN | apply Kd.S_drew)); exact (Kd.S_mono (Kd.S_far (p := ⟨gb237, 3, none⟩) (Kd.S_far (p := ⟨gb237, 2, none⟩) (Kd.S_far (p := ⟨gb237, 1, none⟩) (Kd.S_far (p := ⟨gb237, 0, none⟩) (Kd.S_types HO225.out BK237.out (by decide)) (fun _ hk => hk.2) (.slice Ao32 t230.length co32)) (fun _ hk => hk.2) (.int .i64 t233)) (fun _ hk => hk.2) (.bool t234)) (fun _ hk => hk.2) (.int .i64 t235)) (fun _ h_ => h_.1))) hb); have n3_ := Aside0.mk (Kd.S_below (by (with_reducible repeat (first | apply Kd.S_alloc | apply Kd.S_drewN | apply Kd.S_drew)); exact (Kd.S_mono (Kd.S_far (p := ⟨gb237, 3, none⟩) (Kd.S_far (p := ⟨gb237, 2, none⟩) (Kd.S_far (p := ⟨gb237, 1, none⟩) (Kd.S_far (p := ⟨gb237, 0, none⟩) (Kd.S_types HO232.out BK237.out (by decide)) (fun _ hk => hk.2) (.slice Ao32 t230.length co32)) (fun _ hk => hk.2) (.int .i64 t233)) (fun _ hk => hk.2) (.bool t234)) (fun _ hk => hk.2) (.int .i64 t235)) (fun _ h_ => h_.1))) hb); have n4_ := Aside0.mk (blk_below (g := gb207) (o := .cells #[.slice A0_0 l0_0.length c0_0, .int .i64 a0_1, .bool a0_2, .int .i64 a0_3] 30 (0, 0)) (by (with_reducible repeat (first | refine blk_drewN ?_ _ | refine blk_drew ?_ | refine blk_alloc ?_ _)); refine blk_far ?_ NB207_237.out _; (with_reducible repeat (first | refine blk_drewN ?_ _ | refine blk_drew ?_ | refine blk_alloc ?_ _)); refine blk_far ?_ NB207_237.out _; (with_reducible repeat (first | refine blk_drewN ?_ _ | refine blk_drew ?_ | refine blk_alloc ?_ _)); refine blk_far ?_ NB207_237.out _; (with_reducible repeat (first | refine blk_drewN ?_ _ | refine blk_drew ?_ | refine blk_alloc ?_ _)); refine blk_far ?_ NB207_237.out _; (with_reducible repeat (first | refine blk_drewN ?_ _ | refine blk_drew ?_ | refine blk_alloc ?_ _)); exact BK207.out) hb); have n5_ := Aside0.mk (blk_below (g := gb222) (o := .cells #[.slice Ao20 t215.length co20, .int .i64 t218, .bool t219, .int .i64 t220] 24 (0, 0)) (by (with_reducible repeat (first | refine blk_drewN ?_ _ | refine blk_drew ?_ | refine blk_alloc ?_ _)); refine blk_far ?_ NB222_237.out _; (with_reducible repeat (first | refine blk_drewN ?_ _ | refine blk_drew ?_ | refine blk_alloc ?_ _)); refine blk_far ?_ NB222_237.out _; (with_reducible repeat (first | refine blk_drewN ?_ _ | refine blk_drew ?_ | refine blk_alloc ?_ _)); refine blk_far ?_ NB222_237.out _; (with_reducible repeat (first | refine blk_drewN ?_ _ | refine blk_drew ?_ | refine blk_alloc ?_ _)); refine blk_far ?_ NB222_237.out _; (with_reducible repeat (first | refine blk_drewN ?_ _ | refine blk_drew ?_ | refine blk_alloc ?_ _)); exact BK222.out) hb); have n6_ := Aside0.mk (blk_below (g := gb229) (o := .cells #[.slice Ao26 t223.length co26, .int .i64 t226, .bool t227, .int .i64 t228] 24 (0, 0)) (by (with_reducible repeat (first | refine blk_drewN ?_ _ | refine blk_drew ?_ | refine blk_alloc ?_ _)); refine blk_far ?_ NB229_237.out _; (with_reducible repeat (first | refine blk_drewN ?_ _ | refine blk_drew ?_ | refine blk_alloc ?_ _)); refine blk_far ?_ NB229_237.out _; (with_reducible repeat (first | refine blk_drewN ?_ _ | refine blk_drew ?_ | refine blk_alloc ?_ _)); refine blk_far ?_ NB229_237.out _; (with_reducible repeat (first | refine blk_drewN ?_ _ | refine blk_drew ?_ | refine blk_alloc ?_ _)); refine blk_far ?_ NB229_237.out _; (with_reducible repeat (first | refine blk_drewN ?_ _ | refine blk_drew ?_ | refine blk_alloc ?_ _)); exact BK229.out) hb); have n7_ := Aside0.mk (blk_below (g := gb237) (o := .cells #[.slice Ao32 t230.length co32, .int .i64 t233, .bool t234, .int .i64 t235] 24 (0, 0)) (by (with_reducible repeat (first | refine blk_drewN ?_ _ | refine blk_drew ?_ | refine blk_alloc ?_ _)); refine blk_put (cs := #[.slice Ao32 t230.length co32, .int .i64 t233, .bool t234, .int .i64 0]) ?_ 3 _ rfl; (with_reducible repeat (first | refine blk_drewN ?_ _ | refine blk_drew ?_ | refine blk_alloc ?_ _)); refine blk_put (cs := #[.slice Ao32 t230.length co32, .int .i64 t233, .bool false, .int .i64 0]) ?_ 2 _ rfl; (with_reducible repeat (first | refine blk_drewN ?_ _ | refine blk_drew ?_ | refine blk_alloc ?_ _)); refine blk_put (cs := #[.slice Ao32 t230.length co32, .int .i64 0, .bool false, .int .i64 0]) ?_ 1 _ rfl; (with_reducible repeat (first | refine blk_drewN ?_ _ | refine blk_drew ?_ | refine blk_alloc ?_ _)); refine blk_put (cs := #[.slice none 0 0, .int .i64 0, .bool false, .int .i64 0]) ?_ 0 _ rfl; (with_reducible repeat (first | refine blk_drewN ?_ _ | refine blk_drew ?_ | refine blk_alloc ?_ _)); exact BK237.out) hb); have n8_ := Aside0.mk (below_step (by repeat (first | (with_reducible first | exact HB.out | apply below_alloc | apply pw_below_drewN | apply below_drew1 | refine below_set ?_ GE207.out | refine below_set ?_ GE222.out | refine below_set ?_ GE229.out | refine below_set ?_ GE237.out) | exact HB.out)) hb); clear HO211; clear HO217; clear HO225; clear HO232; clear BK207; clear BK222; clear BK229; clear BK237; clear HB; have HO211 := n0_; have HO217 := n1_; have HO225 := n2_; have HO232 := n3_; have BK207 := n4_; have BK222 := n5_; have BK229 := n6_; have BK237 := n7_; have HB := n8_; clear n0_ n1_ n2_ n3_ n4_ n5_ n6_ n7_ n8_; (try clear hb); (try clear hb2); (try clear hk); (try clear hi)))
        go_meet
        case rel => exact ⟨_, (true), (by first | rfl | (simp; done) | (simp [*]; done)), H', ⟨by first | omega | exact Nat.le_refl _⟩, ⟨by (with_reducible repeat (first | apply Kd.S_alloc | apply Kd.S_drewN | apply Kd.S_drew)); exact Kd.S_mono HO217.out (fun _ hk => ⟨hk.1.1.1.2, ⟨hk.1.2, ⟨hk.1.1.1.1.1.2, ⟨hk.1.1.2, hk.2⟩⟩⟩⟩)⟩, ⟨by (with_reducible repeat (first | apply Kd.S_alloc | apply Kd.S_drewN | apply Kd.S_drew)); exact Kd.S_mono HO225.out (fun _ hk => ⟨hk.1.1.2, ⟨hk.1.2, ⟨hk.1.1.1.1.2, hk.2⟩⟩⟩)⟩, ⟨by (with_reducible repeat (first | apply Kd.S_alloc | apply Kd.S_drewN | apply Kd.S_drew)); exact Kd.S_mono HO232.out (fun _ hk => ⟨hk.1.2, ⟨hk.2, hk.1.1.1.2⟩⟩)⟩, ⟨by (with_reducible repeat (first | refine blk_drewN ?_ _ | refine blk_drew ?_ | refine blk_alloc ?_ _)); exact BK207.out⟩, ⟨by (with_reducible repeat (first | refine blk_drewN ?_ _ | refine blk_drew ?_ | refine blk_alloc ?_ _)); exact BK222.out⟩, ⟨by (with_reducible repeat (first | refine blk_drewN ?_ _ | refine blk_drew ?_ | refine blk_alloc ?_ _)); exact BK229.out⟩, ⟨by (with_reducible repeat (first | refine blk_drewN ?_ _ | refine blk_drew ?_ | refine blk_alloc ?_ _)); exact BK237.out⟩, ⟨by repeat (first | (with_reducible first | exact HB.out | apply below_alloc | apply pw_below_drewN | apply below_drew1 | refine below_set ?_ GE207.out | refine below_set ?_ GE222.out | refine below_set ?_ GE229.out | refine below_set ?_ GE237.out) | exact HB.out)⟩⟩
    case rest =>
      clear HC11
      try clear c1
      try clear c2
      try clear p2
      try clear c3
      try clear c3b0
      try clear c4
      try clear c5
      try clear c8
      try clear c13
      try clear c16
      try clear c18
      try clear c21
      try clear c27
      try clear c28
      try clear c30
      try clear c31
      try clear c33
      try clear c34
      try clear c35
      try clear c38
      try clear c39
      try clear c40
      try clear c41
      try clear c43
      try clear c44
      try clear c47
      try clear c48
      try clear c49
      try clear c51
      try clear c52
      try clear hcz13_0
      try clear hcz13_1
      try clear hcz13_2
      try clear hcz13_3
      try clear hcz15_0
      try clear hcz15_1
      try clear hcz15_2
      try clear hcz15_3
      try clear hcz22_0
      try clear hcz22_1
      try clear hcz22_2
      try clear hcz22_3
      try clear hcz23_0
      try clear hcz23_1
      try clear hcz23_2
      try clear hcz23_3
      try clear hcz29_0
      try clear hcz29_1
      try clear hcz29_2
      try clear hcz29_3
      try clear hcz36_0
      try clear hcz36_1
      try clear hcz36_2
      try clear hcz36_3
      try clear hcz42_0
      try clear hcz42_1
      try clear hcz42_2
      try clear hcz42_3
      try clear hcz45_0
      try clear hcz45_1
      try clear hcz45_2
      try clear hcz45_3
      try clear hcz50_0
      try clear hcz50_1
      try clear hcz50_2
      try clear hcz50_3
      try clear hcz53_0
      try clear hcz53_1
      try clear hcz53_2
      try clear hcz53_3
      try clear hcz5_0
      try clear hcz5_1
      try clear hcz5_2
      try clear hcz5_3
      try clear hfz13_0
      try clear hfz13_1
      try clear hfz13_2
      try clear hfz13_3
      try clear hfz15_0
      try clear hfz15_1
      try clear hfz15_2
      try clear hfz15_3
      try clear hfz22_0
      try clear hfz22_1
      try clear hfz22_2
      try clear hfz22_3
      try clear hfz23_0
      try clear hfz23_1
      try clear hfz23_2
      try clear hfz23_3
      try clear hfz29_0
      try clear hfz29_1
      try clear hfz29_2
      try clear hfz29_3
      try clear hfz36_0
      try clear hfz36_1
      try clear hfz36_2
      try clear hfz36_3
      try clear hfz42_0
      try clear hfz42_1
      try clear hfz42_2
      try clear hfz42_3
      try clear hfz45_0
      try clear hfz45_1
      try clear hfz45_2
      try clear hfz45_3
      try clear hfz50_0
      try clear hfz50_1
      try clear hfz50_2
      try clear hfz50_3
      try clear hfz53_0
      try clear hfz53_1
      try clear hfz53_2
      try clear hfz53_3
      try clear hfz5_0
      try clear hfz5_1
      try clear hfz5_2
      try clear hfz5_3
      obtain ⟨kq, x40_10, rfl, HA, HJ10, HO_223000, HO_230000, HO_238000, BK207, BK222, BK229, BK237, HB⟩ := hcut
      cases kq with
      | zero => exact absurd HA.out (by simp [laws_FnExactRestart.j0])
      | succ kj10 =>
        have H := HA.out
        clear HA
        simp only [laws_FnExactRestart.j0] at H
        by_cases c55 : x40_10 = true
        · subst c55
          have H1 : (some false) = some r := by rw [if_pos rfl] at H; exact H
          clear H
          have H := H1
          clear H1
          obtain rfl := Option.some.inj H
          go_wp2
          go_ret
          exact ⟨by first | rfl | (simp [errW_none, errW_some] <;> rfl) | (simp [*, errW_none, errW_some] <;> rfl), by repeat (first | (with_reducible first | exact HB.out | apply below_alloc | apply pw_below_drewN | apply below_drew1 | refine below_set ?_ GE207.out | refine below_set ?_ GE222.out | refine below_set ?_ GE229.out | refine below_set ?_ GE237.out) | exact HB.out)⟩
        · replace c55 := Bool.eq_false_iff.mpr c55
          subst c55
          have H1 : ((laws_toDisk.f kj10 l0_0 a0_1 a0_2 a0_3).bind fun bt239 => ((laws_eqDisk.f kj10 t223 t226 t227 t228 bt239.1 bt239.2.1 bt239.2.2.1 bt239.2.2.2).bind fun t245 => (if t245 = true then ((laws_markDisk.f kj10 t223 t226 t227 t228 1).bind fun bt246 => (if bt246.1 < 0 then (laws_FnExactRestart.j1 kj10 t221 true l0_0 a0_1 a0_2 a0_3 t215 t218 t219 t220 t230 t233 t234 t235) else ((laws_eqDisk.f kj10 t230 t233 t234 t235 t215 t218 t219 t220).bind fun t248 => (if t248 = true then (laws_FnExactRestart.j1 kj10 t221 (t236 != t221) l0_0 a0_1 a0_2 a0_3 t215 t218 t219 t220 t230 t233 t234 t235) else (laws_FnExactRestart.j1 kj10 t221 true l0_0 a0_1 a0_2 a0_3 t215 t218 t219 t220 t230 t233 t234 t235))))) else (some false)))) = some r := by rw [if_neg (show ¬ (false = true) by decide)] at H; exact H
          clear H
          have H := H1
          clear H1
          replace H := Option.bind_eq_some_iff.mp H
          obtain ⟨⟨t239, t242, t243, t244⟩, A560, H⟩ := H
          replace H : ((laws_eqDisk.f kj10 t223 t226 t227 t228 t239 t242 t243 t244).bind fun t245 => (if t245 = true then ((laws_markDisk.f kj10 t223 t226 t227 t228 1).bind fun bt246 => (if bt246.1 < 0 then (laws_FnExactRestart.j1 kj10 t221 true l0_0 a0_1 a0_2 a0_3 t215 t218 t219 t220 t230 t233 t234 t235) else ((laws_eqDisk.f kj10 t230 t233 t234 t235 t215 t218 t219 t220).bind fun t248 => (if t248 = true then (laws_FnExactRestart.j1 kj10 t221 (t236 != t221) l0_0 a0_1 a0_2 a0_3 t215 t218 t219 t220 t230 t233 t234 t235) else (laws_FnExactRestart.j1 kj10 t221 true l0_0 a0_1 a0_2 a0_3 t215 t218 t219 t220 t230 t233 t234 t235))))) else (some false))) = some r := H
          have A56 := Aside0.mk A560
          clear A560
          replace H := Option.bind_eq_some_iff.mp H
          obtain ⟨t245, A570, H⟩ := H
          replace H : (if t245 = true then ((laws_markDisk.f kj10 t223 t226 t227 t228 1).bind fun bt246 => (if bt246.1 < 0 then (laws_FnExactRestart.j1 kj10 t221 true l0_0 a0_1 a0_2 a0_3 t215 t218 t219 t220 t230 t233 t234 t235) else ((laws_eqDisk.f kj10 t230 t233 t234 t235 t215 t218 t219 t220).bind fun t248 => (if t248 = true then (laws_FnExactRestart.j1 kj10 t221 (t236 != t221) l0_0 a0_1 a0_2 a0_3 t215 t218 t219 t220 t230 t233 t234 t235) else (laws_FnExactRestart.j1 kj10 t221 true l0_0 a0_1 a0_2 a0_3 t215 t218 t219 t220 t230 t233 t234 t235))))) else (some false)) = some r := H
          have A57 := Aside0.mk A570
          clear A570
          by_cases c58 : t245 = true
          · subst c58
            have H1 : ((laws_markDisk.f kj10 t223 t226 t227 t228 1).bind fun bt246 => (if bt246.1 < 0 then (laws_FnExactRestart.j1 kj10 t221 true l0_0 a0_1 a0_2 a0_3 t215 t218 t219 t220 t230 t233 t234 t235) else ((laws_eqDisk.f kj10 t230 t233 t234 t235 t215 t218 t219 t220).bind fun t248 => (if t248 = true then (laws_FnExactRestart.j1 kj10 t221 (t236 != t221) l0_0 a0_1 a0_2 a0_3 t215 t218 t219 t220 t230 t233 t234 t235) else (laws_FnExactRestart.j1 kj10 t221 true l0_0 a0_1 a0_2 a0_3 t215 t218 t219 t220 t230 t233 t234 t235))))) = some r := by rw [if_pos rfl] at H; exact H
            clear H
            have H := H1
            clear H1
            replace H := Option.bind_eq_some_iff.mp H
            obtain ⟨⟨t246, t247⟩, A590, H⟩ := H
            replace H : (if t246 < 0 then (laws_FnExactRestart.j1 kj10 t221 true l0_0 a0_1 a0_2 a0_3 t215 t218 t219 t220 t230 t233 t234 t235) else ((laws_eqDisk.f kj10 t230 t233 t234 t235 t215 t218 t219 t220).bind fun t248 => (if t248 = true then (laws_FnExactRestart.j1 kj10 t221 (t236 != t221) l0_0 a0_1 a0_2 a0_3 t215 t218 t219 t220 t230 t233 t234 t235) else (laws_FnExactRestart.j1 kj10 t221 true l0_0 a0_1 a0_2 a0_3 t215 t218 t219 t220 t230 t233 t234 t235)))) = some r := H
            have A59 := Aside0.mk A590
            clear A590
            have HC60 := Aside0.mk H
            clear H
            try go_wp2
            have n0_ := Aside0.mk (Kd.S_drew HO_223000.out)
            have n1_ := Aside0.mk (Kd.S_drew HO_230000.out)
            have n2_ := Aside0.mk (Kd.S_drew HO_238000.out)
            have n3_ := Aside0.mk (blk_drew BK207.out)
            have n4_ := Aside0.mk (blk_drew BK222.out)
            have n5_ := Aside0.mk (blk_drew BK229.out)
            have n6_ := Aside0.mk (blk_drew BK237.out)
            have n7_ := Aside0.mk (below_drew1 HB.out)
            clear HO_223000
            clear HO_230000
            clear HO_238000
            clear BK207
            clear BK222
            clear BK229
            clear BK237
            clear HB
            have HO_223000 := n0_
            have HO_230000 := n1_
            have HO_238000 := n2_
            have BK207 := n3_
            have BK222 := n4_
            have BK229 := n5_
            have BK237 := n6_
            have HB := n7_
            clear n0_ n1_ n2_ n3_ n4_ n5_ n6_ n7_
            refine start_ (n := 5) (S := fun w' => w'.cell? ⟨gb229, 0, none⟩ = some (.slice Ao26 t223.length co26) ∧ w'.cell? ⟨gb229, 1, none⟩ = some (.int .i64 t226) ∧ w'.cell? ⟨gb229, 2, none⟩ = some (.bool t227) ∧ w'.cell? ⟨gb229, 3, none⟩ = some (.int .i64 t228) ∧ w'.cell? ⟨gb207, 0, none⟩ = some (.slice A0_0 l0_0.length c0_0) ∧ w'.cell? ⟨gb207, 1, none⟩ = some (.int .i64 a0_1) ∧ w'.cell? ⟨gb207, 2, none⟩ = some (.bool a0_2) ∧ w'.cell? ⟨gb207, 3, none⟩ = some (.int .i64 a0_3)) (ds := []) #[false, false, false, false, false] (by kernel_rfl) rfl rfl ⟨(blk_cell BK229.out 0).trans rfl, (blk_cell BK229.out 1).trans rfl, (blk_cell BK229.out 2).trans rfl, (blk_cell BK229.out 3).trans rfl, (blk_cell BK207.out 0).trans rfl, (blk_cell BK207.out 1).trans rfl, (blk_cell BK207.out 2).trans rfl, (blk_cell BK207.out 3).trans rfl⟩ (fun hHeld => ?_)
            generalize wc.drew = w61 at HO_223000 HO_230000 HO_238000 BK207 BK222 BK229 BK237 HB hHeld ⊢
            refine take_ (i := 0) (N := some 41) (v := ?_) (a' := ?_) #[true, false, false, false, false] rfl rfl (by kernel_rfl) (fun _ _ _ h => h) (Or.inl ⟨by rfl, ?_⟩) hHeld ?_ ?_
            rotate_left
            · rintro w' ⟨s0, s1, s2, s3, s4, s5, s6, s7⟩
              go_simp
              with_reducible rfl
            rotate_left
            · simp only [Act.put, List.setIfInBounds_toArray, List.set_cons_zero, List.set_cons_succ, i64_w, i32_w]
              rfl
            refine take_ (i := 1) (N := some 42) (v := ?_) (a' := ?_) #[true, true, false, false, false] rfl rfl (by kernel_rfl) (fun _ _ _ h => h) (Or.inl ⟨by rfl, ?_⟩) hHeld ?_ ?_
            rotate_left
            · rintro w' ⟨s0, s1, s2, s3, s4, s5, s6, s7⟩
              go_simp
              with_reducible rfl
            rotate_left
            · simp only [Act.put, List.setIfInBounds_toArray, List.set_cons_zero, List.set_cons_succ, i64_w, i32_w]
              rfl
            refine one_ (i := 2) (N := some 43) #[true, true, true, false, false] rfl rfl (by kernel_rfl) (by decide) (fun K hK => ?_)
            refine goes_ Try.func18 (by kernel_rfl) rfl #[.agg #[.slice A0_0 l0_0.length c0_0, .int .i64 a0_1, .bool a0_2, .int .i64 a0_3]] (by rfl) rfl rfl (by (try simp only [List.map_toArray, List.map_cons, List.map_nil]); first | done | rfl | (simp only [List.length_drop, List.length_take]; rfl)) ?_
            with_reducible refine (laws_toDisk.calls kj10 _ _ l0_0 a0_1 a0_2 a0_3 t239 t242 t243 t244 _ ?side1 ?side2 A56.out).mono ?_
            (case side1 => repeat (first | exact (Kd.C_below HR0_0.out HB.out) | (with_reducible refine Kd.C_alloc ?_ _) | (with_reducible refine Kd.C_drewN ?_ _) | (with_reducible refine Kd.C_drew ?_)))
            (case side2 => exact HC0_0.out)
            rintro e w62 ⟨v240, rfl, ho0, hb⟩
            refine ⟨_, rfl, ?_⟩
            have n0_ := Aside0.mk (Kd.S_told (Kd.S_old (by (with_reducible repeat (first | apply Kd.S_alloc | apply Kd.S_drewN | apply Kd.S_drew)); exact HO_223000.out) hb) (Kd.S_base ho0))
            have n1_ := Aside0.mk (Kd.S_told (Kd.S_old (by (with_reducible repeat (first | apply Kd.S_alloc | apply Kd.S_drewN | apply Kd.S_drew)); exact HO_230000.out) hb) (Kd.S_base ho0))
            have n2_ := Aside0.mk (Kd.S_told (Kd.S_old (by (with_reducible repeat (first | apply Kd.S_alloc | apply Kd.S_drewN | apply Kd.S_drew)); exact HO_238000.out) hb) (Kd.S_base ho0))
            have n3_ := Aside0.mk (Kd.S_lower (Kd.S_new' (Kd.S_new' (Kd.S_new' (Kd.S_mono (Kd.S_bound ho0) (fun k_ h_ => (⟨h_.1, (by first | exact h_.2.1 | simpa only [World.size_setCell] using h_.2.1)⟩ : _ ∧ w61.heap.size ≤ k_))) (Kd.S_lt (by (with_reducible repeat (first | apply Kd.S_alloc | apply Kd.S_drewN | apply Kd.S_drew)); exact HO_223000.out))) (Kd.S_lt (by (with_reducible repeat (first | apply Kd.S_alloc | apply Kd.S_drewN | apply Kd.S_drew)); exact HO_230000.out))) (Kd.S_lt (by (with_reducible repeat (first | apply Kd.S_alloc | apply Kd.S_drewN | apply Kd.S_drew)); exact HO_238000.out))) (below_size (by repeat (first | (with_reducible first | exact HB.out | apply below_alloc | apply pw_below_drewN | apply below_drew1 | refine below_set ?_ GE207.out | refine below_set ?_ GE222.out | refine below_set ?_ GE229.out | refine below_set ?_ GE237.out) | exact HB.out))))
            have n4_ := Aside0.mk (blk_below (g := gb207) (o := .cells #[.slice A0_0 l0_0.length c0_0, .int .i64 a0_1, .bool a0_2, .int .i64 a0_3] 30 (0, 0)) (by (with_reducible repeat (first | refine blk_drewN ?_ _ | refine blk_drew ?_ | refine blk_alloc ?_ _)); exact BK207.out) hb)
            have n5_ := Aside0.mk (blk_below (g := gb222) (o := .cells #[.slice Ao20 t215.length co20, .int .i64 t218, .bool t219, .int .i64 t220] 24 (0, 0)) (by (with_reducible repeat (first | refine blk_drewN ?_ _ | refine blk_drew ?_ | refine blk_alloc ?_ _)); exact BK222.out) hb)
            have n6_ := Aside0.mk (blk_below (g := gb229) (o := .cells #[.slice Ao26 t223.length co26, .int .i64 t226, .bool t227, .int .i64 t228] 24 (0, 0)) (by (with_reducible repeat (first | refine blk_drewN ?_ _ | refine blk_drew ?_ | refine blk_alloc ?_ _)); exact BK229.out) hb)
            have n7_ := Aside0.mk (blk_below (g := gb237) (o := .cells #[.slice Ao32 t230.length co32, .int .i64 t233, .bool t234, .int .i64 t235] 24 (0, 0)) (by (with_reducible repeat (first | refine blk_drewN ?_ _ | refine blk_drew ?_ | refine blk_alloc ?_ _)); exact BK237.out) hb)
            have n8_ := Aside0.mk (below_step (by repeat (first | (with_reducible first | exact HB.out | apply below_alloc | apply pw_below_drewN | apply below_drew1 | refine below_set ?_ GE207.out | refine below_set ?_ GE222.out | refine below_set ?_ GE229.out | refine below_set ?_ GE237.out) | exact HB.out)) hb)
            clear HO_223000
            clear HO_230000
            clear HO_238000
            clear BK207
            clear BK222
            clear BK229
            clear BK237
            clear HB
            have HO_223000 := n0_
            have HO_230000 := n1_
            have HO_238000 := n2_
            have HO241 := n3_
            have BK207 := n4_
            have BK222 := n5_
            have BK229 := n6_
            have BK237 := n7_
            have HB := n8_
            clear n0_ n1_ n2_ n3_ n4_ n5_ n6_ n7_ n8_
            (try clear hb)
            (try clear hb2)
            (try clear hk)
            (try clear hi)
            (try clear ho0)
            obtain ⟨Ao63, co63, eo63⟩ := Kd.S_slice HO241.out
            (first | subst eo63 | (injection eo63 with f1_ f2_ f3_; have f4_ := f1_.symm; have f5_ := f3_.symm; clear f1_ f2_ f3_; subst f4_; subst f5_))
            refine hK.out _ _ ⟨(blk_cell BK229.out 0).trans rfl, (blk_cell BK229.out 1).trans rfl, (blk_cell BK229.out 2).trans rfl, (blk_cell BK229.out 3).trans rfl, (blk_cell BK207.out 0).trans rfl, (blk_cell BK207.out 1).trans rfl, (blk_cell BK207.out 2).trans rfl, (blk_cell BK207.out 3).trans rfl⟩ (fun hHeld => ?_)
            clear hK K
            refine norm_ (a' := ?_) ?_ ?_
            rotate_left
            · show Act.put _ (some 43) _ = _
              simp only [Act.put, List.setIfInBounds_toArray, List.set_cons_zero, List.set_cons_succ, i64_w, i32_w]
              rfl
            refine one_ (i := 3) (N := some 44) #[true, true, true, true, false] rfl rfl (by kernel_rfl) (by decide) (fun K hK => ?_)
            refine goes_ Try.func13 (by kernel_rfl) rfl #[.agg #[.slice Ao26 t223.length co26, .int .i64 t226, .bool t227, .int .i64 t228], .agg #[.slice Ao63 t239.length co63, .int .i64 t242, .bool t243, .int .i64 t244]] (by rfl) rfl rfl (by (try simp only [List.map_toArray, List.map_cons, List.map_nil]); first | done | rfl | (simp only [List.length_drop, List.length_take]; rfl)) ?_
            with_reducible refine (laws_eqDisk.calls kj10 _ _ t223 t226 t227 t228 _ _ t239 t242 t243 t244 true _ ?side1 ?side2 ?side3 ?side4 A57.out).mono ?_
            (case side1 => repeat (first | exact (Kd.S_reads' HO_230000.out).2.2 | (with_reducible refine Kd.C_alloc ?_ _) | (with_reducible refine Kd.C_drewN ?_ _) | (with_reducible refine Kd.C_drew ?_)))
            (case side2 => exact (Kd.S_reads' HO_230000.out).2.1)
            (case side3 => repeat (first | exact (Kd.S_reads' HO241.out).2.2 | (with_reducible refine Kd.C_alloc ?_ _) | (with_reducible refine Kd.C_drewN ?_ _) | (with_reducible refine Kd.C_drew ?_)))
            (case side4 => exact (Kd.S_reads' HO241.out).2.1)
            rintro e w64 ⟨rfl, hb⟩
            refine ⟨_, rfl, ?_⟩
            have n0_ := Aside0.mk (Kd.S_below (by (with_reducible repeat (first | apply Kd.S_alloc | apply Kd.S_drewN | apply Kd.S_drew)); exact HO_223000.out) hb)
            have n1_ := Aside0.mk (Kd.S_below (by (with_reducible repeat (first | apply Kd.S_alloc | apply Kd.S_drewN | apply Kd.S_drew)); exact HO_230000.out) hb)
            have n2_ := Aside0.mk (Kd.S_below (by (with_reducible repeat (first | apply Kd.S_alloc | apply Kd.S_drewN | apply Kd.S_drew)); exact HO_238000.out) hb)
            have n3_ := Aside0.mk (Kd.S_below (by (with_reducible repeat (first | apply Kd.S_alloc | apply Kd.S_drewN | apply Kd.S_drew)); exact HO241.out) hb)
            have n4_ := Aside0.mk (blk_below (g := gb207) (o := .cells #[.slice A0_0 l0_0.length c0_0, .int .i64 a0_1, .bool a0_2, .int .i64 a0_3] 30 (0, 0)) (by (with_reducible repeat (first | refine blk_drewN ?_ _ | refine blk_drew ?_ | refine blk_alloc ?_ _)); exact BK207.out) hb)
            have n5_ := Aside0.mk (blk_below (g := gb222) (o := .cells #[.slice Ao20 t215.length co20, .int .i64 t218, .bool t219, .int .i64 t220] 24 (0, 0)) (by (with_reducible repeat (first | refine blk_drewN ?_ _ | refine blk_drew ?_ | refine blk_alloc ?_ _)); exact BK222.out) hb)
            have n6_ := Aside0.mk (blk_below (g := gb229) (o := .cells #[.slice Ao26 t223.length co26, .int .i64 t226, .bool t227, .int .i64 t228] 24 (0, 0)) (by (with_reducible repeat (first | refine blk_drewN ?_ _ | refine blk_drew ?_ | refine blk_alloc ?_ _)); exact BK229.out) hb)
            have n7_ := Aside0.mk (blk_below (g := gb237) (o := .cells #[.slice Ao32 t230.length co32, .int .i64 t233, .bool t234, .int .i64 t235] 24 (0, 0)) (by (with_reducible repeat (first | refine blk_drewN ?_ _ | refine blk_drew ?_ | refine blk_alloc ?_ _)); exact BK237.out) hb)
            have n8_ := Aside0.mk (below_step (by repeat (first | (with_reducible first | exact HB.out | apply below_alloc | apply pw_below_drewN | apply below_drew1 | refine below_set ?_ GE207.out | refine below_set ?_ GE222.out | refine below_set ?_ GE229.out | refine below_set ?_ GE237.out) | exact HB.out)) hb)
            clear HO_223000
            clear HO_230000
            clear HO_238000
            clear HO241
            clear BK207
            clear BK222
            clear BK229
            clear BK237
            clear HB
            have HO_223000 := n0_
            have HO_230000 := n1_
            have HO_238000 := n2_
            have HO241 := n3_
            have BK207 := n4_
            have BK222 := n5_
            have BK229 := n6_
            have BK237 := n7_
            have HB := n8_
            clear n0_ n1_ n2_ n3_ n4_ n5_ n6_ n7_ n8_
            (try clear hb)
            (try clear hb2)
            (try clear hk)
            (try clear hi)
            refine hK.out _ _ ⟨(blk_cell BK229.out 0).trans rfl, (blk_cell BK229.out 1).trans rfl, (blk_cell BK229.out 2).trans rfl, (blk_cell BK229.out 3).trans rfl, (blk_cell BK207.out 0).trans rfl, (blk_cell BK207.out 1).trans rfl, (blk_cell BK207.out 2).trans rfl, (blk_cell BK207.out 3).trans rfl⟩ (fun hHeld => ?_)
            clear hK K
            refine norm_ (a' := ?_) ?_ ?_
            rotate_left
            · show Act.put _ (some 44) _ = _
              simp only [Act.put, List.setIfInBounds_toArray, List.set_cons_zero, List.set_cons_succ, i64_w, i32_w]
              rfl
            refine pure_ (i := 4) (N := some 45) (v := ?_) (a' := ?_) #[true, true, true, true, true] rfl rfl (by kernel_rfl) (fun _ _ _ h => h) (Or.inl ⟨by rfl, ?_⟩) ?_ ?_
            rotate_left
            · intro w'
              go_simp
              with_reducible rfl
            rotate_left
            · simp only [Act.put, List.setIfInBounds_toArray, List.set_cons_zero, List.set_cons_succ, i64_w, i32_w]
              rfl
            refine done_ (by kernel_rfl) ?_
            have hnb65 := NB229_207.out
            have hnc65 := NB207_229.out
            have hnb66 := NB229_222.out
            have hnc66 := NB222_229.out
            have hnb67 := NB229_237.out
            have hnc67 := NB237_229.out
            have hcz68_0 : w64.cell? ⟨gb229, 0, none⟩ = some (.slice Ao26 t223.length co26) := (blk_cell BK229.out 0).trans rfl
            have hcz68_1 : w64.cell? ⟨gb229, 1, none⟩ = some (.int .i64 t226) := (blk_cell BK229.out 1).trans rfl
            have hcz68_2 : w64.cell? ⟨gb229, 2, none⟩ = some (.bool t227) := (blk_cell BK229.out 2).trans rfl
            have hcz68_3 : w64.cell? ⟨gb229, 3, none⟩ = some (.int .i64 t228) := (blk_cell BK229.out 3).trans rfl
            have hfz68_0 := blk_frozen BK229.out 0
            have hfz68_1 := blk_frozen BK229.out 1
            have hfz68_2 := blk_frozen BK229.out 2
            have hfz68_3 := blk_frozen BK229.out 3
            go_upto_region 14 with (first | ((with_reducible refine gate_callee (f := 14) rfl ?_); refine goesL_ (some 48) rfl rfl Try.func14 (by kernel_rfl) rfl #[.agg #[.slice Ao26 t223.length co26, .int .i64 t226, .bool t227, .int .i64 t228], .int .i64 1] rfl (by (try simp only [List.map_toArray, List.map_cons, List.map_nil]); first | done | rfl | (simp only [List.length_drop, List.length_take]; rfl)) ?_; (with_reducible refine (laws_markDisk.calls kj10 (SB_ (Kd.slice 5 (Kd.int .u8)) 35 w64 w.heap.size (fun k_ => (((some k_ ≠ (.slice Ao20 t215.length co20 : Value).ownBlock ∧ (some k_ ≠ (.slice Ao32 t230.length co32 : Value).ownBlock ∧ (w19.heap.size ≤ k_ ∧ k_ < w25.heap.size))) ∧ some k_ ≠ (.slice Ao63 t239.length co63 : Value).ownBlock) ∧ k_ < w61.heap.size))) (.slice Ao26 t223.length co26) t223 t226 t227 t228 1 t246 t247 w _ ?side1 ?side2 A59.out).mono ?_); (case side1 => repeat (first | (with_reducible first | exact HB.out | apply below_alloc | apply pw_below_drewN | apply below_drew1 | refine below_set ?_ GE207.out | refine below_set ?_ GE222.out | refine below_set ?_ GE229.out | refine below_set ?_ GE237.out) | exact HB.out)); (case side2 => exact SB_own HO_230000.out); rintro e w69 ⟨rfl, hy0, hb, hkp⟩; refine ⟨_, rfl, ?_⟩; have n0_ := Aside0.mk (Kd.S_mono (ok' := fun k_ => some k_ ≠ (.slice Ao32 t230.length co32 : Value).ownBlock ∧ some k_ ≠ (.slice Ao63 t239.length co63 : Value).ownBlock ∧ w16.heap.size ≤ k_ ∧ k_ < w19.heap.size ∧ k_ < w25.heap.size ∧ k_ < w61.heap.size) (Kd.S_keptB ((S_apartSBn (d' := (Kd.slice 5 (Kd.int .u8))) (e' := 35) (base' := w.heap.size) (ok' := (fun k_ => (((some k_ ≠ (.slice Ao20 t215.length co20 : Value).ownBlock ∧ (some k_ ≠ (.slice Ao32 t230.length co32 : Value).ownBlock ∧ (w19.heap.size ≤ k_ ∧ k_ < w25.heap.size))) ∧ some k_ ≠ (.slice Ao63 t239.length co63 : Value).ownBlock) ∧ k_ < w61.heap.size))) HO_223000.out (fun k_ hk h2_ => absurd (hk.1.1.2.2.2.1) (Nat.not_lt.2 (h2_.1.1.2.2.1))))) hkp (fun k_ hk_ hs_ => (hk_.2) hs_)) (fun k_ hk_ => ⟨hk_.1.1.1.1.2.1, hk_.1.1.1.2, hk_.1.1.1.1.2.2.1, hk_.1.1.1.1.2.2.2.1, hk_.1.1.1.1.2.2.2.2, hk_.1.1.2⟩)); have n1_ := Aside0.mk (Kd.S_mono (ok' := fun k_ => some k_ ≠ (.slice Ao20 t215.length co20 : Value).ownBlock ∧ some k_ ≠ (.slice Ao63 t239.length co63 : Value).ownBlock ∧ w25.heap.size ≤ k_ ∧ k_ < w61.heap.size) (Kd.S_keptB ((S_apartSBn (d' := (Kd.slice 5 (Kd.int .u8))) (e' := 35) (base' := w.heap.size) (ok' := (fun k_ => (((some k_ ≠ (.slice Ao20 t215.length co20 : Value).ownBlock ∧ (some k_ ≠ (.slice Ao32 t230.length co32 : Value).ownBlock ∧ (w19.heap.size ≤ k_ ∧ k_ < w25.heap.size))) ∧ some k_ ≠ (.slice Ao63 t239.length co63 : Value).ownBlock) ∧ k_ < w61.heap.size))) HO_238000.out (fun k_ hk h2_ => absurd (h2_.1.1.2.2.2) (Nat.not_lt.2 (hk.1.1.2.2))))) hkp (fun k_ hk_ hs_ => (hk_.2) hs_)) (fun k_ hk_ => ⟨hk_.1.1.1.1.1, hk_.1.1.1.2, hk_.1.1.1.1.2.2, hk_.1.1.2⟩)); have n2_ := Aside0.mk (blk_kept (by (with_reducible repeat (first | refine blk_drewN ?_ _ | refine blk_drew ?_ | refine blk_alloc ?_ _)); exact BK207.out) hkp (fun hs_ => (fun e_ => (blk_SB BK207.out (by decide)) e_) hs_)); have n3_ := Aside0.mk (blk_kept (by (with_reducible repeat (first | refine blk_drewN ?_ _ | refine blk_drew ?_ | refine blk_alloc ?_ _)); exact BK222.out) hkp (fun hs_ => (fun e_ => (blk_SB BK222.out (by decide)) e_) hs_)); have n4_ := Aside0.mk (blk_kept (by (with_reducible repeat (first | refine blk_drewN ?_ _ | refine blk_drew ?_ | refine blk_alloc ?_ _)); exact BK229.out) hkp (fun hs_ => (fun e_ => (blk_SB BK229.out (by decide)) e_) hs_)); have n5_ := Aside0.mk (blk_kept (by (with_reducible repeat (first | refine blk_drewN ?_ _ | refine blk_drew ?_ | refine blk_alloc ?_ _)); exact BK237.out) hkp (fun hs_ => (fun e_ => (blk_SB BK237.out (by decide)) e_) hs_)); have n6_ := Aside0.mk (Kd.S_mono (ok' := fun k_ => some k_ ≠ (.slice Ao20 t215.length co20 : Value).ownBlock ∧ some k_ ≠ (.slice Ao32 t230.length co32 : Value).ownBlock ∧ w61.heap.size ≤ k_) (Kd.S_keptB ((S_apartSBn (d' := (Kd.slice 5 (Kd.int .u8))) (e' := 35) (base' := w.heap.size) (ok' := (fun k_ => (((some k_ ≠ (.slice Ao20 t215.length co20 : Value).ownBlock ∧ (some k_ ≠ (.slice Ao32 t230.length co32 : Value).ownBlock ∧ (w19.heap.size ≤ k_ ∧ k_ < w25.heap.size))) ∧ some k_ ≠ (.slice Ao63 t239.length co63 : Value).ownBlock) ∧ k_ < w61.heap.size))) HO241.out (fun k_ hk h2_ => absurd (h2_.2) (Nat.not_lt.2 (hk.1.1.1.2))))) hkp (fun k_ hk_ hs_ => (hk_.2) hs_)) (fun k_ hk_ => ⟨hk_.1.1.1.1.2, hk_.1.1.2, hk_.1.1.1.1.1.2⟩)); have n7_ := Aside0.mk (hb); clear HO_223000; clear HO_238000; clear BK207; clear BK222; clear BK229; clear BK237; clear HO241; clear HB; clear HO_230000; have HO_223000 := n0_; have HO_238000 := n1_; have BK207 := n2_; have BK222 := n3_; have BK229 := n4_; have BK237 := n5_; have HO241 := n6_; have HB := n7_; clear n0_ n1_ n2_ n3_ n4_ n5_ n6_ n7_; (try clear hb); (try clear hkp); (try clear hy0)))
            (try simp only [Act.put, List.setIfInBounds_toArray, List.set_cons_zero, List.set_cons_succ])
            go_cut [61] (fun v61 wc => ∃ (kq : Nat) (x61_59 : Bool), v61 = .bool x61_59 ∧ Aside0 (laws_FnExactRestart.j1 kq t221 x61_59 l0_0 a0_1 a0_2 a0_3 t215 t218 t219 t220 t230 t233 t234 t235 = some r) ∧ Aside0 (kq ≤ kj10) ∧ Aside0 (Kd.S (Kd.slice 5 (Kd.int .u8)) 35 wc w.heap.size (fun k_ => some k_ ≠ ((.slice Ao32 t230.length co32) : Value).ownBlock ∧ w16.heap.size ≤ k_ ∧ k_ < w19.heap.size ∧ k_ < w25.heap.size ∧ k_ < w61.heap.size) (.slice Ao20 t215.length co20) t215) ∧ Aside0 (Kd.S (Kd.slice 5 (Kd.int .u8)) 35 wc w.heap.size (fun k_ => some k_ ≠ ((.slice Ao20 t215.length co20) : Value).ownBlock ∧ w25.heap.size ≤ k_ ∧ k_ < w61.heap.size) (.slice Ao32 t230.length co32) t230) ∧ Aside0 (wc.heap[gb207]? = some (.cells #[(.slice A0_0 l0_0.length c0_0), .int .i64 a0_1, .bool a0_2, .int .i64 a0_3] 30 (0, 0))) ∧ Aside0 (wc.heap[gb222]? = some (.cells #[(.slice Ao20 t215.length co20), .int .i64 t218, .bool t219, .int .i64 t220] 24 (0, 0))) ∧ Aside0 (wc.heap[gb237]? = some (.cells #[(.slice Ao32 t230.length co32), .int .i64 t233, .bool t234, .int .i64 t235] 24 (0, 0))) ∧ Aside0 (Below w.heap.size w wc))
            case first =>
              have H := HC60.out
              clear HC60
              by_cases c70 : t246 < 0
              · rw [if_pos c70] at H
                have c70b0 : decide (t246 < 0) = true := decide_eq_true c70
                clear c70
                (first | rw [c70b0] | (simp only [i64_w, i32_w]; rw [c70b0]) | skip)
                have H' := Aside0.mk H
                clear H
                go_wp2
                go_meet
                case rel => exact ⟨_, (true), (by first | rfl | (simp; done) | (simp [*]; done)), H', ⟨by have := HJ10.out; first | omega | exact Nat.le_refl _⟩, ⟨by (with_reducible repeat (first | apply Kd.S_alloc | apply Kd.S_drewN | apply Kd.S_drew)); exact Kd.S_mono HO_223000.out (fun _ hk => ⟨hk.1, ⟨hk.2.2.1, ⟨hk.2.2.2.1, ⟨hk.2.2.2.2.1, hk.2.2.2.2.2⟩⟩⟩⟩)⟩, ⟨by (with_reducible repeat (first | apply Kd.S_alloc | apply Kd.S_drewN | apply Kd.S_drew)); exact Kd.S_mono HO_238000.out (fun _ hk => ⟨hk.1, ⟨hk.2.2.1, hk.2.2.2⟩⟩)⟩, ⟨by (with_reducible repeat (first | refine blk_drewN ?_ _ | refine blk_drew ?_ | refine blk_alloc ?_ _)); exact BK207.out⟩, ⟨by (with_reducible repeat (first | refine blk_drewN ?_ _ | refine blk_drew ?_ | refine blk_alloc ?_ _)); exact BK222.out⟩, ⟨by (with_reducible repeat (first | refine blk_drewN ?_ _ | refine blk_drew ?_ | refine blk_alloc ?_ _)); exact BK237.out⟩, ⟨by repeat (first | (with_reducible first | exact HB.out | apply below_alloc | apply pw_below_drewN | apply below_drew1 | refine below_set ?_ GE207.out | refine below_set ?_ GE222.out | refine below_set ?_ GE229.out | refine below_set ?_ GE237.out) | exact HB.out)⟩⟩
              · rw [if_neg c70] at H
                have c70b0 : decide (t246 < 0) = false := decide_eq_false c70
                clear c70
                (first | rw [c70b0] | (simp only [i64_w, i32_w]; rw [c70b0]) | skip)
                replace H := Option.bind_eq_some_iff.mp H
                obtain ⟨t248, A710, H⟩ := H
                replace H : (if t248 = true then (laws_FnExactRestart.j1 kj10 t221 (t236 != t221) l0_0 a0_1 a0_2 a0_3 t215 t218 t219 t220 t230 t233 t234 t235) else (laws_FnExactRestart.j1 kj10 t221 true l0_0 a0_1 a0_2 a0_3 t215 t218 t219 t220 t230 t233 t234 t235)) = some r := H
                have A71 := Aside0.mk A710
                clear A710
                by_cases c72 : t248 = true
                · subst c72
                  have H1 : (laws_FnExactRestart.j1 kj10 t221 (t236 != t221) l0_0 a0_1 a0_2 a0_3 t215 t218 t219 t220 t230 t233 t234 t235) = some r := by rw [if_pos rfl] at H; exact H
                  clear H
                  have H := H1
                  clear H1
                  have H' := Aside0.mk H
                  clear H
                  have hnb73 := NB237_207.out
                  have hnc73 := NB207_237.out
                  have hnb74 := NB237_222.out
                  have hnc74 := NB222_237.out
                  have hnb75 := NB237_229.out
                  have hnc75 := NB229_237.out
                  have hcz76_0 : w69.cell? ⟨gb237, 0, none⟩ = some (.slice Ao32 t230.length co32) := (blk_cell BK237.out 0).trans rfl
                  have hcz76_1 : w69.cell? ⟨gb237, 1, none⟩ = some (.int .i64 t233) := (blk_cell BK237.out 1).trans rfl
                  have hcz76_2 : w69.cell? ⟨gb237, 2, none⟩ = some (.bool t234) := (blk_cell BK237.out 2).trans rfl
                  have hcz76_3 : w69.cell? ⟨gb237, 3, none⟩ = some (.int .i64 t235) := (blk_cell BK237.out 3).trans rfl
                  have hfz76_0 := blk_frozen BK237.out 0
                  have hfz76_1 := blk_frozen BK237.out 1
                  have hfz76_2 := blk_frozen BK237.out 2
                  have hfz76_3 := blk_frozen BK237.out 3
                  have hnb77 := NB222_207.out
                  have hnc77 := NB207_222.out
                  have hnb78 := NB222_229.out
                  have hnc78 := NB229_222.out
                  have hcz79_0 : w69.cell? ⟨gb222, 0, none⟩ = some (.slice Ao20 t215.length co20) := (blk_cell BK222.out 0).trans rfl
                  have hcz79_1 : w69.cell? ⟨gb222, 1, none⟩ = some (.int .i64 t218) := (blk_cell BK222.out 1).trans rfl
                  have hcz79_2 : w69.cell? ⟨gb222, 2, none⟩ = some (.bool t219) := (blk_cell BK222.out 2).trans rfl
                  have hcz79_3 : w69.cell? ⟨gb222, 3, none⟩ = some (.int .i64 t220) := (blk_cell BK222.out 3).trans rfl
                  have hfz79_0 := blk_frozen BK222.out 0
                  have hfz79_1 := blk_frozen BK222.out 1
                  have hfz79_2 := blk_frozen BK222.out 2
                  have hfz79_3 := blk_frozen BK222.out 3
                  go_wp2_with (first | (go_at_call 13; (with_reducible refine (laws_eqDisk.calls kj10 _ _ t230 t233 t234 t235 _ _ t215 t218 t219 t220 true _ ?side1 ?side2 ?side3 ?side4 A71.out).mono ?_); (case side1 => repeat (first | exact (Kd.S_reads' HO_238000.out).2.2 | (with_reducible refine Kd.C_alloc ?_ _) | (with_reducible refine Kd.C_drewN ?_ _) | (with_reducible refine Kd.C_drew ?_))); (case side2 => exact (Kd.S_reads' HO_238000.out).2.1); (case side3 => repeat (first | exact (Kd.S_reads' HO_223000.out).2.2 | (with_reducible refine Kd.C_alloc ?_ _) | (with_reducible refine Kd.C_drewN ?_ _) | (with_reducible refine Kd.C_drew ?_))); (case side4 => exact (Kd.S_reads' HO_223000.out).2.1); rintro e w80 ⟨rfl, hb⟩; have n0_ := Aside0.mk (Kd.S_below (by (with_reducible repeat (first | apply Kd.S_alloc | apply Kd.S_drewN | apply Kd.S_drew)); exact HO_223000.out) hb); have n1_ := Aside0.mk (Kd.S_below (by (with_reducible repeat (first | apply Kd.S_alloc | apply Kd.S_drewN | apply Kd.S_drew)); exact HO_238000.out) hb); have n2_ := Aside0.mk (Kd.S_below (by (with_reducible repeat (first | apply Kd.S_alloc | apply Kd.S_drewN | apply Kd.S_drew)); exact HO241.out) hb); have n3_ := Aside0.mk (blk_below (g := gb207) (o := .cells #[.slice A0_0 l0_0.length c0_0, .int .i64 a0_1, .bool a0_2, .int .i64 a0_3] 30 (0, 0)) (by (with_reducible repeat (first | refine blk_drewN ?_ _ | refine blk_drew ?_ | refine blk_alloc ?_ _)); exact BK207.out) hb); have n4_ := Aside0.mk (blk_below (g := gb222) (o := .cells #[.slice Ao20 t215.length co20, .int .i64 t218, .bool t219, .int .i64 t220] 24 (0, 0)) (by (with_reducible repeat (first | refine blk_drewN ?_ _ | refine blk_drew ?_ | refine blk_alloc ?_ _)); exact BK222.out) hb); have n5_ := Aside0.mk (blk_below (g := gb229) (o := .cells #[.slice Ao26 t223.length co26, .int .i64 t226, .bool t227, .int .i64 t228] 24 (0, 0)) (by (with_reducible repeat (first | refine blk_drewN ?_ _ | refine blk_drew ?_ | refine blk_alloc ?_ _)); exact BK229.out) hb); have n6_ := Aside0.mk (blk_below (g := gb237) (o := .cells #[.slice Ao32 t230.length co32, .int .i64 t233, .bool t234, .int .i64 t235] 24 (0, 0)) (by (with_reducible repeat (first | refine blk_drewN ?_ _ | refine blk_drew ?_ | refine blk_alloc ?_ _)); exact BK237.out) hb); have n7_ := Aside0.mk (below_step (by repeat (first | (with_reducible first | exact HB.out | apply below_alloc | apply pw_below_drewN | apply below_drew1 | refine below_set ?_ GE207.out | refine below_set ?_ GE222.out | refine below_set ?_ GE229.out | refine below_set ?_ GE237.out) | exact HB.out)) hb); clear HO_223000; clear HO_238000; clear HO241; clear BK207; clear BK222; clear BK229; clear BK237; clear HB; have HO_223000 := n0_; have HO_238000 := n1_; have HO241 := n2_; have BK207 := n3_; have BK222 := n4_; have BK229 := n5_; have BK237 := n6_; have HB := n7_; clear n0_ n1_ n2_ n3_ n4_ n5_ n6_ n7_; (try clear hb); (try clear hb2); (try clear hk); (try clear hi)))
                  go_meet
                  case rel => exact ⟨_, ((t236 != t221)), (by first | rfl | (simp; done) | (simp [*]; done)), H', ⟨by have := HJ10.out; first | omega | exact Nat.le_refl _⟩, ⟨by (with_reducible repeat (first | apply Kd.S_alloc | apply Kd.S_drewN | apply Kd.S_drew)); exact Kd.S_mono HO_223000.out (fun _ hk => ⟨hk.1, ⟨hk.2.2.1, ⟨hk.2.2.2.1, ⟨hk.2.2.2.2.1, hk.2.2.2.2.2⟩⟩⟩⟩)⟩, ⟨by (with_reducible repeat (first | apply Kd.S_alloc | apply Kd.S_drewN | apply Kd.S_drew)); exact Kd.S_mono HO_238000.out (fun _ hk => ⟨hk.1, ⟨hk.2.2.1, hk.2.2.2⟩⟩)⟩, ⟨by (with_reducible repeat (first | refine blk_drewN ?_ _ | refine blk_drew ?_ | refine blk_alloc ?_ _)); exact BK207.out⟩, ⟨by (with_reducible repeat (first | refine blk_drewN ?_ _ | refine blk_drew ?_ | refine blk_alloc ?_ _)); exact BK222.out⟩, ⟨by (with_reducible repeat (first | refine blk_drewN ?_ _ | refine blk_drew ?_ | refine blk_alloc ?_ _)); exact BK237.out⟩, ⟨by repeat (first | (with_reducible first | exact HB.out | apply below_alloc | apply pw_below_drewN | apply below_drew1 | refine below_set ?_ GE207.out | refine below_set ?_ GE222.out | refine below_set ?_ GE229.out | refine below_set ?_ GE237.out) | exact HB.out)⟩⟩
                · replace c72 := Bool.eq_false_iff.mpr c72
                  subst c72
                  have H1 : (laws_FnExactRestart.j1 kj10 t221 true l0_0 a0_1 a0_2 a0_3 t215 t218 t219 t220 t230 t233 t234 t235) = some r := by rw [if_neg (show ¬ (false = true) by decide)] at H; exact H
                  clear H
                  have H := H1
                  clear H1
                  have H' := Aside0.mk H
                  clear H
                  have hnb81 := NB237_207.out
                  have hnc81 := NB207_237.out
                  have hnb82 := NB237_222.out
                  have hnc82 := NB222_237.out
                  have hnb83 := NB237_229.out
                  have hnc83 := NB229_237.out
                  have hcz84_0 : w69.cell? ⟨gb237, 0, none⟩ = some (.slice Ao32 t230.length co32) := (blk_cell BK237.out 0).trans rfl
                  have hcz84_1 : w69.cell? ⟨gb237, 1, none⟩ = some (.int .i64 t233) := (blk_cell BK237.out 1).trans rfl
                  have hcz84_2 : w69.cell? ⟨gb237, 2, none⟩ = some (.bool t234) := (blk_cell BK237.out 2).trans rfl
                  have hcz84_3 : w69.cell? ⟨gb237, 3, none⟩ = some (.int .i64 t235) := (blk_cell BK237.out 3).trans rfl
                  have hfz84_0 := blk_frozen BK237.out 0
                  have hfz84_1 := blk_frozen BK237.out 1
                  have hfz84_2 := blk_frozen BK237.out 2
                  have hfz84_3 := blk_frozen BK237.out 3
                  have hnb85 := NB222_207.out
                  have hnc85 := NB207_222.out
                  have hnb86 := NB222_229.out
                  have hnc86 := NB229_222.out
                  have hcz87_0 : w69.cell? ⟨gb222, 0, none⟩ = some (.slice Ao20 t215.length co20) := (blk_cell BK222.out 0).trans rfl
                  have hcz87_1 : w69.cell? ⟨gb222, 1, none⟩ = some (.int .i64 t218) := (blk_cell BK222.out 1).trans rfl
                  have hcz87_2 : w69.cell? ⟨gb222, 2, none⟩ = some (.bool t219) := (blk_cell BK222.out 2).trans rfl
                  have hcz87_3 : w69.cell? ⟨gb222, 3, none⟩ = some (.int .i64 t220) := (blk_cell BK222.out 3).trans rfl
                  have hfz87_0 := blk_frozen BK222.out 0
                  have hfz87_1 := blk_frozen BK222.out 1
                  have hfz87_2 := blk_frozen BK222.out 2
                  have hfz87_3 := blk_frozen BK222.out 3
                  go_wp2_with (first | (go_at_call 13; (with_reducible refine (laws_eqDisk.calls kj10 _ _ t230 t233 t234 t235 _ _ t215 t218 t219 t220 false _ ?side1 ?side2 ?side3 ?side4 A71.out).mono ?_); (case side1 => repeat (first | exact (Kd.S_reads' HO_238000.out).2.2 | (with_reducible refine Kd.C_alloc ?_ _) | (with_reducible refine Kd.C_drewN ?_ _) | (with_reducible refine Kd.C_drew ?_))); (case side2 => exact (Kd.S_reads' HO_238000.out).2.1); (case side3 => repeat (first | exact (Kd.S_reads' HO_223000.out).2.2 | (with_reducible refine Kd.C_alloc ?_ _) | (with_reducible refine Kd.C_drewN ?_ _) | (with_reducible refine Kd.C_drew ?_))); (case side4 => exact (Kd.S_reads' HO_223000.out).2.1); rintro e w88 ⟨rfl, hb⟩; have n0_ := Aside0.mk (Kd.S_below (by (with_reducible repeat (first | apply Kd.S_alloc | apply Kd.S_drewN | apply Kd.S_drew)); exact HO_223000.out) hb); have n1_ := Aside0.mk (Kd.S_below (by (with_reducible repeat (first | apply Kd.S_alloc | apply Kd.S_drewN | apply Kd.S_drew)); exact HO_238000.out) hb); have n2_ := Aside0.mk (Kd.S_below (by (with_reducible repeat (first | apply Kd.S_alloc | apply Kd.S_drewN | apply Kd.S_drew)); exact HO241.out) hb); have n3_ := Aside0.mk (blk_below (g := gb207) (o := .cells #[.slice A0_0 l0_0.length c0_0, .int .i64 a0_1, .bool a0_2, .int .i64 a0_3] 30 (0, 0)) (by (with_reducible repeat (first | refine blk_drewN ?_ _ | refine blk_drew ?_ | refine blk_alloc ?_ _)); exact BK207.out) hb); have n4_ := Aside0.mk (blk_below (g := gb222) (o := .cells #[.slice Ao20 t215.length co20, .int .i64 t218, .bool t219, .int .i64 t220] 24 (0, 0)) (by (with_reducible repeat (first | refine blk_drewN ?_ _ | refine blk_drew ?_ | refine blk_alloc ?_ _)); exact BK222.out) hb); have n5_ := Aside0.mk (blk_below (g := gb229) (o := .cells #[.slice Ao26 t223.length co26, .int .i64 t226, .bool t227, .int .i64 t228] 24 (0, 0)) (by (with_reducible repeat (first | refine blk_drewN ?_ _ | refine blk_drew ?_ | refine blk_alloc ?_ _)); exact BK229.out) hb); have n6_ := Aside0.mk (blk_below (g := gb237) (o := .cells #[.slice Ao32 t230.length co32, .int .i64 t233, .bool t234, .int .i64 t235] 24 (0, 0)) (by (with_reducible repeat (first | refine blk_drewN ?_ _ | refine blk_drew ?_ | refine blk_alloc ?_ _)); exact BK237.out) hb); have n7_ := Aside0.mk (below_step (by repeat (first | (with_reducible first | exact HB.out | apply below_alloc | apply pw_below_drewN | apply below_drew1 | refine below_set ?_ GE207.out | refine below_set ?_ GE222.out | refine below_set ?_ GE229.out | refine below_set ?_ GE237.out) | exact HB.out)) hb); clear HO_223000; clear HO_238000; clear HO241; clear BK207; clear BK222; clear BK229; clear BK237; clear HB; have HO_223000 := n0_; have HO_238000 := n1_; have HO241 := n2_; have BK207 := n3_; have BK222 := n4_; have BK229 := n5_; have BK237 := n6_; have HB := n7_; clear n0_ n1_ n2_ n3_ n4_ n5_ n6_ n7_; (try clear hb); (try clear hb2); (try clear hk); (try clear hi)))
                  go_meet
                  case rel => exact ⟨_, (true), (by first | rfl | (simp; done) | (simp [*]; done)), H', ⟨by have := HJ10.out; first | omega | exact Nat.le_refl _⟩, ⟨by (with_reducible repeat (first | apply Kd.S_alloc | apply Kd.S_drewN | apply Kd.S_drew)); exact Kd.S_mono HO_223000.out (fun _ hk => ⟨hk.1, ⟨hk.2.2.1, ⟨hk.2.2.2.1, ⟨hk.2.2.2.2.1, hk.2.2.2.2.2⟩⟩⟩⟩)⟩, ⟨by (with_reducible repeat (first | apply Kd.S_alloc | apply Kd.S_drewN | apply Kd.S_drew)); exact Kd.S_mono HO_238000.out (fun _ hk => ⟨hk.1, ⟨hk.2.2.1, hk.2.2.2⟩⟩)⟩, ⟨by (with_reducible repeat (first | refine blk_drewN ?_ _ | refine blk_drew ?_ | refine blk_alloc ?_ _)); exact BK207.out⟩, ⟨by (with_reducible repeat (first | refine blk_drewN ?_ _ | refine blk_drew ?_ | refine blk_alloc ?_ _)); exact BK222.out⟩, ⟨by (with_reducible repeat (first | refine blk_drewN ?_ _ | refine blk_drew ?_ | refine blk_alloc ?_ _)); exact BK237.out⟩, ⟨by repeat (first | (with_reducible first | exact HB.out | apply below_alloc | apply pw_below_drewN | apply below_drew1 | refine below_set ?_ GE207.out | refine below_set ?_ GE222.out | refine below_set ?_ GE229.out | refine below_set ?_ GE237.out) | exact HB.out)⟩⟩
            case rest =>
              clear HC60
              try clear c1
              try clear c2
              try clear p2
              try clear c3
              try clear c3b0
              try clear c4
              try clear c5
              try clear c6
              try clear c7
              try clear c8
              try clear c13
              try clear c14
              try clear c16
              try clear c18
              try clear c21
              try clear c27
              try clear c28
              try clear c30
              try clear c31
              try clear c33
              try clear c34
              try clear c35
              try clear c38
              try clear c39
              try clear c40
              try clear c41
              try clear c43
              try clear c44
              try clear c47
              try clear c48
              try clear c49
              try clear c51
              try clear c52
              try clear c55
              try clear c58
              try clear c65
              try clear c66
              try clear c67
              try clear c70
              try clear c70b0
              try clear c72
              try clear c73
              try clear c74
              try clear c75
              try clear c77
              try clear c78
              try clear c81
              try clear c82
              try clear c83
              try clear c85
              try clear c86
              try clear hcz13_0
              try clear hcz13_1
              try clear hcz13_2
              try clear hcz13_3
              try clear hcz15_0
              try clear hcz15_1
              try clear hcz15_2
              try clear hcz15_3
              try clear hcz22_0
              try clear hcz22_1
              try clear hcz22_2
              try clear hcz22_3
              try clear hcz23_0
              try clear hcz23_1
              try clear hcz23_2
              try clear hcz23_3
              try clear hcz29_0
              try clear hcz29_1
              try clear hcz29_2
              try clear hcz29_3
              try clear hcz36_0
              try clear hcz36_1
              try clear hcz36_2
              try clear hcz36_3
              try clear hcz42_0
              try clear hcz42_1
              try clear hcz42_2
              try clear hcz42_3
              try clear hcz45_0
              try clear hcz45_1
              try clear hcz45_2
              try clear hcz45_3
              try clear hcz50_0
              try clear hcz50_1
              try clear hcz50_2
              try clear hcz50_3
              try clear hcz53_0
              try clear hcz53_1
              try clear hcz53_2
              try clear hcz53_3
              try clear hcz5_0
              try clear hcz5_1
              try clear hcz5_2
              try clear hcz5_3
              try clear hcz68_0
              try clear hcz68_1
              try clear hcz68_2
              try clear hcz68_3
              try clear hcz76_0
              try clear hcz76_1
              try clear hcz76_2
              try clear hcz76_3
              try clear hcz79_0
              try clear hcz79_1
              try clear hcz79_2
              try clear hcz79_3
              try clear hcz84_0
              try clear hcz84_1
              try clear hcz84_2
              try clear hcz84_3
              try clear hcz87_0
              try clear hcz87_1
              try clear hcz87_2
              try clear hcz87_3
              try clear hfz13_0
              try clear hfz13_1
              try clear hfz13_2
              try clear hfz13_3
              try clear hfz15_0
              try clear hfz15_1
              try clear hfz15_2
              try clear hfz15_3
              try clear hfz22_0
              try clear hfz22_1
              try clear hfz22_2
              try clear hfz22_3
              try clear hfz23_0
              try clear hfz23_1
              try clear hfz23_2
              try clear hfz23_3
              try clear hfz29_0
              try clear hfz29_1
              try clear hfz29_2
              try clear hfz29_3
              try clear hfz36_0
              try clear hfz36_1
              try clear hfz36_2
              try clear hfz36_3
              try clear hfz42_0
              try clear hfz42_1
              try clear hfz42_2
              try clear hfz42_3
              try clear hfz45_0
              try clear hfz45_1
              try clear hfz45_2
              try clear hfz45_3
              try clear hfz50_0
              try clear hfz50_1
              try clear hfz50_2
              try clear hfz50_3
              try clear hfz53_0
              try clear hfz53_1
              try clear hfz53_2
              try clear hfz53_3
              try clear hfz5_0
              try clear hfz5_1
              try clear hfz5_2
              try clear hfz5_3
              try clear hfz68_0
              try clear hfz68_1
              try clear hfz68_2
              try clear hfz68_3
              try clear hfz76_0
              try clear hfz76_1
              try clear hfz76_2
              try clear hfz76_3
              try clear hfz79_0
              try clear hfz79_1
              try clear hfz79_2
              try clear hfz79_3
              try clear hfz84_0
              try clear hfz84_1
              try clear hfz84_2
              try clear hfz84_3
              try clear hfz87_0
              try clear hfz87_1
              try clear hfz87_2
              try clear hfz87_3
              try clear p2
              obtain ⟨kq, x61_59, rfl, HA, HJ59, HO_223000, HO_238000, BK207, BK222, BK237, HB⟩ := hcut
              cases kq with
              | zero => exact absurd HA.out (by simp [laws_FnExactRestart.j1])
              | succ kj59 =>
                have H := HA.out
                clear HA
                simp only [laws_FnExactRestart.j1] at H
                by_cases c89 : x61_59 = true
                · subst c89
                  have H1 : (some false) = some r := by rw [if_pos rfl] at H; exact H
                  clear H
                  have H := H1
                  clear H1
                  obtain rfl := Option.some.inj H
                  go_wp2
                  go_ret
                  exact ⟨by first | rfl | (simp [errW_none, errW_some] <;> rfl) | (simp [*, errW_none, errW_some] <;> rfl), by repeat (first | (with_reducible first | exact HB.out | apply below_alloc | apply pw_below_drewN | apply below_drew1 | refine below_set ?_ GE207.out | refine below_set ?_ GE222.out | refine below_set ?_ GE237.out) | exact HB.out)⟩
                · replace c89 := Bool.eq_false_iff.mpr c89
                  subst c89
                  have H1 : ((laws_markDisk.f kj59 t230 t233 t234 t235 1).bind fun bt249 => ((laws_heldDisk.f kj59 bt249.2 t233 t234 t235 1).bind fun t251 => (if t251 < 0 then (some false) else (if t251 = bt249.1 then ((laws_toDisk.f kj59 l0_0 a0_1 a0_2 a0_3).bind fun bt252 => ((impl_Restart.f kj59 bt252.1 bt252.2.1 bt252.2.2.1 bt252.2.2.2).bind fun bt258 => ((laws_eqDisk.f kj59 bt258.1 bt258.2.1 bt258.2.2.1 bt258.2.2.2.1 t215 t218 t219 t220).bind fun t266 => (if t266 = true then (laws_FnExactRestart.j2 kj59 bt249.1 (bt258.2.2.2.2 != t221) bt249.2 t233 t234 t235) else (laws_FnExactRestart.j2 kj59 bt249.1 true bt249.2 t233 t234 t235))))) else (some false))))) = some r := by rw [if_neg (show ¬ (false = true) by decide)] at H; exact H
                  clear H
                  have H := H1
                  clear H1
                  replace H := Option.bind_eq_some_iff.mp H
                  obtain ⟨⟨t249, t250⟩, A900, H⟩ := H
                  replace H : ((laws_heldDisk.f kj59 t250 t233 t234 t235 1).bind fun t251 => (if t251 < 0 then (some false) else (if t251 = t249 then ((laws_toDisk.f kj59 l0_0 a0_1 a0_2 a0_3).bind fun bt252 => ((impl_Restart.f kj59 bt252.1 bt252.2.1 bt252.2.2.1 bt252.2.2.2).bind fun bt258 => ((laws_eqDisk.f kj59 bt258.1 bt258.2.1 bt258.2.2.1 bt258.2.2.2.1 t215 t218 t219 t220).bind fun t266 => (if t266 = true then (laws_FnExactRestart.j2 kj59 t249 (bt258.2.2.2.2 != t221) t250 t233 t234 t235) else (laws_FnExactRestart.j2 kj59 t249 true t250 t233 t234 t235))))) else (some false)))) = some r := H
                  have A90 := Aside0.mk A900
                  clear A900
                  replace H := Option.bind_eq_some_iff.mp H
                  obtain ⟨t251, A910, H⟩ := H
                  replace H : (if t251 < 0 then (some false) else (if t251 = t249 then ((laws_toDisk.f kj59 l0_0 a0_1 a0_2 a0_3).bind fun bt252 => ((impl_Restart.f kj59 bt252.1 bt252.2.1 bt252.2.2.1 bt252.2.2.2).bind fun bt258 => ((laws_eqDisk.f kj59 bt258.1 bt258.2.1 bt258.2.2.1 bt258.2.2.2.1 t215 t218 t219 t220).bind fun t266 => (if t266 = true then (laws_FnExactRestart.j2 kj59 t249 (bt258.2.2.2.2 != t221) t250 t233 t234 t235) else (laws_FnExactRestart.j2 kj59 t249 true t250 t233 t234 t235))))) else (some false))) = some r := H
                  have A91 := Aside0.mk A910
                  clear A910
                  by_cases c92 : t251 < 0
                  · rw [if_pos c92] at H
                    have c92b0 : decide (t251 < 0) = true := decide_eq_true c92
                    clear c92
                    obtain rfl := Option.some.inj H
                    have hnb93 := NB237_207.out
                    have hnc93 := NB207_237.out
                    have hnb94 := NB237_222.out
                    have hnc94 := NB222_237.out
                    have hcz95_0 : wc.cell? ⟨gb237, 0, none⟩ = some (.slice Ao32 t230.length co32) := (blk_cell BK237.out 0).trans rfl
                    have hcz95_1 : wc.cell? ⟨gb237, 1, none⟩ = some (.int .i64 t233) := (blk_cell BK237.out 1).trans rfl
                    have hcz95_2 : wc.cell? ⟨gb237, 2, none⟩ = some (.bool t234) := (blk_cell BK237.out 2).trans rfl
                    have hcz95_3 : wc.cell? ⟨gb237, 3, none⟩ = some (.int .i64 t235) := (blk_cell BK237.out 3).trans rfl
                    have hfz95_0 := blk_frozen BK237.out 0
                    have hfz95_1 := blk_frozen BK237.out 1
                    have hfz95_2 := blk_frozen BK237.out 2
                    have hfz95_3 := blk_frozen BK237.out 3
                    go_wp2_with (first | ((with_reducible refine gate_callee (f := 14) rfl ?_); refine goesL_ (some 64) rfl rfl Try.func14 (by kernel_rfl) rfl #[.agg #[.slice Ao32 t230.length co32, .int .i64 t233, .bool t234, .int .i64 t235], .int .i64 1] rfl (by (try simp only [List.map_toArray, List.map_cons, List.map_nil]); first | done | rfl | (simp only [List.length_drop, List.length_take]; rfl)) ?_; (with_reducible refine (laws_markDisk.calls kj59 (SB_ (Kd.slice 5 (Kd.int .u8)) 35 wc w.heap.size (fun k_ => (some k_ ≠ (.slice Ao20 t215.length co20 : Value).ownBlock ∧ (w25.heap.size ≤ k_ ∧ k_ < w61.heap.size)))) (.slice Ao32 t230.length co32) t230 t233 t234 t235 1 t249 t250 w _ ?side1 ?side2 A90.out).mono ?_); (case side1 => repeat (first | (with_reducible first | exact HB.out | apply below_alloc | apply pw_below_drewN | apply below_drew1 | refine below_set ?_ GE207.out | refine below_set ?_ GE222.out | refine below_set ?_ GE237.out) | exact HB.out)); (case side2 => exact SB_own HO_238000.out); rintro e w96 ⟨rfl, hy0, hb, hkp⟩; refine ⟨_, rfl, ?_⟩; have n0_ := Aside0.mk (Kd.S_mono (ok' := fun k_ => some k_ ≠ (.slice Ao32 t230.length co32 : Value).ownBlock ∧ w16.heap.size ≤ k_ ∧ k_ < w19.heap.size ∧ k_ < w25.heap.size ∧ k_ < w61.heap.size) (Kd.S_keptB ((S_apartSBn (d' := (Kd.slice 5 (Kd.int .u8))) (e' := 35) (base' := w.heap.size) (ok' := (fun k_ => (some k_ ≠ (.slice Ao20 t215.length co20 : Value).ownBlock ∧ (w25.heap.size ≤ k_ ∧ k_ < w61.heap.size)))) HO_223000.out (fun k_ hk h2_ => absurd (hk.2.2.2.1) (Nat.not_lt.2 (h2_.2.1))))) hkp (fun k_ hk_ hs_ => (hk_.2) hs_)) (fun k_ hk_ => ⟨hk_.1.1.1, hk_.1.1.2.1, hk_.1.1.2.2.1, hk_.1.1.2.2.2.1, hk_.1.1.2.2.2.2⟩)); have n1_ := Aside0.mk (Kd.S_mono (ok' := fun k_ => some k_ ≠ (.slice Ao20 t215.length co20 : Value).ownBlock) hy0 (fun k_ h_ => Or.elim h_ (fun p_ => p_.1.1) (fun n_ => (Kd.fresh' (Kd.S_lt (by (with_reducible repeat (first | apply Kd.S_alloc | apply Kd.S_drewN | apply Kd.S_drew)); exact HO_223000.out)) k_ n_)))); have n2_ := Aside0.mk (blk_kept (by (with_reducible repeat (first | refine blk_drewN ?_ _ | refine blk_drew ?_ | refine blk_alloc ?_ _)); exact BK207.out) hkp (fun hs_ => (fun e_ => (blk_SB BK207.out (by decide)) e_) hs_)); have n3_ := Aside0.mk (blk_kept (by (with_reducible repeat (first | refine blk_drewN ?_ _ | refine blk_drew ?_ | refine blk_alloc ?_ _)); exact BK222.out) hkp (fun hs_ => (fun e_ => (blk_SB BK222.out (by decide)) e_) hs_)); have n4_ := Aside0.mk (blk_kept (by (with_reducible repeat (first | refine blk_drewN ?_ _ | refine blk_drew ?_ | refine blk_alloc ?_ _)); exact BK237.out) hkp (fun hs_ => (fun e_ => (blk_SB BK237.out (by decide)) e_) hs_)); have n5_ := Aside0.mk (hb); clear HO_223000; clear HO_238000; clear BK207; clear BK222; clear BK237; clear HB; have HO_223000 := n0_; have HO_238000 := n1_; have BK207 := n2_; have BK222 := n3_; have BK237 := n4_; have HB := n5_; clear n0_ n1_ n2_ n3_ n4_ n5_; (try clear hb); (try clear hkp); (try clear hy0); have hcz97_0 : w96.cell? ⟨gb237, 0, none⟩ = some (.slice Ao32 t230.length co32) := (blk_cell BK237.out 0).trans rfl; have hcz97_1 : w96.cell? ⟨gb237, 1, none⟩ = some (.int .i64 t233) := (blk_cell BK237.out 1).trans rfl; have hcz97_2 : w96.cell? ⟨gb237, 2, none⟩ = some (.bool t234) := (blk_cell BK237.out 2).trans rfl; have hcz97_3 : w96.cell? ⟨gb237, 3, none⟩ = some (.int .i64 t235) := (blk_cell BK237.out 3).trans rfl; have hfz97_0 := blk_frozen BK237.out 0; have hfz97_1 := blk_frozen BK237.out 1; have hfz97_2 := blk_frozen BK237.out 2; have hfz97_3 := blk_frozen BK237.out 3) | ((with_reducible refine gate_callee (f := 15) rfl ?_); refine goesL_ (some 67) rfl rfl Try.func15 (by kernel_rfl) rfl #[.agg #[.slice Ao32 t250.length co32, .int .i64 t233, .bool t234, .int .i64 t235], .int .i64 1] rfl (by (try simp only [List.map_toArray, List.map_cons, List.map_nil]); first | done | (rw [show t250.length = t230.length from (Kd.S_reads' HO_238000.out).1.symm] <;> rfl) | rfl | (simp only [List.length_drop, List.length_take]; rfl)) ?_; (with_reducible refine (laws_heldDisk.calls kj59 _ _ t250 t233 t234 t235 1 t251 _ ?side1 ?side2 A91.out).mono ?_); (case side1 => repeat (first | exact (Kd.S_reads' HO_238000.out).2.2 | (with_reducible refine Kd.C_alloc ?_ _) | (with_reducible refine Kd.C_drewN ?_ _) | (with_reducible refine Kd.C_drew ?_))); (case side2 => rw [show t250.length = t230.length from (Kd.S_reads' HO_238000.out).1.symm]; exact (Kd.S_reads' HO_238000.out).2.1); rintro e w98 ⟨rfl, hb⟩; refine ⟨_, rfl, ?_⟩; have n0_ := Aside0.mk (Kd.S_below (by (with_reducible repeat (first | apply Kd.S_alloc | apply Kd.S_drewN | apply Kd.S_drew)); exact HO_223000.out) hb); have n1_ := Aside0.mk (Kd.S_below (by (with_reducible repeat (first | apply Kd.S_alloc | apply Kd.S_drewN | apply Kd.S_drew)); exact HO_238000.out) hb); have n2_ := Aside0.mk (blk_below (g := gb207) (o := .cells #[.slice A0_0 l0_0.length c0_0, .int .i64 a0_1, .bool a0_2, .int .i64 a0_3] 30 (0, 0)) (by (with_reducible repeat (first | refine blk_drewN ?_ _ | refine blk_drew ?_ | refine blk_alloc ?_ _)); exact BK207.out) hb); have n3_ := Aside0.mk (blk_below (g := gb222) (o := .cells #[.slice Ao20 t215.length co20, .int .i64 t218, .bool t219, .int .i64 t220] 24 (0, 0)) (by (with_reducible repeat (first | refine blk_drewN ?_ _ | refine blk_drew ?_ | refine blk_alloc ?_ _)); exact BK222.out) hb); have n4_ := Aside0.mk (blk_below (g := gb237) (o := .cells #[.slice Ao32 t230.length co32, .int .i64 t233, .bool t234, .int .i64 t235] 24 (0, 0)) (by (with_reducible repeat (first | refine blk_drewN ?_ _ | refine blk_drew ?_ | refine blk_alloc ?_ _)); exact BK237.out) hb); have n5_ := Aside0.mk (below_step (by repeat (first | (with_reducible first | exact HB.out | apply below_alloc | apply pw_below_drewN | apply below_drew1 | refine below_set ?_ GE207.out | refine below_set ?_ GE222.out | refine below_set ?_ GE237.out) | exact HB.out)) hb); clear HO_223000; clear HO_238000; clear BK207; clear BK222; clear BK237; clear HB; have HO_223000 := n0_; have HO_238000 := n1_; have BK207 := n2_; have BK222 := n3_; have BK237 := n4_; have HB := n5_; clear n0_ n1_ n2_ n3_ n4_ n5_; (try clear hb); (try clear hb2); (try clear hk); (try clear hi)))
                    go_ret
                    exact ⟨by first | rfl | (simp [errW_none, errW_some] <;> rfl) | (simp [*, errW_none, errW_some] <;> rfl), by repeat (first | (with_reducible first | exact HB.out | apply below_alloc | apply pw_below_drewN | apply below_drew1 | refine below_set ?_ GE207.out | refine below_set ?_ GE222.out | refine below_set ?_ GE237.out) | exact HB.out)⟩
                  · rw [if_neg c92] at H
                    have c92b0 : decide (t251 < 0) = false := decide_eq_false c92
                    clear c92
                    by_cases c99 : t251 = t249
                    · rw [if_pos c99] at H
                      have c99b0 : (t251 == t249) = true := beq_iff_eq.mpr c99
                      have c99b1 : (t251 != t249) = false := bne_eq_false_iff_eq.mpr c99
                      clear c99
                      replace H := Option.bind_eq_some_iff.mp H
                      obtain ⟨⟨t252, t255, t256, t257⟩, A1000, H⟩ := H
                      replace H : ((impl_Restart.f kj59 t252 t255 t256 t257).bind fun bt258 => ((laws_eqDisk.f kj59 bt258.1 bt258.2.1 bt258.2.2.1 bt258.2.2.2.1 t215 t218 t219 t220).bind fun t266 => (if t266 = true then (laws_FnExactRestart.j2 kj59 t249 (bt258.2.2.2.2 != t221) t250 t233 t234 t235) else (laws_FnExactRestart.j2 kj59 t249 true t250 t233 t234 t235)))) = some r := H
                      have A100 := Aside0.mk A1000
                      clear A1000
                      replace H := Option.bind_eq_some_iff.mp H
                      obtain ⟨⟨t258, t261, t262, t263, t264⟩, A1010, H⟩ := H
                      replace H : ((laws_eqDisk.f kj59 t258 t261 t262 t263 t215 t218 t219 t220).bind fun t266 => (if t266 = true then (laws_FnExactRestart.j2 kj59 t249 (t264 != t221) t250 t233 t234 t235) else (laws_FnExactRestart.j2 kj59 t249 true t250 t233 t234 t235))) = some r := H
                      have A101 := Aside0.mk A1010
                      clear A1010
                      have HC102 := Aside0.mk H
                      clear H
                      have hnb103 := NB237_207.out
                      have hnc103 := NB207_237.out
                      have hnb104 := NB237_222.out
                      have hnc104 := NB222_237.out
                      have hcz105_0 : wc.cell? ⟨gb237, 0, none⟩ = some (.slice Ao32 t230.length co32) := (blk_cell BK237.out 0).trans rfl
                      have hcz105_1 : wc.cell? ⟨gb237, 1, none⟩ = some (.int .i64 t233) := (blk_cell BK237.out 1).trans rfl
                      have hcz105_2 : wc.cell? ⟨gb237, 2, none⟩ = some (.bool t234) := (blk_cell BK237.out 2).trans rfl
                      have hcz105_3 : wc.cell? ⟨gb237, 3, none⟩ = some (.int .i64 t235) := (blk_cell BK237.out 3).trans rfl
                      have hfz105_0 := blk_frozen BK237.out 0
                      have hfz105_1 := blk_frozen BK237.out 1
                      have hfz105_2 := blk_frozen BK237.out 2
                      have hfz105_3 := blk_frozen BK237.out 3
                      go_upto_region 25 with (first | ((with_reducible refine gate_callee (f := 14) rfl ?_); refine goesL_ (some 64) rfl rfl Try.func14 (by kernel_rfl) rfl #[.agg #[.slice Ao32 t230.length co32, .int .i64 t233, .bool t234, .int .i64 t235], .int .i64 1] rfl (by (try simp only [List.map_toArray, List.map_cons, List.map_nil]); first | done | rfl | (simp only [List.length_drop, List.length_take]; rfl)) ?_; (with_reducible refine (laws_markDisk.calls kj59 (SB_ (Kd.slice 5 (Kd.int .u8)) 35 wc w.heap.size (fun k_ => (some k_ ≠ (.slice Ao20 t215.length co20 : Value).ownBlock ∧ (w25.heap.size ≤ k_ ∧ k_ < w61.heap.size)))) (.slice Ao32 t230.length co32) t230 t233 t234 t235 1 t249 t250 w _ ?side1 ?side2 A90.out).mono ?_); (case side1 => repeat (first | (with_reducible first | exact HB.out | apply below_alloc | apply pw_below_drewN | apply below_drew1 | refine below_set ?_ GE207.out | refine below_set ?_ GE222.out | refine below_set ?_ GE237.out) | exact HB.out)); (case side2 => exact SB_own HO_238000.out); rintro e w106 ⟨rfl, hy0, hb, hkp⟩; refine ⟨_, rfl, ?_⟩; have n0_ := Aside0.mk (Kd.S_mono (ok' := fun k_ => some k_ ≠ (.slice Ao32 t230.length co32 : Value).ownBlock ∧ w16.heap.size ≤ k_ ∧ k_ < w19.heap.size ∧ k_ < w25.heap.size ∧ k_ < w61.heap.size) (Kd.S_keptB ((S_apartSBn (d' := (Kd.slice 5 (Kd.int .u8))) (e' := 35) (base' := w.heap.size) (ok' := (fun k_ => (some k_ ≠ (.slice Ao20 t215.length co20 : Value).ownBlock ∧ (w25.heap.size ≤ k_ ∧ k_ < w61.heap.size)))) HO_223000.out (fun k_ hk h2_ => absurd (hk.2.2.2.1) (Nat.not_lt.2 (h2_.2.1))))) hkp (fun k_ hk_ hs_ => (hk_.2) hs_)) (fun k_ hk_ => ⟨hk_.1.1.1, hk_.1.1.2.1, hk_.1.1.2.2.1, hk_.1.1.2.2.2.1, hk_.1.1.2.2.2.2⟩)); have n1_ := Aside0.mk (Kd.S_mono (ok' := fun k_ => some k_ ≠ (.slice Ao20 t215.length co20 : Value).ownBlock) hy0 (fun k_ h_ => Or.elim h_ (fun p_ => p_.1.1) (fun n_ => (Kd.fresh' (Kd.S_lt (by (with_reducible repeat (first | apply Kd.S_alloc | apply Kd.S_drewN | apply Kd.S_drew)); exact HO_223000.out)) k_ n_)))); have n2_ := Aside0.mk (blk_kept (by (with_reducible repeat (first | refine blk_drewN ?_ _ | refine blk_drew ?_ | refine blk_alloc ?_ _)); exact BK207.out) hkp (fun hs_ => (fun e_ => (blk_SB BK207.out (by decide)) e_) hs_)); have n3_ := Aside0.mk (blk_kept (by (with_reducible repeat (first | refine blk_drewN ?_ _ | refine blk_drew ?_ | refine blk_alloc ?_ _)); exact BK222.out) hkp (fun hs_ => (fun e_ => (blk_SB BK222.out (by decide)) e_) hs_)); have n4_ := Aside0.mk (blk_kept (by (with_reducible repeat (first | refine blk_drewN ?_ _ | refine blk_drew ?_ | refine blk_alloc ?_ _)); exact BK237.out) hkp (fun hs_ => (fun e_ => (blk_SB BK237.out (by decide)) e_) hs_)); have n5_ := Aside0.mk (hb); clear HO_223000; clear HO_238000; clear BK207; clear BK222; clear BK237; clear HB; have HO_223000 := n0_; have HO_238000 := n1_; have BK207 := n2_; have BK222 := n3_; have BK237 := n4_; have HB := n5_; clear n0_ n1_ n2_ n3_ n4_ n5_; (try clear hb); (try clear hkp); (try clear hy0); have hcz107_0 : w106.cell? ⟨gb237, 0, none⟩ = some (.slice Ao32 t230.length co32) := (blk_cell BK237.out 0).trans rfl; have hcz107_1 : w106.cell? ⟨gb237, 1, none⟩ = some (.int .i64 t233) := (blk_cell BK237.out 1).trans rfl; have hcz107_2 : w106.cell? ⟨gb237, 2, none⟩ = some (.bool t234) := (blk_cell BK237.out 2).trans rfl; have hcz107_3 : w106.cell? ⟨gb237, 3, none⟩ = some (.int .i64 t235) := (blk_cell BK237.out 3).trans rfl; have hfz107_0 := blk_frozen BK237.out 0; have hfz107_1 := blk_frozen BK237.out 1; have hfz107_2 := blk_frozen BK237.out 2; have hfz107_3 := blk_frozen BK237.out 3) | ((with_reducible refine gate_callee (f := 15) rfl ?_); refine goesL_ (some 67) rfl rfl Try.func15 (by kernel_rfl) rfl #[.agg #[.slice Ao32 t250.length co32, .int .i64 t233, .bool t234, .int .i64 t235], .int .i64 1] rfl (by (try simp only [List.map_toArray, List.map_cons, List.map_nil]); first | done | (rw [show t250.length = t230.length from (Kd.S_reads' HO_238000.out).1.symm] <;> rfl) | rfl | (simp only [List.length_drop, List.length_take]; rfl)) ?_; (with_reducible refine (laws_heldDisk.calls kj59 _ _ t250 t233 t234 t235 1 t251 _ ?side1 ?side2 A91.out).mono ?_); (case side1 => repeat (first | exact (Kd.S_reads' HO_238000.out).2.2 | (with_reducible refine Kd.C_alloc ?_ _) | (with_reducible refine Kd.C_drewN ?_ _) | (with_reducible refine Kd.C_drew ?_))); (case side2 => rw [show t250.length = t230.length from (Kd.S_reads' HO_238000.out).1.symm]; exact (Kd.S_reads' HO_238000.out).2.1); rintro e w108 ⟨rfl, hb⟩; refine ⟨_, rfl, ?_⟩; have n0_ := Aside0.mk (Kd.S_below (by (with_reducible repeat (first | apply Kd.S_alloc | apply Kd.S_drewN | apply Kd.S_drew)); exact HO_223000.out) hb); have n1_ := Aside0.mk (Kd.S_below (by (with_reducible repeat (first | apply Kd.S_alloc | apply Kd.S_drewN | apply Kd.S_drew)); exact HO_238000.out) hb); have n2_ := Aside0.mk (blk_below (g := gb207) (o := .cells #[.slice A0_0 l0_0.length c0_0, .int .i64 a0_1, .bool a0_2, .int .i64 a0_3] 30 (0, 0)) (by (with_reducible repeat (first | refine blk_drewN ?_ _ | refine blk_drew ?_ | refine blk_alloc ?_ _)); exact BK207.out) hb); have n3_ := Aside0.mk (blk_below (g := gb222) (o := .cells #[.slice Ao20 t215.length co20, .int .i64 t218, .bool t219, .int .i64 t220] 24 (0, 0)) (by (with_reducible repeat (first | refine blk_drewN ?_ _ | refine blk_drew ?_ | refine blk_alloc ?_ _)); exact BK222.out) hb); have n4_ := Aside0.mk (blk_below (g := gb237) (o := .cells #[.slice Ao32 t230.length co32, .int .i64 t233, .bool t234, .int .i64 t235] 24 (0, 0)) (by (with_reducible repeat (first | refine blk_drewN ?_ _ | refine blk_drew ?_ | refine blk_alloc ?_ _)); exact BK237.out) hb); have n5_ := Aside0.mk (below_step (by repeat (first | (with_reducible first | exact HB.out | apply below_alloc | apply pw_below_drewN | apply below_drew1 | refine below_set ?_ GE207.out | refine below_set ?_ GE222.out | refine below_set ?_ GE237.out) | exact HB.out)) hb); clear HO_223000; clear HO_238000; clear BK207; clear BK222; clear BK237; clear HB; have HO_223000 := n0_; have HO_238000 := n1_; have BK207 := n2_; have BK222 := n3_; have BK237 := n4_; have HB := n5_; clear n0_ n1_ n2_ n3_ n4_ n5_; (try clear hb); (try clear hb2); (try clear hk); (try clear hi); have hnb109 := NB207_222.out; have hnc109 := NB222_207.out; have hcz110_0 : w108.cell? ⟨gb207, 0, none⟩ = some (.slice A0_0 l0_0.length c0_0) := (blk_cell BK207.out 0).trans rfl; have hcz110_1 : w108.cell? ⟨gb207, 1, none⟩ = some (.int .i64 a0_1) := (blk_cell BK207.out 1).trans rfl; have hcz110_2 : w108.cell? ⟨gb207, 2, none⟩ = some (.bool a0_2) := (blk_cell BK207.out 2).trans rfl; have hcz110_3 : w108.cell? ⟨gb207, 3, none⟩ = some (.int .i64 a0_3) := (blk_cell BK207.out 3).trans rfl; have hfz110_0 := blk_frozen BK207.out 0; have hfz110_1 := blk_frozen BK207.out 1; have hfz110_2 := blk_frozen BK207.out 2; have hfz110_3 := blk_frozen BK207.out 3) | ((with_reducible refine gate_callee (f := 18) rfl ?_); refine goesL_ (some 75) rfl rfl Try.func18 (by kernel_rfl) rfl #[.agg #[.slice A0_0 l0_0.length c0_0, .int .i64 a0_1, .bool a0_2, .int .i64 a0_3]] rfl (by (try simp only [List.map_toArray, List.map_cons, List.map_nil]); first | done | rfl | (simp only [List.length_drop, List.length_take]; rfl)) ?_; (with_reducible refine (laws_toDisk.calls kj59 _ _ l0_0 a0_1 a0_2 a0_3 t252 t255 t256 t257 _ ?side1 ?side2 A100.out).mono ?_); (case side1 => repeat (first | exact (Kd.C_below HR0_0.out HB.out) | (with_reducible refine Kd.C_alloc ?_ _) | (with_reducible refine Kd.C_drewN ?_ _) | (with_reducible refine Kd.C_drew ?_))); (case side2 => exact HC0_0.out); rintro e w111 ⟨v253, rfl, ho0, hb⟩; refine ⟨_, rfl, ?_⟩; have n0_ := Aside0.mk (Kd.S_told (Kd.S_old (by (with_reducible repeat (first | apply Kd.S_alloc | apply Kd.S_drewN | apply Kd.S_drew)); exact HO_223000.out) hb) (Kd.S_base ho0)); have n1_ := Aside0.mk (Kd.S_told (Kd.S_old (by (with_reducible repeat (first | apply Kd.S_alloc | apply Kd.S_drewN | apply Kd.S_drew)); exact HO_238000.out) hb) (Kd.S_base ho0)); have n2_ := Aside0.mk (Kd.S_lower (Kd.S_new' (Kd.S_new' (Kd.S_mono (Kd.S_bound ho0) (fun k_ h_ => (⟨h_.1, (by first | exact h_.2.1 | simpa only [World.size_setCell] using h_.2.1)⟩ : _ ∧ w108.heap.size ≤ k_))) (Kd.S_lt (by (with_reducible repeat (first | apply Kd.S_alloc | apply Kd.S_drewN | apply Kd.S_drew)); exact HO_223000.out))) (Kd.S_lt (by (with_reducible repeat (first | apply Kd.S_alloc | apply Kd.S_drewN | apply Kd.S_drew)); exact HO_238000.out))) (below_size (by repeat (first | (with_reducible first | exact HB.out | apply below_alloc | apply pw_below_drewN | apply below_drew1 | refine below_set ?_ GE207.out | refine below_set ?_ GE222.out | refine below_set ?_ GE237.out) | exact HB.out)))); have n3_ := Aside0.mk (blk_below (g := gb207) (o := .cells #[.slice A0_0 l0_0.length c0_0, .int .i64 a0_1, .bool a0_2, .int .i64 a0_3] 30 (0, 0)) (by (with_reducible repeat (first | refine blk_drewN ?_ _ | refine blk_drew ?_ | refine blk_alloc ?_ _)); exact BK207.out) hb); have n4_ := Aside0.mk (blk_below (g := gb222) (o := .cells #[.slice Ao20 t215.length co20, .int .i64 t218, .bool t219, .int .i64 t220] 24 (0, 0)) (by (with_reducible repeat (first | refine blk_drewN ?_ _ | refine blk_drew ?_ | refine blk_alloc ?_ _)); exact BK222.out) hb); have n5_ := Aside0.mk (blk_below (g := gb237) (o := .cells #[.slice Ao32 t230.length co32, .int .i64 t233, .bool t234, .int .i64 t235] 24 (0, 0)) (by (with_reducible repeat (first | refine blk_drewN ?_ _ | refine blk_drew ?_ | refine blk_alloc ?_ _)); exact BK237.out) hb); have n6_ := Aside0.mk (below_step (by repeat (first | (with_reducible first | exact HB.out | apply below_alloc | apply pw_below_drewN | apply below_drew1 | refine below_set ?_ GE207.out | refine below_set ?_ GE222.out | refine below_set ?_ GE237.out) | exact HB.out)) hb); clear HO_223000; clear HO_238000; clear BK207; clear BK222; clear BK237; clear HB; have HO_223000 := n0_; have HO_238000 := n1_; have HO254 := n2_; have BK207 := n3_; have BK222 := n4_; have BK237 := n5_; have HB := n6_; clear n0_ n1_ n2_ n3_ n4_ n5_ n6_; (try clear hb); (try clear hb2); (try clear hk); (try clear hi); (try clear ho0); obtain ⟨Ao112, co112, eo112⟩ := Kd.S_slice HO254.out; subst eo112) | ((with_reducible refine gate_callee (f := 31) rfl ?_); refine goesL_ (some 76) rfl rfl Try.func31 (by kernel_rfl) rfl #[.agg #[.slice Ao112 t252.length co112, .int .i64 t255, .bool t256, .int .i64 t257]] rfl (by (try simp only [List.map_toArray, List.map_cons, List.map_nil]); first | done | rfl | (simp only [List.length_drop, List.length_take]; rfl)) ?_; (with_reducible refine (impl_Restart.calls kj59 _ _ t252 t255 t256 t257 t258 t261 t262 t263 t264 _ ?side1 ?side2 A101.out).mono ?_); (case side1 => repeat (first | exact (Kd.S_reads' HO254.out).2.2 | (with_reducible refine Kd.C_alloc ?_ _) | (with_reducible refine Kd.C_drewN ?_ _) | (with_reducible refine Kd.C_drew ?_))); (case side2 => exact (Kd.S_reads' HO254.out).2.1); rintro e w113 ⟨v259, rfl, ho0, hb⟩; refine ⟨_, rfl, ?_⟩; have n0_ := Aside0.mk (Kd.S_told (Kd.S_old (by (with_reducible repeat (first | apply Kd.S_alloc | apply Kd.S_drewN | apply Kd.S_drew)); exact HO_223000.out) hb) (Kd.S_base ho0)); have n1_ := Aside0.mk (Kd.S_told (Kd.S_old (by (with_reducible repeat (first | apply Kd.S_alloc | apply Kd.S_drewN | apply Kd.S_drew)); exact HO_238000.out) hb) (Kd.S_base ho0)); have n2_ := Aside0.mk (Kd.S_told (Kd.S_old (by (with_reducible repeat (first | apply Kd.S_alloc | apply Kd.S_drewN | apply Kd.S_drew)); exact HO254.out) hb) (Kd.S_base ho0)); have n3_ := Aside0.mk (Kd.S_lower (Kd.S_new' (Kd.S_new' (Kd.S_new' (Kd.S_mono (Kd.S_bound ho0) (fun k_ h_ => (⟨h_.1, (by first | exact h_.2.1 | simpa only [World.size_setCell] using h_.2.1)⟩ : _ ∧ w111.heap.size ≤ k_))) (Kd.S_lt (by (with_reducible repeat (first | apply Kd.S_alloc | apply Kd.S_drewN | apply Kd.S_drew)); exact HO_223000.out))) (Kd.S_lt (by (with_reducible repeat (first | apply Kd.S_alloc | apply Kd.S_drewN | apply Kd.S_drew)); exact HO_238000.out))) (Kd.S_lt (by (with_reducible repeat (first | apply Kd.S_alloc | apply Kd.S_drewN | apply Kd.S_drew)); exact HO254.out))) (below_size (by repeat (first | (with_reducible first | exact HB.out | apply below_alloc | apply pw_below_drewN | apply below_drew1 | refine below_set ?_ GE207.out | refine below_set ?_ GE222.out | refine below_set ?_ GE237.out) | exact HB.out)))); have n4_ := Aside0.mk (blk_below (g := gb207) (o := .cells #[.slice A0_0 l0_0.length c0_0, .int .i64 a0_1, .bool a0_2, .int .i64 a0_3] 30 (0, 0)) (by (with_reducible repeat (first | refine blk_drewN ?_ _ | refine blk_drew ?_ | refine blk_alloc ?_ _)); exact BK207.out) hb); have n5_ := Aside0.mk (blk_below (g := gb222) (o := .cells #[.slice Ao20 t215.length co20, .int .i64 t218, .bool t219, .int .i64 t220] 24 (0, 0)) (by (with_reducible repeat (first | refine blk_drewN ?_ _ | refine blk_drew ?_ | refine blk_alloc ?_ _)); exact BK222.out) hb); have n6_ := Aside0.mk (blk_below (g := gb237) (o := .cells #[.slice Ao32 t230.length co32, .int .i64 t233, .bool t234, .int .i64 t235] 24 (0, 0)) (by (with_reducible repeat (first | refine blk_drewN ?_ _ | refine blk_drew ?_ | refine blk_alloc ?_ _)); exact BK237.out) hb); have n7_ := Aside0.mk (below_step (by repeat (first | (with_reducible first | exact HB.out | apply below_alloc | apply pw_below_drewN | apply below_drew1 | refine below_set ?_ GE207.out | refine below_set ?_ GE222.out | refine below_set ?_ GE237.out) | exact HB.out)) hb); clear HO_223000; clear HO_238000; clear HO254; clear BK207; clear BK222; clear BK237; clear HB; have HO_223000 := n0_; have HO_238000 := n1_; have HO254 := n2_; have HO260 := n3_; have BK207 := n4_; have BK222 := n5_; have BK237 := n6_; have HB := n7_; clear n0_ n1_ n2_ n3_ n4_ n5_ n6_ n7_; (try clear hb); (try clear hb2); (try clear hk); (try clear hi); (try clear ho0)) | ((with_reducible refine gate_dst (N := 12) rfl ?_); refine box_event ?hg (N := 12) ?hd (cs := #[.slice none 0 0, .int .i64 0, .bool false, .int .i64 0]) (t := 24) ?hr ?_; (case hd => rfl); (case hg => rfl); (case hr => first | (go_simp; done) | (go_simp; rfl)); intro gb265 hg w114 hbox hb; have n0_ := Aside0.mk (Kd.S_below (by (with_reducible repeat (first | apply Kd.S_alloc | apply Kd.S_drewN | apply Kd.S_drew)); exact HO_223000.out) hb); have n1_ := Aside0.mk (Kd.S_below (by (with_reducible repeat (first | apply Kd.S_alloc | apply Kd.S_drewN | apply Kd.S_drew)); exact HO_238000.out) hb); have n2_ := Aside0.mk (Kd.S_below (by (with_reducible repeat (first | apply Kd.S_alloc | apply Kd.S_drewN | apply Kd.S_drew)); exact HO254.out) hb); have n3_ := Aside0.mk (Kd.S_below (by (with_reducible repeat (first | apply Kd.S_alloc | apply Kd.S_drewN | apply Kd.S_drew)); exact HO260.out) hb); have n4_ := Aside0.mk (blk_below (g := gb207) (o := .cells #[.slice A0_0 l0_0.length c0_0, .int .i64 a0_1, .bool a0_2, .int .i64 a0_3] 30 (0, 0)) (by (with_reducible repeat (first | refine blk_drewN ?_ _ | refine blk_drew ?_ | refine blk_alloc ?_ _)); exact BK207.out) hb); have n5_ := Aside0.mk (blk_below (g := gb222) (o := .cells #[.slice Ao20 t215.length co20, .int .i64 t218, .bool t219, .int .i64 t220] 24 (0, 0)) (by (with_reducible repeat (first | refine blk_drewN ?_ _ | refine blk_drew ?_ | refine blk_alloc ?_ _)); exact BK222.out) hb); have n6_ := Aside0.mk (blk_below (g := gb237) (o := .cells #[.slice Ao32 t230.length co32, .int .i64 t233, .bool t234, .int .i64 t235] 24 (0, 0)) (by (with_reducible repeat (first | refine blk_drewN ?_ _ | refine blk_drew ?_ | refine blk_alloc ?_ _)); exact BK237.out) hb); have n7_ := Aside0.mk (below_step (by repeat (first | (with_reducible first | exact HB.out | apply below_alloc | apply pw_below_drewN | apply below_drew1 | refine below_set ?_ GE207.out | refine below_set ?_ GE222.out | refine below_set ?_ GE237.out) | exact HB.out)) hb); have n8_ := Aside0.mk (hbox); have n9_ := Aside0.mk ((by rw [hg]; exact (below_size (by repeat (first | (with_reducible first | exact HB.out | apply below_alloc | apply pw_below_drewN | apply below_drew1 | refine below_set ?_ GE207.out | refine below_set ?_ GE222.out | refine below_set ?_ GE237.out) | exact HB.out))) : w.heap.size ≤ gb265)); have n10_ := Aside0.mk ((by rw [hg]; exact (below_size (by repeat (first | (with_reducible first | exact HB.out | apply below_alloc | apply pw_below_drewN | apply below_drew1 | refine below_set ?_ GE207.out | refine below_set ?_ GE222.out | refine below_set ?_ GE237.out) | exact HB.out))) : w.heap.size ≤ gb265)); have n11_ := Aside0.mk ((by rw [hg]; exact Nat.ne_of_lt (blk_lt (g := gb207) (o := .cells #[.slice A0_0 l0_0.length c0_0, .int .i64 a0_1, .bool a0_2, .int .i64 a0_3] 30 (0, 0)) (by (with_reducible repeat (first | refine blk_drewN ?_ _ | refine blk_drew ?_ | refine blk_alloc ?_ _)); exact BK207.out)) : gb207 ≠ gb265)); have n12_ := Aside0.mk ((by rw [hg]; exact Nat.ne_of_gt (blk_lt (g := gb207) (o := .cells #[.slice A0_0 l0_0.length c0_0, .int .i64 a0_1, .bool a0_2, .int .i64 a0_3] 30 (0, 0)) (by (with_reducible repeat (first | refine blk_drewN ?_ _ | refine blk_drew ?_ | refine blk_alloc ?_ _)); exact BK207.out)) : gb265 ≠ gb207)); have n13_ := Aside0.mk ((by rw [hg]; exact Nat.ne_of_lt (blk_lt (g := gb222) (o := .cells #[.slice Ao20 t215.length co20, .int .i64 t218, .bool t219, .int .i64 t220] 24 (0, 0)) (by (with_reducible repeat (first | refine blk_drewN ?_ _ | refine blk_drew ?_ | refine blk_alloc ?_ _)); exact BK222.out)) : gb222 ≠ gb265)); have n14_ := Aside0.mk ((by rw [hg]; exact Nat.ne_of_gt (blk_lt (g := gb222) (o := .cells #[.slice Ao20 t215.length co20, .int .i64 t218, .bool t219, .int .i64 t220] 24 (0, 0)) (by (with_reducible repeat (first | refine blk_drewN ?_ _ | refine blk_drew ?_ | refine blk_alloc ?_ _)); exact BK222.out)) : gb265 ≠ gb222)); have n15_ := Aside0.mk ((by rw [hg]; exact Nat.ne_of_lt (blk_lt (g := gb237) (o := .cells #[.slice Ao32 t230.length co32, .int .i64 t233, .bool t234, .int .i64 t235] 24 (0, 0)) (by (with_reducible repeat (first | refine blk_drewN ?_ _ | refine blk_drew ?_ | refine blk_alloc ?_ _)); exact BK237.out)) : gb237 ≠ gb265)); have n16_ := Aside0.mk ((by rw [hg]; exact Nat.ne_of_gt (blk_lt (g := gb237) (o := .cells #[.slice Ao32 t230.length co32, .int .i64 t233, .bool t234, .int .i64 t235] 24 (0, 0)) (by (with_reducible repeat (first | refine blk_drewN ?_ _ | refine blk_drew ?_ | refine blk_alloc ?_ _)); exact BK237.out)) : gb265 ≠ gb237)); clear HO_223000; clear HO_238000; clear HO254; clear HO260; clear BK207; clear BK222; clear BK237; clear HB; have HO_223000 := n0_; have HO_238000 := n1_; have HO254 := n2_; have HO260 := n3_; have BK207 := n4_; have BK222 := n5_; have BK237 := n6_; have HB := n7_; have BK265 := n8_; have GW265 := n9_; have GE265 := n10_; have NB207_265 := n11_; have NB265_207 := n12_; have NB222_265 := n13_; have NB265_222 := n14_; have NB237_265 := n15_; have NB265_237 := n16_; clear n0_ n1_ n2_ n3_ n4_ n5_ n6_ n7_ n8_ n9_ n10_ n11_ n12_ n13_ n14_ n15_ n16_; clear hb hbox hg; obtain ⟨Ao115, co115, eo115⟩ := Kd.S_slice HO260.out; subst eo115; have hnb116 := NB265_207.out; have hnc116 := NB207_265.out; have hnb117 := NB265_222.out; have hnc117 := NB222_265.out; have hnb118 := NB265_237.out; have hnc118 := NB237_265.out; have hcz119_0 : w114.cell? ⟨gb265, 0, none⟩ = some (.slice none 0 0) := (blk_cell BK265.out 0).trans rfl; have hcz119_1 : w114.cell? ⟨gb265, 1, none⟩ = some (.int .i64 0) := (blk_cell BK265.out 1).trans rfl; have hcz119_2 : w114.cell? ⟨gb265, 2, none⟩ = some (.bool false) := (blk_cell BK265.out 2).trans rfl; have hcz119_3 : w114.cell? ⟨gb265, 3, none⟩ = some (.int .i64 0) := (blk_cell BK265.out 3).trans rfl; have hfz119_0 := blk_frozen BK265.out 0; have hfz119_1 := blk_frozen BK265.out 1; have hfz119_2 := blk_frozen BK265.out 2; have hfz119_3 := blk_frozen BK265.out 3))
                      (try simp only [Act.put, List.setIfInBounds_toArray, List.set_cons_zero, List.set_cons_succ])
                      go_cut [87] (fun v87 wc => ∃ (kq : Nat) (x87_101 : Bool), v87 = .bool x87_101 ∧ Aside0 (laws_FnExactRestart.j2 kq t249 x87_101 t250 t233 t234 t235 = some r) ∧ Aside0 (kq ≤ kj59) ∧ Aside0 (Kd.S (Kd.slice 5 (Kd.int .u8)) 35 wc w.heap.size (fun k_ => some k_ ≠ ((.slice Ao32 t230.length co32) : Value).ownBlock ∧ some k_ ≠ ((.slice Ao115 t258.length co115) : Value).ownBlock ∧ w16.heap.size ≤ k_ ∧ k_ < w19.heap.size ∧ k_ < w25.heap.size ∧ k_ < w61.heap.size ∧ k_ < w108.heap.size ∧ k_ < w111.heap.size) (.slice Ao20 t215.length co20) t215) ∧ Aside0 (Kd.S (Kd.slice 5 (Kd.int .u8)) 35 wc w.heap.size (fun k_ => some k_ ≠ ((.slice Ao20 t215.length co20) : Value).ownBlock ∧ some k_ ≠ ((.slice Ao115 t258.length co115) : Value).ownBlock ∧ k_ < w108.heap.size ∧ k_ < w111.heap.size) (.slice Ao32 t230.length co32) t250) ∧ Aside0 (Kd.S (Kd.slice 5 (Kd.int .u8)) 35 wc w.heap.size (fun k_ => some k_ ≠ ((.slice Ao20 t215.length co20) : Value).ownBlock ∧ some k_ ≠ ((.slice Ao32 t230.length co32) : Value).ownBlock ∧ w111.heap.size ≤ k_) (.slice Ao115 t258.length co115) t258) ∧ Aside0 (wc.heap[gb207]? = some (.cells #[(.slice A0_0 l0_0.length c0_0), .int .i64 a0_1, .bool a0_2, .int .i64 a0_3] 30 (0, 0))) ∧ Aside0 (wc.heap[gb222]? = some (.cells #[(.slice Ao20 t215.length co20), .int .i64 t218, .bool t219, .int .i64 t220] 24 (0, 0))) ∧ Aside0 (wc.heap[gb237]? = some (.cells #[(.slice Ao32 t230.length co32), .int .i64 t233, .bool t234, .int .i64 t235] 24 (0, 0))) ∧ Aside0 (wc.heap[gb265]? = some (.cells #[(.slice Ao115 t258.length co115), .int .i64 t261, .bool t262, .int .i64 t263] 24 (0, 0))) ∧ Aside0 (Below w.heap.size w wc))
                      case first =>
                        have H := HC102.out
                        clear HC102
                        replace H := Option.bind_eq_some_iff.mp H
                        obtain ⟨t266, A1200, H⟩ := H
                        replace H : (if t266 = true then (laws_FnExactRestart.j2 kj59 t249 (t264 != t221) t250 t233 t234 t235) else (laws_FnExactRestart.j2 kj59 t249 true t250 t233 t234 t235)) = some r := H
                        have A120 := Aside0.mk A1200
                        clear A1200
                        by_cases c121 : t266 = true
                        · subst c121
                          have H1 : (laws_FnExactRestart.j2 kj59 t249 (t264 != t221) t250 t233 t234 t235) = some r := by rw [if_pos rfl] at H; exact H
                          clear H
                          have H := H1
                          clear H1
                          have H' := Aside0.mk H
                          clear H
                          have hnb122 := NB265_207.out
                          have hnc122 := NB207_265.out
                          have hnb123 := NB265_222.out
                          have hnc123 := NB222_265.out
                          have hnb124 := NB265_237.out
                          have hnc124 := NB237_265.out
                          have hcz125_0 : w114.cell? ⟨gb265, 0, none⟩ = some (.slice none 0 0) := (blk_cell BK265.out 0).trans rfl
                          have hcz125_1 : w114.cell? ⟨gb265, 1, none⟩ = some (.int .i64 0) := (blk_cell BK265.out 1).trans rfl
                          have hcz125_2 : w114.cell? ⟨gb265, 2, none⟩ = some (.bool false) := (blk_cell BK265.out 2).trans rfl
                          have hcz125_3 : w114.cell? ⟨gb265, 3, none⟩ = some (.int .i64 0) := (blk_cell BK265.out 3).trans rfl
                          have hfz125_0 := blk_frozen BK265.out 0
                          have hfz125_1 := blk_frozen BK265.out 1
                          have hfz125_2 := blk_frozen BK265.out 2
                          have hfz125_3 := blk_frozen BK265.out 3
                          have hnb126 := NB222_207.out
                          have hnc126 := NB207_222.out
                          have hnb127 := NB222_237.out
                          have hnc127 := NB237_222.out
                          have hcz128_0 : w114.cell? ⟨gb222, 0, none⟩ = some (.slice Ao20 t215.length co20) := (blk_cell BK222.out 0).trans rfl
                          have hcz128_1 : w114.cell? ⟨gb222, 1, none⟩ = some (.int .i64 t218) := (blk_cell BK222.out 1).trans rfl
                          have hcz128_2 : w114.cell? ⟨gb222, 2, none⟩ = some (.bool t219) := (blk_cell BK222.out 2).trans rfl
                          have hcz128_3 : w114.cell? ⟨gb222, 3, none⟩ = some (.int .i64 t220) := (blk_cell BK222.out 3).trans rfl
                          have hfz128_0 := blk_frozen BK222.out 0
                          have hfz128_1 := blk_frozen BK222.out 1
                          have hfz128_2 := blk_frozen BK222.out 2
                          have hfz128_3 := blk_frozen BK222.out 3
                          go_wp2_with (first | ((with_reducible refine gate_callee (f := 13) rfl ?_); refine goesL_ (some 81) rfl rfl Try.func13 (by kernel_rfl) rfl #[.agg #[.slice Ao115 t258.length co115, .int .i64 t261, .bool t262, .int .i64 t263], .agg #[.slice Ao20 t215.length co20, .int .i64 t218, .bool t219, .int .i64 t220]] rfl (by (try simp only [List.map_toArray, List.map_cons, List.map_nil]); first | done | rfl | (simp only [List.length_drop, List.length_take]; rfl)) ?_; (with_reducible refine (laws_eqDisk.calls kj59 _ _ t258 t261 t262 t263 _ _ t215 t218 t219 t220 true _ ?side1 ?side2 ?side3 ?side4 A120.out).mono ?_); (case side1 => refine (Kd.S_reads' (e := 35) (base := w.heap.size) (ok := fun k_ => ((((True ∧ w111.heap.size ≤ k_) ∧ some k_ ≠ (.slice Ao20 t215.length co20 : Value).ownBlock) ∧ some k_ ≠ (.slice Ao32 t230.length co32 : Value).ownBlock) ∧ some k_ ≠ (.slice Ao112 t252.length co112 : Value).ownBlock)) (n := t258.length) (c := co115) ?_).2.2; exact (by (with_reducible repeat (first | apply Kd.S_alloc | apply Kd.S_drewN | apply Kd.S_drew)); exact (Kd.S_mono (Kd.S_far (p := ⟨gb265, 3, none⟩) (Kd.S_far (p := ⟨gb265, 2, none⟩) (Kd.S_far (p := ⟨gb265, 1, none⟩) (Kd.S_far (p := ⟨gb265, 0, none⟩) (Kd.S_types HO260.out BK265.out (by decide)) (fun _ hk => hk.2) (.slice Ao115 t258.length co115)) (fun _ hk => hk.2) (.int .i64 t261)) (fun _ hk => hk.2) (.bool t262)) (fun _ hk => hk.2) (.int .i64 t263)) (fun _ h_ => h_.1)))); (case side2 => exact (Kd.S_reads' HO260.out).2.1); (case side3 => refine (Kd.S_reads' (e := 35) (base := w.heap.size) (ok := fun k_ => (((((some k_ ≠ (.slice Ao32 t230.length co32 : Value).ownBlock ∧ (w16.heap.size ≤ k_ ∧ (k_ < w19.heap.size ∧ (k_ < w25.heap.size ∧ k_ < w61.heap.size)))) ∧ some k_ ≠ (.slice Ao112 t252.length co112 : Value).ownBlock) ∧ k_ < w108.heap.size) ∧ some k_ ≠ (.slice Ao115 t258.length co115 : Value).ownBlock) ∧ k_ < w111.heap.size)) (n := t215.length) (c := co20) ?_).2.2; exact (by (with_reducible repeat (first | apply Kd.S_alloc | apply Kd.S_drewN | apply Kd.S_drew)); exact (Kd.S_mono (Kd.S_far (p := ⟨gb265, 3, none⟩) (Kd.S_far (p := ⟨gb265, 2, none⟩) (Kd.S_far (p := ⟨gb265, 1, none⟩) (Kd.S_far (p := ⟨gb265, 0, none⟩) (Kd.S_types HO_223000.out BK265.out (by decide)) (fun _ hk => hk.2) (.slice Ao115 t258.length co115)) (fun _ hk => hk.2) (.int .i64 t261)) (fun _ hk => hk.2) (.bool t262)) (fun _ hk => hk.2) (.int .i64 t263)) (fun _ h_ => h_.1)))); (case side4 => exact (Kd.S_reads' HO_223000.out).2.1); rintro e w129 ⟨rfl, hb⟩; refine ⟨_, rfl, ?_⟩; have n0_ := Aside0.mk (Kd.S_below (by (with_reducible repeat (first | apply Kd.S_alloc | apply Kd.S_drewN | apply Kd.S_drew)); exact (Kd.S_mono (Kd.S_far (p := ⟨gb265, 3, none⟩) (Kd.S_far (p := ⟨gb265, 2, none⟩) (Kd.S_far (p := ⟨gb265, 1, none⟩) (Kd.S_far (p := ⟨gb265, 0, none⟩) (Kd.S_types HO_223000.out BK265.out (by decide)) (fun _ hk => hk.2) (.slice Ao115 t258.length co115)) (fun _ hk => hk.2) (.int .i64 t261)) (fun _ hk => hk.2) (.bool t262)) (fun _ hk => hk.2) (.int .i64 t263)) (fun _ h_ => h_.1))) hb); have n1_ := Aside0.mk (Kd.S_below (by (with_reducible repeat (first | apply Kd.S_alloc | apply Kd.S_drewN | apply Kd.S_drew)); exact (Kd.S_mono (Kd.S_far (p := ⟨gb265, 3, none⟩) (Kd.S_far (p := ⟨gb265, 2, none⟩) (Kd.S_far (p := ⟨gb265, 1, none⟩) (Kd.S_far (p := ⟨gb265, 0, none⟩) (Kd.S_types HO_238000.out BK265.out (by decide)) (fun _ hk => hk.2) (.slice Ao115 t258.length co115)) (fun _ hk => hk.2) (.int .i64 t261)) (fun _ hk => hk.2) (.bool t262)) (fun _ hk => hk.2) (.int .i64 t263)) (fun _ h_ => h_.1))) hb); have n2_ := Aside0.mk (Kd.S_below (by (with_reducible repeat (first | apply Kd.S_alloc | apply Kd.S_drewN | apply Kd.S_drew)); exact (Kd.S_mono (Kd.S_far (p := ⟨gb265, 3, none⟩) (Kd.S_far (p := ⟨gb265, 2, none⟩) (Kd.S_far (p := ⟨gb265, 1, none⟩) (Kd.S_far (p := ⟨gb265, 0, none⟩) (Kd.S_types HO254.out BK265.out (by decide)) (fun _ hk => hk.2) (.slice Ao115 t258.length co115)) (fun _ hk => hk.2) (.int .i64 t261)) (fun _ hk => hk.2) (.bool t262)) (fun _ hk => hk.2) (.int .i64 t263)) (fun _ h_ => h_.1))) hb); have n3_ := Aside0.mk (Kd.S_below (by (with_reducible repeat (first | apply Kd.S_alloc | apply Kd.S_drewN | apply Kd.S_drew)); exact (Kd.S_mono (Kd.S_far (p := ⟨gb265, 3, none⟩) (Kd.S_far (p := ⟨gb265, 2, none⟩) (Kd.S_far (p := ⟨gb265, 1, none⟩) (Kd.S_far (p := ⟨gb265, 0, none⟩) (Kd.S_types HO260.out BK265.out (by decide)) (fun _ hk => hk.2) (.slice Ao115 t258.length co115)) (fun _ hk => hk.2) (.int .i64 t261)) (fun _ hk => hk.2) (.bool t262)) (fun _ hk => hk.2) (.int .i64 t263)) (fun _ h_ => h_.1))) hb); have n4_ := Aside0.mk (blk_below (g := gb207) (o := .cells #[.slice A0_0 l0_0.length c0_0, .int .i64 a0_1, .bool a0_2, .int .i64 a0_3] 30 (0, 0)) (by (with_reducible repeat (first | refine blk_drewN ?_ _ | refine blk_drew ?_ | refine blk_alloc ?_ _)); refine blk_far ?_ NB207_265.out _; (with_reducible repeat (first | refine blk_drewN ?_ _ | refine blk_drew ?_ | refine blk_alloc ?_ _)); refine blk_far ?_ NB207_265.out _; (with_reducible repeat (first | refine blk_drewN ?_ _ | refine blk_drew ?_ | refine blk_alloc ?_ _)); refine blk_far ?_ NB207_265.out _; (with_reducible repeat (first | refine blk_drewN ?_ _ | refine blk_drew ?_ | refine blk_alloc ?_ _)); refine blk_far ?_ NB207_265.out _; (with_reducible repeat (first | refine blk_drewN ?_ _ | refine blk_drew ?_ | refine blk_alloc ?_ _)); exact BK207.out) hb); have n5_ := Aside0.mk (blk_below (g := gb222) (o := .cells #[.slice Ao20 t215.length co20, .int .i64 t218, .bool t219, .int .i64 t220] 24 (0, 0)) (by (with_reducible repeat (first | refine blk_drewN ?_ _ | refine blk_drew ?_ | refine blk_alloc ?_ _)); refine blk_far ?_ NB222_265.out _; (with_reducible repeat (first | refine blk_drewN ?_ _ | refine blk_drew ?_ | refine blk_alloc ?_ _)); refine blk_far ?_ NB222_265.out _; (with_reducible repeat (first | refine blk_drewN ?_ _ | refine blk_drew ?_ | refine blk_alloc ?_ _)); refine blk_far ?_ NB222_265.out _; (with_reducible repeat (first | refine blk_drewN ?_ _ | refine blk_drew ?_ | refine blk_alloc ?_ _)); refine blk_far ?_ NB222_265.out _; (with_reducible repeat (first | refine blk_drewN ?_ _ | refine blk_drew ?_ | refine blk_alloc ?_ _)); exact BK222.out) hb); have n6_ := Aside0.mk (blk_below (g := gb237) (o := .cells #[.slice Ao32 t230.length co32, .int .i64 t233, .bool t234, .int .i64 t235] 24 (0, 0)) (by (with_reducible repeat (first | refine blk_drewN ?_ _ | refine blk_drew ?_ | refine blk_alloc ?_ _)); refine blk_far ?_ NB237_265.out _; (with_reducible repeat (first | refine blk_drewN ?_ _ | refine blk_drew ?_ | refine blk_alloc ?_ _)); refine blk_far ?_ NB237_265.out _; (with_reducible repeat (first | refine blk_drewN ?_ _ | refine blk_drew ?_ | refine blk_alloc ?_ _)); refine blk_far ?_ NB237_265.out _; (with_reducible repeat (first | refine blk_drewN ?_ _ | refine blk_drew ?_ | refine blk_alloc ?_ _)); refine blk_far ?_ NB237_265.out _; (with_reducible repeat (first | refine blk_drewN ?_ _ | refine blk_drew ?_ | refine blk_alloc ?_ _)); exact BK237.out) hb); have n7_ := Aside0.mk (blk_below (g := gb265) (o := .cells #[.slice Ao115 t258.length co115, .int .i64 t261, .bool t262, .int .i64 t263] 24 (0, 0)) (by (with_reducible repeat (first | refine blk_drewN ?_ _ | refine blk_drew ?_ | refine blk_alloc ?_ _)); refine blk_put (cs := #[.slice Ao115 t258.length co115, .int .i64 t261, .bool t262, .int .i64 0]) ?_ 3 _ rfl; (with_reducible repeat (first | refine blk_drewN ?_ _ | refine blk_drew ?_ | refine blk_alloc ?_ _)); refine blk_put (cs := #[.slice Ao115 t258.length co115, .int .i64 t261, .bool false, .int .i64 0]) ?_ 2 _ rfl; (with_reducible repeat (first | refine blk_drewN ?_ _ | refine blk_drew ?_ | refine blk_alloc ?_ _)); refine blk_put (cs := #[.slice Ao115 t258.length co115, .int .i64 0, .bool false, .int .i64 0]) ?_ 1 _ rfl; (with_reducible repeat (first | refine blk_drewN ?_ _ | refine blk_drew ?_ | refine blk_alloc ?_ _)); refine blk_put (cs := #[.slice none 0 0, .int .i64 0, .bool false, .int .i64 0]) ?_ 0 _ rfl; (with_reducible repeat (first | refine blk_drewN ?_ _ | refine blk_drew ?_ | refine blk_alloc ?_ _)); exact BK265.out) hb); have n8_ := Aside0.mk (below_step (by repeat (first | (with_reducible first | exact HB.out | apply below_alloc | apply pw_below_drewN | apply below_drew1 | refine below_set ?_ GE207.out | refine below_set ?_ GE222.out | refine below_set ?_ GE237.out | refine below_set ?_ GE265.out) | exact HB.out)) hb); clear HO_223000; clear HO_238000; clear HO254; clear HO260; clear BK207; clear BK222; clear BK237; clear BK265; clear HB; have HO_223000 := n0_; have HO_238000 := n1_; have HO254 := n2_; have HO260 := n3_; have BK207 := n4_; have BK222 := n5_; have BK237 := n6_; have BK265 := n7_; have HB := n8_; clear n0_ n1_ n2_ n3_ n4_ n5_ n6_ n7_ n8_; (try clear hb); (try clear hb2); (try clear hk); (try clear hi)))
                          go_meet
                          case rel => exact ⟨_, ((t264 != t221)), (by first | rfl | (simp; done) | (simp [*]; done)), H', ⟨by have := HJ10.out; have := HJ59.out; first | omega | exact Nat.le_refl _⟩, ⟨by (with_reducible repeat (first | apply Kd.S_alloc | apply Kd.S_drewN | apply Kd.S_drew)); exact Kd.S_mono HO_223000.out (fun _ hk => ⟨hk.1.1.1.1.1, ⟨hk.1.2, ⟨hk.1.1.1.1.2.1, ⟨hk.1.1.1.1.2.2.1, ⟨hk.1.1.1.1.2.2.2.1, ⟨hk.1.1.1.1.2.2.2.2, ⟨hk.1.1.2, hk.2⟩⟩⟩⟩⟩⟩⟩)⟩, ⟨by (with_reducible repeat (first | apply Kd.S_alloc | apply Kd.S_drewN | apply Kd.S_drew)); exact Kd.S_mono HO_238000.out (fun _ hk => ⟨hk.1.1.1.1, ⟨hk.1.2, ⟨hk.1.1.2, hk.2⟩⟩⟩)⟩, ⟨by (with_reducible repeat (first | apply Kd.S_alloc | apply Kd.S_drewN | apply Kd.S_drew)); exact Kd.S_mono HO260.out (fun _ hk => ⟨hk.1.1.2, ⟨hk.1.2, hk.1.1.1.2⟩⟩)⟩, ⟨by (with_reducible repeat (first | refine blk_drewN ?_ _ | refine blk_drew ?_ | refine blk_alloc ?_ _)); exact BK207.out⟩, ⟨by (with_reducible repeat (first | refine blk_drewN ?_ _ | refine blk_drew ?_ | refine blk_alloc ?_ _)); exact BK222.out⟩, ⟨by (with_reducible repeat (first | refine blk_drewN ?_ _ | refine blk_drew ?_ | refine blk_alloc ?_ _)); exact BK237.out⟩, ⟨by (with_reducible repeat (first | refine blk_drewN ?_ _ | refine blk_drew ?_ | refine blk_alloc ?_ _)); exact BK265.out⟩, ⟨by repeat (first | (with_reducible first | exact HB.out | apply below_alloc | apply pw_below_drewN | apply below_drew1 | refine below_set ?_ GE207.out | refine below_set ?_ GE222.out | refine below_set ?_ GE237.out | refine below_set ?_ GE265.out) | exact HB.out)⟩⟩
                        · replace c121 := Bool.eq_false_iff.mpr c121
                          subst c121
                          have H1 : (laws_FnExactRestart.j2 kj59 t249 true t250 t233 t234 t235) = some r := by rw [if_neg (show ¬ (false = true) by decide)] at H; exact H
                          clear H
                          have H := H1
                          clear H1
                          have H' := Aside0.mk H
                          clear H
                          have hnb130 := NB265_207.out
                          have hnc130 := NB207_265.out
                          have hnb131 := NB265_222.out
                          have hnc131 := NB222_265.out
                          have hnb132 := NB265_237.out
                          have hnc132 := NB237_265.out
                          have hcz133_0 : w114.cell? ⟨gb265, 0, none⟩ = some (.slice none 0 0) := (blk_cell BK265.out 0).trans rfl
                          have hcz133_1 : w114.cell? ⟨gb265, 1, none⟩ = some (.int .i64 0) := (blk_cell BK265.out 1).trans rfl
                          have hcz133_2 : w114.cell? ⟨gb265, 2, none⟩ = some (.bool false) := (blk_cell BK265.out 2).trans rfl
                          have hcz133_3 : w114.cell? ⟨gb265, 3, none⟩ = some (.int .i64 0) := (blk_cell BK265.out 3).trans rfl
                          have hfz133_0 := blk_frozen BK265.out 0
                          have hfz133_1 := blk_frozen BK265.out 1
                          have hfz133_2 := blk_frozen BK265.out 2
                          have hfz133_3 := blk_frozen BK265.out 3
                          have hnb134 := NB222_207.out
                          have hnc134 := NB207_222.out
                          have hnb135 := NB222_237.out
                          have hnc135 := NB237_222.out
                          have hcz136_0 : w114.cell? ⟨gb222, 0, none⟩ = some (.slice Ao20 t215.length co20) := (blk_cell BK222.out 0).trans rfl
                          have hcz136_1 : w114.cell? ⟨gb222, 1, none⟩ = some (.int .i64 t218) := (blk_cell BK222.out 1).trans rfl
                          have hcz136_2 : w114.cell? ⟨gb222, 2, none⟩ = some (.bool t219) := (blk_cell BK222.out 2).trans rfl
                          have hcz136_3 : w114.cell? ⟨gb222, 3, none⟩ = some (.int .i64 t220) := (blk_cell BK222.out 3).trans rfl
                          have hfz136_0 := blk_frozen BK222.out 0
                          have hfz136_1 := blk_frozen BK222.out 1
                          have hfz136_2 := blk_frozen BK222.out 2
                          have hfz136_3 := blk_frozen BK222.out 3
                          go_wp2_with (first | ((with_reducible refine gate_callee (f := 13) rfl ?_); refine goesL_ (some 81) rfl rfl Try.func13 (by kernel_rfl) rfl #[.agg #[.slice Ao115 t258.length co115, .int .i64 t261, .bool t262, .int .i64 t263], .agg #[.slice Ao20 t215.length co20, .int .i64 t218, .bool t219, .int .i64 t220]] rfl (by (try simp only [List.map_toArray, List.map_cons, List.map_nil]); first | done | rfl | (simp only [List.length_drop, List.length_take]; rfl)) ?_; (with_reducible refine (laws_eqDisk.calls kj59 _ _ t258 t261 t262 t263 _ _ t215 t218 t219 t220 false _ ?side1 ?side2 ?side3 ?side4 A120.out).mono ?_); (case side1 => refine (Kd.S_reads' (e := 35) (base := w.heap.size) (ok := fun k_ => ((((True ∧ w111.heap.size ≤ k_) ∧ some k_ ≠ (.slice Ao20 t215.length co20 : Value).ownBlock) ∧ some k_ ≠ (.slice Ao32 t230.length co32 : Value).ownBlock) ∧ some k_ ≠ (.slice Ao112 t252.length co112 : Value).ownBlock)) (n := t258.length) (c := co115) ?_).2.2; exact (by (with_reducible repeat (first | apply Kd.S_alloc | apply Kd.S_drewN | apply Kd.S_drew)); exact (Kd.S_mono (Kd.S_far (p := ⟨gb265, 3, none⟩) (Kd.S_far (p := ⟨gb265, 2, none⟩) (Kd.S_far (p := ⟨gb265, 1, none⟩) (Kd.S_far (p := ⟨gb265, 0, none⟩) (Kd.S_types HO260.out BK265.out (by decide)) (fun _ hk => hk.2) (.slice Ao115 t258.length co115)) (fun _ hk => hk.2) (.int .i64 t261)) (fun _ hk => hk.2) (.bool t262)) (fun _ hk => hk.2) (.int .i64 t263)) (fun _ h_ => h_.1)))); (case side2 => exact (Kd.S_reads' HO260.out).2.1); (case side3 => refine (Kd.S_reads' (e := 35) (base := w.heap.size) (ok := fun k_ => (((((some k_ ≠ (.slice Ao32 t230.length co32 : Value).ownBlock ∧ (w16.heap.size ≤ k_ ∧ (k_ < w19.heap.size ∧ (k_ < w25.heap.size ∧ k_ < w61.heap.size)))) ∧ some k_ ≠ (.slice Ao112 t252.length co112 : Value).ownBlock) ∧ k_ < w108.heap.size) ∧ some k_ ≠ (.slice Ao115 t258.length co115 : Value).ownBlock) ∧ k_ < w111.heap.size)) (n := t215.length) (c := co20) ?_).2.2; exact (by (with_reducible repeat (first | apply Kd.S_alloc | apply Kd.S_drewN | apply Kd.S_drew)); exact (Kd.S_mono (Kd.S_far (p := ⟨gb265, 3, none⟩) (Kd.S_far (p := ⟨gb265, 2, none⟩) (Kd.S_far (p := ⟨gb265, 1, none⟩) (Kd.S_far (p := ⟨gb265, 0, none⟩) (Kd.S_types HO_223000.out BK265.out (by decide)) (fun _ hk => hk.2) (.slice Ao115 t258.length co115)) (fun _ hk => hk.2) (.int .i64 t261)) (fun _ hk => hk.2) (.bool t262)) (fun _ hk => hk.2) (.int .i64 t263)) (fun _ h_ => h_.1)))); (case side4 => exact (Kd.S_reads' HO_223000.out).2.1); rintro e w137 ⟨rfl, hb⟩; refine ⟨_, rfl, ?_⟩; have n0_ := Aside0.mk (Kd.S_below (by (with_reducible repeat (first | apply Kd.S_alloc | apply Kd.S_drewN | apply Kd.S_drew)); exact (Kd.S_mono (Kd.S_far (p := ⟨gb265, 3, none⟩) (Kd.S_far (p := ⟨gb265, 2, none⟩) (Kd.S_far (p := ⟨gb265, 1, none⟩) (Kd.S_far (p := ⟨gb265, 0, none⟩) (Kd.S_types HO_223000.out BK265.out (by decide)) (fun _ hk => hk.2) (.slice Ao115 t258.length co115)) (fun _ hk => hk.2) (.int .i64 t261)) (fun _ hk => hk.2) (.bool t262)) (fun _ hk => hk.2) (.int .i64 t263)) (fun _ h_ => h_.1))) hb); have n1_ := Aside0.mk (Kd.S_below (by (with_reducible repeat (first | apply Kd.S_alloc | apply Kd.S_drewN | apply Kd.S_drew)); exact (Kd.S_mono (Kd.S_far (p := ⟨gb265, 3, none⟩) (Kd.S_far (p := ⟨gb265, 2, none⟩) (Kd.S_far (p := ⟨gb265, 1, none⟩) (Kd.S_far (p := ⟨gb265, 0, none⟩) (Kd.S_types HO_238000.out BK265.out (by decide)) (fun _ hk => hk.2) (.slice Ao115 t258.length co115)) (fun _ hk => hk.2) (.int .i64 t261)) (fun _ hk => hk.2) (.bool t262)) (fun _ hk => hk.2) (.int .i64 t263)) (fun _ h_ => h_.1))) hb); have n2_ := Aside0.mk (Kd.S_below (by (with_reducible repeat (first | apply Kd.S_alloc | apply Kd.S_drewN | apply Kd.S_drew)); exact (Kd.S_mono (Kd.S_far (p := ⟨gb265, 3, none⟩) (Kd.S_far (p := ⟨gb265, 2, none⟩) (Kd.S_far (p := ⟨gb265, 1, none⟩) (Kd.S_far (p := ⟨gb265, 0, none⟩) (Kd.S_types HO254.out BK265.out (by decide)) (fun _ hk => hk.2) (.slice Ao115 t258.length co115)) (fun _ hk => hk.2) (.int .i64 t261)) (fun _ hk => hk.2) (.bool t262)) (fun _ hk => hk.2) (.int .i64 t263)) (fun _ h_ => h_.1))) hb); have n3_ := Aside0.mk (Kd.S_below (by (with_reducible repeat (first | apply Kd.S_alloc | apply Kd.S_drewN | apply Kd.S_drew)); exact (Kd.S_mono (Kd.S_far (p := ⟨gb265, 3, none⟩) (Kd.S_far (p := ⟨gb265, 2, none⟩) (Kd.S_far (p := ⟨gb265, 1, none⟩) (Kd.S_far (p := ⟨gb265, 0, none⟩) (Kd.S_types HO260.out BK265.out (by decide)) (fun _ hk => hk.2) (.slice Ao115 t258.length co115)) (fun _ hk => hk.2) (.int .i64 t261)) (fun _ hk => hk.2) (.bool t262)) (fun _ hk => hk.2) (.int .i64 t263)) (fun _ h_ => h_.1))) hb); have n4_ := Aside0.mk (blk_below (g := gb207) (o := .cells #[.slice A0_0 l0_0.length c0_0, .int .i64 a0_1, .bool a0_2, .int .i64 a0_3] 30 (0, 0)) (by (with_reducible repeat (first | refine blk_drewN ?_ _ | refine blk_drew ?_ | refine blk_alloc ?_ _)); refine blk_far ?_ NB207_265.out _; (with_reducible repeat (first | refine blk_drewN ?_ _ | refine blk_drew ?_ | refine blk_alloc ?_ _)); refine blk_far ?_ NB207_265.out _; (with_reducible repeat (first | refine blk_drewN ?_ _ | refine blk_drew ?_ | refine blk_alloc ?_ _)); refine blk_far ?_ NB207_265.out _; (with_reducible repeat (first | refine blk_drewN ?_ _ | refine blk_drew ?_ | refine blk_alloc ?_ _)); refine blk_far ?_ NB207_265.out _; (with_reducible repeat (first | refine blk_drewN ?_ _ | refine blk_drew ?_ | refine blk_alloc ?_ _)); exact BK207.out) hb); have n5_ := Aside0.mk (blk_below (g := gb222) (o := .cells #[.slice Ao20 t215.length co20, .int .i64 t218, .bool t219, .int .i64 t220] 24 (0, 0)) (by (with_reducible repeat (first | refine blk_drewN ?_ _ | refine blk_drew ?_ | refine blk_alloc ?_ _)); refine blk_far ?_ NB222_265.out _; (with_reducible repeat (first | refine blk_drewN ?_ _ | refine blk_drew ?_ | refine blk_alloc ?_ _)); refine blk_far ?_ NB222_265.out _; (with_reducible repeat (first | refine blk_drewN ?_ _ | refine blk_drew ?_ | refine blk_alloc ?_ _)); refine blk_far ?_ NB222_265.out _; (with_reducible repeat (first | refine blk_drewN ?_ _ | refine blk_drew ?_ | refine blk_alloc ?_ _)); refine blk_far ?_ NB222_265.out _; (with_reducible repeat (first | refine blk_drewN ?_ _ | refine blk_drew ?_ | refine blk_alloc ?_ _)); exact BK222.out) hb); have n6_ := Aside0.mk (blk_below (g := gb237) (o := .cells #[.slice Ao32 t230.length co32, .int .i64 t233, .bool t234, .int .i64 t235] 24 (0, 0)) (by (with_reducible repeat (first | refine blk_drewN ?_ _ | refine blk_drew ?_ | refine blk_alloc ?_ _)); refine blk_far ?_ NB237_265.out _; (with_reducible repeat (first | refine blk_drewN ?_ _ | refine blk_drew ?_ | refine blk_alloc ?_ _)); refine blk_far ?_ NB237_265.out _; (with_reducible repeat (first | refine blk_drewN ?_ _ | refine blk_drew ?_ | refine blk_alloc ?_ _)); refine blk_far ?_ NB237_265.out _; (with_reducible repeat (first | refine blk_drewN ?_ _ | refine blk_drew ?_ | refine blk_alloc ?_ _)); refine blk_far ?_ NB237_265.out _; (with_reducible repeat (first | refine blk_drewN ?_ _ | refine blk_drew ?_ | refine blk_alloc ?_ _)); exact BK237.out) hb); have n7_ := Aside0.mk (blk_below (g := gb265) (o := .cells #[.slice Ao115 t258.length co115, .int .i64 t261, .bool t262, .int .i64 t263] 24 (0, 0)) (by (with_reducible repeat (first | refine blk_drewN ?_ _ | refine blk_drew ?_ | refine blk_alloc ?_ _)); refine blk_put (cs := #[.slice Ao115 t258.length co115, .int .i64 t261, .bool t262, .int .i64 0]) ?_ 3 _ rfl; (with_reducible repeat (first | refine blk_drewN ?_ _ | refine blk_drew ?_ | refine blk_alloc ?_ _)); refine blk_put (cs := #[.slice Ao115 t258.length co115, .int .i64 t261, .bool false, .int .i64 0]) ?_ 2 _ rfl; (with_reducible repeat (first | refine blk_drewN ?_ _ | refine blk_drew ?_ | refine blk_alloc ?_ _)); refine blk_put (cs := #[.slice Ao115 t258.length co115, .int .i64 0, .bool false, .int .i64 0]) ?_ 1 _ rfl; (with_reducible repeat (first | refine blk_drewN ?_ _ | refine blk_drew ?_ | refine blk_alloc ?_ _)); refine blk_put (cs := #[.slice none 0 0, .int .i64 0, .bool false, .int .i64 0]) ?_ 0 _ rfl; (with_reducible repeat (first | refine blk_drewN ?_ _ | refine blk_drew ?_ | refine blk_alloc ?_ _)); exact BK265.out) hb); have n8_ := Aside0.mk (below_step (by repeat (first | (with_reducible first | exact HB.out | apply below_alloc | apply pw_below_drewN | apply below_drew1 | refine below_set ?_ GE207.out | refine below_set ?_ GE222.out | refine below_set ?_ GE237.out | refine below_set ?_ GE265.out) | exact HB.out)) hb); clear HO_223000; clear HO_238000; clear HO254; clear HO260; clear BK207; clear BK222; clear BK237; clear BK265; clear HB; have HO_223000 := n0_; have HO_238000 := n1_; have HO254 := n2_; have HO260 := n3_; have BK207 := n4_; have BK222 := n5_; have BK237 := n6_; have BK265 := n7_; have HB := n8_; clear n0_ n1_ n2_ n3_ n4_ n5_ n6_ n7_ n8_; (try clear hb); (try clear hb2); (try clear hk); (try clear hi)))
                          go_meet
                          case rel => exact ⟨_, (true), (by first | rfl | (simp; done) | (simp [*]; done)), H', ⟨by have := HJ10.out; have := HJ59.out; first | omega | exact Nat.le_refl _⟩, ⟨by (with_reducible repeat (first | apply Kd.S_alloc | apply Kd.S_drewN | apply Kd.S_drew)); exact Kd.S_mono HO_223000.out (fun _ hk => ⟨hk.1.1.1.1.1, ⟨hk.1.2, ⟨hk.1.1.1.1.2.1, ⟨hk.1.1.1.1.2.2.1, ⟨hk.1.1.1.1.2.2.2.1, ⟨hk.1.1.1.1.2.2.2.2, ⟨hk.1.1.2, hk.2⟩⟩⟩⟩⟩⟩⟩)⟩, ⟨by (with_reducible repeat (first | apply Kd.S_alloc | apply Kd.S_drewN | apply Kd.S_drew)); exact Kd.S_mono HO_238000.out (fun _ hk => ⟨hk.1.1.1.1, ⟨hk.1.2, ⟨hk.1.1.2, hk.2⟩⟩⟩)⟩, ⟨by (with_reducible repeat (first | apply Kd.S_alloc | apply Kd.S_drewN | apply Kd.S_drew)); exact Kd.S_mono HO260.out (fun _ hk => ⟨hk.1.1.2, ⟨hk.1.2, hk.1.1.1.2⟩⟩)⟩, ⟨by (with_reducible repeat (first | refine blk_drewN ?_ _ | refine blk_drew ?_ | refine blk_alloc ?_ _)); exact BK207.out⟩, ⟨by (with_reducible repeat (first | refine blk_drewN ?_ _ | refine blk_drew ?_ | refine blk_alloc ?_ _)); exact BK222.out⟩, ⟨by (with_reducible repeat (first | refine blk_drewN ?_ _ | refine blk_drew ?_ | refine blk_alloc ?_ _)); exact BK237.out⟩, ⟨by (with_reducible repeat (first | refine blk_drewN ?_ _ | refine blk_drew ?_ | refine blk_alloc ?_ _)); exact BK265.out⟩, ⟨by repeat (first | (with_reducible first | exact HB.out | apply below_alloc | apply pw_below_drewN | apply below_drew1 | refine below_set ?_ GE207.out | refine below_set ?_ GE222.out | refine below_set ?_ GE237.out | refine below_set ?_ GE265.out) | exact HB.out)⟩⟩
                      case rest =>
                        clear HC102
                        try clear c1
                        try clear c2
                        try clear p2
                        try clear c3
                        try clear c3b0
                        try clear c4
                        try clear c5
                        try clear c6
                        try clear c7
                        try clear c8
                        try clear c9
                        try clear c10
                        try clear c11
                        try clear c12
                        try clear c13
                        try clear c14
                        try clear c15
                        try clear c16
                        try clear c18
                        try clear c21
                        try clear c27
                        try clear c28
                        try clear c30
                        try clear c31
                        try clear c33
                        try clear c34
                        try clear c35
                        try clear c38
                        try clear c39
                        try clear c40
                        try clear c41
                        try clear c43
                        try clear c44
                        try clear c47
                        try clear c48
                        try clear c49
                        try clear c51
                        try clear c52
                        try clear c55
                        try clear c58
                        try clear c65
                        try clear c66
                        try clear c67
                        try clear c70
                        try clear c70b0
                        try clear c72
                        try clear c73
                        try clear c74
                        try clear c75
                        try clear c77
                        try clear c78
                        try clear c81
                        try clear c82
                        try clear c83
                        try clear c85
                        try clear c86
                        try clear c89
                        try clear c92
                        try clear c92b0
                        try clear c93
                        try clear c94
                        try clear c99
                        try clear c99b0
                        try clear c99b1
                        try clear c103
                        try clear c104
                        try clear c109
                        try clear c116
                        try clear c117
                        try clear c118
                        try clear c121
                        try clear c122
                        try clear c123
                        try clear c124
                        try clear c126
                        try clear c127
                        try clear c130
                        try clear c131
                        try clear c132
                        try clear c134
                        try clear c135
                        try clear hcz105_0
                        try clear hcz105_1
                        try clear hcz105_2
                        try clear hcz105_3
                        try clear hcz107_0
                        try clear hcz107_1
                        try clear hcz107_2
                        try clear hcz107_3
                        try clear hcz110_0
                        try clear hcz110_1
                        try clear hcz110_2
                        try clear hcz110_3
                        try clear hcz119_0
                        try clear hcz119_1
                        try clear hcz119_2
                        try clear hcz119_3
                        try clear hcz125_0
                        try clear hcz125_1
                        try clear hcz125_2
                        try clear hcz125_3
                        try clear hcz128_0
                        try clear hcz128_1
                        try clear hcz128_2
                        try clear hcz128_3
                        try clear hcz133_0
                        try clear hcz133_1
                        try clear hcz133_2
                        try clear hcz133_3
                        try clear hcz136_0
                        try clear hcz136_1
                        try clear hcz136_2
                        try clear hcz136_3
                        try clear hcz13_0
                        try clear hcz13_1
                        try clear hcz13_2
                        try clear hcz13_3
                        try clear hcz15_0
                        try clear hcz15_1
                        try clear hcz15_2
                        try clear hcz15_3
                        try clear hcz22_0
                        try clear hcz22_1
                        try clear hcz22_2
                        try clear hcz22_3
                        try clear hcz23_0
                        try clear hcz23_1
                        try clear hcz23_2
                        try clear hcz23_3
                        try clear hcz29_0
                        try clear hcz29_1
                        try clear hcz29_2
                        try clear hcz29_3
                        try clear hcz36_0
                        try clear hcz36_1
                        try clear hcz36_2
                        try clear hcz36_3
                        try clear hcz42_0
                        try clear hcz42_1
                        try clear hcz42_2
                        try clear hcz42_3
                        try clear hcz45_0
                        try clear hcz45_1
                        try clear hcz45_2
                        try clear hcz45_3
                        try clear hcz50_0
                        try clear hcz50_1
                        try clear hcz50_2
                        try clear hcz50_3
                        try clear hcz53_0
                        try clear hcz53_1
                        try clear hcz53_2
                        try clear hcz53_3
                        try clear hcz5_0
                        try clear hcz5_1
                        try clear hcz5_2
                        try clear hcz5_3
                        try clear hcz68_0
                        try clear hcz68_1
                        try clear hcz68_2
                        try clear hcz68_3
                        try clear hcz76_0
                        try clear hcz76_1
                        try clear hcz76_2
                        try clear hcz76_3
                        try clear hcz79_0
                        try clear hcz79_1
                        try clear hcz79_2
                        try clear hcz79_3
                        try clear hcz84_0
                        try clear hcz84_1
                        try clear hcz84_2
                        try clear hcz84_3
                        try clear hcz87_0
                        try clear hcz87_1
                        try clear hcz87_2
                        try clear hcz87_3
                        try clear hcz95_0
                        try clear hcz95_1
                        try clear hcz95_2
                        try clear hcz95_3
                        try clear hcz97_0
                        try clear hcz97_1
                        try clear hcz97_2
                        try clear hcz97_3
                        try clear hfz105_0
                        try clear hfz105_1
                        try clear hfz105_2
                        try clear hfz105_3
                        try clear hfz107_0
                        try clear hfz107_1
                        try clear hfz107_2
                        try clear hfz107_3
                        try clear hfz110_0
                        try clear hfz110_1
                        try clear hfz110_2
                        try clear hfz110_3
                        try clear hfz119_0
                        try clear hfz119_1
                        try clear hfz119_2
                        try clear hfz119_3
                        try clear hfz125_0
                        try clear hfz125_1
                        try clear hfz125_2
                        try clear hfz125_3
                        try clear hfz128_0
                        try clear hfz128_1
                        try clear hfz128_2
                        try clear hfz128_3
                        try clear hfz133_0
                        try clear hfz133_1
                        try clear hfz133_2
                        try clear hfz133_3
                        try clear hfz136_0
                        try clear hfz136_1
                        try clear hfz136_2
                        try clear hfz136_3
                        try clear hfz13_0
                        try clear hfz13_1
                        try clear hfz13_2
                        try clear hfz13_3
                        try clear hfz15_0
                        try clear hfz15_1
                        try clear hfz15_2
                        try clear hfz15_3
                        try clear hfz22_0
                        try clear hfz22_1
                        try clear hfz22_2
                        try clear hfz22_3
                        try clear hfz23_0
                        try clear hfz23_1
                        try clear hfz23_2
                        try clear hfz23_3
                        try clear hfz29_0
                        try clear hfz29_1
                        try clear hfz29_2
                        try clear hfz29_3
                        try clear hfz36_0
                        try clear hfz36_1
                        try clear hfz36_2
                        try clear hfz36_3
                        try clear hfz42_0
                        try clear hfz42_1
                        try clear hfz42_2
                        try clear hfz42_3
                        try clear hfz45_0
                        try clear hfz45_1
                        try clear hfz45_2
                        try clear hfz45_3
                        try clear hfz50_0
                        try clear hfz50_1
                        try clear hfz50_2
                        try clear hfz50_3
                        try clear hfz53_0
                        try clear hfz53_1
                        try clear hfz53_2
                        try clear hfz53_3
                        try clear hfz5_0
                        try clear hfz5_1
                        try clear hfz5_2
                        try clear hfz5_3
                        try clear hfz68_0
                        try clear hfz68_1
                        try clear hfz68_2
                        try clear hfz68_3
                        try clear hfz76_0
                        try clear hfz76_1
                        try clear hfz76_2
                        try clear hfz76_3
                        try clear hfz79_0
                        try clear hfz79_1
                        try clear hfz79_2
                        try clear hfz79_3
                        try clear hfz84_0
                        try clear hfz84_1
                        try clear hfz84_2
                        try clear hfz84_3
                        try clear hfz87_0
                        try clear hfz87_1
                        try clear hfz87_2
                        try clear hfz87_3
                        try clear hfz95_0
                        try clear hfz95_1
                        try clear hfz95_2
                        try clear hfz95_3
                        try clear hfz97_0
                        try clear hfz97_1
                        try clear hfz97_2
                        try clear hfz97_3
                        try clear p2
                        obtain ⟨kq, x87_101, rfl, HA, HJ101, HO_223000, HO_238000, HO_266000, BK207, BK222, BK237, BK265, HB⟩ := hcut
                        have hl238000_101 := (Kd.S_reads' HO_238000.out).1
                        rw [hl238000_101] at HO_238000
                        (try simp only [hl238000_101])
                        (try simp only [hl238000_101] at BK207)
                        (try simp only [hl238000_101] at BK222)
                        (try simp only [hl238000_101] at BK237)
                        (try simp only [hl238000_101] at BK265)
                        (try simp only [hl238000_101] at HO_223000)
                        (try simp only [hl238000_101] at HO_266000)
                        cases kq with
                        | zero => exact absurd HA.out (by simp [laws_FnExactRestart.j2])
                        | succ kj101 =>
                          have H := HA.out
                          clear HA
                          simp only [laws_FnExactRestart.j2] at H
                          by_cases c138 : x87_101 = true
                          · subst c138
                            have H1 : (some false) = some r := by rw [if_pos rfl] at H; exact H
                            clear H
                            have H := H1
                            clear H1
                            obtain rfl := Option.some.inj H
                            go_wp2
                            go_ret
                            exact ⟨by first | rfl | (simp [errW_none, errW_some] <;> rfl) | (simp [*, errW_none, errW_some] <;> rfl), by repeat (first | (with_reducible first | exact HB.out | apply below_alloc | apply pw_below_drewN | apply below_drew1 | refine below_set ?_ GE207.out | refine below_set ?_ GE222.out | refine below_set ?_ GE237.out | refine below_set ?_ GE265.out) | exact HB.out)⟩
                          · replace c138 := Bool.eq_false_iff.mpr c138
                            subst c138
                            have H1 : ((laws_heldDisk.f kj101 t250 t233 t234 t235 1).bind fun t267 => (if t267 < 0 then (some false) else (if t267 = t249 then (some true) else (some false)))) = some r := by rw [if_neg (show ¬ (false = true) by decide)] at H; exact H
                            clear H
                            have H := H1
                            clear H1
                            replace H := Option.bind_eq_some_iff.mp H
                            obtain ⟨t267, A1390, H⟩ := H
                            replace H : (if t267 < 0 then (some false) else (if t267 = t249 then (some true) else (some false))) = some r := H
                            have A139 := Aside0.mk A1390
                            clear A1390
                            by_cases c140 : t267 < 0
                            · rw [if_pos c140] at H
                              have c140b0 : decide (t267 < 0) = true := decide_eq_true c140
                              clear c140
                              obtain rfl := Option.some.inj H
                              have hnb141 := NB237_207.out
                              have hnc141 := NB207_237.out
                              have hnb142 := NB237_222.out
                              have hnc142 := NB222_237.out
                              have hnb143 := NB237_265.out
                              have hnc143 := NB265_237.out
                              have hcz144_0 : wc.cell? ⟨gb237, 0, none⟩ = some (.slice Ao32 t250.length co32) := (blk_cell BK237.out 0).trans rfl
                              have hcz144_1 : wc.cell? ⟨gb237, 1, none⟩ = some (.int .i64 t233) := (blk_cell BK237.out 1).trans rfl
                              have hcz144_2 : wc.cell? ⟨gb237, 2, none⟩ = some (.bool t234) := (blk_cell BK237.out 2).trans rfl
                              have hcz144_3 : wc.cell? ⟨gb237, 3, none⟩ = some (.int .i64 t235) := (blk_cell BK237.out 3).trans rfl
                              have hfz144_0 := blk_frozen BK237.out 0
                              have hfz144_1 := blk_frozen BK237.out 1
                              have hfz144_2 := blk_frozen BK237.out 2
                              have hfz144_3 := blk_frozen BK237.out 3
                              go_wp2_with (first | ((with_reducible refine gate_callee (f := 15) rfl ?_); refine goesL_ (some 90) rfl rfl Try.func15 (by kernel_rfl) rfl #[.agg #[.slice Ao32 t250.length co32, .int .i64 t233, .bool t234, .int .i64 t235], .int .i64 1] rfl (by (try simp only [List.map_toArray, List.map_cons, List.map_nil]); first | done | rfl | (simp only [List.length_drop, List.length_take]; rfl)) ?_; (with_reducible refine (laws_heldDisk.calls kj101 _ _ t250 t233 t234 t235 1 t267 _ ?side1 ?side2 A139.out).mono ?_); (case side1 => repeat (first | exact (Kd.S_reads' HO_238000.out).2.2 | (with_reducible refine Kd.C_alloc ?_ _) | (with_reducible refine Kd.C_drewN ?_ _) | (with_reducible refine Kd.C_drew ?_))); (case side2 => exact (Kd.S_reads' HO_238000.out).2.1); rintro e w145 ⟨rfl, hb⟩; refine ⟨_, rfl, ?_⟩; have n0_ := Aside0.mk (Kd.S_below (by (with_reducible repeat (first | apply Kd.S_alloc | apply Kd.S_drewN | apply Kd.S_drew)); exact HO_223000.out) hb); have n1_ := Aside0.mk (Kd.S_below (by (with_reducible repeat (first | apply Kd.S_alloc | apply Kd.S_drewN | apply Kd.S_drew)); exact HO_238000.out) hb); have n2_ := Aside0.mk (Kd.S_below (by (with_reducible repeat (first | apply Kd.S_alloc | apply Kd.S_drewN | apply Kd.S_drew)); exact HO_266000.out) hb); have n3_ := Aside0.mk (blk_below (g := gb207) (o := .cells #[.slice A0_0 l0_0.length c0_0, .int .i64 a0_1, .bool a0_2, .int .i64 a0_3] 30 (0, 0)) (by (with_reducible repeat (first | refine blk_drewN ?_ _ | refine blk_drew ?_ | refine blk_alloc ?_ _)); exact BK207.out) hb); have n4_ := Aside0.mk (blk_below (g := gb222) (o := .cells #[.slice Ao20 t215.length co20, .int .i64 t218, .bool t219, .int .i64 t220] 24 (0, 0)) (by (with_reducible repeat (first | refine blk_drewN ?_ _ | refine blk_drew ?_ | refine blk_alloc ?_ _)); exact BK222.out) hb); have n5_ := Aside0.mk (blk_below (g := gb237) (o := .cells #[.slice Ao32 t250.length co32, .int .i64 t233, .bool t234, .int .i64 t235] 24 (0, 0)) (by (with_reducible repeat (first | refine blk_drewN ?_ _ | refine blk_drew ?_ | refine blk_alloc ?_ _)); exact BK237.out) hb); have n6_ := Aside0.mk (blk_below (g := gb265) (o := .cells #[.slice Ao115 t258.length co115, .int .i64 t261, .bool t262, .int .i64 t263] 24 (0, 0)) (by (with_reducible repeat (first | refine blk_drewN ?_ _ | refine blk_drew ?_ | refine blk_alloc ?_ _)); exact BK265.out) hb); have n7_ := Aside0.mk (below_step (by repeat (first | (with_reducible first | exact HB.out | apply below_alloc | apply pw_below_drewN | apply below_drew1 | refine below_set ?_ GE207.out | refine below_set ?_ GE222.out | refine below_set ?_ GE237.out | refine below_set ?_ GE265.out) | exact HB.out)) hb); clear HO_223000; clear HO_238000; clear HO_266000; clear BK207; clear BK222; clear BK237; clear BK265; clear HB; have HO_223000 := n0_; have HO_238000 := n1_; have HO_266000 := n2_; have BK207 := n3_; have BK222 := n4_; have BK237 := n5_; have BK265 := n6_; have HB := n7_; clear n0_ n1_ n2_ n3_ n4_ n5_ n6_ n7_; (try clear hb); (try clear hb2); (try clear hk); (try clear hi)))
                              go_ret
                              exact ⟨by first | rfl | (simp [errW_none, errW_some] <;> rfl) | (simp [*, errW_none, errW_some] <;> rfl), by repeat (first | (with_reducible first | exact HB.out | apply below_alloc | apply pw_below_drewN | apply below_drew1 | refine below_set ?_ GE207.out | refine below_set ?_ GE222.out | refine below_set ?_ GE237.out | refine below_set ?_ GE265.out) | exact HB.out)⟩
                            · rw [if_neg c140] at H
                              have c140b0 : decide (t267 < 0) = false := decide_eq_false c140
                              clear c140
                              by_cases c146 : t267 = t249
                              · rw [if_pos c146] at H
                                have c146b0 : (t267 == t249) = true := beq_iff_eq.mpr c146
                                have c146b1 : (t267 != t249) = false := bne_eq_false_iff_eq.mpr c146
                                clear c146
                                obtain rfl := Option.some.inj H
                                have hnb147 := NB237_207.out
                                have hnc147 := NB207_237.out
                                have hnb148 := NB237_222.out
                                have hnc148 := NB222_237.out
                                have hnb149 := NB237_265.out
                                have hnc149 := NB265_237.out
                                have hcz150_0 : wc.cell? ⟨gb237, 0, none⟩ = some (.slice Ao32 t250.length co32) := (blk_cell BK237.out 0).trans rfl
                                have hcz150_1 : wc.cell? ⟨gb237, 1, none⟩ = some (.int .i64 t233) := (blk_cell BK237.out 1).trans rfl
                                have hcz150_2 : wc.cell? ⟨gb237, 2, none⟩ = some (.bool t234) := (blk_cell BK237.out 2).trans rfl
                                have hcz150_3 : wc.cell? ⟨gb237, 3, none⟩ = some (.int .i64 t235) := (blk_cell BK237.out 3).trans rfl
                                have hfz150_0 := blk_frozen BK237.out 0
                                have hfz150_1 := blk_frozen BK237.out 1
                                have hfz150_2 := blk_frozen BK237.out 2
                                have hfz150_3 := blk_frozen BK237.out 3
                                go_wp2_with (first | ((with_reducible refine gate_callee (f := 15) rfl ?_); refine goesL_ (some 90) rfl rfl Try.func15 (by kernel_rfl) rfl #[.agg #[.slice Ao32 t250.length co32, .int .i64 t233, .bool t234, .int .i64 t235], .int .i64 1] rfl (by (try simp only [List.map_toArray, List.map_cons, List.map_nil]); first | done | rfl | (simp only [List.length_drop, List.length_take]; rfl)) ?_; (with_reducible refine (laws_heldDisk.calls kj101 _ _ t250 t233 t234 t235 1 t267 _ ?side1 ?side2 A139.out).mono ?_); (case side1 => repeat (first | exact (Kd.S_reads' HO_238000.out).2.2 | (with_reducible refine Kd.C_alloc ?_ _) | (with_reducible refine Kd.C_drewN ?_ _) | (with_reducible refine Kd.C_drew ?_))); (case side2 => exact (Kd.S_reads' HO_238000.out).2.1); rintro e w151 ⟨rfl, hb⟩; refine ⟨_, rfl, ?_⟩; have n0_ := Aside0.mk (Kd.S_below (by (with_reducible repeat (first | apply Kd.S_alloc | apply Kd.S_drewN | apply Kd.S_drew)); exact HO_223000.out) hb); have n1_ := Aside0.mk (Kd.S_below (by (with_reducible repeat (first | apply Kd.S_alloc | apply Kd.S_drewN | apply Kd.S_drew)); exact HO_238000.out) hb); have n2_ := Aside0.mk (Kd.S_below (by (with_reducible repeat (first | apply Kd.S_alloc | apply Kd.S_drewN | apply Kd.S_drew)); exact HO_266000.out) hb); have n3_ := Aside0.mk (blk_below (g := gb207) (o := .cells #[.slice A0_0 l0_0.length c0_0, .int .i64 a0_1, .bool a0_2, .int .i64 a0_3] 30 (0, 0)) (by (with_reducible repeat (first | refine blk_drewN ?_ _ | refine blk_drew ?_ | refine blk_alloc ?_ _)); exact BK207.out) hb); have n4_ := Aside0.mk (blk_below (g := gb222) (o := .cells #[.slice Ao20 t215.length co20, .int .i64 t218, .bool t219, .int .i64 t220] 24 (0, 0)) (by (with_reducible repeat (first | refine blk_drewN ?_ _ | refine blk_drew ?_ | refine blk_alloc ?_ _)); exact BK222.out) hb); have n5_ := Aside0.mk (blk_below (g := gb237) (o := .cells #[.slice Ao32 t250.length co32, .int .i64 t233, .bool t234, .int .i64 t235] 24 (0, 0)) (by (with_reducible repeat (first | refine blk_drewN ?_ _ | refine blk_drew ?_ | refine blk_alloc ?_ _)); exact BK237.out) hb); have n6_ := Aside0.mk (blk_below (g := gb265) (o := .cells #[.slice Ao115 t258.length co115, .int .i64 t261, .bool t262, .int .i64 t263] 24 (0, 0)) (by (with_reducible repeat (first | refine blk_drewN ?_ _ | refine blk_drew ?_ | refine blk_alloc ?_ _)); exact BK265.out) hb); have n7_ := Aside0.mk (below_step (by repeat (first | (with_reducible first | exact HB.out | apply below_alloc | apply pw_below_drewN | apply below_drew1 | refine below_set ?_ GE207.out | refine below_set ?_ GE222.out | refine below_set ?_ GE237.out | refine below_set ?_ GE265.out) | exact HB.out)) hb); clear HO_223000; clear HO_238000; clear HO_266000; clear BK207; clear BK222; clear BK237; clear BK265; clear HB; have HO_223000 := n0_; have HO_238000 := n1_; have HO_266000 := n2_; have BK207 := n3_; have BK222 := n4_; have BK237 := n5_; have BK265 := n6_; have HB := n7_; clear n0_ n1_ n2_ n3_ n4_ n5_ n6_ n7_; (try clear hb); (try clear hb2); (try clear hk); (try clear hi)))
                                go_ret
                                exact ⟨by first | rfl | (simp [errW_none, errW_some] <;> rfl) | (simp [*, errW_none, errW_some] <;> rfl), by repeat (first | (with_reducible first | exact HB.out | apply below_alloc | apply pw_below_drewN | apply below_drew1 | refine below_set ?_ GE207.out | refine below_set ?_ GE222.out | refine below_set ?_ GE237.out | refine below_set ?_ GE265.out) | exact HB.out)⟩
                              · rw [if_neg c146] at H
                                have c146b0 : (t267 == t249) = false := beq_eq_false_iff_ne.mpr c146
                                have c146b1 : (t267 != t249) = true := bne_iff_ne.mpr c146
                                obtain rfl := Option.some.inj H
                                have hnb152 := NB237_207.out
                                have hnc152 := NB207_237.out
                                have hnb153 := NB237_222.out
                                have hnc153 := NB222_237.out
                                have hnb154 := NB237_265.out
                                have hnc154 := NB265_237.out
                                have hcz155_0 : wc.cell? ⟨gb237, 0, none⟩ = some (.slice Ao32 t250.length co32) := (blk_cell BK237.out 0).trans rfl
                                have hcz155_1 : wc.cell? ⟨gb237, 1, none⟩ = some (.int .i64 t233) := (blk_cell BK237.out 1).trans rfl
                                have hcz155_2 : wc.cell? ⟨gb237, 2, none⟩ = some (.bool t234) := (blk_cell BK237.out 2).trans rfl
                                have hcz155_3 : wc.cell? ⟨gb237, 3, none⟩ = some (.int .i64 t235) := (blk_cell BK237.out 3).trans rfl
                                have hfz155_0 := blk_frozen BK237.out 0
                                have hfz155_1 := blk_frozen BK237.out 1
                                have hfz155_2 := blk_frozen BK237.out 2
                                have hfz155_3 := blk_frozen BK237.out 3
                                go_wp2_with (first | ((with_reducible refine gate_callee (f := 15) rfl ?_); refine goesL_ (some 90) rfl rfl Try.func15 (by kernel_rfl) rfl #[.agg #[.slice Ao32 t250.length co32, .int .i64 t233, .bool t234, .int .i64 t235], .int .i64 1] rfl (by (try simp only [List.map_toArray, List.map_cons, List.map_nil]); first | done | rfl | (simp only [List.length_drop, List.length_take]; rfl)) ?_; (with_reducible refine (laws_heldDisk.calls kj101 _ _ t250 t233 t234 t235 1 t267 _ ?side1 ?side2 A139.out).mono ?_); (case side1 => repeat (first | exact (Kd.S_reads' HO_238000.out).2.2 | (with_reducible refine Kd.C_alloc ?_ _) | (with_reducible refine Kd.C_drewN ?_ _) | (with_reducible refine Kd.C_drew ?_))); (case side2 => exact (Kd.S_reads' HO_238000.out).2.1); rintro e w156 ⟨rfl, hb⟩; refine ⟨_, rfl, ?_⟩; have n0_ := Aside0.mk (Kd.S_below (by (with_reducible repeat (first | apply Kd.S_alloc | apply Kd.S_drewN | apply Kd.S_drew)); exact HO_223000.out) hb); have n1_ := Aside0.mk (Kd.S_below (by (with_reducible repeat (first | apply Kd.S_alloc | apply Kd.S_drewN | apply Kd.S_drew)); exact HO_238000.out) hb); have n2_ := Aside0.mk (Kd.S_below (by (with_reducible repeat (first | apply Kd.S_alloc | apply Kd.S_drewN | apply Kd.S_drew)); exact HO_266000.out) hb); have n3_ := Aside0.mk (blk_below (g := gb207) (o := .cells #[.slice A0_0 l0_0.length c0_0, .int .i64 a0_1, .bool a0_2, .int .i64 a0_3] 30 (0, 0)) (by (with_reducible repeat (first | refine blk_drewN ?_ _ | refine blk_drew ?_ | refine blk_alloc ?_ _)); exact BK207.out) hb); have n4_ := Aside0.mk (blk_below (g := gb222) (o := .cells #[.slice Ao20 t215.length co20, .int .i64 t218, .bool t219, .int .i64 t220] 24 (0, 0)) (by (with_reducible repeat (first | refine blk_drewN ?_ _ | refine blk_drew ?_ | refine blk_alloc ?_ _)); exact BK222.out) hb); have n5_ := Aside0.mk (blk_below (g := gb237) (o := .cells #[.slice Ao32 t250.length co32, .int .i64 t233, .bool t234, .int .i64 t235] 24 (0, 0)) (by (with_reducible repeat (first | refine blk_drewN ?_ _ | refine blk_drew ?_ | refine blk_alloc ?_ _)); exact BK237.out) hb); have n6_ := Aside0.mk (blk_below (g := gb265) (o := .cells #[.slice Ao115 t258.length co115, .int .i64 t261, .bool t262, .int .i64 t263] 24 (0, 0)) (by (with_reducible repeat (first | refine blk_drewN ?_ _ | refine blk_drew ?_ | refine blk_alloc ?_ _)); exact BK265.out) hb); have n7_ := Aside0.mk (below_step (by repeat (first | (with_reducible first | exact HB.out | apply below_alloc | apply pw_below_drewN | apply below_drew1 | refine below_set ?_ GE207.out | refine below_set ?_ GE222.out | refine below_set ?_ GE237.out | refine below_set ?_ GE265.out) | exact HB.out)) hb); clear HO_223000; clear HO_238000; clear HO_266000; clear BK207; clear BK222; clear BK237; clear BK265; clear HB; have HO_223000 := n0_; have HO_238000 := n1_; have HO_266000 := n2_; have BK207 := n3_; have BK222 := n4_; have BK237 := n5_; have BK265 := n6_; have HB := n7_; clear n0_ n1_ n2_ n3_ n4_ n5_ n6_ n7_; (try clear hb); (try clear hb2); (try clear hk); (try clear hi)))
                                go_ret
                                exact ⟨by first | rfl | (simp [errW_none, errW_some] <;> rfl) | (simp [*, errW_none, errW_some] <;> rfl), by repeat (first | (with_reducible first | exact HB.out | apply below_alloc | apply pw_below_drewN | apply below_drew1 | refine below_set ?_ GE207.out | refine below_set ?_ GE222.out | refine below_set ?_ GE237.out | refine below_set ?_ GE265.out) | exact HB.out)⟩
                    · rw [if_neg c99] at H
                      have c99b0 : (t251 == t249) = false := beq_eq_false_iff_ne.mpr c99
                      have c99b1 : (t251 != t249) = true := bne_iff_ne.mpr c99
                      obtain rfl := Option.some.inj H
                      have hnb157 := NB237_207.out
                      have hnc157 := NB207_237.out
                      have hnb158 := NB237_222.out
                      have hnc158 := NB222_237.out
                      have hcz159_0 : wc.cell? ⟨gb237, 0, none⟩ = some (.slice Ao32 t230.length co32) := (blk_cell BK237.out 0).trans rfl
                      have hcz159_1 : wc.cell? ⟨gb237, 1, none⟩ = some (.int .i64 t233) := (blk_cell BK237.out 1).trans rfl
                      have hcz159_2 : wc.cell? ⟨gb237, 2, none⟩ = some (.bool t234) := (blk_cell BK237.out 2).trans rfl
                      have hcz159_3 : wc.cell? ⟨gb237, 3, none⟩ = some (.int .i64 t235) := (blk_cell BK237.out 3).trans rfl
                      have hfz159_0 := blk_frozen BK237.out 0
                      have hfz159_1 := blk_frozen BK237.out 1
                      have hfz159_2 := blk_frozen BK237.out 2
                      have hfz159_3 := blk_frozen BK237.out 3
                      go_wp2_with (first | ((with_reducible refine gate_callee (f := 14) rfl ?_); refine goesL_ (some 64) rfl rfl Try.func14 (by kernel_rfl) rfl #[.agg #[.slice Ao32 t230.length co32, .int .i64 t233, .bool t234, .int .i64 t235], .int .i64 1] rfl (by (try simp only [List.map_toArray, List.map_cons, List.map_nil]); first | done | rfl | (simp only [List.length_drop, List.length_take]; rfl)) ?_; (with_reducible refine (laws_markDisk.calls kj59 (SB_ (Kd.slice 5 (Kd.int .u8)) 35 wc w.heap.size (fun k_ => (some k_ ≠ (.slice Ao20 t215.length co20 : Value).ownBlock ∧ (w25.heap.size ≤ k_ ∧ k_ < w61.heap.size)))) (.slice Ao32 t230.length co32) t230 t233 t234 t235 1 t249 t250 w _ ?side1 ?side2 A90.out).mono ?_); (case side1 => repeat (first | (with_reducible first | exact HB.out | apply below_alloc | apply pw_below_drewN | apply below_drew1 | refine below_set ?_ GE207.out | refine below_set ?_ GE222.out | refine below_set ?_ GE237.out) | exact HB.out)); (case side2 => exact SB_own HO_238000.out); rintro e w160 ⟨rfl, hy0, hb, hkp⟩; refine ⟨_, rfl, ?_⟩; have n0_ := Aside0.mk (Kd.S_mono (ok' := fun k_ => some k_ ≠ (.slice Ao32 t230.length co32 : Value).ownBlock ∧ w16.heap.size ≤ k_ ∧ k_ < w19.heap.size ∧ k_ < w25.heap.size ∧ k_ < w61.heap.size) (Kd.S_keptB ((S_apartSBn (d' := (Kd.slice 5 (Kd.int .u8))) (e' := 35) (base' := w.heap.size) (ok' := (fun k_ => (some k_ ≠ (.slice Ao20 t215.length co20 : Value).ownBlock ∧ (w25.heap.size ≤ k_ ∧ k_ < w61.heap.size)))) HO_223000.out (fun k_ hk h2_ => absurd (hk.2.2.2.1) (Nat.not_lt.2 (h2_.2.1))))) hkp (fun k_ hk_ hs_ => (hk_.2) hs_)) (fun k_ hk_ => ⟨hk_.1.1.1, hk_.1.1.2.1, hk_.1.1.2.2.1, hk_.1.1.2.2.2.1, hk_.1.1.2.2.2.2⟩)); have n1_ := Aside0.mk (Kd.S_mono (ok' := fun k_ => some k_ ≠ (.slice Ao20 t215.length co20 : Value).ownBlock) hy0 (fun k_ h_ => Or.elim h_ (fun p_ => p_.1.1) (fun n_ => (Kd.fresh' (Kd.S_lt (by (with_reducible repeat (first | apply Kd.S_alloc | apply Kd.S_drewN | apply Kd.S_drew)); exact HO_223000.out)) k_ n_)))); have n2_ := Aside0.mk (blk_kept (by (with_reducible repeat (first | refine blk_drewN ?_ _ | refine blk_drew ?_ | refine blk_alloc ?_ _)); exact BK207.out) hkp (fun hs_ => (fun e_ => (blk_SB BK207.out (by decide)) e_) hs_)); have n3_ := Aside0.mk (blk_kept (by (with_reducible repeat (first | refine blk_drewN ?_ _ | refine blk_drew ?_ | refine blk_alloc ?_ _)); exact BK222.out) hkp (fun hs_ => (fun e_ => (blk_SB BK222.out (by decide)) e_) hs_)); have n4_ := Aside0.mk (blk_kept (by (with_reducible repeat (first | refine blk_drewN ?_ _ | refine blk_drew ?_ | refine blk_alloc ?_ _)); exact BK237.out) hkp (fun hs_ => (fun e_ => (blk_SB BK237.out (by decide)) e_) hs_)); have n5_ := Aside0.mk (hb); clear HO_223000; clear HO_238000; clear BK207; clear BK222; clear BK237; clear HB; have HO_223000 := n0_; have HO_238000 := n1_; have BK207 := n2_; have BK222 := n3_; have BK237 := n4_; have HB := n5_; clear n0_ n1_ n2_ n3_ n4_ n5_; (try clear hb); (try clear hkp); (try clear hy0); have hcz161_0 : w160.cell? ⟨gb237, 0, none⟩ = some (.slice Ao32 t230.length co32) := (blk_cell BK237.out 0).trans rfl; have hcz161_1 : w160.cell? ⟨gb237, 1, none⟩ = some (.int .i64 t233) := (blk_cell BK237.out 1).trans rfl; have hcz161_2 : w160.cell? ⟨gb237, 2, none⟩ = some (.bool t234) := (blk_cell BK237.out 2).trans rfl; have hcz161_3 : w160.cell? ⟨gb237, 3, none⟩ = some (.int .i64 t235) := (blk_cell BK237.out 3).trans rfl; have hfz161_0 := blk_frozen BK237.out 0; have hfz161_1 := blk_frozen BK237.out 1; have hfz161_2 := blk_frozen BK237.out 2; have hfz161_3 := blk_frozen BK237.out 3) | ((with_reducible refine gate_callee (f := 15) rfl ?_); refine goesL_ (some 67) rfl rfl Try.func15 (by kernel_rfl) rfl #[.agg #[.slice Ao32 t250.length co32, .int .i64 t233, .bool t234, .int .i64 t235], .int .i64 1] rfl (by (try simp only [List.map_toArray, List.map_cons, List.map_nil]); first | done | (rw [show t250.length = t230.length from (Kd.S_reads' HO_238000.out).1.symm] <;> rfl) | rfl | (simp only [List.length_drop, List.length_take]; rfl)) ?_; (with_reducible refine (laws_heldDisk.calls kj59 _ _ t250 t233 t234 t235 1 t251 _ ?side1 ?side2 A91.out).mono ?_); (case side1 => repeat (first | exact (Kd.S_reads' HO_238000.out).2.2 | (with_reducible refine Kd.C_alloc ?_ _) | (with_reducible refine Kd.C_drewN ?_ _) | (with_reducible refine Kd.C_drew ?_))); (case side2 => rw [show t250.length = t230.length from (Kd.S_reads' HO_238000.out).1.symm]; exact (Kd.S_reads' HO_238000.out).2.1); rintro e w162 ⟨rfl, hb⟩; refine ⟨_, rfl, ?_⟩; have n0_ := Aside0.mk (Kd.S_below (by (with_reducible repeat (first | apply Kd.S_alloc | apply Kd.S_drewN | apply Kd.S_drew)); exact HO_223000.out) hb); have n1_ := Aside0.mk (Kd.S_below (by (with_reducible repeat (first | apply Kd.S_alloc | apply Kd.S_drewN | apply Kd.S_drew)); exact HO_238000.out) hb); have n2_ := Aside0.mk (blk_below (g := gb207) (o := .cells #[.slice A0_0 l0_0.length c0_0, .int .i64 a0_1, .bool a0_2, .int .i64 a0_3] 30 (0, 0)) (by (with_reducible repeat (first | refine blk_drewN ?_ _ | refine blk_drew ?_ | refine blk_alloc ?_ _)); exact BK207.out) hb); have n3_ := Aside0.mk (blk_below (g := gb222) (o := .cells #[.slice Ao20 t215.length co20, .int .i64 t218, .bool t219, .int .i64 t220] 24 (0, 0)) (by (with_reducible repeat (first | refine blk_drewN ?_ _ | refine blk_drew ?_ | refine blk_alloc ?_ _)); exact BK222.out) hb); have n4_ := Aside0.mk (blk_below (g := gb237) (o := .cells #[.slice Ao32 t230.length co32, .int .i64 t233, .bool t234, .int .i64 t235] 24 (0, 0)) (by (with_reducible repeat (first | refine blk_drewN ?_ _ | refine blk_drew ?_ | refine blk_alloc ?_ _)); exact BK237.out) hb); have n5_ := Aside0.mk (below_step (by repeat (first | (with_reducible first | exact HB.out | apply below_alloc | apply pw_below_drewN | apply below_drew1 | refine below_set ?_ GE207.out | refine below_set ?_ GE222.out | refine below_set ?_ GE237.out) | exact HB.out)) hb); clear HO_223000; clear HO_238000; clear BK207; clear BK222; clear BK237; clear HB; have HO_223000 := n0_; have HO_238000 := n1_; have BK207 := n2_; have BK222 := n3_; have BK237 := n4_; have HB := n5_; clear n0_ n1_ n2_ n3_ n4_ n5_; (try clear hb); (try clear hb2); (try clear hk); (try clear hi)))
                      go_ret
                      exact ⟨by first | rfl | (simp [errW_none, errW_some] <;> rfl) | (simp [*, errW_none, errW_some] <;> rfl), by repeat (first | (with_reducible first | exact HB.out | apply below_alloc | apply pw_below_drewN | apply below_drew1 | refine below_set ?_ GE207.out | refine below_set ?_ GE222.out | refine below_set ?_ GE237.out) | exact HB.out)⟩
          · replace c58 := Bool.eq_false_iff.mpr c58
            subst c58
            have H1 : (some false) = some r := by rw [if_neg (show ¬ (false = true) by decide)] at H; exact H
            clear H
            have H := H1
            clear H1
            obtain rfl := Option.some.inj H
            try go_wp2
            have n0_ := Aside0.mk (Kd.S_drew HO_223000.out)
            have n1_ := Aside0.mk (Kd.S_drew HO_230000.out)
            have n2_ := Aside0.mk (Kd.S_drew HO_238000.out)
            have n3_ := Aside0.mk (blk_drew BK207.out)
            have n4_ := Aside0.mk (blk_drew BK222.out)
            have n5_ := Aside0.mk (blk_drew BK229.out)
            have n6_ := Aside0.mk (blk_drew BK237.out)
            have n7_ := Aside0.mk (below_drew1 HB.out)
            clear HO_223000
            clear HO_230000
            clear HO_238000
            clear BK207
            clear BK222
            clear BK229
            clear BK237
            clear HB
            have HO_223000 := n0_
            have HO_230000 := n1_
            have HO_238000 := n2_
            have BK207 := n3_
            have BK222 := n4_
            have BK229 := n5_
            have BK237 := n6_
            have HB := n7_
            clear n0_ n1_ n2_ n3_ n4_ n5_ n6_ n7_
            refine start_ (n := 5) (S := fun w' => w'.cell? ⟨gb229, 0, none⟩ = some (.slice Ao26 t223.length co26) ∧ w'.cell? ⟨gb229, 1, none⟩ = some (.int .i64 t226) ∧ w'.cell? ⟨gb229, 2, none⟩ = some (.bool t227) ∧ w'.cell? ⟨gb229, 3, none⟩ = some (.int .i64 t228) ∧ w'.cell? ⟨gb207, 0, none⟩ = some (.slice A0_0 l0_0.length c0_0) ∧ w'.cell? ⟨gb207, 1, none⟩ = some (.int .i64 a0_1) ∧ w'.cell? ⟨gb207, 2, none⟩ = some (.bool a0_2) ∧ w'.cell? ⟨gb207, 3, none⟩ = some (.int .i64 a0_3)) (ds := []) #[false, false, false, false, false] (by kernel_rfl) rfl rfl ⟨(blk_cell BK229.out 0).trans rfl, (blk_cell BK229.out 1).trans rfl, (blk_cell BK229.out 2).trans rfl, (blk_cell BK229.out 3).trans rfl, (blk_cell BK207.out 0).trans rfl, (blk_cell BK207.out 1).trans rfl, (blk_cell BK207.out 2).trans rfl, (blk_cell BK207.out 3).trans rfl⟩ (fun hHeld => ?_)
            generalize wc.drew = w163 at HO_223000 HO_230000 HO_238000 BK207 BK222 BK229 BK237 HB hHeld ⊢
            refine take_ (i := 0) (N := some 41) (v := ?_) (a' := ?_) #[true, false, false, false, false] rfl rfl (by kernel_rfl) (fun _ _ _ h => h) (Or.inl ⟨by rfl, ?_⟩) hHeld ?_ ?_
            rotate_left
            · rintro w' ⟨s0, s1, s2, s3, s4, s5, s6, s7⟩
              go_simp
              with_reducible rfl
            rotate_left
            · simp only [Act.put, List.setIfInBounds_toArray, List.set_cons_zero, List.set_cons_succ, i64_w, i32_w]
              rfl
            refine take_ (i := 1) (N := some 42) (v := ?_) (a' := ?_) #[true, true, false, false, false] rfl rfl (by kernel_rfl) (fun _ _ _ h => h) (Or.inl ⟨by rfl, ?_⟩) hHeld ?_ ?_
            rotate_left
            · rintro w' ⟨s0, s1, s2, s3, s4, s5, s6, s7⟩
              go_simp
              with_reducible rfl
            rotate_left
            · simp only [Act.put, List.setIfInBounds_toArray, List.set_cons_zero, List.set_cons_succ, i64_w, i32_w]
              rfl
            refine one_ (i := 2) (N := some 43) #[true, true, true, false, false] rfl rfl (by kernel_rfl) (by decide) (fun K hK => ?_)
            refine goes_ Try.func18 (by kernel_rfl) rfl #[.agg #[.slice A0_0 l0_0.length c0_0, .int .i64 a0_1, .bool a0_2, .int .i64 a0_3]] (by rfl) rfl rfl (by (try simp only [List.map_toArray, List.map_cons, List.map_nil]); first | done | rfl | (simp only [List.length_drop, List.length_take]; rfl)) ?_
            with_reducible refine (laws_toDisk.calls kj10 _ _ l0_0 a0_1 a0_2 a0_3 t239 t242 t243 t244 _ ?side1 ?side2 A56.out).mono ?_
            (case side1 => repeat (first | exact (Kd.C_below HR0_0.out HB.out) | (with_reducible refine Kd.C_alloc ?_ _) | (with_reducible refine Kd.C_drewN ?_ _) | (with_reducible refine Kd.C_drew ?_)))
            (case side2 => exact HC0_0.out)
            rintro e w164 ⟨v240, rfl, ho0, hb⟩
            refine ⟨_, rfl, ?_⟩
            have n0_ := Aside0.mk (Kd.S_told (Kd.S_old (by (with_reducible repeat (first | apply Kd.S_alloc | apply Kd.S_drewN | apply Kd.S_drew)); exact HO_223000.out) hb) (Kd.S_base ho0))
            have n1_ := Aside0.mk (Kd.S_told (Kd.S_old (by (with_reducible repeat (first | apply Kd.S_alloc | apply Kd.S_drewN | apply Kd.S_drew)); exact HO_230000.out) hb) (Kd.S_base ho0))
            have n2_ := Aside0.mk (Kd.S_told (Kd.S_old (by (with_reducible repeat (first | apply Kd.S_alloc | apply Kd.S_drewN | apply Kd.S_drew)); exact HO_238000.out) hb) (Kd.S_base ho0))
            have n3_ := Aside0.mk (Kd.S_lower (Kd.S_new' (Kd.S_new' (Kd.S_new' (Kd.S_mono (Kd.S_bound ho0) (fun k_ h_ => (⟨h_.1, (by first | exact h_.2.1 | simpa only [World.size_setCell] using h_.2.1)⟩ : _ ∧ w163.heap.size ≤ k_))) (Kd.S_lt (by (with_reducible repeat (first | apply Kd.S_alloc | apply Kd.S_drewN | apply Kd.S_drew)); exact HO_223000.out))) (Kd.S_lt (by (with_reducible repeat (first | apply Kd.S_alloc | apply Kd.S_drewN | apply Kd.S_drew)); exact HO_230000.out))) (Kd.S_lt (by (with_reducible repeat (first | apply Kd.S_alloc | apply Kd.S_drewN | apply Kd.S_drew)); exact HO_238000.out))) (below_size (by repeat (first | (with_reducible first | exact HB.out | apply below_alloc | apply pw_below_drewN | apply below_drew1 | refine below_set ?_ GE207.out | refine below_set ?_ GE222.out | refine below_set ?_ GE229.out | refine below_set ?_ GE237.out) | exact HB.out))))
            have n4_ := Aside0.mk (blk_below (g := gb207) (o := .cells #[.slice A0_0 l0_0.length c0_0, .int .i64 a0_1, .bool a0_2, .int .i64 a0_3] 30 (0, 0)) (by (with_reducible repeat (first | refine blk_drewN ?_ _ | refine blk_drew ?_ | refine blk_alloc ?_ _)); exact BK207.out) hb)
            have n5_ := Aside0.mk (blk_below (g := gb222) (o := .cells #[.slice Ao20 t215.length co20, .int .i64 t218, .bool t219, .int .i64 t220] 24 (0, 0)) (by (with_reducible repeat (first | refine blk_drewN ?_ _ | refine blk_drew ?_ | refine blk_alloc ?_ _)); exact BK222.out) hb)
            have n6_ := Aside0.mk (blk_below (g := gb229) (o := .cells #[.slice Ao26 t223.length co26, .int .i64 t226, .bool t227, .int .i64 t228] 24 (0, 0)) (by (with_reducible repeat (first | refine blk_drewN ?_ _ | refine blk_drew ?_ | refine blk_alloc ?_ _)); exact BK229.out) hb)
            have n7_ := Aside0.mk (blk_below (g := gb237) (o := .cells #[.slice Ao32 t230.length co32, .int .i64 t233, .bool t234, .int .i64 t235] 24 (0, 0)) (by (with_reducible repeat (first | refine blk_drewN ?_ _ | refine blk_drew ?_ | refine blk_alloc ?_ _)); exact BK237.out) hb)
            have n8_ := Aside0.mk (below_step (by repeat (first | (with_reducible first | exact HB.out | apply below_alloc | apply pw_below_drewN | apply below_drew1 | refine below_set ?_ GE207.out | refine below_set ?_ GE222.out | refine below_set ?_ GE229.out | refine below_set ?_ GE237.out) | exact HB.out)) hb)
            clear HO_223000
            clear HO_230000
            clear HO_238000
            clear BK207
            clear BK222
            clear BK229
            clear BK237
            clear HB
            have HO_223000 := n0_
            have HO_230000 := n1_
            have HO_238000 := n2_
            have HO241 := n3_
            have BK207 := n4_
            have BK222 := n5_
            have BK229 := n6_
            have BK237 := n7_
            have HB := n8_
            clear n0_ n1_ n2_ n3_ n4_ n5_ n6_ n7_ n8_
            (try clear hb)
            (try clear hb2)
            (try clear hk)
            (try clear hi)
            (try clear ho0)
            obtain ⟨Ao165, co165, eo165⟩ := Kd.S_slice HO241.out
            (first | subst eo165 | (injection eo165 with f1_ f2_ f3_; have f4_ := f1_.symm; have f5_ := f3_.symm; clear f1_ f2_ f3_; subst f4_; subst f5_))
            refine hK.out _ _ ⟨(blk_cell BK229.out 0).trans rfl, (blk_cell BK229.out 1).trans rfl, (blk_cell BK229.out 2).trans rfl, (blk_cell BK229.out 3).trans rfl, (blk_cell BK207.out 0).trans rfl, (blk_cell BK207.out 1).trans rfl, (blk_cell BK207.out 2).trans rfl, (blk_cell BK207.out 3).trans rfl⟩ (fun hHeld => ?_)
            clear hK K
            refine norm_ (a' := ?_) ?_ ?_
            rotate_left
            · show Act.put _ (some 43) _ = _
              simp only [Act.put, List.setIfInBounds_toArray, List.set_cons_zero, List.set_cons_succ, i64_w, i32_w]
              rfl
            refine one_ (i := 3) (N := some 44) #[true, true, true, true, false] rfl rfl (by kernel_rfl) (by decide) (fun K hK => ?_)
            refine goes_ Try.func13 (by kernel_rfl) rfl #[.agg #[.slice Ao26 t223.length co26, .int .i64 t226, .bool t227, .int .i64 t228], .agg #[.slice Ao165 t239.length co165, .int .i64 t242, .bool t243, .int .i64 t244]] (by rfl) rfl rfl (by (try simp only [List.map_toArray, List.map_cons, List.map_nil]); first | done | rfl | (simp only [List.length_drop, List.length_take]; rfl)) ?_
            with_reducible refine (laws_eqDisk.calls kj10 _ _ t223 t226 t227 t228 _ _ t239 t242 t243 t244 false _ ?side1 ?side2 ?side3 ?side4 A57.out).mono ?_
            (case side1 => repeat (first | exact (Kd.S_reads' HO_230000.out).2.2 | (with_reducible refine Kd.C_alloc ?_ _) | (with_reducible refine Kd.C_drewN ?_ _) | (with_reducible refine Kd.C_drew ?_)))
            (case side2 => exact (Kd.S_reads' HO_230000.out).2.1)
            (case side3 => repeat (first | exact (Kd.S_reads' HO241.out).2.2 | (with_reducible refine Kd.C_alloc ?_ _) | (with_reducible refine Kd.C_drewN ?_ _) | (with_reducible refine Kd.C_drew ?_)))
            (case side4 => exact (Kd.S_reads' HO241.out).2.1)
            rintro e w166 ⟨rfl, hb⟩
            refine ⟨_, rfl, ?_⟩
            have n0_ := Aside0.mk (Kd.S_below (by (with_reducible repeat (first | apply Kd.S_alloc | apply Kd.S_drewN | apply Kd.S_drew)); exact HO_223000.out) hb)
            have n1_ := Aside0.mk (Kd.S_below (by (with_reducible repeat (first | apply Kd.S_alloc | apply Kd.S_drewN | apply Kd.S_drew)); exact HO_230000.out) hb)
            have n2_ := Aside0.mk (Kd.S_below (by (with_reducible repeat (first | apply Kd.S_alloc | apply Kd.S_drewN | apply Kd.S_drew)); exact HO_238000.out) hb)
            have n3_ := Aside0.mk (Kd.S_below (by (with_reducible repeat (first | apply Kd.S_alloc | apply Kd.S_drewN | apply Kd.S_drew)); exact HO241.out) hb)
            have n4_ := Aside0.mk (blk_below (g := gb207) (o := .cells #[.slice A0_0 l0_0.length c0_0, .int .i64 a0_1, .bool a0_2, .int .i64 a0_3] 30 (0, 0)) (by (with_reducible repeat (first | refine blk_drewN ?_ _ | refine blk_drew ?_ | refine blk_alloc ?_ _)); exact BK207.out) hb)
            have n5_ := Aside0.mk (blk_below (g := gb222) (o := .cells #[.slice Ao20 t215.length co20, .int .i64 t218, .bool t219, .int .i64 t220] 24 (0, 0)) (by (with_reducible repeat (first | refine blk_drewN ?_ _ | refine blk_drew ?_ | refine blk_alloc ?_ _)); exact BK222.out) hb)
            have n6_ := Aside0.mk (blk_below (g := gb229) (o := .cells #[.slice Ao26 t223.length co26, .int .i64 t226, .bool t227, .int .i64 t228] 24 (0, 0)) (by (with_reducible repeat (first | refine blk_drewN ?_ _ | refine blk_drew ?_ | refine blk_alloc ?_ _)); exact BK229.out) hb)
            have n7_ := Aside0.mk (blk_below (g := gb237) (o := .cells #[.slice Ao32 t230.length co32, .int .i64 t233, .bool t234, .int .i64 t235] 24 (0, 0)) (by (with_reducible repeat (first | refine blk_drewN ?_ _ | refine blk_drew ?_ | refine blk_alloc ?_ _)); exact BK237.out) hb)
            have n8_ := Aside0.mk (below_step (by repeat (first | (with_reducible first | exact HB.out | apply below_alloc | apply pw_below_drewN | apply below_drew1 | refine below_set ?_ GE207.out | refine below_set ?_ GE222.out | refine below_set ?_ GE229.out | refine below_set ?_ GE237.out) | exact HB.out)) hb)
            clear HO_223000
            clear HO_230000
            clear HO_238000
            clear HO241
            clear BK207
            clear BK222
            clear BK229
            clear BK237
            clear HB
            have HO_223000 := n0_
            have HO_230000 := n1_
            have HO_238000 := n2_
            have HO241 := n3_
            have BK207 := n4_
            have BK222 := n5_
            have BK229 := n6_
            have BK237 := n7_
            have HB := n8_
            clear n0_ n1_ n2_ n3_ n4_ n5_ n6_ n7_ n8_
            (try clear hb)
            (try clear hb2)
            (try clear hk)
            (try clear hi)
            refine hK.out _ _ ⟨(blk_cell BK229.out 0).trans rfl, (blk_cell BK229.out 1).trans rfl, (blk_cell BK229.out 2).trans rfl, (blk_cell BK229.out 3).trans rfl, (blk_cell BK207.out 0).trans rfl, (blk_cell BK207.out 1).trans rfl, (blk_cell BK207.out 2).trans rfl, (blk_cell BK207.out 3).trans rfl⟩ (fun hHeld => ?_)
            clear hK K
            refine norm_ (a' := ?_) ?_ ?_
            rotate_left
            · show Act.put _ (some 44) _ = _
              simp only [Act.put, List.setIfInBounds_toArray, List.set_cons_zero, List.set_cons_succ, i64_w, i32_w]
              rfl
            refine pure_ (i := 4) (N := some 45) (v := ?_) (a' := ?_) #[true, true, true, true, true] rfl rfl (by kernel_rfl) (fun _ _ _ h => h) (Or.inl ⟨by rfl, ?_⟩) ?_ ?_
            rotate_left
            · intro w'
              go_simp
              with_reducible rfl
            rotate_left
            · simp only [Act.put, List.setIfInBounds_toArray, List.set_cons_zero, List.set_cons_succ, i64_w, i32_w]
              rfl
            refine done_ (by kernel_rfl) ?_
            try go_wp2
            go_ret
            exact ⟨by first | rfl | (simp [errW_none, errW_some] <;> rfl) | (simp [*, errW_none, errW_some] <;> rfl), by repeat (first | (with_reducible first | exact HB.out | apply below_alloc | apply pw_below_drewN | apply below_drew1 | refine below_set ?_ GE207.out | refine below_set ?_ GE222.out | refine below_set ?_ GE229.out | refine below_set ?_ GE237.out) | exact HB.out)⟩

end Go.Proofs.Ythbbcnjnbfhcbaa.PFnExactRestart
