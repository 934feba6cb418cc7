-- Written by a program of this session over the print of the kit (wip/t/patch_print.py).
import Derived.Test.YthbbcnjnbfhcbaaPFnExactNewDiskx0
import Derived.Test.YthbbcnjnbfhcbaaPFnExactNewDiskx1
import Derived.Test.YthbbcnjnbfhcbaaPFnExactNewDiskx2
namespace Go.Proofs.Ythbbcnjnbfhcbaa.PFnExactNewDisk
open Go.RowKit Go.Proofs.YthbbcnjnbfhcbaaW.PrintWords Go.Proofs.YthbbcnjnbfhcbaaW.PrintLast Go.Proofs.YthbbcnjnbfhcbaaW.PrintMore
attribute [local go_sem] max2_int min2_int max_two min_two max_three min_three max_four min_four   -- for this text's walks alone
set_option linter.unusedVariables false
set_option linter.unusedSimpArgs false

/-! ### laws_FnExactNewDisk: function 3 -/
mutual
def laws_FnExactNewDisk.j0 : Nat → Int → Bool → Bool → List (List Int) → Int → Bool → Int → List (List Int) → Int → Bool → Int → Option (Bool)
  | 0, _, _, _, _, _, _, _, _, _, _, _ => none
  | k + 1, x0, x4, x29, x144000, x144001, x144002, x144003, x152000, x152001, x152002, x152003 => if x29 = true then (some false) else ((laws_markDisk.f k x152000 x152001 x152002 x152003 1).bind fun bt153 => ((laws_heldDisk.f k bt153.2 x152001 x152002 x152003 1).bind fun t155 => (if t155 < 0 then (some false) else (if t155 = bt153.1 then ((impl_NewDisk.f k x0).bind fun bt156 => ((laws_eqDisk.f k bt156.1 bt156.2.1 bt156.2.2.1 bt156.2.2.2.1 x144000 x144001 x144002 x144003).bind fun t164 => (if t164 = true then (laws_FnExactNewDisk.j1 k bt153.1 (bt156.2.2.2.2 != x4) bt153.2 x152001 x152002 x152003) else (laws_FnExactNewDisk.j1 k bt153.1 true bt153.2 x152001 x152002 x152003)))) else (some false)))))
def laws_FnExactNewDisk.j1 : Nat → Int → Bool → List (List Int) → Int → Bool → Int → Option (Bool)
  | 0, _, _, _, _, _, _ => none
  | k + 1, x7, x54, x152000, x152001, x152002, x152003 => if x54 = true then (some false) else ((laws_heldDisk.f k x152000 x152001 x152002 x152003 1).bind fun t165 => (if t165 < 0 then (some false) else (if t165 = x7 then (some true) else (some false))))
end
def laws_FnExactNewDisk.f (k : Nat) (a0 : Int) : Option (Bool) := (spec_NewDisk.f k a0).bind fun bt136 => ((impl_NewDisk.f k a0).bind fun bt144 => ((laws_eqDisk.f k bt144.1 bt144.2.1 bt144.2.2.1 bt144.2.2.2.1 bt136.1 bt136.2.1 bt136.2.2.1 bt136.2.2.2.1).bind fun t152 => (if t152 = true then (laws_FnExactNewDisk.j0 k a0 bt136.2.2.2.2 (bt144.2.2.2.2 != bt136.2.2.2.2) bt136.1 bt136.2.1 bt136.2.2.1 bt136.2.2.2.1 bt144.1 bt144.2.1 bt144.2.2.1 bt144.2.2.2.1) else (laws_FnExactNewDisk.j0 k a0 bt136.2.2.2.2 true bt136.1 bt136.2.1 bt136.2.2.1 bt136.2.2.2.1 bt144.1 bt144.2.1 bt144.2.2.1 bt144.2.2.2.1))))
theorem laws_FnExactNewDisk.mono_l : ∀ k, (∀ y0 y1 y2 y3 y4 y5 y6 y7 y8 y9 y10, LeO (laws_FnExactNewDisk.j0 k y0 y1 y2 y3 y4 y5 y6 y7 y8 y9 y10) (laws_FnExactNewDisk.j0 (k + 1) y0 y1 y2 y3 y4 y5 y6 y7 y8 y9 y10)) ∧ (∀ y0 y1 y2 y3 y4 y5, LeO (laws_FnExactNewDisk.j1 k y0 y1 y2 y3 y4 y5) (laws_FnExactNewDisk.j1 (k + 1) y0 y1 y2 y3 y4 y5))
  | 0 => ⟨fun _ _ _ _ _ _ _ _ _ _ _ r h => by simp [laws_FnExactNewDisk.j0] at h, fun _ _ _ _ _ _ r h => by simp [laws_FnExactNewDisk.j1] at h⟩
  | k + 1 => by
    obtain ⟨ih0, ih1⟩ := laws_FnExactNewDisk.mono_l k
    refine ⟨?_, ?_⟩
    · intro y0 y1 y2 y3 y4 y5 y6 y7 y8 y9 y10
      unfold laws_FnExactNewDisk.j0
      repeat' first
      | (with_reducible exact ih0 _ _ _ _ _ _ _ _ _ _ _)
      | (with_reducible exact ih1 _ _ _ _ _ _)
      | (with_reducible exact impl_NewDisk.mono _ _)
      | (with_reducible exact laws_eqDisk.mono _ _ _ _ _ _ _ _ _)
      | (with_reducible exact laws_heldDisk.mono _ _ _ _ _ _)
      | (with_reducible exact laws_markDisk.mono _ _ _ _ _ _)
      | (with_reducible exact spec_NewDisk.mono _ _)
      | (with_reducible exact LeO.refl _)
      | (with_reducible exact LeO.none _)
      | (with_reducible refine LeO.ite ?_ ?_)
      | (with_reducible refine LeO.bind ?_ (fun _ => ?_))
      | exact ih0 _ _ _ _ _ _ _ _ _ _ _
      | exact ih1 _ _ _ _ _ _
      | exact impl_NewDisk.mono _ _
      | exact laws_eqDisk.mono _ _ _ _ _ _ _ _ _
      | exact laws_heldDisk.mono _ _ _ _ _ _
      | exact laws_markDisk.mono _ _ _ _ _ _
      | exact spec_NewDisk.mono _ _
      | exact LeO.none _
      | refine LeO.ite ?_ ?_
      | refine LeO.bind ?_ (fun _ => ?_)
    · intro y0 y1 y2 y3 y4 y5
      unfold laws_FnExactNewDisk.j1
      repeat' first
      | (with_reducible exact ih0 _ _ _ _ _ _ _ _ _ _ _)
      | (with_reducible exact ih1 _ _ _ _ _ _)
      | (with_reducible exact impl_NewDisk.mono _ _)
      | (with_reducible exact laws_eqDisk.mono _ _ _ _ _ _ _ _ _)
      | (with_reducible exact laws_heldDisk.mono _ _ _ _ _ _)
      | (with_reducible exact laws_markDisk.mono _ _ _ _ _ _)
      | (with_reducible exact spec_NewDisk.mono _ _)
      | (with_reducible exact LeO.refl _)
      | (with_reducible exact LeO.none _)
      | (with_reducible refine LeO.ite ?_ ?_)
      | (with_reducible refine LeO.bind ?_ (fun _ => ?_))
      | exact ih0 _ _ _ _ _ _ _ _ _ _ _
      | exact ih1 _ _ _ _ _ _
      | exact impl_NewDisk.mono _ _
      | exact laws_eqDisk.mono _ _ _ _ _ _ _ _ _
      | exact laws_heldDisk.mono _ _ _ _ _ _
      | exact laws_markDisk.mono _ _ _ _ _ _
      | exact spec_NewDisk.mono _ _
      | exact LeO.none _
      | refine LeO.ite ?_ ?_
      | refine LeO.bind ?_ (fun _ => ?_)
theorem laws_FnExactNewDisk.mono : ∀ a0 k, LeO (laws_FnExactNewDisk.f k a0) (laws_FnExactNewDisk.f (k + 1) a0) := by
  intro a0 k
  obtain ⟨ih0, ih1⟩ := laws_FnExactNewDisk.mono_l k
  unfold laws_FnExactNewDisk.f
  repeat' first
      | (with_reducible exact ih0 _ _ _ _ _ _ _ _ _ _ _)
      | (with_reducible exact ih1 _ _ _ _ _ _)
      | (with_reducible exact impl_NewDisk.mono _ _)
      | (with_reducible exact laws_eqDisk.mono _ _ _ _ _ _ _ _ _)
      | (with_reducible exact laws_heldDisk.mono _ _ _ _ _ _)
      | (with_reducible exact laws_markDisk.mono _ _ _ _ _ _)
      | (with_reducible exact spec_NewDisk.mono _ _)
      | (with_reducible exact LeO.refl _)
      | (with_reducible exact LeO.none _)
      | (with_reducible refine LeO.ite ?_ ?_)
      | (with_reducible refine LeO.bind ?_ (fun _ => ?_))
      | exact ih0 _ _ _ _ _ _ _ _ _ _ _
      | exact ih1 _ _ _ _ _ _
      | exact impl_NewDisk.mono _ _
      | exact laws_eqDisk.mono _ _ _ _ _ _ _ _ _
      | exact laws_heldDisk.mono _ _ _ _ _ _
      | exact laws_markDisk.mono _ _ _ _ _ _
      | exact spec_NewDisk.mono _ _
      | exact LeO.none _
      | refine LeO.ite ?_ ?_
      | refine LeO.bind ?_ (fun _ => ?_)
set_option maxHeartbeats 8000000 in
set_option maxRecDepth 100000 in
theorem laws_FnExactNewDisk.calls (k : Nat) (a0 : Int) (r : Bool) (w : World) (h : laws_FnExactNewDisk.f k a0 = some r) :
    Calls Try.prog 3 #[.int .i64 a0] w fun e w' => e = .returned (.bool r) ∧ Below w.heap.size w w' := by
  have hu24 := Try.underlying24
  have HB := Aside0.mk (Below.refl w.heap.size w)
  have H : ((spec_NewDisk.f k a0).bind fun bt136 => ((impl_NewDisk.f k a0).bind fun bt144 => ((laws_eqDisk.f k bt144.1 bt144.2.1 bt144.2.2.1 bt144.2.2.2.1 bt136.1 bt136.2.1 bt136.2.2.1 bt136.2.2.2.1).bind fun t152 => (if t152 = true then (laws_FnExactNewDisk.j0 k a0 bt136.2.2.2.2 (bt144.2.2.2.2 != bt136.2.2.2.2) bt136.1 bt136.2.1 bt136.2.2.1 bt136.2.2.2.1 bt144.1 bt144.2.1 bt144.2.2.1 bt144.2.2.2.1) else (laws_FnExactNewDisk.j0 k a0 bt136.2.2.2.2 true bt136.1 bt136.2.1 bt136.2.2.1 bt136.2.2.2.1 bt144.1 bt144.2.1 bt144.2.2.1 bt144.2.2.2.1))))) = some r := h
  clear h
  replace H := Option.bind_eq_some_iff.mp H
  obtain ⟨⟨t136, t139, t140, t141, t142⟩, A20, H⟩ := H
  replace H : ((impl_NewDisk.f k a0).bind fun bt144 => ((laws_eqDisk.f k bt144.1 bt144.2.1 bt144.2.2.1 bt144.2.2.2.1 t136 t139 t140 t141).bind fun t152 => (if t152 = true then (laws_FnExactNewDisk.j0 k a0 t142 (bt144.2.2.2.2 != t142) t136 t139 t140 t141 bt144.1 bt144.2.1 bt144.2.2.1 bt144.2.2.2.1) else (laws_FnExactNewDisk.j0 k a0 t142 true t136 t139 t140 t141 bt144.1 bt144.2.1 bt144.2.2.1 bt144.2.2.2.1)))) = some r := H
  have A2 := Aside0.mk A20
  clear A20
  replace H := Option.bind_eq_some_iff.mp H
  obtain ⟨⟨t144, t147, t148, t149, t150⟩, A30, H⟩ := H
  replace H : ((laws_eqDisk.f k t144 t147 t148 t149 t136 t139 t140 t141).bind fun t152 => (if t152 = true then (laws_FnExactNewDisk.j0 k a0 t142 (t150 != t142) t136 t139 t140 t141 t144 t147 t148 t149) else (laws_FnExactNewDisk.j0 k a0 t142 true t136 t139 t140 t141 t144 t147 t148 t149))) = some r := H
  have A3 := Aside0.mk A30
  clear A30
  have HC4 := Aside0.mk H
  clear H
  go_enter Try.func3, Try.ntmps3
  go_upto_region 3 with (first | ((with_reducible refine gate_callee (f := 11) rfl ?_); refine goesL_ (some 13) rfl rfl Try.func11 (by kernel_rfl) rfl #[.int .i64 a0] rfl (by (try simp only [List.map_toArray, List.map_cons, List.map_nil]); first | done | rfl | (simp only [List.length_drop, List.length_take]; rfl)) ?_; (with_reducible refine (spec_NewDisk.calls k a0 t136 t139 t140 t141 t142 _ A2.out).mono ?_); rintro e w5 ⟨v137, rfl, ho0, hb⟩; refine ⟨_, rfl, ?_⟩; have n0_ := Aside0.mk (Kd.S_lower (Kd.S_mono (Kd.S_bound ho0) (fun k_ h_ => (⟨h_.1, (by first | exact h_.2.1 | simpa only [World.size_setCell] using h_.2.1)⟩ : _ ∧ w.heap.size ≤ k_))) (below_size (by repeat (first | (with_reducible first | exact HB.out | apply below_alloc | apply pw_below_drewN | apply below_drew1) | exact HB.out)))); have n1_ := Aside0.mk (below_step (by repeat (first | (with_reducible first | exact HB.out | apply below_alloc | apply pw_below_drewN | apply below_drew1) | exact HB.out)) hb); clear HB; have HO138 := n0_; have HB := n1_; clear n0_ n1_; (try clear hb); (try clear hb2); (try clear hk); (try clear hi); (try clear ho0)) | ((with_reducible refine gate_dst (N := 3) rfl ?_); refine box_event ?hg (N := 3) ?hd (cs := #[.slice none 0 0, .int .i64 0, .bool false, .int .i64 0]) (t := 24) ?hr ?_; (case hd => rfl); (case hg => rfl); (case hr => first | (go_simp; done) | (go_simp; rfl)); intro gb143 hg w6 hbox hb; have n0_ := Aside0.mk (Kd.S_below (by (with_reducible repeat (first | apply Kd.S_alloc | apply Kd.S_drewN | apply Kd.S_drew)); exact HO138.out) hb); have n1_ := Aside0.mk (below_step (by repeat (first | (with_reducible first | exact HB.out | apply below_alloc | apply pw_below_drewN | apply below_drew1) | exact HB.out)) hb); have n2_ := Aside0.mk (hbox); have n3_ := Aside0.mk ((by rw [hg]; exact (below_size (by repeat (first | (with_reducible first | exact HB.out | apply below_alloc | apply pw_below_drewN | apply below_drew1) | exact HB.out))) : w.heap.size ≤ gb143)); have n4_ := Aside0.mk ((by rw [hg]; exact (below_size (by repeat (first | (with_reducible first | exact HB.out | apply below_alloc | apply pw_below_drewN | apply below_drew1) | exact HB.out))) : w.heap.size ≤ gb143)); clear HO138; clear HB; have HO138 := n0_; have HB := n1_; have BK143 := n2_; have GW143 := n3_; have GE143 := n4_; clear n0_ n1_ n2_ n3_ n4_; clear hb hbox hg; obtain ⟨Ao7, co7, eo7⟩ := Kd.S_slice HO138.out; subst eo7; have hcz8_0 : w6.cell? ⟨gb143, 0, none⟩ = some (.slice none 0 0) := (blk_cell BK143.out 0).trans rfl; have hcz8_1 : w6.cell? ⟨gb143, 1, none⟩ = some (.int .i64 0) := (blk_cell BK143.out 1).trans rfl; have hcz8_2 : w6.cell? ⟨gb143, 2, none⟩ = some (.bool false) := (blk_cell BK143.out 2).trans rfl; have hcz8_3 : w6.cell? ⟨gb143, 3, none⟩ = some (.int .i64 0) := (blk_cell BK143.out 3).trans rfl; have hfz8_0 := blk_frozen BK143.out 0; have hfz8_1 := blk_frozen BK143.out 1; have hfz8_2 := blk_frozen BK143.out 2; have hfz8_3 := blk_frozen BK143.out 3) | ((with_reducible refine gate_callee (f := 12) rfl ?_); refine goesL_ (some 18) rfl rfl Try.func12 (by kernel_rfl) rfl #[.int .i64 a0] rfl (by (try simp only [List.map_toArray, List.map_cons, List.map_nil]); first | done | rfl | (simp only [List.length_drop, List.length_take]; rfl)) ?_; (with_reducible refine (impl_NewDisk.calls k a0 t144 t147 t148 t149 t150 _ A3.out).mono ?_); rintro e w9 ⟨v145, rfl, ho0, hb⟩; refine ⟨_, rfl, ?_⟩; have n0_ := Aside0.mk (Kd.S_mono (Kd.S_told (Kd.S_old (by (with_reducible repeat (first | apply Kd.S_alloc | apply Kd.S_drewN | apply Kd.S_drew)); exact (Kd.S_mono (Kd.S_far (p := ⟨gb143, 3, none⟩) (Kd.S_far (p := ⟨gb143, 2, none⟩) (Kd.S_far (p := ⟨gb143, 1, none⟩) (Kd.S_far (p := ⟨gb143, 0, none⟩) (Kd.S_types HO138.out BK143.out (by decide)) (fun _ hk => hk.2) (.slice Ao7 t136.length co7)) (fun _ hk => hk.2) (.int .i64 t139)) (fun _ hk => hk.2) (.bool t140)) (fun _ hk => hk.2) (.int .i64 t141)) (fun _ h_ => h_.1))) hb) (Kd.S_base ho0)) (fun k_ h_ => (⟨h_.1, (by first | exact h_.2 | simpa only [World.size_setCell] using h_.2)⟩ : _ ∧ k_ < w6.heap.size))); have n1_ := Aside0.mk (Kd.S_lower (Kd.S_new' (Kd.S_mono (Kd.S_bound ho0) (fun k_ h_ => (⟨h_.1, (by first | exact h_.2.1 | simpa only [World.size_setCell] using h_.2.1)⟩ : _ ∧ w6.heap.size ≤ k_))) (Kd.S_lt (by (with_reducible repeat (first | apply Kd.S_alloc | apply Kd.S_drewN | apply Kd.S_drew)); exact (Kd.S_mono (Kd.S_far (p := ⟨gb143, 3, none⟩) (Kd.S_far (p := ⟨gb143, 2, none⟩) (Kd.S_far (p := ⟨gb143, 1, none⟩) (Kd.S_far (p := ⟨gb143, 0, none⟩) (Kd.S_types HO138.out BK143.out (by decide)) (fun _ hk => hk.2) (.slice Ao7 t136.length co7)) (fun _ hk => hk.2) (.int .i64 t139)) (fun _ hk => hk.2) (.bool t140)) (fun _ hk => hk.2) (.int .i64 t141)) (fun _ h_ => h_.1))))) (below_size (by repeat (first | (with_reducible first | exact HB.out | apply below_alloc | apply pw_below_drewN | apply below_drew1 | refine below_set ?_ GE143.out) | exact HB.out)))); have n2_ := Aside0.mk (blk_below (g := gb143) (o := .cells #[.slice Ao7 t136.length co7, .int .i64 t139, .bool t140, .int .i64 t141] 24 (0, 0)) (by (with_reducible repeat (first | refine blk_drewN ?_ _ | refine blk_drew ?_ | refine blk_alloc ?_ _)); refine blk_put (cs := #[.slice Ao7 t136.length co7, .int .i64 t139, .bool t140, .int .i64 0]) ?_ 3 _ rfl; (with_reducible repeat (first | refine blk_drewN ?_ _ | refine blk_drew ?_ | refine blk_alloc ?_ _)); refine blk_put (cs := #[.slice Ao7 t136.length co7, .int .i64 t139, .bool false, .int .i64 0]) ?_ 2 _ rfl; (with_reducible repeat (first | refine blk_drewN ?_ _ | refine blk_drew ?_ | refine blk_alloc ?_ _)); refine blk_put (cs := #[.slice Ao7 t136.length co7, .int .i64 0, .bool false, .int .i64 0]) ?_ 1 _ rfl; (with_reducible repeat (first | refine blk_drewN ?_ _ | refine blk_drew ?_ | refine blk_alloc ?_ _)); refine blk_put (cs := #[.slice none 0 0, .int .i64 0, .bool false, .int .i64 0]) ?_ 0 _ rfl; (with_reducible repeat (first | refine blk_drewN ?_ _ | refine blk_drew ?_ | refine blk_alloc ?_ _)); exact BK143.out) hb); have n3_ := Aside0.mk (below_step (by repeat (first | (with_reducible first | exact HB.out | apply below_alloc | apply pw_below_drewN | apply below_drew1 | refine below_set ?_ GE143.out) | exact HB.out)) hb); clear HO138; clear BK143; clear HB; have HO138 := n0_; have HO146 := n1_; have BK143 := n2_; have HB := n3_; clear n0_ n1_ n2_ n3_; (try clear hb); (try clear hb2); (try clear hk); (try clear hi); (try clear ho0)) | ((with_reducible refine gate_dst (N := 5) rfl ?_); refine box_event ?hg (N := 5) ?hd (cs := #[.slice none 0 0, .int .i64 0, .bool false, .int .i64 0]) (t := 24) ?hr ?_; (case hd => rfl); (case hg => rfl); (case hr => first | (go_simp; done) | (go_simp; rfl)); intro gb151 hg w10 hbox hb; have n0_ := Aside0.mk (Kd.S_below (by (with_reducible repeat (first | apply Kd.S_alloc | apply Kd.S_drewN | apply Kd.S_drew)); exact HO138.out) hb); have n1_ := Aside0.mk (Kd.S_below (by (with_reducible repeat (first | apply Kd.S_alloc | apply Kd.S_drewN | apply Kd.S_drew)); exact HO146.out) hb); have n2_ := Aside0.mk (blk_below (g := gb143) (o := .cells #[.slice Ao7 t136.length co7, .int .i64 t139, .bool t140, .int .i64 t141] 24 (0, 0)) (by (with_reducible repeat (first | refine blk_drewN ?_ _ | refine blk_drew ?_ | refine blk_alloc ?_ _)); exact BK143.out) hb); have n3_ := Aside0.mk (below_step (by repeat (first | (with_reducible first | exact HB.out | apply below_alloc | apply pw_below_drewN | apply below_drew1 | refine below_set ?_ GE143.out) | exact HB.out)) hb); have n4_ := Aside0.mk (hbox); have n5_ := Aside0.mk ((by rw [hg]; exact (below_size (by repeat (first | (with_reducible first | exact HB.out | apply below_alloc | apply pw_below_drewN | apply below_drew1 | refine below_set ?_ GE143.out) | exact HB.out))) : w.heap.size ≤ gb151)); have n6_ := Aside0.mk ((by rw [hg]; exact (below_size (by repeat (first | (with_reducible first | exact HB.out | apply below_alloc | apply pw_below_drewN | apply below_drew1 | refine below_set ?_ GE143.out) | exact HB.out))) : w.heap.size ≤ gb151)); have n7_ := Aside0.mk ((by rw [hg]; exact Nat.ne_of_lt (blk_lt (g := gb143) (o := .cells #[.slice Ao7 t136.length co7, .int .i64 t139, .bool t140, .int .i64 t141] 24 (0, 0)) (by (with_reducible repeat (first | refine blk_drewN ?_ _ | refine blk_drew ?_ | refine blk_alloc ?_ _)); exact BK143.out)) : gb143 ≠ gb151)); have n8_ := Aside0.mk ((by rw [hg]; exact Nat.ne_of_gt (blk_lt (g := gb143) (o := .cells #[.slice Ao7 t136.length co7, .int .i64 t139, .bool t140, .int .i64 t141] 24 (0, 0)) (by (with_reducible repeat (first | refine blk_drewN ?_ _ | refine blk_drew ?_ | refine blk_alloc ?_ _)); exact BK143.out)) : gb151 ≠ gb143)); clear HO138; clear HO146; clear BK143; clear HB; have HO138 := n0_; have HO146 := n1_; have BK143 := n2_; have HB := n3_; have BK151 := n4_; have GW151 := n5_; have GE151 := n6_; have NB143_151 := n7_; have NB151_143 := n8_; clear n0_ n1_ n2_ n3_ n4_ n5_ n6_ n7_ n8_; clear hb hbox hg; obtain ⟨Ao11, co11, eo11⟩ := Kd.S_slice HO146.out; subst eo11; have hnb12 := NB151_143.out; have hnc12 := NB143_151.out; have hcz13_0 : w10.cell? ⟨gb151, 0, none⟩ = some (.slice none 0 0) := (blk_cell BK151.out 0).trans rfl; have hcz13_1 : w10.cell? ⟨gb151, 1, none⟩ = some (.int .i64 0) := (blk_cell BK151.out 1).trans rfl; have hcz13_2 : w10.cell? ⟨gb151, 2, none⟩ = some (.bool false) := (blk_cell BK151.out 2).trans rfl; have hcz13_3 : w10.cell? ⟨gb151, 3, none⟩ = some (.int .i64 0) := (blk_cell BK151.out 3).trans rfl; have hfz13_0 := blk_frozen BK151.out 0; have hfz13_1 := blk_frozen BK151.out 1; have hfz13_2 := blk_frozen BK151.out 2; have hfz13_3 := blk_frozen BK151.out 3))
  (try simp only [Act.put, List.setIfInBounds_toArray, List.set_cons_zero, List.set_cons_succ])
  go_cut [29] (fun v29 wc => ∃ (kq : Nat) (x29_3 : Bool), v29 = .bool x29_3 ∧ Aside0 (laws_FnExactNewDisk.j0 kq a0 t142 x29_3 t136 t139 t140 t141 t144 t147 t148 t149 = some r) ∧ Aside0 (kq ≤ k) ∧ Aside0 (Kd.S (Kd.slice 5 (Kd.int .u8)) 35 wc w.heap.size (fun k_ => some k_ ≠ ((.slice Ao11 t144.length co11) : Value).ownBlock ∧ w.heap.size ≤ k_ ∧ k_ < w6.heap.size) (.slice Ao7 t136.length co7) t136) ∧ Aside0 (Kd.S (Kd.slice 5 (Kd.int .u8)) 35 wc w.heap.size (fun k_ => some k_ ≠ ((.slice Ao7 t136.length co7) : Value).ownBlock ∧ w6.heap.size ≤ k_) (.slice Ao11 t144.length co11) t144) ∧ Aside0 (wc.heap[gb143]? = some (.cells #[(.slice Ao7 t136.length co7), .int .i64 t139, .bool t140, .int .i64 t141] 24 (0, 0))) ∧ Aside0 (wc.heap[gb151]? = some (.cells #[(.slice Ao11 t144.length co11), .int .i64 t147, .bool t148, .int .i64 t149] 24 (0, 0))) ∧ Aside0 (Below w.heap.size w wc))
  case first =>
    have H := HC4.out
    clear HC4
    replace H := Option.bind_eq_some_iff.mp H
    obtain ⟨t152, A140, H⟩ := H
    replace H : (if t152 = true then (laws_FnExactNewDisk.j0 k a0 t142 (t150 != t142) t136 t139 t140 t141 t144 t147 t148 t149) else (laws_FnExactNewDisk.j0 k a0 t142 true t136 t139 t140 t141 t144 t147 t148 t149)) = some r := H
    have A14 := Aside0.mk A140
    clear A140
    by_cases c15 : t152 = true
    · subst c15
      have H1 : (laws_FnExactNewDisk.j0 k a0 t142 (t150 != t142) t136 t139 t140 t141 t144 t147 t148 t149) = some r := by rw [if_pos rfl] at H; exact H
      clear H
      have H := H1
      clear H1
      have H' := Aside0.mk H
      clear H
      have hnb16 := NB151_143.out
      have hnc16 := NB143_151.out
      have hcz17_0 : w10.cell? ⟨gb151, 0, none⟩ = some (.slice none 0 0) := (blk_cell BK151.out 0).trans rfl
      have hcz17_1 : w10.cell? ⟨gb151, 1, none⟩ = some (.int .i64 0) := (blk_cell BK151.out 1).trans rfl
      have hcz17_2 : w10.cell? ⟨gb151, 2, none⟩ = some (.bool false) := (blk_cell BK151.out 2).trans rfl
      have hcz17_3 : w10.cell? ⟨gb151, 3, none⟩ = some (.int .i64 0) := (blk_cell BK151.out 3).trans rfl
      have hfz17_0 := blk_frozen BK151.out 0
      have hfz17_1 := blk_frozen BK151.out 1
      have hfz17_2 := blk_frozen BK151.out 2
      have hfz17_3 := blk_frozen BK151.out 3
      have hcz18_0 : w10.cell? ⟨gb143, 0, none⟩ = some (.slice Ao7 t136.length co7) := (blk_cell BK143.out 0).trans rfl
      have hcz18_1 : w10.cell? ⟨gb143, 1, none⟩ = some (.int .i64 t139) := (blk_cell BK143.out 1).trans rfl
      have hcz18_2 : w10.cell? ⟨gb143, 2, none⟩ = some (.bool t140) := (blk_cell BK143.out 2).trans rfl
      have hcz18_3 : w10.cell? ⟨gb143, 3, none⟩ = some (.int .i64 t141) := (blk_cell BK143.out 3).trans rfl
      have hfz18_0 := blk_frozen BK143.out 0
      have hfz18_1 := blk_frozen BK143.out 1
      have hfz18_2 := blk_frozen BK143.out 2
      have hfz18_3 := blk_frozen BK143.out 3
      go_wp2_with (first | ((with_reducible refine gate_callee (f := 13) rfl ?_); refine goesL_ (some 23) rfl rfl Try.func13 (by kernel_rfl) rfl #[.agg #[.slice Ao11 t144.length co11, .int .i64 t147, .bool t148, .int .i64 t149], .agg #[.slice Ao7 t136.length co7, .int .i64 t139, .bool t140, .int .i64 t141]] rfl (by (try simp only [List.map_toArray, List.map_cons, List.map_nil]); first | done | rfl | (simp only [List.length_drop, List.length_take]; rfl)) ?_; (with_reducible refine (laws_eqDisk.calls k _ _ t144 t147 t148 t149 _ _ t136 t139 t140 t141 true _ ?side1 ?side2 ?side3 ?side4 A14.out).mono ?_); (case side1 => refine (Kd.S_reads' (e := 35) (base := w.heap.size) (ok := fun k_ => ((True ∧ w6.heap.size ≤ k_) ∧ some k_ ≠ (.slice Ao7 t136.length co7 : Value).ownBlock)) (n := t144.length) (c := co11) ?_).2.2; exact (by (with_reducible repeat (first | apply Kd.S_alloc | apply Kd.S_drewN | apply Kd.S_drew)); exact (Kd.S_mono (Kd.S_far (p := ⟨gb151, 3, none⟩) (Kd.S_far (p := ⟨gb151, 2, none⟩) (Kd.S_far (p := ⟨gb151, 1, none⟩) (Kd.S_far (p := ⟨gb151, 0, none⟩) (Kd.S_types HO146.out BK151.out (by decide)) (fun _ hk => hk.2) (.slice Ao11 t144.length co11)) (fun _ hk => hk.2) (.int .i64 t147)) (fun _ hk => hk.2) (.bool t148)) (fun _ hk => hk.2) (.int .i64 t149)) (fun _ h_ => h_.1)))); (case side2 => exact (Kd.S_reads' HO146.out).2.1); (case side3 => refine (Kd.S_reads' (e := 35) (base := w.heap.size) (ok := fun k_ => (((True ∧ w.heap.size ≤ k_) ∧ some k_ ≠ (.slice Ao11 t144.length co11 : Value).ownBlock) ∧ k_ < w6.heap.size)) (n := t136.length) (c := co7) ?_).2.2; exact (by (with_reducible repeat (first | apply Kd.S_alloc | apply Kd.S_drewN | apply Kd.S_drew)); exact (Kd.S_mono (Kd.S_far (p := ⟨gb151, 3, none⟩) (Kd.S_far (p := ⟨gb151, 2, none⟩) (Kd.S_far (p := ⟨gb151, 1, none⟩) (Kd.S_far (p := ⟨gb151, 0, none⟩) (Kd.S_types HO138.out BK151.out (by decide)) (fun _ hk => hk.2) (.slice Ao11 t144.length co11)) (fun _ hk => hk.2) (.int .i64 t147)) (fun _ hk => hk.2) (.bool t148)) (fun _ hk => hk.2) (.int .i64 t149)) (fun _ h_ => h_.1)))); (case side4 => exact (Kd.S_reads' HO138.out).2.1); rintro e w19 ⟨rfl, hb⟩; refine ⟨_, rfl, ?_⟩; have n0_ := Aside0.mk (Kd.S_below (by (with_reducible repeat (first | apply Kd.S_alloc | apply Kd.S_drewN | apply Kd.S_drew)); exact (Kd.S_mono (Kd.S_far (p := ⟨gb151, 3, none⟩) (Kd.S_far (p := ⟨gb151, 2, none⟩) (Kd.S_far (p := ⟨gb151, 1, none⟩) (Kd.S_far (p := ⟨gb151, 0, none⟩) (Kd.S_types HO138.out BK151.out (by decide)) (fun _ hk => hk.2) (.slice Ao11 t144.length co11)) (fun _ hk => hk.2) (.int .i64 t147)) (fun _ hk => hk.2) (.bool t148)) (fun _ hk => hk.2) (.int .i64 t149)) (fun _ h_ => h_.1))) hb); have n1_ := Aside0.mk (Kd.S_below (by (with_reducible repeat (first | apply Kd.S_alloc | apply Kd.S_drewN | apply Kd.S_drew)); exact (Kd.S_mono (Kd.S_far (p := ⟨gb151, 3, none⟩) (Kd.S_far (p := ⟨gb151, 2, none⟩) (Kd.S_far (p := ⟨gb151, 1, none⟩) (Kd.S_far (p := ⟨gb151, 0, none⟩) (Kd.S_types HO146.out BK151.out (by decide)) (fun _ hk => hk.2) (.slice Ao11 t144.length co11)) (fun _ hk => hk.2) (.int .i64 t147)) (fun _ hk => hk.2) (.bool t148)) (fun _ hk => hk.2) (.int .i64 t149)) (fun _ h_ => h_.1))) hb); have n2_ := Aside0.mk (blk_below (g := gb143) (o := .cells #[.slice Ao7 t136.length co7, .int .i64 t139, .bool t140, .int .i64 t141] 24 (0, 0)) (by (with_reducible repeat (first | refine blk_drewN ?_ _ | refine blk_drew ?_ | refine blk_alloc ?_ _)); refine blk_far ?_ NB143_151.out _; (with_reducible repeat (first | refine blk_drewN ?_ _ | refine blk_drew ?_ | refine blk_alloc ?_ _)); refine blk_far ?_ NB143_151.out _; (with_reducible repeat (first | refine blk_drewN ?_ _ | refine blk_drew ?_ | refine blk_alloc ?_ _)); refine blk_far ?_ NB143_151.out _; (with_reducible repeat (first | refine blk_drewN ?_ _ | refine blk_drew ?_ | refine blk_alloc ?_ _)); refine blk_far ?_ NB143_151.out _; (with_reducible repeat (first | refine blk_drewN ?_ _ | refine blk_drew ?_ | refine blk_alloc ?_ _)); exact BK143.out) hb); have n3_ := Aside0.mk (blk_below (g := gb151) (o := .cells #[.slice Ao11 t144.length co11, .int .i64 t147, .bool t148, .int .i64 t149] 24 (0, 0)) (by (with_reducible repeat (first | refine blk_drewN ?_ _ | refine blk_drew ?_ | refine blk_alloc ?_ _)); refine blk_put (cs := #[.slice Ao11 t144.length co11, .int .i64 t147, .bool t148, .int .i64 0]) ?_ 3 _ rfl; (with_reducible repeat (first | refine blk_drewN ?_ _ | refine blk_drew ?_ | refine blk_alloc ?_ _)); refine blk_put (cs := #[.slice Ao11 t144.length co11, .int .i64 t147, .bool false, .int .i64 0]) ?_ 2 _ rfl; (with_reducible repeat (first | refine blk_drewN ?_ _ | refine blk_drew ?_ | refine blk_alloc ?_ _)); refine blk_put (cs := #[.slice Ao11 t144.length co11, .int .i64 0, .bool false, .int .i64 0]) ?_ 1 _ rfl; (with_reducible repeat (first | refine blk_drewN ?_ _ | refine blk_drew ?_ | refine blk_alloc ?_ _)); refine blk_put (cs := #[.slice none 0 0, .int .i64 0, .bool false, .int .i64 0]) ?_ 0 _ rfl; (with_reducible repeat (first | refine blk_drewN ?_ _ | refine blk_drew ?_ | refine blk_alloc ?_ _)); exact BK151.out) hb); have n4_ := Aside0.mk (below_step (by repeat (first | (with_reducible first | exact HB.out | apply below_alloc | apply pw_below_drewN | apply below_drew1 | refine below_set ?_ GE143.out | refine below_set ?_ GE151.out) | exact HB.out)) hb); clear HO138; clear HO146; clear BK143; clear BK151; clear HB; have HO138 := n0_; have HO146 := n1_; have BK143 := n2_; have BK151 := n3_; have HB := n4_; clear n0_ n1_ n2_ n3_ n4_; (try clear hb); (try clear hb2); (try clear hk); (try clear hi)))
      go_meet
      case rel => exact ⟨_, ((t150 != t142)), (by first | rfl | (simp; done) | (simp [*]; done)), H', ⟨by first | omega | exact Nat.le_refl _⟩, ⟨by (with_reducible repeat (first | apply Kd.S_alloc | apply Kd.S_drewN | apply Kd.S_drew)); exact Kd.S_mono HO138.out (fun _ hk => ⟨hk.1.2, ⟨hk.1.1.2, hk.2⟩⟩)⟩, ⟨by (with_reducible repeat (first | apply Kd.S_alloc | apply Kd.S_drewN | apply Kd.S_drew)); exact Kd.S_mono HO146.out (fun _ hk => ⟨hk.2, hk.1.2⟩)⟩, ⟨by (with_reducible repeat (first | refine blk_drewN ?_ _ | refine blk_drew ?_ | refine blk_alloc ?_ _)); exact BK143.out⟩, ⟨by (with_reducible repeat (first | refine blk_drewN ?_ _ | refine blk_drew ?_ | refine blk_alloc ?_ _)); exact BK151.out⟩, ⟨by repeat (first | (with_reducible first | exact HB.out | apply below_alloc | apply pw_below_drewN | apply below_drew1 | refine below_set ?_ GE143.out | refine below_set ?_ GE151.out) | exact HB.out)⟩⟩
    · replace c15 := Bool.eq_false_iff.mpr c15
      subst c15
      have H1 : (laws_FnExactNewDisk.j0 k a0 t142 true t136 t139 t140 t141 t144 t147 t148 t149) = some r := by rw [if_neg (show ¬ (false = true) by decide)] at H; exact H
      clear H
      have H := H1
      clear H1
      have H' := Aside0.mk H
      clear H
      have hnb20 := NB151_143.out
      have hnc20 := NB143_151.out
      have hcz21_0 : w10.cell? ⟨gb151, 0, none⟩ = some (.slice none 0 0) := (blk_cell BK151.out 0).trans rfl
      have hcz21_1 : w10.cell? ⟨gb151, 1, none⟩ = some (.int .i64 0) := (blk_cell BK151.out 1).trans rfl
      have hcz21_2 : w10.cell? ⟨gb151, 2, none⟩ = some (.bool false) := (blk_cell BK151.out 2).trans rfl
      have hcz21_3 : w10.cell? ⟨gb151, 3, none⟩ = some (.int .i64 0) := (blk_cell BK151.out 3).trans rfl
      have hfz21_0 := blk_frozen BK151.out 0
      have hfz21_1 := blk_frozen BK151.out 1
      have hfz21_2 := blk_frozen BK151.out 2
      have hfz21_3 := blk_frozen BK151.out 3
      have hcz22_0 : w10.cell? ⟨gb143, 0, none⟩ = some (.slice Ao7 t136.length co7) := (blk_cell BK143.out 0).trans rfl
      have hcz22_1 : w10.cell? ⟨gb143, 1, none⟩ = some (.int .i64 t139) := (blk_cell BK143.out 1).trans rfl
      have hcz22_2 : w10.cell? ⟨gb143, 2, none⟩ = some (.bool t140) := (blk_cell BK143.out 2).trans rfl
      have hcz22_3 : w10.cell? ⟨gb143, 3, none⟩ = some (.int .i64 t141) := (blk_cell BK143.out 3).trans rfl
      have hfz22_0 := blk_frozen BK143.out 0
      have hfz22_1 := blk_frozen BK143.out 1
      have hfz22_2 := blk_frozen BK143.out 2
      have hfz22_3 := blk_frozen BK143.out 3
      go_wp2_with (first | ((with_reducible refine gate_callee (f := 13) rfl ?_); refine goesL_ (some 23) rfl rfl Try.func13 (by kernel_rfl) rfl #[.agg #[.slice Ao11 t144.length co11, .int .i64 t147, .bool t148, .int .i64 t149], .agg #[.slice Ao7 t136.length co7, .int .i64 t139, .bool t140, .int .i64 t141]] rfl (by (try simp only [List.map_toArray, List.map_cons, List.map_nil]); first | done | rfl | (simp only [List.length_drop, List.length_take]; rfl)) ?_; (with_reducible refine (laws_eqDisk.calls k _ _ t144 t147 t148 t149 _ _ t136 t139 t140 t141 false _ ?side1 ?side2 ?side3 ?side4 A14.out).mono ?_); (case side1 => refine (Kd.S_reads' (e := 35) (base := w.heap.size) (ok := fun k_ => ((True ∧ w6.heap.size ≤ k_) ∧ some k_ ≠ (.slice Ao7 t136.length co7 : Value).ownBlock)) (n := t144.length) (c := co11) ?_).2.2; exact (by (with_reducible repeat (first | apply Kd.S_alloc | apply Kd.S_drewN | apply Kd.S_drew)); exact (Kd.S_mono (Kd.S_far (p := ⟨gb151, 3, none⟩) (Kd.S_far (p := ⟨gb151, 2, none⟩) (Kd.S_far (p := ⟨gb151, 1, none⟩) (Kd.S_far (p := ⟨gb151, 0, none⟩) (Kd.S_types HO146.out BK151.out (by decide)) (fun _ hk => hk.2) (.slice Ao11 t144.length co11)) (fun _ hk => hk.2) (.int .i64 t147)) (fun _ hk => hk.2) (.bool t148)) (fun _ hk => hk.2) (.int .i64 t149)) (fun _ h_ => h_.1)))); (case side2 => exact (Kd.S_reads' HO146.out).2.1); (case side3 => refine (Kd.S_reads' (e := 35) (base := w.heap.size) (ok := fun k_ => (((True ∧ w.heap.size ≤ k_) ∧ some k_ ≠ (.slice Ao11 t144.length co11 : Value).ownBlock) ∧ k_ < w6.heap.size)) (n := t136.length) (c := co7) ?_).2.2; exact (by (with_reducible repeat (first | apply Kd.S_alloc | apply Kd.S_drewN | apply Kd.S_drew)); exact (Kd.S_mono (Kd.S_far (p := ⟨gb151, 3, none⟩) (Kd.S_far (p := ⟨gb151, 2, none⟩) (Kd.S_far (p := ⟨gb151, 1, none⟩) (Kd.S_far (p := ⟨gb151, 0, none⟩) (Kd.S_types HO138.out BK151.out (by decide)) (fun _ hk => hk.2) (.slice Ao11 t144.length co11)) (fun _ hk => hk.2) (.int .i64 t147)) (fun _ hk => hk.2) (.bool t148)) (fun _ hk => hk.2) (.int .i64 t149)) (fun _ h_ => h_.1)))); (case side4 => exact (Kd.S_reads' HO138.out).2.1); rintro e w23 ⟨rfl, hb⟩; refine ⟨_, rfl, ?_⟩; have n0_ := Aside0.mk (Kd.S_below (by (with_reducible repeat (first | apply Kd.S_alloc | apply Kd.S_drewN | apply Kd.S_drew)); exact (Kd.S_mono (Kd.S_far (p := ⟨gb151, 3, none⟩) (Kd.S_far (p := ⟨gb151, 2, none⟩) (Kd.S_far (p := ⟨gb151, 1, none⟩) (Kd.S_far (p := ⟨gb151, 0, none⟩) (Kd.S_types HO138.out BK151.out (by decide)) (fun _ hk => hk.2) (.slice Ao11 t144.length co11)) (fun _ hk => hk.2) (.int .i64 t147)) (fun _ hk => hk.2) (.bool t148)) (fun _ hk => hk.2) (.int .i64 t149)) (fun _ h_ => h_.1))) hb); have n1_ := Aside0.mk (Kd.S_below (by (with_reducible repeat (first | apply Kd.S_alloc | apply Kd.S_drewN | apply Kd.S_drew)); exact (Kd.S_mono (Kd.S_far (p := ⟨gb151, 3, none⟩) (Kd.S_far (p := ⟨gb151, 2, none⟩) (Kd.S_far (p := ⟨gb151, 1, none⟩) (Kd.S_far (p := ⟨gb151, 0, none⟩) (Kd.S_types HO146.out BK151.out (by decide)) (fun _ hk => hk.2) (.slice Ao11 t144.length co11)) (fun _ hk => hk.2) (.int .i64 t147)) (fun _ hk => hk.2) (.bool t148)) (fun _ hk => hk.2) (.int .i64 t149)) (fun _ h_ => h_.1))) hb); have n2_ := Aside0.mk (blk_below (g := gb143) (o := .cells #[.slice Ao7 t136.length co7, .int .i64 t139, .bool t140, .int .i64 t141] 24 (0, 0)) (by (with_reducible repeat (first | refine blk_drewN ?_ _ | refine blk_drew ?_ | refine blk_alloc ?_ _)); refine blk_far ?_ NB143_151.out _; (with_reducible repeat (first | refine blk_drewN ?_ _ | refine blk_drew ?_ | refine blk_alloc ?_ _)); refine blk_far ?_ NB143_151.out _; (with_reducible repeat (first | refine blk_drewN ?_ _ | refine blk_drew ?_ | refine blk_alloc ?_ _)); refine blk_far ?_ NB143_151.out _; (with_reducible repeat (first | refine blk_drewN ?_ _ | refine blk_drew ?_ | refine blk_alloc ?_ _)); refine blk_far ?_ NB143_151.out _; (with_reducible repeat (first | refine blk_drewN ?_ _ | refine blk_drew ?_ | refine blk_alloc ?_ _)); exact BK143.out) hb); have n3_ := Aside0.mk (blk_below (g := gb151) (o := .cells #[.slice Ao11 t144.length co11, .int .i64 t147, .bool t148, .int .i64 t149] 24 (0, 0)) (by (with_reducible repeat (first | refine blk_drewN ?_ _ | refine blk_drew ?_ | refine blk_alloc ?_ _)); refine blk_put (cs := #[.slice Ao11 t144.length co11, .int .i64 t147, .bool t148, .int .i64 0]) ?_ 3 _ rfl; (with_reducible repeat (first | refine blk_drewN ?_ _ | refine blk_drew ?_ | refine blk_alloc ?_ _)); refine blk_put (cs := #[.slice Ao11 t144.length co11, .int .i64 t147, .bool false, .int .i64 0]) ?_ 2 _ rfl; (with_reducible repeat (first | refine blk_drewN ?_ _ | refine blk_drew ?_ | refine blk_alloc ?_ _)); refine blk_put (cs := #[.slice Ao11 t144.length co11, .int .i64 0, .bool false, .int .i64 0]) ?_ 1 _ rfl; (with_reducible repeat (first | refine blk_drewN ?_ _ | refine blk_drew ?_ | refine blk_alloc ?_ _)); refine blk_put (cs := #[.slice none 0 0, .int .i64 0, .bool false, .int .i64 0]) ?_ 0 _ rfl; (with_reducible repeat (first | refine blk_drewN ?_ _ | refine blk_drew ?_ | refine blk_alloc ?_ _)); exact BK151.out) hb); have n4_ := Aside0.mk (below_step (by repeat (first | (with_reducible first | exact HB.out | apply below_alloc | apply pw_below_drewN | apply below_drew1 | refine below_set ?_ GE143.out | refine below_set ?_ GE151.out) | exact HB.out)) hb); clear HO138; clear HO146; clear BK143; clear BK151; clear HB; have HO138 := n0_; have HO146 := n1_; have BK143 := n2_; have BK151 := n3_; have HB := n4_; clear n0_ n1_ n2_ n3_ n4_; (try clear hb); (try clear hb2); (try clear hk); (try clear hi)))
      go_meet
      case rel => exact ⟨_, (true), (by first | rfl | (simp; done) | (simp [*]; done)), H', ⟨by first | omega | exact Nat.le_refl _⟩, ⟨by (with_reducible repeat (first | apply Kd.S_alloc | apply Kd.S_drewN | apply Kd.S_drew)); exact Kd.S_mono HO138.out (fun _ hk => ⟨hk.1.2, ⟨hk.1.1.2, hk.2⟩⟩)⟩, ⟨by (with_reducible repeat (first | apply Kd.S_alloc | apply Kd.S_drewN | apply Kd.S_drew)); exact Kd.S_mono HO146.out (fun _ hk => ⟨hk.2, hk.1.2⟩)⟩, ⟨by (with_reducible repeat (first | refine blk_drewN ?_ _ | refine blk_drew ?_ | refine blk_alloc ?_ _)); exact BK143.out⟩, ⟨by (with_reducible repeat (first | refine blk_drewN ?_ _ | refine blk_drew ?_ | refine blk_alloc ?_ _)); exact BK151.out⟩, ⟨by repeat (first | (with_reducible first | exact HB.out | apply below_alloc | apply pw_below_drewN | apply below_drew1 | refine below_set ?_ GE143.out | refine below_set ?_ GE151.out) | exact HB.out)⟩⟩
  case rest =>
    clear HC4
    try clear c1
    try clear c2
    try clear p2
    try clear c3
    try clear c11
    try clear c12
    try clear c13
    try clear c15
    try clear c16
    try clear c20
    try clear hcz13_0
    try clear hcz13_1
    try clear hcz13_2
    try clear hcz13_3
    try clear hcz17_0
    try clear hcz17_1
    try clear hcz17_2
    try clear hcz17_3
    try clear hcz18_0
    try clear hcz18_1
    try clear hcz18_2
    try clear hcz18_3
    try clear hcz21_0
    try clear hcz21_1
    try clear hcz21_2
    try clear hcz21_3
    try clear hcz22_0
    try clear hcz22_1
    try clear hcz22_2
    try clear hcz22_3
    try clear hcz8_0
    try clear hcz8_1
    try clear hcz8_2
    try clear hcz8_3
    try clear hfz13_0
    try clear hfz13_1
    try clear hfz13_2
    try clear hfz13_3
    try clear hfz17_0
    try clear hfz17_1
    try clear hfz17_2
    try clear hfz17_3
    try clear hfz18_0
    try clear hfz18_1
    try clear hfz18_2
    try clear hfz18_3
    try clear hfz21_0
    try clear hfz21_1
    try clear hfz21_2
    try clear hfz21_3
    try clear hfz22_0
    try clear hfz22_1
    try clear hfz22_2
    try clear hfz22_3
    try clear hfz8_0
    try clear hfz8_1
    try clear hfz8_2
    try clear hfz8_3
    obtain ⟨kq, x29_3, rfl, HA, HJ3, HO_144000, HO_152000, BK143, BK151, HB⟩ := hcut
    cases kq with
    | zero => exact absurd HA.out (by simp [laws_FnExactNewDisk.j0])
    | succ kj3 =>
      have H := HA.out
      clear HA
      simp only [laws_FnExactNewDisk.j0] at H
      by_cases c24 : x29_3 = true
      · subst c24
        have H1 : (some false) = some r := by rw [if_pos rfl] at H; exact H
        clear H
        have H := H1
        clear H1
        obtain rfl := Option.some.inj H
        go_wp2
        go_ret
        exact ⟨by first | rfl | (simp [errW_none, errW_some] <;> rfl) | (simp [*, errW_none, errW_some] <;> rfl), by repeat (first | (with_reducible first | exact HB.out | apply below_alloc | apply pw_below_drewN | apply below_drew1 | refine below_set ?_ GE143.out | refine below_set ?_ GE151.out) | exact HB.out)⟩
      · replace c24 := Bool.eq_false_iff.mpr c24
        subst c24
        have H1 : ((laws_markDisk.f kj3 t144 t147 t148 t149 1).bind fun bt153 => ((laws_heldDisk.f kj3 bt153.2 t147 t148 t149 1).bind fun t155 => (if t155 < 0 then (some false) else (if t155 = bt153.1 then ((impl_NewDisk.f kj3 a0).bind fun bt156 => ((laws_eqDisk.f kj3 bt156.1 bt156.2.1 bt156.2.2.1 bt156.2.2.2.1 t136 t139 t140 t141).bind fun t164 => (if t164 = true then (laws_FnExactNewDisk.j1 kj3 bt153.1 (bt156.2.2.2.2 != t142) bt153.2 t147 t148 t149) else (laws_FnExactNewDisk.j1 kj3 bt153.1 true bt153.2 t147 t148 t149)))) else (some false))))) = some r := by rw [if_neg (show ¬ (false = true) by decide)] at H; exact H
        clear H
        have H := H1
        clear H1
        replace H := Option.bind_eq_some_iff.mp H
        obtain ⟨⟨t153, t154⟩, A250, H⟩ := H
        replace H : ((laws_heldDisk.f kj3 t154 t147 t148 t149 1).bind fun t155 => (if t155 < 0 then (some false) else (if t155 = t153 then ((impl_NewDisk.f kj3 a0).bind fun bt156 => ((laws_eqDisk.f kj3 bt156.1 bt156.2.1 bt156.2.2.1 bt156.2.2.2.1 t136 t139 t140 t141).bind fun t164 => (if t164 = true then (laws_FnExactNewDisk.j1 kj3 t153 (bt156.2.2.2.2 != t142) t154 t147 t148 t149) else (laws_FnExactNewDisk.j1 kj3 t153 true t154 t147 t148 t149)))) else (some false)))) = some r := H
        have A25 := Aside0.mk A250
        clear A250
        replace H := Option.bind_eq_some_iff.mp H
        obtain ⟨t155, A260, H⟩ := H
        replace H : (if t155 < 0 then (some false) else (if t155 = t153 then ((impl_NewDisk.f kj3 a0).bind fun bt156 => ((laws_eqDisk.f kj3 bt156.1 bt156.2.1 bt156.2.2.1 bt156.2.2.2.1 t136 t139 t140 t141).bind fun t164 => (if t164 = true then (laws_FnExactNewDisk.j1 kj3 t153 (bt156.2.2.2.2 != t142) t154 t147 t148 t149) else (laws_FnExactNewDisk.j1 kj3 t153 true t154 t147 t148 t149)))) else (some false))) = some r := H
        have A26 := Aside0.mk A260
        clear A260
        by_cases c27 : t155 < 0
        · rw [if_pos c27] at H
          have c27b0 : decide (t155 < 0) = true := decide_eq_true c27
          clear c27
          obtain rfl := Option.some.inj H
          have hnb28 := NB151_143.out
          have hnc28 := NB143_151.out
          have hcz29_0 : wc.cell? ⟨gb151, 0, none⟩ = some (.slice Ao11 t144.length co11) := (blk_cell BK151.out 0).trans rfl
          have hcz29_1 : wc.cell? ⟨gb151, 1, none⟩ = some (.int .i64 t147) := (blk_cell BK151.out 1).trans rfl
          have hcz29_2 : wc.cell? ⟨gb151, 2, none⟩ = some (.bool t148) := (blk_cell BK151.out 2).trans rfl
          have hcz29_3 : wc.cell? ⟨gb151, 3, none⟩ = some (.int .i64 t149) := (blk_cell BK151.out 3).trans rfl
          have hfz29_0 := blk_frozen BK151.out 0
          have hfz29_1 := blk_frozen BK151.out 1
          have hfz29_2 := blk_frozen BK151.out 2
          have hfz29_3 := blk_frozen BK151.out 3
          go_wp2_with (first | ((with_reducible refine gate_callee (f := 14) rfl ?_); refine goesL_ (some 32) rfl rfl Try.func14 (by kernel_rfl) rfl #[.agg #[.slice Ao11 t144.length co11, .int .i64 t147, .bool t148, .int .i64 t149], .int .i64 1] rfl (by (try simp only [List.map_toArray, List.map_cons, List.map_nil]); first | done | rfl | (simp only [List.length_drop, List.length_take]; rfl)) ?_; (with_reducible refine (laws_markDisk.calls kj3 (SB_ (Kd.slice 5 (Kd.int .u8)) 35 wc w.heap.size (fun k_ => (some k_ ≠ (.slice Ao7 t136.length co7 : Value).ownBlock ∧ w6.heap.size ≤ k_))) (.slice Ao11 t144.length co11) t144 t147 t148 t149 1 t153 t154 w _ ?side1 ?side2 A25.out).mono ?_); (case side1 => repeat (first | (with_reducible first | exact HB.out | apply below_alloc | apply pw_below_drewN | apply below_drew1 | refine below_set ?_ GE143.out | refine below_set ?_ GE151.out) | exact HB.out)); (case side2 => exact SB_own HO_152000.out); rintro e w30 ⟨rfl, hy0, hb, hkp⟩; refine ⟨_, rfl, ?_⟩; have n0_ := Aside0.mk (Kd.S_mono (ok' := fun k_ => some k_ ≠ (.slice Ao11 t144.length co11 : Value).ownBlock ∧ w.heap.size ≤ k_ ∧ k_ < w6.heap.size) (Kd.S_keptB ((S_apartSBn (d' := (Kd.slice 5 (Kd.int .u8))) (e' := 35) (base' := w.heap.size) (ok' := (fun k_ => (some k_ ≠ (.slice Ao7 t136.length co7 : Value).ownBlock ∧ w6.heap.size ≤ k_))) HO_144000.out (fun k_ hk h2_ => absurd (hk.2.2) (Nat.not_lt.2 (h2_.2))))) hkp (fun k_ hk_ hs_ => (hk_.2) hs_)) (fun k_ hk_ => ⟨hk_.1.1.1, hk_.1.1.2.1, hk_.1.1.2.2⟩)); have n1_ := Aside0.mk (Kd.S_mono (ok' := fun k_ => some k_ ≠ (.slice Ao7 t136.length co7 : Value).ownBlock) hy0 (fun k_ h_ => Or.elim h_ (fun p_ => p_.1.1) (fun n_ => (Kd.fresh' (Kd.S_lt (by (with_reducible repeat (first | apply Kd.S_alloc | apply Kd.S_drewN | apply Kd.S_drew)); exact HO_144000.out)) k_ n_)))); have n2_ := Aside0.mk (blk_kept (by (with_reducible repeat (first | refine blk_drewN ?_ _ | refine blk_drew ?_ | refine blk_alloc ?_ _)); exact BK143.out) hkp (fun hs_ => (fun e_ => (blk_SB BK143.out (by decide)) e_) hs_)); have n3_ := Aside0.mk (blk_kept (by (with_reducible repeat (first | refine blk_drewN ?_ _ | refine blk_drew ?_ | refine blk_alloc ?_ _)); exact BK151.out) hkp (fun hs_ => (fun e_ => (blk_SB BK151.out (by decide)) e_) hs_)); have n4_ := Aside0.mk (hb); clear HO_144000; clear HO_152000; clear BK143; clear BK151; clear HB; have HO_144000 := n0_; have HO_152000 := n1_; have BK143 := n2_; have BK151 := n3_; have HB := n4_; clear n0_ n1_ n2_ n3_ n4_; (try clear hb); (try clear hkp); (try clear hy0); have hcz31_0 : w30.cell? ⟨gb151, 0, none⟩ = some (.slice Ao11 t144.length co11) := (blk_cell BK151.out 0).trans rfl; have hcz31_1 : w30.cell? ⟨gb151, 1, none⟩ = some (.int .i64 t147) := (blk_cell BK151.out 1).trans rfl; have hcz31_2 : w30.cell? ⟨gb151, 2, none⟩ = some (.bool t148) := (blk_cell BK151.out 2).trans rfl; have hcz31_3 : w30.cell? ⟨gb151, 3, none⟩ = some (.int .i64 t149) := (blk_cell BK151.out 3).trans rfl; have hfz31_0 := blk_frozen BK151.out 0; have hfz31_1 := blk_frozen BK151.out 1; have hfz31_2 := blk_frozen BK151.out 2; have hfz31_3 := blk_frozen BK151.out 3) | ((with_reducible refine gate_callee (f := 15) rfl ?_); refine goesL_ (some 35) rfl rfl Try.func15 (by kernel_rfl) rfl #[.agg #[.slice Ao11 t154.length co11, .int .i64 t147, .bool t148, .int .i64 t149], .int .i64 1] rfl (by (try simp only [List.map_toArray, List.map_cons, List.map_nil]); first | done | (rw [show t154.length = t144.length from (Kd.S_reads' HO_152000.out).1.symm] <;> rfl) | rfl | (simp only [List.length_drop, List.length_take]; rfl)) ?_; (with_reducible refine (laws_heldDisk.calls kj3 _ _ t154 t147 t148 t149 1 t155 _ ?side1 ?side2 A26.out).mono ?_); (case side1 => repeat (first | exact (Kd.S_reads' HO_152000.out).2.2 | (with_reducible refine Kd.C_alloc ?_ _) | (with_reducible refine Kd.C_drewN ?_ _) | (with_reducible refine Kd.C_drew ?_))); (case side2 => rw [show t154.length = t144.length from (Kd.S_reads' HO_152000.out).1.symm]; exact (Kd.S_reads' HO_152000.out).2.1); rintro e w32 ⟨rfl, hb⟩; refine ⟨_, rfl, ?_⟩; have n0_ := Aside0.mk (Kd.S_below (by (with_reducible repeat (first | apply Kd.S_alloc | apply Kd.S_drewN | apply Kd.S_drew)); exact HO_144000.out) hb); have n1_ := Aside0.mk (Kd.S_below (by (with_reducible repeat (first | apply Kd.S_alloc | apply Kd.S_drewN | apply Kd.S_drew)); exact HO_152000.out) hb); have n2_ := Aside0.mk (blk_below (g := gb143) (o := .cells #[.slice Ao7 t136.length co7, .int .i64 t139, .bool t140, .int .i64 t141] 24 (0, 0)) (by (with_reducible repeat (first | refine blk_drewN ?_ _ | refine blk_drew ?_ | refine blk_alloc ?_ _)); exact BK143.out) hb); have n3_ := Aside0.mk (blk_below (g := gb151) (o := .cells #[.slice Ao11 t144.length co11, .int .i64 t147, .bool t148, .int .i64 t149] 24 (0, 0)) (by (with_reducible repeat (first | refine blk_drewN ?_ _ | refine blk_drew ?_ | refine blk_alloc ?_ _)); exact BK151.out) hb); have n4_ := Aside0.mk (below_step (by repeat (first | (with_reducible first | exact HB.out | apply below_alloc | apply pw_below_drewN | apply below_drew1 | refine below_set ?_ GE143.out | refine below_set ?_ GE151.out) | exact HB.out)) hb); clear HO_144000; clear HO_152000; clear BK143; clear BK151; clear HB; have HO_144000 := n0_; have HO_152000 := n1_; have BK143 := n2_; have BK151 := n3_; have HB := n4_; clear n0_ n1_ n2_ n3_ n4_; (try clear hb); (try clear hb2); (try clear hk); (try clear hi)))
          go_ret
          exact ⟨by first | rfl | (simp [errW_none, errW_some] <;> rfl) | (simp [*, errW_none, errW_some] <;> rfl), by repeat (first | (with_reducible first | exact HB.out | apply below_alloc | apply pw_below_drewN | apply below_drew1 | refine below_set ?_ GE143.out | refine below_set ?_ GE151.out) | exact HB.out)⟩
        · rw [if_neg c27] at H
          have c27b0 : decide (t155 < 0) = false := decide_eq_false c27
          clear c27
          by_cases c33 : t155 = t153
          · rw [if_pos c33] at H
            have c33b0 : (t155 == t153) = true := beq_iff_eq.mpr c33
            have c33b1 : (t155 != t153) = false := bne_eq_false_iff_eq.mpr c33
            clear c33
            replace H := Option.bind_eq_some_iff.mp H
            obtain ⟨⟨t156, t159, t160, t161, t162⟩, A340, H⟩ := H
            replace H : ((laws_eqDisk.f kj3 t156 t159 t160 t161 t136 t139 t140 t141).bind fun t164 => (if t164 = true then (laws_FnExactNewDisk.j1 kj3 t153 (t162 != t142) t154 t147 t148 t149) else (laws_FnExactNewDisk.j1 kj3 t153 true t154 t147 t148 t149))) = some r := H
            have A34 := Aside0.mk A340
            clear A340
            have HC35 := Aside0.mk H
            clear H
            have hnb36 := NB151_143.out
            have hnc36 := NB143_151.out
            have hcz37_0 : wc.cell? ⟨gb151, 0, none⟩ = some (.slice Ao11 t144.length co11) := (blk_cell BK151.out 0).trans rfl
            have hcz37_1 : wc.cell? ⟨gb151, 1, none⟩ = some (.int .i64 t147) := (blk_cell BK151.out 1).trans rfl
            have hcz37_2 : wc.cell? ⟨gb151, 2, none⟩ = some (.bool t148) := (blk_cell BK151.out 2).trans rfl
            have hcz37_3 : wc.cell? ⟨gb151, 3, none⟩ = some (.int .i64 t149) := (blk_cell BK151.out 3).trans rfl
            have hfz37_0 := blk_frozen BK151.out 0
            have hfz37_1 := blk_frozen BK151.out 1
            have hfz37_2 := blk_frozen BK151.out 2
            have hfz37_3 := blk_frozen BK151.out 3
            go_upto_region 14 with (first | ((with_reducible refine gate_callee (f := 14) rfl ?_); refine goesL_ (some 32) rfl rfl Try.func14 (by kernel_rfl) rfl #[.agg #[.slice Ao11 t144.length co11, .int .i64 t147, .bool t148, .int .i64 t149], .int .i64 1] rfl (by (try simp only [List.map_toArray, List.map_cons, List.map_nil]); first | done | rfl | (simp only [List.length_drop, List.length_take]; rfl)) ?_; (with_reducible refine (laws_markDisk.calls kj3 (SB_ (Kd.slice 5 (Kd.int .u8)) 35 wc w.heap.size (fun k_ => (some k_ ≠ (.slice Ao7 t136.length co7 : Value).ownBlock ∧ w6.heap.size ≤ k_))) (.slice Ao11 t144.length co11) t144 t147 t148 t149 1 t153 t154 w _ ?side1 ?side2 A25.out).mono ?_); (case side1 => repeat (first | (with_reducible first | exact HB.out | apply below_alloc | apply pw_below_drewN | apply below_drew1 | refine below_set ?_ GE143.out | refine below_set ?_ GE151.out) | exact HB.out)); (case side2 => exact SB_own HO_152000.out); rintro e w38 ⟨rfl, hy0, hb, hkp⟩; refine ⟨_, rfl, ?_⟩; have n0_ := Aside0.mk (Kd.S_mono (ok' := fun k_ => some k_ ≠ (.slice Ao11 t144.length co11 : Value).ownBlock ∧ w.heap.size ≤ k_ ∧ k_ < w6.heap.size) (Kd.S_keptB ((S_apartSBn (d' := (Kd.slice 5 (Kd.int .u8))) (e' := 35) (base' := w.heap.size) (ok' := (fun k_ => (some k_ ≠ (.slice Ao7 t136.length co7 : Value).ownBlock ∧ w6.heap.size ≤ k_))) HO_144000.out (fun k_ hk h2_ => absurd (hk.2.2) (Nat.not_lt.2 (h2_.2))))) hkp (fun k_ hk_ hs_ => (hk_.2) hs_)) (fun k_ hk_ => ⟨hk_.1.1.1, hk_.1.1.2.1, hk_.1.1.2.2⟩)); have n1_ := Aside0.mk (Kd.S_mono (ok' := fun k_ => some k_ ≠ (.slice Ao7 t136.length co7 : Value).ownBlock) hy0 (fun k_ h_ => Or.elim h_ (fun p_ => p_.1.1) (fun n_ => (Kd.fresh' (Kd.S_lt (by (with_reducible repeat (first | apply Kd.S_alloc | apply Kd.S_drewN | apply Kd.S_drew)); exact HO_144000.out)) k_ n_)))); have n2_ := Aside0.mk (blk_kept (by (with_reducible repeat (first | refine blk_drewN ?_ _ | refine blk_drew ?_ | refine blk_alloc ?_ _)); exact BK143.out) hkp (fun hs_ => (fun e_ => (blk_SB BK143.out (by decide)) e_) hs_)); have n3_ := Aside0.mk (blk_kept (by (with_reducible repeat (first | refine blk_drewN ?_ _ | refine blk_drew ?_ | refine blk_alloc ?_ _)); exact BK151.out) hkp (fun hs_ => (fun e_ => (blk_SB BK151.out (by decide)) e_) hs_)); have n4_ := Aside0.mk (hb); clear HO_144000; clear HO_152000; clear BK143; clear BK151; clear HB; have HO_144000 := n0_; have HO_152000 := n1_; have BK143 := n2_; have BK151 := n3_; have HB := n4_; clear n0_ n1_ n2_ n3_ n4_; (try clear hb); (try clear hkp); (try clear hy0); have hcz39_0 : w38.cell? ⟨gb151, 0, none⟩ = some (.slice Ao11 t144.length co11) := (blk_cell BK151.out 0).trans rfl; have hcz39_1 : w38.cell? ⟨gb151, 1, none⟩ = some (.int .i64 t147) := (blk_cell BK151.out 1).trans rfl; have hcz39_2 : w38.cell? ⟨gb151, 2, none⟩ = some (.bool t148) := (blk_cell BK151.out 2).trans rfl; have hcz39_3 : w38.cell? ⟨gb151, 3, none⟩ = some (.int .i64 t149) := (blk_cell BK151.out 3).trans rfl; have hfz39_0 := blk_frozen BK151.out 0; have hfz39_1 := blk_frozen BK151.out 1; have hfz39_2 := blk_frozen BK151.out 2; have hfz39_3 := blk_frozen BK151.out 3) | ((with_reducible refine gate_callee (f := 15) rfl ?_); refine goesL_ (some 35) rfl rfl Try.func15 (by kernel_rfl) rfl #[.agg #[.slice Ao11 t154.length co11, .int .i64 t147, .bool t148, .int .i64 t149], .int .i64 1] rfl (by (try simp only [List.map_toArray, List.map_cons, List.map_nil]); first | done | (rw [show t154.length = t144.length from (Kd.S_reads' HO_152000.out).1.symm] <;> rfl) | rfl | (simp only [List.length_drop, List.length_take]; rfl)) ?_; (with_reducible refine (laws_heldDisk.calls kj3 _ _ t154 t147 t148 t149 1 t155 _ ?side1 ?side2 A26.out).mono ?_); (case side1 => repeat (first | exact (Kd.S_reads' HO_152000.out).2.2 | (with_reducible refine Kd.C_alloc ?_ _) | (with_reducible refine Kd.C_drewN ?_ _) | (with_reducible refine Kd.C_drew ?_))); (case side2 => rw [show t154.length = t144.length from (Kd.S_reads' HO_152000.out).1.symm]; exact (Kd.S_reads' HO_152000.out).2.1); rintro e w40 ⟨rfl, hb⟩; refine ⟨_, rfl, ?_⟩; have n0_ := Aside0.mk (Kd.S_below (by (with_reducible repeat (first | apply Kd.S_alloc | apply Kd.S_drewN | apply Kd.S_drew)); exact HO_144000.out) hb); have n1_ := Aside0.mk (Kd.S_below (by (with_reducible repeat (first | apply Kd.S_alloc | apply Kd.S_drewN | apply Kd.S_drew)); exact HO_152000.out) hb); have n2_ := Aside0.mk (blk_below (g := gb143) (o := .cells #[.slice Ao7 t136.length co7, .int .i64 t139, .bool t140, .int .i64 t141] 24 (0, 0)) (by (with_reducible repeat (first | refine blk_drewN ?_ _ | refine blk_drew ?_ | refine blk_alloc ?_ _)); exact BK143.out) hb); have n3_ := Aside0.mk (blk_below (g := gb151) (o := .cells #[.slice Ao11 t144.length co11, .int .i64 t147, .bool t148, .int .i64 t149] 24 (0, 0)) (by (with_reducible repeat (first | refine blk_drewN ?_ _ | refine blk_drew ?_ | refine blk_alloc ?_ _)); exact BK151.out) hb); have n4_ := Aside0.mk (below_step (by repeat (first | (with_reducible first | exact HB.out | apply below_alloc | apply pw_below_drewN | apply below_drew1 | refine below_set ?_ GE143.out | refine below_set ?_ GE151.out) | exact HB.out)) hb); clear HO_144000; clear HO_152000; clear BK143; clear BK151; clear HB; have HO_144000 := n0_; have HO_152000 := n1_; have BK143 := n2_; have BK151 := n3_; have HB := n4_; clear n0_ n1_ n2_ n3_ n4_; (try clear hb); (try clear hb2); (try clear hk); (try clear hi)) | ((with_reducible refine gate_callee (f := 12) rfl ?_); refine goesL_ (some 43) rfl rfl Try.func12 (by kernel_rfl) rfl #[.int .i64 a0] rfl (by (try simp only [List.map_toArray, List.map_cons, List.map_nil]); first | done | rfl | (simp only [List.length_drop, List.length_take]; rfl)) ?_; (with_reducible refine (impl_NewDisk.calls kj3 a0 t156 t159 t160 t161 t162 _ A34.out).mono ?_); rintro e w41 ⟨v157, rfl, ho0, hb⟩; refine ⟨_, rfl, ?_⟩; have n0_ := Aside0.mk (Kd.S_told (Kd.S_old (by (with_reducible repeat (first | apply Kd.S_alloc | apply Kd.S_drewN | apply Kd.S_drew)); exact HO_144000.out) hb) (Kd.S_base ho0)); have n1_ := Aside0.mk (Kd.S_told (Kd.S_old (by (with_reducible repeat (first | apply Kd.S_alloc | apply Kd.S_drewN | apply Kd.S_drew)); exact HO_152000.out) hb) (Kd.S_base ho0)); have n2_ := Aside0.mk (Kd.S_lower (Kd.S_new' (Kd.S_new' (Kd.S_mono (Kd.S_bound ho0) (fun k_ h_ => (⟨h_.1, (by first | exact h_.2.1 | simpa only [World.size_setCell] using h_.2.1)⟩ : _ ∧ w40.heap.size ≤ k_))) (Kd.S_lt (by (with_reducible repeat (first | apply Kd.S_alloc | apply Kd.S_drewN | apply Kd.S_drew)); exact HO_144000.out))) (Kd.S_lt (by (with_reducible repeat (first | apply Kd.S_alloc | apply Kd.S_drewN | apply Kd.S_drew)); exact HO_152000.out))) (below_size (by repeat (first | (with_reducible first | exact HB.out | apply below_alloc | apply pw_below_drewN | apply below_drew1 | refine below_set ?_ GE143.out | refine below_set ?_ GE151.out) | exact HB.out)))); have n3_ := Aside0.mk (blk_below (g := gb143) (o := .cells #[.slice Ao7 t136.length co7, .int .i64 t139, .bool t140, .int .i64 t141] 24 (0, 0)) (by (with_reducible repeat (first | refine blk_drewN ?_ _ | refine blk_drew ?_ | refine blk_alloc ?_ _)); exact BK143.out) hb); have n4_ := Aside0.mk (blk_below (g := gb151) (o := .cells #[.slice Ao11 t144.length co11, .int .i64 t147, .bool t148, .int .i64 t149] 24 (0, 0)) (by (with_reducible repeat (first | refine blk_drewN ?_ _ | refine blk_drew ?_ | refine blk_alloc ?_ _)); exact BK151.out) hb); have n5_ := Aside0.mk (below_step (by repeat (first | (with_reducible first | exact HB.out | apply below_alloc | apply pw_below_drewN | apply below_drew1 | refine below_set ?_ GE143.out | refine below_set ?_ GE151.out) | exact HB.out)) hb); clear HO_144000; clear HO_152000; clear BK143; clear BK151; clear HB; have HO_144000 := n0_; have HO_152000 := n1_; have HO158 := n2_; have BK143 := n3_; have BK151 := n4_; have HB := n5_; clear n0_ n1_ n2_ n3_ n4_ n5_; (try clear hb); (try clear hb2); (try clear hk); (try clear hi); (try clear ho0)) | ((with_reducible refine gate_dst (N := 9) rfl ?_); refine box_event ?hg (N := 9) ?hd (cs := #[.slice none 0 0, .int .i64 0, .bool false, .int .i64 0]) (t := 24) ?hr ?_; (case hd => rfl); (case hg => rfl); (case hr => first | (go_simp; done) | (go_simp; rfl)); intro gb163 hg w42 hbox hb; have n0_ := Aside0.mk (Kd.S_below (by (with_reducible repeat (first | apply Kd.S_alloc | apply Kd.S_drewN | apply Kd.S_drew)); exact HO_144000.out) hb); have n1_ := Aside0.mk (Kd.S_below (by (with_reducible repeat (first | apply Kd.S_alloc | apply Kd.S_drewN | apply Kd.S_drew)); exact HO_152000.out) hb); have n2_ := Aside0.mk (Kd.S_below (by (with_reducible repeat (first | apply Kd.S_alloc | apply Kd.S_drewN | apply Kd.S_drew)); exact HO158.out) hb); have n3_ := Aside0.mk (blk_below (g := gb143) (o := .cells #[.slice Ao7 t136.length co7, .int .i64 t139, .bool t140, .int .i64 t141] 24 (0, 0)) (by (with_reducible repeat (first | refine blk_drewN ?_ _ | refine blk_drew ?_ | refine blk_alloc ?_ _)); exact BK143.out) hb); have n4_ := Aside0.mk (blk_below (g := gb151) (o := .cells #[.slice Ao11 t144.length co11, .int .i64 t147, .bool t148, .int .i64 t149] 24 (0, 0)) (by (with_reducible repeat (first | refine blk_drewN ?_ _ | refine blk_drew ?_ | refine blk_alloc ?_ _)); exact BK151.out) hb); have n5_ := Aside0.mk (below_step (by repeat (first | (with_reducible first | exact HB.out | apply below_alloc | apply pw_below_drewN | apply below_drew1 | refine below_set ?_ GE143.out | refine below_set ?_ GE151.out) | exact HB.out)) hb); have n6_ := Aside0.mk (hbox); have n7_ := Aside0.mk ((by rw [hg]; exact (below_size (by repeat (first | (with_reducible first | exact HB.out | apply below_alloc | apply pw_below_drewN | apply below_drew1 | refine below_set ?_ GE143.out | refine below_set ?_ GE151.out) | exact HB.out))) : w.heap.size ≤ gb163)); have n8_ := Aside0.mk ((by rw [hg]; exact (below_size (by repeat (first | (with_reducible first | exact HB.out | apply below_alloc | apply pw_below_drewN | apply below_drew1 | refine below_set ?_ GE143.out | refine below_set ?_ GE151.out) | exact HB.out))) : w.heap.size ≤ gb163)); have n9_ := Aside0.mk ((by rw [hg]; exact Nat.ne_of_lt (blk_lt (g := gb143) (o := .cells #[.slice Ao7 t136.length co7, .int .i64 t139, .bool t140, .int .i64 t141] 24 (0, 0)) (by (with_reducible repeat (first | refine blk_drewN ?_ _ | refine blk_drew ?_ | refine blk_alloc ?_ _)); exact BK143.out)) : gb143 ≠ gb163)); have n10_ := Aside0.mk ((by rw [hg]; exact Nat.ne_of_gt (blk_lt (g := gb143) (o := .cells #[.slice Ao7 t136.length co7, .int .i64 t139, .bool t140, .int .i64 t141] 24 (0, 0)) (by (with_reducible repeat (first | refine blk_drewN ?_ _ | refine blk_drew ?_ | refine blk_alloc ?_ _)); exact BK143.out)) : gb163 ≠ gb143)); have n11_ := Aside0.mk ((by rw [hg]; exact Nat.ne_of_lt (blk_lt (g := gb151) (o := .cells #[.slice Ao11 t144.length co11, .int .i64 t147, .bool t148, .int .i64 t149] 24 (0, 0)) (by (with_reducible repeat (first | refine blk_drewN ?_ _ | refine blk_drew ?_ | refine blk_alloc ?_ _)); exact BK151.out)) : gb151 ≠ gb163)); have n12_ := Aside0.mk ((by rw [hg]; exact Nat.ne_of_gt (blk_lt (g := gb151) (o := .cells #[.slice Ao11 t144.length co11, .int .i64 t147, .bool t148, .int .i64 t149] 24 (0, 0)) (by (with_reducible repeat (first | refine blk_drewN ?_ _ | refine blk_drew ?_ | refine blk_alloc ?_ _)); exact BK151.out)) : gb163 ≠ gb151)); clear HO_144000; clear HO_152000; clear HO158; clear BK143; clear BK151; clear HB; have HO_144000 := n0_; have HO_152000 := n1_; have HO158 := n2_; have BK143 := n3_; have BK151 := n4_; have HB := n5_; have BK163 := n6_; have GW163 := n7_; have GE163 := n8_; have NB143_163 := n9_; have NB163_143 := n10_; have NB151_163 := n11_; have NB163_151 := n12_; clear n0_ n1_ n2_ n3_ n4_ n5_ n6_ n7_ n8_ n9_ n10_ n11_ n12_; clear hb hbox hg; obtain ⟨Ao43, co43, eo43⟩ := Kd.S_slice HO158.out; subst eo43; have hnb44 := NB163_143.out; have hnc44 := NB143_163.out; have hnb45 := NB163_151.out; have hnc45 := NB151_163.out; have hcz46_0 : w42.cell? ⟨gb163, 0, none⟩ = some (.slice none 0 0) := (blk_cell BK163.out 0).trans rfl; have hcz46_1 : w42.cell? ⟨gb163, 1, none⟩ = some (.int .i64 0) := (blk_cell BK163.out 1).trans rfl; have hcz46_2 : w42.cell? ⟨gb163, 2, none⟩ = some (.bool false) := (blk_cell BK163.out 2).trans rfl; have hcz46_3 : w42.cell? ⟨gb163, 3, none⟩ = some (.int .i64 0) := (blk_cell BK163.out 3).trans rfl; have hfz46_0 := blk_frozen BK163.out 0; have hfz46_1 := blk_frozen BK163.out 1; have hfz46_2 := blk_frozen BK163.out 2; have hfz46_3 := blk_frozen BK163.out 3))
            (try simp only [Act.put, List.setIfInBounds_toArray, List.set_cons_zero, List.set_cons_succ])
            go_cut [54] (fun v54 wc => ∃ (kq : Nat) (x54_34 : Bool), v54 = .bool x54_34 ∧ Aside0 (laws_FnExactNewDisk.j1 kq t153 x54_34 t154 t147 t148 t149 = some r) ∧ Aside0 (kq ≤ kj3) ∧ Aside0 (Kd.S (Kd.slice 5 (Kd.int .u8)) 35 wc w.heap.size (fun k_ => some k_ ≠ ((.slice Ao11 t144.length co11) : Value).ownBlock ∧ some k_ ≠ ((.slice Ao43 t156.length co43) : Value).ownBlock ∧ w.heap.size ≤ k_ ∧ k_ < w6.heap.size ∧ k_ < w40.heap.size) (.slice Ao7 t136.length co7) t136) ∧ Aside0 (Kd.S (Kd.slice 5 (Kd.int .u8)) 35 wc w.heap.size (fun k_ => some k_ ≠ ((.slice Ao7 t136.length co7) : Value).ownBlock ∧ some k_ ≠ ((.slice Ao43 t156.length co43) : Value).ownBlock ∧ k_ < w40.heap.size) (.slice Ao11 t144.length co11) t154) ∧ Aside0 (Kd.S (Kd.slice 5 (Kd.int .u8)) 35 wc w.heap.size (fun k_ => some k_ ≠ ((.slice Ao7 t136.length co7) : Value).ownBlock ∧ some k_ ≠ ((.slice Ao11 t144.length co11) : Value).ownBlock ∧ w40.heap.size ≤ k_) (.slice Ao43 t156.length co43) t156) ∧ Aside0 (wc.heap[gb143]? = some (.cells #[(.slice Ao7 t136.length co7), .int .i64 t139, .bool t140, .int .i64 t141] 24 (0, 0))) ∧ Aside0 (wc.heap[gb151]? = some (.cells #[(.slice Ao11 t144.length co11), .int .i64 t147, .bool t148, .int .i64 t149] 24 (0, 0))) ∧ Aside0 (wc.heap[gb163]? = some (.cells #[(.slice Ao43 t156.length co43), .int .i64 t159, .bool t160, .int .i64 t161] 24 (0, 0))) ∧ Aside0 (Below w.heap.size w wc))
            case first =>
              have H := HC35.out
              clear HC35
              replace H := Option.bind_eq_some_iff.mp H
              obtain ⟨t164, A470, H⟩ := H
              replace H : (if t164 = true then (laws_FnExactNewDisk.j1 kj3 t153 (t162 != t142) t154 t147 t148 t149) else (laws_FnExactNewDisk.j1 kj3 t153 true t154 t147 t148 t149)) = some r := H
              have A47 := Aside0.mk A470
              clear A470
              by_cases c48 : t164 = true
              · subst c48
                have H1 : (laws_FnExactNewDisk.j1 kj3 t153 (t162 != t142) t154 t147 t148 t149) = some r := by rw [if_pos rfl] at H; exact H
                clear H
                have H := H1
                clear H1
                have H' := Aside0.mk H
                clear H
                have hnb49 := NB163_143.out
                have hnc49 := NB143_163.out
                have hnb50 := NB163_151.out
                have hnc50 := NB151_163.out
                have hcz51_0 : w42.cell? ⟨gb163, 0, none⟩ = some (.slice none 0 0) := (blk_cell BK163.out 0).trans rfl
                have hcz51_1 : w42.cell? ⟨gb163, 1, none⟩ = some (.int .i64 0) := (blk_cell BK163.out 1).trans rfl
                have hcz51_2 : w42.cell? ⟨gb163, 2, none⟩ = some (.bool false) := (blk_cell BK163.out 2).trans rfl
                have hcz51_3 : w42.cell? ⟨gb163, 3, none⟩ = some (.int .i64 0) := (blk_cell BK163.out 3).trans rfl
                have hfz51_0 := blk_frozen BK163.out 0
                have hfz51_1 := blk_frozen BK163.out 1
                have hfz51_2 := blk_frozen BK163.out 2
                have hfz51_3 := blk_frozen BK163.out 3
                have hnb52 := NB143_151.out
                have hnc52 := NB151_143.out
                have hcz53_0 : w42.cell? ⟨gb143, 0, none⟩ = some (.slice Ao7 t136.length co7) := (blk_cell BK143.out 0).trans rfl
                have hcz53_1 : w42.cell? ⟨gb143, 1, none⟩ = some (.int .i64 t139) := (blk_cell BK143.out 1).trans rfl
                have hcz53_2 : w42.cell? ⟨gb143, 2, none⟩ = some (.bool t140) := (blk_cell BK143.out 2).trans rfl
                have hcz53_3 : w42.cell? ⟨gb143, 3, none⟩ = some (.int .i64 t141) := (blk_cell BK143.out 3).trans rfl
                have hfz53_0 := blk_frozen BK143.out 0
                have hfz53_1 := blk_frozen BK143.out 1
                have hfz53_2 := blk_frozen BK143.out 2
                have hfz53_3 := blk_frozen BK143.out 3
                go_wp2_with (first | ((with_reducible refine gate_callee (f := 13) rfl ?_); refine goesL_ (some 48) rfl rfl Try.func13 (by kernel_rfl) rfl #[.agg #[.slice Ao43 t156.length co43, .int .i64 t159, .bool t160, .int .i64 t161], .agg #[.slice Ao7 t136.length co7, .int .i64 t139, .bool t140, .int .i64 t141]] rfl (by (try simp only [List.map_toArray, List.map_cons, List.map_nil]); first | done | rfl | (simp only [List.length_drop, List.length_take]; rfl)) ?_; (with_reducible refine (laws_eqDisk.calls kj3 _ _ t156 t159 t160 t161 _ _ t136 t139 t140 t141 true _ ?side1 ?side2 ?side3 ?side4 A47.out).mono ?_); (case side1 => refine (Kd.S_reads' (e := 35) (base := w.heap.size) (ok := fun k_ => (((True ∧ w40.heap.size ≤ k_) ∧ some k_ ≠ (.slice Ao7 t136.length co7 : Value).ownBlock) ∧ some k_ ≠ (.slice Ao11 t144.length co11 : Value).ownBlock)) (n := t156.length) (c := co43) ?_).2.2; exact (by (with_reducible repeat (first | apply Kd.S_alloc | apply Kd.S_drewN | apply Kd.S_drew)); exact (Kd.S_mono (Kd.S_far (p := ⟨gb163, 3, none⟩) (Kd.S_far (p := ⟨gb163, 2, none⟩) (Kd.S_far (p := ⟨gb163, 1, none⟩) (Kd.S_far (p := ⟨gb163, 0, none⟩) (Kd.S_types HO158.out BK163.out (by decide)) (fun _ hk => hk.2) (.slice Ao43 t156.length co43)) (fun _ hk => hk.2) (.int .i64 t159)) (fun _ hk => hk.2) (.bool t160)) (fun _ hk => hk.2) (.int .i64 t161)) (fun _ h_ => h_.1)))); (case side2 => exact (Kd.S_reads' HO158.out).2.1); (case side3 => refine (Kd.S_reads' (e := 35) (base := w.heap.size) (ok := fun k_ => (((some k_ ≠ (.slice Ao11 t144.length co11 : Value).ownBlock ∧ (w.heap.size ≤ k_ ∧ k_ < w6.heap.size)) ∧ some k_ ≠ (.slice Ao43 t156.length co43 : Value).ownBlock) ∧ k_ < w40.heap.size)) (n := t136.length) (c := co7) ?_).2.2; exact (by (with_reducible repeat (first | apply Kd.S_alloc | apply Kd.S_drewN | apply Kd.S_drew)); exact (Kd.S_mono (Kd.S_far (p := ⟨gb163, 3, none⟩) (Kd.S_far (p := ⟨gb163, 2, none⟩) (Kd.S_far (p := ⟨gb163, 1, none⟩) (Kd.S_far (p := ⟨gb163, 0, none⟩) (Kd.S_types HO_144000.out BK163.out (by decide)) (fun _ hk => hk.2) (.slice Ao43 t156.length co43)) (fun _ hk => hk.2) (.int .i64 t159)) (fun _ hk => hk.2) (.bool t160)) (fun _ hk => hk.2) (.int .i64 t161)) (fun _ h_ => h_.1)))); (case side4 => exact (Kd.S_reads' HO_144000.out).2.1); rintro e w54 ⟨rfl, hb⟩; refine ⟨_, rfl, ?_⟩; have n0_ := Aside0.mk (Kd.S_below (by (with_reducible repeat (first | apply Kd.S_alloc | apply Kd.S_drewN | apply Kd.S_drew)); exact (Kd.S_mono (Kd.S_far (p := ⟨gb163, 3, none⟩) (Kd.S_far (p := ⟨gb163, 2, none⟩) (Kd.S_far (p := ⟨gb163, 1, none⟩) (Kd.S_far (p := ⟨gb163, 0, none⟩) (Kd.S_types HO_144000.out BK163.out (by decide)) (fun _ hk => hk.2) (.slice Ao43 t156.length co43)) (fun _ hk => hk.2) (.int .i64 t159)) (fun _ hk => hk.2) (.bool t160)) (fun _ hk => hk.2) (.int .i64 t161)) (fun _ h_ => h_.1))) hb); have n1_ := Aside0.mk (Kd.S_below (by (with_reducible repeat (first | apply Kd.S_alloc | apply Kd.S_drewN | apply Kd.S_drew)); exact (Kd.S_mono (Kd.S_far (p := ⟨gb163, 3, none⟩) (Kd.S_far (p := ⟨gb163, 2, none⟩) (Kd.S_far (p := ⟨gb163, 1, none⟩) (Kd.S_far (p := ⟨gb163, 0, none⟩) (Kd.S_types HO_152000.out BK163.out (by decide)) (fun _ hk => hk.2) (.slice Ao43 t156.length co43)) (fun _ hk => hk.2) (.int .i64 t159)) (fun _ hk => hk.2) (.bool t160)) (fun _ hk => hk.2) (.int .i64 t161)) (fun _ h_ => h_.1))) hb); have n2_ := Aside0.mk (Kd.S_below (by (with_reducible repeat (first | apply Kd.S_alloc | apply Kd.S_drewN | apply Kd.S_drew)); exact (Kd.S_mono (Kd.S_far (p := ⟨gb163, 3, none⟩) (Kd.S_far (p := ⟨gb163, 2, none⟩) (Kd.S_far (p := ⟨gb163, 1, none⟩) (Kd.S_far (p := ⟨gb163, 0, none⟩) (Kd.S_types HO158.out BK163.out (by decide)) (fun _ hk => hk.2) (.slice Ao43 t156.length co43)) (fun _ hk => hk.2) (.int .i64 t159)) (fun _ hk => hk.2) (.bool t160)) (fun _ hk => hk.2) (.int .i64 t161)) (fun _ h_ => h_.1))) hb); have n3_ := Aside0.mk (blk_below (g := gb143) (o := .cells #[.slice Ao7 t136.length co7, .int .i64 t139, .bool t140, .int .i64 t141] 24 (0, 0)) (by (with_reducible repeat (first | refine blk_drewN ?_ _ | refine blk_drew ?_ | refine blk_alloc ?_ _)); refine blk_far ?_ NB143_163.out _; (with_reducible repeat (first | refine blk_drewN ?_ _ | refine blk_drew ?_ | refine blk_alloc ?_ _)); refine blk_far ?_ NB143_163.out _; (with_reducible repeat (first | refine blk_drewN ?_ _ | refine blk_drew ?_ | refine blk_alloc ?_ _)); refine blk_far ?_ NB143_163.out _; (with_reducible repeat (first | refine blk_drewN ?_ _ | refine blk_drew ?_ | refine blk_alloc ?_ _)); refine blk_far ?_ NB143_163.out _; (with_reducible repeat (first | refine blk_drewN ?_ _ | refine blk_drew ?_ | refine blk_alloc ?_ _)); exact BK143.out) hb); have n4_ := Aside0.mk (blk_below (g := gb151) (o := .cells #[.slice Ao11 t144.length co11, .int .i64 t147, .bool t148, .int .i64 t149] 24 (0, 0)) (by (with_reducible repeat (first | refine blk_drewN ?_ _ | refine blk_drew ?_ | refine blk_alloc ?_ _)); refine blk_far ?_ NB151_163.out _; (with_reducible repeat (first | refine blk_drewN ?_ _ | refine blk_drew ?_ | refine blk_alloc ?_ _)); refine blk_far ?_ NB151_163.out _; (with_reducible repeat (first | refine blk_drewN ?_ _ | refine blk_drew ?_ | refine blk_alloc ?_ _)); refine blk_far ?_ NB151_163.out _; (with_reducible repeat (first | refine blk_drewN ?_ _ | refine blk_drew ?_ | refine blk_alloc ?_ _)); refine blk_far ?_ NB151_163.out _; (with_reducible repeat (first | refine blk_drewN ?_ _ | refine blk_drew ?_ | refine blk_alloc ?_ _)); exact BK151.out) hb); have n5_ := Aside0.mk (blk_below (g := gb163) (o := .cells #[.slice Ao43 t156.length co43, .int .i64 t159, .bool t160, .int .i64 t161] 24 (0, 0)) (by (with_reducible repeat (first | refine blk_drewN ?_ _ | refine blk_drew ?_ | refine blk_alloc ?_ _)); refine blk_put (cs := #[.slice Ao43 t156.length co43, .int .i64 t159, .bool t160, .int .i64 0]) ?_ 3 _ rfl; (with_reducible repeat (first | refine blk_drewN ?_ _ | refine blk_drew ?_ | refine blk_alloc ?_ _)); refine blk_put (cs := #[.slice Ao43 t156.length co43, .int .i64 t159, .bool false, .int .i64 0]) ?_ 2 _ rfl; (with_reducible repeat (first | refine blk_drewN ?_ _ | refine blk_drew ?_ | refine blk_alloc ?_ _)); refine blk_put (cs := #[.slice Ao43 t156.length co43, .int .i64 0, .bool false, .int .i64 0]) ?_ 1 _ rfl; (with_reducible repeat (first | refine blk_drewN ?_ _ | refine blk_drew ?_ | refine blk_alloc ?_ _)); refine blk_put (cs := #[.slice none 0 0, .int .i64 0, .bool false, .int .i64 0]) ?_ 0 _ rfl; (with_reducible repeat (first | refine blk_drewN ?_ _ | refine blk_drew ?_ | refine blk_alloc ?_ _)); exact BK163.out) hb); have n6_ := Aside0.mk (below_step (by repeat (first | (with_reducible first | exact HB.out | apply below_alloc | apply pw_below_drewN | apply below_drew1 | refine below_set ?_ GE143.out | refine below_set ?_ GE151.out | refine below_set ?_ GE163.out) | exact HB.out)) hb); clear HO_144000; clear HO_152000; clear HO158; clear BK143; clear BK151; clear BK163; clear HB; have HO_144000 := n0_; have HO_152000 := n1_; have HO158 := n2_; have BK143 := n3_; have BK151 := n4_; have BK163 := n5_; have HB := n6_; clear n0_ n1_ n2_ n3_ n4_ n5_ n6_; (try clear hb); (try clear hb2); (try clear hk); (try clear hi)))
                go_meet
                case rel => exact ⟨_, ((t162 != t142)), (by first | rfl | (simp; done) | (simp [*]; done)), H', ⟨by have := HJ3.out; first | omega | exact Nat.le_refl _⟩, ⟨by (with_reducible repeat (first | apply Kd.S_alloc | apply Kd.S_drewN | apply Kd.S_drew)); exact Kd.S_mono HO_144000.out (fun _ hk => ⟨hk.1.1.1, ⟨hk.1.2, ⟨hk.1.1.2.1, ⟨hk.1.1.2.2, hk.2⟩⟩⟩⟩)⟩, ⟨by (with_reducible repeat (first | apply Kd.S_alloc | apply Kd.S_drewN | apply Kd.S_drew)); exact Kd.S_mono HO_152000.out (fun _ hk => ⟨hk.1.1, ⟨hk.1.2, hk.2⟩⟩)⟩, ⟨by (with_reducible repeat (first | apply Kd.S_alloc | apply Kd.S_drewN | apply Kd.S_drew)); exact Kd.S_mono HO158.out (fun _ hk => ⟨hk.1.2, ⟨hk.2, hk.1.1.2⟩⟩)⟩, ⟨by (with_reducible repeat (first | refine blk_drewN ?_ _ | refine blk_drew ?_ | refine blk_alloc ?_ _)); exact BK143.out⟩, ⟨by (with_reducible repeat (first | refine blk_drewN ?_ _ | refine blk_drew ?_ | refine blk_alloc ?_ _)); exact BK151.out⟩, ⟨by (with_reducible repeat (first | refine blk_drewN ?_ _ | refine blk_drew ?_ | refine blk_alloc ?_ _)); exact BK163.out⟩, ⟨by repeat (first | (with_reducible first | exact HB.out | apply below_alloc | apply pw_below_drewN | apply below_drew1 | refine below_set ?_ GE143.out | refine below_set ?_ GE151.out | refine below_set ?_ GE163.out) | exact HB.out)⟩⟩
              · replace c48 := Bool.eq_false_iff.mpr c48
                subst c48
                have H1 : (laws_FnExactNewDisk.j1 kj3 t153 true t154 t147 t148 t149) = some r := by rw [if_neg (show ¬ (false = true) by decide)] at H; exact H
                clear H
                have H := H1
                clear H1
                have H' := Aside0.mk H
                clear H
                have hnb55 := NB163_143.out
                have hnc55 := NB143_163.out
                have hnb56 := NB163_151.out
                have hnc56 := NB151_163.out
                have hcz57_0 : w42.cell? ⟨gb163, 0, none⟩ = some (.slice none 0 0) := (blk_cell BK163.out 0).trans rfl
                have hcz57_1 : w42.cell? ⟨gb163, 1, none⟩ = some (.int .i64 0) := (blk_cell BK163.out 1).trans rfl
                have hcz57_2 : w42.cell? ⟨gb163, 2, none⟩ = some (.bool false) := (blk_cell BK163.out 2).trans rfl
                have hcz57_3 : w42.cell? ⟨gb163, 3, none⟩ = some (.int .i64 0) := (blk_cell BK163.out 3).trans rfl
                have hfz57_0 := blk_frozen BK163.out 0
                have hfz57_1 := blk_frozen BK163.out 1
                have hfz57_2 := blk_frozen BK163.out 2
                have hfz57_3 := blk_frozen BK163.out 3
                have hnb58 := NB143_151.out
                have hnc58 := NB151_143.out
                have hcz59_0 : w42.cell? ⟨gb143, 0, none⟩ = some (.slice Ao7 t136.length co7) := (blk_cell BK143.out 0).trans rfl
                have hcz59_1 : w42.cell? ⟨gb143, 1, none⟩ = some (.int .i64 t139) := (blk_cell BK143.out 1).trans rfl
                have hcz59_2 : w42.cell? ⟨gb143, 2, none⟩ = some (.bool t140) := (blk_cell BK143.out 2).trans rfl
                have hcz59_3 : w42.cell? ⟨gb143, 3, none⟩ = some (.int .i64 t141) := (blk_cell BK143.out 3).trans rfl
                have hfz59_0 := blk_frozen BK143.out 0
                have hfz59_1 := blk_frozen BK143.out 1
                have hfz59_2 := blk_frozen BK143.out 2
                have hfz59_3 := blk_frozen BK143.out 3
                go_wp2_with (first | ((with_reducible refine gate_callee (f := 13) rfl ?_); refine goesL_ (some 48) rfl rfl Try.func13 (by kernel_rfl) rfl #[.agg #[.slice Ao43 t156.length co43, .int .i64 t159, .bool t160, .int .i64 t161], .agg #[.slice Ao7 t136.length co7, .int .i64 t139, .bool t140, .int .i64 t141]] rfl (by (try simp only [List.map_toArray, List.map_cons, List.map_nil]); first | done | rfl | (simp only [List.length_drop, List.length_take]; rfl)) ?_; (with_reducible refine (laws_eqDisk.calls kj3 _ _ t156 t159 t160 t161 _ _ t136 t139 t140 t141 false _ ?side1 ?side2 ?side3 ?side4 A47.out).mono ?_); (case side1 => refine (Kd.S_reads' (e := 35) (base := w.heap.size) (ok := fun k_ => (((True ∧ w40.heap.size ≤ k_) ∧ some k_ ≠ (.slice Ao7 t136.length co7 : Value).ownBlock) ∧ some k_ ≠ (.slice Ao11 t144.length co11 : Value).ownBlock)) (n := t156.length) (c := co43) ?_).2.2; exact (by (with_reducible repeat (first | apply Kd.S_alloc | apply Kd.S_drewN | apply Kd.S_drew)); exact (Kd.S_mono (Kd.S_far (p := ⟨gb163, 3, none⟩) (Kd.S_far (p := ⟨gb163, 2, none⟩) (Kd.S_far (p := ⟨gb163, 1, none⟩) (Kd.S_far (p := ⟨gb163, 0, none⟩) (Kd.S_types HO158.out BK163.out (by decide)) (fun _ hk => hk.2) (.slice Ao43 t156.length co43)) (fun _ hk => hk.2) (.int .i64 t159)) (fun _ hk => hk.2) (.bool t160)) (fun _ hk => hk.2) (.int .i64 t161)) (fun _ h_ => h_.1)))); (case side2 => exact (Kd.S_reads' HO158.out).2.1); (case side3 => refine (Kd.S_reads' (e := 35) (base := w.heap.size) (ok := fun k_ => (((some k_ ≠ (.slice Ao11 t144.length co11 : Value).ownBlock ∧ (w.heap.size ≤ k_ ∧ k_ < w6.heap.size)) ∧ some k_ ≠ (.slice Ao43 t156.length co43 : Value).ownBlock) ∧ k_ < w40.heap.size)) (n := t136.length) (c := co7) ?_).2.2; exact (by (with_reducible repeat (first | apply Kd.S_alloc | apply Kd.S_drewN | apply Kd.S_drew)); exact (Kd.S_mono (Kd.S_far (p := ⟨gb163, 3, none⟩) (Kd.S_far (p := ⟨gb163, 2, none⟩) (Kd.S_far (p := ⟨gb163, 1, none⟩) (Kd.S_far (p := ⟨gb163, 0, none⟩) (Kd.S_types HO_144000.out BK163.out (by decide)) (fun _ hk => hk.2) (.slice Ao43 t156.length co43)) (fun _ hk => hk.2) (.int .i64 t159)) (fun _ hk => hk.2) (.bool t160)) (fun _ hk => hk.2) (.int .i64 t161)) (fun _ h_ => h_.1)))); (case side4 => exact (Kd.S_reads' HO_144000.out).2.1); rintro e w60 ⟨rfl, hb⟩; refine ⟨_, rfl, ?_⟩; have n0_ := Aside0.mk (Kd.S_below (by (with_reducible repeat (first | apply Kd.S_alloc | apply Kd.S_drewN | apply Kd.S_drew)); exact (Kd.S_mono (Kd.S_far (p := ⟨gb163, 3, none⟩) (Kd.S_far (p := ⟨gb163, 2, none⟩) (Kd.S_far (p := ⟨gb163, 1, none⟩) (Kd.S_far (p := ⟨gb163, 0, none⟩) (Kd.S_types HO_144000.out BK163.out (by decide)) (fun _ hk => hk.2) (.slice Ao43 t156.length co43)) (fun _ hk => hk.2) (.int .i64 t159)) (fun _ hk => hk.2) (.bool t160)) (fun _ hk => hk.2) (.int .i64 t161)) (fun _ h_ => h_.1))) hb); have n1_ := Aside0.mk (Kd.S_below (by (with_reducible repeat (first | apply Kd.S_alloc | apply Kd.S_drewN | apply Kd.S_drew)); exact (Kd.S_mono (Kd.S_far (p := ⟨gb163, 3, none⟩) (Kd.S_far (p := ⟨gb163, 2, none⟩) (Kd.S_far (p := ⟨gb163, 1, none⟩) (Kd.S_far (p := ⟨gb163, 0, none⟩) (Kd.S_types HO_152000.out BK163.out (by decide)) (fun _ hk => hk.2) (.slice Ao43 t156.length co43)) (fun _ hk => hk.2) (.int .i64 t159)) (fun _ hk => hk.2) (.bool t160)) (fun _ hk => hk.2) (.int .i64 t161)) (fun _ h_ => h_.1))) hb); have n2_ := Aside0.mk (Kd.S_below (by (with_reducible repeat (first | apply Kd.S_alloc | apply Kd.S_drewN | apply Kd.S_drew)); exact (Kd.S_mono (Kd.S_far (p := ⟨gb163, 3, none⟩) (Kd.S_far (p := ⟨gb163, 2, none⟩) (Kd.S_far (p := ⟨gb163, 1, none⟩) (Kd.S_far (p := ⟨gb163, 0, none⟩) (Kd.S_types HO158.out BK163.out (by decide)) (fun _ hk => hk.2) (.slice Ao43 t156.length co43)) (fun _ hk => hk.2) (.int .i64 t159)) (fun _ hk => hk.2) (.bool t160)) (fun _ hk => hk.2) (.int .i64 t161)) (fun _ h_ => h_.1))) hb); have n3_ := Aside0.mk (blk_below (g := gb143) (o := .cells #[.slice Ao7 t136.length co7, .int .i64 t139, .bool t140, .int .i64 t141] 24 (0, 0)) (by (with_reducible repeat (first | refine blk_drewN ?_ _ | refine blk_drew ?_ | refine blk_alloc ?_ _)); refine blk_far ?_ NB143_163.out _; (with_reducible repeat (first | refine blk_drewN ?_ _ | refine blk_drew ?_ | refine blk_alloc ?_ _)); refine blk_far ?_ NB143_163.out _; (with_reducible repeat (first | refine blk_drewN ?_ _ | refine blk_drew ?_ | refine blk_alloc ?_ _)); refine blk_far ?_ NB143_163.out _; (with_reducible repeat (first | refine blk_drewN ?_ _ | refine blk_drew ?_ | refine blk_alloc ?_ _)); refine blk_far ?_ NB143_163.out _; (with_reducible repeat (first | refine blk_drewN ?_ _ | refine blk_drew ?_ | refine blk_alloc ?_ _)); exact BK143.out) hb); have n4_ := Aside0.mk (blk_below (g := gb151) (o := .cells #[.slice Ao11 t144.length co11, .int .i64 t147, .bool t148, .int .i64 t149] 24 (0, 0)) (by (with_reducible repeat (first | refine blk_drewN ?_ _ | refine blk_drew ?_ | refine blk_alloc ?_ _)); refine blk_far ?_ NB151_163.out _; (with_reducible repeat (first | refine blk_drewN ?_ _ | refine blk_drew ?_ | refine blk_alloc ?_ _)); refine blk_far ?_ NB151_163.out _; (with_reducible repeat (first | refine blk_drewN ?_ _ | refine blk_drew ?_ | refine blk_alloc ?_ _)); refine blk_far ?_ NB151_163.out _; (with_reducible repeat (first | refine blk_drewN ?_ _ | refine blk_drew ?_ | refine blk_alloc ?_ _)); refine blk_far ?_ NB151_163.out _; (with_reducible repeat (first | refine blk_drewN ?_ _ | refine blk_drew ?_ | refine blk_alloc ?_ _)); exact BK151.out) hb); have n5_ := Aside0.mk (blk_below (g := gb163) (o := .cells #[.slice Ao43 t156.length co43, .int .i64 t159, .bool t160, .int .i64 t161] 24 (0, 0)) (by (with_reducible repeat (first | refine blk_drewN ?_ _ | refine blk_drew ?_ | refine blk_alloc ?_ _)); refine blk_put (cs := #[.slice Ao43 t156.length co43, .int .i64 t159, .bool t160, .int .i64 0]) ?_ 3 _ rfl; (with_reducible repeat (first | refine blk_drewN ?_ _ | refine blk_drew ?_ | refine blk_alloc ?_ _)); refine blk_put (cs := #[.slice Ao43 t156.length co43, .int .i64 t159, .bool false, .int .i64 0]) ?_ 2 _ rfl; (with_reducible repeat (first | refine blk_drewN ?_ _ | refine blk_drew ?_ | refine blk_alloc ?_ _)); refine blk_put (cs := #[.slice Ao43 t156.length co43, .int .i64 0, .bool false, .int .i64 0]) ?_ 1 _ rfl; (with_reducible repeat (first | refine blk_drewN ?_ _ | refine blk_drew ?_ | refine blk_alloc ?_ _)); refine blk_put (cs := #[.slice none 0 0, .int .i64 0, .bool false, .int .i64 0]) ?_ 0 _ rfl; (with_reducible repeat (first | refine blk_drewN ?_ _ | refine blk_drew ?_ | refine blk_alloc ?_ _)); exact BK163.out) hb); have n6_ := Aside0.mk (below_step (by repeat (first | (with_reducible first | exact HB.out | apply below_alloc | apply pw_below_drewN | apply below_drew1 | refine below_set ?_ GE143.out | refine below_set ?_ GE151.out | refine below_set ?_ GE163.out) | exact HB.out)) hb); clear HO_144000; clear HO_152000; clear HO158; clear BK143; clear BK151; clear BK163; clear HB; have HO_144000 := n0_; have HO_152000 := n1_; have HO158 := n2_; have BK143 := n3_; have BK151 := n4_; have BK163 := n5_; have HB := n6_; clear n0_ n1_ n2_ n3_ n4_ n5_ n6_; (try clear hb); (try clear hb2); (try clear hk); (try clear hi)))
                go_meet
                case rel => exact ⟨_, (true), (by first | rfl | (simp; done) | (simp [*]; done)), H', ⟨by have := HJ3.out; first | omega | exact Nat.le_refl _⟩, ⟨by (with_reducible repeat (first | apply Kd.S_alloc | apply Kd.S_drewN | apply Kd.S_drew)); exact Kd.S_mono HO_144000.out (fun _ hk => ⟨hk.1.1.1, ⟨hk.1.2, ⟨hk.1.1.2.1, ⟨hk.1.1.2.2, hk.2⟩⟩⟩⟩)⟩, ⟨by (with_reducible repeat (first | apply Kd.S_alloc | apply Kd.S_drewN | apply Kd.S_drew)); exact Kd.S_mono HO_152000.out (fun _ hk => ⟨hk.1.1, ⟨hk.1.2, hk.2⟩⟩)⟩, ⟨by (with_reducible repeat (first | apply Kd.S_alloc | apply Kd.S_drewN | apply Kd.S_drew)); exact Kd.S_mono HO158.out (fun _ hk => ⟨hk.1.2, ⟨hk.2, hk.1.1.2⟩⟩)⟩, ⟨by (with_reducible repeat (first | refine blk_drewN ?_ _ | refine blk_drew ?_ | refine blk_alloc ?_ _)); exact BK143.out⟩, ⟨by (with_reducible repeat (first | refine blk_drewN ?_ _ | refine blk_drew ?_ | refine blk_alloc ?_ _)); exact BK151.out⟩, ⟨by (with_reducible repeat (first | refine blk_drewN ?_ _ | refine blk_drew ?_ | refine blk_alloc ?_ _)); exact BK163.out⟩, ⟨by repeat (first | (with_reducible first | exact HB.out | apply below_alloc | apply pw_below_drewN | apply below_drew1 | refine below_set ?_ GE143.out | refine below_set ?_ GE151.out | refine below_set ?_ GE163.out) | exact HB.out)⟩⟩
            case rest =>
              clear HC35
              try clear c1
              try clear c2
              try clear p2
              try clear c3
              try clear c4
              try clear c5
              try clear c11
              try clear c12
              try clear c13
              try clear c14
              try clear c15
              try clear c16
              try clear c20
              try clear c24
              try clear c27
              try clear c27b0
              try clear c28
              try clear c33
              try clear c33b0
              try clear c33b1
              try clear c36
              try clear c44
              try clear c45
              try clear c48
              try clear c49
              try clear c50
              try clear c52
              try clear c55
              try clear c56
              try clear c58
              try clear hcz13_0
              try clear hcz13_1
              try clear hcz13_2
              try clear hcz13_3
              try clear hcz17_0
              try clear hcz17_1
              try clear hcz17_2
              try clear hcz17_3
              try clear hcz18_0
              try clear hcz18_1
              try clear hcz18_2
              try clear hcz18_3
              try clear hcz21_0
              try clear hcz21_1
              try clear hcz21_2
              try clear hcz21_3
              try clear hcz22_0
              try clear hcz22_1
              try clear hcz22_2
              try clear hcz22_3
              try clear hcz29_0
              try clear hcz29_1
              try clear hcz29_2
              try clear hcz29_3
              try clear hcz31_0
              try clear hcz31_1
              try clear hcz31_2
              try clear hcz31_3
              try clear hcz37_0
              try clear hcz37_1
              try clear hcz37_2
              try clear hcz37_3
              try clear hcz39_0
              try clear hcz39_1
              try clear hcz39_2
              try clear hcz39_3
              try clear hcz46_0
              try clear hcz46_1
              try clear hcz46_2
              try clear hcz46_3
              try clear hcz51_0
              try clear hcz51_1
              try clear hcz51_2
              try clear hcz51_3
              try clear hcz53_0
              try clear hcz53_1
              try clear hcz53_2
              try clear hcz53_3
              try clear hcz57_0
              try clear hcz57_1
              try clear hcz57_2
              try clear hcz57_3
              try clear hcz59_0
              try clear hcz59_1
              try clear hcz59_2
              try clear hcz59_3
              try clear hcz8_0
              try clear hcz8_1
              try clear hcz8_2
              try clear hcz8_3
              try clear hfz13_0
              try clear hfz13_1
              try clear hfz13_2
              try clear hfz13_3
              try clear hfz17_0
              try clear hfz17_1
              try clear hfz17_2
              try clear hfz17_3
              try clear hfz18_0
              try clear hfz18_1
              try clear hfz18_2
              try clear hfz18_3
              try clear hfz21_0
              try clear hfz21_1
              try clear hfz21_2
              try clear hfz21_3
              try clear hfz22_0
              try clear hfz22_1
              try clear hfz22_2
              try clear hfz22_3
              try clear hfz29_0
              try clear hfz29_1
              try clear hfz29_2
              try clear hfz29_3
              try clear hfz31_0
              try clear hfz31_1
              try clear hfz31_2
              try clear hfz31_3
              try clear hfz37_0
              try clear hfz37_1
              try clear hfz37_2
              try clear hfz37_3
              try clear hfz39_0
              try clear hfz39_1
              try clear hfz39_2
              try clear hfz39_3
              try clear hfz46_0
              try clear hfz46_1
              try clear hfz46_2
              try clear hfz46_3
              try clear hfz51_0
              try clear hfz51_1
              try clear hfz51_2
              try clear hfz51_3
              try clear hfz53_0
              try clear hfz53_1
              try clear hfz53_2
              try clear hfz53_3
              try clear hfz57_0
              try clear hfz57_1
              try clear hfz57_2
              try clear hfz57_3
              try clear hfz59_0
              try clear hfz59_1
              try clear hfz59_2
              try clear hfz59_3
              try clear hfz8_0
              try clear hfz8_1
              try clear hfz8_2
              try clear hfz8_3
              try clear p2
              obtain ⟨kq, x54_34, rfl, HA, HJ34, HO_144000, HO_152000, HO_164000, BK143, BK151, BK163, HB⟩ := hcut
              have hl152000_34 := (Kd.S_reads' HO_152000.out).1
              rw [hl152000_34] at HO_152000
              (try simp only [hl152000_34])
              (try simp only [hl152000_34] at BK143)
              (try simp only [hl152000_34] at BK151)
              (try simp only [hl152000_34] at BK163)
              (try simp only [hl152000_34] at HO_144000)
              (try simp only [hl152000_34] at HO_164000)
              cases kq with
              | zero => exact absurd HA.out (by simp [laws_FnExactNewDisk.j1])
              | succ kj34 =>
                have H := HA.out
                clear HA
                simp only [laws_FnExactNewDisk.j1] at H
                by_cases c61 : x54_34 = true
                · subst c61
                  have H1 : (some false) = some r := by rw [if_pos rfl] at H; exact H
                  clear H
                  have H := H1
                  clear H1
                  obtain rfl := Option.some.inj H
                  go_wp2
                  go_ret
                  exact ⟨by first | rfl | (simp [errW_none, errW_some] <;> rfl) | (simp [*, errW_none, errW_some] <;> rfl), by repeat (first | (with_reducible first | exact HB.out | apply below_alloc | apply pw_below_drewN | apply below_drew1 | refine below_set ?_ GE143.out | refine below_set ?_ GE151.out | refine below_set ?_ GE163.out) | exact HB.out)⟩
                · replace c61 := Bool.eq_false_iff.mpr c61
                  subst c61
                  have H1 : ((laws_heldDisk.f kj34 t154 t147 t148 t149 1).bind fun t165 => (if t165 < 0 then (some false) else (if t165 = t153 then (some true) else (some false)))) = some r := by rw [if_neg (show ¬ (false = true) by decide)] at H; exact H
                  clear H
                  have H := H1
                  clear H1
                  replace H := Option.bind_eq_some_iff.mp H
                  obtain ⟨t165, A620, H⟩ := H
                  replace H : (if t165 < 0 then (some false) else (if t165 = t153 then (some true) else (some false))) = some r := H
                  have A62 := Aside0.mk A620
                  clear A620
                  by_cases c63 : t165 < 0
                  · rw [if_pos c63] at H
                    have c63b0 : decide (t165 < 0) = true := decide_eq_true c63
                    clear c63
                    obtain rfl := Option.some.inj H
                    have hnb64 := NB151_143.out
                    have hnc64 := NB143_151.out
                    have hnb65 := NB151_163.out
                    have hnc65 := NB163_151.out
                    have hcz66_0 : wc.cell? ⟨gb151, 0, none⟩ = some (.slice Ao11 t154.length co11) := (blk_cell BK151.out 0).trans rfl
                    have hcz66_1 : wc.cell? ⟨gb151, 1, none⟩ = some (.int .i64 t147) := (blk_cell BK151.out 1).trans rfl
                    have hcz66_2 : wc.cell? ⟨gb151, 2, none⟩ = some (.bool t148) := (blk_cell BK151.out 2).trans rfl
                    have hcz66_3 : wc.cell? ⟨gb151, 3, none⟩ = some (.int .i64 t149) := (blk_cell BK151.out 3).trans rfl
                    have hfz66_0 := blk_frozen BK151.out 0
                    have hfz66_1 := blk_frozen BK151.out 1
                    have hfz66_2 := blk_frozen BK151.out 2
                    have hfz66_3 := blk_frozen BK151.out 3
                    go_wp2_with (first | ((with_reducible refine gate_callee (f := 15) rfl ?_); refine goesL_ (some 57) rfl rfl Try.func15 (by kernel_rfl) rfl #[.agg #[.slice Ao11 t154.length co11, .int .i64 t147, .bool t148, .int .i64 t149], .int .i64 1] rfl (by (try simp only [List.map_toArray, List.map_cons, List.map_nil]); first | done | rfl | (simp only [List.length_drop, List.length_take]; rfl)) ?_; (with_reducible refine (laws_heldDisk.calls kj34 _ _ t154 t147 t148 t149 1 t165 _ ?side1 ?side2 A62.out).mono ?_); (case side1 => repeat (first | exact (Kd.S_reads' HO_152000.out).2.2 | (with_reducible refine Kd.C_alloc ?_ _) | (with_reducible refine Kd.C_drewN ?_ _) | (with_reducible refine Kd.C_drew ?_))); (case side2 => exact (Kd.S_reads' HO_152000.out).2.1); rintro e w67 ⟨rfl, hb⟩; refine ⟨_, rfl, ?_⟩; have n0_ := Aside0.mk (Kd.S_below (by (with_reducible repeat (first | apply Kd.S_alloc | apply Kd.S_drewN | apply Kd.S_drew)); exact HO_144000.out) hb); have n1_ := Aside0.mk (Kd.S_below (by (with_reducible repeat (first | apply Kd.S_alloc | apply Kd.S_drewN | apply Kd.S_drew)); exact HO_152000.out) hb); have n2_ := Aside0.mk (Kd.S_below (by (with_reducible repeat (first | apply Kd.S_alloc | apply Kd.S_drewN | apply Kd.S_drew)); exact HO_164000.out) hb); have n3_ := Aside0.mk (blk_below (g := gb143) (o := .cells #[.slice Ao7 t136.length co7, .int .i64 t139, .bool t140, .int .i64 t141] 24 (0, 0)) (by (with_reducible repeat (first | refine blk_drewN ?_ _ | refine blk_drew ?_ | refine blk_alloc ?_ _)); exact BK143.out) hb); have n4_ := Aside0.mk (blk_below (g := gb151) (o := .cells #[.slice Ao11 t154.length co11, .int .i64 t147, .bool t148, .int .i64 t149] 24 (0, 0)) (by (with_reducible repeat (first | refine blk_drewN ?_ _ | refine blk_drew ?_ | refine blk_alloc ?_ _)); exact BK151.out) hb); have n5_ := Aside0.mk (blk_below (g := gb163) (o := .cells #[.slice Ao43 t156.length co43, .int .i64 t159, .bool t160, .int .i64 t161] 24 (0, 0)) (by (with_reducible repeat (first | refine blk_drewN ?_ _ | refine blk_drew ?_ | refine blk_alloc ?_ _)); exact BK163.out) hb); have n6_ := Aside0.mk (below_step (by repeat (first | (with_reducible first | exact HB.out | apply below_alloc | apply pw_below_drewN | apply below_drew1 | refine below_set ?_ GE143.out | refine below_set ?_ GE151.out | refine below_set ?_ GE163.out) | exact HB.out)) hb); clear HO_144000; clear HO_152000; clear HO_164000; clear BK143; clear BK151; clear BK163; clear HB; have HO_144000 := n0_; have HO_152000 := n1_; have HO_164000 := n2_; have BK143 := n3_; have BK151 := n4_; have BK163 := n5_; have HB := n6_; clear n0_ n1_ n2_ n3_ n4_ n5_ n6_; (try clear hb); (try clear hb2); (try clear hk); (try clear hi)))
                    go_ret
                    exact ⟨by first | rfl | (simp [errW_none, errW_some] <;> rfl) | (simp [*, errW_none, errW_some] <;> rfl), by repeat (first | (with_reducible first | exact HB.out | apply below_alloc | apply pw_below_drewN | apply below_drew1 | refine below_set ?_ GE143.out | refine below_set ?_ GE151.out | refine below_set ?_ GE163.out) | exact HB.out)⟩
                  · rw [if_neg c63] at H
                    have c63b0 : decide (t165 < 0) = false := decide_eq_false c63
                    clear c63
                    by_cases c68 : t165 = t153
                    · rw [if_pos c68] at H
                      have c68b0 : (t165 == t153) = true := beq_iff_eq.mpr c68
                      have c68b1 : (t165 != t153) = false := bne_eq_false_iff_eq.mpr c68
                      clear c68
                      obtain rfl := Option.some.inj H
                      have hnb69 := NB151_143.out
                      have hnc69 := NB143_151.out
                      have hnb70 := NB151_163.out
                      have hnc70 := NB163_151.out
                      have hcz71_0 : wc.cell? ⟨gb151, 0, none⟩ = some (.slice Ao11 t154.length co11) := (blk_cell BK151.out 0).trans rfl
                      have hcz71_1 : wc.cell? ⟨gb151, 1, none⟩ = some (.int .i64 t147) := (blk_cell BK151.out 1).trans rfl
                      have hcz71_2 : wc.cell? ⟨gb151, 2, none⟩ = some (.bool t148) := (blk_cell BK151.out 2).trans rfl
                      have hcz71_3 : wc.cell? ⟨gb151, 3, none⟩ = some (.int .i64 t149) := (blk_cell BK151.out 3).trans rfl
                      have hfz71_0 := blk_frozen BK151.out 0
                      have hfz71_1 := blk_frozen BK151.out 1
                      have hfz71_2 := blk_frozen BK151.out 2
                      have hfz71_3 := blk_frozen BK151.out 3
                      go_wp2_with (first | ((with_reducible refine gate_callee (f := 15) rfl ?_); refine goesL_ (some 57) rfl rfl Try.func15 (by kernel_rfl) rfl #[.agg #[.slice Ao11 t154.length co11, .int .i64 t147, .bool t148, .int .i64 t149], .int .i64 1] rfl (by (try simp only [List.map_toArray, List.map_cons, List.map_nil]); first | done | rfl | (simp only [List.length_drop, List.length_take]; rfl)) ?_; (with_reducible refine (laws_heldDisk.calls kj34 _ _ t154 t147 t148 t149 1 t165 _ ?side1 ?side2 A62.out).mono ?_); (case side1 => repeat (first | exact (Kd.S_reads' HO_152000.out).2.2 | (with_reducible refine Kd.C_alloc ?_ _) | (with_reducible refine Kd.C_drewN ?_ _) | (with_reducible refine Kd.C_drew ?_))); (case side2 => exact (Kd.S_reads' HO_152000.out).2.1); rintro e w72 ⟨rfl, hb⟩; refine ⟨_, rfl, ?_⟩; have n0_ := Aside0.mk (Kd.S_below (by (with_reducible repeat (first | apply Kd.S_alloc | apply Kd.S_drewN | apply Kd.S_drew)); exact HO_144000.out) hb); have n1_ := Aside0.mk (Kd.S_below (by (with_reducible repeat (first | apply Kd.S_alloc | apply Kd.S_drewN | apply Kd.S_drew)); exact HO_152000.out) hb); have n2_ := Aside0.mk (Kd.S_below (by (with_reducible repeat (first | apply Kd.S_alloc | apply Kd.S_drewN | apply Kd.S_drew)); exact HO_164000.out) hb); have n3_ := Aside0.mk (blk_below (g := gb143) (o := .cells #[.slice Ao7 t136.length co7, .int .i64 t139, .bool t140, .int .i64 t141] 24 (0, 0)) (by (with_reducible repeat (first | refine blk_drewN ?_ _ | refine blk_drew ?_ | refine blk_alloc ?_ _)); exact BK143.out) hb); have n4_ := Aside0.mk (blk_below (g := gb151) (o := .cells #[.slice Ao11 t154.length co11, .int .i64 t147, .bool t148, .int .i64 t149] 24 (0, 0)) (by (with_reducible repeat (first | refine blk_drewN ?_ _ | refine blk_drew ?_ | refine blk_alloc ?_ _)); exact BK151.out) hb); have n5_ := Aside0.mk (blk_below (g := gb163) (o := .cells #[.slice Ao43 t156.length co43, .int .i64 t159, .bool t160, .int .i64 t161] 24 (0, 0)) (by (with_reducible repeat (first | refine blk_drewN ?_ _ | refine blk_drew ?_ | refine blk_alloc ?_ _)); exact BK163.out) hb); have n6_ := Aside0.mk (below_step (by repeat (first | (with_reducible first | exact HB.out | apply below_alloc | apply pw_below_drewN | apply below_drew1 | refine below_set ?_ GE143.out | refine below_set ?_ GE151.out | refine below_set ?_ GE163.out) | exact HB.out)) hb); clear HO_144000; clear HO_152000; clear HO_164000; clear BK143; clear BK151; clear BK163; clear HB; have HO_144000 := n0_; have HO_152000 := n1_; have HO_164000 := n2_; have BK143 := n3_; have BK151 := n4_; have BK163 := n5_; have HB := n6_; clear n0_ n1_ n2_ n3_ n4_ n5_ n6_; (try clear hb); (try clear hb2); (try clear hk); (try clear hi)))
                      go_ret
                      exact ⟨by first | rfl | (simp [errW_none, errW_some] <;> rfl) | (simp [*, errW_none, errW_some] <;> rfl), by repeat (first | (with_reducible first | exact HB.out | apply below_alloc | apply pw_below_drewN | apply below_drew1 | refine below_set ?_ GE143.out | refine below_set ?_ GE151.out | refine below_set ?_ GE163.out) | exact HB.out)⟩
                    · rw [if_neg c68] at H
                      have c68b0 : (t165 == t153) = false := beq_eq_false_iff_ne.mpr c68
                      have c68b1 : (t165 != t153) = true := bne_iff_ne.mpr c68
                      obtain rfl := Option.some.inj H
                      have hnb73 := NB151_143.out
                      have hnc73 := NB143_151.out
                      have hnb74 := NB151_163.out
                      have hnc74 := NB163_151.out
                      have hcz75_0 : wc.cell? ⟨gb151, 0, none⟩ = some (.slice Ao11 t154.length co11) := (blk_cell BK151.out 0).trans rfl
                      have hcz75_1 : wc.cell? ⟨gb151, 1, none⟩ = some (.int .i64 t147) := (blk_cell BK151.out 1).trans rfl
                      have hcz75_2 : wc.cell? ⟨gb151, 2, none⟩ = some (.bool t148) := (blk_cell BK151.out 2).trans rfl
                      have hcz75_3 : wc.cell? ⟨gb151, 3, none⟩ = some (.int .i64 t149) := (blk_cell BK151.out 3).trans rfl
                      have hfz75_0 := blk_frozen BK151.out 0
                      have hfz75_1 := blk_frozen BK151.out 1
                      have hfz75_2 := blk_frozen BK151.out 2
                      have hfz75_3 := blk_frozen BK151.out 3
                      go_wp2_with (first | ((with_reducible refine gate_callee (f := 15) rfl ?_); refine goesL_ (some 57) rfl rfl Try.func15 (by kernel_rfl) rfl #[.agg #[.slice Ao11 t154.length co11, .int .i64 t147, .bool t148, .int .i64 t149], .int .i64 1] rfl (by (try simp only [List.map_toArray, List.map_cons, List.map_nil]); first | done | rfl | (simp only [List.length_drop, List.length_take]; rfl)) ?_; (with_reducible refine (laws_heldDisk.calls kj34 _ _ t154 t147 t148 t149 1 t165 _ ?side1 ?side2 A62.out).mono ?_); (case side1 => repeat (first | exact (Kd.S_reads' HO_152000.out).2.2 | (with_reducible refine Kd.C_alloc ?_ _) | (with_reducible refine Kd.C_drewN ?_ _) | (with_reducible refine Kd.C_drew ?_))); (case side2 => exact (Kd.S_reads' HO_152000.out).2.1); rintro e w76 ⟨rfl, hb⟩; refine ⟨_, rfl, ?_⟩; have n0_ := Aside0.mk (Kd.S_below (by (with_reducible repeat (first | apply Kd.S_alloc | apply Kd.S_drewN | apply Kd.S_drew)); exact HO_144000.out) hb); have n1_ := Aside0.mk (Kd.S_below (by (with_reducible repeat (first | apply Kd.S_alloc | apply Kd.S_drewN | apply Kd.S_drew)); exact HO_152000.out) hb); have n2_ := Aside0.mk (Kd.S_below (by (with_reducible repeat (first | apply Kd.S_alloc | apply Kd.S_drewN | apply Kd.S_drew)); exact HO_164000.out) hb); have n3_ := Aside0.mk (blk_below (g := gb143) (o := .cells #[.slice Ao7 t136.length co7, .int .i64 t139, .bool t140, .int .i64 t141] 24 (0, 0)) (by (with_reducible repeat (first | refine blk_drewN ?_ _ | refine blk_drew ?_ | refine blk_alloc ?_ _)); exact BK143.out) hb); have n4_ := Aside0.mk (blk_below (g := gb151) (o := .cells #[.slice Ao11 t154.length co11, .int .i64 t147, .bool t148, .int .i64 t149] 24 (0, 0)) (by (with_reducible repeat (first | refine blk_drewN ?_ _ | refine blk_drew ?_ | refine blk_alloc ?_ _)); exact BK151.out) hb); have n5_ := Aside0.mk (blk_below (g := gb163) (o := .cells #[.slice Ao43 t156.length co43, .int .i64 t159, .bool t160, .int .i64 t161] 24 (0, 0)) (by (with_reducible repeat (first | refine blk_drewN ?_ _ | refine blk_drew ?_ | refine blk_alloc ?_ _)); exact BK163.out) hb); have n6_ := Aside0.mk (below_step (by repeat (first | (with_reducible first | exact HB.out | apply below_alloc | apply pw_below_drewN | apply below_drew1 | refine below_set ?_ GE143.out | refine below_set ?_ GE151.out | refine below_set ?_ GE163.out) | exact HB.out)) hb); clear HO_144000; clear HO_152000; clear HO_164000; clear BK143; clear BK151; clear BK163; clear HB; have HO_144000 := n0_; have HO_152000 := n1_; have HO_164000 := n2_; have BK143 := n3_; have BK151 := n4_; have BK163 := n5_; have HB := n6_; clear n0_ n1_ n2_ n3_ n4_ n5_ n6_; (try clear hb); (try clear hb2); (try clear hk); (try clear hi)))
                      go_ret
                      exact ⟨by first | rfl | (simp [errW_none, errW_some] <;> rfl) | (simp [*, errW_none, errW_some] <;> rfl), by repeat (first | (with_reducible first | exact HB.out | apply below_alloc | apply pw_below_drewN | apply below_drew1 | refine below_set ?_ GE143.out | refine below_set ?_ GE151.out | refine below_set ?_ GE163.out) | exact HB.out)⟩
          · rw [if_neg c33] at H
            have c33b0 : (t155 == t153) = false := beq_eq_false_iff_ne.mpr c33
            have c33b1 : (t155 != t153) = true := bne_iff_ne.mpr c33
            obtain rfl := Option.some.inj H
            have hnb77 := NB151_143.out
            have hnc77 := NB143_151.out
            have hcz78_0 : wc.cell? ⟨gb151, 0, none⟩ = some (.slice Ao11 t144.length co11) := (blk_cell BK151.out 0).trans rfl
            have hcz78_1 : wc.cell? ⟨gb151, 1, none⟩ = some (.int .i64 t147) := (blk_cell BK151.out 1).trans rfl
            have hcz78_2 : wc.cell? ⟨gb151, 2, none⟩ = some (.bool t148) := (blk_cell BK151.out 2).trans rfl
            have hcz78_3 : wc.cell? ⟨gb151, 3, none⟩ = some (.int .i64 t149) := (blk_cell BK151.out 3).trans rfl
            have hfz78_0 := blk_frozen BK151.out 0
            have hfz78_1 := blk_frozen BK151.out 1
            have hfz78_2 := blk_frozen BK151.out 2
            have hfz78_3 := blk_frozen BK151.out 3
            go_wp2_with (first | ((with_reducible refine gate_callee (f := 14) rfl ?_); refine goesL_ (some 32) rfl rfl Try.func14 (by kernel_rfl) rfl #[.agg #[.slice Ao11 t144.length co11, .int .i64 t147, .bool t148, .int .i64 t149], .int .i64 1] rfl (by (try simp only [List.map_toArray, List.map_cons, List.map_nil]); first | done | rfl | (simp only [List.length_drop, List.length_take]; rfl)) ?_; (with_reducible refine (laws_markDisk.calls kj3 (SB_ (Kd.slice 5 (Kd.int .u8)) 35 wc w.heap.size (fun k_ => (some k_ ≠ (.slice Ao7 t136.length co7 : Value).ownBlock ∧ w6.heap.size ≤ k_))) (.slice Ao11 t144.length co11) t144 t147 t148 t149 1 t153 t154 w _ ?side1 ?side2 A25.out).mono ?_); (case side1 => repeat (first | (with_reducible first | exact HB.out | apply below_alloc | apply pw_below_drewN | apply below_drew1 | refine below_set ?_ GE143.out | refine below_set ?_ GE151.out) | exact HB.out)); (case side2 => exact SB_own HO_152000.out); rintro e w79 ⟨rfl, hy0, hb, hkp⟩; refine ⟨_, rfl, ?_⟩; have n0_ := Aside0.mk (Kd.S_mono (ok' := fun k_ => some k_ ≠ (.slice Ao11 t144.length co11 : Value).ownBlock ∧ w.heap.size ≤ k_ ∧ k_ < w6.heap.size) (Kd.S_keptB ((S_apartSBn (d' := (Kd.slice 5 (Kd.int .u8))) (e' := 35) (base' := w.heap.size) (ok' := (fun k_ => (some k_ ≠ (.slice Ao7 t136.length co7 : Value).ownBlock ∧ w6.heap.size ≤ k_))) HO_144000.out (fun k_ hk h2_ => absurd (hk.2.2) (Nat.not_lt.2 (h2_.2))))) hkp (fun k_ hk_ hs_ => (hk_.2) hs_)) (fun k_ hk_ => ⟨hk_.1.1.1, hk_.1.1.2.1, hk_.1.1.2.2⟩)); have n1_ := Aside0.mk (Kd.S_mono (ok' := fun k_ => some k_ ≠ (.slice Ao7 t136.length co7 : Value).ownBlock) hy0 (fun k_ h_ => Or.elim h_ (fun p_ => p_.1.1) (fun n_ => (Kd.fresh' (Kd.S_lt (by (with_reducible repeat (first | apply Kd.S_alloc | apply Kd.S_drewN | apply Kd.S_drew)); exact HO_144000.out)) k_ n_)))); have n2_ := Aside0.mk (blk_kept (by (with_reducible repeat (first | refine blk_drewN ?_ _ | refine blk_drew ?_ | refine blk_alloc ?_ _)); exact BK143.out) hkp (fun hs_ => (fun e_ => (blk_SB BK143.out (by decide)) e_) hs_)); have n3_ := Aside0.mk (blk_kept (by (with_reducible repeat (first | refine blk_drewN ?_ _ | refine blk_drew ?_ | refine blk_alloc ?_ _)); exact BK151.out) hkp (fun hs_ => (fun e_ => (blk_SB BK151.out (by decide)) e_) hs_)); have n4_ := Aside0.mk (hb); clear HO_144000; clear HO_152000; clear BK143; clear BK151; clear HB; have HO_144000 := n0_; have HO_152000 := n1_; have BK143 := n2_; have BK151 := n3_; have HB := n4_; clear n0_ n1_ n2_ n3_ n4_; (try clear hb); (try clear hkp); (try clear hy0); have hcz80_0 : w79.cell? ⟨gb151, 0, none⟩ = some (.slice Ao11 t144.length co11) := (blk_cell BK151.out 0).trans rfl; have hcz80_1 : w79.cell? ⟨gb151, 1, none⟩ = some (.int .i64 t147) := (blk_cell BK151.out 1).trans rfl; have hcz80_2 : w79.cell? ⟨gb151, 2, none⟩ = some (.bool t148) := (blk_cell BK151.out 2).trans rfl; have hcz80_3 : w79.cell? ⟨gb151, 3, none⟩ = some (.int .i64 t149) := (blk_cell BK151.out 3).trans rfl; have hfz80_0 := blk_frozen BK151.out 0; have hfz80_1 := blk_frozen BK151.out 1; have hfz80_2 := blk_frozen BK151.out 2; have hfz80_3 := blk_frozen BK151.out 3) | ((with_reducible refine gate_callee (f := 15) rfl ?_); refine goesL_ (some 35) rfl rfl Try.func15 (by kernel_rfl) rfl #[.agg #[.slice Ao11 t154.length co11, .int .i64 t147, .bool t148, .int .i64 t149], .int .i64 1] rfl (by (try simp only [List.map_toArray, List.map_cons, List.map_nil]); first | done | (rw [show t154.length = t144.length from (Kd.S_reads' HO_152000.out).1.symm] <;> rfl) | rfl | (simp only [List.length_drop, List.length_take]; rfl)) ?_; (with_reducible refine (laws_heldDisk.calls kj3 _ _ t154 t147 t148 t149 1 t155 _ ?side1 ?side2 A26.out).mono ?_); (case side1 => repeat (first | exact (Kd.S_reads' HO_152000.out).2.2 | (with_reducible refine Kd.C_alloc ?_ _) | (with_reducible refine Kd.C_drewN ?_ _) | (with_reducible refine Kd.C_drew ?_))); (case side2 => rw [show t154.length = t144.length from (Kd.S_reads' HO_152000.out).1.symm]; exact (Kd.S_reads' HO_152000.out).2.1); rintro e w81 ⟨rfl, hb⟩; refine ⟨_, rfl, ?_⟩; have n0_ := Aside0.mk (Kd.S_below (by (with_reducible repeat (first | apply Kd.S_alloc | apply Kd.S_drewN | apply Kd.S_drew)); exact HO_144000.out) hb); have n1_ := Aside0.mk (Kd.S_below (by (with_reducible repeat (first | apply Kd.S_alloc | apply Kd.S_drewN | apply Kd.S_drew)); exact HO_152000.out) hb); have n2_ := Aside0.mk (blk_below (g := gb143) (o := .cells #[.slice Ao7 t136.length co7, .int .i64 t139, .bool t140, .int .i64 t141] 24 (0, 0)) (by (with_reducible repeat (first | refine blk_drewN ?_ _ | refine blk_drew ?_ | refine blk_alloc ?_ _)); exact BK143.out) hb); have n3_ := Aside0.mk (blk_below (g := gb151) (o := .cells #[.slice Ao11 t144.length co11, .int .i64 t147, .bool t148, .int .i64 t149] 24 (0, 0)) (by (with_reducible repeat (first | refine blk_drewN ?_ _ | refine blk_drew ?_ | refine blk_alloc ?_ _)); exact BK151.out) hb); have n4_ := Aside0.mk (below_step (by repeat (first | (with_reducible first | exact HB.out | apply below_alloc | apply pw_below_drewN | apply below_drew1 | refine below_set ?_ GE143.out | refine below_set ?_ GE151.out) | exact HB.out)) hb); clear HO_144000; clear HO_152000; clear BK143; clear BK151; clear HB; have HO_144000 := n0_; have HO_152000 := n1_; have BK143 := n2_; have BK151 := n3_; have HB := n4_; clear n0_ n1_ n2_ n3_ n4_; (try clear hb); (try clear hb2); (try clear hk); (try clear hi)))
            go_ret
            exact ⟨by first | rfl | (simp [errW_none, errW_some] <;> rfl) | (simp [*, errW_none, errW_some] <;> rfl), by repeat (first | (with_reducible first | exact HB.out | apply below_alloc | apply pw_below_drewN | apply below_drew1 | refine below_set ?_ GE143.out | refine below_set ?_ GE151.out) | exact HB.out)⟩

/-- THE ONE PURE STATEMENT of laws_FnExactNewDisk: yours. -/
def laws_FnExactNewDisk.Pure : Prop := ∀ (a0 : Int), (Lit.int .i64 a0).wf = true → ∃ k, laws_FnExactNewDisk.f k a0 = some true
theorem laws_FnExactNewDisk.walk (P : laws_FnExactNewDisk.Pure) (a0 : Int) (w : World) (w0 : (Lit.int .i64 a0).wf = true) :
    Calls Try.prog 3 #[.int .i64 a0] w fun e w' => e = .returned (.bool true) ∧ Below w.heap.size w w' := by
  obtain ⟨k, h⟩ := P a0 w0
  refine (laws_FnExactNewDisk.calls k a0 true w h).mono ?_
  rintro e w' ⟨rfl, hd⟩
  exact ⟨rfl, hd⟩

end Go.Proofs.Ythbbcnjnbfhcbaa.PFnExactNewDisk
