-- Written by a program of this session over the print of the kit (wip/t/patch_print.py).
import Derived.Test.YtdlicabmalljpaaWChunk
import Derived.Test.YtdlicabmalljpaaWRound
import Derived.Test.YtdlicabmalljpaaPFnExactReadRunsx0
import Derived.Test.YtdlicabmalljpaaPFnExactReadRunsx3
namespace Go.Proofs.Ytdlicabmalljpaa.PFnExactReadRuns
open Go.RowKit Go.Proofs.YtdlicabmalljpaaW.PrintWords Go.Proofs.YtdlicabmalljpaaW.PrintLast Go.Proofs.YtdlicabmalljpaaW.PrintMore
attribute [local go_sem] max2_int min2_int max_two min_two max_three min_three max_four min_four   -- for this text's walks alone
set_option linter.unusedVariables false
set_option linter.unusedSimpArgs false

/-! ### impl_GoodRuns: function 61 -/
mutual
def impl_GoodRuns.j0 : Nat → List (S74) → Int → Int → Bool → Option (Bool)
  | 0, _, _, _, _ => none
  | k + 1, x0, x1, x2, x17 => if x17 = true then (some false) else (impl_GoodRuns.l0 k x0 x1 x2 0 x0 (x0.length : Int) 0)
def impl_GoodRuns.l0 : Nat → List (S74) → Int → Int → Int → List (S74) → Int → Int → Option (Bool)
  | 0, _, _, _, _, _, _, _ => none
  | k + 1, x0, x1, x2, x7, x18, x19, x20 => if x20 < x19 then (if 0 ≤ x20 then (if x20 < (x18.length : Int) then ((impl_within.f ((rd_T74 x18 x20).f0) 0 x2).bind fun t138 => (if t138 = true then ((impl_within.f ((rd_T74 x18 x20).f1) 1 120).bind fun t139 => (if t139 = true then (if x20 > 0 then (if 0 ≤ (wrap64 (x20 - 1)) then (if (wrap64 (x20 - 1)) < (x0.length : Int) then (impl_GoodRuns.j2 k x0 x1 x2 x7 x18 x19 x20 (((rd_T74 x0 (wrap64 (x20 - 1))).f0) == ((rd_T74 x18 x20).f0)) ((rd_T74 x18 x20).f0) ((rd_T74 x18 x20).f1)) else (none)) else (none)) else (impl_GoodRuns.j2 k x0 x1 x2 x7 x18 x19 x20 false ((rd_T74 x18 x20).f0) ((rd_T74 x18 x20).f1))) else (impl_GoodRuns.j2 k x0 x1 x2 x7 x18 x19 x20 true ((rd_T74 x18 x20).f0) ((rd_T74 x18 x20).f1)))) else (impl_GoodRuns.j2 k x0 x1 x2 x7 x18 x19 x20 true ((rd_T74 x18 x20).f0) ((rd_T74 x18 x20).f1)))) else (none)) else (none)) else (some (x7 == x1))
def impl_GoodRuns.j2 : Nat → List (S74) → Int → Int → Int → List (S74) → Int → Int → Bool → Int → Int → Option (Bool)
  | 0, _, _, _, _, _, _, _, _, _, _ => none
  | k + 1, x0, x1, x2, x7, x18, x19, x20, x50, x138000, x138001 => if x50 = true then (some false) else (if (wrap64 (x7 + x138001)) > x1 then (some false) else (impl_GoodRuns.l0 k x0 x1 x2 (wrap64 (x7 + x138001)) x18 x19 (wrap64 (x20 + 1))))
end
def impl_GoodRuns.f (k : Nat) (l0 : List (S74)) (a1 : Int) (a2 : Int) : Option (Bool) := (impl_within.f a1 0 120).bind fun t134 => (if t134 = true then ((impl_within.f a2 0 60).bind fun t135 => (impl_GoodRuns.j0 k l0 a1 a2 (!t135))) else (impl_GoodRuns.j0 k l0 a1 a2 true))
theorem impl_GoodRuns.mono_l : ∀ k, (∀ y0 y1 y2 y3, LeO (impl_GoodRuns.j0 k y0 y1 y2 y3) (impl_GoodRuns.j0 (k + 1) y0 y1 y2 y3)) ∧ (∀ y0 y1 y2 y3 y4 y5 y6, LeO (impl_GoodRuns.l0 k y0 y1 y2 y3 y4 y5 y6) (impl_GoodRuns.l0 (k + 1) y0 y1 y2 y3 y4 y5 y6)) ∧ (∀ y0 y1 y2 y3 y4 y5 y6 y7 y8 y9, LeO (impl_GoodRuns.j2 k y0 y1 y2 y3 y4 y5 y6 y7 y8 y9) (impl_GoodRuns.j2 (k + 1) y0 y1 y2 y3 y4 y5 y6 y7 y8 y9))
  | 0 => ⟨fun _ _ _ _ r h => by simp [impl_GoodRuns.j0] at h, fun _ _ _ _ _ _ _ r h => by simp [impl_GoodRuns.l0] at h, fun _ _ _ _ _ _ _ _ _ _ r h => by simp [impl_GoodRuns.j2] at h⟩
  | k + 1 => by
    obtain ⟨ih0, ih1, ih2⟩ := impl_GoodRuns.mono_l k
    refine ⟨?_, ?_, ?_⟩
    · intro y0 y1 y2 y3
      unfold impl_GoodRuns.j0
      repeat' first
      | (with_reducible exact ih0 _ _ _ _)
      | (with_reducible exact ih1 _ _ _ _ _ _ _)
      | (with_reducible exact ih2 _ _ _ _ _ _ _ _ _ _)
      | (with_reducible exact LeO.refl _)
      | (with_reducible exact LeO.none _)
      | (with_reducible refine LeO.ite ?_ ?_)
      | (with_reducible refine LeO.bind ?_ (fun _ => ?_))
      | exact ih0 _ _ _ _
      | exact ih1 _ _ _ _ _ _ _
      | exact ih2 _ _ _ _ _ _ _ _ _ _
      | exact LeO.none _
      | refine LeO.ite ?_ ?_
      | refine LeO.bind ?_ (fun _ => ?_)
    · intro y0 y1 y2 y3 y4 y5 y6
      unfold impl_GoodRuns.l0
      repeat' first
      | (with_reducible exact ih0 _ _ _ _)
      | (with_reducible exact ih1 _ _ _ _ _ _ _)
      | (with_reducible exact ih2 _ _ _ _ _ _ _ _ _ _)
      | (with_reducible exact LeO.refl _)
      | (with_reducible exact LeO.none _)
      | (with_reducible refine LeO.ite ?_ ?_)
      | (with_reducible refine LeO.bind ?_ (fun _ => ?_))
      | exact ih0 _ _ _ _
      | exact ih1 _ _ _ _ _ _ _
      | exact ih2 _ _ _ _ _ _ _ _ _ _
      | exact LeO.none _
      | refine LeO.ite ?_ ?_
      | refine LeO.bind ?_ (fun _ => ?_)
    · intro y0 y1 y2 y3 y4 y5 y6 y7 y8 y9
      unfold impl_GoodRuns.j2
      repeat' first
      | (with_reducible exact ih0 _ _ _ _)
      | (with_reducible exact ih1 _ _ _ _ _ _ _)
      | (with_reducible exact ih2 _ _ _ _ _ _ _ _ _ _)
      | (with_reducible exact LeO.refl _)
      | (with_reducible exact LeO.none _)
      | (with_reducible refine LeO.ite ?_ ?_)
      | (with_reducible refine LeO.bind ?_ (fun _ => ?_))
      | exact ih0 _ _ _ _
      | exact ih1 _ _ _ _ _ _ _
      | exact ih2 _ _ _ _ _ _ _ _ _ _
      | exact LeO.none _
      | refine LeO.ite ?_ ?_
      | refine LeO.bind ?_ (fun _ => ?_)
theorem impl_GoodRuns.mono : ∀ a0 a1 a2 k, LeO (impl_GoodRuns.f k a0 a1 a2) (impl_GoodRuns.f (k + 1) a0 a1 a2) := by
  intro a0 a1 a2 k
  obtain ⟨ih0, ih1, ih2⟩ := impl_GoodRuns.mono_l k
  unfold impl_GoodRuns.f
  repeat' first
      | (with_reducible exact ih0 _ _ _ _)
      | (with_reducible exact ih1 _ _ _ _ _ _ _)
      | (with_reducible exact ih2 _ _ _ _ _ _ _ _ _ _)
      | (with_reducible exact LeO.refl _)
      | (with_reducible exact LeO.none _)
      | (with_reducible refine LeO.ite ?_ ?_)
      | (with_reducible refine LeO.bind ?_ (fun _ => ?_))
      | exact ih0 _ _ _ _
      | exact ih1 _ _ _ _ _ _ _
      | exact ih2 _ _ _ _ _ _ _ _ _ _
      | exact LeO.none _
      | refine LeO.ite ?_ ?_
      | refine LeO.bind ?_ (fun _ => ?_)
set_option maxHeartbeats 8000000 in
set_option maxRecDepth 100000 in
theorem impl_GoodRuns.calls (k : Nat) (A0 : Option Addr) (c0 : Nat) (l0 : List (S74)) (a1 : Int) (a2 : Int) (r : Bool) (w : World) (hr0 : Kd.C k74 w A0 l0.length l0) (hc0 : l0.length ≤ c0) (h : impl_GoodRuns.f k l0 a1 a2 = some r) :
    Calls Try.prog 61 #[.slice A0 l0.length c0, .int .i64 a1, .int .i64 a2] w fun e w' => e = .returned (.bool r) ∧ Below w.heap.size w w' := by
  have hu74 := Try.underlying74
  have HR0 := Aside0.mk hr0
  have HC0 := Aside0.mk hc0
  clear hr0 hc0
  have HB := Aside0.mk (Below.refl w.heap.size w)
  have H : ((impl_within.f a1 0 120).bind fun t134 => (if t134 = true then ((impl_within.f a2 0 60).bind fun t135 => (impl_GoodRuns.j0 k l0 a1 a2 (!t135))) else (impl_GoodRuns.j0 k l0 a1 a2 true))) = some r := h
  clear h
  have HC4 := Aside0.mk H
  clear H
  go_enter Try.func61, Try.ntmps61
  go_upto_region 1 with (fail)
  repeat (go_quiet (fail); go_upto_region 1 with (fail))
  go_cut [17] (fun v17 wc => ∃ (kq : Nat) (x17_3 : Bool), v17 = .bool x17_3 ∧ Aside0 (impl_GoodRuns.j0 kq l0 a1 a2 x17_3 = some r) ∧ Aside0 (kq ≤ k) ∧ Aside0 (Below w.heap.size w wc))
  case first =>
    have H := HC4.out
    clear HC4
    replace H := Option.bind_eq_some_iff.mp H
    obtain ⟨t134, A50, H⟩ := H
    replace H : (if t134 = true then ((impl_within.f a2 0 60).bind fun t135 => (impl_GoodRuns.j0 k l0 a1 a2 (!t135))) else (impl_GoodRuns.j0 k l0 a1 a2 true)) = some r := H
    have A5 := Aside0.mk A50
    clear A50
    by_cases c6 : t134 = true
    · subst c6
      have H1 : ((impl_within.f a2 0 60).bind fun t135 => (impl_GoodRuns.j0 k l0 a1 a2 (!t135))) = some r := by rw [if_pos rfl] at H; exact H
      clear H
      have H := H1
      clear H1
      replace H := Option.bind_eq_some_iff.mp H
      obtain ⟨t135, A70, H⟩ := H
      replace H : (impl_GoodRuns.j0 k l0 a1 a2 (!t135)) = some r := H
      have A7 := Aside0.mk A70
      clear A70
      have H' := Aside0.mk H
      clear H
      go_wp2_with (first | (go_at_call 49; (with_reducible refine (impl_within.calls a1 0 120 true _ A5.out).mono ?_); rintro e w' ⟨rfl, ⟨nd, rfl⟩⟩; (try first | exact ⟨rfl, _, World.drewN_drewN _ _ _⟩ | exact ⟨rfl, _, Eq.trans (World.drewN_drewN _ _ _) (congrArg (World.drewN _) (Nat.add_assoc _ _ _))⟩)) | (go_at_call 49; (with_reducible refine (impl_within.calls a2 0 60 t135 _ A7.out).mono ?_); rintro e w' ⟨rfl, ⟨nd, rfl⟩⟩; (try first | exact ⟨rfl, _, World.drewN_drewN _ _ _⟩ | exact ⟨rfl, _, Eq.trans (World.drewN_drewN _ _ _) (congrArg (World.drewN _) (Nat.add_assoc _ _ _))⟩)))
      repeat (go_quiet (first | (go_at_call 49; (with_reducible refine (impl_within.calls a1 0 120 true _ A5.out).mono ?_); rintro e w' ⟨rfl, ⟨nd, rfl⟩⟩; (try first | exact ⟨rfl, _, World.drewN_drewN _ _ _⟩ | exact ⟨rfl, _, Eq.trans (World.drewN_drewN _ _ _) (congrArg (World.drewN _) (Nat.add_assoc _ _ _))⟩)) | (go_at_call 49; (with_reducible refine (impl_within.calls a2 0 60 t135 _ A7.out).mono ?_); rintro e w' ⟨rfl, ⟨nd, rfl⟩⟩; (try first | exact ⟨rfl, _, World.drewN_drewN _ _ _⟩ | exact ⟨rfl, _, Eq.trans (World.drewN_drewN _ _ _) (congrArg (World.drewN _) (Nat.add_assoc _ _ _))⟩))); try go_wp2_with (first | (go_at_call 49; (with_reducible refine (impl_within.calls a1 0 120 true _ A5.out).mono ?_); rintro e w' ⟨rfl, ⟨nd, rfl⟩⟩; (try first | exact ⟨rfl, _, World.drewN_drewN _ _ _⟩ | exact ⟨rfl, _, Eq.trans (World.drewN_drewN _ _ _) (congrArg (World.drewN _) (Nat.add_assoc _ _ _))⟩)) | (go_at_call 49; (with_reducible refine (impl_within.calls a2 0 60 t135 _ A7.out).mono ?_); rintro e w' ⟨rfl, ⟨nd, rfl⟩⟩; (try first | exact ⟨rfl, _, World.drewN_drewN _ _ _⟩ | exact ⟨rfl, _, Eq.trans (World.drewN_drewN _ _ _) (congrArg (World.drewN _) (Nat.add_assoc _ _ _))⟩))))
      go_meet
      case rel => exact ⟨_, (!t135), (by first | rfl | (simp; done) | (simp [*]; done)), H', ⟨by first | omega | exact Nat.le_refl _⟩, ⟨by repeat (first | (with_reducible first | exact HB.out | apply below_alloc | apply pw_below_drewN | apply below_drew1) | exact HB.out)⟩⟩
    · replace c6 := Bool.eq_false_iff.mpr c6
      subst c6
      have H1 : (impl_GoodRuns.j0 k l0 a1 a2 true) = some r := by rw [if_neg (show ¬ (false = true) by decide)] at H; exact H
      clear H
      have H := H1
      clear H1
      have H' := Aside0.mk H
      clear H
      go_wp2_with (first | (go_at_call 49; (with_reducible refine (impl_within.calls a1 0 120 false _ A5.out).mono ?_); rintro e w' ⟨rfl, ⟨nd, rfl⟩⟩; (try first | exact ⟨rfl, _, World.drewN_drewN _ _ _⟩ | exact ⟨rfl, _, Eq.trans (World.drewN_drewN _ _ _) (congrArg (World.drewN _) (Nat.add_assoc _ _ _))⟩)))
      repeat (go_quiet (first | (go_at_call 49; (with_reducible refine (impl_within.calls a1 0 120 false _ A5.out).mono ?_); rintro e w' ⟨rfl, ⟨nd, rfl⟩⟩; (try first | exact ⟨rfl, _, World.drewN_drewN _ _ _⟩ | exact ⟨rfl, _, Eq.trans (World.drewN_drewN _ _ _) (congrArg (World.drewN _) (Nat.add_assoc _ _ _))⟩))); try go_wp2_with (first | (go_at_call 49; (with_reducible refine (impl_within.calls a1 0 120 false _ A5.out).mono ?_); rintro e w' ⟨rfl, ⟨nd, rfl⟩⟩; (try first | exact ⟨rfl, _, World.drewN_drewN _ _ _⟩ | exact ⟨rfl, _, Eq.trans (World.drewN_drewN _ _ _) (congrArg (World.drewN _) (Nat.add_assoc _ _ _))⟩))))
      go_meet
      case rel => exact ⟨_, (true), (by first | rfl | (simp; done) | (simp [*]; done)), H', ⟨by first | omega | exact Nat.le_refl _⟩, ⟨by repeat (first | (with_reducible first | exact HB.out | apply below_alloc | apply pw_below_drewN | apply below_drew1) | exact HB.out)⟩⟩
  case rest =>
    clear HC4
    try clear p2
    try clear c6
    obtain ⟨kq, x17_3, rfl, HA, HJ3, HB⟩ := hcut
    cases kq with
    | zero => exact absurd HA.out (by simp [impl_GoodRuns.j0])
    | succ kj3 =>
      have H := HA.out
      clear HA
      simp only [impl_GoodRuns.j0] at H
      by_cases c8 : x17_3 = true
      · subst c8
        have H1 : (some false) = some r := by rw [if_pos rfl] at H; exact H
        clear H
        have H := H1
        clear H1
        obtain rfl := Option.some.inj H
        go_wp2
        repeat (go_quiet (fail); try go_wp2)
        go_ret
        exact ⟨by first | rfl | (simp [errW_none, errW_some] <;> rfl) | (simp [*, errW_none, errW_some] <;> rfl), by repeat (first | (with_reducible first | exact HB.out | apply below_alloc | apply pw_below_drewN | apply below_drew1) | exact HB.out)⟩
      · replace c8 := Bool.eq_false_iff.mpr c8
        subst c8
        have H1 : (impl_GoodRuns.l0 kj3 l0 a1 a2 0 l0 (l0.length : Int) 0) = some r := by rw [if_neg (show ¬ (false = true) by decide)] at H; exact H
        clear H
        have H := H1
        clear H1
        have H' := Aside0.mk H
        clear H
        go_wp2
        repeat (go_quiet (fail); try go_wp2)
        go_loopg [7, 20] kj3 (fun kq v7 v20 w' => ∃ (x7_2 : Int) (x20_2 : Int), v7 = .int .i64 x7_2 ∧ v20 = .int .i64 x20_2 ∧ Aside0 (impl_GoodRuns.l0 kq l0 a1 a2 x7_2 l0 (l0.length : Int) x20_2 = some r) ∧ Aside0 (kq ≤ kj3) ∧ Aside0 (Below w.heap.size w w'))
        case atStart => exact ⟨(0), (0), (by first | rfl | (simp; done) | (simp [*]; done)), (by first | rfl | (simp; done) | (simp [*]; done)), H', ⟨Nat.le_refl _⟩, ⟨by repeat (first | (with_reducible first | exact HB.out | apply below_alloc | apply pw_below_drewN | apply below_drew1) | exact HB.out)⟩⟩
        case round =>
          clear H'
          try clear p2
          try clear c6
          try clear c8
          try clear p2
          obtain ⟨x7_2, x20_2, rfl, rfl, HA, HK2, HB⟩ := hrel
          cases gk with
          | zero => exact absurd HA.out (by simp [impl_GoodRuns.l0])
          | succ k2 =>
            have H := HA.out
            clear HA
            simp only [impl_GoodRuns.l0] at H
            by_cases c9 : x20_2 < (l0.length : Int)
            · rw [if_pos c9] at H
              have c9b0 : decide (x20_2 < (l0.length : Int)) = true := decide_eq_true c9
              clear c9
              by_cases c10 : 0 ≤ x20_2
              · rw [if_pos c10] at H
                have c10b0 : decide (0 ≤ x20_2) = true := decide_eq_true c10
                clear c10
                by_cases c11 : x20_2 < (l0.length : Int)
                · rw [if_pos c11] at H
                  have c11b0 : decide (x20_2 < (l0.length : Int)) = true := decide_eq_true c11
                  clear c11
                  have HC12 := Aside0.mk H
                  clear H
                  have p136 : 0 ≤ (x20_2 : Int) := of_decide_eq_true (by first | (with_reducible assumption) | assumption)
                  have q136 : x20_2 < (l0.length : Int) := of_decide_eq_true (by first | (with_reducible assumption) | assumption)
                  obtain ⟨ad136, e136, hx136_0, hx136_1⟩ := at_T74 HR0.out x20_2 p136 q136
                  cases e136
                  (try replace hx136_0 := (HB.out.cell (World.block_lt_of_cell? w _ hx136_0)).trans hx136_0)
                  (try replace hx136_1 := (HB.out.cell (World.block_lt_of_cell? w _ hx136_1)).trans hx136_1)
                  replace p136 := eq_true p136
                  replace q136 := eq_true q136
                  go_upto_region 7 with (first | ((with_reducible refine gate_dst (N := 9) rfl ?_); refine box_event ?hg (N := 9) ?hd (cs := #[.int .i64 0, .int .i64 0]) (t := 74) ?hr ?_; (case hd => rfl); (case hg => rfl); (case hr => first | (go_simp; done) | (go_simp; rfl)); intro gb137 hg w13 hbox hb; have n0_ := Aside0.mk (below_step (by repeat (first | (with_reducible first | exact HB.out | apply below_alloc | apply pw_below_drewN | apply below_drew1) | exact HB.out)) hb); have n1_ := Aside0.mk (hbox); have n2_ := Aside0.mk ((by rw [hg]; exact (below_size (by repeat (first | (with_reducible first | exact HB.out | apply below_alloc | apply pw_below_drewN | apply below_drew1) | exact HB.out))) : w.heap.size ≤ gb137)); have n3_ := Aside0.mk ((by rw [hg]; exact (below_size (by repeat (first | (with_reducible first | exact HB.out | apply below_alloc | apply pw_below_drewN | apply below_drew1) | exact HB.out))) : w.heap.size ≤ gb137)); clear HB; have HB := n0_; have BK137 := n1_; have GW137 := n2_; have GE137 := n3_; clear n0_ n1_ n2_ n3_; clear hb hbox hg; have hcz14_0 : w13.cell? ⟨gb137, 0, none⟩ = some (.int .i64 0) := (blk_cell BK137.out 0).trans rfl; have hcz14_1 : w13.cell? ⟨gb137, 1, none⟩ = some (.int .i64 0) := (blk_cell BK137.out 1).trans rfl; have hfz14_0 := blk_frozen BK137.out 0; have hfz14_1 := blk_frozen BK137.out 1))
                  repeat (go_quiet (first | ((with_reducible refine gate_dst (N := 9) rfl ?_); refine box_event ?hg (N := 9) ?hd (cs := #[.int .i64 0, .int .i64 0]) (t := 74) ?hr ?_; (case hd => rfl); (case hg => rfl); (case hr => first | (go_simp; done) | (go_simp; rfl)); intro gb137 hg w13 hbox hb; have n0_ := Aside0.mk (below_step (by repeat (first | (with_reducible first | exact HB.out | apply below_alloc | apply pw_below_drewN | apply below_drew1) | exact HB.out)) hb); have n1_ := Aside0.mk (hbox); have n2_ := Aside0.mk ((by rw [hg]; exact (below_size (by repeat (first | (with_reducible first | exact HB.out | apply below_alloc | apply pw_below_drewN | apply below_drew1) | exact HB.out))) : w.heap.size ≤ gb137)); have n3_ := Aside0.mk ((by rw [hg]; exact (below_size (by repeat (first | (with_reducible first | exact HB.out | apply below_alloc | apply pw_below_drewN | apply below_drew1) | exact HB.out))) : w.heap.size ≤ gb137)); clear HB; have HB := n0_; have BK137 := n1_; have GW137 := n2_; have GE137 := n3_; clear n0_ n1_ n2_ n3_; clear hb hbox hg; have hcz14_0 : w13.cell? ⟨gb137, 0, none⟩ = some (.int .i64 0) := (blk_cell BK137.out 0).trans rfl; have hcz14_1 : w13.cell? ⟨gb137, 1, none⟩ = some (.int .i64 0) := (blk_cell BK137.out 1).trans rfl; have hfz14_0 := blk_frozen BK137.out 0; have hfz14_1 := blk_frozen BK137.out 1)); go_upto_region 7 with (first | ((with_reducible refine gate_dst (N := 9) rfl ?_); refine box_event ?hg (N := 9) ?hd (cs := #[.int .i64 0, .int .i64 0]) (t := 74) ?hr ?_; (case hd => rfl); (case hg => rfl); (case hr => first | (go_simp; done) | (go_simp; rfl)); intro gb137 hg w13 hbox hb; have n0_ := Aside0.mk (below_step (by repeat (first | (with_reducible first | exact HB.out | apply below_alloc | apply pw_below_drewN | apply below_drew1) | exact HB.out)) hb); have n1_ := Aside0.mk (hbox); have n2_ := Aside0.mk ((by rw [hg]; exact (below_size (by repeat (first | (with_reducible first | exact HB.out | apply below_alloc | apply pw_below_drewN | apply below_drew1) | exact HB.out))) : w.heap.size ≤ gb137)); have n3_ := Aside0.mk ((by rw [hg]; exact (below_size (by repeat (first | (with_reducible first | exact HB.out | apply below_alloc | apply pw_below_drewN | apply below_drew1) | exact HB.out))) : w.heap.size ≤ gb137)); clear HB; have HB := n0_; have BK137 := n1_; have GW137 := n2_; have GE137 := n3_; clear n0_ n1_ n2_ n3_; clear hb hbox hg; have hcz14_0 : w13.cell? ⟨gb137, 0, none⟩ = some (.int .i64 0) := (blk_cell BK137.out 0).trans rfl; have hcz14_1 : w13.cell? ⟨gb137, 1, none⟩ = some (.int .i64 0) := (blk_cell BK137.out 1).trans rfl; have hfz14_0 := blk_frozen BK137.out 0; have hfz14_1 := blk_frozen BK137.out 1)))
                  (try simp only [Act.put, List.setIfInBounds_toArray, List.set_cons_zero, List.set_cons_succ])
                  go_cut [50] (fun v50 wc => ∃ (kq : Nat) (x50_11 : Bool), v50 = .bool x50_11 ∧ Aside0 (impl_GoodRuns.j2 kq l0 a1 a2 x7_2 l0 (l0.length : Int) x20_2 x50_11 ((rd_T74 l0 x20_2).f0) ((rd_T74 l0 x20_2).f1) = some r) ∧ Aside0 (kq ≤ k2) ∧ Aside0 (wc.heap[gb137]? = some (.cells #[.int .i64 ((rd_T74 l0 x20_2).f0), .int .i64 ((rd_T74 l0 x20_2).f1)] 74 (0, 0))) ∧ Aside0 (Below w.heap.size w wc))
                  case first =>
                    have H := HC12.out
                    clear HC12
                    replace H := Option.bind_eq_some_iff.mp H
                    obtain ⟨t138, A150, H⟩ := H
                    replace H : (if t138 = true then ((impl_within.f ((rd_T74 l0 x20_2).f1) 1 120).bind fun t139 => (if t139 = true then (if x20_2 > 0 then (if 0 ≤ (wrap64 (x20_2 - 1)) then (if (wrap64 (x20_2 - 1)) < (l0.length : Int) then (impl_GoodRuns.j2 k2 l0 a1 a2 x7_2 l0 (l0.length : Int) x20_2 (((rd_T74 l0 (wrap64 (x20_2 - 1))).f0) == ((rd_T74 l0 x20_2).f0)) ((rd_T74 l0 x20_2).f0) ((rd_T74 l0 x20_2).f1)) else (none)) else (none)) else (impl_GoodRuns.j2 k2 l0 a1 a2 x7_2 l0 (l0.length : Int) x20_2 false ((rd_T74 l0 x20_2).f0) ((rd_T74 l0 x20_2).f1))) else (impl_GoodRuns.j2 k2 l0 a1 a2 x7_2 l0 (l0.length : Int) x20_2 true ((rd_T74 l0 x20_2).f0) ((rd_T74 l0 x20_2).f1)))) else (impl_GoodRuns.j2 k2 l0 a1 a2 x7_2 l0 (l0.length : Int) x20_2 true ((rd_T74 l0 x20_2).f0) ((rd_T74 l0 x20_2).f1))) = some r := H
                    have A15 := Aside0.mk A150
                    clear A150
                    by_cases c16 : t138 = true
                    · subst c16
                      have H1 : ((impl_within.f ((rd_T74 l0 x20_2).f1) 1 120).bind fun t139 => (if t139 = true then (if x20_2 > 0 then (if 0 ≤ (wrap64 (x20_2 - 1)) then (if (wrap64 (x20_2 - 1)) < (l0.length : Int) then (impl_GoodRuns.j2 k2 l0 a1 a2 x7_2 l0 (l0.length : Int) x20_2 (((rd_T74 l0 (wrap64 (x20_2 - 1))).f0) == ((rd_T74 l0 x20_2).f0)) ((rd_T74 l0 x20_2).f0) ((rd_T74 l0 x20_2).f1)) else (none)) else (none)) else (impl_GoodRuns.j2 k2 l0 a1 a2 x7_2 l0 (l0.length : Int) x20_2 false ((rd_T74 l0 x20_2).f0) ((rd_T74 l0 x20_2).f1))) else (impl_GoodRuns.j2 k2 l0 a1 a2 x7_2 l0 (l0.length : Int) x20_2 true ((rd_T74 l0 x20_2).f0) ((rd_T74 l0 x20_2).f1)))) = some r := by rw [if_pos rfl] at H; exact H
                      clear H
                      have H := H1
                      clear H1
                      replace H := Option.bind_eq_some_iff.mp H
                      obtain ⟨t139, A170, H⟩ := H
                      replace H : (if t139 = true then (if x20_2 > 0 then (if 0 ≤ (wrap64 (x20_2 - 1)) then (if (wrap64 (x20_2 - 1)) < (l0.length : Int) then (impl_GoodRuns.j2 k2 l0 a1 a2 x7_2 l0 (l0.length : Int) x20_2 (((rd_T74 l0 (wrap64 (x20_2 - 1))).f0) == ((rd_T74 l0 x20_2).f0)) ((rd_T74 l0 x20_2).f0) ((rd_T74 l0 x20_2).f1)) else (none)) else (none)) else (impl_GoodRuns.j2 k2 l0 a1 a2 x7_2 l0 (l0.length : Int) x20_2 false ((rd_T74 l0 x20_2).f0) ((rd_T74 l0 x20_2).f1))) else (impl_GoodRuns.j2 k2 l0 a1 a2 x7_2 l0 (l0.length : Int) x20_2 true ((rd_T74 l0 x20_2).f0) ((rd_T74 l0 x20_2).f1))) = some r := H
                      have A17 := Aside0.mk A170
                      clear A170
                      by_cases c18 : t139 = true
                      · subst c18
                        have H1 : (if x20_2 > 0 then (if 0 ≤ (wrap64 (x20_2 - 1)) then (if (wrap64 (x20_2 - 1)) < (l0.length : Int) then (impl_GoodRuns.j2 k2 l0 a1 a2 x7_2 l0 (l0.length : Int) x20_2 (((rd_T74 l0 (wrap64 (x20_2 - 1))).f0) == ((rd_T74 l0 x20_2).f0)) ((rd_T74 l0 x20_2).f0) ((rd_T74 l0 x20_2).f1)) else (none)) else (none)) else (impl_GoodRuns.j2 k2 l0 a1 a2 x7_2 l0 (l0.length : Int) x20_2 false ((rd_T74 l0 x20_2).f0) ((rd_T74 l0 x20_2).f1))) = some r := by rw [if_pos rfl] at H; exact H
                        clear H
                        have H := H1
                        clear H1
                        by_cases c19 : x20_2 > 0
                        · rw [if_pos c19] at H
                          have c19b0 : decide (0 < x20_2) = true := decide_eq_true c19
                          clear c19
                          (first | rw [c19b0] | (simp only [i64_w, i32_w]; rw [c19b0]) | skip)
                          obtain ⟨ji20, hji20⟩ : ∃ j_ : Int, (wrap64 (x20_2 - 1)) = j_ := ⟨_, rfl⟩
                          replace H : (if 0 ≤ (ji20) then (if (ji20) < (l0.length : Int) then (impl_GoodRuns.j2 k2 l0 a1 a2 x7_2 l0 (l0.length : Int) x20_2 (((rd_T74 l0 (ji20)).f0) == ((rd_T74 l0 x20_2).f0)) ((rd_T74 l0 x20_2).f0) ((rd_T74 l0 x20_2).f1)) else (none)) else (none)) = some r := by first | (rw [hji20] at H; exact H) | (simp only [hji20] at H ⊢; exact H)
                          (try rw [hji20] at A15)
                          (try rw [hji20] at A17)
                          have hji20w : (IntKind.i64.wrap (x20_2 - 1)) = ji20 := (i64_w _).trans hji20
                          by_cases c21 : 0 ≤ (ji20)
                          · rw [if_pos c21] at H
                            have c21b0 : decide (0 ≤ (ji20)) = true := decide_eq_true c21
                            clear c21
                            by_cases c22 : (ji20) < (l0.length : Int)
                            · rw [if_pos c22] at H
                              have c22b0 : decide ((ji20) < (l0.length : Int)) = true := decide_eq_true c22
                              clear c22
                              have H' := Aside0.mk H
                              clear H
                              have hcz23_0 : w13.cell? ⟨gb137, 0, none⟩ = some (.int .i64 0) := (blk_cell BK137.out 0).trans rfl
                              have hcz23_1 : w13.cell? ⟨gb137, 1, none⟩ = some (.int .i64 0) := (blk_cell BK137.out 1).trans rfl
                              have hfz23_0 := blk_frozen BK137.out 0
                              have hfz23_1 := blk_frozen BK137.out 1
                              go_wp2_with (first | (go_at_call 49; (with_reducible refine (impl_within.calls ((rd_T74 l0 x20_2).f0) 0 a2 true _ A15.out).mono ?_); rintro e w' ⟨rfl, ⟨nd, rfl⟩⟩; (try first | exact ⟨rfl, _, World.drewN_drewN _ _ _⟩ | exact ⟨rfl, _, Eq.trans (World.drewN_drewN _ _ _) (congrArg (World.drewN _) (Nat.add_assoc _ _ _))⟩)) | (go_at_call 49; (with_reducible refine (impl_within.calls ((rd_T74 l0 x20_2).f1) 1 120 true _ A17.out).mono ?_); rintro e w' ⟨rfl, ⟨nd, rfl⟩⟩; (try first | exact ⟨rfl, _, World.drewN_drewN _ _ _⟩ | exact ⟨rfl, _, Eq.trans (World.drewN_drewN _ _ _) (congrArg (World.drewN _) (Nat.add_assoc _ _ _))⟩); have p140 : 0 ≤ ((ji20) : Int) := of_decide_eq_true (by first | (with_reducible assumption) | assumption); have q140 : (ji20) < (l0.length : Int) := of_decide_eq_true (by first | (with_reducible assumption) | assumption); obtain ⟨ad140, e140, hx140_0, hx140_1⟩ := at_T74 HR0.out (ji20) p140 q140; obtain rfl : ad136 = ad140 := (by injection e140); have hn140_0 : ad136.block ≠ gb137 := Nat.ne_of_lt (Nat.lt_of_lt_of_le (by have := World.block_lt_of_cell? _ _ hx140_0; first | rwa [add_block] at this | exact this) GW137.out); have hn140_1 : ad136.block ≠ gb137 := Nat.ne_of_lt (Nat.lt_of_lt_of_le (by have := World.block_lt_of_cell? _ _ hx140_0; first | rwa [add_block] at this | exact this) GW137.out); (try replace hx140_0 := (HB.out.cell (World.block_lt_of_cell? w _ hx140_0)).trans hx140_0); (try replace hx140_1 := (HB.out.cell (World.block_lt_of_cell? w _ hx140_1)).trans hx140_1); replace hx140_0 := (cell_far (p := ⟨gb137, 0, none⟩) (by first | (rw [add_block]; exact hn140_0) | (show (Addr.add _ _).block ≠ _; rw [add_block]; exact hn140_0) | exact hn140_0) (.int .i64 ((rd_T74 l0 x20_2).f0))).trans hx140_0; replace hx140_1 := (cell_far (p := ⟨gb137, 0, none⟩) (by first | (rw [add_block]; exact hn140_0) | (show (Addr.add _ _).block ≠ _; rw [add_block]; exact hn140_0) | exact hn140_0) (.int .i64 ((rd_T74 l0 x20_2).f0))).trans hx140_1; replace hx140_0 := (cell_far (p := ⟨gb137, 1, none⟩) (by first | (rw [add_block]; exact hn140_1) | (show (Addr.add _ _).block ≠ _; rw [add_block]; exact hn140_1) | exact hn140_1) (.int .i64 ((rd_T74 l0 x20_2).f1))).trans hx140_0; replace hx140_1 := (cell_far (p := ⟨gb137, 1, none⟩) (by first | (rw [add_block]; exact hn140_1) | (show (Addr.add _ _).block ≠ _; rw [add_block]; exact hn140_1) | exact hn140_1) (.int .i64 ((rd_T74 l0 x20_2).f1))).trans hx140_1; (try have hy140_0 := fun (n_ : Nat) => (show ((((w13.drewN n_).setCell ⟨gb137, 0, none⟩ (.int .i64 ((rd_T74 l0 x20_2).f0))).setCell ⟨gb137, 1, none⟩ (.int .i64 ((rd_T74 l0 x20_2).f1)))).cell? _ = some _ from hx140_0)); (try have hy140_1 := fun (n_ : Nat) => (show ((((w13.drewN n_).setCell ⟨gb137, 0, none⟩ (.int .i64 ((rd_T74 l0 x20_2).f0))).setCell ⟨gb137, 1, none⟩ (.int .i64 ((rd_T74 l0 x20_2).f1)))).cell? _ = some _ from hx140_1)); clear hn140_0; clear hn140_1; replace p140 := eq_true p140; replace q140 := eq_true q140))
                              repeat (go_quiet (first | (go_at_call 49; (with_reducible refine (impl_within.calls ((rd_T74 l0 x20_2).f0) 0 a2 true _ A15.out).mono ?_); rintro e w' ⟨rfl, ⟨nd, rfl⟩⟩; (try first | exact ⟨rfl, _, World.drewN_drewN _ _ _⟩ | exact ⟨rfl, _, Eq.trans (World.drewN_drewN _ _ _) (congrArg (World.drewN _) (Nat.add_assoc _ _ _))⟩)) | (go_at_call 49; (with_reducible refine (impl_within.calls ((rd_T74 l0 x20_2).f1) 1 120 true _ A17.out).mono ?_); rintro e w' ⟨rfl, ⟨nd, rfl⟩⟩; (try first | exact ⟨rfl, _, World.drewN_drewN _ _ _⟩ | exact ⟨rfl, _, Eq.trans (World.drewN_drewN _ _ _) (congrArg (World.drewN _) (Nat.add_assoc _ _ _))⟩); have p140 : 0 ≤ ((ji20) : Int) := of_decide_eq_true (by first | (with_reducible assumption) | assumption); have q140 : (ji20) < (l0.length : Int) := of_decide_eq_true (by first | (with_reducible assumption) | assumption); obtain ⟨ad140, e140, hx140_0, hx140_1⟩ := at_T74 HR0.out (ji20) p140 q140; obtain rfl : ad136 = ad140 := (by injection e140); have hn140_0 : ad136.block ≠ gb137 := Nat.ne_of_lt (Nat.lt_of_lt_of_le (by have := World.block_lt_of_cell? _ _ hx140_0; first | rwa [add_block] at this | exact this) GW137.out); have hn140_1 : ad136.block ≠ gb137 := Nat.ne_of_lt (Nat.lt_of_lt_of_le (by have := World.block_lt_of_cell? _ _ hx140_0; first | rwa [add_block] at this | exact this) GW137.out); (try replace hx140_0 := (HB.out.cell (World.block_lt_of_cell? w _ hx140_0)).trans hx140_0); (try replace hx140_1 := (HB.out.cell (World.block_lt_of_cell? w _ hx140_1)).trans hx140_1); replace hx140_0 := (cell_far (p := ⟨gb137, 0, none⟩) (by first | (rw [add_block]; exact hn140_0) | (show (Addr.add _ _).block ≠ _; rw [add_block]; exact hn140_0) | exact hn140_0) (.int .i64 ((rd_T74 l0 x20_2).f0))).trans hx140_0; replace hx140_1 := (cell_far (p := ⟨gb137, 0, none⟩) (by first | (rw [add_block]; exact hn140_0) | (show (Addr.add _ _).block ≠ _; rw [add_block]; exact hn140_0) | exact hn140_0) (.int .i64 ((rd_T74 l0 x20_2).f0))).trans hx140_1; replace hx140_0 := (cell_far (p := ⟨gb137, 1, none⟩) (by first | (rw [add_block]; exact hn140_1) | (show (Addr.add _ _).block ≠ _; rw [add_block]; exact hn140_1) | exact hn140_1) (.int .i64 ((rd_T74 l0 x20_2).f1))).trans hx140_0; replace hx140_1 := (cell_far (p := ⟨gb137, 1, none⟩) (by first | (rw [add_block]; exact hn140_1) | (show (Addr.add _ _).block ≠ _; rw [add_block]; exact hn140_1) | exact hn140_1) (.int .i64 ((rd_T74 l0 x20_2).f1))).trans hx140_1; (try have hy140_0 := fun (n_ : Nat) => (show ((((w13.drewN n_).setCell ⟨gb137, 0, none⟩ (.int .i64 ((rd_T74 l0 x20_2).f0))).setCell ⟨gb137, 1, none⟩ (.int .i64 ((rd_T74 l0 x20_2).f1)))).cell? _ = some _ from hx140_0)); (try have hy140_1 := fun (n_ : Nat) => (show ((((w13.drewN n_).setCell ⟨gb137, 0, none⟩ (.int .i64 ((rd_T74 l0 x20_2).f0))).setCell ⟨gb137, 1, none⟩ (.int .i64 ((rd_T74 l0 x20_2).f1)))).cell? _ = some _ from hx140_1)); clear hn140_0; clear hn140_1; replace p140 := eq_true p140; replace q140 := eq_true q140)); try go_wp2_with (first | (go_at_call 49; (with_reducible refine (impl_within.calls ((rd_T74 l0 x20_2).f0) 0 a2 true _ A15.out).mono ?_); rintro e w' ⟨rfl, ⟨nd, rfl⟩⟩; (try first | exact ⟨rfl, _, World.drewN_drewN _ _ _⟩ | exact ⟨rfl, _, Eq.trans (World.drewN_drewN _ _ _) (congrArg (World.drewN _) (Nat.add_assoc _ _ _))⟩)) | (go_at_call 49; (with_reducible refine (impl_within.calls ((rd_T74 l0 x20_2).f1) 1 120 true _ A17.out).mono ?_); rintro e w' ⟨rfl, ⟨nd, rfl⟩⟩; (try first | exact ⟨rfl, _, World.drewN_drewN _ _ _⟩ | exact ⟨rfl, _, Eq.trans (World.drewN_drewN _ _ _) (congrArg (World.drewN _) (Nat.add_assoc _ _ _))⟩); have p140 : 0 ≤ ((ji20) : Int) := of_decide_eq_true (by first | (with_reducible assumption) | assumption); have q140 : (ji20) < (l0.length : Int) := of_decide_eq_true (by first | (with_reducible assumption) | assumption); obtain ⟨ad140, e140, hx140_0, hx140_1⟩ := at_T74 HR0.out (ji20) p140 q140; obtain rfl : ad136 = ad140 := (by injection e140); have hn140_0 : ad136.block ≠ gb137 := Nat.ne_of_lt (Nat.lt_of_lt_of_le (by have := World.block_lt_of_cell? _ _ hx140_0; first | rwa [add_block] at this | exact this) GW137.out); have hn140_1 : ad136.block ≠ gb137 := Nat.ne_of_lt (Nat.lt_of_lt_of_le (by have := World.block_lt_of_cell? _ _ hx140_0; first | rwa [add_block] at this | exact this) GW137.out); (try replace hx140_0 := (HB.out.cell (World.block_lt_of_cell? w _ hx140_0)).trans hx140_0); (try replace hx140_1 := (HB.out.cell (World.block_lt_of_cell? w _ hx140_1)).trans hx140_1); replace hx140_0 := (cell_far (p := ⟨gb137, 0, none⟩) (by first | (rw [add_block]; exact hn140_0) | (show (Addr.add _ _).block ≠ _; rw [add_block]; exact hn140_0) | exact hn140_0) (.int .i64 ((rd_T74 l0 x20_2).f0))).trans hx140_0; replace hx140_1 := (cell_far (p := ⟨gb137, 0, none⟩) (by first | (rw [add_block]; exact hn140_0) | (show (Addr.add _ _).block ≠ _; rw [add_block]; exact hn140_0) | exact hn140_0) (.int .i64 ((rd_T74 l0 x20_2).f0))).trans hx140_1; replace hx140_0 := (cell_far (p := ⟨gb137, 1, none⟩) (by first | (rw [add_block]; exact hn140_1) | (show (Addr.add _ _).block ≠ _; rw [add_block]; exact hn140_1) | exact hn140_1) (.int .i64 ((rd_T74 l0 x20_2).f1))).trans hx140_0; replace hx140_1 := (cell_far (p := ⟨gb137, 1, none⟩) (by first | (rw [add_block]; exact hn140_1) | (show (Addr.add _ _).block ≠ _; rw [add_block]; exact hn140_1) | exact hn140_1) (.int .i64 ((rd_T74 l0 x20_2).f1))).trans hx140_1; (try have hy140_0 := fun (n_ : Nat) => (show ((((w13.drewN n_).setCell ⟨gb137, 0, none⟩ (.int .i64 ((rd_T74 l0 x20_2).f0))).setCell ⟨gb137, 1, none⟩ (.int .i64 ((rd_T74 l0 x20_2).f1)))).cell? _ = some _ from hx140_0)); (try have hy140_1 := fun (n_ : Nat) => (show ((((w13.drewN n_).setCell ⟨gb137, 0, none⟩ (.int .i64 ((rd_T74 l0 x20_2).f0))).setCell ⟨gb137, 1, none⟩ (.int .i64 ((rd_T74 l0 x20_2).f1)))).cell? _ = some _ from hx140_1)); clear hn140_0; clear hn140_1; replace p140 := eq_true p140; replace q140 := eq_true q140)))
                              go_meet
                              case rel => exact ⟨_, ((((rd_T74 l0 (ji20)).f0) == ((rd_T74 l0 x20_2).f0))), (by first | rfl | (simp; done) | (simp only [← hji20] <;> (first | rfl | simp)) | (simp [*]; done)), H', ⟨by have := HJ3.out; have := HK2.out; first | omega | exact Nat.le_refl _⟩, ⟨by (with_reducible repeat (first | refine blk_drewN ?_ _ | refine blk_drew ?_ | refine blk_alloc ?_ _)); refine blk_put (cs := #[.int .i64 ((rd_T74 l0 x20_2).f0), .int .i64 0]) ?_ 1 _ rfl; (with_reducible repeat (first | refine blk_drewN ?_ _ | refine blk_drew ?_ | refine blk_alloc ?_ _)); refine blk_put (cs := #[.int .i64 0, .int .i64 0]) ?_ 0 _ rfl; (with_reducible repeat (first | refine blk_drewN ?_ _ | refine blk_drew ?_ | refine blk_alloc ?_ _)); exact BK137.out⟩, ⟨by repeat (first | (with_reducible first | exact HB.out | apply below_alloc | apply pw_below_drewN | apply below_drew1 | refine below_set ?_ GE137.out) | exact HB.out)⟩⟩
                            · rw [if_neg c22] at H
                              exact absurd H (by simp)
                          · rw [if_neg c21] at H
                            exact absurd H (by simp)
                        · rw [if_neg c19] at H
                          have c19b0 : decide (0 < x20_2) = false := decide_eq_false c19
                          clear c19
                          (first | rw [c19b0] | (simp only [i64_w, i32_w]; rw [c19b0]) | skip)
                          have H' := Aside0.mk H
                          clear H
                          have hcz24_0 : w13.cell? ⟨gb137, 0, none⟩ = some (.int .i64 0) := (blk_cell BK137.out 0).trans rfl
                          have hcz24_1 : w13.cell? ⟨gb137, 1, none⟩ = some (.int .i64 0) := (blk_cell BK137.out 1).trans rfl
                          have hfz24_0 := blk_frozen BK137.out 0
                          have hfz24_1 := blk_frozen BK137.out 1
                          go_wp2_with (first | (go_at_call 49; (with_reducible refine (impl_within.calls ((rd_T74 l0 x20_2).f0) 0 a2 true _ A15.out).mono ?_); rintro e w' ⟨rfl, ⟨nd, rfl⟩⟩; (try first | exact ⟨rfl, _, World.drewN_drewN _ _ _⟩ | exact ⟨rfl, _, Eq.trans (World.drewN_drewN _ _ _) (congrArg (World.drewN _) (Nat.add_assoc _ _ _))⟩)) | (go_at_call 49; (with_reducible refine (impl_within.calls ((rd_T74 l0 x20_2).f1) 1 120 true _ A17.out).mono ?_); rintro e w' ⟨rfl, ⟨nd, rfl⟩⟩; (try first | exact ⟨rfl, _, World.drewN_drewN _ _ _⟩ | exact ⟨rfl, _, Eq.trans (World.drewN_drewN _ _ _) (congrArg (World.drewN _) (Nat.add_assoc _ _ _))⟩)))
                          repeat (go_quiet (first | (go_at_call 49; (with_reducible refine (impl_within.calls ((rd_T74 l0 x20_2).f0) 0 a2 true _ A15.out).mono ?_); rintro e w' ⟨rfl, ⟨nd, rfl⟩⟩; (try first | exact ⟨rfl, _, World.drewN_drewN _ _ _⟩ | exact ⟨rfl, _, Eq.trans (World.drewN_drewN _ _ _) (congrArg (World.drewN _) (Nat.add_assoc _ _ _))⟩)) | (go_at_call 49; (with_reducible refine (impl_within.calls ((rd_T74 l0 x20_2).f1) 1 120 true _ A17.out).mono ?_); rintro e w' ⟨rfl, ⟨nd, rfl⟩⟩; (try first | exact ⟨rfl, _, World.drewN_drewN _ _ _⟩ | exact ⟨rfl, _, Eq.trans (World.drewN_drewN _ _ _) (congrArg (World.drewN _) (Nat.add_assoc _ _ _))⟩))); try go_wp2_with (first | (go_at_call 49; (with_reducible refine (impl_within.calls ((rd_T74 l0 x20_2).f0) 0 a2 true _ A15.out).mono ?_); rintro e w' ⟨rfl, ⟨nd, rfl⟩⟩; (try first | exact ⟨rfl, _, World.drewN_drewN _ _ _⟩ | exact ⟨rfl, _, Eq.trans (World.drewN_drewN _ _ _) (congrArg (World.drewN _) (Nat.add_assoc _ _ _))⟩)) | (go_at_call 49; (with_reducible refine (impl_within.calls ((rd_T74 l0 x20_2).f1) 1 120 true _ A17.out).mono ?_); rintro e w' ⟨rfl, ⟨nd, rfl⟩⟩; (try first | exact ⟨rfl, _, World.drewN_drewN _ _ _⟩ | exact ⟨rfl, _, Eq.trans (World.drewN_drewN _ _ _) (congrArg (World.drewN _) (Nat.add_assoc _ _ _))⟩))))
                          go_meet
                          case rel => exact ⟨_, (false), (by first | rfl | (simp; done) | (simp [*]; done)), H', ⟨by have := HJ3.out; have := HK2.out; first | omega | exact Nat.le_refl _⟩, ⟨by (with_reducible repeat (first | refine blk_drewN ?_ _ | refine blk_drew ?_ | refine blk_alloc ?_ _)); refine blk_put (cs := #[.int .i64 ((rd_T74 l0 x20_2).f0), .int .i64 0]) ?_ 1 _ rfl; (with_reducible repeat (first | refine blk_drewN ?_ _ | refine blk_drew ?_ | refine blk_alloc ?_ _)); refine blk_put (cs := #[.int .i64 0, .int .i64 0]) ?_ 0 _ rfl; (with_reducible repeat (first | refine blk_drewN ?_ _ | refine blk_drew ?_ | refine blk_alloc ?_ _)); exact BK137.out⟩, ⟨by repeat (first | (with_reducible first | exact HB.out | apply below_alloc | apply pw_below_drewN | apply below_drew1 | refine below_set ?_ GE137.out) | exact HB.out)⟩⟩
                      · replace c18 := Bool.eq_false_iff.mpr c18
                        subst c18
                        have H1 : (impl_GoodRuns.j2 k2 l0 a1 a2 x7_2 l0 (l0.length : Int) x20_2 true ((rd_T74 l0 x20_2).f0) ((rd_T74 l0 x20_2).f1)) = some r := by rw [if_neg (show ¬ (false = true) by decide)] at H; exact H
                        clear H
                        have H := H1
                        clear H1
                        have H' := Aside0.mk H
                        clear H
                        have hcz25_0 : w13.cell? ⟨gb137, 0, none⟩ = some (.int .i64 0) := (blk_cell BK137.out 0).trans rfl
                        have hcz25_1 : w13.cell? ⟨gb137, 1, none⟩ = some (.int .i64 0) := (blk_cell BK137.out 1).trans rfl
                        have hfz25_0 := blk_frozen BK137.out 0
                        have hfz25_1 := blk_frozen BK137.out 1
                        go_wp2_with (first | (go_at_call 49; (with_reducible refine (impl_within.calls ((rd_T74 l0 x20_2).f0) 0 a2 true _ A15.out).mono ?_); rintro e w' ⟨rfl, ⟨nd, rfl⟩⟩; (try first | exact ⟨rfl, _, World.drewN_drewN _ _ _⟩ | exact ⟨rfl, _, Eq.trans (World.drewN_drewN _ _ _) (congrArg (World.drewN _) (Nat.add_assoc _ _ _))⟩)) | (go_at_call 49; (with_reducible refine (impl_within.calls ((rd_T74 l0 x20_2).f1) 1 120 false _ A17.out).mono ?_); rintro e w' ⟨rfl, ⟨nd, rfl⟩⟩; (try first | exact ⟨rfl, _, World.drewN_drewN _ _ _⟩ | exact ⟨rfl, _, Eq.trans (World.drewN_drewN _ _ _) (congrArg (World.drewN _) (Nat.add_assoc _ _ _))⟩)))
                        repeat (go_quiet (first | (go_at_call 49; (with_reducible refine (impl_within.calls ((rd_T74 l0 x20_2).f0) 0 a2 true _ A15.out).mono ?_); rintro e w' ⟨rfl, ⟨nd, rfl⟩⟩; (try first | exact ⟨rfl, _, World.drewN_drewN _ _ _⟩ | exact ⟨rfl, _, Eq.trans (World.drewN_drewN _ _ _) (congrArg (World.drewN _) (Nat.add_assoc _ _ _))⟩)) | (go_at_call 49; (with_reducible refine (impl_within.calls ((rd_T74 l0 x20_2).f1) 1 120 false _ A17.out).mono ?_); rintro e w' ⟨rfl, ⟨nd, rfl⟩⟩; (try first | exact ⟨rfl, _, World.drewN_drewN _ _ _⟩ | exact ⟨rfl, _, Eq.trans (World.drewN_drewN _ _ _) (congrArg (World.drewN _) (Nat.add_assoc _ _ _))⟩))); try go_wp2_with (first | (go_at_call 49; (with_reducible refine (impl_within.calls ((rd_T74 l0 x20_2).f0) 0 a2 true _ A15.out).mono ?_); rintro e w' ⟨rfl, ⟨nd, rfl⟩⟩; (try first | exact ⟨rfl, _, World.drewN_drewN _ _ _⟩ | exact ⟨rfl, _, Eq.trans (World.drewN_drewN _ _ _) (congrArg (World.drewN _) (Nat.add_assoc _ _ _))⟩)) | (go_at_call 49; (with_reducible refine (impl_within.calls ((rd_T74 l0 x20_2).f1) 1 120 false _ A17.out).mono ?_); rintro e w' ⟨rfl, ⟨nd, rfl⟩⟩; (try first | exact ⟨rfl, _, World.drewN_drewN _ _ _⟩ | exact ⟨rfl, _, Eq.trans (World.drewN_drewN _ _ _) (congrArg (World.drewN _) (Nat.add_assoc _ _ _))⟩))))
                        go_meet
                        case rel => exact ⟨_, (true), (by first | rfl | (simp; done) | (simp [*]; done)), H', ⟨by have := HJ3.out; have := HK2.out; first | omega | exact Nat.le_refl _⟩, ⟨by (with_reducible repeat (first | refine blk_drewN ?_ _ | refine blk_drew ?_ | refine blk_alloc ?_ _)); refine blk_put (cs := #[.int .i64 ((rd_T74 l0 x20_2).f0), .int .i64 0]) ?_ 1 _ rfl; (with_reducible repeat (first | refine blk_drewN ?_ _ | refine blk_drew ?_ | refine blk_alloc ?_ _)); refine blk_put (cs := #[.int .i64 0, .int .i64 0]) ?_ 0 _ rfl; (with_reducible repeat (first | refine blk_drewN ?_ _ | refine blk_drew ?_ | refine blk_alloc ?_ _)); exact BK137.out⟩, ⟨by repeat (first | (with_reducible first | exact HB.out | apply below_alloc | apply pw_below_drewN | apply below_drew1 | refine below_set ?_ GE137.out) | exact HB.out)⟩⟩
                    · replace c16 := Bool.eq_false_iff.mpr c16
                      subst c16
                      have H1 : (impl_GoodRuns.j2 k2 l0 a1 a2 x7_2 l0 (l0.length : Int) x20_2 true ((rd_T74 l0 x20_2).f0) ((rd_T74 l0 x20_2).f1)) = some r := by rw [if_neg (show ¬ (false = true) by decide)] at H; exact H
                      clear H
                      have H := H1
                      clear H1
                      have H' := Aside0.mk H
                      clear H
                      have hcz26_0 : w13.cell? ⟨gb137, 0, none⟩ = some (.int .i64 0) := (blk_cell BK137.out 0).trans rfl
                      have hcz26_1 : w13.cell? ⟨gb137, 1, none⟩ = some (.int .i64 0) := (blk_cell BK137.out 1).trans rfl
                      have hfz26_0 := blk_frozen BK137.out 0
                      have hfz26_1 := blk_frozen BK137.out 1
                      go_wp2_with (first | (go_at_call 49; (with_reducible refine (impl_within.calls ((rd_T74 l0 x20_2).f0) 0 a2 false _ A15.out).mono ?_); rintro e w' ⟨rfl, ⟨nd, rfl⟩⟩; (try first | exact ⟨rfl, _, World.drewN_drewN _ _ _⟩ | exact ⟨rfl, _, Eq.trans (World.drewN_drewN _ _ _) (congrArg (World.drewN _) (Nat.add_assoc _ _ _))⟩)))
                      repeat (go_quiet (first | (go_at_call 49; (with_reducible refine (impl_within.calls ((rd_T74 l0 x20_2).f0) 0 a2 false _ A15.out).mono ?_); rintro e w' ⟨rfl, ⟨nd, rfl⟩⟩; (try first | exact ⟨rfl, _, World.drewN_drewN _ _ _⟩ | exact ⟨rfl, _, Eq.trans (World.drewN_drewN _ _ _) (congrArg (World.drewN _) (Nat.add_assoc _ _ _))⟩))); try go_wp2_with (first | (go_at_call 49; (with_reducible refine (impl_within.calls ((rd_T74 l0 x20_2).f0) 0 a2 false _ A15.out).mono ?_); rintro e w' ⟨rfl, ⟨nd, rfl⟩⟩; (try first | exact ⟨rfl, _, World.drewN_drewN _ _ _⟩ | exact ⟨rfl, _, Eq.trans (World.drewN_drewN _ _ _) (congrArg (World.drewN _) (Nat.add_assoc _ _ _))⟩))))
                      go_meet
                      case rel => exact ⟨_, (true), (by first | rfl | (simp; done) | (simp [*]; done)), H', ⟨by have := HJ3.out; have := HK2.out; first | omega | exact Nat.le_refl _⟩, ⟨by (with_reducible repeat (first | refine blk_drewN ?_ _ | refine blk_drew ?_ | refine blk_alloc ?_ _)); refine blk_put (cs := #[.int .i64 ((rd_T74 l0 x20_2).f0), .int .i64 0]) ?_ 1 _ rfl; (with_reducible repeat (first | refine blk_drewN ?_ _ | refine blk_drew ?_ | refine blk_alloc ?_ _)); refine blk_put (cs := #[.int .i64 0, .int .i64 0]) ?_ 0 _ rfl; (with_reducible repeat (first | refine blk_drewN ?_ _ | refine blk_drew ?_ | refine blk_alloc ?_ _)); exact BK137.out⟩, ⟨by repeat (first | (with_reducible first | exact HB.out | apply below_alloc | apply pw_below_drewN | apply below_drew1 | refine below_set ?_ GE137.out) | exact HB.out)⟩⟩
                  case rest =>
                    clear HC12
                    try clear c1
                    try clear p1
                    try clear q1
                    try clear hx1
                    try clear c2
                    try clear p2
                    try clear c6
                    try clear p6
                    try clear c8
                    try clear c9
                    try clear c9b0
                    try clear c10
                    try clear c10b0
                    try clear c11
                    try clear c11b0
                    try clear p13
                    try clear q13
                    try clear hx13
                    try clear p14
                    try clear q14
                    try clear hx14
                    try clear c16
                    try clear c18
                    try clear c19
                    try clear c19b0
                    try clear c21
                    try clear c21b0
                    try clear c22
                    try clear c22b0
                    try clear hcz14_0
                    try clear hcz14_1
                    try clear hcz23_0
                    try clear hcz23_1
                    try clear hcz24_0
                    try clear hcz24_1
                    try clear hcz25_0
                    try clear hcz25_1
                    try clear hcz26_0
                    try clear hcz26_1
                    try clear hfz14_0
                    try clear hfz14_1
                    try clear hfz23_0
                    try clear hfz23_1
                    try clear hfz24_0
                    try clear hfz24_1
                    try clear hfz25_0
                    try clear hfz25_1
                    try clear hfz26_0
                    try clear hfz26_1
                    try clear hx136_0
                    try clear hx136_1
                    try clear hx140_0
                    try clear hx140_1
                    try clear p136
                    try clear p140
                    try clear p2
                    try clear q136
                    try clear q140
                    obtain ⟨kq, x50_11, rfl, HA, HJ11, BK137, HB⟩ := hcut
                    cases kq with
                    | zero => exact absurd HA.out (by simp [impl_GoodRuns.j2])
                    | succ kj11 =>
                      have H := HA.out
                      clear HA
                      simp only [impl_GoodRuns.j2] at H
                      by_cases c27 : x50_11 = true
                      · subst c27
                        have H1 : (some false) = some r := by rw [if_pos rfl] at H; exact H
                        clear H
                        have H := H1
                        clear H1
                        obtain rfl := Option.some.inj H
                        go_wp2
                        repeat (go_quiet (fail); try go_wp2)
                        go_ret
                        exact ⟨by first | rfl | (simp [errW_none, errW_some] <;> rfl) | (simp [*, errW_none, errW_some] <;> rfl), by repeat (first | (with_reducible first | exact HB.out | apply below_alloc | apply pw_below_drewN | apply below_drew1 | refine below_set ?_ GE137.out) | exact HB.out)⟩
                      · replace c27 := Bool.eq_false_iff.mpr c27
                        subst c27
                        have H1 : (if (wrap64 (x7_2 + ((rd_T74 l0 x20_2).f1))) > a1 then (some false) else (impl_GoodRuns.l0 kj11 l0 a1 a2 (wrap64 (x7_2 + ((rd_T74 l0 x20_2).f1))) l0 (l0.length : Int) (wrap64 (x20_2 + 1)))) = some r := by rw [if_neg (show ¬ (false = true) by decide)] at H; exact H
                        clear H
                        have H := H1
                        clear H1
                        by_cases c28 : (wrap64 (x7_2 + ((rd_T74 l0 x20_2).f1))) > a1
                        · rw [if_pos c28] at H
                          have c28b0 : decide (a1 < (wrap64 (x7_2 + ((rd_T74 l0 x20_2).f1)))) = true := decide_eq_true c28
                          clear c28
                          obtain rfl := Option.some.inj H
                          have hcz29_0 : wc.cell? ⟨gb137, 0, none⟩ = some (.int .i64 ((rd_T74 l0 x20_2).f0)) := (blk_cell BK137.out 0).trans rfl
                          have hcz29_1 : wc.cell? ⟨gb137, 1, none⟩ = some (.int .i64 ((rd_T74 l0 x20_2).f1)) := (blk_cell BK137.out 1).trans rfl
                          have hfz29_0 := blk_frozen BK137.out 0
                          have hfz29_1 := blk_frozen BK137.out 1
                          go_wp2
                          repeat (go_quiet (fail); try go_wp2)
                          go_ret
                          exact ⟨by first | rfl | (simp [errW_none, errW_some] <;> rfl) | (simp [*, errW_none, errW_some] <;> rfl), by repeat (first | (with_reducible first | exact HB.out | apply below_alloc | apply pw_below_drewN | apply below_drew1 | refine below_set ?_ GE137.out) | exact HB.out)⟩
                        · rw [if_neg c28] at H
                          have c28b0 : decide (a1 < (wrap64 (x7_2 + ((rd_T74 l0 x20_2).f1)))) = false := decide_eq_false c28
                          clear c28
                          have H' := Aside0.mk H
                          clear H
                          have hcz30_0 : wc.cell? ⟨gb137, 0, none⟩ = some (.int .i64 ((rd_T74 l0 x20_2).f0)) := (blk_cell BK137.out 0).trans rfl
                          have hcz30_1 : wc.cell? ⟨gb137, 1, none⟩ = some (.int .i64 ((rd_T74 l0 x20_2).f1)) := (blk_cell BK137.out 1).trans rfl
                          have hfz30_0 := blk_frozen BK137.out 0
                          have hfz30_1 := blk_frozen BK137.out 1
                          go_wp2
                          repeat (go_quiet (fail); try go_wp2)
                          go_roundg kj11
                          case measure => have := HJ3.out; have := HK2.out; have := HJ11.out; omega
                          case rel => exact ⟨(wrap64 (x7_2 + ((rd_T74 l0 x20_2).f1))), (wrap64 (x20_2 + 1)), (by first | rfl | (simp; done) | (simp [*]; done)), (by first | rfl | (simp; done) | (simp [*]; done)), H', ⟨by have := HJ3.out; have := HK2.out; have := HJ11.out; omega⟩, ⟨by repeat (first | (with_reducible first | exact HB.out | apply below_alloc | apply pw_below_drewN | apply below_drew1 | refine below_set ?_ GE137.out) | exact HB.out)⟩⟩
                · rw [if_neg c11] at H
                  exact absurd H (by simp)
              · rw [if_neg c10] at H
                exact absurd H (by simp)
            · rw [if_neg c9] at H
              have c9b0 : decide (x20_2 < (l0.length : Int)) = false := decide_eq_false c9
              clear c9
              obtain rfl := Option.some.inj H
              go_wp2
              repeat (go_quiet (fail); try go_wp2)
              go_ret
              exact ⟨by first | rfl | (simp [errW_none, errW_some] <;> rfl) | (simp [*, errW_none, errW_some] <;> rfl), by repeat (first | (with_reducible first | exact HB.out | apply below_alloc | apply pw_below_drewN | apply below_drew1) | exact HB.out)⟩

/-! ### impl_someRuns: function 47 -/
def impl_someRuns.l0 : Nat → List (S74) → Int → List (S74) → Int → Int → Option (Bool)
  | 0, _, _, _, _, _ => none
  | k + 1, x0, x3, x6, x7, x8 => if x8 < x7 then (if 0 ≤ x8 then (if x8 < (x6.length : Int) then ((impl_within.f ((rd_T74 x6 x8).f1) 1 120).bind fun t143 => (if t143 = true then (if x3 > 120 then (some false) else (impl_someRuns.l0 k x0 (wrap64 (x3 + ((rd_T74 x6 x8).f1))) x6 x7 (wrap64 (x8 + 1)))) else (some false))) else (none)) else (none)) else ((impl_GoodRuns.f k x0 x3 60).bind fun t144 => (some t144))
def impl_someRuns.f (k : Nat) (l0 : List (S74)) : Option (Bool) := impl_someRuns.l0 k l0 0 l0 (l0.length : Int) 0
theorem impl_someRuns.mono_l : ∀ k, (∀ y0 y1 y2 y3 y4, LeO (impl_someRuns.l0 k y0 y1 y2 y3 y4) (impl_someRuns.l0 (k + 1) y0 y1 y2 y3 y4))
  | 0 => fun _ _ _ _ _ r h => by simp [impl_someRuns.l0] at h
  | k + 1 => by
    have ih0 := impl_someRuns.mono_l k
    · intro y0 y1 y2 y3 y4
      unfold impl_someRuns.l0
      repeat' first
      | (with_reducible exact ih0 _ _ _ _ _)
      | (with_reducible exact impl_GoodRuns.mono _ _ _ _)
      | (with_reducible exact LeO.refl _)
      | (with_reducible exact LeO.none _)
      | (with_reducible refine LeO.ite ?_ ?_)
      | (with_reducible refine LeO.bind ?_ (fun _ => ?_))
      | exact ih0 _ _ _ _ _
      | exact impl_GoodRuns.mono _ _ _ _
      | exact LeO.none _
      | refine LeO.ite ?_ ?_
      | refine LeO.bind ?_ (fun _ => ?_)
theorem impl_someRuns.mono : ∀ a0 k, LeO (impl_someRuns.f k a0) (impl_someRuns.f (k + 1) a0) := by
  intro a0 k
  have ih0 := impl_someRuns.mono_l k
  unfold impl_someRuns.f
  repeat' first
      | (with_reducible exact ih0 _ _ _ _ _)
      | (with_reducible exact impl_GoodRuns.mono _ _ _ _)
      | (with_reducible exact LeO.refl _)
      | (with_reducible exact LeO.none _)
      | (with_reducible refine LeO.ite ?_ ?_)
      | (with_reducible refine LeO.bind ?_ (fun _ => ?_))
      | exact ih0 _ _ _ _ _
      | exact impl_GoodRuns.mono _ _ _ _
      | exact LeO.none _
      | refine LeO.ite ?_ ?_
      | refine LeO.bind ?_ (fun _ => ?_)
set_option maxHeartbeats 8000000 in
set_option maxRecDepth 100000 in
theorem impl_someRuns.calls (k : Nat) (A0 : Option Addr) (c0 : Nat) (l0 : List (S74)) (r : Bool) (w : World) (hr0 : Kd.C k74 w A0 l0.length l0) (hc0 : l0.length ≤ c0) (h : impl_someRuns.f k l0 = some r) :
    Calls Try.prog 47 #[.slice A0 l0.length c0] w fun e w' => e = .returned (.bool r) ∧ Below w.heap.size w w' := by
  have hu74 := Try.underlying74
  have HR0 := Aside0.mk hr0
  have HC0 := Aside0.mk hc0
  clear hr0 hc0
  have HB := Aside0.mk (Below.refl w.heap.size w)
  have H : (impl_someRuns.l0 k l0 0 l0 (l0.length : Int) 0) = some r := h
  clear h
  have H' := Aside0.mk H
  clear H
  go_enter Try.func47, Try.ntmps47
  go_wp2
  go_loopg [3, 8] k (fun kq v3 v8 w' => ∃ (x3_1 : Int) (x8_1 : Int), v3 = .int .i64 x3_1 ∧ v8 = .int .i64 x8_1 ∧ Aside0 (impl_someRuns.l0 kq l0 x3_1 l0 (l0.length : Int) x8_1 = some r) ∧ Aside0 (kq ≤ k) ∧ Aside0 (Below w.heap.size w w'))
  case atStart => exact ⟨(0), (0), (by first | rfl | (simp; done) | (simp [*]; done)), (by first | rfl | (simp; done) | (simp [*]; done)), H', ⟨Nat.le_refl _⟩, ⟨by repeat (first | (with_reducible first | exact HB.out | apply below_alloc | apply pw_below_drewN | apply below_drew1) | exact HB.out)⟩⟩
  case round =>
    clear H'
    obtain ⟨x3_1, x8_1, rfl, rfl, HA, HK1, HB⟩ := hrel
    cases gk with
    | zero => exact absurd HA.out (by simp [impl_someRuns.l0])
    | succ k1 =>
      have H := HA.out
      clear HA
      simp only [impl_someRuns.l0] at H
      by_cases c2 : x8_1 < (l0.length : Int)
      · rw [if_pos c2] at H
        have c2b0 : decide (x8_1 < (l0.length : Int)) = true := decide_eq_true c2
        clear c2
        by_cases c3 : 0 ≤ x8_1
        · rw [if_pos c3] at H
          have c3b0 : decide (0 ≤ x8_1) = true := decide_eq_true c3
          clear c3
          by_cases c4 : x8_1 < (l0.length : Int)
          · rw [if_pos c4] at H
            have c4b0 : decide (x8_1 < (l0.length : Int)) = true := decide_eq_true c4
            clear c4
            replace H := Option.bind_eq_some_iff.mp H
            obtain ⟨t143, A50, H⟩ := H
            replace H : (if t143 = true then (if x3_1 > 120 then (some false) else (impl_someRuns.l0 k1 l0 (wrap64 (x3_1 + ((rd_T74 l0 x8_1).f1))) l0 (l0.length : Int) (wrap64 (x8_1 + 1)))) else (some false)) = some r := H
            have A5 := Aside0.mk A50
            clear A50
            by_cases c6 : t143 = true
            · subst c6
              have H1 : (if x3_1 > 120 then (some false) else (impl_someRuns.l0 k1 l0 (wrap64 (x3_1 + ((rd_T74 l0 x8_1).f1))) l0 (l0.length : Int) (wrap64 (x8_1 + 1)))) = some r := by rw [if_pos rfl] at H; exact H
              clear H
              have H := H1
              clear H1
              by_cases c7 : x3_1 > 120
              · rw [if_pos c7] at H
                have c7b0 : decide (120 < x3_1) = true := decide_eq_true c7
                clear c7
                obtain rfl := Option.some.inj H
                have p141 : 0 ≤ (x8_1 : Int) := of_decide_eq_true (by first | (with_reducible assumption) | assumption)
                have q141 : x8_1 < (l0.length : Int) := of_decide_eq_true (by first | (with_reducible assumption) | assumption)
                obtain ⟨ad141, e141, hx141_0, hx141_1⟩ := at_T74 HR0.out x8_1 p141 q141
                cases e141
                (try replace hx141_0 := (HB.out.cell (World.block_lt_of_cell? w _ hx141_0)).trans hx141_0)
                (try replace hx141_1 := (HB.out.cell (World.block_lt_of_cell? w _ hx141_1)).trans hx141_1)
                replace p141 := eq_true p141
                replace q141 := eq_true q141
                go_wp2_with (first | ((with_reducible refine gate_dst (N := 5) rfl ?_); refine box_event ?hg (N := 5) ?hd (cs := #[.int .i64 0, .int .i64 0]) (t := 74) ?hr ?_; (case hd => rfl); (case hg => rfl); (case hr => first | (go_simp; done) | (go_simp; rfl)); intro gb142 hg w8 hbox hb; have n0_ := Aside0.mk (below_step (by repeat (first | (with_reducible first | exact HB.out | apply below_alloc | apply pw_below_drewN | apply below_drew1) | exact HB.out)) hb); have n1_ := Aside0.mk (hbox); have n2_ := Aside0.mk ((by rw [hg]; exact (below_size (by repeat (first | (with_reducible first | exact HB.out | apply below_alloc | apply pw_below_drewN | apply below_drew1) | exact HB.out))) : w.heap.size ≤ gb142)); have n3_ := Aside0.mk ((by rw [hg]; exact (below_size (by repeat (first | (with_reducible first | exact HB.out | apply below_alloc | apply pw_below_drewN | apply below_drew1) | exact HB.out))) : w.heap.size ≤ gb142)); clear HB; have HB := n0_; have BK142 := n1_; have GW142 := n2_; have GE142 := n3_; clear n0_ n1_ n2_ n3_; clear hb hbox hg; have hcz9_0 : w8.cell? ⟨gb142, 0, none⟩ = some (.int .i64 0) := (blk_cell BK142.out 0).trans rfl; have hcz9_1 : w8.cell? ⟨gb142, 1, none⟩ = some (.int .i64 0) := (blk_cell BK142.out 1).trans rfl; have hfz9_0 := blk_frozen BK142.out 0; have hfz9_1 := blk_frozen BK142.out 1) | ((with_reducible refine gate_callee (f := 49) rfl ?_); refine goesL_ (some 14) rfl rfl Try.func49 (by kernel_rfl) rfl #[.int .i64 ((rd_T74 l0 x8_1).f1), .int .i64 1, .int .i64 120] rfl (by (try simp only [List.map_toArray, List.map_cons, List.map_nil]); first | done | rfl | (simp only [List.length_drop, List.length_take]; rfl)) ?_; (with_reducible refine (impl_within.calls ((rd_T74 l0 x8_1).f1) 1 120 true _ A5.out).mono ?_); rintro e w' ⟨rfl, ⟨nd, rfl⟩⟩; refine ⟨_, rfl, ?_⟩))
                go_ret
                exact ⟨by first | rfl | (simp [errW_none, errW_some] <;> rfl) | (simp [*, errW_none, errW_some] <;> rfl), by repeat (first | (with_reducible first | exact HB.out | apply below_alloc | apply pw_below_drewN | apply below_drew1 | refine below_set ?_ GE142.out) | exact HB.out)⟩
              · rw [if_neg c7] at H
                have c7b0 : decide (120 < x3_1) = false := decide_eq_false c7
                clear c7
                have H' := Aside0.mk H
                clear H
                have p141 : 0 ≤ (x8_1 : Int) := of_decide_eq_true (by first | (with_reducible assumption) | assumption)
                have q141 : x8_1 < (l0.length : Int) := of_decide_eq_true (by first | (with_reducible assumption) | assumption)
                obtain ⟨ad141, e141, hx141_0, hx141_1⟩ := at_T74 HR0.out x8_1 p141 q141
                cases e141
                (try replace hx141_0 := (HB.out.cell (World.block_lt_of_cell? w _ hx141_0)).trans hx141_0)
                (try replace hx141_1 := (HB.out.cell (World.block_lt_of_cell? w _ hx141_1)).trans hx141_1)
                replace p141 := eq_true p141
                replace q141 := eq_true q141
                go_wp2_with (first | ((with_reducible refine gate_dst (N := 5) rfl ?_); refine box_event ?hg (N := 5) ?hd (cs := #[.int .i64 0, .int .i64 0]) (t := 74) ?hr ?_; (case hd => rfl); (case hg => rfl); (case hr => first | (go_simp; done) | (go_simp; rfl)); intro gb142 hg w10 hbox hb; have n0_ := Aside0.mk (below_step (by repeat (first | (with_reducible first | exact HB.out | apply below_alloc | apply pw_below_drewN | apply below_drew1) | exact HB.out)) hb); have n1_ := Aside0.mk (hbox); have n2_ := Aside0.mk ((by rw [hg]; exact (below_size (by repeat (first | (with_reducible first | exact HB.out | apply below_alloc | apply pw_below_drewN | apply below_drew1) | exact HB.out))) : w.heap.size ≤ gb142)); have n3_ := Aside0.mk ((by rw [hg]; exact (below_size (by repeat (first | (with_reducible first | exact HB.out | apply below_alloc | apply pw_below_drewN | apply below_drew1) | exact HB.out))) : w.heap.size ≤ gb142)); clear HB; have HB := n0_; have BK142 := n1_; have GW142 := n2_; have GE142 := n3_; clear n0_ n1_ n2_ n3_; clear hb hbox hg; have hcz11_0 : w10.cell? ⟨gb142, 0, none⟩ = some (.int .i64 0) := (blk_cell BK142.out 0).trans rfl; have hcz11_1 : w10.cell? ⟨gb142, 1, none⟩ = some (.int .i64 0) := (blk_cell BK142.out 1).trans rfl; have hfz11_0 := blk_frozen BK142.out 0; have hfz11_1 := blk_frozen BK142.out 1) | ((with_reducible refine gate_callee (f := 49) rfl ?_); refine goesL_ (some 14) rfl rfl Try.func49 (by kernel_rfl) rfl #[.int .i64 ((rd_T74 l0 x8_1).f1), .int .i64 1, .int .i64 120] rfl (by (try simp only [List.map_toArray, List.map_cons, List.map_nil]); first | done | rfl | (simp only [List.length_drop, List.length_take]; rfl)) ?_; (with_reducible refine (impl_within.calls ((rd_T74 l0 x8_1).f1) 1 120 true _ A5.out).mono ?_); rintro e w' ⟨rfl, ⟨nd, rfl⟩⟩; refine ⟨_, rfl, ?_⟩))
                go_roundg k1
                case measure => have := HK1.out; omega
                case rel => exact ⟨(wrap64 (x3_1 + ((rd_T74 l0 x8_1).f1))), (wrap64 (x8_1 + 1)), (by first | rfl | (simp; done) | (simp [*]; done)), (by first | rfl | (simp; done) | (simp [*]; done)), H', ⟨by have := HK1.out; omega⟩, ⟨by repeat (first | (with_reducible first | exact HB.out | apply below_alloc | apply pw_below_drewN | apply below_drew1 | refine below_set ?_ GE142.out) | exact HB.out)⟩⟩
            · replace c6 := Bool.eq_false_iff.mpr c6
              subst c6
              have H1 : (some false) = some r := by rw [if_neg (show ¬ (false = true) by decide)] at H; exact H
              clear H
              have H := H1
              clear H1
              obtain rfl := Option.some.inj H
              have p141 : 0 ≤ (x8_1 : Int) := of_decide_eq_true (by first | (with_reducible assumption) | assumption)
              have q141 : x8_1 < (l0.length : Int) := of_decide_eq_true (by first | (with_reducible assumption) | assumption)
              obtain ⟨ad141, e141, hx141_0, hx141_1⟩ := at_T74 HR0.out x8_1 p141 q141
              cases e141
              (try replace hx141_0 := (HB.out.cell (World.block_lt_of_cell? w _ hx141_0)).trans hx141_0)
              (try replace hx141_1 := (HB.out.cell (World.block_lt_of_cell? w _ hx141_1)).trans hx141_1)
              replace p141 := eq_true p141
              replace q141 := eq_true q141
              go_wp2_with (first | ((with_reducible refine gate_dst (N := 5) rfl ?_); refine box_event ?hg (N := 5) ?hd (cs := #[.int .i64 0, .int .i64 0]) (t := 74) ?hr ?_; (case hd => rfl); (case hg => rfl); (case hr => first | (go_simp; done) | (go_simp; rfl)); intro gb142 hg w12 hbox hb; have n0_ := Aside0.mk (below_step (by repeat (first | (with_reducible first | exact HB.out | apply below_alloc | apply pw_below_drewN | apply below_drew1) | exact HB.out)) hb); have n1_ := Aside0.mk (hbox); have n2_ := Aside0.mk ((by rw [hg]; exact (below_size (by repeat (first | (with_reducible first | exact HB.out | apply below_alloc | apply pw_below_drewN | apply below_drew1) | exact HB.out))) : w.heap.size ≤ gb142)); have n3_ := Aside0.mk ((by rw [hg]; exact (below_size (by repeat (first | (with_reducible first | exact HB.out | apply below_alloc | apply pw_below_drewN | apply below_drew1) | exact HB.out))) : w.heap.size ≤ gb142)); clear HB; have HB := n0_; have BK142 := n1_; have GW142 := n2_; have GE142 := n3_; clear n0_ n1_ n2_ n3_; clear hb hbox hg; have hcz13_0 : w12.cell? ⟨gb142, 0, none⟩ = some (.int .i64 0) := (blk_cell BK142.out 0).trans rfl; have hcz13_1 : w12.cell? ⟨gb142, 1, none⟩ = some (.int .i64 0) := (blk_cell BK142.out 1).trans rfl; have hfz13_0 := blk_frozen BK142.out 0; have hfz13_1 := blk_frozen BK142.out 1) | ((with_reducible refine gate_callee (f := 49) rfl ?_); refine goesL_ (some 14) rfl rfl Try.func49 (by kernel_rfl) rfl #[.int .i64 ((rd_T74 l0 x8_1).f1), .int .i64 1, .int .i64 120] rfl (by (try simp only [List.map_toArray, List.map_cons, List.map_nil]); first | done | rfl | (simp only [List.length_drop, List.length_take]; rfl)) ?_; (with_reducible refine (impl_within.calls ((rd_T74 l0 x8_1).f1) 1 120 false _ A5.out).mono ?_); rintro e w' ⟨rfl, ⟨nd, rfl⟩⟩; refine ⟨_, rfl, ?_⟩))
              go_ret
              exact ⟨by first | rfl | (simp [errW_none, errW_some] <;> rfl) | (simp [*, errW_none, errW_some] <;> rfl), by repeat (first | (with_reducible first | exact HB.out | apply below_alloc | apply pw_below_drewN | apply below_drew1 | refine below_set ?_ GE142.out) | exact HB.out)⟩
          · rw [if_neg c4] at H
            exact absurd H (by simp)
        · rw [if_neg c3] at H
          exact absurd H (by simp)
      · rw [if_neg c2] at H
        have c2b0 : decide (x8_1 < (l0.length : Int)) = false := decide_eq_false c2
        clear c2
        replace H := Option.bind_eq_some_iff.mp H
        obtain ⟨t144, A140, H⟩ := H
        replace H : (some t144) = some r := H
        have A14 := Aside0.mk A140
        clear A140
        obtain rfl := Option.some.inj H
        go_wp2_with (first | ((with_reducible refine gate_callee (f := 61) rfl ?_); refine goesL_ (some 27) rfl rfl Try.func61 (by kernel_rfl) rfl #[.slice A0 l0.length c0, .int .i64 x3_1, .int .i64 60] rfl (by (try simp only [List.map_toArray, List.map_cons, List.map_nil]); first | done | rfl | (simp only [List.length_drop, List.length_take]; rfl)) ?_; (with_reducible refine (impl_GoodRuns.calls k1 _ _ l0 x3_1 60 t144 _ ?side1 ?side2 A14.out).mono ?_); (case side1 => repeat (first | exact (Kd.C_below HR0.out HB.out) | (with_reducible refine Kd.C_alloc ?_ _) | (with_reducible refine Kd.C_drewN ?_ _) | (with_reducible refine Kd.C_drew ?_))); (case side2 => exact HC0.out); rintro e w15 ⟨rfl, hb⟩; refine ⟨_, rfl, ?_⟩; have n0_ := Aside0.mk (below_step (by repeat (first | (with_reducible first | exact HB.out | apply below_alloc | apply pw_below_drewN | apply below_drew1) | exact HB.out)) hb); clear HB; have HB := n0_; clear n0_; (try clear hb); (try clear hb2); (try clear hk); (try clear hi)))
        go_ret
        exact ⟨by first | rfl | (simp [errW_none, errW_some] <;> rfl) | (simp [*, errW_none, errW_some] <;> rfl), by repeat (first | (with_reducible first | exact HB.out | apply below_alloc | apply pw_below_drewN | apply below_drew1) | exact HB.out)⟩

-- NOT PRINTED: function 77 (slices_Chunk_byte_byte_1)

-- NOT PRINTED: function 53 (slices_Chunk_byte_byte)

/-! ### impl_ReadRuns: function 23 -/
section
open Go Go.Shelf Go.Proofs.YtdlicabmalljpaaW.Chunk
attribute [local go_sem] Oper.semAt_some
def impl_ReadRuns.p (l0 : List Int) (x : Nat) : S74 := ⟨wrap64 (rd l0 ((2 * x : Nat) : Int)), wrap64 (rd l0 ((2 * x + 1 : Nat) : Int))⟩
def impl_ReadRuns.f (k : Nat) (l0 : List Int) : Option ((List S74) × Bool) := if ((l0.length : Int) % 2) = 0 then (if l0.length < 8796093022208 then ((impl_someRuns.f k ((List.finRange (l0.length / 2)).map fun x => impl_ReadRuns.p l0 x.1)).bind fun t => if t = true then some (((List.finRange (l0.length / 2)).map fun x => impl_ReadRuns.p l0 x.1), true) else some ([], false)) else none) else some ([], false)
theorem impl_ReadRuns.mono : ∀ a0 k, LeO (impl_ReadRuns.f k a0) (impl_ReadRuns.f (k + 1) a0) := by
  intro a0 k r h
  unfold impl_ReadRuns.f at h ⊢
  split at h
  · rename_i h1
    rw [if_pos h1]
    split at h
    · rename_i h2
      rw [if_pos h2]
      obtain ⟨t, A, H⟩ := Option.bind_eq_some_iff.mp h
      exact Option.bind_eq_some_iff.mpr ⟨t, impl_someRuns.mono _ _ _ A, H⟩
    · cases h
  · rename_i h1
    rw [if_neg h1]
    exact h
/-- What holds between two rounds. -/
def impl_ReadRuns.I (l0 : List Int) (w : World) (m : Nat) (pre : List (Fin m)) (W : World) : Prop :=
  ∃ v, Boxed W (w.heap.size + 1) 25 v ∧ Kd.R k74 74 W w.heap.size (fun k => k = w.heap.size ∨ w.heap.size + 4 ≤ k) v (pre.map fun x => impl_ReadRuns.p l0 x.1) ∧ Below w.heap.size w W ∧ w.heap.size + 4 ≤ W.heap.size
theorem impl_ReadRuns.own (l0 : List Int) (w : World) (m B : Nat) (hB : w.heap.size ≤ B) : OwnFrom B (impl_ReadRuns.I l0 w m) := by
  rintro s X Y row ⟨v, hv, hR, hb, hlo⟩ hg hr
  refine ⟨v, hv.kept hg (fun e => ?_), ?_, ?_, Nat.le_trans hlo hg.size⟩
  · obtain ⟨_, o, ho, hc⟩ := hr _ e.symm
    rw [show X.heap[w.heap.size + 1]? = _ from hv] at ho
    cases ho
    cases hc
  · refine Kd.R_mono (Kd.R_grown (Kd.R_bound hR) hg (fun k hk e => ?_)) (fun _ hk => hk.1)
    obtain ⟨_, _, _, q, _, cells, hc⟩ := hk
    obtain ⟨_, o, ho, hc'⟩ := hr _ e.symm
    rw [hc] at ho
    cases ho
    cases hc'
  · exact hb.grown hg hb.size (fun k e => Nat.le_trans hB (hr k e).1)
set_option maxHeartbeats 4000000 in
set_option maxRecDepth 100000 in
theorem impl_ReadRuns.calls (k : Nat) (A0 : Option Addr) (c0 : Nat) (l0 : List Int) (r1 : List (S74)) (r2 : Bool) (w : World) (hr0 : Kd.C (Kd.int .u8) w A0 l0.length l0) (hc0 : l0.length ≤ c0) (h : impl_ReadRuns.f k l0 = some (r1, r2)) :
    Calls Try.prog 23 #[.slice A0 l0.length c0] w fun e w' => ∃ v0_ : Value, e = .returned (.tuple #[v0_, .bool r2]) ∧ Kd.R k74 74 w' w.heap.size (fun _ => True) v0_ r1 ∧ Below w.heap.size w w' := by
  refine (callsIn_wide (n := 3)).1 ?_
  have hu74 := Try.underlying74
  refine callsIn_of_wp_marks Try.func23 rfl trivial ?_ rfl
  simp only [Try.ntmps23, List.size_toArray, List.length_cons, List.length_nil, Nat.reduceAdd, Nat.reduceSub, Array.replicate_succ, Array.replicate_zero, List.push_toArray, List.append_toArray, List.nil_append, List.cons_append]
  by_cases c3 : ((l0.length : Int) % 2) = 0
  · have c3b : (((l0.length : Int) % 2) != 0) = false := bne_eq_false_iff_eq.mpr c3
    unfold impl_ReadRuns.f at h
    rw [if_pos c3] at h
    by_cases c4 : l0.length < 8796093022208
    · rw [if_pos c4] at h
      gi_wp2_with (refine ⟨trivial, ?_⟩; gi_at_call 53; refine (chunk_in Fence.wide _ trivial rfl _ _ _ _).mono ?_; rintro e w' ⟨rfl, rfl⟩)
      obtain ⟨m, hm⟩ : ∃ m, m = l0.length / 2 := ⟨_, rfl⟩
      rw [← hm] at h
      have hm2 : l0.length = 2 * m := by omega
      have HM := Aside0.mk hm2
      have HC := Aside0.mk hc0
      clear hm
      have hA : 0 < m → A0 = some (A0.getD ⟨0, 0, none⟩) := fun h0 => by
        obtain ⟨ad, e, _⟩ := Kd.at_int hr0 0 (by omega) (by omega)
        rw [e]
        rfl
      have hB0 : Below w.heap.size w ((((w.alloc (Obj.cells #[] 74)).alloc (Obj.cells #[Value.slice (some { block := w.heap.size, off := 0 }) 0 0] 25)).alloc (Obj.cells #[Value.slice A0 l0.length c0] 29)).alloc (Obj.cells #[Value.int IntKind.i64 2] 3)) :=
        ((((Below.refl _ w).alloc (Nat.le_refl _) _).alloc (by simp) _).alloc (by simp; omega) _).alloc (by simp; omega) _
      have bO := ((Boxed.new (w.alloc (Obj.cells #[] 74)) 25 (Value.slice (some { block := w.heap.size, off := 0 }) 0 0)).alloc (Obj.cells #[Value.slice A0 l0.length c0] 29)).alloc (Obj.cells #[Value.int IntKind.i64 2] 3)
      have bS := (Boxed.new ((w.alloc (Obj.cells #[] 74)).alloc (Obj.cells #[Value.slice (some { block := w.heap.size, off := 0 }) 0 0] 25)) 29 (Value.slice A0 l0.length c0)).alloc (Obj.cells #[Value.int IntKind.i64 2] 3)
      have bN := Boxed.new (((w.alloc (Obj.cells #[] 74)).alloc (Obj.cells #[Value.slice (some { block := w.heap.size, off := 0 }) 0 0] 25)).alloc (Obj.cells #[Value.slice A0 l0.length c0] 29)) 3 (Value.int IntKind.i64 2)
      have hR0 : Kd.R k74 74 (w.alloc (Obj.cells #[] 74)) w.heap.size (fun k => k = w.heap.size ∨ w.heap.size + 4 ≤ k) (Value.slice (some { block := w.heap.size, off := 0 }) 0 0) [] := by
        refine ⟨fun k hk => .inl ?_, [], ?_, ?_⟩
        · simpa [Value.ownBlock] using hk.symm
        · exact World.ownsRow_lit (base := w.heap.size) (e := 74) (size := 2) w #[] 0 (Nat.le_refl _) (by decide) (by simp)
        · exact ⟨by simp, fun j p h => by simp at h⟩
      have hR : Kd.R k74 74 ((((w.alloc (Obj.cells #[] 74)).alloc (Obj.cells #[Value.slice (some { block := w.heap.size, off := 0 }) 0 0] 25)).alloc (Obj.cells #[Value.slice A0 l0.length c0] 29)).alloc (Obj.cells #[Value.int IntKind.i64 2] 3)) w.heap.size (fun k => k = w.heap.size ∨ w.heap.size + 4 ≤ k) (Value.slice (some { block := w.heap.size, off := 0 }) 0 0) [] :=
        Kd.R_alloc (Kd.R_alloc (Kd.R_alloc hR0 _) _) _
      have hsz : ((((w.alloc (Obj.cells #[] 74)).alloc (Obj.cells #[Value.slice (some { block := w.heap.size, off := 0 }) 0 0] 25)).alloc (Obj.cells #[Value.slice A0 l0.length c0] 29)).alloc (Obj.cells #[Value.int IntKind.i64 2] 3)).heap.size = w.heap.size + 4 := by simp
      simp only [World.size_alloc] at bO bS bN
      generalize ((((w.alloc (Obj.cells #[] 74)).alloc (Obj.cells #[Value.slice (some { block := w.heap.size, off := 0 }) 0 0] 25)).alloc (Obj.cells #[Value.slice A0 l0.length c0] 29)).alloc (Obj.cells #[Value.int IntKind.i64 2] 3)) = W1 at *
      clear hm2
      refine wpIn_rangeFunc_ownG rfl (by decide) (gf := 77) (lb := #[.pointer (some ⟨w.heap.size + 1 + 1, 0, none⟩), .pointer (some ⟨w.heap.size + 1 + 1 + 1, 0, none⟩)]) rfl trivial (enters_of Try.func77 (by kernel_rfl) rfl)
        (chunk_stops Fence.wide 2 trivial rfl (by decide) (w.heap.size + 1 + 1) (w.heap.size + 1 + 1 + 1) m c0 A0 (A0.getD ⟨0, 0, none⟩) hA (by have := HM.out; omega) (by have := HM.out; omega) W1 (by omega) (by omega) (by rw [← HM.out]; exact bS.cell) bN.cell)
        (fun h1 h2 => h1.trans h2) (fun W l o o' hl _ _ _ => KeepsTwo.put W l o' (by omega) (by omega)) (Below.refl _ _) (fun _ => rfl)
        (impl_ReadRuns.I l0 w m) (fun _ _ _ => False) (impl_ReadRuns.own l0 w m _ (by omega)) (fun _ _ _ _ _ hs _ _ => hs) ⟨_, bO, hR, hB0, by omega⟩
        (fun x => { tmps := #[.slice A0 l0.length c0, undef, .slice none 0 0, .bool false, .pointer (some ⟨w.heap.size + 1, 0, none⟩), .slice (some ((A0.getD ⟨0, 0, none⟩).add (2 * x.1))) 2 2, .slice A0 l0.length c0, .int .i64 l0.length, .int .i64 0, .bool false, .slice (some ⟨w.heap.size, 0, none⟩) 0 0, .slice A0 l0.length c0, .func (.func 77) #[] #[.pointer (some ⟨w.heap.size + 1 + 1, 0, none⟩), .pointer (some ⟨w.heap.size + 1 + 1 + 1, 0, none⟩)], .slice (some ((A0.getD ⟨0, 0, none⟩).add (2 * x.1))) 2 2, undef, undef, undef, undef, undef, undef, undef, undef, undef, undef, undef, undef, undef, undef, undef, undef], defers := [] }) ?assign ?body ?done ?stop
      case assign =>
        intro l x W K hK
        gi_wp2
        exact hK
      case body =>
        rintro l pre x W ⟨v, hv, hR, hB, hLow⟩ hlt
        gi_wp2
        have hx := x.2
        have HX := HM.out
        obtain ⟨ad0, ea0, h0⟩ := Kd.at_int hr0 ((2 * x.1 : Nat) : Int) (by omega) (by omega)
        obtain ⟨ad1, ea1, h1⟩ := Kd.at_int hr0 ((2 * x.1 + 1 : Nat) : Int) (by omega) (by omega)
        subst ea0
        obtain rfl : ad0 = ad1 := by injection ea1
        simp only [Int.toNat_natCast] at h0 h1
        rw [← add_one_] at h1
        simp only [Option.getD_some]
        have hlow : w.heap.size + 4 ≤ W.heap.size := hLow
        clear hA HX
        have hne : some (w.heap.size + 1) ≠ v.ownBlock := Kd.R_ne hR hv (by decide)
        refine start_R (n := 13) (ds := [12]) (S := fun w' => w'.cell? ⟨w.heap.size + 1, 0, none⟩ = some v ∧ w'.cell? (ad0.add (2 * x.1)) = some (.int .u8 (rd l0 ((2 * x.1 : Nat) : Int))) ∧ w'.cell? ⟨(ad0.add (2 * x.1)).block, (ad0.add (2 * x.1)).off + 1, none⟩ = some (.int .u8 (rd l0 ((2 * x.1 + 1 : Nat) : Int)))) #[false, false, false, false, false, false, false, false, false, false, false, false, false] (by kernel_rfl) (fun ⟨_, _, hh⟩ => hh) (by kernel_rfl) rfl rfl ⟨hv.cell, (hB.cell (World.block_lt_of_cell? w _ h0)).trans h0, (hB.cell (World.block_lt_of_cell? w _ h1)).trans h1⟩ (fun hHeld => ?_)
        replace hv : Boxed W.drew _ _ _ := hv
        replace hR := Kd.R_drew hR
        replace hB : Below w.heap.size w W.drew := hB.drew
        replace hlow : w.heap.size + 4 ≤ W.drew.heap.size := hlow
        have hKD : KeepsOthers W W.drew := KeepsOthers.drew W
        have hTD : KeepsTwo (w.heap.size + 1 + 1) (w.heap.size + 1 + 1 + 1) W W.drew := ⟨rfl, rfl⟩
        generalize W.drew = w1 at *
        refine pure_ (i := 1) (N := some 15) (v := ?_) (a' := ?_) #[false, true, false, false, false, false, false, false, false, false, false, false, false] rfl rfl (by kernel_rfl) (fun _ _ _ h => h) (Or.inl ⟨by rfl, ?_⟩) ?_ ?_
        rotate_left
        · intro w'
          go_simp
          try with_reducible rfl
        rotate_left
        · simp only [Act.put, List.setIfInBounds_toArray, List.set_cons_zero, List.set_cons_succ, i64_w, i32_w]
          rfl
        refine pure_ (i := 5) (N := some 19) (v := ?_) (a' := ?_) #[false, true, false, false, false, true, false, false, false, false, false, false, false] rfl rfl (by kernel_rfl) (fun _ _ _ h => h) (Or.inl ⟨by rfl, ?_⟩) ?_ ?_
        rotate_left
        · intro w'
          go_simp
          try with_reducible rfl
        rotate_left
        · simp only [Act.put, List.setIfInBounds_toArray, List.set_cons_zero, List.set_cons_succ, i64_w, i32_w]
          rfl
        refine pure_ (i := 2) (N := some 16) (v := ?_) (a' := ?_) #[false, true, true, false, false, true, false, false, false, false, false, false, false] rfl rfl (by kernel_rfl) (fun _ _ _ h => h) (Or.inl ⟨by rfl, ?_⟩) ?_ ?_
        rotate_left
        · intro w'
          go_simp
          try with_reducible rfl
        rotate_left
        · simp only [Act.put, List.setIfInBounds_toArray, List.set_cons_zero, List.set_cons_succ, i64_w, i32_w]
          rfl
        refine pure_ (i := 6) (N := some 20) (v := ?_) (a' := ?_) #[false, true, true, false, false, true, true, false, false, false, false, false, false] rfl rfl (by kernel_rfl) (fun _ _ _ h => h) (Or.inl ⟨by rfl, ?_⟩) ?_ ?_
        rotate_left
        · intro w'
          go_simp
          try with_reducible rfl
        rotate_left
        · simp only [Act.put, List.setIfInBounds_toArray, List.set_cons_zero, List.set_cons_succ, i64_w, i32_w]
          rfl
        refine take_ (i := 0) (N := some 14) (v := ?_) (a' := ?_) #[true, true, true, false, false, true, true, false, false, false, false, false, false] rfl rfl (by kernel_rfl) (fun _ _ _ h => h) (Or.inl ⟨by rfl, ?_⟩) hHeld ?_ ?_
        rotate_left
        · rintro w' ⟨s0, s1, s2⟩
          go_simp
          try with_reducible rfl
        rotate_left
        · simp only [Act.put, List.setIfInBounds_toArray, List.set_cons_zero, List.set_cons_succ, i64_w, i32_w]
          rfl
        refine take_ (i := 3) (N := some 17) (v := ?_) (a' := ?_) #[true, true, true, true, false, true, true, false, false, false, false, false, false] rfl rfl (by kernel_rfl) (fun _ _ _ h => h) (Or.inl ⟨by rfl, ?_⟩) hHeld ?_ ?_
        rotate_left
        · rintro w' ⟨s0, s1, s2⟩
          go_simp
          try with_reducible rfl
        rotate_left
        · simp only [Act.put, List.setIfInBounds_toArray, List.set_cons_zero, List.set_cons_succ, i64_w, i32_w]
          rfl
        refine take_ (i := 7) (N := some 21) (v := ?_) (a' := ?_) #[true, true, true, true, false, true, true, true, false, false, false, false, false] rfl rfl (by kernel_rfl) (fun _ _ _ h => h) (Or.inl ⟨by rfl, ?_⟩) hHeld ?_ ?_
        rotate_left
        · rintro w' ⟨s0, s1, s2⟩
          go_simp
          try with_reducible rfl
        rotate_left
        · simp only [Act.put, List.setIfInBounds_toArray, List.set_cons_zero, List.set_cons_succ, i64_w, i32_w]
          rfl
        refine pure_ (i := 4) (N := some 18) (v := ?_) (a' := ?_) #[true, true, true, true, true, true, true, true, false, false, false, false, false] rfl rfl (by kernel_rfl) (fun _ _ _ h => h) (Or.inl ⟨by rfl, ?_⟩) ?_ ?_
        rotate_left
        · intro w'
          go_simp
          try with_reducible rfl
        rotate_left
        · simp only [Act.put, List.setIfInBounds_toArray, List.set_cons_zero, List.set_cons_succ, i64_w, i32_w]
          rfl
        refine pure_ (i := 8) (N := some 22) (v := ?_) (a' := ?_) #[true, true, true, true, true, true, true, true, true, false, false, false, false] rfl rfl (by kernel_rfl) (fun _ _ _ h => h) (Or.inl ⟨by rfl, ?_⟩) ?_ ?_
        rotate_left
        · intro w'
          go_simp
          try with_reducible rfl
        rotate_left
        · simp only [Act.put, List.setIfInBounds_toArray, List.set_cons_zero, List.set_cons_succ, i64_w, i32_w]
          rfl
        refine pure_ (i := 9) (N := some 23) (v := ?_) (a' := ?_) #[true, true, true, true, true, true, true, true, true, true, false, false, false] rfl rfl (by kernel_rfl) (fun _ _ _ h => h) (Or.inl ⟨by rfl, ?_⟩) ?_ ?_
        rotate_left
        · intro w'
          go_simp
          try with_reducible rfl
        rotate_left
        · simp only [Act.put, List.setIfInBounds_toArray, List.set_cons_zero, List.set_cons_succ, i64_w, i32_w]
          rfl
        refine one_ (i := 10) (N := some 24) #[true, true, true, true, true, true, true, true, true, true, true, false, false] rfl rfl (by kernel_rfl) (by decide) (fun K hK => ?_)
        refine value_ (w1 := ?_) (v := ?_) (by rfl) rfl ?_ ?_
        rotate_left 2
        · go_simp
          constructor
          · rfl
          · rfl
        refine hK.out _ _ ⟨(World.cell?_alloc_lt _ _ _ (World.block_lt_of_cell? _ _ hHeld.1)).trans hHeld.1, (World.cell?_alloc_lt _ _ _ (World.block_lt_of_cell? _ _ hHeld.2.1)).trans hHeld.2.1, (World.cell?_alloc_lt _ _ _ (World.block_lt_of_cell? _ _ hHeld.2.2)).trans hHeld.2.2⟩ (fun hHeld => ?_)
        clear hK K
        refine norm_ (a' := ?_) ?_ ?_
        rotate_left
        · show Act.put _ (some 24) _ = _
          simp only [Act.put, List.setIfInBounds_toArray, List.set_cons_zero, List.set_cons_succ, i64_w, i32_w]
          rfl
        refine one_ (i := 11) (N := some 25) #[true, true, true, true, true, true, true, true, true, true, true, true, false] rfl rfl (by kernel_rfl) (by decide) (fun K hK => ?_)
        refine Kd.R_append_step k74 (w0 := w) w.heap.size (by rfl) (.tmp 14) (.tmp 24) 25 74 (.agg #[(.int .i64 0), (.int .i64 0)]) 16 rfl Try.underlying25 info74 rfl (by decide) (by omega) v (pre.map fun x => impl_ReadRuns.p l0 x.1) (impl_ReadRuns.p l0 x.1) [.int .i64 (impl_ReadRuns.p l0 x.1).f0, .int .i64 (impl_ReadRuns.p l0 x.1).f1] (fun k => k = w.heap.size ∨ w.heap.size + 4 ≤ k) (fun _ => False) rfl rfl ?aP (fun _ hk => hk.elim) ?aF ?aO ?aB ?aS ?aL ?_
        (case aP => exact k74_mkM _ _ _ _)
        (case aF => exact fun k hk => .inr (Nat.le_trans hlow hk))
        (case aO => exact hR)
        (case aB => exact hB)
        (case aS => exact hB.size)
        (case aL => rw [List.length_map]; have := HM.out; omega)
        intro v2 w2 ho hb hg hat
        obtain ⟨A2, n2, cc2, rfl⟩ : ∃ A n c, v2 = .slice A n c := by
          obtain ⟨A, c, e⟩ := Kd.R_slice ho
          exact ⟨_, _, _, e⟩
        have hbo2 : Boxed w2 (w.heap.size + 1) 25 v := hv.kept hg hne
        have hc2 := hbo2.cell
        have hf2 := hbo2.frozen
        refine hK.out _ _ ⟨hc2, (hb.cell (World.block_lt_of_cell? w _ h0)).trans h0, (hb.cell (World.block_lt_of_cell? w _ h1)).trans h1⟩ (fun hHeld => ?_)
        clear hK K
        refine norm_ (a' := ?_) ?_ ?_
        rotate_left
        · show Act.put _ (some 25) _ = _
          simp only [Act.put, List.setIfInBounds_toArray, List.set_cons_zero, List.set_cons_succ, i64_w, i32_w]
          rfl
        refine last_ (i := 12) (N := none) #[true, true, true, true, true, true, true, true, true, true, true, true, true] rfl rfl (by kernel_rfl) (by decide) (fun K hK => ?_)
        refine skip_ (w1 := w2.setCell ⟨w.heap.size + 1, 0, none⟩ (.slice A2 n2 cc2)) (by rfl) rfl ?_ ?_
        · go_simp
          try with_reducible rfl
        refine hK.out _ _ ?_
        clear hK K
        refine done_ (by kernel_rfl) ?_
        have hrow : ∀ k, v.ownBlock = some k → k = w.heap.size ∨ w.heap.size + 4 ≤ k := hR.1
        refine ⟨((hKD.trans (KeepsOthers.of_grownBy hg ?k1)).trans (KeepsOthers.setCell _ _ _)).from _, hTD.trans (KeepsTwo.trans (Y := w2) ⟨hg.block _ (by omega) ?k2, hg.block _ (by omega) ?k3⟩ ⟨?k4, ?k5⟩), ⟨_, hbo2.set _, ?k6, ?k7, ?k8⟩⟩
        case k1 =>
          intro j o hj ho
          obtain ⟨_, _, _, q, _, cells, hc⟩ := (Kd.R_bound hR).1 j hj
          rw [hc] at ho
          cases ho
          rfl
        case k2 => exact fun e => by have := hrow _ e.symm; omega
        case k3 => exact fun e => by have := hrow _ e.symm; omega
        case k4 => exact Below.heap_setCell w2 _ _ _ (by dsimp only; omega)
        case k5 => exact Below.heap_setCell w2 _ _ _ (by dsimp only; omega)
        case k6 =>
          rw [List.map_append, List.map_singleton]
          exact Kd.R_set ho hbo2 (by decide) _ _
        case k7 => exact hb.setCell (p := ⟨w.heap.size + 1, 0, none⟩) (by simp) _
        case k8 => have := hg.size; simp; omega
      case done =>
        rintro D ys W hD rfl ⟨v, hv, hR, hB, hLow⟩ hK
        obtain ⟨AO, cO, eO⟩ := Kd.R_slice hR
        subst eO
        have hc := hv.cell
        obtain ⟨t, A13, H⟩ := Option.bind_eq_some_iff.mp h
        clear h hA HM HC c3b bO bS bN hR0
        generalize hL : ((List.finRange m).map fun x => impl_ReadRuns.p l0 x.1) = L at *
        have hfin : ∀ w', Below W.heap.size W w' → (w'.heap[D]? = some (Obj.deferred (some [])) ∧ Kd.R k74 74 (w'.putObj D (.deferred none)) w.heap.size (fun _ => True) (.slice AO L.length cO) L ∧ Below w.heap.size w (w'.putObj D (.deferred none))) := fun w' hb => by
          have hKD : w'.heap[D]? = some (Obj.deferred (some [])) := (hb.block D (Array.getElem?_eq_some_iff.1 hK).1).trans hK
          refine ⟨hKD, ?_, (hB.trans (hb.mono hB.size)).trans (belowK_b (w := w) (Nat.le_refl _) w' D _ _ (by omega) hKD rfl rfl)⟩
          refine Kd.R_mono (Kd.R_grown (Kd.R_bound (Kd.R_below hR hb)) (grownBy_putObj' w' D (.deferred none)) (fun k hk e => ?_)) (fun _ _ => trivial)
          obtain ⟨_, _, _, q, _, cells, hc'⟩ := hk
          cases e
          rw [hKD] at hc'
          cases hc'
        cases t with
        | true =>
          simp only [if_true, Option.some.injEq, Prod.mk.injEq] at H
          obtain ⟨rfl, rfl⟩ := H
          gi_wp2_with (refine ⟨trivial, ?_⟩; gi_at_call 47; refine (callsIn_wide.2 (impl_someRuns.calls k _ _ L true _ (Kd.R_reads' hR).2.2 (Kd.R_reads' hR).2.1 A13)).mono ?_; rintro e w' ⟨rfl, hb⟩; have hc2 := (hb.cell (World.block_lt_of_cell? _ _ hc)).trans hc; obtain ⟨hK2, hR2, hB2⟩ := hfin _ hb)
          refine ⟨by simp, .inl ⟨_, _, rfl, run_takeDeferred hK2, ?_⟩⟩
          exact ⟨_, results_tmp2 rfl _ _ _, _, rfl, hR2, hB2⟩
        | false =>
          simp only [Bool.false_eq_true, if_false, Option.some.injEq, Prod.mk.injEq] at H
          obtain ⟨rfl, rfl⟩ := H
          gi_wp2_with (refine ⟨trivial, ?_⟩; gi_at_call 47; refine (callsIn_wide.2 (impl_someRuns.calls k _ _ L false _ (Kd.R_reads' hR).2.2 (Kd.R_reads' hR).2.1 A13)).mono ?_; rintro e w' ⟨rfl, hb⟩; have hc2 := (hb.cell (World.block_lt_of_cell? _ _ hc)).trans hc; obtain ⟨hK2, hR2, hB2⟩ := hfin _ hb)
          refine ⟨by simp, .inl ⟨_, _, rfl, run_takeDeferred hK2, ?_⟩⟩
          exact ⟨_, results_tmp2 rfl _ _ _, _, rfl, Kd.R_nil _ _ _ _ _, hB2⟩
      case stop =>
        rintro D c pre W _ _ h _
        exact h.elim
    · rw [if_neg c4] at h; exact absurd h (by simp)
  · have c3b : (((l0.length : Int) % 2) != 0) = true := bne_iff_ne.mpr c3
    unfold impl_ReadRuns.f at h
    rw [if_neg c3] at h
    simp only [Option.some.injEq, Prod.mk.injEq] at h
    obtain ⟨rfl, rfl⟩ := h
    gi_wp2
    exact ⟨_, results_tmp2 rfl _ _ _, _, rfl, Kd.R_nil _ _ _ _ _, Below.refl _ _⟩
end

end Go.Proofs.Ytdlicabmalljpaa.PFnExactReadRuns
