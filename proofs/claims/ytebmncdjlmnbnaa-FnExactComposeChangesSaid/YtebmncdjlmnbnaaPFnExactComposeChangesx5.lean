-- Written by a program of this session over the print of the kit (wip/t/patch_print.py).
import Derived.Test.YtebmncdjlmnbnaaPFnExactComposeChangesx0
namespace Go.Proofs.Ytebmncdjlmnbnaa.PFnExactComposeChanges
open Go.RowKit Go.Proofs.YtebmncdjlmnbnaaW.PrintWords Go.Proofs.YtebmncdjlmnbnaaW.PrintLast Go.Proofs.YtebmncdjlmnbnaaW.PrintMore
attribute [local go_sem] max2_int min2_int max_two min_two max_three min_three max_four min_four   -- for this text's walks alone
set_option linter.unusedVariables false
set_option linter.unusedSimpArgs false

/-! ### spec_l1Source: function 61 -/
def spec_l1Source.l0 : Nat → Int → List (S74) → Int → Int → Option (Int)
 | 0,_,_,_,_=>none
 | k + 1,x3,x6,x7,x8=>if x8 < x7 then (if 0 ≤ x8 then (if x8 < (x6.length : Int) then (spec_l1Source.l0 k (wrap64 (x3 + (wrap64 (((rd_T74 x6 x8).f0) + ((rd_T74 x6 x8).f1))))) x6 x7 (wrap64 (x8 + 1))) else (none)) else (none)) else (some x3)
def spec_l1Source.f (k : Nat) (l0 : List (S74)) : Option (Int):=spec_l1Source.l0 k 0 l0 (l0.length : Int) 0
theorem spec_l1Source.mono_l : ∀ k,(∀ y0 y1 y2 y3,LeO (spec_l1Source.l0 k y0 y1 y2 y3) (spec_l1Source.l0 (k + 1) y0 y1 y2 y3))
 | 0=>fun _ _ _ _ r h=>by simp [spec_l1Source.l0] at h
 | k + 1=>by
  have ih0:=spec_l1Source.mono_l k
  ·intro y0 y1 y2 y3
   unfold spec_l1Source.l0
   repeat' first
   | (with_reducible exact ih0 _ _ _ _)
   | (with_reducible exact LeO.refl _)
   | (with_reducible exact LeO.none _)
   | (with_reducible refine LeO.ite ?_ ?_)
   | (with_reducible refine LeO.bind ?_ (fun _=>?_))
   | exact ih0 _ _ _ _
   | exact LeO.none _
   | refine LeO.ite ?_ ?_
   | refine LeO.bind ?_ (fun _=>?_)
theorem spec_l1Source.mono : ∀ a0 k,LeO (spec_l1Source.f k a0) (spec_l1Source.f (k + 1) a0):=by
 intro a0 k
 have ih0:=spec_l1Source.mono_l k
 unfold spec_l1Source.f
 repeat' first
   | (with_reducible exact ih0 _ _ _ _)
   | (with_reducible exact LeO.refl _)
   | (with_reducible exact LeO.none _)
   | (with_reducible refine LeO.ite ?_ ?_)
   | (with_reducible refine LeO.bind ?_ (fun _=>?_))
   | exact ih0 _ _ _ _
   | exact LeO.none _
   | refine LeO.ite ?_ ?_
   | refine LeO.bind ?_ (fun _=>?_)
set_option maxHeartbeats 8000000 in
set_option maxRecDepth 100000 in
theorem spec_l1Source.calls (k : Nat) (A0 : Option Addr) (c0 : Nat) (l0 : List (S74)) (r : Int) (w : World) (hr0 : Kd.C k74 w A0 l0.length l0) (hc0 : l0.length ≤ c0) (h : spec_l1Source.f k l0 = some r) :
  Calls Try.prog 61 #[.slice A0 l0.length c0] w fun e w'=>e = .returned (.int .i64 r)∧Below w.heap.size w w':=by
 have hu74:=Try.underlying74
 have HR0:=Aside0.mk hr0
 have HC0:=Aside0.mk hc0
 clear hr0 hc0
 have HB:=Aside0.mk (Below.refl w.heap.size w)
 have H : (spec_l1Source.l0 k 0 l0 (l0.length : Int) 0) = some r:=h
 clear h
 have H':=Aside0.mk H
 clear H
 go_enter Try.func61,Try.ntmps61
 go_wp2
 go_loopg [3,8] k (fun kq v3 v8 w'=>∃ (x3_1 : Int) (x8_1 : Int),v3 = .int .i64 x3_1∧v8 = .int .i64 x8_1∧Aside0 (spec_l1Source.l0 kq x3_1 l0 (l0.length : Int) x8_1 = some r)∧Aside0 (kq ≤ k)∧Aside0 (Below w.heap.size w w'))
 case atStart=>exact ⟨(0),(0),(by first|rfl|(simp;done)|(simp [*];done)),(by first|rfl|(simp;done)|(simp [*];done)),H',⟨Nat.le_refl _⟩,⟨by repeat (first|exact HB.out|apply below_alloc|apply pw_below_drewN|apply below_drew1)⟩⟩
 case round =>
  clear H'
  obtain ⟨x3_1,x8_1,rfl,rfl,HA,HK1,HB⟩:=hrel
  cases gk with
  | zero=>exact absurd HA.out (by simp [spec_l1Source.l0])
  | succ k1 =>
   have H:=HA.out
   clear HA
   simp only [spec_l1Source.l0] at H
   by_cases c2 : x8_1 < (l0.length : Int)
   ·rw [if_pos c2] at H
    have c2b0 : decide (x8_1 < (l0.length : Int)) = true:=decide_eq_true c2
    clear c2
    by_cases c3 : 0 ≤ x8_1
    ·rw [if_pos c3] at H
     have c3b0 : decide (0 ≤ x8_1) = true:=decide_eq_true c3
     clear c3
     by_cases c4 : x8_1 < (l0.length : Int)
     ·rw [if_pos c4] at H
      have c4b0 : decide (x8_1 < (l0.length : Int)) = true:=decide_eq_true c4
      clear c4
      have H':=Aside0.mk H
      clear H
      have p137 : 0 ≤ (x8_1 : Int):=of_decide_eq_true (by assumption)
      have q137 : x8_1 < (l0.length : Int):=of_decide_eq_true (by assumption)
      obtain ⟨ad137,e137,hx137_0,hx137_1,hx137_2⟩:=at_T74 HR0.out x8_1 p137 q137
      cases e137
      (try replace hx137_0:=(HB.out.cell (World.block_lt_of_cell? w _ hx137_0)).trans hx137_0)
      (try replace hx137_1:=(HB.out.cell (World.block_lt_of_cell? w _ hx137_1)).trans hx137_1)
      (try replace hx137_2:=(HB.out.cell (World.block_lt_of_cell? w _ hx137_2)).trans hx137_2)
      replace p137:=eq_true p137
      replace q137:=eq_true q137
      go_wp2_with (first|((with_reducible refine gate_dst (N:=5) rfl ?_);refine box_event ?hg (N:=5) ?hd (cs:=#[.int .i64 0,.int .i64 0,.string (⟨#[]⟩ : ByteArray)]) (t:=74) ?hr ?_;(case hd=>rfl);(case hg=>rfl);(case hr=>first|(go_simp;done)|(go_simp;rfl));intro gb138 hg w5 hbox hb;have n0_:=Aside0.mk (below_step (by repeat (first|exact HB.out|apply below_alloc|apply pw_below_drewN|apply below_drew1)) hb);have n1_:=Aside0.mk (hbox);have n2_:=Aside0.mk ((by rw [hg];exact (below_size (by repeat (first|exact HB.out|apply below_alloc|apply pw_below_drewN|apply below_drew1))) : w.heap.size ≤ gb138));have n3_:=Aside0.mk ((by rw [hg];exact (below_size (by repeat (first|exact HB.out|apply below_alloc|apply pw_below_drewN|apply below_drew1))) : w.heap.size ≤ gb138));clear HB;have HB:=n0_;have BK138:=n1_;have GW138:=n2_;have GE138:=n3_;clear n0_ n1_ n2_ n3_;clear hb hbox hg;have hcz6_0 : w5.cell? ⟨gb138,0,none⟩ = some (.int .i64 0):=(blk_cell BK138.out 0).trans rfl;have hcz6_1 : w5.cell? ⟨gb138,1,none⟩ = some (.int .i64 0):=(blk_cell BK138.out 1).trans rfl;have hcz6_2 : w5.cell? ⟨gb138,2,none⟩ = some (.string (⟨#[]⟩ : ByteArray)):=(blk_cell BK138.out 2).trans rfl;have hfz6_0:=blk_frozen BK138.out 0;have hfz6_1:=blk_frozen BK138.out 1;have hfz6_2:=blk_frozen BK138.out 2))
      go_roundg k1
      case measure=>have:=HK1.out;omega
      case rel=>exact ⟨(wrap64 (x3_1 + (wrap64 (((rd_T74 l0 x8_1).f0) + ((rd_T74 l0 x8_1).f1))))),(wrap64 (x8_1 + 1)),(by first|rfl|(simp;done)|(simp [*];done)),(by first|rfl|(simp;done)|(simp [*];done)),H',⟨by have:=HK1.out;omega⟩,⟨by repeat (first|(with_reducible first|exact HB.out|apply below_alloc|apply pw_below_drewN|apply below_drew1|refine below_set ?_ GE138.out)|exact HB.out)⟩⟩
     ·rw [if_neg c4] at H
      exact absurd H (by simp)
    ·rw [if_neg c3] at H
     exact absurd H (by simp)
   ·rw [if_neg c2] at H
    have c2b0 : decide (x8_1 < (l0.length : Int)) = false:=decide_eq_false c2
    clear c2
    obtain rfl:=Option.some.inj H
    go_wp2
    go_ret
    exact ⟨by first|rfl|(simp [*,errW_none,errW_some] <;> rfl),by repeat (first|exact HB.out|apply below_alloc|apply pw_below_drewN|apply below_drew1)⟩

/-! ### spec_l1Target: function 62 -/
def spec_l1Target.l0 : Nat → Int → List (S74) → Int → Int → Option (Int)
 | 0,_,_,_,_=>none
 | k + 1,x3,x6,x7,x8=>if x8 < x7 then (if 0 ≤ x8 then (if x8 < (x6.length : Int) then (spec_l1Target.l0 k (wrap64 (x3 + (wrap64 (((rd_T74 x6 x8).f0) + (((rd_T74 x6 x8).f2).size : Int))))) x6 x7 (wrap64 (x8 + 1))) else (none)) else (none)) else (some x3)
def spec_l1Target.f (k : Nat) (l0 : List (S74)) : Option (Int):=spec_l1Target.l0 k 0 l0 (l0.length : Int) 0
theorem spec_l1Target.mono_l : ∀ k,(∀ y0 y1 y2 y3,LeO (spec_l1Target.l0 k y0 y1 y2 y3) (spec_l1Target.l0 (k + 1) y0 y1 y2 y3))
 | 0=>fun _ _ _ _ r h=>by simp [spec_l1Target.l0] at h
 | k + 1=>by
  have ih0:=spec_l1Target.mono_l k
  ·intro y0 y1 y2 y3
   unfold spec_l1Target.l0
   repeat' first
   | (with_reducible exact ih0 _ _ _ _)
   | (with_reducible exact LeO.refl _)
   | (with_reducible exact LeO.none _)
   | (with_reducible refine LeO.ite ?_ ?_)
   | (with_reducible refine LeO.bind ?_ (fun _=>?_))
   | exact ih0 _ _ _ _
   | exact LeO.none _
   | refine LeO.ite ?_ ?_
   | refine LeO.bind ?_ (fun _=>?_)
theorem spec_l1Target.mono : ∀ a0 k,LeO (spec_l1Target.f k a0) (spec_l1Target.f (k + 1) a0):=by
 intro a0 k
 have ih0:=spec_l1Target.mono_l k
 unfold spec_l1Target.f
 repeat' first
   | (with_reducible exact ih0 _ _ _ _)
   | (with_reducible exact LeO.refl _)
   | (with_reducible exact LeO.none _)
   | (with_reducible refine LeO.ite ?_ ?_)
   | (with_reducible refine LeO.bind ?_ (fun _=>?_))
   | exact ih0 _ _ _ _
   | exact LeO.none _
   | refine LeO.ite ?_ ?_
   | refine LeO.bind ?_ (fun _=>?_)
set_option maxHeartbeats 8000000 in
set_option maxRecDepth 100000 in
theorem spec_l1Target.calls (k : Nat) (A0 : Option Addr) (c0 : Nat) (l0 : List (S74)) (r : Int) (w : World) (hr0 : Kd.C k74 w A0 l0.length l0) (hc0 : l0.length ≤ c0) (h : spec_l1Target.f k l0 = some r) :
  Calls Try.prog 62 #[.slice A0 l0.length c0] w fun e w'=>e = .returned (.int .i64 r)∧Below w.heap.size w w':=by
 have hu74:=Try.underlying74
 have HR0:=Aside0.mk hr0
 have HC0:=Aside0.mk hc0
 clear hr0 hc0
 have HB:=Aside0.mk (Below.refl w.heap.size w)
 have H : (spec_l1Target.l0 k 0 l0 (l0.length : Int) 0) = some r:=h
 clear h
 have H':=Aside0.mk H
 clear H
 go_enter Try.func62,Try.ntmps62
 go_wp2
 go_loopg [3,8] k (fun kq v3 v8 w'=>∃ (x3_1 : Int) (x8_1 : Int),v3 = .int .i64 x3_1∧v8 = .int .i64 x8_1∧Aside0 (spec_l1Target.l0 kq x3_1 l0 (l0.length : Int) x8_1 = some r)∧Aside0 (kq ≤ k)∧Aside0 (Below w.heap.size w w'))
 case atStart=>exact ⟨(0),(0),(by first|rfl|(simp;done)|(simp [*];done)),(by first|rfl|(simp;done)|(simp [*];done)),H',⟨Nat.le_refl _⟩,⟨by repeat (first|exact HB.out|apply below_alloc|apply pw_below_drewN|apply below_drew1)⟩⟩
 case round =>
  clear H'
  obtain ⟨x3_1,x8_1,rfl,rfl,HA,HK1,HB⟩:=hrel
  cases gk with
  | zero=>exact absurd HA.out (by simp [spec_l1Target.l0])
  | succ k1 =>
   have H:=HA.out
   clear HA
   simp only [spec_l1Target.l0] at H
   by_cases c2 : x8_1 < (l0.length : Int)
   ·rw [if_pos c2] at H
    have c2b0 : decide (x8_1 < (l0.length : Int)) = true:=decide_eq_true c2
    clear c2
    by_cases c3 : 0 ≤ x8_1
    ·rw [if_pos c3] at H
     have c3b0 : decide (0 ≤ x8_1) = true:=decide_eq_true c3
     clear c3
     by_cases c4 : x8_1 < (l0.length : Int)
     ·rw [if_pos c4] at H
      have c4b0 : decide (x8_1 < (l0.length : Int)) = true:=decide_eq_true c4
      clear c4
      have H':=Aside0.mk H
      clear H
      have p139 : 0 ≤ (x8_1 : Int):=of_decide_eq_true (by assumption)
      have q139 : x8_1 < (l0.length : Int):=of_decide_eq_true (by assumption)
      obtain ⟨ad139,e139,hx139_0,hx139_1,hx139_2⟩:=at_T74 HR0.out x8_1 p139 q139
      cases e139
      (try replace hx139_0:=(HB.out.cell (World.block_lt_of_cell? w _ hx139_0)).trans hx139_0)
      (try replace hx139_1:=(HB.out.cell (World.block_lt_of_cell? w _ hx139_1)).trans hx139_1)
      (try replace hx139_2:=(HB.out.cell (World.block_lt_of_cell? w _ hx139_2)).trans hx139_2)
      replace p139:=eq_true p139
      replace q139:=eq_true q139
      go_wp2_with (first|((with_reducible refine gate_dst (N:=5) rfl ?_);refine box_event ?hg (N:=5) ?hd (cs:=#[.int .i64 0,.int .i64 0,.string (⟨#[]⟩ : ByteArray)]) (t:=74) ?hr ?_;(case hd=>rfl);(case hg=>rfl);(case hr=>first|(go_simp;done)|(go_simp;rfl));intro gb140 hg w5 hbox hb;have n0_:=Aside0.mk (below_step (by repeat (first|exact HB.out|apply below_alloc|apply pw_below_drewN|apply below_drew1)) hb);have n1_:=Aside0.mk (hbox);have n2_:=Aside0.mk ((by rw [hg];exact (below_size (by repeat (first|exact HB.out|apply below_alloc|apply pw_below_drewN|apply below_drew1))) : w.heap.size ≤ gb140));have n3_:=Aside0.mk ((by rw [hg];exact (below_size (by repeat (first|exact HB.out|apply below_alloc|apply pw_below_drewN|apply below_drew1))) : w.heap.size ≤ gb140));clear HB;have HB:=n0_;have BK140:=n1_;have GW140:=n2_;have GE140:=n3_;clear n0_ n1_ n2_ n3_;clear hb hbox hg;have hcz6_0 : w5.cell? ⟨gb140,0,none⟩ = some (.int .i64 0):=(blk_cell BK140.out 0).trans rfl;have hcz6_1 : w5.cell? ⟨gb140,1,none⟩ = some (.int .i64 0):=(blk_cell BK140.out 1).trans rfl;have hcz6_2 : w5.cell? ⟨gb140,2,none⟩ = some (.string (⟨#[]⟩ : ByteArray)):=(blk_cell BK140.out 2).trans rfl;have hfz6_0:=blk_frozen BK140.out 0;have hfz6_1:=blk_frozen BK140.out 1;have hfz6_2:=blk_frozen BK140.out 2))
      go_roundg k1
      case measure=>have:=HK1.out;omega
      case rel=>exact ⟨(wrap64 (x3_1 + (wrap64 (((rd_T74 l0 x8_1).f0) + (((rd_T74 l0 x8_1).f2).size : Int))))),(wrap64 (x8_1 + 1)),(by first|rfl|(simp;done)|(simp [*];done)),(by first|rfl|(simp;done)|(simp [*];done)),H',⟨by have:=HK1.out;omega⟩,⟨by repeat (first|(with_reducible first|exact HB.out|apply below_alloc|apply pw_below_drewN|apply below_drew1|refine below_set ?_ GE140.out)|exact HB.out)⟩⟩
     ·rw [if_neg c4] at H
      exact absurd H (by simp)
    ·rw [if_neg c3] at H
     exact absurd H (by simp)
   ·rw [if_neg c2] at H
    have c2b0 : decide (x8_1 < (l0.length : Int)) = false:=decide_eq_false c2
    clear c2
    obtain rfl:=Option.some.inj H
    go_wp2
    go_ret
    exact ⟨by first|rfl|(simp [*,errW_none,errW_some] <;> rfl),by repeat (first|exact HB.out|apply below_alloc|apply pw_below_drewN|apply below_drew1)⟩

/-! ### spec_l1Open: function 88 -/
mutual
def spec_l1Open.l0 : Nat → List (S74) → Int → Int → List Bool → List ByteArray → Option (List Bool × List ByteArray)
 | 0,_,_,_,_,_=>none
 | k + 1,x9,x10,x11,x146000,x146001=>if x11 < x10 then (if 0 ≤ x11 then (if x11 < (x9.length : Int) then (if 0 ≤ (wrap64 ((x146001.length : Int) - 1)) then (if (wrap64 ((x146001.length : Int) - 1)) < (x146001.length : Int) then (if (rdOf ByteArray.empty x146001 (wrap64 ((x146001.length : Int) - 1))).size + ((rd_T74 x9 x11).f2).size ≤ 9223372036854775807 then (spec_l1Open.l1 k 0 x9 x10 x11 x146000 (x146001.set ((wrap64 ((x146001.length : Int) - 1)) : Int).toNat ((rdOf ByteArray.empty x146001 (wrap64 ((x146001.length : Int) - 1))) ++ ((rd_T74 x9 x11).f2))) ((rd_T74 x9 x11).f0) ((rd_T74 x9 x11).f1) ((rd_T74 x9 x11).f2)) else (none)) else (none)) else (none)) else (none)) else (none)) else (some (x146000,x146001))
def spec_l1Open.l1 : Nat → Int → List (S74) → Int → Int → List Bool → List ByteArray → Int → Int → ByteArray → Option (List Bool × List ByteArray)
 | 0,_,_,_,_,_,_,_,_,_=>none
 | k + 1,x6,x9,x10,x11,x146000,x146001,x148000,x148001,x148002=>if x6 < (wrap64 (x148000 + x148001)) then (if x146000.length < 140737488355328 then (if x146001.length < 8796093022208 then (spec_l1Open.l1 k (wrap64 (x6 + 1)) x9 x10 x11 (x146000 ++ [decide (x148000 > 0)]) (x146001 ++ [(⟨#[]⟩ : ByteArray)]) x148000 x148001 x148002) else (none)) else (none)) else (spec_l1Open.l0 k x9 x10 (wrap64 (x11 + 1)) x146000 x146001)
end
def spec_l1Open.f (k : Nat) (l0 : List (S74)) : Option (List Bool × List ByteArray):=spec_l1Open.l0 k l0 (l0.length : Int) 0 ([] : List Bool) (([(⟨#[]⟩ : ByteArray)] : List ByteArray))
theorem spec_l1Open.mono_l : ∀ k,(∀ y0 y1 y2 y3 y4,LeO (spec_l1Open.l0 k y0 y1 y2 y3 y4) (spec_l1Open.l0 (k + 1) y0 y1 y2 y3 y4))∧(∀ y0 y1 y2 y3 y4 y5 y6 y7 y8,LeO (spec_l1Open.l1 k y0 y1 y2 y3 y4 y5 y6 y7 y8) (spec_l1Open.l1 (k + 1) y0 y1 y2 y3 y4 y5 y6 y7 y8))
 | 0=>⟨fun _ _ _ _ _ r h=>by simp [spec_l1Open.l0] at h,fun _ _ _ _ _ _ _ _ _ r h=>by simp [spec_l1Open.l1] at h⟩
 | k + 1=>by
  obtain ⟨ih0,ih1⟩:=spec_l1Open.mono_l k
  refine ⟨?_,?_⟩
  ·intro y0 y1 y2 y3 y4
   unfold spec_l1Open.l0
   repeat' first
   | (with_reducible exact ih0 _ _ _ _ _)
   | (with_reducible exact ih1 _ _ _ _ _ _ _ _ _)
   | (with_reducible exact LeO.refl _)
   | (with_reducible exact LeO.none _)
   | (with_reducible refine LeO.ite ?_ ?_)
   | (with_reducible refine LeO.bind ?_ (fun _=>?_))
   | exact ih0 _ _ _ _ _
   | exact ih1 _ _ _ _ _ _ _ _ _
   | exact LeO.none _
   | refine LeO.ite ?_ ?_
   | refine LeO.bind ?_ (fun _=>?_)
  ·intro y0 y1 y2 y3 y4 y5 y6 y7 y8
   unfold spec_l1Open.l1
   repeat' first
   | (with_reducible exact ih0 _ _ _ _ _)
   | (with_reducible exact ih1 _ _ _ _ _ _ _ _ _)
   | (with_reducible exact LeO.refl _)
   | (with_reducible exact LeO.none _)
   | (with_reducible refine LeO.ite ?_ ?_)
   | (with_reducible refine LeO.bind ?_ (fun _=>?_))
   | exact ih0 _ _ _ _ _
   | exact ih1 _ _ _ _ _ _ _ _ _
   | exact LeO.none _
   | refine LeO.ite ?_ ?_
   | refine LeO.bind ?_ (fun _=>?_)
theorem spec_l1Open.mono : ∀ a0 k,LeO (spec_l1Open.f k a0) (spec_l1Open.f (k + 1) a0):=by
 intro a0 k
 obtain ⟨ih0,ih1⟩:=spec_l1Open.mono_l k
 unfold spec_l1Open.f
 repeat' first
   | (with_reducible exact ih0 _ _ _ _ _)
   | (with_reducible exact ih1 _ _ _ _ _ _ _ _ _)
   | (with_reducible exact LeO.refl _)
   | (with_reducible exact LeO.none _)
   | (with_reducible refine LeO.ite ?_ ?_)
   | (with_reducible refine LeO.bind ?_ (fun _=>?_))
   | exact ih0 _ _ _ _ _
   | exact ih1 _ _ _ _ _ _ _ _ _
   | exact LeO.none _
   | refine LeO.ite ?_ ?_
   | refine LeO.bind ?_ (fun _=>?_)
def spec_l1Open.T5 : Bool × List (List Nat × List Nat):=(true,[([],[]),([0],[0]),([],[]),([2],[2]),([3],[3]),([4],[4]),([1,5],[1,5]),([6],[6]),([],[]),([8],[8]),([7,9],[7,9]),([1,5,0,1,2,3,4,5,6,7,8,9,10],[1,5]),([11,10,0,1,2,3,4,5,6,7,8,9,10],[10,11])])
def spec_l1Open.B5 : List Nat:=[0,1,0,4,12,28,63,127,0,256,1023,2047,4095]
theorem spec_l1Open.tab5 : rtab .any (opsOf Try.f88 5) = spec_l1Open.T5:=by kernel_rfl
theorem spec_l1Open.bits5 : waitsOk spec_l1Open.T5.2 spec_l1Open.B5 = true:=by kernel_rfl
set_option maxHeartbeats 8000000 in
set_option maxRecDepth 100000 in
theorem spec_l1Open.calls (k : Nat) (A0 : Option Addr) (c0 : Nat) (l0 : List (S74)) (r1 : List Bool) (r2 : List ByteArray) (w : World) (hr0 : Kd.C k74 w A0 l0.length l0) (hc0 : l0.length ≤ c0) (h : spec_l1Open.f k l0 = some (r1,r2)) :
  Calls Try.prog 88 #[.slice A0 l0.length c0] w fun e w'=>∃ v0_ v1_ : Value,e = .returned (.agg #[v0_,v1_])∧Kd.R Kd.bool 4 w' w.heap.size (fun _=>True) v0_ r1∧Kd.R Kd.string 9 w' w.heap.size (fun _=>True) v1_ r2∧Below w.heap.size w w':=by
 have hu110:=Try.underlying110
 have hu74:=Try.underlying74
 have HR0:=Aside0.mk hr0
 have HC0:=Aside0.mk hc0
 clear hr0 hc0
 have HB:=Aside0.mk (Below.refl w.heap.size w)
 have H : (spec_l1Open.l0 k l0 (l0.length : Int) 0 ([] : List Bool) (([(⟨#[]⟩ : ByteArray)] : List ByteArray))) = some (r1,r2):=h
 clear h
 obtain ⟨y142,hy142⟩ : ∃ y_ : List ByteArray,y_ = (([(⟨#[]⟩ : ByteArray)] : List ByteArray)):=⟨_,rfl⟩
 replace H : (spec_l1Open.l0 k l0 (l0.length : Int) 0 ([] : List Bool) y142) = some (r1,r2):=by first|(rw [hy142];with_reducible exact H)|(have H2_:=(Option.bind_some _ _).symm.trans H;rw [hy142];with_reducible exact H2_)|(have H2_:=(Option.bind_some _ _).symm.trans H;with_reducible exact H2_)|with_reducible exact H|(rw [hy142];exact H)|exact H
 have Ny142:=Aside0.mk hy142
 clear hy142
 have H':=Aside0.mk H
 clear H
 go_enter Try.func88,Try.ntmps88
 go_wp2_with (first|((with_reducible refine gate_dst (N:=2) rfl ?_);refine box_event ?hg (N:=2) ?hd (cs:=#[.slice none 0 0,.slice none 0 0]) (t:=110) ?hr ?_;(case hd=>rfl);(case hg=>rfl);(case hr=>first|(go_simp;done)|(go_simp;rfl));intro gb141 hg w2 hbox hb;have n0_:=Aside0.mk (below_step (by repeat (first|exact HB.out|apply below_alloc|apply pw_below_drewN|apply below_drew1)) hb);have n1_:=Aside0.mk (hbox);have n2_:=Aside0.mk ((by rw [hg];exact (below_size (by repeat (first|exact HB.out|apply below_alloc|apply pw_below_drewN|apply below_drew1))) : w.heap.size ≤ gb141));have n3_:=Aside0.mk ((by rw [hg];exact (below_size (by repeat (first|exact HB.out|apply below_alloc|apply pw_below_drewN|apply below_drew1))) : w.heap.size ≤ gb141));clear HB;have HB:=n0_;have BK141:=n1_;have GW141:=n2_;have GE141:=n3_;clear n0_ n1_ n2_ n3_;clear hb hbox hg)|((with_reducible refine gate_dst (N:=7) rfl ?_);refine Kd.R_lit Kd.string _ 9 ?hg (N:=7) ?hd (xs:=([(⟨#[]⟩ : ByteArray)] : List ByteArray)) (inner:=[.string (⟨#[]⟩ : ByteArray)]) (ok:=fun _=>True) (okp:=fun _=>True) ?hr ?hp (fun _ hk=>hk) trivial (Below.refl _ _) (Nat.le_refl _) (by simp) ?_;(case hd=>rfl);(case hg=>rfl);(case hr=>first|(go_simp;done)|(go_simp;rfl));(case hp=>exact (Reps.one (show Kd.M Kd.string _ _ _ (⟨#[]⟩ : ByteArray) [.string (⟨#[]⟩ : ByteArray)] from rfl) (Reps.none _ _)));intro v143 w3 ho4 hb hg_ hnew_;clear hg_ hnew_;(first|rw [← Ny142.out] at ho4|(simp only [Int.reduceToNat] at ho4;rw [← Ny142.out] at ho4));have n0_:=Aside0.mk (Kd.R_lower ho4 (below_size (by repeat (first|(with_reducible first|exact HB.out|apply below_alloc|apply pw_below_drewN|apply below_drew1|refine below_set ?_ GE141.out)|exact HB.out))));have n1_:=Aside0.mk (blk_below (g:=gb141) (o:=.cells #[.slice none 0 0,.slice none 0 0] 110 (0,0)) (by (with_reducible repeat first|apply blk_drewN|apply blk_drew|apply blk_alloc);exact BK141.out) hb);have n2_:=Aside0.mk (below_step (by repeat (first|(with_reducible first|exact HB.out|apply below_alloc|apply pw_below_drewN|apply below_drew1|refine below_set ?_ GE141.out)|exact HB.out)) hb);clear BK141;clear HB;have HO144:=n0_;have BK141:=n1_;have HB:=n2_;clear n0_ n1_ n2_;clear hb ho4;obtain ⟨Ao5,co5,eo5⟩:=Kd.R_slice HO144.out;subst eo5)|((with_reducible refine gate_dst (N:=3) rfl ?_);refine box_event ?hg (N:=3) ?hd (cs:=#[.slice none 0 0,.slice none 0 0]) (t:=110) ?hr ?_;(case hd=>rfl);(case hg=>rfl);(case hr=>first|(go_simp;done)|(go_simp;rfl));intro gb145 hg w6 hbox hb;have n0_:=Aside0.mk (Kd.R_below (by (with_reducible repeat (first|apply Kd.R_alloc|apply Kd.R_drewN|apply Kd.R_drew));exact HO144.out) hb);have n1_:=Aside0.mk (blk_below (g:=gb141) (o:=.cells #[.slice none 0 0,.slice none 0 0] 110 (0,0)) (by (with_reducible repeat first|apply blk_drewN|apply blk_drew|apply blk_alloc);exact BK141.out) hb);have n2_:=Aside0.mk (below_step (by repeat (first|(with_reducible first|exact HB.out|apply below_alloc|apply pw_below_drewN|apply below_drew1|refine below_set ?_ GE141.out)|exact HB.out)) hb);have n3_:=Aside0.mk (hbox);have n4_:=Aside0.mk ((by rw [hg];exact (below_size (by repeat (first|(with_reducible first|exact HB.out|apply below_alloc|apply pw_below_drewN|apply below_drew1|refine below_set ?_ GE141.out)|exact HB.out))) : w.heap.size ≤ gb145));have n5_:=Aside0.mk ((by rw [hg];exact (below_size (by repeat (first|(with_reducible first|exact HB.out|apply below_alloc|apply pw_below_drewN|apply below_drew1|refine below_set ?_ GE141.out)|exact HB.out))) : w.heap.size ≤ gb145));have n6_:=Aside0.mk ((by rw [hg];exact Nat.ne_of_lt (blk_lt (g:=gb141) (o:=.cells #[.slice none 0 0,.slice none 0 0] 110 (0,0)) (by (with_reducible repeat first|apply blk_drewN|apply blk_drew|apply blk_alloc);exact BK141.out)) : gb141 ≠ gb145));have n7_:=Aside0.mk ((by rw [hg];exact Nat.ne_of_gt (blk_lt (g:=gb141) (o:=.cells #[.slice none 0 0,.slice none 0 0] 110 (0,0)) (by (with_reducible repeat first|apply blk_drewN|apply blk_drew|apply blk_alloc);exact BK141.out)) : gb145 ≠ gb141));clear HO144;clear BK141;clear HB;have HO144:=n0_;have BK141:=n1_;have HB:=n2_;have BK145:=n3_;have GW145:=n4_;have GE145:=n5_;have NB141_145:=n6_;have NB145_141:=n7_;clear n0_ n1_ n2_ n3_ n4_ n5_ n6_ n7_;clear hb hbox hg;have hnb7:=NB145_141.out;have hnc7:=NB141_145.out;have hcz8_0 : w6.cell? ⟨gb145,0,none⟩ = some (.slice none 0 0):=(blk_cell BK145.out 0).trans rfl;have hcz8_1 : w6.cell? ⟨gb145,1,none⟩ = some (.slice none 0 0):=(blk_cell BK145.out 1).trans rfl;have hfz8_0:=blk_frozen BK145.out 0;have hfz8_1:=blk_frozen BK145.out 1))
 go_loopg [11] k (fun kq v11 w'=>∃ (x11_1 : Int) (x146000_1 : List Bool) (x146001_1 : List ByteArray) (u146000 : Value) (u146001 : Value),v11 = .int .i64 x11_1∧Aside0 (spec_l1Open.l0 kq l0 (l0.length : Int) x11_1 x146000_1 x146001_1 = some (r1,r2))∧Aside0 (kq ≤ k)∧Aside0 (Kd.R Kd.bool 4 w' w.heap.size (fun _=>True) u146000 x146000_1)∧Aside0 (Kd.R Kd.string 9 w' w.heap.size (fun _=>True) u146001 x146001_1)∧Aside0 (w'.heap[gb141]? = some (.cells #[(.slice none 0 0),(.slice none 0 0)] 110 (0,0)))∧Aside0 (w'.heap[gb145]? = some (.cells #[u146000,u146001] 110 (0,0)))∧Aside0 (Below w.heap.size w w'))
 case atStart=>exact ⟨(0),(([] : List Bool)),(y142),(.slice none 0 0),(.slice Ao5 y142.length co5),(by first|rfl|(simp;done)|(simp [*];done)),H',⟨Nat.le_refl _⟩,⟨by first|exact Kd.R_nil _ _ _ _ _|exact Kd.N_nil _ _ _ _ _|exact Kd.V_nil _ _ _ _ _|exact Kd.Q_nil _ _ _ _ _|exact Kd.S_nil _ _ _ _ _⟩,⟨by (with_reducible repeat (first|apply Kd.R_alloc|apply Kd.R_drewN|apply Kd.R_drew));exact Kd.R_mono (Kd.R_far (p:=⟨gb145,1,none⟩) (Kd.R_far (p:=⟨gb145,0,none⟩) (Kd.R_types HO144.out BK145.out (by decide)) (fun _ hk=>hk.2) (.slice none 0 0)) (fun _ hk=>hk.2) (.slice Ao5 y142.length co5)) (fun _ hk=>trivial)⟩,⟨by (with_reducible repeat first|apply blk_drewN|apply blk_drew|apply blk_alloc);refine blk_far ?_ NB141_145.out _;(with_reducible repeat first|apply blk_drewN|apply blk_drew|apply blk_alloc);refine blk_far ?_ NB141_145.out _;(with_reducible repeat first|apply blk_drewN|apply blk_drew|apply blk_alloc);exact BK141.out⟩,⟨by (with_reducible repeat first|apply blk_drewN|apply blk_drew|apply blk_alloc);refine blk_put (cs:=#[.slice none 0 0,.slice none 0 0]) ?_ 1 _ rfl;(with_reducible repeat first|apply blk_drewN|apply blk_drew|apply blk_alloc);refine blk_put (cs:=#[.slice none 0 0,.slice none 0 0]) ?_ 0 _ rfl;(with_reducible repeat first|apply blk_drewN|apply blk_drew|apply blk_alloc);exact BK145.out⟩,⟨by repeat (first|(with_reducible first|exact HB.out|apply below_alloc|apply pw_below_drewN|apply below_drew1|refine below_set ?_ GE141.out|refine below_set ?_ GE145.out)|exact HB.out)⟩⟩
 case round =>
  clear H'
  (try clear p2);(try clear c7);(try clear c8);(try clear hcz8_0);(try clear hcz8_1);(try clear hfz8_0);(try clear hfz8_1);(try clear BK141);(try clear BK145)
  obtain ⟨x11_1,x146000_1,x146001_1,u146000,u146001,rfl,HA,HK1,HO_146000,HO_146001,BK141,BK145,HB⟩:=hrel
  cases gk with
  | zero=>exact absurd HA.out (by simp [spec_l1Open.l0])
  | succ k1 =>
   have H:=HA.out
   clear HA
   simp only [spec_l1Open.l0] at H
   by_cases c9 : x11_1 < (l0.length : Int)
   ·rw [if_pos c9] at H
    have c9b0 : decide (x11_1 < (l0.length : Int)) = true:=decide_eq_true c9
    clear c9
    by_cases c10 : 0 ≤ x11_1
    ·rw [if_pos c10] at H
     have c10b0 : decide (0 ≤ x11_1) = true:=decide_eq_true c10
     clear c10
     by_cases c11 : x11_1 < (l0.length : Int)
     ·rw [if_pos c11] at H
      have c11b0 : decide (x11_1 < (l0.length : Int)) = true:=decide_eq_true c11
      clear c11
      obtain ⟨ji12,hji12⟩ : ∃ j_ : Int,(wrap64 ((x146001_1.length : Int) - 1)) = j_:=⟨_,rfl⟩
      replace H : (if 0 ≤ (ji12) then (if (ji12) < (x146001_1.length : Int) then (if (rdOf ByteArray.empty x146001_1 (ji12)).size + ((rd_T74 l0 x11_1).f2).size ≤ 9223372036854775807 then (spec_l1Open.l1 k1 0 l0 (l0.length : Int) x11_1 x146000_1 (x146001_1.set ((ji12) : Int).toNat ((rdOf ByteArray.empty x146001_1 (ji12)) ++ ((rd_T74 l0 x11_1).f2))) ((rd_T74 l0 x11_1).f0) ((rd_T74 l0 x11_1).f1) ((rd_T74 l0 x11_1).f2)) else (none)) else (none)) else (none)) = some (r1,r2):=by first|(rw [hji12] at H;exact H)|(simp only [hji12] at H ⊢;exact H)
      have hji12w : (IntKind.i64.wrap ((x146001_1.length : Int) - 1)) = ji12:=(i64_w _).trans hji12
      by_cases c13 : 0 ≤ (ji12)
      ·rw [if_pos c13] at H
       have c13b0 : decide (0 ≤ (ji12)) = true:=decide_eq_true c13
       clear c13
       by_cases c14 : (ji12) < (x146001_1.length : Int)
       ·rw [if_pos c14] at H
        have c14b0 : decide ((ji12) < (x146001_1.length : Int)) = true:=decide_eq_true c14
        clear c14
        by_cases c15 : (rdOf ByteArray.empty x146001_1 (ji12)).size + ((rd_T74 l0 x11_1).f2).size ≤ 9223372036854775807
        ·rw [if_pos c15] at H
         have c15b0:=eq_true c15
         have c15b1 : decide ((rdOf ByteArray.empty x146001_1 (ji12)).size + ((rd_T74 l0 x11_1).f2).size ≤ 9223372036854775807) = true:=decide_eq_true c15
         try have c15b2 : (9223372036854775807 < (rdOf ByteArray.empty x146001_1 (ji12)).size + ((rd_T74 l0 x11_1).f2).size) = False:=eq_false (Nat.not_lt.2 c15)
         obtain ⟨y149,hy149⟩ : ∃ y_ : List ByteArray,y_ = (x146001_1.set ((ji12) : Int).toNat ((rdOf ByteArray.empty x146001_1 (ji12)) ++ ((rd_T74 l0 x11_1).f2))):=⟨_,rfl⟩
         replace H : (spec_l1Open.l1 k1 0 l0 (l0.length : Int) x11_1 x146000_1 y149 ((rd_T74 l0 x11_1).f0) ((rd_T74 l0 x11_1).f1) ((rd_T74 l0 x11_1).f2)) = some (r1,r2):=by first|(rw [hy149];with_reducible exact H)|(have H2_:=(Option.bind_some _ _).symm.trans H;rw [hy149];with_reducible exact H2_)|(have H2_:=(Option.bind_some _ _).symm.trans H;with_reducible exact H2_)|with_reducible exact H|(rw [hy149];exact H)|exact H
         have Ny149:=Aside0.mk hy149
         clear hy149
         have H':=Aside0.mk H
         clear H
         have p146 : 0 ≤ (x11_1 : Int):=of_decide_eq_true (by assumption)
         have q146 : x11_1 < (l0.length : Int):=of_decide_eq_true (by assumption)
         obtain ⟨ad146,e146,hx146_0,hx146_1,hx146_2⟩:=at_T74 HR0.out x11_1 p146 q146
         cases e146
         (try replace hx146_0:=(HB.out.cell (World.block_lt_of_cell? w _ hx146_0)).trans hx146_0)
         (try replace hx146_1:=(HB.out.cell (World.block_lt_of_cell? w _ hx146_1)).trans hx146_1)
         (try replace hx146_2:=(HB.out.cell (World.block_lt_of_cell? w _ hx146_2)).trans hx146_2)
         replace p146:=eq_true p146
         replace q146:=eq_true q146
         try go_wp2_with (first|((with_reducible refine gate_dst (N:=5) rfl ?_);refine box_event ?hg (N:=5) ?hd (cs:=#[.int .i64 0,.int .i64 0,.string (⟨#[]⟩ : ByteArray)]) (t:=74) ?hr ?_;(case hd=>rfl);(case hg=>rfl);(case hr=>first|(go_simp;done)|(go_simp;rfl));intro gb147 hg w17 hbox hb;have n0_:=Aside0.mk (Kd.R_below (by (with_reducible repeat (first|apply Kd.R_alloc|apply Kd.R_drewN|apply Kd.R_drew));exact HO_146000.out) hb);have n1_:=Aside0.mk (Kd.R_below (by (with_reducible repeat (first|apply Kd.R_alloc|apply Kd.R_drewN|apply Kd.R_drew));exact HO_146001.out) hb);have n2_:=Aside0.mk (blk_below (g:=gb141) (o:=.cells #[.slice none 0 0,.slice none 0 0] 110 (0,0)) (by (with_reducible repeat first|apply blk_drewN|apply blk_drew|apply blk_alloc);exact BK141.out) hb);have n3_:=Aside0.mk (blk_below (g:=gb145) (o:=.cells #[u146000,u146001] 110 (0,0)) (by (with_reducible repeat first|apply blk_drewN|apply blk_drew|apply blk_alloc);exact BK145.out) hb);have n4_:=Aside0.mk (below_step (by repeat (first|(with_reducible first|exact HB.out|apply below_alloc|apply pw_below_drewN|apply below_drew1|refine below_set ?_ GE141.out|refine below_set ?_ GE145.out)|exact HB.out)) hb);have n5_:=Aside0.mk (hbox);have n6_:=Aside0.mk ((by rw [hg];exact (below_size (by repeat (first|(with_reducible first|exact HB.out|apply below_alloc|apply pw_below_drewN|apply below_drew1|refine below_set ?_ GE141.out|refine below_set ?_ GE145.out)|exact HB.out))) : w.heap.size ≤ gb147));have n7_:=Aside0.mk ((by rw [hg];exact (below_size (by repeat (first|(with_reducible first|exact HB.out|apply below_alloc|apply pw_below_drewN|apply below_drew1|refine below_set ?_ GE141.out|refine below_set ?_ GE145.out)|exact HB.out))) : w.heap.size ≤ gb147));have n8_:=Aside0.mk ((by rw [hg];exact Nat.ne_of_lt (blk_lt (g:=gb141) (o:=.cells #[.slice none 0 0,.slice none 0 0] 110 (0,0)) (by (with_reducible repeat first|apply blk_drewN|apply blk_drew|apply blk_alloc);exact BK141.out)) : gb141 ≠ gb147));have n9_:=Aside0.mk ((by rw [hg];exact Nat.ne_of_gt (blk_lt (g:=gb141) (o:=.cells #[.slice none 0 0,.slice none 0 0] 110 (0,0)) (by (with_reducible repeat first|apply blk_drewN|apply blk_drew|apply blk_alloc);exact BK141.out)) : gb147 ≠ gb141));have n10_:=Aside0.mk ((by rw [hg];exact Nat.ne_of_lt (blk_lt (g:=gb145) (o:=.cells #[u146000,u146001] 110 (0,0)) (by (with_reducible repeat first|apply blk_drewN|apply blk_drew|apply blk_alloc);exact BK145.out)) : gb145 ≠ gb147));have n11_:=Aside0.mk ((by rw [hg];exact Nat.ne_of_gt (blk_lt (g:=gb145) (o:=.cells #[u146000,u146001] 110 (0,0)) (by (with_reducible repeat first|apply blk_drewN|apply blk_drew|apply blk_alloc);exact BK145.out)) : gb147 ≠ gb145));clear HO_146000;clear HO_146001;clear BK141;clear BK145;clear HB;have HO_146000:=n0_;have HO_146001:=n1_;have BK141:=n2_;have BK145:=n3_;have HB:=n4_;have BK147:=n5_;have GW147:=n6_;have GE147:=n7_;have NB141_147:=n8_;have NB147_141:=n9_;have NB145_147:=n10_;have NB147_145:=n11_;clear n0_ n1_ n2_ n3_ n4_ n5_ n6_ n7_ n8_ n9_ n10_ n11_;clear hb hbox hg;have hnb18:=NB147_141.out;have hnc18:=NB141_147.out;have hnb19:=NB147_145.out;have hnc19:=NB145_147.out;have hcz20_0 : w17.cell? ⟨gb147,0,none⟩ = some (.int .i64 0):=(blk_cell BK147.out 0).trans rfl;have hcz20_1 : w17.cell? ⟨gb147,1,none⟩ = some (.int .i64 0):=(blk_cell BK147.out 1).trans rfl;have hcz20_2 : w17.cell? ⟨gb147,2,none⟩ = some (.string (⟨#[]⟩ : ByteArray)):=(blk_cell BK147.out 2).trans rfl;have hfz20_0:=blk_frozen BK147.out 0;have hfz20_1:=blk_frozen BK147.out 1;have hfz20_2:=blk_frozen BK147.out 2))
         have n0_ : Aside0 (Kd.R Kd.bool 4 (((w17.setCell ⟨gb147,0,none⟩ (.int .i64 ((rd_T74 l0 x11_1).f0))).setCell ⟨gb147,1,none⟩ (.int .i64 ((rd_T74 l0 x11_1).f1))).setCell ⟨gb147,2,none⟩ (.string ((rd_T74 l0 x11_1).f2))) w.heap.size (fun _=>True) u146000 x146000_1):=⟨by (with_reducible repeat (first|apply Kd.R_alloc|apply Kd.R_drewN|apply Kd.R_drew));exact Kd.R_mono (Kd.R_far (p:=⟨gb147,2,none⟩) (Kd.R_far (p:=⟨gb147,1,none⟩) (Kd.R_far (p:=⟨gb147,0,none⟩) (Kd.R_types HO_146000.out BK147.out (by decide)) (fun _ hk=>hk.2) (.int .i64 ((rd_T74 l0 x11_1).f0))) (fun _ hk=>hk.2) (.int .i64 ((rd_T74 l0 x11_1).f1))) (fun _ hk=>hk.2) (.string ((rd_T74 l0 x11_1).f2))) (fun _ hk=>trivial)⟩
         have n1_ : Aside0 (Kd.R Kd.string 9 (((w17.setCell ⟨gb147,0,none⟩ (.int .i64 ((rd_T74 l0 x11_1).f0))).setCell ⟨gb147,1,none⟩ (.int .i64 ((rd_T74 l0 x11_1).f1))).setCell ⟨gb147,2,none⟩ (.string ((rd_T74 l0 x11_1).f2))) w.heap.size (fun _=>True) u146001 x146001_1):=⟨by (with_reducible repeat (first|apply Kd.R_alloc|apply Kd.R_drewN|apply Kd.R_drew));exact Kd.R_mono (Kd.R_far (p:=⟨gb147,2,none⟩) (Kd.R_far (p:=⟨gb147,1,none⟩) (Kd.R_far (p:=⟨gb147,0,none⟩) (Kd.R_types HO_146001.out BK147.out (by decide)) (fun _ hk=>hk.2) (.int .i64 ((rd_T74 l0 x11_1).f0))) (fun _ hk=>hk.2) (.int .i64 ((rd_T74 l0 x11_1).f1))) (fun _ hk=>hk.2) (.string ((rd_T74 l0 x11_1).f2))) (fun _ hk=>trivial)⟩
         have n2_ : Aside0 ((((w17.setCell ⟨gb147,0,none⟩ (.int .i64 ((rd_T74 l0 x11_1).f0))).setCell ⟨gb147,1,none⟩ (.int .i64 ((rd_T74 l0 x11_1).f1))).setCell ⟨gb147,2,none⟩ (.string ((rd_T74 l0 x11_1).f2))).heap[gb141]? = some (.cells #[.slice none 0 0,.slice none 0 0] 110 (0,0))):=⟨by (with_reducible repeat first|apply blk_drewN|apply blk_drew|apply blk_alloc);refine blk_far ?_ NB141_147.out _;(with_reducible repeat first|apply blk_drewN|apply blk_drew|apply blk_alloc);refine blk_far ?_ NB141_147.out _;(with_reducible repeat first|apply blk_drewN|apply blk_drew|apply blk_alloc);refine blk_far ?_ NB141_147.out _;(with_reducible repeat first|apply blk_drewN|apply blk_drew|apply blk_alloc);exact BK141.out⟩
         have n3_ : Aside0 ((((w17.setCell ⟨gb147,0,none⟩ (.int .i64 ((rd_T74 l0 x11_1).f0))).setCell ⟨gb147,1,none⟩ (.int .i64 ((rd_T74 l0 x11_1).f1))).setCell ⟨gb147,2,none⟩ (.string ((rd_T74 l0 x11_1).f2))).heap[gb145]? = some (.cells #[u146000,u146001] 110 (0,0))):=⟨by (with_reducible repeat first|apply blk_drewN|apply blk_drew|apply blk_alloc);refine blk_far ?_ NB145_147.out _;(with_reducible repeat first|apply blk_drewN|apply blk_drew|apply blk_alloc);refine blk_far ?_ NB145_147.out _;(with_reducible repeat first|apply blk_drewN|apply blk_drew|apply blk_alloc);refine blk_far ?_ NB145_147.out _;(with_reducible repeat first|apply blk_drewN|apply blk_drew|apply blk_alloc);exact BK145.out⟩
         have n4_ : Aside0 ((((w17.setCell ⟨gb147,0,none⟩ (.int .i64 ((rd_T74 l0 x11_1).f0))).setCell ⟨gb147,1,none⟩ (.int .i64 ((rd_T74 l0 x11_1).f1))).setCell ⟨gb147,2,none⟩ (.string ((rd_T74 l0 x11_1).f2))).heap[gb147]? = some (.cells #[.int .i64 ((rd_T74 l0 x11_1).f0),.int .i64 ((rd_T74 l0 x11_1).f1),.string ((rd_T74 l0 x11_1).f2)] 74 (0,0))):=⟨by (with_reducible repeat first|apply blk_drewN|apply blk_drew|apply blk_alloc);refine blk_put (cs:=#[.int .i64 ((rd_T74 l0 x11_1).f0),.int .i64 ((rd_T74 l0 x11_1).f1),.string (⟨#[]⟩ : ByteArray)]) ?_ 2 _ rfl;(with_reducible repeat first|apply blk_drewN|apply blk_drew|apply blk_alloc);refine blk_put (cs:=#[.int .i64 ((rd_T74 l0 x11_1).f0),.int .i64 0,.string (⟨#[]⟩ : ByteArray)]) ?_ 1 _ rfl;(with_reducible repeat first|apply blk_drewN|apply blk_drew|apply blk_alloc);refine blk_put (cs:=#[.int .i64 0,.int .i64 0,.string (⟨#[]⟩ : ByteArray)]) ?_ 0 _ rfl;(with_reducible repeat first|apply blk_drewN|apply blk_drew|apply blk_alloc);exact BK147.out⟩
         have n5_ : Aside0 (Below w.heap.size w (((w17.setCell ⟨gb147,0,none⟩ (.int .i64 ((rd_T74 l0 x11_1).f0))).setCell ⟨gb147,1,none⟩ (.int .i64 ((rd_T74 l0 x11_1).f1))).setCell ⟨gb147,2,none⟩ (.string ((rd_T74 l0 x11_1).f2)))):=⟨by repeat (first|(with_reducible first|exact HB.out|apply below_alloc|apply pw_below_drewN|apply below_drew1|refine below_set ?_ GE141.out|refine below_set ?_ GE145.out|refine below_set ?_ GE147.out)|exact HB.out)⟩
         (try clear HO_146000)
         (try clear HO_146001)
         (try clear BK141)
         (try clear BK145)
         (try clear BK147)
         (try clear HB)
         generalize (((w17.setCell ⟨gb147,0,none⟩ (.int .i64 ((rd_T74 l0 x11_1).f0))).setCell ⟨gb147,1,none⟩ (.int .i64 ((rd_T74 l0 x11_1).f1))).setCell ⟨gb147,2,none⟩ (.string ((rd_T74 l0 x11_1).f2))) = w21 at n0_ n1_ n2_ n3_ n4_ n5_ ⊢
         have HO_146000:=n0_
         have HO_146001:=n1_
         have BK141:=n2_
         have BK145:=n3_
         have BK147:=n4_
         have HB:=n5_
         clear n0_ n1_ n2_ n3_ n4_ n5_
         have n0_:=Aside0.mk (Kd.R_drew HO_146000.out)
         have n1_:=Aside0.mk (Kd.R_drew HO_146001.out)
         have n2_:=Aside0.mk (blk_drew BK141.out)
         have n3_:=Aside0.mk (blk_drew BK145.out)
         have n4_:=Aside0.mk (blk_drew BK147.out)
         have n5_:=Aside0.mk (below_drew1 HB.out)
         clear HO_146000
         clear HO_146001
         clear BK141
         clear BK145
         clear BK147
         clear HB
         have HO_146000:=n0_
         have HO_146001:=n1_
         have BK141:=n2_
         have BK145:=n3_
         have BK147:=n4_
         have HB:=n5_
         clear n0_ n1_ n2_ n3_ n4_ n5_
         obtain ⟨Ao23,co23,eo23⟩:=Kd.R_slice HO_146001.out
         (first|subst eo23|(injection eo23 with f1_ f2_ f3_;have f4_:=f1_.symm;have f5_:=f3_.symm;clear f1_ f2_ f3_;subst f4_;subst f5_))
         have p148 : 0 ≤ ((ji12) : Int):=of_decide_eq_true (by assumption)
         have q148 : (ji12) < (x146001_1.length : Int):=of_decide_eq_true (by assumption)
         obtain ⟨ad148,e148,hx148_0⟩:=Kd.at_string (Kd.R_reads' HO_146001.out).2.2 (ji12) p148 q148
         cases e148
         replace p148:=eq_true p148
         replace q148:=eq_true q148
         have p16 : 0 ≤ ((ji12) : Int):=of_decide_eq_true (by assumption)
         have q16 : ((ji12) : Int) < ((x146001_1.length : Int) : Int):=of_decide_eq_true (by assumption)
         obtain ⟨go16,co16,eo16,gb16,gl16,cl16,HG16⟩:=Kd.R_form HO_146001.out (by omega)
         (first|cases eo16|(injection eo16 with ea_ en_ ec_;(first|subst ea_|(injection ea_ with ea_;subst ea_));subst ec_;clear en_))
         have GB16:=Aside0.mk gb16
         have GG16:=Aside0.mk HG16
         clear gb16 gl16 HG16
         (first|simp only [add_plain] at hx148_0|skip)
         obtain ⟨hx16_0,hf16_0⟩:=Kd.R_celln (⟨#[]⟩ : ByteArray) HO_146001.out ((ji12) : Int) p16 q16
         replace p16:=eq_true p16
         replace q16:=eq_true q16
         have HP24:=Kd.R_putn HO_146001.out ((ji12) : Int) ((rdOf ByteArray.empty x146001_1 (ji12)) ++ ((rd_T74 l0 x11_1).f2))
         rw [← Ny149.out] at HP24
         have HQ24:=Aside0.mk HP24
         clear HP24
         refine start_ (n:=13) (S:=fun w'=>w'.cell? ⟨gb145,0,none⟩ = some (u146000)∧w'.cell? ⟨gb145,1,none⟩ = some (.slice (some ⟨go16,0,none⟩) x146001_1.length co23)∧w'.cell? ⟨gb147,0,none⟩ = some (.int .i64 ((rd_T74 l0 x11_1).f0))∧w'.cell? ⟨gb147,1,none⟩ = some (.int .i64 ((rd_T74 l0 x11_1).f1))∧w'.cell? ⟨gb147,2,none⟩ = some (.string ((rd_T74 l0 x11_1).f2))∧w'.cell? ⟨go16,((ji12)).toNat,none⟩ = some (.string (rdOf ByteArray.empty x146001_1 (ji12)))) (ds:=[12]) #[false,false,false,false,false,false,false,false,false,false,false,false,false] (by kernel_rfl) rfl rfl ⟨(blk_cell BK145.out 0).trans rfl,(blk_cell BK145.out 1).trans rfl,(blk_cell BK147.out 0).trans rfl,(blk_cell BK147.out 1).trans rfl,(blk_cell BK147.out 2).trans rfl,hx148_0⟩ (fun hHeld=>?_);refine with_tabW spec_l1Open.tab5 spec_l1Open.bits5 (fun HT_ HW_=>?_)
         generalize w21.drew = w22 at HO_146000 HO_146001 BK141 BK145 BK147 HB GG16 HQ24 hf16_0 hx148_0 hx16_0 hHeld ⊢
         refine pure_ (i:=0) (N:=some 15) (v:=?_) (a':=?_) #[true,false,false,false,false,false,false,false,false,false,false,false,false] rfl rfl (any_of HT_.out (by kernel_rfl)) (fun _ _ _ h=>h) (Or.inl ⟨by rfl,?_⟩) ?_ ?_
         rotate_left
         ·intro w'
          go_simp
          with_reducible rfl
         rotate_left
         ·simp only [Act.put,List.setIfInBounds_toArray,List.set_cons_zero,List.set_cons_succ,i64_w,i32_w]
          rfl
         refine pure_ (i:=2) (N:=some 17) (v:=?_) (a':=?_) #[true,false,true,false,false,false,false,false,false,false,false,false,false] rfl rfl (any_of HT_.out (by kernel_rfl)) (fun _ _ _ h=>h) (Or.inl ⟨by rfl,?_⟩) ?_ ?_
         rotate_left
         ·intro w'
          go_simp
          with_reducible rfl
         rotate_left
         ·simp only [Act.put,List.setIfInBounds_toArray,List.set_cons_zero,List.set_cons_succ,i64_w,i32_w]
          rfl
         refine pure_ (i:=8) (N:=some 23) (v:=?_) (a':=?_) #[true,false,true,false,false,false,false,false,true,false,false,false,false] rfl rfl (any_of HT_.out (by kernel_rfl)) (fun _ _ _ h=>h) (Or.inl ⟨by rfl,?_⟩) ?_ ?_
         rotate_left
         ·intro w'
          go_simp
          with_reducible rfl
         rotate_left
         ·simp only [Act.put,List.setIfInBounds_toArray,List.set_cons_zero,List.set_cons_succ,i64_w,i32_w]
          rfl
         refine take_ (i:=1) (N:=some 16) (v:=?_) (a':=?_) #[true,true,true,false,false,false,false,false,true,false,false,false,false] rfl rfl (take_ofW HT_.out HW_.out (by kernel_rfl)) (fun _ _ _ h=>h) (Or.inl ⟨by rfl,?_⟩) hHeld ?_ ?_
         rotate_left
         ·rintro w' ⟨s0,s1,s2,s3,s4,s5⟩
          go_simp
          with_reducible rfl
         rotate_left
         ·simp only [Act.put,List.setIfInBounds_toArray,List.set_cons_zero,List.set_cons_succ,i64_w,i32_w]
          rfl
         refine take_ (i:=3) (N:=some 18) (v:=?_) (a':=?_) #[true,true,true,true,false,false,false,false,true,false,false,false,false] rfl rfl (take_ofW HT_.out HW_.out (by kernel_rfl)) (fun _ _ _ h=>h) (Or.inl ⟨by rfl,?_⟩) hHeld ?_ ?_
         rotate_left
         ·rintro w' ⟨s0,s1,s2,s3,s4,s5⟩
          go_simp
          with_reducible rfl
         rotate_left
         ·simp only [Act.put,List.setIfInBounds_toArray,List.set_cons_zero,List.set_cons_succ,i64_w,i32_w]
          rfl
         refine pure_ (i:=4) (N:=some 19) (v:=?_) (a':=?_) #[true,true,true,true,true,false,false,false,true,false,false,false,false] rfl rfl (any_of HT_.out (by kernel_rfl)) (fun _ _ _ h=>h) (Or.inl ⟨by rfl,?_⟩) ?_ ?_
         rotate_left
         ·intro w'
          go_simp
          with_reducible rfl
         rotate_left
         ·simp only [Act.put,List.setIfInBounds_toArray,List.set_cons_zero,List.set_cons_succ,i64_w,i32_w]
          rfl
         refine pure_ (i:=5) (N:=some 20) (v:=?_) (a':=?_) #[true,true,true,true,true,true,false,false,true,false,false,false,false] rfl rfl (any_of HT_.out (by kernel_rfl)) (fun _ _ _ h=>h) (Or.inl ⟨by rfl,?_⟩) ?_ ?_
         rotate_left
         ·intro w'
          go_simp
          with_reducible rfl
         rotate_left
         ·simp only [Act.put,List.setIfInBounds_toArray,List.set_cons_zero,List.set_cons_succ,i64_w,i32_w]
          rfl
         refine pure_ (i:=6) (N:=some 21) (v:=?_) (a':=?_) #[true,true,true,true,true,true,true,false,true,false,false,false,false] rfl rfl (any_of HT_.out (by kernel_rfl)) (fun _ _ _ h=>h) (Or.inl ⟨by rfl,?_⟩) ?_ ?_
         rotate_left
         ·intro w'
          go_simp
          with_reducible rfl
         rotate_left
         ·simp only [Act.put,List.setIfInBounds_toArray,List.set_cons_zero,List.set_cons_succ,i64_w,i32_w]
          rfl
         refine take_ (i:=7) (N:=some 22) (v:=?_) (a':=?_) #[true,true,true,true,true,true,true,true,true,false,false,false,false] rfl rfl (take_ofW HT_.out HW_.out (by kernel_rfl)) (fun _ _ _ h=>h) (Or.inl ⟨by rfl,?_⟩) hHeld ?_ ?_
         rotate_left
         ·rintro w' ⟨s0,s1,s2,s3,s4,s5⟩
          go_simp
          with_reducible rfl
         rotate_left
         ·simp only [Act.put,List.setIfInBounds_toArray,List.set_cons_zero,List.set_cons_succ,i64_w,i32_w]
          rfl
         refine take_ (i:=9) (N:=some 24) (v:=?_) (a':=?_) #[true,true,true,true,true,true,true,true,true,true,false,false,false] rfl rfl (take_ofW HT_.out HW_.out (by kernel_rfl)) (fun _ _ _ h=>h) (Or.inl ⟨by rfl,?_⟩) hHeld ?_ ?_
         rotate_left
         ·rintro w' ⟨s0,s1,s2,s3,s4,s5⟩
          go_simp
          with_reducible rfl
         rotate_left
         ·simp only [Act.put,List.setIfInBounds_toArray,List.set_cons_zero,List.set_cons_succ,i64_w,i32_w]
          rfl
         refine pure_ (i:=10) (N:=some 25) (v:=?_) (a':=?_) #[true,true,true,true,true,true,true,true,true,true,true,false,false] rfl rfl (any_of HT_.out (by kernel_rfl)) (fun _ _ _ h=>h) (Or.inl ⟨by rfl,?_⟩) ?_ ?_
         rotate_left
         ·intro w'
          go_simp
          with_reducible rfl
         rotate_left
         ·simp only [Act.put,List.setIfInBounds_toArray,List.set_cons_zero,List.set_cons_succ,i64_w,i32_w]
          rfl
         refine pure_ (i:=11) (N:=some 26) (v:=?_) (a':=?_) #[true,true,true,true,true,true,true,true,true,true,true,true,false] rfl rfl (any_of HT_.out (by kernel_rfl)) (fun _ _ _ h=>h) (Or.inl ⟨by rfl,?_⟩) ?_ ?_
         rotate_left
         ·intro w'
          go_simp
          with_reducible rfl
         rotate_left
         ·simp only [Act.put,List.setIfInBounds_toArray,List.set_cons_zero,List.set_cons_succ,i64_w,i32_w]
          rfl
         refine last_ (i:=12) (N:=none) #[true,true,true,true,true,true,true,true,true,true,true,true,true] rfl rfl (one_of HT_.out (by kernel_rfl)) (by decide) (fun K hK=>?_)
         refine skip_ (w1:=?_) (by rfl) rfl ?_ ?_
         rotate_left
         ·go_simp
          rfl
         refine hK.out _ _ ?_
         clear hK K
         refine done_ (done_of HT_.out (by kernel_rfl)) ?_
         try go_wp2
         go_loopg [6] k1 (fun kq v6 w'=>∃ (x6_2 : Int) (x146000_2 : List Bool) (x146001_2 : List ByteArray) (u146000 : Value) (u146001 : Value),v6 = .int .i64 x6_2∧Aside0 (spec_l1Open.l1 kq x6_2 l0 (l0.length : Int) x11_1 x146000_2 x146001_2 ((rd_T74 l0 x11_1).f0) ((rd_T74 l0 x11_1).f1) ((rd_T74 l0 x11_1).f2) = some (r1,r2))∧Aside0 (kq ≤ k1)∧Aside0 (Kd.R Kd.bool 4 w' w.heap.size (fun _=>True) u146000 x146000_2)∧Aside0 (Kd.R Kd.string 9 w' w.heap.size (fun _=>True) u146001 x146001_2)∧Aside0 (w'.heap[gb141]? = some (.cells #[(.slice none 0 0),(.slice none 0 0)] 110 (0,0)))∧Aside0 (w'.heap[gb145]? = some (.cells #[u146000,u146001] 110 (0,0)))∧Aside0 (w'.heap[gb147]? = some (.cells #[.int .i64 ((rd_T74 l0 x11_1).f0),.int .i64 ((rd_T74 l0 x11_1).f1),.string ((rd_T74 l0 x11_1).f2)] 74 (0,0)))∧Aside0 (Below w.heap.size w w'))
         case atStart=>exact ⟨(0),(x146000_1),(y149),(u146000),(.slice (some ⟨go16,0,none⟩) x146001_1.length co23),(by first|rfl|(simp;done)|(simp [*];done)),H',⟨Nat.le_refl _⟩,⟨by (with_reducible repeat (first|apply Kd.R_alloc|apply Kd.R_drewN|apply Kd.R_drew));exact Kd.R_mono (Kd.R_far (p:=⟨go16,((ji12) : Int).toNat,none⟩) (Kd.R_types HO_146000.out GG16.out (by decide)) (fun _ hk=>hk.2) (.string ((rdOf ByteArray.empty x146001_1 (ji12)) ++ ((rd_T74 l0 x11_1).f2)))) (fun _ hk=>trivial)⟩,⟨by (with_reducible repeat (first|apply Kd.R_alloc|apply Kd.R_drewN|apply Kd.R_drew));exact HQ24.out⟩,⟨by (with_reducible repeat first|apply blk_drewN|apply blk_drew|apply blk_alloc);refine blk_far ?_ (by have h_:=Kd.R_ne HO_146001.out BK141.out (by decide);intro e_;exact h_ (by rw [e_];rfl)) _;(with_reducible repeat first|apply blk_drewN|apply blk_drew|apply blk_alloc);exact BK141.out⟩,⟨by (with_reducible repeat first|apply blk_drewN|apply blk_drew|apply blk_alloc);refine blk_far ?_ (by have h_:=Kd.R_ne HO_146001.out BK145.out (by decide);intro e_;exact h_ (by rw [e_];rfl)) _;(with_reducible repeat first|apply blk_drewN|apply blk_drew|apply blk_alloc);exact BK145.out⟩,⟨by (with_reducible repeat first|apply blk_drewN|apply blk_drew|apply blk_alloc);refine blk_far ?_ (by have h_:=Kd.R_ne HO_146001.out BK147.out (by decide);intro e_;exact h_ (by rw [e_];rfl)) _;(with_reducible repeat first|apply blk_drewN|apply blk_drew|apply blk_alloc);exact BK147.out⟩,⟨by repeat (first|(with_reducible first|exact HB.out|apply below_alloc|apply pw_below_drewN|apply below_drew1|refine below_set ?_ GB16.out|refine below_set ?_ GE141.out|refine below_set ?_ GE145.out|refine below_set ?_ GE147.out)|exact HB.out)⟩⟩
         case round =>
          clear H'
          (try clear c1);(try clear p1);(try clear q1);(try clear hx1);(try clear hf1);(try clear p2);(try clear p6);(try clear c7);(try clear c8);(try clear c9);(try clear c9b0);(try clear c10);(try clear c10b0);(try clear c11);(try clear c11b0);(try clear c13);(try clear c13b0);(try clear c14);(try clear c14b0);(try clear p14);(try clear q14);(try clear hx14);(try clear c15);(try clear c15b0);(try clear c15b1);(try clear c15b2);(try clear p16);(try clear q16);(try clear hx16);(try clear hf16);(try clear c18);(try clear c19);(try clear hcz20_0);(try clear hcz20_1);(try clear hcz20_2);(try clear hcz8_0);(try clear hcz8_1);(try clear hfz20_0);(try clear hfz20_1);(try clear hfz20_2);(try clear hfz8_0);(try clear hfz8_1);(try clear hx146_0);(try clear hx146_1);(try clear hx146_2);(try clear hx148_0);(try clear hx16_0);(try clear p146);(try clear p148);(try clear p16);(try clear p2);(try clear q146);(try clear q148);(try clear q16);(try clear BK141);(try clear BK145);(try clear BK147)
          obtain ⟨x6_2,x146000_2,x146001_2,u146000,u146001,rfl,HA,HK2,HO_146000,HO_146001,BK141,BK145,BK147,HB⟩:=hrel
          cases gk with
          | zero=>exact absurd HA.out (by simp [spec_l1Open.l1])
          | succ k2 =>
           have H:=HA.out
           clear HA
           simp only [spec_l1Open.l1] at H
           by_cases c25 : x6_2 < (wrap64 (((rd_T74 l0 x11_1).f0) + ((rd_T74 l0 x11_1).f1)))
           ·rw [if_pos c25] at H
            have c25b0 : decide (x6_2 < (wrap64 (((rd_T74 l0 x11_1).f0) + ((rd_T74 l0 x11_1).f1)))) = true:=decide_eq_true c25
            clear c25
            by_cases c26 : x146000_2.length < 140737488355328
            ·rw [if_pos c26] at H
             have LMc26:=Aside0.mk c26
             clear c26
             obtain ⟨y150,hy150⟩ : ∃ y_ : List Bool,y_ = (x146000_2 ++ [decide (((rd_T74 l0 x11_1).f0) > 0)]):=⟨_,rfl⟩
             replace H : (if x146001_2.length < 8796093022208 then (spec_l1Open.l1 k2 (wrap64 (x6_2 + 1)) l0 (l0.length : Int) x11_1 y150 (x146001_2 ++ [(⟨#[]⟩ : ByteArray)]) ((rd_T74 l0 x11_1).f0) ((rd_T74 l0 x11_1).f1) ((rd_T74 l0 x11_1).f2)) else (none)) = some (r1,r2):=by first|(rw [hy150];with_reducible exact H)|(have H2_:=(Option.bind_some _ _).symm.trans H;rw [hy150];with_reducible exact H2_)|(have H2_:=(Option.bind_some _ _).symm.trans H;with_reducible exact H2_)|with_reducible exact H|(rw [hy150];exact H)|exact H
             have Ny150:=Aside0.mk hy150
             clear hy150
             by_cases c27 : x146001_2.length < 8796093022208
             ·rw [if_pos c27] at H
              have LMc27:=Aside0.mk c27
              clear c27
              obtain ⟨y153,hy153⟩ : ∃ y_ : List ByteArray,y_ = (x146001_2 ++ [(⟨#[]⟩ : ByteArray)]):=⟨_,rfl⟩
              replace H : (spec_l1Open.l1 k2 (wrap64 (x6_2 + 1)) l0 (l0.length : Int) x11_1 y150 y153 ((rd_T74 l0 x11_1).f0) ((rd_T74 l0 x11_1).f1) ((rd_T74 l0 x11_1).f2)) = some (r1,r2):=by first|(rw [hy153];with_reducible exact H)|(have H2_:=(Option.bind_some _ _).symm.trans H;rw [hy153];with_reducible exact H2_)|(have H2_:=(Option.bind_some _ _).symm.trans H;with_reducible exact H2_)|with_reducible exact H|(rw [hy153];exact H)|exact H
              have Ny153:=Aside0.mk hy153
              clear hy153
              have H':=Aside0.mk H
              clear H
              have hnb28:=NB147_141.out
              have hnc28:=NB141_147.out
              have hnb29:=NB147_145.out
              have hnc29:=NB145_147.out
              have hcz30_0 : wr.cell? ⟨gb147,0,none⟩ = some (.int .i64 ((rd_T74 l0 x11_1).f0)):=(blk_cell BK147.out 0).trans rfl
              have hcz30_1 : wr.cell? ⟨gb147,1,none⟩ = some (.int .i64 ((rd_T74 l0 x11_1).f1)):=(blk_cell BK147.out 1).trans rfl
              have hcz30_2 : wr.cell? ⟨gb147,2,none⟩ = some (.string ((rd_T74 l0 x11_1).f2)):=(blk_cell BK147.out 2).trans rfl
              have hfz30_0:=blk_frozen BK147.out 0
              have hfz30_1:=blk_frozen BK147.out 1
              have hfz30_2:=blk_frozen BK147.out 2
              have hnb31:=NB145_141.out
              have hnc31:=NB141_145.out
              have hcz32_0 : wr.cell? ⟨gb145,0,none⟩ = some (u146000):=(blk_cell BK145.out 0).trans rfl
              have hcz32_1 : wr.cell? ⟨gb145,1,none⟩ = some (u146001):=(blk_cell BK145.out 1).trans rfl
              have hfz32_0:=blk_frozen BK145.out 0
              have hfz32_1:=blk_frozen BK145.out 1
              go_wp2_with (first|((with_reducible refine gate_builtin (b:=.append) (xs:=#[.tmp 37,.tmp 41]) rfl ?_);at_builtin;refine Kd.R_append Kd.bool (w0:=w) w.heap.size rfl (.tmp 37) (.tmp 41) 83 4 (.bool false) 1 rfl Try.underlying83 info4 rfl (by decide) (by omega) u146000 x146000_2 (decide (((rd_T74 l0 x11_1).f0) > 0)) [.bool (decide (((rd_T74 l0 x11_1).f0) > 0))] (fun _=>True) (fun _=>False) rfl rfl ?aP (fun _ hk=>hk.elim) ?aF ?aO ?aB ?aS ?aL ?_;(case aP=>exact rfl);(case aB=>exact (by repeat (first|(with_reducible first|exact HB.out|apply below_alloc|apply pw_below_drewN|apply below_drew1|refine below_set ?_ GE141.out|refine below_set ?_ GE145.out|refine below_set ?_ GE147.out)|exact HB.out)));(case aF=>exact (fun _ _=>trivial));(case aO=>exact (by (with_reducible repeat (first|apply Kd.R_alloc|apply Kd.R_drewN|apply Kd.R_drew));exact HO_146000.out));(case aS=>exact (below_size (by repeat (first|(with_reducible first|exact HB.out|apply below_alloc|apply pw_below_drewN|apply below_drew1|refine below_set ?_ GE141.out|refine below_set ?_ GE145.out|refine below_set ?_ GE147.out)|exact HB.out))));(case aL=>have:=LMc26.out;omega);intro v151 w33 ho hb hg hat;rw [← Ny150.out] at ho;have n0_:=Aside0.mk (Kd.R_over' (by (with_reducible repeat (first|apply Kd.R_alloc|apply Kd.R_drewN|apply Kd.R_drew));exact HO_146001.out) (Kd.R_typed (by (with_reducible repeat (first|apply Kd.R_alloc|apply Kd.R_drewN|apply Kd.R_drew));exact HO_146000.out)) (by decide) hg);have n1_:=Aside0.mk (blk_grown (g:=gb141) (o:=.cells #[.slice none 0 0,.slice none 0 0] 110 (0,0)) (by (with_reducible repeat first|apply blk_drewN|apply blk_drew|apply blk_alloc);exact BK141.out) hg (Kd.R_ne HO_146000.out BK141.out (by decide)));have n2_:=Aside0.mk (blk_grown (g:=gb145) (o:=.cells #[u146000,u146001] 110 (0,0)) (by (with_reducible repeat first|apply blk_drewN|apply blk_drew|apply blk_alloc);exact BK145.out) hg (Kd.R_ne HO_146000.out BK145.out (by decide)));have n3_:=Aside0.mk (blk_grown (g:=gb147) (o:=.cells #[.int .i64 ((rd_T74 l0 x11_1).f0),.int .i64 ((rd_T74 l0 x11_1).f1),.string ((rd_T74 l0 x11_1).f2)] 74 (0,0)) (by (with_reducible repeat first|apply blk_drewN|apply blk_drew|apply blk_alloc);exact BK147.out) hg (Kd.R_ne HO_146000.out BK147.out (by decide)));have n4_:=Aside0.mk (hb);have n5_:=Aside0.mk (ho);clear HO_146001;clear BK141;clear BK145;clear BK147;clear HB;clear HO_146000;have HO_146001:=n0_;have BK141:=n1_;have BK145:=n2_;have BK147:=n3_;have HB:=n4_;have HO152:=n5_;clear n0_ n1_ n2_ n3_ n4_ n5_;clear ho hb hg hat;obtain ⟨Ao34,co34,eo34⟩:=Kd.R_slice HO152.out;subst eo34;have hcz35_0 : w33.cell? ⟨gb145,0,none⟩ = some (u146000):=(blk_cell BK145.out 0).trans rfl;have hcz35_1 : w33.cell? ⟨gb145,1,none⟩ = some (u146001):=(blk_cell BK145.out 1).trans rfl;have hfz35_0:=blk_frozen BK145.out 0;have hfz35_1:=blk_frozen BK145.out 1)|((with_reducible refine gate_builtin (b:=.append) (xs:=#[.tmp 45,.tmp 46]) rfl ?_);at_builtin;refine Kd.R_append Kd.string (w0:=w) w.heap.size rfl (.tmp 45) (.tmp 46) 84 9 (.string ⟨#[]⟩) 16 rfl Try.underlying84 info9 rfl (by decide) (by omega) u146001 x146001_2 (⟨#[]⟩ : ByteArray) [.string (⟨#[]⟩ : ByteArray)] (fun _=>True) (fun _=>False) rfl (by first|(go_simp;done)|(go_simp;rfl)) ?aP (fun _ hk=>hk.elim) ?aF ?aO ?aB ?aS ?aL ?_;(case aP=>exact rfl);(case aB=>exact (by repeat (first|(with_reducible first|exact HB.out|apply below_alloc|apply pw_below_drewN|apply below_drew1|refine below_set ?_ GE141.out|refine below_set ?_ GE145.out|refine below_set ?_ GE147.out)|exact HB.out)));(case aF=>exact (fun _ _=>trivial));(case aO=>exact (by (with_reducible repeat (first|apply Kd.R_alloc|apply Kd.R_drewN|apply Kd.R_drew));exact Kd.R_mono (Kd.R_far (p:=⟨gb145,0,none⟩) (Kd.R_types HO_146001.out BK145.out (by decide)) (fun _ hk=>hk.2) (.slice Ao34 y150.length co34)) (fun _ hk=>trivial)));(case aS=>exact (below_size (by repeat (first|(with_reducible first|exact HB.out|apply below_alloc|apply pw_below_drewN|apply below_drew1|refine below_set ?_ GE141.out|refine below_set ?_ GE145.out|refine below_set ?_ GE147.out)|exact HB.out))));(case aL=>have:=LMc27.out;omega);intro v154 w36 ho hb hg hat;rw [← Ny153.out] at ho;have n0_:=Aside0.mk (blk_grown (g:=gb141) (o:=.cells #[.slice none 0 0,.slice none 0 0] 110 (0,0)) (by (with_reducible repeat first|apply blk_drewN|apply blk_drew|apply blk_alloc);refine blk_far ?_ NB141_145.out _;(with_reducible repeat first|apply blk_drewN|apply blk_drew|apply blk_alloc);exact BK141.out) hg (Kd.R_ne HO_146001.out BK141.out (by decide)));have n1_:=Aside0.mk (blk_grown (g:=gb145) (o:=.cells #[.slice Ao34 y150.length co34,u146001] 110 (0,0)) (by (with_reducible repeat first|apply blk_drewN|apply blk_drew|apply blk_alloc);refine blk_put (cs:=#[u146000,u146001]) ?_ 0 _ rfl;(with_reducible repeat first|apply blk_drewN|apply blk_drew|apply blk_alloc);exact BK145.out) hg (Kd.R_ne HO_146001.out BK145.out (by decide)));have n2_:=Aside0.mk (blk_grown (g:=gb147) (o:=.cells #[.int .i64 ((rd_T74 l0 x11_1).f0),.int .i64 ((rd_T74 l0 x11_1).f1),.string ((rd_T74 l0 x11_1).f2)] 74 (0,0)) (by (with_reducible repeat first|apply blk_drewN|apply blk_drew|apply blk_alloc);refine blk_far ?_ NB147_145.out _;(with_reducible repeat first|apply blk_drewN|apply blk_drew|apply blk_alloc);exact BK147.out) hg (Kd.R_ne HO_146001.out BK147.out (by decide)));have n3_:=Aside0.mk (Kd.R_over' (by (with_reducible repeat (first|apply Kd.R_alloc|apply Kd.R_drewN|apply Kd.R_drew));exact (Kd.R_mono (Kd.R_far (p:=⟨gb145,0,none⟩) (Kd.R_types HO152.out BK145.out (by decide)) (fun _ hk=>hk.2) (.slice Ao34 y150.length co34)) (fun _ h_=>h_.1))) (Kd.R_typed (by (with_reducible repeat (first|apply Kd.R_alloc|apply Kd.R_drewN|apply Kd.R_drew));exact (Kd.R_mono (Kd.R_far (p:=⟨gb145,0,none⟩) (Kd.R_types HO_146001.out BK145.out (by decide)) (fun _ hk=>hk.2) (.slice Ao34 y150.length co34)) (fun _ h_=>h_.1)))) (by decide) hg);have n4_:=Aside0.mk (hb);have n5_:=Aside0.mk (ho);clear BK141;clear BK145;clear BK147;clear HO152;clear HB;clear HO_146001;have BK141:=n0_;have BK145:=n1_;have BK147:=n2_;have HO152:=n3_;have HB:=n4_;have HO155:=n5_;clear n0_ n1_ n2_ n3_ n4_ n5_;clear ho hb hg hat;obtain ⟨Ao37,co37,eo37⟩:=Kd.R_slice HO155.out;subst eo37;have hcz38_0 : w36.cell? ⟨gb145,0,none⟩ = some (.slice Ao34 y150.length co34):=(blk_cell BK145.out 0).trans rfl;have hcz38_1 : w36.cell? ⟨gb145,1,none⟩ = some (u146001):=(blk_cell BK145.out 1).trans rfl;have hfz38_0:=blk_frozen BK145.out 0;have hfz38_1:=blk_frozen BK145.out 1))
              go_roundg k2
              case measure=>have:=HK1.out;have:=HK2.out;omega
              case rel=>exact ⟨(wrap64 (x6_2 + 1)),(y150),(y153),(.slice Ao34 y150.length co34),(.slice Ao37 y153.length co37),(by first|rfl|(simp;done)|(simp [*];done)),H',⟨by have:=HK1.out;have:=HK2.out;omega⟩,⟨by (with_reducible repeat (first|apply Kd.R_alloc|apply Kd.R_drewN|apply Kd.R_drew));exact Kd.R_mono (Kd.R_far (p:=⟨gb145,1,none⟩) (Kd.R_types HO152.out BK145.out (by decide)) (fun _ hk=>hk.2) (.slice Ao37 y153.length co37)) (fun _ hk=>trivial)⟩,⟨by (with_reducible repeat (first|apply Kd.R_alloc|apply Kd.R_drewN|apply Kd.R_drew));exact Kd.R_mono (Kd.R_far (p:=⟨gb145,1,none⟩) (Kd.R_types HO155.out BK145.out (by decide)) (fun _ hk=>hk.2) (.slice Ao37 y153.length co37)) (fun _ hk=>trivial)⟩,⟨by (with_reducible repeat first|apply blk_drewN|apply blk_drew|apply blk_alloc);refine blk_far ?_ NB141_145.out _;(with_reducible repeat first|apply blk_drewN|apply blk_drew|apply blk_alloc);exact BK141.out⟩,⟨by (with_reducible repeat first|apply blk_drewN|apply blk_drew|apply blk_alloc);refine blk_put (cs:=#[.slice Ao34 y150.length co34,u146001]) ?_ 1 _ rfl;(with_reducible repeat first|apply blk_drewN|apply blk_drew|apply blk_alloc);exact BK145.out⟩,⟨by (with_reducible repeat first|apply blk_drewN|apply blk_drew|apply blk_alloc);refine blk_far ?_ NB147_145.out _;(with_reducible repeat first|apply blk_drewN|apply blk_drew|apply blk_alloc);exact BK147.out⟩,⟨by repeat (first|(with_reducible first|exact HB.out|apply below_alloc|apply pw_below_drewN|apply below_drew1|refine below_set ?_ GE141.out|refine below_set ?_ GE145.out|refine below_set ?_ GE147.out)|exact HB.out)⟩⟩
             ·rw [if_neg c27] at H
              exact absurd H (by simp)
            ·rw [if_neg c26] at H
             exact absurd H (by simp)
           ·rw [if_neg c25] at H
            have c25b0 : decide (x6_2 < (wrap64 (((rd_T74 l0 x11_1).f0) + ((rd_T74 l0 x11_1).f1)))) = false:=decide_eq_false c25
            clear c25
            have H':=Aside0.mk H
            clear H
            have hnb39:=NB147_141.out
            have hnc39:=NB141_147.out
            have hnb40:=NB147_145.out
            have hnc40:=NB145_147.out
            have hcz41_0 : wr.cell? ⟨gb147,0,none⟩ = some (.int .i64 ((rd_T74 l0 x11_1).f0)):=(blk_cell BK147.out 0).trans rfl
            have hcz41_1 : wr.cell? ⟨gb147,1,none⟩ = some (.int .i64 ((rd_T74 l0 x11_1).f1)):=(blk_cell BK147.out 1).trans rfl
            have hcz41_2 : wr.cell? ⟨gb147,2,none⟩ = some (.string ((rd_T74 l0 x11_1).f2)):=(blk_cell BK147.out 2).trans rfl
            have hfz41_0:=blk_frozen BK147.out 0
            have hfz41_1:=blk_frozen BK147.out 1
            have hfz41_2:=blk_frozen BK147.out 2
            go_wp2
            go_roundg k2
            case measure=>have:=HK1.out;have:=HK2.out;omega
            case rel=>exact ⟨(wrap64 (x11_1 + 1)),(x146000_2),(x146001_2),(u146000),(u146001),(by first|rfl|(simp;done)|(simp [*];done)),H',⟨by have:=HK1.out;have:=HK2.out;omega⟩,⟨by (with_reducible repeat (first|apply Kd.R_alloc|apply Kd.R_drewN|apply Kd.R_drew));exact HO_146000.out⟩,⟨by (with_reducible repeat (first|apply Kd.R_alloc|apply Kd.R_drewN|apply Kd.R_drew));exact HO_146001.out⟩,⟨by (with_reducible repeat first|apply blk_drewN|apply blk_drew|apply blk_alloc);exact BK141.out⟩,⟨by (with_reducible repeat first|apply blk_drewN|apply blk_drew|apply blk_alloc);exact BK145.out⟩,⟨by repeat (first|(with_reducible first|exact HB.out|apply below_alloc|apply pw_below_drewN|apply below_drew1|refine below_set ?_ GE141.out|refine below_set ?_ GE145.out|refine below_set ?_ GE147.out)|exact HB.out)⟩⟩
        ·rw [if_neg c15] at H
         exact absurd H (by simp)
       ·rw [if_neg c14] at H
        exact absurd H (by simp)
      ·rw [if_neg c13] at H
       exact absurd H (by simp)
     ·rw [if_neg c11] at H
      exact absurd H (by simp)
    ·rw [if_neg c10] at H
     exact absurd H (by simp)
   ·rw [if_neg c9] at H
    have c9b0 : decide (x11_1 < (l0.length : Int)) = false:=decide_eq_false c9
    clear c9
    simp only [Option.some.injEq,Prod.mk.injEq] at H
    obtain ⟨rfl,rfl⟩:=H
    have hnb42:=NB145_141.out
    have hnc42:=NB141_145.out
    have hcz43_0 : wr.cell? ⟨gb145,0,none⟩ = some (u146000):=(blk_cell BK145.out 0).trans rfl
    have hcz43_1 : wr.cell? ⟨gb145,1,none⟩ = some (u146001):=(blk_cell BK145.out 1).trans rfl
    have hfz43_0:=blk_frozen BK145.out 0
    have hfz43_1:=blk_frozen BK145.out 1
    obtain ⟨Ao44,co44,eo44⟩:=Kd.R_slice HO_146000.out
    subst eo44
    have hcz45_0 : wr.cell? ⟨gb141,0,none⟩ = some (.slice none 0 0):=(blk_cell BK141.out 0).trans rfl
    have hcz45_1 : wr.cell? ⟨gb141,1,none⟩ = some (.slice none 0 0):=(blk_cell BK141.out 1).trans rfl
    have hfz45_0:=blk_frozen BK141.out 0
    have hfz45_1:=blk_frozen BK141.out 1
    obtain ⟨Ao46,co46,eo46⟩:=Kd.R_slice HO_146001.out
    subst eo46
    go_wp2
    refine bodyPost_ret (results_cell_row rfl _ _ gb141 110 #[.slice Ao44 x146000_1.length co44,.slice Ao46 x146001_1.length co46] (0,0) _ rfl (by (with_reducible repeat first|apply blk_drewN|apply blk_drew|apply blk_alloc);refine blk_put (cs:=#[.slice Ao44 x146000_1.length co44,.slice none 0 0]) ?_ 1 _ rfl;(with_reducible repeat first|apply blk_drewN|apply blk_drew|apply blk_alloc);refine blk_put (cs:=#[.slice none 0 0,.slice none 0 0]) ?_ 0 _ rfl;(with_reducible repeat first|apply blk_drewN|apply blk_drew|apply blk_alloc);exact BK141.out) Try.underlying110 rfl (by kernel_rfl)) rfl ?_
    exact ⟨_,_,by first|rfl|(simp [*,errW_none,errW_some] <;> rfl),by (with_reducible repeat (first|apply Kd.R_alloc|apply Kd.R_drewN|apply Kd.R_drew));exact Kd.R_mono (Kd.R_far (p:=⟨gb141,1,none⟩) (Kd.R_far (p:=⟨gb141,0,none⟩) (Kd.R_types HO_146000.out BK141.out (by decide)) (fun _ hk=>hk.2) (.slice Ao44 x146000_1.length co44)) (fun _ hk=>hk.2) (.slice Ao46 x146001_1.length co46)) (fun _ hk=>trivial),by (with_reducible repeat (first|apply Kd.R_alloc|apply Kd.R_drewN|apply Kd.R_drew));exact Kd.R_mono (Kd.R_far (p:=⟨gb141,1,none⟩) (Kd.R_far (p:=⟨gb141,0,none⟩) (Kd.R_types HO_146001.out BK141.out (by decide)) (fun _ hk=>hk.2) (.slice Ao44 x146000_1.length co44)) (fun _ hk=>hk.2) (.slice Ao46 x146001_1.length co46)) (fun _ hk=>trivial),by repeat (first|(with_reducible first|exact HB.out|apply below_alloc|apply pw_below_drewN|apply below_drew1|refine below_set ?_ GE141.out|refine below_set ?_ GE145.out)|exact HB.out)⟩

end Go.Proofs.Ytebmncdjlmnbnaa.PFnExactComposeChanges
