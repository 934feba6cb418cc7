-- Written by a program of this session over the print of the kit (wip/t/patch_print.py).
import Derived.Test.YtdlicabmalljpaaPFnExactTextAtx0
import Derived.Test.YtdlicabmalljpaaPFnExactTextAtx1
import Derived.Test.YtdlicabmalljpaaPFnExactTextAtx2
namespace Go.Proofs.Ytdlicabmalljpaa.PFnExactTextAt
open Go.RowKit Go.Proofs.YtdlicabmalljpaaW.PrintWords Go.Proofs.YtdlicabmalljpaaW.PrintLast Go.Proofs.YtdlicabmalljpaaW.PrintMore
attribute [local go_sem] max2_int min2_int max_two min_two max_three min_three max_four min_four   -- for this text's walks alone
set_option linter.unusedVariables false
set_option linter.unusedSimpArgs false

/-! ### spec_l1Target: function 101 -/
def spec_l1Target.l0 : Nat → Int → List (S89) → Int → Int → Option (Int)
 | 0,_,_,_,_=>none
 | k + 1,x3,x6,x7,x8=>if x8 < x7 then (if 0 ≤ x8 then (if x8 < (x6.length : Int) then (spec_l1Target.l0 k (wrap64 (x3 + (wrap64 (((rd_T89 x6 x8).f0) + (((rd_T89 x6 x8).f2).size : Int))))) x6 x7 (wrap64 (x8 + 1))) else (none)) else (none)) else (some x3)
def spec_l1Target.f (k : Nat) (l0 : List (S89)) : Option (Int):=spec_l1Target.l0 k 0 l0 (l0.length : Int) 0
theorem spec_l1Target.mono_l : ∀ k,(∀ y0 y1 y2 y3,LeO (spec_l1Target.l0 k y0 y1 y2 y3) (spec_l1Target.l0 (k + 1) y0 y1 y2 y3))
 | 0=>fun _ _ _ _ r h=>by simp [spec_l1Target.l0] at h
 | k + 1=>by
  have ih0:=spec_l1Target.mono_l k
  ·intro y0 y1 y2 y3
   unfold spec_l1Target.l0
   repeat' first
   | (with_reducible exact ih0 _ _ _ _)
   | (with_reducible exact LeO.refl _)
   | (with_reducible exact LeO.none _)
   | (with_reducible refine LeO.ite ?_ ?_)
   | (with_reducible refine LeO.bind ?_ (fun _=>?_))
   | exact ih0 _ _ _ _
   | exact LeO.none _
   | refine LeO.ite ?_ ?_
   | refine LeO.bind ?_ (fun _=>?_)
theorem spec_l1Target.mono : ∀ a0 k,LeO (spec_l1Target.f k a0) (spec_l1Target.f (k + 1) a0):=by
 intro a0 k
 have ih0:=spec_l1Target.mono_l k
 unfold spec_l1Target.f
 repeat' first
   | (with_reducible exact ih0 _ _ _ _)
   | (with_reducible exact LeO.refl _)
   | (with_reducible exact LeO.none _)
   | (with_reducible refine LeO.ite ?_ ?_)
   | (with_reducible refine LeO.bind ?_ (fun _=>?_))
   | exact ih0 _ _ _ _
   | exact LeO.none _
   | refine LeO.ite ?_ ?_
   | refine LeO.bind ?_ (fun _=>?_)
set_option maxHeartbeats 8000000 in
set_option maxRecDepth 100000 in
theorem spec_l1Target.calls (k : Nat) (A0 : Option Addr) (c0 : Nat) (l0 : List (S89)) (r : Int) (w : World) (hr0 : Kd.C k89 w A0 l0.length l0) (hc0 : l0.length ≤ c0) (h : spec_l1Target.f k l0 = some r) :
  Calls Try.prog 101 #[.slice A0 l0.length c0] w fun e w'=>e = .returned (.int .i64 r)∧Below w.heap.size w w':=by
 have hu89:=Try.underlying89
 have HR0:=Aside0.mk hr0
 have HC0:=Aside0.mk hc0
 clear hr0 hc0
 have HB:=Aside0.mk (Below.refl w.heap.size w)
 have H : (spec_l1Target.l0 k 0 l0 (l0.length : Int) 0) = some r:=h
 clear h
 have H':=Aside0.mk H
 clear H
 go_enter Try.func101,Try.ntmps101
 go_wp2
 go_loopg [3,8] k (fun kq v3 v8 w'=>∃ (x3_1 : Int) (x8_1 : Int),v3 = .int .i64 x3_1∧v8 = .int .i64 x8_1∧Aside0 (spec_l1Target.l0 kq x3_1 l0 (l0.length : Int) x8_1 = some r)∧Aside0 (kq ≤ k)∧Aside0 (Below w.heap.size w w'))
 case atStart=>exact ⟨(0),(0),(by first|rfl|(simp;done)|(simp [*];done)),(by first|rfl|(simp;done)|(simp [*];done)),H',⟨Nat.le_refl _⟩,⟨by repeat (first|exact HB.out|apply below_alloc|apply pw_below_drewN|apply below_drew1)⟩⟩
 case round =>
  clear H'
  try clear c1
  obtain ⟨x3_1,x8_1,rfl,rfl,HA,HK1,HB⟩:=hrel
  cases gk with
  | zero=>exact absurd HA.out (by simp [spec_l1Target.l0])
  | succ k1 =>
   have H:=HA.out
   clear HA
   simp only [spec_l1Target.l0] at H
   by_cases c2 : x8_1 < (l0.length : Int)
   ·rw [if_pos c2] at H
    have c2b0 : decide (x8_1 < (l0.length : Int)) = true:=decide_eq_true c2
    clear c2
    by_cases c3 : 0 ≤ x8_1
    ·rw [if_pos c3] at H
     have c3b0 : decide (0 ≤ x8_1) = true:=decide_eq_true c3
     clear c3
     by_cases c4 : x8_1 < (l0.length : Int)
     ·rw [if_pos c4] at H
      have c4b0 : decide (x8_1 < (l0.length : Int)) = true:=decide_eq_true c4
      clear c4
      have H':=Aside0.mk H
      clear H
      have p126 : 0 ≤ (x8_1 : Int):=of_decide_eq_true (by assumption)
      have q126 : x8_1 < (l0.length : Int):=of_decide_eq_true (by assumption)
      obtain ⟨ad126,e126,hx126_0,hx126_1,hx126_2⟩:=at_T89 HR0.out x8_1 p126 q126
      cases e126
      replace hx126_0:=(HB.out.cell (World.block_lt_of_cell? w _ hx126_0)).trans hx126_0
      replace hx126_1:=(HB.out.cell (World.block_lt_of_cell? w _ hx126_1)).trans hx126_1
      replace hx126_2:=(HB.out.cell (World.block_lt_of_cell? w _ hx126_2)).trans hx126_2
      replace p126:=eq_true p126
      replace q126:=eq_true q126
      go_wp2_with (first|((with_reducible refine gate_dst (N:=5) rfl ?_);refine box_event ?hg (N:=5) ?hd (cs:=#[.int .i64 0,.int .i64 0,.string (⟨#[]⟩ : ByteArray)]) (t:=89) ?hr ?_;(case hd=>rfl);(case hg=>rfl);(case hr=>first|(go_simp;done)|(go_simp;rfl));intro gb127 hg w5 hbox hb;have n0_:=Aside0.mk (below_step (by repeat (first|exact HB.out|apply below_alloc|apply pw_below_drewN|apply below_drew1)) hb);have n1_:=Aside0.mk (hbox);have n2_:=Aside0.mk ((by rw [hg];exact (below_size (by repeat (first|exact HB.out|apply below_alloc|apply pw_below_drewN|apply below_drew1))) : w.heap.size ≤ gb127));have n3_:=Aside0.mk ((by rw [hg];exact (below_size (by repeat (first|exact HB.out|apply below_alloc|apply pw_below_drewN|apply below_drew1))) : w.heap.size ≤ gb127));clear HB;have HB:=n0_;have BK127:=n1_;have GW127:=n2_;have GE127:=n3_;clear n0_ n1_ n2_ n3_;clear hb hbox hg;have hcz6_0 : w5.cell? ⟨gb127,0,none⟩ = some (.int .i64 0):=(blk_cell BK127.out 0).trans rfl;have hcz6_1 : w5.cell? ⟨gb127,1,none⟩ = some (.int .i64 0):=(blk_cell BK127.out 1).trans rfl;have hcz6_2 : w5.cell? ⟨gb127,2,none⟩ = some (.string (⟨#[]⟩ : ByteArray)):=(blk_cell BK127.out 2).trans rfl;have hfz6_0:=blk_frozen BK127.out 0;have hfz6_1:=blk_frozen BK127.out 1;have hfz6_2:=blk_frozen BK127.out 2))
      go_roundg k1
      case measure=>have:=HK1.out;omega
      case rel=>exact ⟨(wrap64 (x3_1 + (wrap64 (((rd_T89 l0 x8_1).f0) + (((rd_T89 l0 x8_1).f2).size : Int))))),(wrap64 (x8_1 + 1)),(by first|rfl|(simp;done)|(simp [*];done)),(by first|rfl|(simp;done)|(simp [*];done)),H',⟨by have:=HK1.out;omega⟩,⟨by repeat (first|(with_reducible first|exact HB.out|apply below_alloc|apply pw_below_drewN|apply below_drew1|refine below_set ?_ GE127.out)|exact HB.out)⟩⟩
     ·rw [if_neg c4] at H
      exact absurd H (by simp)
    ·rw [if_neg c3] at H
     exact absurd H (by simp)
   ·rw [if_neg c2] at H
    have c2b0 : decide (x8_1 < (l0.length : Int)) = false:=decide_eq_false c2
    clear c2
    obtain rfl:=Option.some.inj H
    go_wp2
    go_ret
    exact ⟨by first|rfl|(simp [*,errW_none,errW_some] <;> rfl),by repeat (first|exact HB.out|apply below_alloc|apply pw_below_drewN|apply below_drew1)⟩

/-! ### spec_GoodHistory: function 84 -/
mutual
def spec_GoodHistory.j0 : Nat → Bool → Int → ByteArray → List (S74) → List (S112) → Option (Bool)
 | 0,_,_,_,_,_=>none
 | k + 1,x35,x129000,x129001,x129002,x129003=>if x35 = true then (some false) else (spec_GoodHistory.l0 k (x129001.size : Int) x129003 (x129003.length : Int) 0)
def spec_GoodHistory.l0 : Nat → Int → List (S112) → Int → Int → Option (Bool)
 | 0,_,_,_,_=>none
 | k + 1,x3,x40,x41,x42=>if x42 < x41 then (if 0 ≤ x42 then (if x42 < (x40.length : Int) then ((spec_GoodChange.f k ((rd_T112 x40 x42).f0)).bind fun t133=>(if t133 = true then ((spec_l1Source.f k ((rd_T112 x40 x42).f0)).bind fun t134=>(if t134 = x3 then ((spec_l1Target.f k ((rd_T112 x40 x42).f0)).bind fun t135=>(spec_GoodHistory.l0 k t135 x40 x41 (wrap64 (x42 + 1)))) else (some false))) else (some false))) else (none)) else (none)) else (some true)
end
def spec_GoodHistory.f (k : Nat) (a0_0 : Int) (a0_1 : ByteArray) (l0_2 : List (S74)) (l0_3 : List (S112)) : Option (Bool):=(spec_l1In.f a0_0 0 60).bind fun t129=>(if t129 = true then (if (a0_1.size : Int) > 120 then (spec_GoodHistory.j0 k true a0_0 a0_1 l0_2 l0_3) else ((spec_GoodRuns.f k l0_2 (a0_1.size : Int) a0_0).bind fun t130=>(if t130 = true then (spec_GoodHistory.j0 k (decide ((l0_3.length : Int) > (wrap64 (60 - a0_0)))) a0_0 a0_1 l0_2 l0_3) else (spec_GoodHistory.j0 k true a0_0 a0_1 l0_2 l0_3)))) else (spec_GoodHistory.j0 k true a0_0 a0_1 l0_2 l0_3))
theorem spec_GoodHistory.mono_l : ∀ k,(∀ y0 y1 y2 y3 y4,LeO (spec_GoodHistory.j0 k y0 y1 y2 y3 y4) (spec_GoodHistory.j0 (k + 1) y0 y1 y2 y3 y4))∧(∀ y0 y1 y2 y3,LeO (spec_GoodHistory.l0 k y0 y1 y2 y3) (spec_GoodHistory.l0 (k + 1) y0 y1 y2 y3))
 | 0=>⟨fun _ _ _ _ _ r h=>by simp [spec_GoodHistory.j0] at h,fun _ _ _ _ r h=>by simp [spec_GoodHistory.l0] at h⟩
 | k + 1=>by
  obtain ⟨ih0,ih1⟩:=spec_GoodHistory.mono_l k
  refine ⟨?_,?_⟩
  ·intro y0 y1 y2 y3 y4
   unfold spec_GoodHistory.j0
   repeat' first
   | (with_reducible exact ih0 _ _ _ _ _)
   | (with_reducible exact ih1 _ _ _ _)
   | (with_reducible exact spec_GoodChange.mono _ _)
   | (with_reducible exact spec_GoodRuns.mono _ _ _ _)
   | (with_reducible exact spec_l1Source.mono _ _)
   | (with_reducible exact spec_l1Target.mono _ _)
   | (with_reducible exact LeO.refl _)
   | (with_reducible exact LeO.none _)
   | (with_reducible refine LeO.ite ?_ ?_)
   | (with_reducible refine LeO.bind ?_ (fun _=>?_))
   | exact ih0 _ _ _ _ _
   | exact ih1 _ _ _ _
   | exact spec_GoodChange.mono _ _
   | exact spec_GoodRuns.mono _ _ _ _
   | exact spec_l1Source.mono _ _
   | exact spec_l1Target.mono _ _
   | exact LeO.none _
   | refine LeO.ite ?_ ?_
   | refine LeO.bind ?_ (fun _=>?_)
  ·intro y0 y1 y2 y3
   unfold spec_GoodHistory.l0
   repeat' first
   | (with_reducible exact ih0 _ _ _ _ _)
   | (with_reducible exact ih1 _ _ _ _)
   | (with_reducible exact spec_GoodChange.mono _ _)
   | (with_reducible exact spec_GoodRuns.mono _ _ _ _)
   | (with_reducible exact spec_l1Source.mono _ _)
   | (with_reducible exact spec_l1Target.mono _ _)
   | (with_reducible exact LeO.refl _)
   | (with_reducible exact LeO.none _)
   | (with_reducible refine LeO.ite ?_ ?_)
   | (with_reducible refine LeO.bind ?_ (fun _=>?_))
   | exact ih0 _ _ _ _ _
   | exact ih1 _ _ _ _
   | exact spec_GoodChange.mono _ _
   | exact spec_GoodRuns.mono _ _ _ _
   | exact spec_l1Source.mono _ _
   | exact spec_l1Target.mono _ _
   | exact LeO.none _
   | refine LeO.ite ?_ ?_
   | refine LeO.bind ?_ (fun _=>?_)
theorem spec_GoodHistory.mono : ∀ a0 a1 a2 a3 k,LeO (spec_GoodHistory.f k a0 a1 a2 a3) (spec_GoodHistory.f (k + 1) a0 a1 a2 a3):=by
 intro a0 a1 a2 a3 k
 obtain ⟨ih0,ih1⟩:=spec_GoodHistory.mono_l k
 unfold spec_GoodHistory.f
 repeat' first
   | (with_reducible exact ih0 _ _ _ _ _)
   | (with_reducible exact ih1 _ _ _ _)
   | (with_reducible exact spec_GoodChange.mono _ _)
   | (with_reducible exact spec_GoodRuns.mono _ _ _ _)
   | (with_reducible exact spec_l1Source.mono _ _)
   | (with_reducible exact spec_l1Target.mono _ _)
   | (with_reducible exact LeO.refl _)
   | (with_reducible exact LeO.none _)
   | (with_reducible refine LeO.ite ?_ ?_)
   | (with_reducible refine LeO.bind ?_ (fun _=>?_))
   | exact ih0 _ _ _ _ _
   | exact ih1 _ _ _ _
   | exact spec_GoodChange.mono _ _
   | exact spec_GoodRuns.mono _ _ _ _
   | exact spec_l1Source.mono _ _
   | exact spec_l1Target.mono _ _
   | exact LeO.none _
   | refine LeO.ite ?_ ?_
   | refine LeO.bind ?_ (fun _=>?_)
set_option maxHeartbeats 8000000 in
set_option maxRecDepth 100000 in
theorem spec_GoodHistory.calls (k : Nat) (a0_0 : Int) (a0_1 : ByteArray) (A0_2 : Option Addr) (c0_2 : Nat) (l0_2 : List (S74)) (A0_3 : Option Addr) (c0_3 : Nat) (l0_3 : List (S112)) (r : Bool) (w : World) (hr0_2 : Kd.C k74 w A0_2 l0_2.length l0_2) (hc0_2 : l0_2.length ≤ c0_2) (hr0_3 : Kd.C k112 w A0_3 l0_3.length l0_3) (hc0_3 : l0_3.length ≤ c0_3) (h : spec_GoodHistory.f k a0_0 a0_1 l0_2 l0_3 = some r) :
  Calls Try.prog 84 #[.agg #[.int .i64 a0_0,.string a0_1,.slice A0_2 l0_2.length c0_2,.slice A0_3 l0_3.length c0_3]] w fun e w'=>e = .returned (.bool r)∧Below w.heap.size w w':=by
 have hu55:=Try.underlying55
 have hu112:=Try.underlying112
 have HR0_2:=Aside0.mk hr0_2
 have HC0_2:=Aside0.mk hc0_2
 clear hr0_2 hc0_2
 have HR0_3:=Aside0.mk hr0_3
 have HC0_3:=Aside0.mk hc0_3
 clear hr0_3 hc0_3
 have HB:=Aside0.mk (Below.refl w.heap.size w)
 have H : ((spec_l1In.f a0_0 0 60).bind fun t129=>(if t129 = true then (if (a0_1.size : Int) > 120 then (spec_GoodHistory.j0 k true a0_0 a0_1 l0_2 l0_3) else ((spec_GoodRuns.f k l0_2 (a0_1.size : Int) a0_0).bind fun t130=>(if t130 = true then (spec_GoodHistory.j0 k (decide ((l0_3.length : Int) > (wrap64 (60 - a0_0)))) a0_0 a0_1 l0_2 l0_3) else (spec_GoodHistory.j0 k true a0_0 a0_1 l0_2 l0_3)))) else (spec_GoodHistory.j0 k true a0_0 a0_1 l0_2 l0_3))) = some r:=h
 clear h
 have HC2:=Aside0.mk H
 clear H
 go_enter Try.func84,Try.ntmps84
 go_upto_region 1 with (first|((with_reducible refine gate_dst (N:=1) rfl ?_);(try (refine gate_guard (by rfl) ?_;dsimp only));refine box_event ?hg (N:=1) ?hd (cs:=#[.int .i64 a0_0,.string a0_1,.slice A0_2 l0_2.length c0_2,.slice A0_3 l0_3.length c0_3]) (t:=55) ?hr ?_;(case hd=>rfl);(case hg=>rfl);(case hr=>first|(go_simp;done)|(go_simp;rfl));intro gb128 hg w3 hbox hb;have n0_:=Aside0.mk (below_step (by repeat (first|exact HB.out|apply below_alloc|apply pw_below_drewN|apply below_drew1)) hb);have n1_:=Aside0.mk (hbox);have n2_:=Aside0.mk ((by rw [hg];exact (below_size (by repeat (first|exact HB.out|apply below_alloc|apply pw_below_drewN|apply below_drew1))) : w.heap.size ≤ gb128));have n3_:=Aside0.mk ((by rw [hg];exact (below_size (by repeat (first|exact HB.out|apply below_alloc|apply pw_below_drewN|apply below_drew1))) : w.heap.size ≤ gb128));clear HB;have HB:=n0_;have BK128:=n1_;have GW128:=n2_;have GE128:=n3_;clear n0_ n1_ n2_ n3_;clear hb hbox hg))
 (try simp only [Act.put,List.setIfInBounds_toArray,List.set_cons_zero,List.set_cons_succ])
 go_cut [35] (fun v35 wc=>∃ (kq : Nat) (x35_1 : Bool),v35 = .bool x35_1∧Aside0 (spec_GoodHistory.j0 kq x35_1 a0_0 a0_1 l0_2 l0_3 = some r)∧Aside0 (kq ≤ k)∧Aside0 (wc.heap[gb128]? = some (.cells #[.int .i64 a0_0,.string a0_1,(.slice A0_2 l0_2.length c0_2),(.slice A0_3 l0_3.length c0_3)] 55 (0,0)))∧Aside0 (Below w.heap.size w wc))
 case first =>
  have H:=HC2.out
  clear HC2
  replace H:=Option.bind_eq_some_iff.mp H
  obtain ⟨t129,A40,H⟩:=H
  replace H : (if t129 = true then (if (a0_1.size : Int) > 120 then (spec_GoodHistory.j0 k true a0_0 a0_1 l0_2 l0_3) else ((spec_GoodRuns.f k l0_2 (a0_1.size : Int) a0_0).bind fun t130=>(if t130 = true then (spec_GoodHistory.j0 k (decide ((l0_3.length : Int) > (wrap64 (60 - a0_0)))) a0_0 a0_1 l0_2 l0_3) else (spec_GoodHistory.j0 k true a0_0 a0_1 l0_2 l0_3)))) else (spec_GoodHistory.j0 k true a0_0 a0_1 l0_2 l0_3)) = some r:=H
  have A4:=Aside0.mk A40
  clear A40
  by_cases c5 : t129 = true
  ·subst c5
   have H1 : (if (a0_1.size : Int) > 120 then (spec_GoodHistory.j0 k true a0_0 a0_1 l0_2 l0_3) else ((spec_GoodRuns.f k l0_2 (a0_1.size : Int) a0_0).bind fun t130=>(if t130 = true then (spec_GoodHistory.j0 k (decide ((l0_3.length : Int) > (wrap64 (60 - a0_0)))) a0_0 a0_1 l0_2 l0_3) else (spec_GoodHistory.j0 k true a0_0 a0_1 l0_2 l0_3)))) = some r:=by rw [if_pos rfl] at H;exact H
   clear H
   have H:=H1
   clear H1
   by_cases c6 : (a0_1.size : Int) > 120
   ·rw [if_pos c6] at H
    have c6b0 : decide (120 < (a0_1.size : Int)) = true:=decide_eq_true c6
    have c6b1 : decide (120 < a0_1.size) = true:=decide_eq_true (by omega)
    clear c6
    (first|rw [c6b0]|(simp only [i64_w,i32_w];rw [c6b0])|skip)
    have H':=Aside0.mk H
    clear H
    have hcz7_0 : w3.cell? ⟨gb128,0,none⟩ = some (.int .i64 a0_0):=(blk_cell BK128.out 0).trans rfl
    have hcz7_1 : w3.cell? ⟨gb128,1,none⟩ = some (.string a0_1):=(blk_cell BK128.out 1).trans rfl
    have hcz7_2 : w3.cell? ⟨gb128,2,none⟩ = some (.slice A0_2 l0_2.length c0_2):=(blk_cell BK128.out 2).trans rfl
    have hcz7_3 : w3.cell? ⟨gb128,3,none⟩ = some (.slice A0_3 l0_3.length c0_3):=(blk_cell BK128.out 3).trans rfl
    have hfz7_0:=blk_frozen BK128.out 0
    have hfz7_1:=blk_frozen BK128.out 1
    have hfz7_2:=blk_frozen BK128.out 2
    have hfz7_3:=blk_frozen BK128.out 3
    go_wp2_with (first|((with_reducible refine gate_callee (f:=43) rfl ?_);refine goesL_ (some 8) rfl rfl Try.func43 (by kernel_rfl) rfl #[.int .i64 a0_0,.int .i64 0,.int .i64 60] rfl (by (try simp only [List.map_toArray,List.map_cons,List.map_nil]);first|done|rfl|(simp only [List.length_drop,List.length_take];rfl)) ?_;(with_reducible refine (spec_l1In.calls a0_0 0 60 true _ A4.out).mono ?_);rintro e w' ⟨rfl,⟨nd,rfl⟩⟩;refine ⟨_,rfl,?_⟩))
    go_meet
    case rel=>exact ⟨_,(true),(by first|rfl|(simp;done)|(simp [*];done)),H',⟨by first|omega|exact Nat.le_refl _⟩,⟨by (with_reducible repeat first|apply blk_drewN|apply blk_drew|apply blk_alloc);exact BK128.out⟩,⟨by repeat (first|(with_reducible first|exact HB.out|apply below_alloc|apply pw_below_drewN|apply below_drew1|refine below_set ?_ GE128.out)|exact HB.out)⟩⟩
   ·rw [if_neg c6] at H
    have c6b0 : decide (120 < (a0_1.size : Int)) = false:=decide_eq_false c6
    have c6b1 : decide (120 < a0_1.size) = false:=decide_eq_false (by omega)
    clear c6
    (first|rw [c6b0]|(simp only [i64_w,i32_w];rw [c6b0])|skip)
    replace H:=Option.bind_eq_some_iff.mp H
    obtain ⟨t130,A80,H⟩:=H
    replace H : (if t130 = true then (spec_GoodHistory.j0 k (decide ((l0_3.length : Int) > (wrap64 (60 - a0_0)))) a0_0 a0_1 l0_2 l0_3) else (spec_GoodHistory.j0 k true a0_0 a0_1 l0_2 l0_3)) = some r:=H
    have A8:=Aside0.mk A80
    clear A80
    by_cases c9 : t130 = true
    ·subst c9
     have H1 : (spec_GoodHistory.j0 k (decide ((l0_3.length : Int) > (wrap64 (60 - a0_0)))) a0_0 a0_1 l0_2 l0_3) = some r:=by rw [if_pos rfl] at H;exact H
     clear H
     have H:=H1
     clear H1
     have H':=Aside0.mk H
     clear H
     have hcz10_0 : w3.cell? ⟨gb128,0,none⟩ = some (.int .i64 a0_0):=(blk_cell BK128.out 0).trans rfl
     have hcz10_1 : w3.cell? ⟨gb128,1,none⟩ = some (.string a0_1):=(blk_cell BK128.out 1).trans rfl
     have hcz10_2 : w3.cell? ⟨gb128,2,none⟩ = some (.slice A0_2 l0_2.length c0_2):=(blk_cell BK128.out 2).trans rfl
     have hcz10_3 : w3.cell? ⟨gb128,3,none⟩ = some (.slice A0_3 l0_3.length c0_3):=(blk_cell BK128.out 3).trans rfl
     have hfz10_0:=blk_frozen BK128.out 0
     have hfz10_1:=blk_frozen BK128.out 1
     have hfz10_2:=blk_frozen BK128.out 2
     have hfz10_3:=blk_frozen BK128.out 3
     go_wp2_with (first|((with_reducible refine gate_callee (f:=43) rfl ?_);refine goesL_ (some 8) rfl rfl Try.func43 (by kernel_rfl) rfl #[.int .i64 a0_0,.int .i64 0,.int .i64 60] rfl (by (try simp only [List.map_toArray,List.map_cons,List.map_nil]);first|done|rfl|(simp only [List.length_drop,List.length_take];rfl)) ?_;(with_reducible refine (spec_l1In.calls a0_0 0 60 true _ A4.out).mono ?_);rintro e w' ⟨rfl,⟨nd,rfl⟩⟩;refine ⟨_,rfl,?_⟩)|(go_at_call 56;(with_reducible refine (spec_GoodRuns.calls k _ _ l0_2 (a0_1.size : Int) a0_0 true _ ?side1 ?side2 A8.out).mono ?_);(case side1=>repeat (first|exact (Kd.C_below HR0_2.out (by repeat (first|(with_reducible first|exact HB.out|apply below_alloc|apply pw_below_drewN|apply below_drew1|refine below_set ?_ GE128.out)|exact HB.out)))|(with_reducible first|apply Kd.C_alloc|apply Kd.C_drewN|apply Kd.C_drew)));(case side2=>exact HC0_2.out);rintro e w11 ⟨rfl,hb⟩;have n0_:=Aside0.mk (blk_below (g:=gb128) (o:=.cells #[.int .i64 a0_0,.string a0_1,.slice A0_2 l0_2.length c0_2,.slice A0_3 l0_3.length c0_3] 55 (0,0)) (by (with_reducible repeat first|apply blk_drewN|apply blk_drew|apply blk_alloc);exact BK128.out) hb);have n1_:=Aside0.mk (below_step (by repeat (first|(with_reducible first|exact HB.out|apply below_alloc|apply pw_below_drewN|apply below_drew1|refine below_set ?_ GE128.out)|exact HB.out)) hb);clear BK128;clear HB;have BK128:=n0_;have HB:=n1_;clear n0_ n1_;(try clear hb);(try clear hb2);(try clear hk);(try clear hi);have hcz12_0 : w11.cell? ⟨gb128,0,none⟩ = some (.int .i64 a0_0):=(blk_cell BK128.out 0).trans rfl;have hcz12_1 : w11.cell? ⟨gb128,1,none⟩ = some (.string a0_1):=(blk_cell BK128.out 1).trans rfl;have hcz12_2 : w11.cell? ⟨gb128,2,none⟩ = some (.slice A0_2 l0_2.length c0_2):=(blk_cell BK128.out 2).trans rfl;have hcz12_3 : w11.cell? ⟨gb128,3,none⟩ = some (.slice A0_3 l0_3.length c0_3):=(blk_cell BK128.out 3).trans rfl;have hfz12_0:=blk_frozen BK128.out 0;have hfz12_1:=blk_frozen BK128.out 1;have hfz12_2:=blk_frozen BK128.out 2;have hfz12_3:=blk_frozen BK128.out 3))
     go_meet
     case rel=>exact ⟨_,(decide ((l0_3.length : Int) > (wrap64 (60 - a0_0)))),(by first|rfl|(simp;done)|(simp [*];done)),H',⟨by first|omega|exact Nat.le_refl _⟩,⟨by (with_reducible repeat first|apply blk_drewN|apply blk_drew|apply blk_alloc);exact BK128.out⟩,⟨by repeat (first|(with_reducible first|exact HB.out|apply below_alloc|apply pw_below_drewN|apply below_drew1|refine below_set ?_ GE128.out)|exact HB.out)⟩⟩
    ·replace c9:=Bool.eq_false_iff.mpr c9
     subst c9
     have H1 : (spec_GoodHistory.j0 k true a0_0 a0_1 l0_2 l0_3) = some r:=by rw [if_neg (show ¬ (false = true) by decide)] at H;exact H
     clear H
     have H:=H1
     clear H1
     have H':=Aside0.mk H
     clear H
     have hcz13_0 : w3.cell? ⟨gb128,0,none⟩ = some (.int .i64 a0_0):=(blk_cell BK128.out 0).trans rfl
     have hcz13_1 : w3.cell? ⟨gb128,1,none⟩ = some (.string a0_1):=(blk_cell BK128.out 1).trans rfl
     have hcz13_2 : w3.cell? ⟨gb128,2,none⟩ = some (.slice A0_2 l0_2.length c0_2):=(blk_cell BK128.out 2).trans rfl
     have hcz13_3 : w3.cell? ⟨gb128,3,none⟩ = some (.slice A0_3 l0_3.length c0_3):=(blk_cell BK128.out 3).trans rfl
     have hfz13_0:=blk_frozen BK128.out 0
     have hfz13_1:=blk_frozen BK128.out 1
     have hfz13_2:=blk_frozen BK128.out 2
     have hfz13_3:=blk_frozen BK128.out 3
     go_wp2_with (first|((with_reducible refine gate_callee (f:=43) rfl ?_);refine goesL_ (some 8) rfl rfl Try.func43 (by kernel_rfl) rfl #[.int .i64 a0_0,.int .i64 0,.int .i64 60] rfl (by (try simp only [List.map_toArray,List.map_cons,List.map_nil]);first|done|rfl|(simp only [List.length_drop,List.length_take];rfl)) ?_;(with_reducible refine (spec_l1In.calls a0_0 0 60 true _ A4.out).mono ?_);rintro e w' ⟨rfl,⟨nd,rfl⟩⟩;refine ⟨_,rfl,?_⟩)|(go_at_call 56;(with_reducible refine (spec_GoodRuns.calls k _ _ l0_2 (a0_1.size : Int) a0_0 false _ ?side1 ?side2 A8.out).mono ?_);(case side1=>repeat (first|exact (Kd.C_below HR0_2.out (by repeat (first|(with_reducible first|exact HB.out|apply below_alloc|apply pw_below_drewN|apply below_drew1|refine below_set ?_ GE128.out)|exact HB.out)))|(with_reducible first|apply Kd.C_alloc|apply Kd.C_drewN|apply Kd.C_drew)));(case side2=>exact HC0_2.out);rintro e w14 ⟨rfl,hb⟩;have n0_:=Aside0.mk (blk_below (g:=gb128) (o:=.cells #[.int .i64 a0_0,.string a0_1,.slice A0_2 l0_2.length c0_2,.slice A0_3 l0_3.length c0_3] 55 (0,0)) (by (with_reducible repeat first|apply blk_drewN|apply blk_drew|apply blk_alloc);exact BK128.out) hb);have n1_:=Aside0.mk (below_step (by repeat (first|(with_reducible first|exact HB.out|apply below_alloc|apply pw_below_drewN|apply below_drew1|refine below_set ?_ GE128.out)|exact HB.out)) hb);clear BK128;clear HB;have BK128:=n0_;have HB:=n1_;clear n0_ n1_;(try clear hb);(try clear hb2);(try clear hk);(try clear hi)))
     go_meet
     case rel=>exact ⟨_,(true),(by first|rfl|(simp;done)|(simp [*];done)),H',⟨by first|omega|exact Nat.le_refl _⟩,⟨by (with_reducible repeat first|apply blk_drewN|apply blk_drew|apply blk_alloc);exact BK128.out⟩,⟨by repeat (first|(with_reducible first|exact HB.out|apply below_alloc|apply pw_below_drewN|apply below_drew1|refine below_set ?_ GE128.out)|exact HB.out)⟩⟩
  ·replace c5:=Bool.eq_false_iff.mpr c5
   subst c5
   have H1 : (spec_GoodHistory.j0 k true a0_0 a0_1 l0_2 l0_3) = some r:=by rw [if_neg (show ¬ (false = true) by decide)] at H;exact H
   clear H
   have H:=H1
   clear H1
   have H':=Aside0.mk H
   clear H
   have hcz15_0 : w3.cell? ⟨gb128,0,none⟩ = some (.int .i64 a0_0):=(blk_cell BK128.out 0).trans rfl
   have hcz15_1 : w3.cell? ⟨gb128,1,none⟩ = some (.string a0_1):=(blk_cell BK128.out 1).trans rfl
   have hcz15_2 : w3.cell? ⟨gb128,2,none⟩ = some (.slice A0_2 l0_2.length c0_2):=(blk_cell BK128.out 2).trans rfl
   have hcz15_3 : w3.cell? ⟨gb128,3,none⟩ = some (.slice A0_3 l0_3.length c0_3):=(blk_cell BK128.out 3).trans rfl
   have hfz15_0:=blk_frozen BK128.out 0
   have hfz15_1:=blk_frozen BK128.out 1
   have hfz15_2:=blk_frozen BK128.out 2
   have hfz15_3:=blk_frozen BK128.out 3
   go_wp2_with (first|((with_reducible refine gate_callee (f:=43) rfl ?_);refine goesL_ (some 8) rfl rfl Try.func43 (by kernel_rfl) rfl #[.int .i64 a0_0,.int .i64 0,.int .i64 60] rfl (by (try simp only [List.map_toArray,List.map_cons,List.map_nil]);first|done|rfl|(simp only [List.length_drop,List.length_take];rfl)) ?_;(with_reducible refine (spec_l1In.calls a0_0 0 60 false _ A4.out).mono ?_);rintro e w' ⟨rfl,⟨nd,rfl⟩⟩;refine ⟨_,rfl,?_⟩))
   go_meet
   case rel=>exact ⟨_,(true),(by first|rfl|(simp;done)|(simp [*];done)),H',⟨by first|omega|exact Nat.le_refl _⟩,⟨by (with_reducible repeat first|apply blk_drewN|apply blk_drew|apply blk_alloc);exact BK128.out⟩,⟨by repeat (first|(with_reducible first|exact HB.out|apply below_alloc|apply pw_below_drewN|apply below_drew1|refine below_set ?_ GE128.out)|exact HB.out)⟩⟩
 case rest =>
  clear HC2
  try clear p2;try clear c4;try clear c5;try clear c6;try clear c6b0;try clear c6b1;try clear p6;try clear c8;try clear c9;try clear hcz10_0;try clear hcz10_1;try clear hcz10_2;try clear hcz10_3;try clear hcz12_0;try clear hcz12_1;try clear hcz12_2;try clear hcz12_3;try clear hcz13_0;try clear hcz13_1;try clear hcz13_2;try clear hcz13_3;try clear hcz15_0;try clear hcz15_1;try clear hcz15_2;try clear hcz15_3;try clear hcz7_0;try clear hcz7_1;try clear hcz7_2;try clear hcz7_3;try clear hfz10_0;try clear hfz10_1;try clear hfz10_2;try clear hfz10_3;try clear hfz12_0;try clear hfz12_1;try clear hfz12_2;try clear hfz12_3;try clear hfz13_0;try clear hfz13_1;try clear hfz13_2;try clear hfz13_3;try clear hfz15_0;try clear hfz15_1;try clear hfz15_2;try clear hfz15_3;try clear hfz7_0;try clear hfz7_1;try clear hfz7_2;try clear hfz7_3
  obtain ⟨kq,x35_1,rfl,HA,HJ1,BK128,HB⟩:=hcut
  cases kq with
  | zero=>exact absurd HA.out (by simp [spec_GoodHistory.j0])
  | succ kj1 =>
   have H:=HA.out
   clear HA
   simp only [spec_GoodHistory.j0] at H
   by_cases c16 : x35_1 = true
   ·subst c16
    have H1 : (some false) = some r:=by rw [if_pos rfl] at H;exact H
    clear H
    have H:=H1
    clear H1
    obtain rfl:=Option.some.inj H
    go_wp2
    go_ret
    exact ⟨by first|rfl|(simp [*,errW_none,errW_some] <;> rfl),by repeat (first|(with_reducible first|exact HB.out|apply below_alloc|apply pw_below_drewN|apply below_drew1|refine below_set ?_ GE128.out)|exact HB.out)⟩
   ·replace c16:=Bool.eq_false_iff.mpr c16
    subst c16
    have H1 : (spec_GoodHistory.l0 kj1 (a0_1.size : Int) l0_3 (l0_3.length : Int) 0) = some r:=by rw [if_neg (show ¬ (false = true) by decide)] at H;exact H
    clear H
    have H:=H1
    clear H1
    have H':=Aside0.mk H
    clear H
    have hcz17_0 : wc.cell? ⟨gb128,0,none⟩ = some (.int .i64 a0_0):=(blk_cell BK128.out 0).trans rfl
    have hcz17_1 : wc.cell? ⟨gb128,1,none⟩ = some (.string a0_1):=(blk_cell BK128.out 1).trans rfl
    have hcz17_2 : wc.cell? ⟨gb128,2,none⟩ = some (.slice A0_2 l0_2.length c0_2):=(blk_cell BK128.out 2).trans rfl
    have hcz17_3 : wc.cell? ⟨gb128,3,none⟩ = some (.slice A0_3 l0_3.length c0_3):=(blk_cell BK128.out 3).trans rfl
    have hfz17_0:=blk_frozen BK128.out 0
    have hfz17_1:=blk_frozen BK128.out 1
    have hfz17_2:=blk_frozen BK128.out 2
    have hfz17_3:=blk_frozen BK128.out 3
    go_wp2
    go_loopg [3,42] kj1 (fun kq v3 v42 w'=>∃ (x3_2 : Int) (x42_2 : Int),v3 = .int .i64 x3_2∧v42 = .int .i64 x42_2∧Aside0 (spec_GoodHistory.l0 kq x3_2 l0_3 (l0_3.length : Int) x42_2 = some r)∧Aside0 (kq ≤ kj1)∧Aside0 (w'.heap[gb128]? = some (.cells #[.int .i64 a0_0,.string a0_1,(.slice A0_2 l0_2.length c0_2),(.slice A0_3 l0_3.length c0_3)] 55 (0,0)))∧Aside0 (Below w.heap.size w w'))
    case atStart=>exact ⟨((a0_1.size : Int)),(0),(by first|rfl|(simp;done)|(simp [*];done)),(by first|rfl|(simp;done)|(simp [*];done)),H',⟨Nat.le_refl _⟩,⟨by (with_reducible repeat first|apply blk_drewN|apply blk_drew|apply blk_alloc);exact BK128.out⟩,⟨by repeat (first|(with_reducible first|exact HB.out|apply below_alloc|apply pw_below_drewN|apply below_drew1|refine below_set ?_ GE128.out)|exact HB.out)⟩⟩
    case round =>
     clear H'
     try clear c1;try clear p2;try clear c4;try clear c5;try clear c6;try clear c6b0;try clear c6b1;try clear p6;try clear c8;try clear c9;try clear c16;try clear hcz10_0;try clear hcz10_1;try clear hcz10_2;try clear hcz10_3;try clear hcz12_0;try clear hcz12_1;try clear hcz12_2;try clear hcz12_3;try clear hcz13_0;try clear hcz13_1;try clear hcz13_2;try clear hcz13_3;try clear hcz15_0;try clear hcz15_1;try clear hcz15_2;try clear hcz15_3;try clear hcz17_0;try clear hcz17_1;try clear hcz17_2;try clear hcz17_3;try clear hcz7_0;try clear hcz7_1;try clear hcz7_2;try clear hcz7_3;try clear hfz10_0;try clear hfz10_1;try clear hfz10_2;try clear hfz10_3;try clear hfz12_0;try clear hfz12_1;try clear hfz12_2;try clear hfz12_3;try clear hfz13_0;try clear hfz13_1;try clear hfz13_2;try clear hfz13_3;try clear hfz15_0;try clear hfz15_1;try clear hfz15_2;try clear hfz15_3;try clear hfz17_0;try clear hfz17_1;try clear hfz17_2;try clear hfz17_3;try clear hfz7_0;try clear hfz7_1;try clear hfz7_2;try clear hfz7_3;try clear p2;try clear p6
     obtain ⟨x3_2,x42_2,rfl,rfl,HA,HK2,BK128,HB⟩:=hrel
     cases gk with
     | zero=>exact absurd HA.out (by simp [spec_GoodHistory.l0])
     | succ k2 =>
      have H:=HA.out
      clear HA
      simp only [spec_GoodHistory.l0] at H
      by_cases c18 : x42_2 < (l0_3.length : Int)
      ·rw [if_pos c18] at H
       have c18b0 : decide (x42_2 < (l0_3.length : Int)) = true:=decide_eq_true c18
       clear c18
       by_cases c19 : 0 ≤ x42_2
       ·rw [if_pos c19] at H
        have c19b0 : decide (0 ≤ x42_2) = true:=decide_eq_true c19
        clear c19
        by_cases c20 : x42_2 < (l0_3.length : Int)
        ·rw [if_pos c20] at H
         have c20b0 : decide (x42_2 < (l0_3.length : Int)) = true:=decide_eq_true c20
         clear c20
         replace H:=Option.bind_eq_some_iff.mp H
         obtain ⟨t133,A210,H⟩:=H
         replace H : (if t133 = true then ((spec_l1Source.f k2 ((rd_T112 l0_3 x42_2).f0)).bind fun t134=>(if t134 = x3_2 then ((spec_l1Target.f k2 ((rd_T112 l0_3 x42_2).f0)).bind fun t135=>(spec_GoodHistory.l0 k2 t135 l0_3 (l0_3.length : Int) (wrap64 (x42_2 + 1)))) else (some false))) else (some false)) = some r:=H
         have A21:=Aside0.mk A210
         clear A210
         by_cases c22 : t133 = true
         ·subst c22
          have H1 : ((spec_l1Source.f k2 ((rd_T112 l0_3 x42_2).f0)).bind fun t134=>(if t134 = x3_2 then ((spec_l1Target.f k2 ((rd_T112 l0_3 x42_2).f0)).bind fun t135=>(spec_GoodHistory.l0 k2 t135 l0_3 (l0_3.length : Int) (wrap64 (x42_2 + 1)))) else (some false))) = some r:=by rw [if_pos rfl] at H;exact H
          clear H
          have H:=H1
          clear H1
          replace H:=Option.bind_eq_some_iff.mp H
          obtain ⟨t134,A230,H⟩:=H
          replace H : (if t134 = x3_2 then ((spec_l1Target.f k2 ((rd_T112 l0_3 x42_2).f0)).bind fun t135=>(spec_GoodHistory.l0 k2 t135 l0_3 (l0_3.length : Int) (wrap64 (x42_2 + 1)))) else (some false)) = some r:=H
          have A23:=Aside0.mk A230
          clear A230
          by_cases c24 : t134 = x3_2
          ·rw [if_pos c24] at H
           have c24b0 : (t134 == x3_2) = true:=beq_iff_eq.mpr c24
           have c24b1 : (t134 != x3_2) = false:=bne_eq_false_iff_eq.mpr c24
           clear c24
           replace H:=Option.bind_eq_some_iff.mp H
           obtain ⟨t135,A250,H⟩:=H
           replace H : (spec_GoodHistory.l0 k2 t135 l0_3 (l0_3.length : Int) (wrap64 (x42_2 + 1))) = some r:=H
           have A25:=Aside0.mk A250
           clear A250
           have H':=Aside0.mk H
           clear H
           have p131 : 0 ≤ (x42_2 : Int):=of_decide_eq_true (by assumption)
           have q131 : x42_2 < (l0_3.length : Int):=of_decide_eq_true (by assumption)
           obtain ⟨ad131,A131_0,c131_0,e131,hx131_0,hl131_0,hi131_0⟩:=at_T112 HR0_3.out x42_2 p131 q131
           cases e131
           replace hx131_0:=(HB.out.cell (World.block_lt_of_cell? w _ hx131_0)).trans hx131_0
           have HR131_0:=Aside0.mk hi131_0
           have HC131_0:=Aside0.mk hl131_0
           clear hi131_0 hl131_0
           replace p131:=eq_true p131
           replace q131:=eq_true q131
           go_wp2_with (first|((with_reducible refine gate_dst (N:=5) rfl ?_);(try (refine gate_guard (by rfl) ?_;dsimp only));refine box_event ?hg (N:=5) ?hd (cs:=#[.slice none 0 0]) (t:=112) ?hr ?_;(case hd=>rfl);(case hg=>rfl);(case hr=>first|(go_simp;done)|(go_simp;rfl));intro gb132 hg w26 hbox hb;have n0_:=Aside0.mk (blk_below (g:=gb128) (o:=.cells #[.int .i64 a0_0,.string a0_1,.slice A0_2 l0_2.length c0_2,.slice (some ad131) l0_3.length c0_3] 55 (0,0)) (by (with_reducible repeat first|apply blk_drewN|apply blk_drew|apply blk_alloc);exact BK128.out) hb);have n1_:=Aside0.mk (below_step (by repeat (first|(with_reducible first|exact HB.out|apply below_alloc|apply pw_below_drewN|apply below_drew1|refine below_set ?_ GE128.out)|exact HB.out)) hb);have n2_:=Aside0.mk (hbox);have n3_:=Aside0.mk ((by rw [hg];exact (below_size (by repeat (first|(with_reducible first|exact HB.out|apply below_alloc|apply pw_below_drewN|apply below_drew1|refine below_set ?_ GE128.out)|exact HB.out))) : w.heap.size ≤ gb132));have n4_:=Aside0.mk ((by rw [hg];exact (below_size (by repeat (first|(with_reducible first|exact HB.out|apply below_alloc|apply pw_below_drewN|apply below_drew1|refine below_set ?_ GE128.out)|exact HB.out))) : w.heap.size ≤ gb132));have n5_:=Aside0.mk ((by rw [hg];exact Nat.ne_of_lt (blk_lt (g:=gb128) (o:=.cells #[.int .i64 a0_0,.string a0_1,.slice A0_2 l0_2.length c0_2,.slice (some ad131) l0_3.length c0_3] 55 (0,0)) (by (with_reducible repeat first|apply blk_drewN|apply blk_drew|apply blk_alloc);exact BK128.out)) : gb128 ≠ gb132));have n6_:=Aside0.mk ((by rw [hg];exact Nat.ne_of_gt (blk_lt (g:=gb128) (o:=.cells #[.int .i64 a0_0,.string a0_1,.slice A0_2 l0_2.length c0_2,.slice (some ad131) l0_3.length c0_3] 55 (0,0)) (by (with_reducible repeat first|apply blk_drewN|apply blk_drew|apply blk_alloc);exact BK128.out)) : gb132 ≠ gb128));clear BK128;clear HB;have BK128:=n0_;have HB:=n1_;have BK132:=n2_;have GW132:=n3_;have GE132:=n4_;have NB128_132:=n5_;have NB132_128:=n6_;clear n0_ n1_ n2_ n3_ n4_ n5_ n6_;clear hb hbox hg;have hnb27:=NB132_128.out;have hnc27:=NB128_132.out;have hcz28_0 : w26.cell? ⟨gb132,0,none⟩ = some (.slice none 0 0):=(blk_cell BK132.out 0).trans rfl;have hfz28_0:=blk_frozen BK132.out 0)|((with_reducible refine gate_callee (f:=55) rfl ?_);refine goesL_ (some 48) rfl rfl Try.func55 (by kernel_rfl) rfl #[.slice A131_0 ((rd_T112 l0_3 x42_2).f0).length c131_0] rfl (by (try simp only [List.map_toArray,List.map_cons,List.map_nil]);first|done|rfl|(simp only [List.length_drop,List.length_take];rfl)) ?_;(with_reducible refine (spec_GoodChange.calls k2 _ _ ((rd_T112 l0_3 x42_2).f0) true _ ?side1 ?side2 A21.out).mono ?_);(case side1=>exact Kd.C_below HR131_0.out (by repeat (first|(with_reducible first|exact HB.out|apply below_alloc|apply pw_below_drewN|apply below_drew1|refine below_set ?_ GE128.out|refine below_set ?_ GE132.out)|exact HB.out)));(case side2=>exact HC131_0.out);rintro e w29 ⟨rfl,hb⟩;refine ⟨_,rfl,?_⟩;have n0_:=Aside0.mk (blk_below (g:=gb128) (o:=.cells #[.int .i64 a0_0,.string a0_1,.slice A0_2 l0_2.length c0_2,.slice (some ad131) l0_3.length c0_3] 55 (0,0)) (by (with_reducible repeat first|apply blk_drewN|apply blk_drew|apply blk_alloc);refine blk_far ?_ NB128_132.out _;(with_reducible repeat first|apply blk_drewN|apply blk_drew|apply blk_alloc);exact BK128.out) hb);have n1_:=Aside0.mk (blk_below (g:=gb132) (o:=.cells #[.slice A131_0 ((rd_T112 l0_3 x42_2).f0).length c131_0] 112 (0,0)) (by (with_reducible repeat first|apply blk_drewN|apply blk_drew|apply blk_alloc);refine blk_put (cs:=#[.slice none 0 0]) ?_ 0 _ rfl;(with_reducible repeat first|apply blk_drewN|apply blk_drew|apply blk_alloc);exact BK132.out) hb);have n2_:=Aside0.mk (below_step (by repeat (first|(with_reducible first|exact HB.out|apply below_alloc|apply pw_below_drewN|apply below_drew1|refine below_set ?_ GE128.out|refine below_set ?_ GE132.out)|exact HB.out)) hb);clear BK128;clear BK132;clear HB;have BK128:=n0_;have BK132:=n1_;have HB:=n2_;clear n0_ n1_ n2_;(try clear hb);(try clear hb2);(try clear hk);(try clear hi);have hcz30_0 : w29.cell? ⟨gb132,0,none⟩ = some (.slice A131_0 ((rd_T112 l0_3 x42_2).f0).length c131_0):=(blk_cell BK132.out 0).trans rfl;have hfz30_0:=blk_frozen BK132.out 0)|(go_at_call 57;(with_reducible refine (spec_l1Source.calls k2 _ _ ((rd_T112 l0_3 x42_2).f0) t134 _ ?side1 ?side2 A23.out).mono ?_);(case side1=>repeat (first|exact (Kd.C_below HR131_0.out HB.out)|(with_reducible first|apply Kd.C_alloc|apply Kd.C_drewN|apply Kd.C_drew)));(case side2=>exact HC131_0.out);rintro e w31 ⟨rfl,hb⟩;have n0_:=Aside0.mk (blk_below (g:=gb128) (o:=.cells #[.int .i64 a0_0,.string a0_1,.slice A0_2 l0_2.length c0_2,.slice (some ad131) l0_3.length c0_3] 55 (0,0)) (by (with_reducible repeat first|apply blk_drewN|apply blk_drew|apply blk_alloc);exact BK128.out) hb);have n1_:=Aside0.mk (blk_below (g:=gb132) (o:=.cells #[.slice A131_0 ((rd_T112 l0_3 x42_2).f0).length c131_0] 112 (0,0)) (by (with_reducible repeat first|apply blk_drewN|apply blk_drew|apply blk_alloc);exact BK132.out) hb);have n2_:=Aside0.mk (below_step (by repeat (first|(with_reducible first|exact HB.out|apply below_alloc|apply pw_below_drewN|apply below_drew1|refine below_set ?_ GE128.out|refine below_set ?_ GE132.out)|exact HB.out)) hb);clear BK128;clear BK132;clear HB;have BK128:=n0_;have BK132:=n1_;have HB:=n2_;clear n0_ n1_ n2_;(try clear hb);(try clear hb2);(try clear hk);(try clear hi);have hcz32_0 : w31.cell? ⟨gb132,0,none⟩ = some (.slice A131_0 ((rd_T112 l0_3 x42_2).f0).length c131_0):=(blk_cell BK132.out 0).trans rfl;have hfz32_0:=blk_frozen BK132.out 0)|((with_reducible refine gate_callee (f:=101) rfl ?_);refine goesL_ (some 59) rfl rfl Try.func101 (by kernel_rfl) rfl #[.slice A131_0 ((rd_T112 l0_3 x42_2).f0).length c131_0] rfl (by (try simp only [List.map_toArray,List.map_cons,List.map_nil]);first|done|rfl|(simp only [List.length_drop,List.length_take];rfl)) ?_;(with_reducible refine (spec_l1Target.calls k2 _ _ ((rd_T112 l0_3 x42_2).f0) t135 _ ?side1 ?side2 A25.out).mono ?_);(case side1=>repeat (first|exact (Kd.C_below HR131_0.out HB.out)|(with_reducible first|apply Kd.C_alloc|apply Kd.C_drewN|apply Kd.C_drew)));(case side2=>exact HC131_0.out);rintro e w33 ⟨rfl,hb⟩;refine ⟨_,rfl,?_⟩;have n0_:=Aside0.mk (blk_below (g:=gb128) (o:=.cells #[.int .i64 a0_0,.string a0_1,.slice A0_2 l0_2.length c0_2,.slice (some ad131) l0_3.length c0_3] 55 (0,0)) (by (with_reducible repeat first|apply blk_drewN|apply blk_drew|apply blk_alloc);exact BK128.out) hb);have n1_:=Aside0.mk (blk_below (g:=gb132) (o:=.cells #[.slice A131_0 ((rd_T112 l0_3 x42_2).f0).length c131_0] 112 (0,0)) (by (with_reducible repeat first|apply blk_drewN|apply blk_drew|apply blk_alloc);exact BK132.out) hb);have n2_:=Aside0.mk (below_step (by repeat (first|(with_reducible first|exact HB.out|apply below_alloc|apply pw_below_drewN|apply below_drew1|refine below_set ?_ GE128.out|refine below_set ?_ GE132.out)|exact HB.out)) hb);clear BK128;clear BK132;clear HB;have BK128:=n0_;have BK132:=n1_;have HB:=n2_;clear n0_ n1_ n2_;(try clear hb);(try clear hb2);(try clear hk);(try clear hi)))
           go_roundg k2
           case measure=>have:=HJ1.out;have:=HK2.out;omega
           case rel=>exact ⟨(t135),(wrap64 (x42_2 + 1)),(by first|rfl|(simp;done)|(simp [*];done)),(by first|rfl|(simp;done)|(simp [*];done)),H',⟨by have:=HJ1.out;have:=HK2.out;omega⟩,⟨by (with_reducible repeat first|apply blk_drewN|apply blk_drew|apply blk_alloc);exact BK128.out⟩,⟨by repeat (first|(with_reducible first|exact HB.out|apply below_alloc|apply pw_below_drewN|apply below_drew1|refine below_set ?_ GE128.out|refine below_set ?_ GE132.out)|exact HB.out)⟩⟩
          ·rw [if_neg c24] at H
           have c24b0 : (t134 == x3_2) = false:=beq_eq_false_iff_ne.mpr c24
           have c24b1 : (t134 != x3_2) = true:=bne_iff_ne.mpr c24
           obtain rfl:=Option.some.inj H
           have p131 : 0 ≤ (x42_2 : Int):=of_decide_eq_true (by assumption)
           have q131 : x42_2 < (l0_3.length : Int):=of_decide_eq_true (by assumption)
           obtain ⟨ad131,A131_0,c131_0,e131,hx131_0,hl131_0,hi131_0⟩:=at_T112 HR0_3.out x42_2 p131 q131
           cases e131
           replace hx131_0:=(HB.out.cell (World.block_lt_of_cell? w _ hx131_0)).trans hx131_0
           have HR131_0:=Aside0.mk hi131_0
           have HC131_0:=Aside0.mk hl131_0
           clear hi131_0 hl131_0
           replace p131:=eq_true p131
           replace q131:=eq_true q131
           go_wp2_with (first|((with_reducible refine gate_dst (N:=5) rfl ?_);(try (refine gate_guard (by rfl) ?_;dsimp only));refine box_event ?hg (N:=5) ?hd (cs:=#[.slice none 0 0]) (t:=112) ?hr ?_;(case hd=>rfl);(case hg=>rfl);(case hr=>first|(go_simp;done)|(go_simp;rfl));intro gb132 hg w34 hbox hb;have n0_:=Aside0.mk (blk_below (g:=gb128) (o:=.cells #[.int .i64 a0_0,.string a0_1,.slice A0_2 l0_2.length c0_2,.slice (some ad131) l0_3.length c0_3] 55 (0,0)) (by (with_reducible repeat first|apply blk_drewN|apply blk_drew|apply blk_alloc);exact BK128.out) hb);have n1_:=Aside0.mk (below_step (by repeat (first|(with_reducible first|exact HB.out|apply below_alloc|apply pw_below_drewN|apply below_drew1|refine below_set ?_ GE128.out)|exact HB.out)) hb);have n2_:=Aside0.mk (hbox);have n3_:=Aside0.mk ((by rw [hg];exact (below_size (by repeat (first|(with_reducible first|exact HB.out|apply below_alloc|apply pw_below_drewN|apply below_drew1|refine below_set ?_ GE128.out)|exact HB.out))) : w.heap.size ≤ gb132));have n4_:=Aside0.mk ((by rw [hg];exact (below_size (by repeat (first|(with_reducible first|exact HB.out|apply below_alloc|apply pw_below_drewN|apply below_drew1|refine below_set ?_ GE128.out)|exact HB.out))) : w.heap.size ≤ gb132));have n5_:=Aside0.mk ((by rw [hg];exact Nat.ne_of_lt (blk_lt (g:=gb128) (o:=.cells #[.int .i64 a0_0,.string a0_1,.slice A0_2 l0_2.length c0_2,.slice (some ad131) l0_3.length c0_3] 55 (0,0)) (by (with_reducible repeat first|apply blk_drewN|apply blk_drew|apply blk_alloc);exact BK128.out)) : gb128 ≠ gb132));have n6_:=Aside0.mk ((by rw [hg];exact Nat.ne_of_gt (blk_lt (g:=gb128) (o:=.cells #[.int .i64 a0_0,.string a0_1,.slice A0_2 l0_2.length c0_2,.slice (some ad131) l0_3.length c0_3] 55 (0,0)) (by (with_reducible repeat first|apply blk_drewN|apply blk_drew|apply blk_alloc);exact BK128.out)) : gb132 ≠ gb128));clear BK128;clear HB;have BK128:=n0_;have HB:=n1_;have BK132:=n2_;have GW132:=n3_;have GE132:=n4_;have NB128_132:=n5_;have NB132_128:=n6_;clear n0_ n1_ n2_ n3_ n4_ n5_ n6_;clear hb hbox hg;have hnb35:=NB132_128.out;have hnc35:=NB128_132.out;have hcz36_0 : w34.cell? ⟨gb132,0,none⟩ = some (.slice none 0 0):=(blk_cell BK132.out 0).trans rfl;have hfz36_0:=blk_frozen BK132.out 0)|((with_reducible refine gate_callee (f:=55) rfl ?_);refine goesL_ (some 48) rfl rfl Try.func55 (by kernel_rfl) rfl #[.slice A131_0 ((rd_T112 l0_3 x42_2).f0).length c131_0] rfl (by (try simp only [List.map_toArray,List.map_cons,List.map_nil]);first|done|rfl|(simp only [List.length_drop,List.length_take];rfl)) ?_;(with_reducible refine (spec_GoodChange.calls k2 _ _ ((rd_T112 l0_3 x42_2).f0) true _ ?side1 ?side2 A21.out).mono ?_);(case side1=>exact Kd.C_below HR131_0.out (by repeat (first|(with_reducible first|exact HB.out|apply below_alloc|apply pw_below_drewN|apply below_drew1|refine below_set ?_ GE128.out|refine below_set ?_ GE132.out)|exact HB.out)));(case side2=>exact HC131_0.out);rintro e w37 ⟨rfl,hb⟩;refine ⟨_,rfl,?_⟩;have n0_:=Aside0.mk (blk_below (g:=gb128) (o:=.cells #[.int .i64 a0_0,.string a0_1,.slice A0_2 l0_2.length c0_2,.slice (some ad131) l0_3.length c0_3] 55 (0,0)) (by (with_reducible repeat first|apply blk_drewN|apply blk_drew|apply blk_alloc);refine blk_far ?_ NB128_132.out _;(with_reducible repeat first|apply blk_drewN|apply blk_drew|apply blk_alloc);exact BK128.out) hb);have n1_:=Aside0.mk (blk_below (g:=gb132) (o:=.cells #[.slice A131_0 ((rd_T112 l0_3 x42_2).f0).length c131_0] 112 (0,0)) (by (with_reducible repeat first|apply blk_drewN|apply blk_drew|apply blk_alloc);refine blk_put (cs:=#[.slice none 0 0]) ?_ 0 _ rfl;(with_reducible repeat first|apply blk_drewN|apply blk_drew|apply blk_alloc);exact BK132.out) hb);have n2_:=Aside0.mk (below_step (by repeat (first|(with_reducible first|exact HB.out|apply below_alloc|apply pw_below_drewN|apply below_drew1|refine below_set ?_ GE128.out|refine below_set ?_ GE132.out)|exact HB.out)) hb);clear BK128;clear BK132;clear HB;have BK128:=n0_;have BK132:=n1_;have HB:=n2_;clear n0_ n1_ n2_;(try clear hb);(try clear hb2);(try clear hk);(try clear hi);have hcz38_0 : w37.cell? ⟨gb132,0,none⟩ = some (.slice A131_0 ((rd_T112 l0_3 x42_2).f0).length c131_0):=(blk_cell BK132.out 0).trans rfl;have hfz38_0:=blk_frozen BK132.out 0)|(go_at_call 57;(with_reducible refine (spec_l1Source.calls k2 _ _ ((rd_T112 l0_3 x42_2).f0) t134 _ ?side1 ?side2 A23.out).mono ?_);(case side1=>repeat (first|exact (Kd.C_below HR131_0.out HB.out)|(with_reducible first|apply Kd.C_alloc|apply Kd.C_drewN|apply Kd.C_drew)));(case side2=>exact HC131_0.out);rintro e w39 ⟨rfl,hb⟩;have n0_:=Aside0.mk (blk_below (g:=gb128) (o:=.cells #[.int .i64 a0_0,.string a0_1,.slice A0_2 l0_2.length c0_2,.slice (some ad131) l0_3.length c0_3] 55 (0,0)) (by (with_reducible repeat first|apply blk_drewN|apply blk_drew|apply blk_alloc);exact BK128.out) hb);have n1_:=Aside0.mk (blk_below (g:=gb132) (o:=.cells #[.slice A131_0 ((rd_T112 l0_3 x42_2).f0).length c131_0] 112 (0,0)) (by (with_reducible repeat first|apply blk_drewN|apply blk_drew|apply blk_alloc);exact BK132.out) hb);have n2_:=Aside0.mk (below_step (by repeat (first|(with_reducible first|exact HB.out|apply below_alloc|apply pw_below_drewN|apply below_drew1|refine below_set ?_ GE128.out|refine below_set ?_ GE132.out)|exact HB.out)) hb);clear BK128;clear BK132;clear HB;have BK128:=n0_;have BK132:=n1_;have HB:=n2_;clear n0_ n1_ n2_;(try clear hb);(try clear hb2);(try clear hk);(try clear hi)))
           go_ret
           exact ⟨by first|rfl|(simp [*,errW_none,errW_some] <;> rfl),by repeat (first|(with_reducible first|exact HB.out|apply below_alloc|apply pw_below_drewN|apply below_drew1|refine below_set ?_ GE128.out|refine below_set ?_ GE132.out)|exact HB.out)⟩
         ·replace c22:=Bool.eq_false_iff.mpr c22
          subst c22
          have H1 : (some false) = some r:=by rw [if_neg (show ¬ (false = true) by decide)] at H;exact H
          clear H
          have H:=H1
          clear H1
          obtain rfl:=Option.some.inj H
          have p131 : 0 ≤ (x42_2 : Int):=of_decide_eq_true (by assumption)
          have q131 : x42_2 < (l0_3.length : Int):=of_decide_eq_true (by assumption)
          obtain ⟨ad131,A131_0,c131_0,e131,hx131_0,hl131_0,hi131_0⟩:=at_T112 HR0_3.out x42_2 p131 q131
          cases e131
          replace hx131_0:=(HB.out.cell (World.block_lt_of_cell? w _ hx131_0)).trans hx131_0
          have HR131_0:=Aside0.mk hi131_0
          have HC131_0:=Aside0.mk hl131_0
          clear hi131_0 hl131_0
          replace p131:=eq_true p131
          replace q131:=eq_true q131
          go_wp2_with (first|((with_reducible refine gate_dst (N:=5) rfl ?_);(try (refine gate_guard (by rfl) ?_;dsimp only));refine box_event ?hg (N:=5) ?hd (cs:=#[.slice none 0 0]) (t:=112) ?hr ?_;(case hd=>rfl);(case hg=>rfl);(case hr=>first|(go_simp;done)|(go_simp;rfl));intro gb132 hg w40 hbox hb;have n0_:=Aside0.mk (blk_below (g:=gb128) (o:=.cells #[.int .i64 a0_0,.string a0_1,.slice A0_2 l0_2.length c0_2,.slice (some ad131) l0_3.length c0_3] 55 (0,0)) (by (with_reducible repeat first|apply blk_drewN|apply blk_drew|apply blk_alloc);exact BK128.out) hb);have n1_:=Aside0.mk (below_step (by repeat (first|(with_reducible first|exact HB.out|apply below_alloc|apply pw_below_drewN|apply below_drew1|refine below_set ?_ GE128.out)|exact HB.out)) hb);have n2_:=Aside0.mk (hbox);have n3_:=Aside0.mk ((by rw [hg];exact (below_size (by repeat (first|(with_reducible first|exact HB.out|apply below_alloc|apply pw_below_drewN|apply below_drew1|refine below_set ?_ GE128.out)|exact HB.out))) : w.heap.size ≤ gb132));have n4_:=Aside0.mk ((by rw [hg];exact (below_size (by repeat (first|(with_reducible first|exact HB.out|apply below_alloc|apply pw_below_drewN|apply below_drew1|refine below_set ?_ GE128.out)|exact HB.out))) : w.heap.size ≤ gb132));have n5_:=Aside0.mk ((by rw [hg];exact Nat.ne_of_lt (blk_lt (g:=gb128) (o:=.cells #[.int .i64 a0_0,.string a0_1,.slice A0_2 l0_2.length c0_2,.slice (some ad131) l0_3.length c0_3] 55 (0,0)) (by (with_reducible repeat first|apply blk_drewN|apply blk_drew|apply blk_alloc);exact BK128.out)) : gb128 ≠ gb132));have n6_:=Aside0.mk ((by rw [hg];exact Nat.ne_of_gt (blk_lt (g:=gb128) (o:=.cells #[.int .i64 a0_0,.string a0_1,.slice A0_2 l0_2.length c0_2,.slice (some ad131) l0_3.length c0_3] 55 (0,0)) (by (with_reducible repeat first|apply blk_drewN|apply blk_drew|apply blk_alloc);exact BK128.out)) : gb132 ≠ gb128));clear BK128;clear HB;have BK128:=n0_;have HB:=n1_;have BK132:=n2_;have GW132:=n3_;have GE132:=n4_;have NB128_132:=n5_;have NB132_128:=n6_;clear n0_ n1_ n2_ n3_ n4_ n5_ n6_;clear hb hbox hg;have hnb41:=NB132_128.out;have hnc41:=NB128_132.out;have hcz42_0 : w40.cell? ⟨gb132,0,none⟩ = some (.slice none 0 0):=(blk_cell BK132.out 0).trans rfl;have hfz42_0:=blk_frozen BK132.out 0)|((with_reducible refine gate_callee (f:=55) rfl ?_);refine goesL_ (some 48) rfl rfl Try.func55 (by kernel_rfl) rfl #[.slice A131_0 ((rd_T112 l0_3 x42_2).f0).length c131_0] rfl (by (try simp only [List.map_toArray,List.map_cons,List.map_nil]);first|done|rfl|(simp only [List.length_drop,List.length_take];rfl)) ?_;(with_reducible refine (spec_GoodChange.calls k2 _ _ ((rd_T112 l0_3 x42_2).f0) false _ ?side1 ?side2 A21.out).mono ?_);(case side1=>exact Kd.C_below HR131_0.out (by repeat (first|(with_reducible first|exact HB.out|apply below_alloc|apply pw_below_drewN|apply below_drew1|refine below_set ?_ GE128.out|refine below_set ?_ GE132.out)|exact HB.out)));(case side2=>exact HC131_0.out);rintro e w43 ⟨rfl,hb⟩;refine ⟨_,rfl,?_⟩;have n0_:=Aside0.mk (blk_below (g:=gb128) (o:=.cells #[.int .i64 a0_0,.string a0_1,.slice A0_2 l0_2.length c0_2,.slice (some ad131) l0_3.length c0_3] 55 (0,0)) (by (with_reducible repeat first|apply blk_drewN|apply blk_drew|apply blk_alloc);refine blk_far ?_ NB128_132.out _;(with_reducible repeat first|apply blk_drewN|apply blk_drew|apply blk_alloc);exact BK128.out) hb);have n1_:=Aside0.mk (blk_below (g:=gb132) (o:=.cells #[.slice A131_0 ((rd_T112 l0_3 x42_2).f0).length c131_0] 112 (0,0)) (by (with_reducible repeat first|apply blk_drewN|apply blk_drew|apply blk_alloc);refine blk_put (cs:=#[.slice none 0 0]) ?_ 0 _ rfl;(with_reducible repeat first|apply blk_drewN|apply blk_drew|apply blk_alloc);exact BK132.out) hb);have n2_:=Aside0.mk (below_step (by repeat (first|(with_reducible first|exact HB.out|apply below_alloc|apply pw_below_drewN|apply below_drew1|refine below_set ?_ GE128.out|refine below_set ?_ GE132.out)|exact HB.out)) hb);clear BK128;clear BK132;clear HB;have BK128:=n0_;have BK132:=n1_;have HB:=n2_;clear n0_ n1_ n2_;(try clear hb);(try clear hb2);(try clear hk);(try clear hi)))
          go_ret
          exact ⟨by first|rfl|(simp [*,errW_none,errW_some] <;> rfl),by repeat (first|(with_reducible first|exact HB.out|apply below_alloc|apply pw_below_drewN|apply below_drew1|refine below_set ?_ GE128.out|refine below_set ?_ GE132.out)|exact HB.out)⟩
        ·rw [if_neg c20] at H
         exact absurd H (by simp)
       ·rw [if_neg c19] at H
        exact absurd H (by simp)
      ·rw [if_neg c18] at H
       have c18b0 : decide (x42_2 < (l0_3.length : Int)) = false:=decide_eq_false c18
       clear c18
       obtain rfl:=Option.some.inj H
       go_wp2
       go_ret
       exact ⟨by first|rfl|(simp [*,errW_none,errW_some] <;> rfl),by repeat (first|(with_reducible first|exact HB.out|apply below_alloc|apply pw_below_drewN|apply below_drew1|refine below_set ?_ GE128.out)|exact HB.out)⟩

/-! ### spec_l10Head: function 85 -/
def spec_l10Head.f (a0_0 : Int) (a0_1 : ByteArray) (l0_2 : List (S74)) (l0_3 : List (S112)) : Option (Int):=some (wrap64 (a0_0 + (l0_3.length : Int)))
set_option maxHeartbeats 8000000 in
set_option maxRecDepth 100000 in
theorem spec_l10Head.calls (a0_0 : Int) (a0_1 : ByteArray) (A0_2 : Option Addr) (c0_2 : Nat) (l0_2 : List (S74)) (A0_3 : Option Addr) (c0_3 : Nat) (l0_3 : List (S112)) (r : Int) (w : World) (hr0_2 : Kd.C k74 w A0_2 l0_2.length l0_2) (hc0_2 : l0_2.length ≤ c0_2) (hr0_3 : Kd.C k112 w A0_3 l0_3.length l0_3) (hc0_3 : l0_3.length ≤ c0_3) (h : spec_l10Head.f a0_0 a0_1 l0_2 l0_3 = some r) :
  Calls Try.prog 85 #[.agg #[.int .i64 a0_0,.string a0_1,.slice A0_2 l0_2.length c0_2,.slice A0_3 l0_3.length c0_3]] w fun e w'=>e = .returned (.int .i64 r)∧Below w.heap.size w w':=by
 have hu55:=Try.underlying55
 have HR0_2:=Aside0.mk hr0_2
 have HC0_2:=Aside0.mk hc0_2
 clear hr0_2 hc0_2
 have HR0_3:=Aside0.mk hr0_3
 have HC0_3:=Aside0.mk hc0_3
 clear hr0_3 hc0_3
 have HB:=Aside0.mk (Below.refl w.heap.size w)
 have H : (some (wrap64 (a0_0 + (l0_3.length : Int)))) = some r:=h
 clear h
 obtain rfl:=Option.some.inj H
 go_enter Try.func85,Try.ntmps85
 go_wp2_with (first|((with_reducible refine gate_dst (N:=1) rfl ?_);refine box_event ?hg (N:=1) ?hd (cs:=#[.int .i64 a0_0,.string a0_1,.slice A0_2 l0_2.length c0_2,.slice A0_3 l0_3.length c0_3]) (t:=55) ?hr ?_;(case hd=>rfl);(case hg=>rfl);(case hr=>first|(go_simp;done)|(go_simp;rfl));intro gb136 hg w2 hbox hb;have n0_:=Aside0.mk (below_step (by repeat (first|exact HB.out|apply below_alloc|apply pw_below_drewN|apply below_drew1)) hb);have n1_:=Aside0.mk (hbox);have n2_:=Aside0.mk ((by rw [hg];exact (below_size (by repeat (first|exact HB.out|apply below_alloc|apply pw_below_drewN|apply below_drew1))) : w.heap.size ≤ gb136));have n3_:=Aside0.mk ((by rw [hg];exact (below_size (by repeat (first|exact HB.out|apply below_alloc|apply pw_below_drewN|apply below_drew1))) : w.heap.size ≤ gb136));clear HB;have HB:=n0_;have BK136:=n1_;have GW136:=n2_;have GE136:=n3_;clear n0_ n1_ n2_ n3_;clear hb hbox hg;have hcz3_0 : w2.cell? ⟨gb136,0,none⟩ = some (.int .i64 a0_0):=(blk_cell BK136.out 0).trans rfl;have hcz3_1 : w2.cell? ⟨gb136,1,none⟩ = some (.string a0_1):=(blk_cell BK136.out 1).trans rfl;have hcz3_2 : w2.cell? ⟨gb136,2,none⟩ = some (.slice A0_2 l0_2.length c0_2):=(blk_cell BK136.out 2).trans rfl;have hcz3_3 : w2.cell? ⟨gb136,3,none⟩ = some (.slice A0_3 l0_3.length c0_3):=(blk_cell BK136.out 3).trans rfl;have hfz3_0:=blk_frozen BK136.out 0;have hfz3_1:=blk_frozen BK136.out 1;have hfz3_2:=blk_frozen BK136.out 2;have hfz3_3:=blk_frozen BK136.out 3))
 go_ret
 exact ⟨by first|rfl|(simp [*,errW_none,errW_some] <;> rfl),by repeat (first|(with_reducible first|exact HB.out|apply below_alloc|apply pw_below_drewN|apply below_drew1|refine below_set ?_ GE136.out)|exact HB.out)⟩

/-! ### spec_l10Range: function 66 -/
def spec_l10Range.f (k : Nat) (a0_0 : Int) (a0_1 : ByteArray) (l0_2 : List (S74)) (l0_3 : List (S112)) (a1 : Int) (a2 : Int) : Option (Int):=(spec_GoodHistory.f k a0_0 a0_1 l0_2 l0_3).bind fun t138=>(if t138 = true then ((spec_l1In.f a1 a0_0 a2).bind fun t139=>(if t139 = true then ((spec_l10Head.f a0_0 a0_1 l0_2 l0_3).bind fun t140=>(if a2 > t140 then (some 2) else (some 0))) else (some 2))) else (some 1))
theorem spec_l10Range.mono : ∀ a0 a1 a2 a3 a4 a5 k,LeO (spec_l10Range.f k a0 a1 a2 a3 a4 a5) (spec_l10Range.f (k + 1) a0 a1 a2 a3 a4 a5):=by
 intro a0 a1 a2 a3 a4 a5 k
 unfold spec_l10Range.f
 repeat' first
   | (with_reducible exact spec_GoodHistory.mono _ _ _ _ _)
   | (with_reducible exact LeO.refl _)
   | (with_reducible exact LeO.none _)
   | (with_reducible refine LeO.ite ?_ ?_)
   | (with_reducible refine LeO.bind ?_ (fun _=>?_))
   | exact spec_GoodHistory.mono _ _ _ _ _
   | exact LeO.none _
   | refine LeO.ite ?_ ?_
   | refine LeO.bind ?_ (fun _=>?_)
set_option maxHeartbeats 8000000 in
set_option maxRecDepth 100000 in
theorem spec_l10Range.calls (k : Nat) (a0_0 : Int) (a0_1 : ByteArray) (A0_2 : Option Addr) (c0_2 : Nat) (l0_2 : List (S74)) (A0_3 : Option Addr) (c0_3 : Nat) (l0_3 : List (S112)) (a1 : Int) (a2 : Int) (r : Int) (w : World) (hr0_2 : Kd.C k74 w A0_2 l0_2.length l0_2) (hc0_2 : l0_2.length ≤ c0_2) (hr0_3 : Kd.C k112 w A0_3 l0_3.length l0_3) (hc0_3 : l0_3.length ≤ c0_3) (h : spec_l10Range.f k a0_0 a0_1 l0_2 l0_3 a1 a2 = some r) :
  Calls Try.prog 66 #[.agg #[.int .i64 a0_0,.string a0_1,.slice A0_2 l0_2.length c0_2,.slice A0_3 l0_3.length c0_3],.int .i64 a1,.int .i64 a2] w fun e w'=>e = .returned (.int .i64 r)∧Below w.heap.size w w':=by
 have hu55:=Try.underlying55
 have HR0_2:=Aside0.mk hr0_2
 have HC0_2:=Aside0.mk hc0_2
 clear hr0_2 hc0_2
 have HR0_3:=Aside0.mk hr0_3
 have HC0_3:=Aside0.mk hc0_3
 clear hr0_3 hc0_3
 have HB:=Aside0.mk (Below.refl w.heap.size w)
 have H : ((spec_GoodHistory.f k a0_0 a0_1 l0_2 l0_3).bind fun t138=>(if t138 = true then ((spec_l1In.f a1 a0_0 a2).bind fun t139=>(if t139 = true then ((spec_l10Head.f a0_0 a0_1 l0_2 l0_3).bind fun t140=>(if a2 > t140 then (some 2) else (some 0))) else (some 2))) else (some 1))) = some r:=h
 clear h
 replace H:=Option.bind_eq_some_iff.mp H
 obtain ⟨t138,A40,H⟩:=H
 replace H : (if t138 = true then ((spec_l1In.f a1 a0_0 a2).bind fun t139=>(if t139 = true then ((spec_l10Head.f a0_0 a0_1 l0_2 l0_3).bind fun t140=>(if a2 > t140 then (some 2) else (some 0))) else (some 2))) else (some 1)) = some r:=H
 have A4:=Aside0.mk A40
 clear A40
 by_cases c5 : t138 = true
 ·subst c5
  have H1 : ((spec_l1In.f a1 a0_0 a2).bind fun t139=>(if t139 = true then ((spec_l10Head.f a0_0 a0_1 l0_2 l0_3).bind fun t140=>(if a2 > t140 then (some 2) else (some 0))) else (some 2))) = some r:=by rw [if_pos rfl] at H;exact H
  clear H
  have H:=H1
  clear H1
  replace H:=Option.bind_eq_some_iff.mp H
  obtain ⟨t139,A60,H⟩:=H
  replace H : (if t139 = true then ((spec_l10Head.f a0_0 a0_1 l0_2 l0_3).bind fun t140=>(if a2 > t140 then (some 2) else (some 0))) else (some 2)) = some r:=H
  have A6:=Aside0.mk A60
  clear A60
  by_cases c7 : t139 = true
  ·subst c7
   have H1 : ((spec_l10Head.f a0_0 a0_1 l0_2 l0_3).bind fun t140=>(if a2 > t140 then (some 2) else (some 0))) = some r:=by rw [if_pos rfl] at H;exact H
   clear H
   have H:=H1
   clear H1
   replace H:=Option.bind_eq_some_iff.mp H
   obtain ⟨t140,A80,H⟩:=H
   replace H : (if a2 > t140 then (some 2) else (some 0)) = some r:=H
   have A8:=Aside0.mk A80
   clear A80
   by_cases c9 : a2 > t140
   ·rw [if_pos c9] at H
    have c9b0 : decide (t140 < a2) = true:=decide_eq_true c9
    clear c9
    obtain rfl:=Option.some.inj H
    go_enter Try.func66,Try.ntmps66
    go_wp2_with (first|((with_reducible refine gate_dst (N:=3) rfl ?_);refine box_event ?hg (N:=3) ?hd (cs:=#[.int .i64 a0_0,.string a0_1,.slice A0_2 l0_2.length c0_2,.slice A0_3 l0_3.length c0_3]) (t:=55) ?hr ?_;(case hd=>rfl);(case hg=>rfl);(case hr=>first|(go_simp;done)|(go_simp;rfl));intro gb137 hg w10 hbox hb;have n0_:=Aside0.mk (below_step (by repeat (first|exact HB.out|apply below_alloc|apply pw_below_drewN|apply below_drew1)) hb);have n1_:=Aside0.mk (hbox);have n2_:=Aside0.mk ((by rw [hg];exact (below_size (by repeat (first|exact HB.out|apply below_alloc|apply pw_below_drewN|apply below_drew1))) : w.heap.size ≤ gb137));have n3_:=Aside0.mk ((by rw [hg];exact (below_size (by repeat (first|exact HB.out|apply below_alloc|apply pw_below_drewN|apply below_drew1))) : w.heap.size ≤ gb137));clear HB;have HB:=n0_;have BK137:=n1_;have GW137:=n2_;have GE137:=n3_;clear n0_ n1_ n2_ n3_;clear hb hbox hg;have hcz11_0 : w10.cell? ⟨gb137,0,none⟩ = some (.int .i64 a0_0):=(blk_cell BK137.out 0).trans rfl;have hcz11_1 : w10.cell? ⟨gb137,1,none⟩ = some (.string a0_1):=(blk_cell BK137.out 1).trans rfl;have hcz11_2 : w10.cell? ⟨gb137,2,none⟩ = some (.slice A0_2 l0_2.length c0_2):=(blk_cell BK137.out 2).trans rfl;have hcz11_3 : w10.cell? ⟨gb137,3,none⟩ = some (.slice A0_3 l0_3.length c0_3):=(blk_cell BK137.out 3).trans rfl;have hfz11_0:=blk_frozen BK137.out 0;have hfz11_1:=blk_frozen BK137.out 1;have hfz11_2:=blk_frozen BK137.out 2;have hfz11_3:=blk_frozen BK137.out 3)|((with_reducible refine gate_callee (f:=84) rfl ?_);refine goesL_ (some 9) rfl rfl Try.func84 (by kernel_rfl) rfl #[.agg #[.int .i64 a0_0,.string a0_1,.slice A0_2 l0_2.length c0_2,.slice A0_3 l0_3.length c0_3]] rfl (by (try simp only [List.map_toArray,List.map_cons,List.map_nil]);first|done|rfl|(simp only [List.length_drop,List.length_take];rfl)) ?_;(with_reducible refine (spec_GoodHistory.calls k a0_0 a0_1 _ _ l0_2 _ _ l0_3 true _ ?side1 ?side2 ?side3 ?side4 A4.out).mono ?_);(case side1=>repeat (first|exact (Kd.C_below HR0_2.out HB.out)|(with_reducible first|apply Kd.C_alloc|apply Kd.C_drewN|apply Kd.C_drew)));(case side2=>exact HC0_2.out);(case side3=>repeat (first|exact (Kd.C_below HR0_3.out HB.out)|(with_reducible first|apply Kd.C_alloc|apply Kd.C_drewN|apply Kd.C_drew)));(case side4=>exact HC0_3.out);rintro e w12 ⟨rfl,hb⟩;refine ⟨_,rfl,?_⟩;have n0_:=Aside0.mk (blk_below (g:=gb137) (o:=.cells #[.int .i64 a0_0,.string a0_1,.slice A0_2 l0_2.length c0_2,.slice A0_3 l0_3.length c0_3] 55 (0,0)) (by (with_reducible repeat first|apply blk_drewN|apply blk_drew|apply blk_alloc);exact BK137.out) hb);have n1_:=Aside0.mk (below_step (by repeat (first|(with_reducible first|exact HB.out|apply below_alloc|apply pw_below_drewN|apply below_drew1|refine below_set ?_ GE137.out)|exact HB.out)) hb);clear BK137;clear HB;have BK137:=n0_;have HB:=n1_;clear n0_ n1_;(try clear hb);(try clear hb2);(try clear hk);(try clear hi);have hcz13_0 : w12.cell? ⟨gb137,0,none⟩ = some (.int .i64 a0_0):=(blk_cell BK137.out 0).trans rfl;have hcz13_1 : w12.cell? ⟨gb137,1,none⟩ = some (.string a0_1):=(blk_cell BK137.out 1).trans rfl;have hcz13_2 : w12.cell? ⟨gb137,2,none⟩ = some (.slice A0_2 l0_2.length c0_2):=(blk_cell BK137.out 2).trans rfl;have hcz13_3 : w12.cell? ⟨gb137,3,none⟩ = some (.slice A0_3 l0_3.length c0_3):=(blk_cell BK137.out 3).trans rfl;have hfz13_0:=blk_frozen BK137.out 0;have hfz13_1:=blk_frozen BK137.out 1;have hfz13_2:=blk_frozen BK137.out 2;have hfz13_3:=blk_frozen BK137.out 3)|((with_reducible refine gate_callee (f:=43) rfl ?_);refine goesL_ (some 16) rfl rfl Try.func43 (by kernel_rfl) rfl #[.int .i64 a1,.int .i64 a0_0,.int .i64 a2] rfl (by (try simp only [List.map_toArray,List.map_cons,List.map_nil]);first|done|rfl|(simp only [List.length_drop,List.length_take];rfl)) ?_;(with_reducible refine (spec_l1In.calls a1 a0_0 a2 true _ A6.out).mono ?_);rintro e w' ⟨rfl,⟨nd,rfl⟩⟩;refine ⟨_,rfl,?_⟩)|(go_at_call 85;(with_reducible refine (spec_l10Head.calls a0_0 a0_1 _ _ l0_2 _ _ l0_3 t140 _ ?side1 ?side2 ?side3 ?side4 A8.out).mono ?_);(case side1=>repeat (first|exact (Kd.C_below HR0_2.out (by repeat (first|(with_reducible first|exact HB.out|apply below_alloc|apply pw_below_drewN|apply below_drew1|refine below_set ?_ GE137.out)|exact HB.out)))|(with_reducible first|apply Kd.C_alloc|apply Kd.C_drewN|apply Kd.C_drew)));(case side2=>exact HC0_2.out);(case side3=>repeat (first|exact (Kd.C_below HR0_3.out (by repeat (first|(with_reducible first|exact HB.out|apply below_alloc|apply pw_below_drewN|apply below_drew1|refine below_set ?_ GE137.out)|exact HB.out)))|(with_reducible first|apply Kd.C_alloc|apply Kd.C_drewN|apply Kd.C_drew)));(case side4=>exact HC0_3.out);rintro e w14 ⟨rfl,hb⟩;have n0_:=Aside0.mk (blk_below (g:=gb137) (o:=.cells #[.int .i64 a0_0,.string a0_1,.slice A0_2 l0_2.length c0_2,.slice A0_3 l0_3.length c0_3] 55 (0,0)) (by (with_reducible repeat first|apply blk_drewN|apply blk_drew|apply blk_alloc);exact BK137.out) hb);have n1_:=Aside0.mk (below_step (by repeat (first|(with_reducible first|exact HB.out|apply below_alloc|apply pw_below_drewN|apply below_drew1|refine below_set ?_ GE137.out)|exact HB.out)) hb);clear BK137;clear HB;have BK137:=n0_;have HB:=n1_;clear n0_ n1_;(try clear hb);(try clear hb2);(try clear hk);(try clear hi)))
    go_ret
    exact ⟨by first|rfl|(simp [*,errW_none,errW_some] <;> rfl),by repeat (first|(with_reducible first|exact HB.out|apply below_alloc|apply pw_below_drewN|apply below_drew1|refine below_set ?_ GE137.out)|exact HB.out)⟩
   ·rw [if_neg c9] at H
    have c9b0 : decide (t140 < a2) = false:=decide_eq_false c9
    clear c9
    obtain rfl:=Option.some.inj H
    go_enter Try.func66,Try.ntmps66
    go_wp2_with (first|((with_reducible refine gate_dst (N:=3) rfl ?_);refine box_event ?hg (N:=3) ?hd (cs:=#[.int .i64 a0_0,.string a0_1,.slice A0_2 l0_2.length c0_2,.slice A0_3 l0_3.length c0_3]) (t:=55) ?hr ?_;(case hd=>rfl);(case hg=>rfl);(case hr=>first|(go_simp;done)|(go_simp;rfl));intro gb137 hg w15 hbox hb;have n0_:=Aside0.mk (below_step (by repeat (first|exact HB.out|apply below_alloc|apply pw_below_drewN|apply below_drew1)) hb);have n1_:=Aside0.mk (hbox);have n2_:=Aside0.mk ((by rw [hg];exact (below_size (by repeat (first|exact HB.out|apply below_alloc|apply pw_below_drewN|apply below_drew1))) : w.heap.size ≤ gb137));have n3_:=Aside0.mk ((by rw [hg];exact (below_size (by repeat (first|exact HB.out|apply below_alloc|apply pw_below_drewN|apply below_drew1))) : w.heap.size ≤ gb137));clear HB;have HB:=n0_;have BK137:=n1_;have GW137:=n2_;have GE137:=n3_;clear n0_ n1_ n2_ n3_;clear hb hbox hg;have hcz16_0 : w15.cell? ⟨gb137,0,none⟩ = some (.int .i64 a0_0):=(blk_cell BK137.out 0).trans rfl;have hcz16_1 : w15.cell? ⟨gb137,1,none⟩ = some (.string a0_1):=(blk_cell BK137.out 1).trans rfl;have hcz16_2 : w15.cell? ⟨gb137,2,none⟩ = some (.slice A0_2 l0_2.length c0_2):=(blk_cell BK137.out 2).trans rfl;have hcz16_3 : w15.cell? ⟨gb137,3,none⟩ = some (.slice A0_3 l0_3.length c0_3):=(blk_cell BK137.out 3).trans rfl;have hfz16_0:=blk_frozen BK137.out 0;have hfz16_1:=blk_frozen BK137.out 1;have hfz16_2:=blk_frozen BK137.out 2;have hfz16_3:=blk_frozen BK137.out 3)|((with_reducible refine gate_callee (f:=84) rfl ?_);refine goesL_ (some 9) rfl rfl Try.func84 (by kernel_rfl) rfl #[.agg #[.int .i64 a0_0,.string a0_1,.slice A0_2 l0_2.length c0_2,.slice A0_3 l0_3.length c0_3]] rfl (by (try simp only [List.map_toArray,List.map_cons,List.map_nil]);first|done|rfl|(simp only [List.length_drop,List.length_take];rfl)) ?_;(with_reducible refine (spec_GoodHistory.calls k a0_0 a0_1 _ _ l0_2 _ _ l0_3 true _ ?side1 ?side2 ?side3 ?side4 A4.out).mono ?_);(case side1=>repeat (first|exact (Kd.C_below HR0_2.out HB.out)|(with_reducible first|apply Kd.C_alloc|apply Kd.C_drewN|apply Kd.C_drew)));(case side2=>exact HC0_2.out);(case side3=>repeat (first|exact (Kd.C_below HR0_3.out HB.out)|(with_reducible first|apply Kd.C_alloc|apply Kd.C_drewN|apply Kd.C_drew)));(case side4=>exact HC0_3.out);rintro e w17 ⟨rfl,hb⟩;refine ⟨_,rfl,?_⟩;have n0_:=Aside0.mk (blk_below (g:=gb137) (o:=.cells #[.int .i64 a0_0,.string a0_1,.slice A0_2 l0_2.length c0_2,.slice A0_3 l0_3.length c0_3] 55 (0,0)) (by (with_reducible repeat first|apply blk_drewN|apply blk_drew|apply blk_alloc);exact BK137.out) hb);have n1_:=Aside0.mk (below_step (by repeat (first|(with_reducible first|exact HB.out|apply below_alloc|apply pw_below_drewN|apply below_drew1|refine below_set ?_ GE137.out)|exact HB.out)) hb);clear BK137;clear HB;have BK137:=n0_;have HB:=n1_;clear n0_ n1_;(try clear hb);(try clear hb2);(try clear hk);(try clear hi);have hcz18_0 : w17.cell? ⟨gb137,0,none⟩ = some (.int .i64 a0_0):=(blk_cell BK137.out 0).trans rfl;have hcz18_1 : w17.cell? ⟨gb137,1,none⟩ = some (.string a0_1):=(blk_cell BK137.out 1).trans rfl;have hcz18_2 : w17.cell? ⟨gb137,2,none⟩ = some (.slice A0_2 l0_2.length c0_2):=(blk_cell BK137.out 2).trans rfl;have hcz18_3 : w17.cell? ⟨gb137,3,none⟩ = some (.slice A0_3 l0_3.length c0_3):=(blk_cell BK137.out 3).trans rfl;have hfz18_0:=blk_frozen BK137.out 0;have hfz18_1:=blk_frozen BK137.out 1;have hfz18_2:=blk_frozen BK137.out 2;have hfz18_3:=blk_frozen BK137.out 3)|((with_reducible refine gate_callee (f:=43) rfl ?_);refine goesL_ (some 16) rfl rfl Try.func43 (by kernel_rfl) rfl #[.int .i64 a1,.int .i64 a0_0,.int .i64 a2] rfl (by (try simp only [List.map_toArray,List.map_cons,List.map_nil]);first|done|rfl|(simp only [List.length_drop,List.length_take];rfl)) ?_;(with_reducible refine (spec_l1In.calls a1 a0_0 a2 true _ A6.out).mono ?_);rintro e w' ⟨rfl,⟨nd,rfl⟩⟩;refine ⟨_,rfl,?_⟩)|(go_at_call 85;(with_reducible refine (spec_l10Head.calls a0_0 a0_1 _ _ l0_2 _ _ l0_3 t140 _ ?side1 ?side2 ?side3 ?side4 A8.out).mono ?_);(case side1=>repeat (first|exact (Kd.C_below HR0_2.out (by repeat (first|(with_reducible first|exact HB.out|apply below_alloc|apply pw_below_drewN|apply below_drew1|refine below_set ?_ GE137.out)|exact HB.out)))|(with_reducible first|apply Kd.C_alloc|apply Kd.C_drewN|apply Kd.C_drew)));(case side2=>exact HC0_2.out);(case side3=>repeat (first|exact (Kd.C_below HR0_3.out (by repeat (first|(with_reducible first|exact HB.out|apply below_alloc|apply pw_below_drewN|apply below_drew1|refine below_set ?_ GE137.out)|exact HB.out)))|(with_reducible first|apply Kd.C_alloc|apply Kd.C_drewN|apply Kd.C_drew)));(case side4=>exact HC0_3.out);rintro e w19 ⟨rfl,hb⟩;have n0_:=Aside0.mk (blk_below (g:=gb137) (o:=.cells #[.int .i64 a0_0,.string a0_1,.slice A0_2 l0_2.length c0_2,.slice A0_3 l0_3.length c0_3] 55 (0,0)) (by (with_reducible repeat first|apply blk_drewN|apply blk_drew|apply blk_alloc);exact BK137.out) hb);have n1_:=Aside0.mk (below_step (by repeat (first|(with_reducible first|exact HB.out|apply below_alloc|apply pw_below_drewN|apply below_drew1|refine below_set ?_ GE137.out)|exact HB.out)) hb);clear BK137;clear HB;have BK137:=n0_;have HB:=n1_;clear n0_ n1_;(try clear hb);(try clear hb2);(try clear hk);(try clear hi)))
    go_ret
    exact ⟨by first|rfl|(simp [*,errW_none,errW_some] <;> rfl),by repeat (first|(with_reducible first|exact HB.out|apply below_alloc|apply pw_below_drewN|apply below_drew1|refine below_set ?_ GE137.out)|exact HB.out)⟩
  ·replace c7:=Bool.eq_false_iff.mpr c7
   subst c7
   have H1 : (some 2) = some r:=by rw [if_neg (show ¬ (false = true) by decide)] at H;exact H
   clear H
   have H:=H1
   clear H1
   obtain rfl:=Option.some.inj H
   go_enter Try.func66,Try.ntmps66
   go_wp2_with (first|((with_reducible refine gate_dst (N:=3) rfl ?_);refine box_event ?hg (N:=3) ?hd (cs:=#[.int .i64 a0_0,.string a0_1,.slice A0_2 l0_2.length c0_2,.slice A0_3 l0_3.length c0_3]) (t:=55) ?hr ?_;(case hd=>rfl);(case hg=>rfl);(case hr=>first|(go_simp;done)|(go_simp;rfl));intro gb137 hg w20 hbox hb;have n0_:=Aside0.mk (below_step (by repeat (first|exact HB.out|apply below_alloc|apply pw_below_drewN|apply below_drew1)) hb);have n1_:=Aside0.mk (hbox);have n2_:=Aside0.mk ((by rw [hg];exact (below_size (by repeat (first|exact HB.out|apply below_alloc|apply pw_below_drewN|apply below_drew1))) : w.heap.size ≤ gb137));have n3_:=Aside0.mk ((by rw [hg];exact (below_size (by repeat (first|exact HB.out|apply below_alloc|apply pw_below_drewN|apply below_drew1))) : w.heap.size ≤ gb137));clear HB;have HB:=n0_;have BK137:=n1_;have GW137:=n2_;have GE137:=n3_;clear n0_ n1_ n2_ n3_;clear hb hbox hg;have hcz21_0 : w20.cell? ⟨gb137,0,none⟩ = some (.int .i64 a0_0):=(blk_cell BK137.out 0).trans rfl;have hcz21_1 : w20.cell? ⟨gb137,1,none⟩ = some (.string a0_1):=(blk_cell BK137.out 1).trans rfl;have hcz21_2 : w20.cell? ⟨gb137,2,none⟩ = some (.slice A0_2 l0_2.length c0_2):=(blk_cell BK137.out 2).trans rfl;have hcz21_3 : w20.cell? ⟨gb137,3,none⟩ = some (.slice A0_3 l0_3.length c0_3):=(blk_cell BK137.out 3).trans rfl;have hfz21_0:=blk_frozen BK137.out 0;have hfz21_1:=blk_frozen BK137.out 1;have hfz21_2:=blk_frozen BK137.out 2;have hfz21_3:=blk_frozen BK137.out 3)|((with_reducible refine gate_callee (f:=84) rfl ?_);refine goesL_ (some 9) rfl rfl Try.func84 (by kernel_rfl) rfl #[.agg #[.int .i64 a0_0,.string a0_1,.slice A0_2 l0_2.length c0_2,.slice A0_3 l0_3.length c0_3]] rfl (by (try simp only [List.map_toArray,List.map_cons,List.map_nil]);first|done|rfl|(simp only [List.length_drop,List.length_take];rfl)) ?_;(with_reducible refine (spec_GoodHistory.calls k a0_0 a0_1 _ _ l0_2 _ _ l0_3 true _ ?side1 ?side2 ?side3 ?side4 A4.out).mono ?_);(case side1=>repeat (first|exact (Kd.C_below HR0_2.out HB.out)|(with_reducible first|apply Kd.C_alloc|apply Kd.C_drewN|apply Kd.C_drew)));(case side2=>exact HC0_2.out);(case side3=>repeat (first|exact (Kd.C_below HR0_3.out HB.out)|(with_reducible first|apply Kd.C_alloc|apply Kd.C_drewN|apply Kd.C_drew)));(case side4=>exact HC0_3.out);rintro e w22 ⟨rfl,hb⟩;refine ⟨_,rfl,?_⟩;have n0_:=Aside0.mk (blk_below (g:=gb137) (o:=.cells #[.int .i64 a0_0,.string a0_1,.slice A0_2 l0_2.length c0_2,.slice A0_3 l0_3.length c0_3] 55 (0,0)) (by (with_reducible repeat first|apply blk_drewN|apply blk_drew|apply blk_alloc);exact BK137.out) hb);have n1_:=Aside0.mk (below_step (by repeat (first|(with_reducible first|exact HB.out|apply below_alloc|apply pw_below_drewN|apply below_drew1|refine below_set ?_ GE137.out)|exact HB.out)) hb);clear BK137;clear HB;have BK137:=n0_;have HB:=n1_;clear n0_ n1_;(try clear hb);(try clear hb2);(try clear hk);(try clear hi);have hcz23_0 : w22.cell? ⟨gb137,0,none⟩ = some (.int .i64 a0_0):=(blk_cell BK137.out 0).trans rfl;have hcz23_1 : w22.cell? ⟨gb137,1,none⟩ = some (.string a0_1):=(blk_cell BK137.out 1).trans rfl;have hcz23_2 : w22.cell? ⟨gb137,2,none⟩ = some (.slice A0_2 l0_2.length c0_2):=(blk_cell BK137.out 2).trans rfl;have hcz23_3 : w22.cell? ⟨gb137,3,none⟩ = some (.slice A0_3 l0_3.length c0_3):=(blk_cell BK137.out 3).trans rfl;have hfz23_0:=blk_frozen BK137.out 0;have hfz23_1:=blk_frozen BK137.out 1;have hfz23_2:=blk_frozen BK137.out 2;have hfz23_3:=blk_frozen BK137.out 3)|((with_reducible refine gate_callee (f:=43) rfl ?_);refine goesL_ (some 16) rfl rfl Try.func43 (by kernel_rfl) rfl #[.int .i64 a1,.int .i64 a0_0,.int .i64 a2] rfl (by (try simp only [List.map_toArray,List.map_cons,List.map_nil]);first|done|rfl|(simp only [List.length_drop,List.length_take];rfl)) ?_;(with_reducible refine (spec_l1In.calls a1 a0_0 a2 false _ A6.out).mono ?_);rintro e w' ⟨rfl,⟨nd,rfl⟩⟩;refine ⟨_,rfl,?_⟩))
   go_ret
   exact ⟨by first|rfl|(simp [*,errW_none,errW_some] <;> rfl),by repeat (first|(with_reducible first|exact HB.out|apply below_alloc|apply pw_below_drewN|apply below_drew1|refine below_set ?_ GE137.out)|exact HB.out)⟩
 ·replace c5:=Bool.eq_false_iff.mpr c5
  subst c5
  have H1 : (some 1) = some r:=by rw [if_neg (show ¬ (false = true) by decide)] at H;exact H
  clear H
  have H:=H1
  clear H1
  obtain rfl:=Option.some.inj H
  go_enter Try.func66,Try.ntmps66
  go_wp2_with (first|((with_reducible refine gate_dst (N:=3) rfl ?_);refine box_event ?hg (N:=3) ?hd (cs:=#[.int .i64 a0_0,.string a0_1,.slice A0_2 l0_2.length c0_2,.slice A0_3 l0_3.length c0_3]) (t:=55) ?hr ?_;(case hd=>rfl);(case hg=>rfl);(case hr=>first|(go_simp;done)|(go_simp;rfl));intro gb137 hg w24 hbox hb;have n0_:=Aside0.mk (below_step (by repeat (first|exact HB.out|apply below_alloc|apply pw_below_drewN|apply below_drew1)) hb);have n1_:=Aside0.mk (hbox);have n2_:=Aside0.mk ((by rw [hg];exact (below_size (by repeat (first|exact HB.out|apply below_alloc|apply pw_below_drewN|apply below_drew1))) : w.heap.size ≤ gb137));have n3_:=Aside0.mk ((by rw [hg];exact (below_size (by repeat (first|exact HB.out|apply below_alloc|apply pw_below_drewN|apply below_drew1))) : w.heap.size ≤ gb137));clear HB;have HB:=n0_;have BK137:=n1_;have GW137:=n2_;have GE137:=n3_;clear n0_ n1_ n2_ n3_;clear hb hbox hg;have hcz25_0 : w24.cell? ⟨gb137,0,none⟩ = some (.int .i64 a0_0):=(blk_cell BK137.out 0).trans rfl;have hcz25_1 : w24.cell? ⟨gb137,1,none⟩ = some (.string a0_1):=(blk_cell BK137.out 1).trans rfl;have hcz25_2 : w24.cell? ⟨gb137,2,none⟩ = some (.slice A0_2 l0_2.length c0_2):=(blk_cell BK137.out 2).trans rfl;have hcz25_3 : w24.cell? ⟨gb137,3,none⟩ = some (.slice A0_3 l0_3.length c0_3):=(blk_cell BK137.out 3).trans rfl;have hfz25_0:=blk_frozen BK137.out 0;have hfz25_1:=blk_frozen BK137.out 1;have hfz25_2:=blk_frozen BK137.out 2;have hfz25_3:=blk_frozen BK137.out 3)|((with_reducible refine gate_callee (f:=84) rfl ?_);refine goesL_ (some 9) rfl rfl Try.func84 (by kernel_rfl) rfl #[.agg #[.int .i64 a0_0,.string a0_1,.slice A0_2 l0_2.length c0_2,.slice A0_3 l0_3.length c0_3]] rfl (by (try simp only [List.map_toArray,List.map_cons,List.map_nil]);first|done|rfl|(simp only [List.length_drop,List.length_take];rfl)) ?_;(with_reducible refine (spec_GoodHistory.calls k a0_0 a0_1 _ _ l0_2 _ _ l0_3 false _ ?side1 ?side2 ?side3 ?side4 A4.out).mono ?_);(case side1=>repeat (first|exact (Kd.C_below HR0_2.out HB.out)|(with_reducible first|apply Kd.C_alloc|apply Kd.C_drewN|apply Kd.C_drew)));(case side2=>exact HC0_2.out);(case side3=>repeat (first|exact (Kd.C_below HR0_3.out HB.out)|(with_reducible first|apply Kd.C_alloc|apply Kd.C_drewN|apply Kd.C_drew)));(case side4=>exact HC0_3.out);rintro e w26 ⟨rfl,hb⟩;refine ⟨_,rfl,?_⟩;have n0_:=Aside0.mk (blk_below (g:=gb137) (o:=.cells #[.int .i64 a0_0,.string a0_1,.slice A0_2 l0_2.length c0_2,.slice A0_3 l0_3.length c0_3] 55 (0,0)) (by (with_reducible repeat first|apply blk_drewN|apply blk_drew|apply blk_alloc);exact BK137.out) hb);have n1_:=Aside0.mk (below_step (by repeat (first|(with_reducible first|exact HB.out|apply below_alloc|apply pw_below_drewN|apply below_drew1|refine below_set ?_ GE137.out)|exact HB.out)) hb);clear BK137;clear HB;have BK137:=n0_;have HB:=n1_;clear n0_ n1_;(try clear hb);(try clear hb2);(try clear hk);(try clear hi)))
  go_ret
  exact ⟨by first|rfl|(simp [*,errW_none,errW_some] <;> rfl),by repeat (first|(with_reducible first|exact HB.out|apply below_alloc|apply pw_below_drewN|apply below_drew1|refine below_set ?_ GE137.out)|exact HB.out)⟩

end Go.Proofs.Ytdlicabmalljpaa.PFnExactTextAt
