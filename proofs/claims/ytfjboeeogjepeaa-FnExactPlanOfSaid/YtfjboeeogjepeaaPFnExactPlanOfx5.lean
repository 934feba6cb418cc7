-- Written by a program of this session over the print of the kit (wip/t/patch_print.py).
import Derived.Test.YtfjboeeogjepeaaPFnExactPlanOfx0
import Derived.Test.YtfjboeeogjepeaaPFnExactPlanOfx4
namespace Go.Proofs.Ytfjboeeogjepeaa.PFnExactPlanOf
open Go.RowKit Go.Proofs.YtfjboeeogjepeaaW.PrintWords Go.Proofs.YtfjboeeogjepeaaW.PrintLast Go.Proofs.YtfjboeeogjepeaaW.PrintMore
attribute [local go_sem] max2_int min2_int max_two min_two max_three min_three max_four min_four   -- for this text's walks alone
set_option linter.unusedVariables false
set_option linter.unusedSimpArgs false

/-! ### spec_l4Plan: function 54 -/
mutual
def spec_l4Plan.l0 : Nat → List (S59) → List (S59) → List (S59) → Int → Int → Option ((List (S59)))
 | 0,_,_,_,_,_=>none
 | k + 1,x0,x3,x8,x9,x10=>if x10 < x9 then (if 0 ≤ x10 then (if x10 < (x8.length : Int) then ((some (([] : List Int) : List Int)).bind fun y207=>(if y207.length + ((rd_T59 x8 x10).f1).length < 140737488355328 then (if x3.length < 4398046511104 then (spec_l4Plan.l0 k x0 (x3 ++ [(⟨wrap64 (3 + x10),(y207 ++ ((rd_T59 x8 x10).f1))⟩ : S59)]) x8 x9 (wrap64 (x10 + 1))) else (none)) else (none))) else (none)) else (none)) else ((spec_l4Header.f k x0).bind fun t216=>(if x3.length < 4398046511104 then (spec_l4Plan.l1 k (x3 ++ [(⟨2,t216⟩ : S59)]) x0 (x0.length : Int) 0) else (none)))
def spec_l4Plan.l1 : Nat → List (S59) → List (S59) → Int → Int → Option ((List (S59)))
 | 0,_,_,_,_=>none
 | k + 1,x3,x32,x33,x34=>if x34 < x33 then (if 0 ≤ x34 then (if x34 < (x32.length : Int) then ((some (([] : List Int) : List Int)).bind fun y224=>(if y224.length + ((rd_T59 x32 x34).f1).length < 140737488355328 then (if x3.length < 4398046511104 then (spec_l4Plan.l1 k (x3 ++ [(⟨(rd_T59 x32 x34).f0,(y224 ++ ((rd_T59 x32 x34).f1))⟩ : S59)]) x32 x33 (wrap64 (x34 + 1))) else (none)) else (none))) else (none)) else (none)) else (if 128 ≤ 281474976710656 then (if x3.length < 4398046511104 then (some (x3 ++ [(⟨2,(List.replicate 128 0)⟩ : S59)])) else (none)) else (none))
end
def spec_l4Plan.f (k : Nat) (l0 : List (S59)) : Option ((List (S59))):=spec_l4Plan.l0 k l0 ([] : List (S59)) l0 (l0.length : Int) 0
theorem spec_l4Plan.mono_l : ∀ k,(∀ y0 y1 y2 y3 y4,LeO (spec_l4Plan.l0 k y0 y1 y2 y3 y4) (spec_l4Plan.l0 (k + 1) y0 y1 y2 y3 y4))∧(∀ y0 y1 y2 y3,LeO (spec_l4Plan.l1 k y0 y1 y2 y3) (spec_l4Plan.l1 (k + 1) y0 y1 y2 y3))
 | 0=>⟨fun _ _ _ _ _ r h=>by simp [spec_l4Plan.l0] at h,fun _ _ _ _ r h=>by simp [spec_l4Plan.l1] at h⟩
 | k + 1=>by
  obtain ⟨ih0,ih1⟩:=spec_l4Plan.mono_l k
  refine ⟨?_,?_⟩
  ·intro y0 y1 y2 y3 y4
   unfold spec_l4Plan.l0
   repeat' first
   | (with_reducible exact ih0 _ _ _ _ _)
   | (with_reducible exact ih1 _ _ _ _)
   | (with_reducible exact spec_l4Header.mono _ _)
   | (with_reducible exact LeO.refl _)
   | (with_reducible exact LeO.none _)
   | (with_reducible refine LeO.ite ?_ ?_)
   | (with_reducible refine LeO.bind ?_ (fun _=>?_))
   | exact ih0 _ _ _ _ _
   | exact ih1 _ _ _ _
   | exact spec_l4Header.mono _ _
   | exact LeO.none _
   | refine LeO.ite ?_ ?_
   | refine LeO.bind ?_ (fun _=>?_)
  ·intro y0 y1 y2 y3
   unfold spec_l4Plan.l1
   repeat' first
   | (with_reducible exact ih0 _ _ _ _ _)
   | (with_reducible exact ih1 _ _ _ _)
   | (with_reducible exact spec_l4Header.mono _ _)
   | (with_reducible exact LeO.refl _)
   | (with_reducible exact LeO.none _)
   | (with_reducible refine LeO.ite ?_ ?_)
   | (with_reducible refine LeO.bind ?_ (fun _=>?_))
   | exact ih0 _ _ _ _ _
   | exact ih1 _ _ _ _
   | exact spec_l4Header.mono _ _
   | exact LeO.none _
   | refine LeO.ite ?_ ?_
   | refine LeO.bind ?_ (fun _=>?_)
theorem spec_l4Plan.mono : ∀ a0 k,LeO (spec_l4Plan.f k a0) (spec_l4Plan.f (k + 1) a0):=by
 intro a0 k
 obtain ⟨ih0,ih1⟩:=spec_l4Plan.mono_l k
 unfold spec_l4Plan.f
 repeat' first
   | (with_reducible exact ih0 _ _ _ _ _)
   | (with_reducible exact ih1 _ _ _ _)
   | (with_reducible exact spec_l4Header.mono _ _)
   | (with_reducible exact LeO.refl _)
   | (with_reducible exact LeO.none _)
   | (with_reducible refine LeO.ite ?_ ?_)
   | (with_reducible refine LeO.bind ?_ (fun _=>?_))
   | exact ih0 _ _ _ _ _
   | exact ih1 _ _ _ _
   | exact spec_l4Header.mono _ _
   | exact LeO.none _
   | refine LeO.ite ?_ ?_
   | refine LeO.bind ?_ (fun _=>?_)
def spec_l4Plan.T11 : Bool × List (List Nat × List Nat):=(true,[([],[]),([],[]),([1],[1]),([],[]),([],[]),([4],[4]),([3,5],[3,5]),([2,6],[2,6]),([7],[7]),([0,8,6],[0,8]),([9,9,0,1,2,3,4,5,6,7,8,9],[0,9])])
def spec_l4Plan.B11 : List Nat:=[0,0,2,0,0,16,56,126,254,511,1023]
theorem spec_l4Plan.tab11 : rtab .any (opsOf Try.f54 11) = spec_l4Plan.T11:=by kernel_rfl
theorem spec_l4Plan.bits11 : waitsOk spec_l4Plan.T11.2 spec_l4Plan.B11 = true:=by kernel_rfl
set_option maxHeartbeats 8000000 in
set_option maxRecDepth 100000 in
theorem spec_l4Plan.calls (k : Nat) (A0 : Option Addr) (c0 : Nat) (l0 : List (S59)) (r : List (S59)) (w : World) (hr0 : Kd.C k59 w A0 l0.length l0) (hc0 : l0.length ≤ c0) (h : spec_l4Plan.f k l0 = some r) :
  Calls Try.prog 54 #[.slice A0 l0.length c0] w fun e w'=>∃ v0_ : Value,e = .returned (v0_)∧Kd.S k59 59 w' w.heap.size (fun _=>True) v0_ r∧Below w.heap.size w w':=by
 have hu59:=Try.underlying59
 have HR0:=Aside0.mk hr0
 have HC0:=Aside0.mk hc0
 clear hr0 hc0
 have HB:=Aside0.mk (Below.refl w.heap.size w)
 have H : (spec_l4Plan.l0 k l0 ([] : List (S59)) l0 (l0.length : Int) 0) = some r:=h
 clear h
 have H':=Aside0.mk H
 clear H
 go_enter Try.func54,Try.ntmps54
 go_wp2
 go_loopg [3,10] k (fun kq v3 v10 w'=>∃ (x3_1 : List (S59)) (x10_1 : Int),v10 = .int .i64 x10_1∧Aside0 (spec_l4Plan.l0 kq l0 x3_1 l0 (l0.length : Int) x10_1 = some r)∧Aside0 (kq ≤ k)∧Aside0 (Kd.S k59 59 w' w.heap.size (fun _=>True) v3 x3_1)∧Aside0 (Below w.heap.size w w'))
 case atStart=>exact ⟨(([] : List (S59))),(0),(by first|rfl|(simp;done)|(simp [*];done)),H',⟨Nat.le_refl _⟩,⟨by first|exact Kd.S_nil _ _ _ _ _|exact Kd.N_nil _ _ _ _ _|exact Kd.V_nil _ _ _ _ _|exact Kd.Q_nil _ _ _ _ _|exact Kd.R_nil _ _ _ _ _⟩,⟨by repeat (first|exact HB.out|apply below_alloc|apply pw_below_drewN|apply below_drew1)⟩⟩
 case round =>
  clear H'
  obtain ⟨x3_1,x10_1,rfl,HA,HK1,HO_3,HB⟩:=hrel
  cases gk with
  | zero=>exact absurd HA.out (by simp [spec_l4Plan.l0])
  | succ k1 =>
   have H:=HA.out
   clear HA
   simp only [spec_l4Plan.l0] at H
   by_cases c2 : x10_1 < (l0.length : Int)
   ·rw [if_pos c2] at H
    have c2b0 : decide (x10_1 < (l0.length : Int)) = true:=decide_eq_true c2
    clear c2
    by_cases c3 : 0 ≤ x10_1
    ·rw [if_pos c3] at H
     have c3b0 : decide (0 ≤ x10_1) = true:=decide_eq_true c3
     clear c3
     by_cases c4 : x10_1 < (l0.length : Int)
     ·rw [if_pos c4] at H
      have c4b0 : decide (x10_1 < (l0.length : Int)) = true:=decide_eq_true c4
      clear c4
      obtain ⟨y207,hy207⟩ : ∃ y_ : List Int,y_ = (([] : List Int)):=⟨_,rfl⟩
      replace H : (if y207.length + ((rd_T59 l0 x10_1).f1).length < 140737488355328 then (if x3_1.length < 4398046511104 then (spec_l4Plan.l0 k1 l0 (x3_1 ++ [(⟨wrap64 (3 + x10_1),(y207 ++ ((rd_T59 l0 x10_1).f1))⟩ : S59)]) l0 (l0.length : Int) (wrap64 (x10_1 + 1))) else (none)) else (none)) = some r:=by first|(rw [hy207];with_reducible exact H)|(have H2_:=(Option.bind_some _ _).symm.trans H;rw [hy207];with_reducible exact H2_)|(have H2_:=(Option.bind_some _ _).symm.trans H;with_reducible exact H2_)|with_reducible exact H|(rw [hy207];exact H)|exact H
      have Ny207:=Aside0.mk hy207
      clear hy207
      by_cases c5 : y207.length + ((rd_T59 l0 x10_1).f1).length < 140737488355328
      ·rw [if_pos c5] at H
       have LMc5:=Aside0.mk c5
       clear c5
       obtain ⟨y210,hy210⟩ : ∃ y_ : List Int,y_ = (y207 ++ ((rd_T59 l0 x10_1).f1)):=⟨_,rfl⟩
       replace H : (if x3_1.length < 4398046511104 then (spec_l4Plan.l0 k1 l0 (x3_1 ++ [(⟨wrap64 (3 + x10_1),y210⟩ : S59)]) l0 (l0.length : Int) (wrap64 (x10_1 + 1))) else (none)) = some r:=by first|(rw [hy210];with_reducible exact H)|(have H2_:=(Option.bind_some _ _).symm.trans H;rw [hy210];with_reducible exact H2_)|(have H2_:=(Option.bind_some _ _).symm.trans H;with_reducible exact H2_)|with_reducible exact H|(rw [hy210];exact H)|exact H
       have Ny210:=Aside0.mk hy210
       clear hy210
       by_cases c6 : x3_1.length < 4398046511104
       ·rw [if_pos c6] at H
        have LMc6:=Aside0.mk c6
        clear c6
        obtain ⟨y213,hy213⟩ : ∃ y_ : List (S59),y_ = (x3_1 ++ [(⟨wrap64 (3 + x10_1),y210⟩ : S59)]):=⟨_,rfl⟩
        replace H : (spec_l4Plan.l0 k1 l0 y213 l0 (l0.length : Int) (wrap64 (x10_1 + 1))) = some r:=by first|(rw [hy213];with_reducible exact H)|(have H2_:=(Option.bind_some _ _).symm.trans H;rw [hy213];with_reducible exact H2_)|(have H2_:=(Option.bind_some _ _).symm.trans H;with_reducible exact H2_)|with_reducible exact H|(rw [hy213];exact H)|exact H
        have Ny213:=Aside0.mk hy213
        clear hy213
        have H':=Aside0.mk H
        clear H
        have p205 : 0 ≤ (x10_1 : Int):=of_decide_eq_true (by assumption)
        have q205 : x10_1 < (l0.length : Int):=of_decide_eq_true (by assumption)
        obtain ⟨ad205,A205_1,c205_1,e205,hx205_0,hx205_1,hl205_1,hi205_1⟩:=at_T59 HR0.out x10_1 p205 q205
        cases e205
        (try replace hx205_0:=(HB.out.cell (World.block_lt_of_cell? w _ hx205_0)).trans hx205_0)
        (try replace hx205_1:=(HB.out.cell (World.block_lt_of_cell? w _ hx205_1)).trans hx205_1)
        have HR205_1:=Aside0.mk hi205_1
        have HC205_1:=Aside0.mk hl205_1
        clear hi205_1 hl205_1
        replace p205:=eq_true p205
        replace q205:=eq_true q205
        go_wp2_with (first|((with_reducible refine gate_dst (N:=5) rfl ?_);refine box_event ?hg (N:=5) ?hd (cs:=#[.int .i64 0,.slice none 0 0]) (t:=59) ?hr ?_;(case hd=>rfl);(case hg=>rfl);(case hr=>first|(go_simp;done)|(go_simp;rfl));intro gb206 hg w7 hbox hb;have n0_:=Aside0.mk (Kd.S_below (Kd.S_elderB (by (with_reducible repeat (first|apply Kd.S_alloc|apply Kd.S_drewN|apply Kd.S_drew));exact HO_3.out) gb206 (Nat.le_of_eq hg.symm)) hb);have n1_:=Aside0.mk (below_step (by repeat (first|exact HB.out|apply below_alloc|apply pw_below_drewN|apply below_drew1)) hb);have n2_:=Aside0.mk (hbox);have n3_:=Aside0.mk ((by rw [hg];exact (below_size (by repeat (first|exact HB.out|apply below_alloc|apply pw_below_drewN|apply below_drew1))) : w.heap.size ≤ gb206));have n4_:=Aside0.mk ((by rw [hg];exact (below_size (by repeat (first|exact HB.out|apply below_alloc|apply pw_below_drewN|apply below_drew1))) : w.heap.size ≤ gb206));clear HO_3;clear HB;have HO_3:=n0_;have HB:=n1_;have BK206:=n2_;have GW206:=n3_;have GE206:=n4_;clear n0_ n1_ n2_ n3_ n4_;clear hb hbox hg;have hcz8_0 : w7.cell? ⟨gb206,0,none⟩ = some (.int .i64 0):=(blk_cell BK206.out 0).trans rfl;have hcz8_1 : w7.cell? ⟨gb206,1,none⟩ = some (.slice none 0 0):=(blk_cell BK206.out 1).trans rfl;have hfz8_0:=blk_frozen BK206.out 0;have hfz8_1:=blk_frozen BK206.out 1)|((with_reducible refine gate_dst (N:=18) rfl ?_);refine Kd.R_lit (Kd.int .u8) _ 5 ?hg (N:=18) ?hd (xs:=([] : List Int)) (inner:=[]) (ok:=fun _=>True) (okp:=fun _=>True) ?hr ?hp (fun _ hk=>hk) trivial (Below.refl _ _) (Nat.le_refl _) (by simp) ?_;(case hd=>rfl);(case hg=>rfl);(case hr=>first|(go_simp;done)|(go_simp;rfl));(case hp=>exact (Reps.none _ _));intro v208 w9 ho10 hb hg_ hnew_;clear hg_ hnew_;(first|rw [← Ny207.out] at ho10|(simp only [Int.reduceToNat] at ho10;rw [← Ny207.out] at ho10));have n0_:=Aside0.mk (Kd.S_elder' (by (with_reducible repeat (first|apply Kd.S_alloc|apply Kd.S_drewN|apply Kd.S_drew));exact (Kd.S_mono (Kd.S_far (p:=⟨gb206,1,none⟩) (Kd.S_far (p:=⟨gb206,0,none⟩) (Kd.S_mono HO_3.out (fun k_ hk=>(⟨hk,hk.2⟩ : _∧k_ ≠ gb206))) (fun _ hk=>hk.2) (.int .i64 ((rd_T59 l0 x10_1).f0))) (fun _ hk=>hk.2) (.slice A205_1 ((rd_T59 l0 x10_1).f1).length c205_1)) (fun _ h_=>h_.1))) (Kd.R_base ho10) hb);have n1_:=Aside0.mk (Kd.R_lower ho10 (below_size (by repeat (first|(with_reducible first|exact HB.out|apply below_alloc|apply pw_below_drewN|apply below_drew1|refine below_set ?_ GE206.out)|exact HB.out))));have n2_:=Aside0.mk (blk_below (g:=gb206) (o:=.cells #[.int .i64 ((rd_T59 l0 x10_1).f0),.slice A205_1 ((rd_T59 l0 x10_1).f1).length c205_1] 59 (0,0)) (by (with_reducible repeat first|apply blk_drewN|apply blk_drew|apply blk_alloc);refine blk_put (cs:=#[.int .i64 ((rd_T59 l0 x10_1).f0),.slice none 0 0]) ?_ 1 _ rfl;(with_reducible repeat first|apply blk_drewN|apply blk_drew|apply blk_alloc);refine blk_put (cs:=#[.int .i64 0,.slice none 0 0]) ?_ 0 _ rfl;(with_reducible repeat first|apply blk_drewN|apply blk_drew|apply blk_alloc);exact BK206.out) hb);have n3_:=Aside0.mk (below_step (by repeat (first|(with_reducible first|exact HB.out|apply below_alloc|apply pw_below_drewN|apply below_drew1|refine below_set ?_ GE206.out)|exact HB.out)) hb);clear HO_3;clear BK206;clear HB;have HO_3:=n0_;have HO209:=n1_;have BK206:=n2_;have HB:=n3_;clear n0_ n1_ n2_ n3_;clear hb ho10;have hcz11_0 : w9.cell? ⟨gb206,0,none⟩ = some (.int .i64 ((rd_T59 l0 x10_1).f0)):=(blk_cell BK206.out 0).trans rfl;have hcz11_1 : w9.cell? ⟨gb206,1,none⟩ = some (.slice A205_1 ((rd_T59 l0 x10_1).f1).length c205_1):=(blk_cell BK206.out 1).trans rfl;have hfz11_0:=blk_frozen BK206.out 0;have hfz11_1:=blk_frozen BK206.out 1)|((with_reducible refine gate_builtin (b:=.append) (xs:=#[.tmp 18,.tmp 20]) rfl ?_);at_builtin;refine Kd.R_append_rows (Kd.int .u8) (w0:=w) w.heap.size rfl (.tmp 18) (.tmp 20) 24 5 (.int .u8 0) 1 rfl Try.underlying24 info5 rfl (by decide) (by omega) v208 y207 ((rd_T59 l0 x10_1).f1) _ _ _ (fun _=>True) (fun _=>False) rfl rfl ?aO ?aR (fun _ _ h=>h) (fun _ h=>h.elim) ?aF ?aB ?aS ?aL ?_;(case aR=>repeat (first|exact (Kd.C_below HR205_1.out HB.out)|(with_reducible first|apply Kd.C_alloc|apply Kd.C_drewN|apply Kd.C_drew)));(case aB=>exact (by repeat (first|(with_reducible first|exact HB.out|apply below_alloc|apply pw_below_drewN|apply below_drew1|refine below_set ?_ GE206.out)|exact HB.out)));(case aF=>exact (fun _ _=>trivial));(case aO=>exact (by (with_reducible repeat (first|apply Kd.R_alloc|apply Kd.R_drewN|apply Kd.R_drew));exact HO209.out));(case aS=>exact (below_size (by repeat (first|(with_reducible first|exact HB.out|apply below_alloc|apply pw_below_drewN|apply below_drew1|refine below_set ?_ GE206.out)|exact HB.out))));(case aL=>have:=LMc5.out;omega);intro v211 w12 ho hb hg hat;rw [← Ny210.out] at ho;have n0_:=Aside0.mk (Kd.S_after (ok:=(fun k_=>k_ ≠ gb206)) (by (with_reducible repeat (first|apply Kd.S_alloc|apply Kd.S_drewN|apply Kd.S_drew));exact Kd.S_mono HO_3.out (fun _ hk=>⟨hk.1.2,hk.2⟩)) hg hat);have n1_:=Aside0.mk (blk_grown (g:=gb206) (o:=.cells #[.int .i64 ((rd_T59 l0 x10_1).f0),.slice A205_1 ((rd_T59 l0 x10_1).f1).length c205_1] 59 (0,0)) (by (with_reducible repeat first|apply blk_drewN|apply blk_drew|apply blk_alloc);exact BK206.out) hg (Kd.R_ne HO209.out BK206.out (by decide)));have n2_:=Aside0.mk (hb);have n3_:=Aside0.mk (ho);clear HO_3;clear BK206;clear HB;clear HO209;have HO_3:=n0_;have BK206:=n1_;have HB:=n2_;have HO212:=n3_;clear n0_ n1_ n2_ n3_;clear ho hb hg hat;obtain ⟨Ao13,co13,eo13⟩:=Kd.R_slice HO212.out;subst eo13)|((with_reducible refine gate_builtin (b:=.append) (xs:=#[.tmp 15,.tmp 23]) rfl ?_);at_builtin;refine Kd.S_append k59 (w0:=w) w.heap.size rfl (.tmp 15) (.tmp 23) 27 59 (.agg #[(.int .i64 0),(.slice none 0 0)]) 32 rfl Try.underlying27 info59 rfl (by decide) (by omega) u3 x3_1 (⟨wrap64 (3 + x10_1),y210⟩ : S59) [.int .i64 (wrap64 (3 + x10_1)),.slice Ao13 y210.length co13] (fun k_=>k_ ≠ gb206) (fun k_=>some k_ = (.slice Ao13 y210.length co13 : Value).ownBlock) rfl rfl ?aP (fun k_ hk_=>((Kd.R_mono (ok':=fun k_=>((fun k_=>k_ ≠ gb206)) k_∧some k_ ≠ (u3 : Value).ownBlock) (Kd.R_types (Kd.R_apart' (HO212.out) (Kd.S_typed HO_3.out) (by decide)) BK206.out (by decide)) (fun k_ hk=>⟨hk.2,hk.1.2⟩))).1 k_ hk_.symm) ?aF ?aO ?aB ?aS ?aL ?_;(case aP=>exact k59_mkM _ _ _ (⟨wrap64 (3 + x10_1),y210⟩ : S59) (Kd.R_mono (Kd.R_tight rfl (Kd.R_mono (ok':=fun k_=>((fun k_=>k_ ≠ gb206)) k_∧some k_ ≠ (u3 : Value).ownBlock) (Kd.R_types (Kd.R_apart' (HO212.out) (Kd.S_typed HO_3.out) (by decide)) BK206.out (by decide)) (fun k_ hk=>⟨hk.2,hk.1.2⟩))) (fun _ h_=>h_)));(case aB=>exact (by repeat (first|(with_reducible first|exact HB.out|apply below_alloc|apply pw_below_drewN|apply below_drew1|refine below_set ?_ GE206.out)|exact HB.out)));(case aF=>exact (fun k_ hk=>Kd.freshB (g:=gb206) (o:=.cells #[.int .i64 ((rd_T59 l0 x10_1).f0),.slice A205_1 ((rd_T59 l0 x10_1).f1).length c205_1] 59 (0,0)) (by (with_reducible repeat first|apply blk_drewN|apply blk_drew|apply blk_alloc);exact BK206.out) k_ hk));(case aO=>exact (by (with_reducible repeat (first|apply Kd.S_alloc|apply Kd.S_drewN|apply Kd.S_drew));exact Kd.S_mono HO_3.out (fun k_ hk=>⟨hk.1,fun e_=>hk.2 e_⟩)));(case aS=>exact (below_size (by repeat (first|(with_reducible first|exact HB.out|apply below_alloc|apply pw_below_drewN|apply below_drew1|refine below_set ?_ GE206.out)|exact HB.out))));(case aL=>have:=LMc6.out;omega);intro v214 w14 ho hb hg hat;rw [← Ny213.out] at ho;have n0_:=Aside0.mk (blk_grown (g:=gb206) (o:=.cells #[.int .i64 ((rd_T59 l0 x10_1).f0),.slice A205_1 ((rd_T59 l0 x10_1).f1).length c205_1] 59 (0,0)) (by (with_reducible repeat first|apply blk_drewN|apply blk_drew|apply blk_alloc);exact BK206.out) hg (Kd.S_away HO_3.out (fun _ hk=>hk.1)));have n1_:=Aside0.mk (hb);have n2_:=Aside0.mk (ho);clear BK206;clear HB;clear HO_3;clear HO212;have BK206:=n0_;have HB:=n1_;have HO215:=n2_;clear n0_ n1_ n2_;clear ho hb hg hat))
        go_roundg k1
        case measure=>have:=HK1.out;omega
        case rel=>exact ⟨(y213),(wrap64 (x10_1 + 1)),(by first|rfl|(simp;done)|(simp [*];done)),H',⟨by have:=HK1.out;omega⟩,⟨by (with_reducible repeat (first|apply Kd.S_alloc|apply Kd.S_drewN|apply Kd.S_drew));exact Kd.S_mono HO215.out (fun _ hk=>trivial)⟩,⟨by repeat (first|(with_reducible first|exact HB.out|apply below_alloc|apply pw_below_drewN|apply below_drew1|refine below_set ?_ GE206.out)|exact HB.out)⟩⟩
       ·rw [if_neg c6] at H
        exact absurd H (by simp)
      ·rw [if_neg c5] at H
       exact absurd H (by simp)
     ·rw [if_neg c4] at H
      exact absurd H (by simp)
    ·rw [if_neg c3] at H
     exact absurd H (by simp)
   ·rw [if_neg c2] at H
    have c2b0 : decide (x10_1 < (l0.length : Int)) = false:=decide_eq_false c2
    clear c2
    replace H:=Option.bind_eq_some_iff.mp H
    obtain ⟨t216,A150,H⟩:=H
    replace H : (if x3_1.length < 4398046511104 then (spec_l4Plan.l1 k1 (x3_1 ++ [(⟨2,t216⟩ : S59)]) l0 (l0.length : Int) 0) else (none)) = some r:=H
    have A15:=Aside0.mk A150
    clear A150
    by_cases c16 : x3_1.length < 4398046511104
    ·rw [if_pos c16] at H
     have LMc16:=Aside0.mk c16
     clear c16
     obtain ⟨y219,hy219⟩ : ∃ y_ : List (S59),y_ = (x3_1 ++ [(⟨2,t216⟩ : S59)]):=⟨_,rfl⟩
     replace H : (spec_l4Plan.l1 k1 y219 l0 (l0.length : Int) 0) = some r:=by first|(rw [hy219];with_reducible exact H)|(have H2_:=(Option.bind_some _ _).symm.trans H;rw [hy219];with_reducible exact H2_)|(have H2_:=(Option.bind_some _ _).symm.trans H;with_reducible exact H2_)|with_reducible exact H|(rw [hy219];exact H)|exact H
     have Ny219:=Aside0.mk hy219
     clear hy219
     have H':=Aside0.mk H
     clear H
     go_wp2_with (first|((with_reducible refine gate_callee (f:=41) rfl ?_);refine goesL_ (some 28) rfl rfl Try.func41 (by kernel_rfl) rfl #[.slice A0 l0.length c0] rfl (by (try simp only [List.map_toArray,List.map_cons,List.map_nil]);first|done|rfl|(simp only [List.length_drop,List.length_take];rfl)) ?_;(with_reducible refine (spec_l4Header.calls k1 _ _ l0 t216 _ ?side1 ?side2 A15.out).mono ?_);(case side1=>repeat (first|exact (Kd.C_below HR0.out HB.out)|(with_reducible first|apply Kd.C_alloc|apply Kd.C_drewN|apply Kd.C_drew)));(case side2=>exact HC0.out);rintro e w17 ⟨v217,rfl,ho0,hb⟩;refine ⟨_,rfl,?_⟩;have n0_:=Aside0.mk (Kd.S_elder' (by (with_reducible repeat (first|apply Kd.S_alloc|apply Kd.S_drewN|apply Kd.S_drew));exact HO_3.out) (Kd.R_base ho0) hb);have n1_:=Aside0.mk (Kd.R_lower ho0 (below_size (by repeat (first|exact HB.out|apply below_alloc|apply pw_below_drewN|apply below_drew1))));have n2_:=Aside0.mk (below_step (by repeat (first|exact HB.out|apply below_alloc|apply pw_below_drewN|apply below_drew1)) hb);clear HO_3;clear HB;have HO_3:=n0_;have HO218:=n1_;have HB:=n2_;clear n0_ n1_ n2_;(try clear hb);(try clear hb2);(try clear hk);(try clear hi);(try clear ho0);obtain ⟨Ao18,co18,eo18⟩:=Kd.R_slice HO218.out;subst eo18)|((with_reducible refine gate_builtin (b:=.append) (xs:=#[.tmp 26,.tmp 30]) rfl ?_);at_builtin;refine Kd.S_append k59 (w0:=w) w.heap.size rfl (.tmp 26) (.tmp 30) 27 59 (.agg #[(.int .i64 0),(.slice none 0 0)]) 32 rfl Try.underlying27 info59 rfl (by decide) (by omega) u3 x3_1 (⟨2,t216⟩ : S59) [.int .i64 2,.slice Ao18 t216.length co18] (fun _=>True) (fun k_=>some k_ = (.slice Ao18 t216.length co18 : Value).ownBlock) rfl rfl ?aP (fun k_ hk_=>((Kd.R_mono (ok':=fun k_=>((fun _=>True)) k_∧some k_ ≠ (u3 : Value).ownBlock) (Kd.R_apart' (HO218.out) (Kd.S_typed HO_3.out) (by decide)) (fun k_ hk=>⟨trivial,hk.2⟩))).1 k_ hk_.symm) ?aF ?aO ?aB ?aS ?aL ?_;(case aP=>exact k59_mkM _ _ _ (⟨2,t216⟩ : S59) (Kd.R_mono (Kd.R_tight rfl (Kd.R_mono (ok':=fun k_=>((fun _=>True)) k_∧some k_ ≠ (u3 : Value).ownBlock) (Kd.R_apart' (HO218.out) (Kd.S_typed HO_3.out) (by decide)) (fun k_ hk=>⟨trivial,hk.2⟩))) (fun _ h_=>h_)));(case aB=>exact (by repeat (first|exact HB.out|apply below_alloc|apply pw_below_drewN|apply below_drew1)));(case aF=>exact (fun _ _=>trivial));(case aO=>exact (by (with_reducible repeat (first|apply Kd.S_alloc|apply Kd.S_drewN|apply Kd.S_drew));exact Kd.S_mono HO_3.out (fun k_ hk=>⟨trivial,fun e_=>hk.2 e_⟩)));(case aS=>exact (below_size (by repeat (first|exact HB.out|apply below_alloc|apply pw_below_drewN|apply below_drew1))));(case aL=>have:=LMc16.out;omega);intro v220 w19 ho hb hg hat;rw [← Ny219.out] at ho;have n0_:=Aside0.mk (hb);have n1_:=Aside0.mk (ho);clear HB;clear HO_3;clear HO218;have HB:=n0_;have HO221:=n1_;clear n0_ n1_;clear ho hb hg hat))
     go_loopg [3,34] k1 (fun kq v3 v34 w'=>∃ (x3_2 : List (S59)) (x34_2 : Int),v34 = .int .i64 x34_2∧Aside0 (spec_l4Plan.l1 kq x3_2 l0 (l0.length : Int) x34_2 = some r)∧Aside0 (kq ≤ k1)∧Aside0 (Kd.S k59 59 w' w.heap.size (fun _=>True) v3 x3_2)∧Aside0 (Below w.heap.size w w'))
     case atStart=>exact ⟨(y219),(0),(by first|rfl|(simp;done)|(simp [*];done)),H',⟨Nat.le_refl _⟩,⟨by (with_reducible repeat (first|apply Kd.S_alloc|apply Kd.S_drewN|apply Kd.S_drew));exact HO221.out⟩,⟨by repeat (first|exact HB.out|apply below_alloc|apply pw_below_drewN|apply below_drew1)⟩⟩
     case round =>
      clear H'
      try clear c1;try clear c2;try clear c2b0;try clear p2;try clear q2;try clear hx2;try clear c3;try clear c3b0;try clear c4;try clear c4b0;try clear c5;try clear c6;try clear p6;try clear c16;try clear hcz11_0;try clear hcz11_1;try clear hcz8_0;try clear hcz8_1;try clear hfz11_0;try clear hfz11_1;try clear hfz8_0;try clear hfz8_1;try clear hx205_0;try clear hx205_1;try clear p205;try clear q205
      obtain ⟨x3_2,x34_2,rfl,HA,HK2,HO_3,HB⟩:=hrel
      cases gk with
      | zero=>exact absurd HA.out (by simp [spec_l4Plan.l1])
      | succ k2 =>
       have H:=HA.out
       clear HA
       simp only [spec_l4Plan.l1] at H
       by_cases c20 : x34_2 < (l0.length : Int)
       ·rw [if_pos c20] at H
        have c20b0 : decide (x34_2 < (l0.length : Int)) = true:=decide_eq_true c20
        clear c20
        by_cases c21 : 0 ≤ x34_2
        ·rw [if_pos c21] at H
         have c21b0 : decide (0 ≤ x34_2) = true:=decide_eq_true c21
         clear c21
         by_cases c22 : x34_2 < (l0.length : Int)
         ·rw [if_pos c22] at H
          have c22b0 : decide (x34_2 < (l0.length : Int)) = true:=decide_eq_true c22
          clear c22
          obtain ⟨y224,hy224⟩ : ∃ y_ : List Int,y_ = (([] : List Int)):=⟨_,rfl⟩
          replace H : (if y224.length + ((rd_T59 l0 x34_2).f1).length < 140737488355328 then (if x3_2.length < 4398046511104 then (spec_l4Plan.l1 k2 (x3_2 ++ [(⟨(rd_T59 l0 x34_2).f0,(y224 ++ ((rd_T59 l0 x34_2).f1))⟩ : S59)]) l0 (l0.length : Int) (wrap64 (x34_2 + 1))) else (none)) else (none)) = some r:=by first|(rw [hy224];with_reducible exact H)|(have H2_:=(Option.bind_some _ _).symm.trans H;rw [hy224];with_reducible exact H2_)|(have H2_:=(Option.bind_some _ _).symm.trans H;with_reducible exact H2_)|with_reducible exact H|(rw [hy224];exact H)|exact H
          have Ny224:=Aside0.mk hy224
          clear hy224
          by_cases c23 : y224.length + ((rd_T59 l0 x34_2).f1).length < 140737488355328
          ·rw [if_pos c23] at H
           have LMc23:=Aside0.mk c23
           clear c23
           obtain ⟨y227,hy227⟩ : ∃ y_ : List Int,y_ = (y224 ++ ((rd_T59 l0 x34_2).f1)):=⟨_,rfl⟩
           replace H : (if x3_2.length < 4398046511104 then (spec_l4Plan.l1 k2 (x3_2 ++ [(⟨(rd_T59 l0 x34_2).f0,y227⟩ : S59)]) l0 (l0.length : Int) (wrap64 (x34_2 + 1))) else (none)) = some r:=by first|(rw [hy227];with_reducible exact H)|(have H2_:=(Option.bind_some _ _).symm.trans H;rw [hy227];with_reducible exact H2_)|(have H2_:=(Option.bind_some _ _).symm.trans H;with_reducible exact H2_)|with_reducible exact H|(rw [hy227];exact H)|exact H
           have Ny227:=Aside0.mk hy227
           clear hy227
           by_cases c24 : x3_2.length < 4398046511104
           ·rw [if_pos c24] at H
            have LMc24:=Aside0.mk c24
            clear c24
            obtain ⟨y230,hy230⟩ : ∃ y_ : List (S59),y_ = (x3_2 ++ [(⟨(rd_T59 l0 x34_2).f0,y227⟩ : S59)]):=⟨_,rfl⟩
            replace H : (spec_l4Plan.l1 k2 y230 l0 (l0.length : Int) (wrap64 (x34_2 + 1))) = some r:=by first|(rw [hy230];with_reducible exact H)|(have H2_:=(Option.bind_some _ _).symm.trans H;rw [hy230];with_reducible exact H2_)|(have H2_:=(Option.bind_some _ _).symm.trans H;with_reducible exact H2_)|with_reducible exact H|(rw [hy230];exact H)|exact H
            have Ny230:=Aside0.mk hy230
            clear hy230
            have H':=Aside0.mk H
            clear H
            have p222 : 0 ≤ (x34_2 : Int):=of_decide_eq_true (by assumption)
            have q222 : x34_2 < (l0.length : Int):=of_decide_eq_true (by assumption)
            obtain ⟨ad222,A222_1,c222_1,e222,hx222_0,hx222_1,hl222_1,hi222_1⟩:=at_T59 HR0.out x34_2 p222 q222
            cases e222
            (try replace hx222_0:=(HB.out.cell (World.block_lt_of_cell? w _ hx222_0)).trans hx222_0)
            (try replace hx222_1:=(HB.out.cell (World.block_lt_of_cell? w _ hx222_1)).trans hx222_1)
            have HR222_1:=Aside0.mk hi222_1
            have HC222_1:=Aside0.mk hl222_1
            clear hi222_1 hl222_1
            replace p222:=eq_true p222
            replace q222:=eq_true q222
            try go_wp2_with (first|((with_reducible refine gate_dst (N:=7) rfl ?_);refine box_event ?hg (N:=7) ?hd (cs:=#[.int .i64 0,.slice none 0 0]) (t:=59) ?hr ?_;(case hd=>rfl);(case hg=>rfl);(case hr=>first|(go_simp;done)|(go_simp;rfl));intro gb223 hg w25 hbox hb;have n0_:=Aside0.mk (Kd.S_below (Kd.S_elderB (by (with_reducible repeat (first|apply Kd.S_alloc|apply Kd.S_drewN|apply Kd.S_drew));exact HO_3.out) gb223 (Nat.le_of_eq hg.symm)) hb);have n1_:=Aside0.mk (below_step (by repeat (first|exact HB.out|apply below_alloc|apply pw_below_drewN|apply below_drew1)) hb);have n2_:=Aside0.mk (hbox);have n3_:=Aside0.mk ((by rw [hg];exact (below_size (by repeat (first|exact HB.out|apply below_alloc|apply pw_below_drewN|apply below_drew1))) : w.heap.size ≤ gb223));have n4_:=Aside0.mk ((by rw [hg];exact (below_size (by repeat (first|exact HB.out|apply below_alloc|apply pw_below_drewN|apply below_drew1))) : w.heap.size ≤ gb223));clear HO_3;clear HB;have HO_3:=n0_;have HB:=n1_;have BK223:=n2_;have GW223:=n3_;have GE223:=n4_;clear n0_ n1_ n2_ n3_ n4_;clear hb hbox hg;have hcz26_0 : w25.cell? ⟨gb223,0,none⟩ = some (.int .i64 0):=(blk_cell BK223.out 0).trans rfl;have hcz26_1 : w25.cell? ⟨gb223,1,none⟩ = some (.slice none 0 0):=(blk_cell BK223.out 1).trans rfl;have hfz26_0:=blk_frozen BK223.out 0;have hfz26_1:=blk_frozen BK223.out 1))
            have n0_ : Aside0 (Kd.S k59 59 ((w25.setCell ⟨gb223,0,none⟩ (.int .i64 ((rd_T59 l0 x34_2).f0))).setCell ⟨gb223,1,none⟩ (.slice A222_1 ((rd_T59 l0 x34_2).f1).length c222_1)) w.heap.size (fun k_=>k_ ≠ gb223) u3 x3_2):=⟨by (with_reducible repeat (first|apply Kd.S_alloc|apply Kd.S_drewN|apply Kd.S_drew));exact Kd.S_mono (Kd.S_far (p:=⟨gb223,1,none⟩) (Kd.S_far (p:=⟨gb223,0,none⟩) (Kd.S_mono HO_3.out (fun k_ hk=>(⟨hk,hk.2⟩ : _∧k_ ≠ gb223))) (fun _ hk=>hk.2) (.int .i64 ((rd_T59 l0 x34_2).f0))) (fun _ hk=>hk.2) (.slice A222_1 ((rd_T59 l0 x34_2).f1).length c222_1)) (fun _ hk=>hk.1.2)⟩
            have n1_ : Aside0 (((w25.setCell ⟨gb223,0,none⟩ (.int .i64 ((rd_T59 l0 x34_2).f0))).setCell ⟨gb223,1,none⟩ (.slice A222_1 ((rd_T59 l0 x34_2).f1).length c222_1)).heap[gb223]? = some (.cells #[.int .i64 ((rd_T59 l0 x34_2).f0),.slice A222_1 ((rd_T59 l0 x34_2).f1).length c222_1] 59 (0,0))):=⟨by (with_reducible repeat first|apply blk_drewN|apply blk_drew|apply blk_alloc);refine blk_put (cs:=#[.int .i64 ((rd_T59 l0 x34_2).f0),.slice none 0 0]) ?_ 1 _ rfl;(with_reducible repeat first|apply blk_drewN|apply blk_drew|apply blk_alloc);refine blk_put (cs:=#[.int .i64 0,.slice none 0 0]) ?_ 0 _ rfl;(with_reducible repeat first|apply blk_drewN|apply blk_drew|apply blk_alloc);exact BK223.out⟩
            have n2_ : Aside0 (Below w.heap.size w ((w25.setCell ⟨gb223,0,none⟩ (.int .i64 ((rd_T59 l0 x34_2).f0))).setCell ⟨gb223,1,none⟩ (.slice A222_1 ((rd_T59 l0 x34_2).f1).length c222_1))):=⟨by repeat (first|(with_reducible first|exact HB.out|apply below_alloc|apply pw_below_drewN|apply below_drew1|refine below_set ?_ GE223.out)|exact HB.out)⟩
            (try clear HO_3)
            (try clear BK223)
            (try clear HB)
            generalize ((w25.setCell ⟨gb223,0,none⟩ (.int .i64 ((rd_T59 l0 x34_2).f0))).setCell ⟨gb223,1,none⟩ (.slice A222_1 ((rd_T59 l0 x34_2).f1).length c222_1)) = w27 at n0_ n1_ n2_ ⊢
            have HO_3:=n0_
            have BK223:=n1_
            have HB:=n2_
            clear n0_ n1_ n2_
            have n0_:=Aside0.mk (Kd.S_drew HO_3.out)
            have n1_:=Aside0.mk (blk_drew BK223.out)
            have n2_:=Aside0.mk (below_drew1 HB.out)
            clear HO_3
            clear BK223
            clear HB
            have HO_3:=n0_
            have BK223:=n1_
            have HB:=n2_
            clear n0_ n1_ n2_
            refine start_ (n:=11) (S:=fun w'=>w'.cell? ⟨gb223,0,none⟩ = some (.int .i64 ((rd_T59 l0 x34_2).f0))∧w'.cell? ⟨gb223,1,none⟩ = some (.slice A222_1 ((rd_T59 l0 x34_2).f1).length c222_1)) (ds:=[]) #[false,false,false,false,false,false,false,false,false,false,false] (by kernel_rfl) rfl rfl ⟨(blk_cell BK223.out 0).trans rfl,(blk_cell BK223.out 1).trans rfl⟩ (fun hHeld=>?_);refine with_tabW spec_l4Plan.tab11 spec_l4Plan.bits11 (fun HT_ HW_=>?_)
            generalize w27.drew = w28 at HO_3 BK223 HB hHeld ⊢
            refine pure_ (i:=0) (N:=some 38) (v:=?_) (a':=?_) #[true,false,false,false,false,false,false,false,false,false,false] rfl rfl (any_of HT_.out (by kernel_rfl)) (fun _ _ _ h=>h) (Or.inl ⟨by rfl,?_⟩) ?_ ?_
            rotate_left
            ·intro w'
             go_simp
             with_reducible rfl
            rotate_left
            ·simp only [Act.put,List.setIfInBounds_toArray,List.set_cons_zero,List.set_cons_succ,i64_w,i32_w]
             rfl
            refine pure_ (i:=1) (N:=some 39) (v:=?_) (a':=?_) #[true,true,false,false,false,false,false,false,false,false,false] rfl rfl (any_of HT_.out (by kernel_rfl)) (fun _ _ _ h=>h) (Or.inl ⟨by rfl,?_⟩) ?_ ?_
            rotate_left
            ·intro w'
             go_simp
             with_reducible rfl
            rotate_left
            ·simp only [Act.put,List.setIfInBounds_toArray,List.set_cons_zero,List.set_cons_succ,i64_w,i32_w]
             rfl
            refine pure_ (i:=4) (N:=some 42) (v:=?_) (a':=?_) #[true,true,false,false,true,false,false,false,false,false,false] rfl rfl (any_of HT_.out (by kernel_rfl)) (fun _ _ _ h=>h) (Or.inl ⟨by rfl,?_⟩) ?_ ?_
            rotate_left
            ·intro w'
             go_simp
             with_reducible rfl
            rotate_left
            ·simp only [Act.put,List.setIfInBounds_toArray,List.set_cons_zero,List.set_cons_succ,i64_w,i32_w]
             rfl
            refine take_ (i:=2) (N:=some 40) (v:=?_) (a':=?_) #[true,true,true,false,true,false,false,false,false,false,false] rfl rfl (take_ofW HT_.out HW_.out (by kernel_rfl)) (fun _ _ _ h=>h) (Or.inl ⟨by rfl,?_⟩) hHeld ?_ ?_
            rotate_left
            ·rintro w' ⟨s0,s1⟩
             go_simp
             with_reducible rfl
            rotate_left
            ·simp only [Act.put,List.setIfInBounds_toArray,List.set_cons_zero,List.set_cons_succ,i64_w,i32_w]
             rfl
            refine take_ (i:=5) (N:=some 43) (v:=?_) (a':=?_) #[true,true,true,false,true,true,false,false,false,false,false] rfl rfl (take_ofW HT_.out HW_.out (by kernel_rfl)) (fun _ _ _ h=>h) (Or.inl ⟨by rfl,?_⟩) hHeld ?_ ?_
            rotate_left
            ·rintro w' ⟨s0,s1⟩
             go_simp
             with_reducible rfl
            rotate_left
            ·simp only [Act.put,List.setIfInBounds_toArray,List.set_cons_zero,List.set_cons_succ,i64_w,i32_w]
             rfl
            refine one_ (i:=3) (N:=some 41) #[true,true,true,true,true,true,false,false,false,false,false] rfl rfl (one_of HT_.out (by kernel_rfl)) (by decide) (fun K hK=>?_)
            refine Kd.R_lit_step (Kd.int .u8) _ 5 ?hg (N:=41) ?hd (xs:=([] : List Int)) (inner:=[]) (ok:=fun _=>True) (okp:=fun _=>True) ?hr ?hp (fun _ hk=>hk) trivial (Below.refl _ _) (Nat.le_refl _) (by simp) ?_;(case hd=>rfl);(case hg=>rfl);(case hr=>first|(go_simp;done)|(go_simp;rfl));(case hp=>exact (Reps.none _ _))
            intro v225 w29 ho30 hb hg_ hnew_
            clear hg_ hnew_
            (first|rw [← Ny224.out] at ho30|(simp only [Int.reduceToNat] at ho30;rw [← Ny224.out] at ho30))
            have n0_:=Aside0.mk (Kd.S_elder' (by (with_reducible repeat (first|apply Kd.S_alloc|apply Kd.S_drewN|apply Kd.S_drew));exact HO_3.out) (Kd.R_base ho30) hb)
            have n1_:=Aside0.mk (Kd.R_lower ho30 (below_size (by repeat (first|(with_reducible first|exact HB.out|apply below_alloc|apply pw_below_drewN|apply below_drew1|refine below_set ?_ GE223.out)|exact HB.out))))
            have n2_:=Aside0.mk (blk_below (g:=gb223) (o:=.cells #[.int .i64 ((rd_T59 l0 x34_2).f0),.slice A222_1 ((rd_T59 l0 x34_2).f1).length c222_1] 59 (0,0)) (by (with_reducible repeat first|apply blk_drewN|apply blk_drew|apply blk_alloc);exact BK223.out) hb)
            have n3_:=Aside0.mk (below_step (by repeat (first|(with_reducible first|exact HB.out|apply below_alloc|apply pw_below_drewN|apply below_drew1|refine below_set ?_ GE223.out)|exact HB.out)) hb)
            clear HO_3
            clear BK223
            clear HB
            have HO_3:=n0_
            have HO226:=n1_
            have BK223:=n2_
            have HB:=n3_
            clear n0_ n1_ n2_ n3_
            clear hb ho30
            refine hK.out _ _ ⟨(blk_cell BK223.out 0).trans rfl,(blk_cell BK223.out 1).trans rfl⟩ (fun hHeld=>?_)
            clear hK K
            refine norm_ (a':=?_) ?_ ?_
            rotate_left
            ·show Act.put _ (some 41) _ = _
             simp only [Act.put,List.setIfInBounds_toArray,List.set_cons_zero,List.set_cons_succ,i64_w,i32_w]
             rfl
            refine one_ (i:=6) (N:=some 44) #[true,true,true,true,true,true,true,false,false,false,false] rfl rfl (one_of HT_.out (by kernel_rfl)) (by decide) (fun K hK=>?_)
            refine Kd.R_append_rows_step (Kd.int .u8) (w0:=w) w.heap.size (by rfl) (.tmp 41) (.tmp 43) 24 5 (.int .u8 0) 1 rfl Try.underlying24 info5 rfl (by decide) (by omega) v225 y224 ((rd_T59 l0 x34_2).f1) _ _ _ (fun _=>True) (fun _=>False) rfl rfl ?aO ?aR (fun _ _ h=>h) (fun _ h=>h.elim) ?aF ?aB ?aS ?aL ?_
            (case aR=>repeat (first|exact (Kd.C_below HR222_1.out HB.out)|(with_reducible first|apply Kd.C_alloc|apply Kd.C_drewN|apply Kd.C_drew)))
            (case aB=>exact (by repeat (first|(with_reducible first|exact HB.out|apply below_alloc|apply pw_below_drewN|apply below_drew1|refine below_set ?_ GE223.out)|exact HB.out)))
            (case aF=>exact (fun _ _=>trivial))
            (case aO=>exact (by (with_reducible repeat (first|apply Kd.R_alloc|apply Kd.R_drewN|apply Kd.R_drew));exact HO226.out))
            (case aS=>exact (below_size (by repeat (first|(with_reducible first|exact HB.out|apply below_alloc|apply pw_below_drewN|apply below_drew1|refine below_set ?_ GE223.out)|exact HB.out))))
            (case aL=>have:=LMc23.out;omega)
            intro v228 w31 ho hb hg hat
            rw [← Ny227.out] at ho
            have n0_:=Aside0.mk (Kd.S_after (ok:=(fun k_=>k_ ≠ gb223)) (by (with_reducible repeat (first|apply Kd.S_alloc|apply Kd.S_drewN|apply Kd.S_drew));exact HO_3.out) hg hat)
            have n1_:=Aside0.mk (blk_grown (g:=gb223) (o:=.cells #[.int .i64 ((rd_T59 l0 x34_2).f0),.slice A222_1 ((rd_T59 l0 x34_2).f1).length c222_1] 59 (0,0)) (by (with_reducible repeat first|apply blk_drewN|apply blk_drew|apply blk_alloc);exact BK223.out) hg (Kd.R_ne HO226.out BK223.out (by decide)))
            have n2_:=Aside0.mk (hb)
            have n3_:=Aside0.mk (ho)
            clear HO_3
            clear BK223
            clear HB
            clear HO226
            have HO_3:=n0_
            have BK223:=n1_
            have HB:=n2_
            have HO229:=n3_
            clear n0_ n1_ n2_ n3_
            clear ho hb hg hat
            obtain ⟨Ao32,co32,eo32⟩:=Kd.R_slice HO229.out
            (first|subst eo32|(injection eo32 with f1_ f2_ f3_;have f4_:=f1_.symm;have f5_:=f3_.symm;clear f1_ f2_ f3_;subst f4_;subst f5_))
            refine hK.out _ _ ⟨(blk_cell BK223.out 0).trans rfl,(blk_cell BK223.out 1).trans rfl⟩ (fun hHeld=>?_)
            clear hK K
            refine norm_ (a':=?_) ?_ ?_
            rotate_left
            ·show Act.put _ (some 44) _ = _
             simp only [Act.put,List.setIfInBounds_toArray,List.set_cons_zero,List.set_cons_succ,i64_w,i32_w]
             rfl
            refine pure_ (i:=7) (N:=some 45) (v:=?_) (a':=?_) #[true,true,true,true,true,true,true,true,false,false,false] rfl rfl (any_of HT_.out (by kernel_rfl)) (fun _ _ _ h=>h) (Or.inl ⟨by rfl,?_⟩) ?_ ?_
            rotate_left
            ·intro w'
             go_simp
             with_reducible rfl
            rotate_left
            ·simp only [Act.put,List.setIfInBounds_toArray,List.set_cons_zero,List.set_cons_succ,i64_w,i32_w]
             rfl
            refine one_ (i:=8) (N:=some 46) #[true,true,true,true,true,true,true,true,true,false,false] rfl rfl (one_of HT_.out (by kernel_rfl)) (by decide) (fun K hK=>?_)
            refine value_ (w1:=?_) (v:=?_) (by rfl) rfl ?_ ?_
            rotate_left 2
            ·go_simp
             constructor
             ·rfl
             ·rfl
            refine hK.out _ _ ⟨(blk_cell (blk_alloc BK223.out _) 0).trans rfl,(blk_cell (blk_alloc BK223.out _) 1).trans rfl⟩ (fun hHeld=>?_)
            clear hK K
            refine norm_ (a':=?_) ?_ ?_
            rotate_left
            ·show Act.put _ (some 46) _ = _
             simp only [Act.put,List.setIfInBounds_toArray,List.set_cons_zero,List.set_cons_succ,i64_w,i32_w]
             rfl
            refine one_ (i:=9) (N:=some 47) #[true,true,true,true,true,true,true,true,true,true,false] rfl rfl (one_of HT_.out (by kernel_rfl)) (by decide) (fun K hK=>?_)
            refine Kd.S_append_step k59 (w0:=w) w.heap.size (by rfl) (.tmp 38) (.tmp 46) 27 59 (.agg #[(.int .i64 0),(.slice none 0 0)]) 32 rfl Try.underlying27 info59 rfl (by decide) (by omega) u3 x3_2 (⟨(rd_T59 l0 x34_2).f0,y227⟩ : S59) [.int .i64 ((rd_T59 l0 x34_2).f0),.slice Ao32 y227.length co32] (fun k_=>k_ ≠ gb223) (fun k_=>some k_ = (.slice Ao32 y227.length co32 : Value).ownBlock) rfl rfl ?aP (fun k_ hk_=>((Kd.R_mono (ok':=fun k_=>((fun k_=>k_ ≠ gb223)) k_∧some k_ ≠ (u3 : Value).ownBlock) (Kd.R_types (Kd.R_apart' (HO229.out) (Kd.S_typed HO_3.out) (by decide)) BK223.out (by decide)) (fun k_ hk=>⟨hk.2,hk.1.2⟩))).1 k_ hk_.symm) ?aF ?aO ?aB ?aS ?aL ?_
            (case aP=>exact k59_mkM _ _ _ (⟨(rd_T59 l0 x34_2).f0,y227⟩ : S59) (Kd.R_mono (Kd.R_tight rfl (Kd.R_mono (ok':=fun k_=>((fun k_=>k_ ≠ gb223)) k_∧some k_ ≠ (u3 : Value).ownBlock) (Kd.R_types (Kd.R_apart' (HO229.out) (Kd.S_typed HO_3.out) (by decide)) BK223.out (by decide)) (fun k_ hk=>⟨hk.2,hk.1.2⟩))) (fun _ h_=>h_)))
            (case aB=>exact (by repeat (first|(with_reducible first|exact HB.out|apply below_alloc|apply pw_below_drewN|apply below_drew1|refine below_set ?_ GE223.out)|exact HB.out)))
            (case aF=>exact (fun k_ hk=>Kd.freshB (g:=gb223) (o:=.cells #[.int .i64 ((rd_T59 l0 x34_2).f0),.slice A222_1 ((rd_T59 l0 x34_2).f1).length c222_1] 59 (0,0)) (by (with_reducible repeat first|apply blk_drewN|apply blk_drew|apply blk_alloc);exact BK223.out) k_ hk))
            (case aO=>exact (by (with_reducible repeat (first|apply Kd.S_alloc|apply Kd.S_drewN|apply Kd.S_drew));exact Kd.S_mono HO_3.out (fun k_ hk=>⟨hk.1,fun e_=>hk.2 e_⟩)))
            (case aS=>exact (below_size (by repeat (first|(with_reducible first|exact HB.out|apply below_alloc|apply pw_below_drewN|apply below_drew1|refine below_set ?_ GE223.out)|exact HB.out))))
            (case aL=>have:=LMc24.out;omega)
            intro v231 w33 ho hb hg hat
            rw [← Ny230.out] at ho
            have n0_:=Aside0.mk (blk_grown (g:=gb223) (o:=.cells #[.int .i64 ((rd_T59 l0 x34_2).f0),.slice A222_1 ((rd_T59 l0 x34_2).f1).length c222_1] 59 (0,0)) (by (with_reducible repeat first|apply blk_drewN|apply blk_drew|apply blk_alloc);exact BK223.out) hg (Kd.S_away HO_3.out (fun _ hk=>hk.1)))
            have n1_:=Aside0.mk (hb)
            have n2_:=Aside0.mk (ho)
            clear BK223
            clear HB
            clear HO_3
            clear HO229
            have BK223:=n0_
            have HB:=n1_
            have HO232:=n2_
            clear n0_ n1_ n2_
            clear ho hb hg hat
            refine hK.out _ _ ⟨(blk_cell BK223.out 0).trans rfl,(blk_cell BK223.out 1).trans rfl⟩ (fun hHeld=>?_)
            clear hK K
            refine norm_ (a':=?_) ?_ ?_
            rotate_left
            ·show Act.put _ (some 47) _ = _
             simp only [Act.put,List.setIfInBounds_toArray,List.set_cons_zero,List.set_cons_succ,i64_w,i32_w]
             rfl
            refine pure_ (i:=10) (N:=some 3) (v:=?_) (a':=?_) #[true,true,true,true,true,true,true,true,true,true,true] rfl rfl (any_of HT_.out (by kernel_rfl)) (fun _ _ _ h=>h) (Or.inl ⟨by rfl,?_⟩) ?_ ?_
            rotate_left
            ·intro w'
             go_simp
             with_reducible rfl
            rotate_left
            ·simp only [Act.put,List.setIfInBounds_toArray,List.set_cons_zero,List.set_cons_succ,i64_w,i32_w]
             rfl
            refine done_ (done_of HT_.out (by kernel_rfl)) ?_
            try go_wp2
            go_roundg k2
            case measure=>have:=HK1.out;have:=HK2.out;omega
            case rel=>exact ⟨(y230),(wrap64 (x34_2 + 1)),(by first|rfl|(simp;done)|(simp [*];done)),H',⟨by have:=HK1.out;have:=HK2.out;omega⟩,⟨by (with_reducible repeat (first|apply Kd.S_alloc|apply Kd.S_drewN|apply Kd.S_drew));exact Kd.S_mono HO232.out (fun _ hk=>trivial)⟩,⟨by repeat (first|(with_reducible first|exact HB.out|apply below_alloc|apply pw_below_drewN|apply below_drew1|refine below_set ?_ GE223.out)|exact HB.out)⟩⟩
           ·rw [if_neg c24] at H
            exact absurd H (by simp)
          ·rw [if_neg c23] at H
           exact absurd H (by simp)
         ·rw [if_neg c22] at H
          exact absurd H (by simp)
        ·rw [if_neg c21] at H
         exact absurd H (by simp)
       ·rw [if_neg c20] at H
        have c20b0 : decide (x34_2 < (l0.length : Int)) = false:=decide_eq_false c20
        clear c20
        by_cases c34 : 128 ≤ 281474976710656
        ·rw [if_pos c34] at H
         have c34b0:=eq_true c34
         have c34b1 : decide (128 ≤ 281474976710656) = true:=decide_eq_true c34
         clear c34
         obtain ⟨y233,hy233⟩ : ∃ y_ : List Int,y_ = (List.replicate 128 0):=⟨_,rfl⟩
         replace H : (if x3_2.length < 4398046511104 then (some (x3_2 ++ [(⟨2,y233⟩ : S59)])) else (none)) = some r:=by first|(rw [hy233];with_reducible exact H)|(have H2_:=(Option.bind_some _ _).symm.trans H;rw [hy233];with_reducible exact H2_)|(have H2_:=(Option.bind_some _ _).symm.trans H;with_reducible exact H2_)|with_reducible exact H|(rw [hy233];exact H)|exact H
         have Ny233:=Aside0.mk hy233
         clear hy233
         by_cases c35 : x3_2.length < 4398046511104
         ·rw [if_pos c35] at H
          have LMc35:=Aside0.mk c35
          clear c35
          obtain ⟨y236,hy236⟩ : ∃ y_ : List (S59),y_ = (x3_2 ++ [(⟨2,y233⟩ : S59)]):=⟨_,rfl⟩
          replace H : (some y236) = some r:=by first|(rw [hy236];with_reducible exact H)|(have H2_:=(Option.bind_some _ _).symm.trans H;rw [hy236];with_reducible exact H2_)|(have H2_:=(Option.bind_some _ _).symm.trans H;with_reducible exact H2_)|with_reducible exact H|(rw [hy236];exact H)|exact H
          have Ny236:=Aside0.mk hy236
          clear hy236
          obtain rfl:=Option.some.inj H
          go_wp2_with (first|((with_reducible refine gate_dst (N:=50) rfl ?_);refine Kd.R_make (Kd.int .u8) _ 5 rfl (N:=50) rfl 24 _ _ rfl 128 rfl rfl Try.underlying24 (.int .u8 0) 1 info5 rfl (by decide) (by omega) 0 (ok:=fun _=>True) (okp:=fun _=>True) rfl (fun _ hk=>hk) trivial (by omega) (by omega) (Below.refl _ _) (Nat.le_refl _) ?_;intro v234 w36 ho37 hb hg_ hnew_;clear hg_ hnew_;(first|rw [← Ny233.out] at ho37|(simp only [Int.reduceToNat] at ho37;rw [← Ny233.out] at ho37));have n0_:=Aside0.mk (Kd.S_elder' (by (with_reducible repeat (first|apply Kd.S_alloc|apply Kd.S_drewN|apply Kd.S_drew));exact HO_3.out) (Kd.R_base ho37) hb);have n1_:=Aside0.mk (Kd.R_lower ho37 (below_size (by repeat (first|exact HB.out|apply below_alloc|apply pw_below_drewN|apply below_drew1))));have n2_:=Aside0.mk (below_step (by repeat (first|exact HB.out|apply below_alloc|apply pw_below_drewN|apply below_drew1)) hb);clear HO_3;clear HB;have HO_3:=n0_;have HO235:=n1_;have HB:=n2_;clear n0_ n1_ n2_;clear hb ho37;obtain ⟨Ao38,co38,eo38⟩:=Kd.R_slice HO235.out;subst eo38)|((with_reducible refine gate_builtin (b:=.append) (xs:=#[.tmp 49,.tmp 52]) rfl ?_);at_builtin;refine Kd.S_append k59 (w0:=w) w.heap.size rfl (.tmp 49) (.tmp 52) 27 59 (.agg #[(.int .i64 0),(.slice none 0 0)]) 32 rfl Try.underlying27 info59 rfl (by decide) (by omega) u3 x3_2 (⟨2,y233⟩ : S59) [.int .i64 2,.slice Ao38 y233.length co38] (fun _=>True) (fun k_=>some k_ = (.slice Ao38 y233.length co38 : Value).ownBlock) rfl rfl ?aP (fun k_ hk_=>((Kd.R_mono (ok':=fun k_=>((fun _=>True)) k_∧some k_ ≠ (u3 : Value).ownBlock) (Kd.R_apart' (HO235.out) (Kd.S_typed HO_3.out) (by decide)) (fun k_ hk=>⟨trivial,hk.2⟩))).1 k_ hk_.symm) ?aF ?aO ?aB ?aS ?aL ?_;(case aP=>exact k59_mkM _ _ _ (⟨2,y233⟩ : S59) (Kd.R_mono (Kd.R_tight rfl (Kd.R_mono (ok':=fun k_=>((fun _=>True)) k_∧some k_ ≠ (u3 : Value).ownBlock) (Kd.R_apart' (HO235.out) (Kd.S_typed HO_3.out) (by decide)) (fun k_ hk=>⟨trivial,hk.2⟩))) (fun _ h_=>h_)));(case aB=>exact (by repeat (first|exact HB.out|apply below_alloc|apply pw_below_drewN|apply below_drew1)));(case aF=>exact (fun _ _=>trivial));(case aO=>exact (by (with_reducible repeat (first|apply Kd.S_alloc|apply Kd.S_drewN|apply Kd.S_drew));exact Kd.S_mono HO_3.out (fun k_ hk=>⟨trivial,fun e_=>hk.2 e_⟩)));(case aS=>exact (below_size (by repeat (first|exact HB.out|apply below_alloc|apply pw_below_drewN|apply below_drew1))));(case aL=>have:=LMc35.out;omega);intro v237 w39 ho hb hg hat;rw [← Ny236.out] at ho;have n0_:=Aside0.mk (hb);have n1_:=Aside0.mk (ho);clear HB;clear HO_3;clear HO235;have HB:=n0_;have HO238:=n1_;clear n0_ n1_;clear ho hb hg hat))
          go_ret
          exact ⟨_,by first|rfl|(simp [*,errW_none,errW_some] <;> rfl),by (with_reducible repeat (first|apply Kd.S_alloc|apply Kd.S_drewN|apply Kd.S_drew));exact HO238.out,by repeat (first|exact HB.out|apply below_alloc|apply pw_below_drewN|apply below_drew1)⟩
         ·rw [if_neg c35] at H
          exact absurd H (by simp)
        ·rw [if_neg c34] at H
         exact absurd H (by simp)
    ·rw [if_neg c16] at H
     exact absurd H (by simp)

/-! ### spec_PlanOf: function 26 -/
def spec_PlanOf.f (k : Nat) (l0_0 : List (List Int)) (a0_1 : Int) (a0_2 : Bool) (a0_3 : Int) (l1 : List (S59)) : Option ((List (S59)) × Bool):=(spec_GoodGroup.f k l0_0 a0_1 a0_2 a0_3 l1).bind fun t240=>(if t240 = true then ((spec_l4Plan.f k l1).bind fun t241=>(some (t241,true))) else (some (([] : List (S59)),false)))
theorem spec_PlanOf.mono : ∀ a0 a1 a2 a3 a4 k,LeO (spec_PlanOf.f k a0 a1 a2 a3 a4) (spec_PlanOf.f (k + 1) a0 a1 a2 a3 a4):=by
 intro a0 a1 a2 a3 a4 k
 unfold spec_PlanOf.f
 repeat' first
   | (with_reducible exact spec_GoodGroup.mono _ _ _ _ _ _)
   | (with_reducible exact spec_l4Plan.mono _ _)
   | (with_reducible exact LeO.refl _)
   | (with_reducible exact LeO.none _)
   | (with_reducible refine LeO.ite ?_ ?_)
   | (with_reducible refine LeO.bind ?_ (fun _=>?_))
   | exact spec_GoodGroup.mono _ _ _ _ _ _
   | exact spec_l4Plan.mono _ _
   | exact LeO.none _
   | refine LeO.ite ?_ ?_
   | refine LeO.bind ?_ (fun _=>?_)
set_option maxHeartbeats 8000000 in
set_option maxRecDepth 100000 in
theorem spec_PlanOf.calls (k : Nat) (A0_0 : Option Addr) (c0_0 : Nat) (l0_0 : List (List Int)) (a0_1 : Int) (a0_2 : Bool) (a0_3 : Int) (A1 : Option Addr) (c1 : Nat) (l1 : List (S59)) (r1 : List (S59)) (r2 : Bool) (w : World) (hr0_0 : Kd.C (Kd.slice 5 (Kd.int .u8)) w A0_0 l0_0.length l0_0) (hc0_0 : l0_0.length ≤ c0_0) (hr1 : Kd.C k59 w A1 l1.length l1) (hc1 : l1.length ≤ c1) (h : spec_PlanOf.f k l0_0 a0_1 a0_2 a0_3 l1 = some (r1,r2)) :
  Calls Try.prog 26 #[.agg #[.slice A0_0 l0_0.length c0_0,.int .i64 a0_1,.bool a0_2,.int .i64 a0_3],.slice A1 l1.length c1] w fun e w'=>∃ v0_ : Value,e = .returned (.tuple #[v0_,.bool r2])∧Kd.S k59 59 w' w.heap.size (fun _=>True) v0_ r1∧Below w.heap.size w w':=by
 have hu39:=Try.underlying39
 have HR0_0:=Aside0.mk hr0_0
 have HC0_0:=Aside0.mk hc0_0
 clear hr0_0 hc0_0
 have HR1:=Aside0.mk hr1
 have HC1:=Aside0.mk hc1
 clear hr1 hc1
 have HB:=Aside0.mk (Below.refl w.heap.size w)
 have H : ((spec_GoodGroup.f k l0_0 a0_1 a0_2 a0_3 l1).bind fun t240=>(if t240 = true then ((spec_l4Plan.f k l1).bind fun t241=>(some (t241,true))) else (some (([] : List (S59)),false)))) = some (r1,r2):=h
 clear h
 replace H:=Option.bind_eq_some_iff.mp H
 obtain ⟨t240,A30,H⟩:=H
 replace H : (if t240 = true then ((spec_l4Plan.f k l1).bind fun t241=>(some (t241,true))) else (some (([] : List (S59)),false))) = some (r1,r2):=H
 have A3:=Aside0.mk A30
 clear A30
 by_cases c4 : t240 = true
 ·subst c4
  have H1 : ((spec_l4Plan.f k l1).bind fun t241=>(some (t241,true))) = some (r1,r2):=by rw [if_pos rfl] at H;exact H
  clear H
  have H:=H1
  clear H1
  replace H:=Option.bind_eq_some_iff.mp H
  obtain ⟨t241,A50,H⟩:=H
  replace H : (some (t241,true)) = some (r1,r2):=H
  have A5:=Aside0.mk A50
  clear A50
  simp only [Option.some.injEq,Prod.mk.injEq] at H
  obtain ⟨rfl,rfl⟩:=H
  go_enter Try.func26,Try.ntmps26
  go_wp2_with (first|((with_reducible refine gate_dst (N:=2) rfl ?_);refine box_event ?hg (N:=2) ?hd (cs:=#[.slice A0_0 l0_0.length c0_0,.int .i64 a0_1,.bool a0_2,.int .i64 a0_3]) (t:=39) ?hr ?_;(case hd=>rfl);(case hg=>rfl);(case hr=>first|(go_simp;done)|(go_simp;rfl));intro gb239 hg w6 hbox hb;have n0_:=Aside0.mk (below_step (by repeat (first|exact HB.out|apply below_alloc|apply pw_below_drewN|apply below_drew1)) hb);have n1_:=Aside0.mk (hbox);have n2_:=Aside0.mk ((by rw [hg];exact (below_size (by repeat (first|exact HB.out|apply below_alloc|apply pw_below_drewN|apply below_drew1))) : w.heap.size ≤ gb239));have n3_:=Aside0.mk ((by rw [hg];exact (below_size (by repeat (first|exact HB.out|apply below_alloc|apply pw_below_drewN|apply below_drew1))) : w.heap.size ≤ gb239));clear HB;have HB:=n0_;have BK239:=n1_;have GW239:=n2_;have GE239:=n3_;clear n0_ n1_ n2_ n3_;clear hb hbox hg;have hcz7_0 : w6.cell? ⟨gb239,0,none⟩ = some (.slice A0_0 l0_0.length c0_0):=(blk_cell BK239.out 0).trans rfl;have hcz7_1 : w6.cell? ⟨gb239,1,none⟩ = some (.int .i64 a0_1):=(blk_cell BK239.out 1).trans rfl;have hcz7_2 : w6.cell? ⟨gb239,2,none⟩ = some (.bool a0_2):=(blk_cell BK239.out 2).trans rfl;have hcz7_3 : w6.cell? ⟨gb239,3,none⟩ = some (.int .i64 a0_3):=(blk_cell BK239.out 3).trans rfl;have hfz7_0:=blk_frozen BK239.out 0;have hfz7_1:=blk_frozen BK239.out 1;have hfz7_2:=blk_frozen BK239.out 2;have hfz7_3:=blk_frozen BK239.out 3)|((with_reducible refine gate_callee (f:=20) rfl ?_);refine goesL_ (some 8) rfl rfl Try.func20 (by kernel_rfl) rfl #[.agg #[.slice A0_0 l0_0.length c0_0,.int .i64 a0_1,.bool a0_2,.int .i64 a0_3],.slice A1 l1.length c1] rfl (by (try simp only [List.map_toArray,List.map_cons,List.map_nil]);first|done|rfl|(simp only [List.length_drop,List.length_take];rfl)) ?_;(with_reducible refine (spec_GoodGroup.calls k _ _ l0_0 a0_1 a0_2 a0_3 _ _ l1 true _ ?side1 ?side2 ?side3 ?side4 A3.out).mono ?_);(case side1=>repeat (first|exact (Kd.C_below HR0_0.out HB.out)|(with_reducible first|apply Kd.C_alloc|apply Kd.C_drewN|apply Kd.C_drew)));(case side2=>exact HC0_0.out);(case side3=>repeat (first|exact (Kd.C_below HR1.out HB.out)|(with_reducible first|apply Kd.C_alloc|apply Kd.C_drewN|apply Kd.C_drew)));(case side4=>exact HC1.out);rintro e w8 ⟨rfl,hb⟩;refine ⟨_,rfl,?_⟩;have n0_:=Aside0.mk (blk_below (g:=gb239) (o:=.cells #[.slice A0_0 l0_0.length c0_0,.int .i64 a0_1,.bool a0_2,.int .i64 a0_3] 39 (0,0)) (by (with_reducible repeat first|apply blk_drewN|apply blk_drew|apply blk_alloc);exact BK239.out) hb);have n1_:=Aside0.mk (below_step (by repeat (first|(with_reducible first|exact HB.out|apply below_alloc|apply pw_below_drewN|apply below_drew1|refine below_set ?_ GE239.out)|exact HB.out)) hb);clear BK239;clear HB;have BK239:=n0_;have HB:=n1_;clear n0_ n1_;(try clear hb);(try clear hb2);(try clear hk);(try clear hi))|((with_reducible refine gate_callee (f:=54) rfl ?_);refine goesL_ (some 11) rfl rfl Try.func54 (by kernel_rfl) rfl #[.slice A1 l1.length c1] rfl (by (try simp only [List.map_toArray,List.map_cons,List.map_nil]);first|done|rfl|(simp only [List.length_drop,List.length_take];rfl)) ?_;(with_reducible refine (spec_l4Plan.calls k _ _ l1 t241 _ ?side1 ?side2 A5.out).mono ?_);(case side1=>repeat (first|exact (Kd.C_below HR1.out HB.out)|(with_reducible first|apply Kd.C_alloc|apply Kd.C_drewN|apply Kd.C_drew)));(case side2=>exact HC1.out);rintro e w9 ⟨v242,rfl,ho0,hb⟩;refine ⟨_,rfl,?_⟩;have n0_:=Aside0.mk (Kd.S_lower ho0 (below_size (by repeat (first|(with_reducible first|exact HB.out|apply below_alloc|apply pw_below_drewN|apply below_drew1|refine below_set ?_ GE239.out)|exact HB.out))));have n1_:=Aside0.mk (blk_below (g:=gb239) (o:=.cells #[.slice A0_0 l0_0.length c0_0,.int .i64 a0_1,.bool a0_2,.int .i64 a0_3] 39 (0,0)) (by (with_reducible repeat first|apply blk_drewN|apply blk_drew|apply blk_alloc);exact BK239.out) hb);have n2_:=Aside0.mk (below_step (by repeat (first|(with_reducible first|exact HB.out|apply below_alloc|apply pw_below_drewN|apply below_drew1|refine below_set ?_ GE239.out)|exact HB.out)) hb);clear BK239;clear HB;have HO243:=n0_;have BK239:=n1_;have HB:=n2_;clear n0_ n1_ n2_;(try clear hb);(try clear hb2);(try clear hk);(try clear hi);(try clear ho0)))
  go_ret2
  exact ⟨_,by first|rfl|(simp [*,errW_none,errW_some] <;> rfl),by (with_reducible repeat (first|apply Kd.S_alloc|apply Kd.S_drewN|apply Kd.S_drew));exact HO243.out,by repeat (first|(with_reducible first|exact HB.out|apply below_alloc|apply pw_below_drewN|apply below_drew1|refine below_set ?_ GE239.out)|exact HB.out)⟩
 ·replace c4:=Bool.eq_false_iff.mpr c4
  subst c4
  have H1 : (some (([] : List (S59)),false)) = some (r1,r2):=by rw [if_neg (show ¬ (false = true) by decide)] at H;exact H
  clear H
  have H:=H1
  clear H1
  simp only [Option.some.injEq,Prod.mk.injEq] at H
  obtain ⟨rfl,rfl⟩:=H
  go_enter Try.func26,Try.ntmps26
  go_wp2_with (first|((with_reducible refine gate_dst (N:=2) rfl ?_);refine box_event ?hg (N:=2) ?hd (cs:=#[.slice A0_0 l0_0.length c0_0,.int .i64 a0_1,.bool a0_2,.int .i64 a0_3]) (t:=39) ?hr ?_;(case hd=>rfl);(case hg=>rfl);(case hr=>first|(go_simp;done)|(go_simp;rfl));intro gb239 hg w10 hbox hb;have n0_:=Aside0.mk (below_step (by repeat (first|exact HB.out|apply below_alloc|apply pw_below_drewN|apply below_drew1)) hb);have n1_:=Aside0.mk (hbox);have n2_:=Aside0.mk ((by rw [hg];exact (below_size (by repeat (first|exact HB.out|apply below_alloc|apply pw_below_drewN|apply below_drew1))) : w.heap.size ≤ gb239));have n3_:=Aside0.mk ((by rw [hg];exact (below_size (by repeat (first|exact HB.out|apply below_alloc|apply pw_below_drewN|apply below_drew1))) : w.heap.size ≤ gb239));clear HB;have HB:=n0_;have BK239:=n1_;have GW239:=n2_;have GE239:=n3_;clear n0_ n1_ n2_ n3_;clear hb hbox hg;have hcz11_0 : w10.cell? ⟨gb239,0,none⟩ = some (.slice A0_0 l0_0.length c0_0):=(blk_cell BK239.out 0).trans rfl;have hcz11_1 : w10.cell? ⟨gb239,1,none⟩ = some (.int .i64 a0_1):=(blk_cell BK239.out 1).trans rfl;have hcz11_2 : w10.cell? ⟨gb239,2,none⟩ = some (.bool a0_2):=(blk_cell BK239.out 2).trans rfl;have hcz11_3 : w10.cell? ⟨gb239,3,none⟩ = some (.int .i64 a0_3):=(blk_cell BK239.out 3).trans rfl;have hfz11_0:=blk_frozen BK239.out 0;have hfz11_1:=blk_frozen BK239.out 1;have hfz11_2:=blk_frozen BK239.out 2;have hfz11_3:=blk_frozen BK239.out 3)|((with_reducible refine gate_callee (f:=20) rfl ?_);refine goesL_ (some 8) rfl rfl Try.func20 (by kernel_rfl) rfl #[.agg #[.slice A0_0 l0_0.length c0_0,.int .i64 a0_1,.bool a0_2,.int .i64 a0_3],.slice A1 l1.length c1] rfl (by (try simp only [List.map_toArray,List.map_cons,List.map_nil]);first|done|rfl|(simp only [List.length_drop,List.length_take];rfl)) ?_;(with_reducible refine (spec_GoodGroup.calls k _ _ l0_0 a0_1 a0_2 a0_3 _ _ l1 false _ ?side1 ?side2 ?side3 ?side4 A3.out).mono ?_);(case side1=>repeat (first|exact (Kd.C_below HR0_0.out HB.out)|(with_reducible first|apply Kd.C_alloc|apply Kd.C_drewN|apply Kd.C_drew)));(case side2=>exact HC0_0.out);(case side3=>repeat (first|exact (Kd.C_below HR1.out HB.out)|(with_reducible first|apply Kd.C_alloc|apply Kd.C_drewN|apply Kd.C_drew)));(case side4=>exact HC1.out);rintro e w12 ⟨rfl,hb⟩;refine ⟨_,rfl,?_⟩;have n0_:=Aside0.mk (blk_below (g:=gb239) (o:=.cells #[.slice A0_0 l0_0.length c0_0,.int .i64 a0_1,.bool a0_2,.int .i64 a0_3] 39 (0,0)) (by (with_reducible repeat first|apply blk_drewN|apply blk_drew|apply blk_alloc);exact BK239.out) hb);have n1_:=Aside0.mk (below_step (by repeat (first|(with_reducible first|exact HB.out|apply below_alloc|apply pw_below_drewN|apply below_drew1|refine below_set ?_ GE239.out)|exact HB.out)) hb);clear BK239;clear HB;have BK239:=n0_;have HB:=n1_;clear n0_ n1_;(try clear hb);(try clear hb2);(try clear hk);(try clear hi)))
  go_ret2
  exact ⟨_,by first|rfl|(simp [*,errW_none,errW_some] <;> rfl),by first|exact Kd.S_nil _ _ _ _ _|exact Kd.N_nil _ _ _ _ _|exact Kd.V_nil _ _ _ _ _|exact Kd.Q_nil _ _ _ _ _|exact Kd.R_nil _ _ _ _ _,by repeat (first|(with_reducible first|exact HB.out|apply below_alloc|apply pw_below_drewN|apply below_drew1|refine below_set ?_ GE239.out)|exact HB.out)⟩

/-! ### impl_within: function 59 -/
def impl_within.f (a0 : Int) (a1 : Int) (a2 : Int) : Option (Bool):=if a1 ≤ a0 then (some (decide (a0 ≤ a2))) else (some false)
set_option maxHeartbeats 8000000 in
set_option maxRecDepth 100000 in
theorem impl_within.calls (a0 : Int) (a1 : Int) (a2 : Int) (r : Bool) (w : World) (h : impl_within.f a0 a1 a2 = some r) :
  Calls Try.prog 59 #[.int .i64 a0,.int .i64 a1,.int .i64 a2] w fun e w'=>e = .returned (.bool r)∧Drawn0 w w':=by
 have H : (if a1 ≤ a0 then (some (decide (a0 ≤ a2))) else (some false)) = some r:=h
 clear h
 by_cases c4 : a1 ≤ a0
 ·rw [if_pos c4] at H
  have c4b0 : decide (a1 ≤ a0) = true:=decide_eq_true c4
  clear c4
  obtain rfl:=Option.some.inj H
  go_enter Try.func59,Try.ntmps59
  go_wp2
  go_ret
  exact ⟨by first|rfl|(simp;done)|(simp [*];done),by repeat (first|exact Drawn0.refl _|apply Drawn0.step)⟩
 ·rw [if_neg c4] at H
  have c4b0 : decide (a1 ≤ a0) = false:=decide_eq_false c4
  clear c4
  obtain rfl:=Option.some.inj H
  go_enter Try.func59,Try.ntmps59
  go_wp2
  go_ret
  exact ⟨by first|rfl|(simp;done)|(simp [*];done),by repeat (first|exact Drawn0.refl _|apply Drawn0.step)⟩

end Go.Proofs.Ytfjboeeogjepeaa.PFnExactPlanOf
