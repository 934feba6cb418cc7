-- Written by a program of this session over the print of the kit (wip/t/patch_print.py).
import Derived.Test.YtlphbpaojcdjaaaPFnExactPutInx0
namespace Go.Proofs.Ytlphbpaojcdjaaa.PFnExactPutIn
open Go.RowKit Go.Proofs.YtlphbpaojcdjaaaW.PrintWords Go.Proofs.YtlphbpaojcdjaaaW.PrintLast Go.Proofs.YtlphbpaojcdjaaaW.PrintMore
attribute [local go_sem] max2_int min2_int max_two min_two max_three min_three max_four min_four   -- for this text's walks alone
set_option linter.unusedVariables false
set_option linter.unusedSimpArgs false

/-! ### spec_l5Own: function 66 -/
def spec_l5Own.l0 : Nat → List (List Int) → List (List Int) → Int → Int → List (List Int) → List Int → List Int → List Int → Option ((List (List Int)) × List Int × List Int × List Int)
 | 0,_,_,_,_,_,_,_,_=>none
 | k + 1,x3,x7,x8,x9,x193000,x193001,x193002,x193003=>if x9 < x8 then (if 0 ≤ x9 then (if x9 < (x7.length : Int) then ((some (([] : List Int) : List Int)).bind fun y195=>(if y195.length + (rd_L1 x7 x9).length < 140737488355328 then (if x3.length < 5864062014805 then (spec_l5Own.l0 k (x3 ++ [(y195 ++ (rd_L1 x7 x9))]) x7 x8 (wrap64 (x9 + 1)) x193000 x193001 x193002 x193003) else (none)) else (none))) else (none)) else (none)) else ((some (([] : List Int) : List Int)).bind fun y204=>(if y204.length + x193001.length < 140737488355328 then ((some (([] : List Int) : List Int)).bind fun y210=>(if y210.length + x193002.length < 17592186044416 then ((some (([] : List Int) : List Int)).bind fun y216=>(if y216.length + x193003.length < 17592186044416 then (some (x3,(y204 ++ x193001),(y210 ++ x193002),(y216 ++ x193003))) else (none))) else (none))) else (none)))
def spec_l5Own.f (k : Nat) (l0_0 : List (List Int)) (l0_1 : List Int) (l0_2 : List Int) (l0_3 : List Int) : Option ((List (List Int)) × List Int × List Int × List Int):=spec_l5Own.l0 k ([] : List (List Int)) l0_0 (l0_0.length : Int) 0 l0_0 l0_1 l0_2 l0_3
theorem spec_l5Own.mono_l : ∀ k,(∀ y0 y1 y2 y3 y4 y5 y6 y7,LeO (spec_l5Own.l0 k y0 y1 y2 y3 y4 y5 y6 y7) (spec_l5Own.l0 (k + 1) y0 y1 y2 y3 y4 y5 y6 y7))
 | 0=>fun _ _ _ _ _ _ _ _ r h=>by simp [spec_l5Own.l0] at h
 | k + 1=>by
  have ih0:=spec_l5Own.mono_l k
  ·intro y0 y1 y2 y3 y4 y5 y6 y7
   unfold spec_l5Own.l0
   repeat' first
   | (with_reducible exact ih0 _ _ _ _ _ _ _ _)
   | (with_reducible exact LeO.refl _)
   | (with_reducible exact LeO.none _)
   | (with_reducible refine LeO.ite ?_ ?_)
   | (with_reducible refine LeO.bind ?_ (fun _=>?_))
   | exact ih0 _ _ _ _ _ _ _ _
   | exact LeO.none _
   | refine LeO.ite ?_ ?_
   | refine LeO.bind ?_ (fun _=>?_)
theorem spec_l5Own.mono : ∀ a0 a1 a2 a3 k,LeO (spec_l5Own.f k a0 a1 a2 a3) (spec_l5Own.f (k + 1) a0 a1 a2 a3):=by
 intro a0 a1 a2 a3 k
 have ih0:=spec_l5Own.mono_l k
 unfold spec_l5Own.f
 repeat' first
   | (with_reducible exact ih0 _ _ _ _ _ _ _ _)
   | (with_reducible exact LeO.refl _)
   | (with_reducible exact LeO.none _)
   | (with_reducible refine LeO.ite ?_ ?_)
   | (with_reducible refine LeO.bind ?_ (fun _=>?_))
   | exact ih0 _ _ _ _ _ _ _ _
   | exact LeO.none _
   | refine LeO.ite ?_ ?_
   | refine LeO.bind ?_ (fun _=>?_)
def spec_l5Own.T7 : Bool × List (List Nat × List Nat):=(true,[([],[]),([],[]),([],[]),([2],[2]),([1,3],[1,3]),([],[]),([],[]),([6],[6]),([5,7,4],[5,7]),([],[]),([],[]),([10],[10]),([9,11,8],[9,11]),([0,4,8,12],[0,4,8,12]),([13,12,0,1,2,3,4,5,6,7,8,9,10,11,12,13],[13])])
def spec_l5Own.B7 : List Nat:=[0,0,0,4,14,0,0,64,254,0,0,1024,4094,8191,16383]
theorem spec_l5Own.tab7 : rtab .any (opsOf Try.f66 7) = spec_l5Own.T7:=by kernel_rfl
theorem spec_l5Own.bits7 : waitsOk spec_l5Own.T7.2 spec_l5Own.B7 = true:=by kernel_rfl
set_option maxHeartbeats 8000000 in
set_option maxRecDepth 100000 in
theorem spec_l5Own.calls (k : Nat) (A0_0 : Option Addr) (c0_0 : Nat) (l0_0 : List (List Int)) (A0_1 : Option Addr) (c0_1 : Nat) (l0_1 : List Int) (A0_2 : Option Addr) (c0_2 : Nat) (l0_2 : List Int) (A0_3 : Option Addr) (c0_3 : Nat) (l0_3 : List Int) (r1 : List (List Int)) (r2 : List Int) (r3 : List Int) (r4 : List Int) (w : World) (hr0_0 : Kd.C (Kd.slice 5 (Kd.int .u8)) w A0_0 l0_0.length l0_0) (hc0_0 : l0_0.length ≤ c0_0) (hr0_1 : Kd.C (Kd.int .u8) w A0_1 l0_1.length l0_1) (hc0_1 : l0_1.length ≤ c0_1) (hr0_2 : Kd.C (Kd.int .i64) w A0_2 l0_2.length l0_2) (hc0_2 : l0_2.length ≤ c0_2) (hr0_3 : Kd.C (Kd.int .i64) w A0_3 l0_3.length l0_3) (hc0_3 : l0_3.length ≤ c0_3) (h : spec_l5Own.f k l0_0 l0_1 l0_2 l0_3 = some (r1,r2,r3,r4)) :
  Calls Try.prog 66 #[.agg #[.slice A0_0 l0_0.length c0_0,.slice A0_1 l0_1.length c0_1,.slice A0_2 l0_2.length c0_2,.slice A0_3 l0_3.length c0_3]] w fun e w'=>∃ v0_ v1_ v2_ v3_ : Value,e = .returned (.agg #[v0_,v1_,v2_,v3_])∧Kd.S (Kd.slice 5 (Kd.int .u8)) 23 w' w.heap.size (fun k_=>some k_ ≠ (v1_ : Value).ownBlock) v0_ r1∧Kd.R (Kd.int .u8) 5 w' w.heap.size (fun _=>True) v1_ r2∧Kd.R (Kd.int .i64) 3 w' w.heap.size (fun k_=>some k_ ≠ (v3_ : Value).ownBlock) v2_ r3∧Kd.R (Kd.int .i64) 3 w' w.heap.size (fun k_=>some k_ ≠ (v2_ : Value).ownBlock) v3_ r4∧Below w.heap.size w w':=by
 have hu29:=Try.underlying29
 have HR0_0:=Aside0.mk hr0_0
 have HC0_0:=Aside0.mk hc0_0
 clear hr0_0 hc0_0
 have HR0_1:=Aside0.mk hr0_1
 have HC0_1:=Aside0.mk hc0_1
 clear hr0_1 hc0_1
 have HR0_2:=Aside0.mk hr0_2
 have HC0_2:=Aside0.mk hc0_2
 clear hr0_2 hc0_2
 have HR0_3:=Aside0.mk hr0_3
 have HC0_3:=Aside0.mk hc0_3
 clear hr0_3 hc0_3
 have HB:=Aside0.mk (Below.refl w.heap.size w)
 have H : (spec_l5Own.l0 k ([] : List (List Int)) l0_0 (l0_0.length : Int) 0 l0_0 l0_1 l0_2 l0_3) = some (r1,r2,r3,r4):=h
 clear h
 have H':=Aside0.mk H
 clear H
 go_enter Try.func66,Try.ntmps66
 go_wp2_with (first|((with_reducible refine gate_dst (N:=1) rfl ?_);refine box_event ?hg (N:=1) ?hd (cs:=#[.slice A0_0 l0_0.length c0_0,.slice A0_1 l0_1.length c0_1,.slice A0_2 l0_2.length c0_2,.slice A0_3 l0_3.length c0_3]) (t:=29) ?hr ?_;(case hd=>rfl);(case hg=>rfl);(case hr=>first|(go_simp;done)|(go_simp;rfl));intro gb192 hg w2 hbox hb;have n0_:=Aside0.mk (below_step (by repeat (first|exact HB.out|apply below_alloc|apply pw_below_drewN|apply below_drew1)) hb);have n1_:=Aside0.mk (hbox);have n2_:=Aside0.mk ((by rw [hg];exact (below_size (by repeat (first|exact HB.out|apply below_alloc|apply pw_below_drewN|apply below_drew1))) : w.heap.size ≤ gb192));have n3_:=Aside0.mk ((by rw [hg];exact (below_size (by repeat (first|exact HB.out|apply below_alloc|apply pw_below_drewN|apply below_drew1))) : w.heap.size ≤ gb192));clear HB;have HB:=n0_;have BK192:=n1_;have GW192:=n2_;have GE192:=n3_;clear n0_ n1_ n2_ n3_;clear hb hbox hg)|((with_reducible refine gate_dst (N:=2) rfl ?_);refine box_event ?hg (N:=2) ?hd (cs:=#[.slice none 0 0,.slice none 0 0,.slice none 0 0,.slice none 0 0]) (t:=29) ?hr ?_;(case hd=>rfl);(case hg=>rfl);(case hr=>first|(go_simp;done)|(go_simp;rfl));intro gb193 hg w3 hbox hb;have n0_:=Aside0.mk (blk_below (g:=gb192) (o:=.cells #[.slice A0_0 l0_0.length c0_0,.slice A0_1 l0_1.length c0_1,.slice A0_2 l0_2.length c0_2,.slice A0_3 l0_3.length c0_3] 29 (0,0)) (by exact BK192.out) hb);have n1_:=Aside0.mk (below_step (by repeat (first|(with_reducible first|exact HB.out|apply below_alloc|apply pw_below_drewN|apply below_drew1|refine below_set ?_ GE192.out)|exact HB.out)) hb);have n2_:=Aside0.mk (hbox);have n3_:=Aside0.mk ((by rw [hg];exact (below_size (by repeat (first|(with_reducible first|exact HB.out|apply below_alloc|apply pw_below_drewN|apply below_drew1|refine below_set ?_ GE192.out)|exact HB.out))) : w.heap.size ≤ gb193));have n4_:=Aside0.mk ((by rw [hg];exact (below_size (by repeat (first|(with_reducible first|exact HB.out|apply below_alloc|apply pw_below_drewN|apply below_drew1|refine below_set ?_ GE192.out)|exact HB.out))) : w.heap.size ≤ gb193));have n5_:=Aside0.mk ((by rw [hg];exact Nat.ne_of_lt (blk_lt (g:=gb192) (o:=.cells #[.slice A0_0 l0_0.length c0_0,.slice A0_1 l0_1.length c0_1,.slice A0_2 l0_2.length c0_2,.slice A0_3 l0_3.length c0_3] 29 (0,0)) (by exact BK192.out)) : gb192 ≠ gb193));have n6_:=Aside0.mk ((by rw [hg];exact Nat.ne_of_gt (blk_lt (g:=gb192) (o:=.cells #[.slice A0_0 l0_0.length c0_0,.slice A0_1 l0_1.length c0_1,.slice A0_2 l0_2.length c0_2,.slice A0_3 l0_3.length c0_3] 29 (0,0)) (by exact BK192.out)) : gb193 ≠ gb192));clear BK192;clear HB;have BK192:=n0_;have HB:=n1_;have BK193:=n2_;have GW193:=n3_;have GE193:=n4_;have NB192_193:=n5_;have NB193_192:=n6_;clear n0_ n1_ n2_ n3_ n4_ n5_ n6_;clear hb hbox hg;have hnb4:=NB192_193.out;have hnc4:=NB193_192.out;have hcz5_0 : w3.cell? ⟨gb192,0,none⟩ = some (.slice A0_0 l0_0.length c0_0):=(blk_cell BK192.out 0).trans rfl;have hcz5_1 : w3.cell? ⟨gb192,1,none⟩ = some (.slice A0_1 l0_1.length c0_1):=(blk_cell BK192.out 1).trans rfl;have hcz5_2 : w3.cell? ⟨gb192,2,none⟩ = some (.slice A0_2 l0_2.length c0_2):=(blk_cell BK192.out 2).trans rfl;have hcz5_3 : w3.cell? ⟨gb192,3,none⟩ = some (.slice A0_3 l0_3.length c0_3):=(blk_cell BK192.out 3).trans rfl;have hfz5_0:=blk_frozen BK192.out 0;have hfz5_1:=blk_frozen BK192.out 1;have hfz5_2:=blk_frozen BK192.out 2;have hfz5_3:=blk_frozen BK192.out 3))
 go_loopg [3,9] k (fun kq v3 v9 w'=>∃ (x3_1 : List (List Int)) (x9_1 : Int),v9 = .int .i64 x9_1∧Aside0 (spec_l5Own.l0 kq x3_1 l0_0 (l0_0.length : Int) x9_1 l0_0 l0_1 l0_2 l0_3 = some (r1,r2,r3,r4))∧Aside0 (kq ≤ k)∧Aside0 (Kd.S (Kd.slice 5 (Kd.int .u8)) 23 w' w.heap.size (fun _=>True) v3 x3_1)∧Aside0 (w'.heap[gb192]? = some (.cells #[(.slice A0_0 l0_0.length c0_0),(.slice A0_1 l0_1.length c0_1),(.slice A0_2 l0_2.length c0_2),(.slice A0_3 l0_3.length c0_3)] 29 (0,0)))∧Aside0 (w'.heap[gb193]? = some (.cells #[(.slice none 0 0),(.slice none 0 0),(.slice none 0 0),(.slice none 0 0)] 29 (0,0)))∧Aside0 (Below w.heap.size w w'))
 case atStart=>exact ⟨(([] : List (List Int))),(0),(by first|rfl|(simp;done)|(simp [*];done)),H',⟨Nat.le_refl _⟩,⟨by first|exact Kd.S_nil _ _ _ _ _|exact Kd.N_nil _ _ _ _ _|exact Kd.V_nil _ _ _ _ _|exact Kd.Q_nil _ _ _ _ _|exact Kd.R_nil _ _ _ _ _⟩,⟨by exact BK192.out⟩,⟨by exact BK193.out⟩,⟨by repeat (first|(with_reducible first|exact HB.out|apply below_alloc|apply pw_below_drewN|apply below_drew1|refine below_set ?_ GE192.out|refine below_set ?_ GE193.out)|exact HB.out)⟩⟩
 case round =>
  clear H'
  try clear p2;try clear c4;try clear hcz5_0;try clear hcz5_1;try clear hcz5_2;try clear hcz5_3;try clear hfz5_0;try clear hfz5_1;try clear hfz5_2;try clear hfz5_3
  obtain ⟨x3_1,x9_1,rfl,HA,HK1,HO_3,BK192,BK193,HB⟩:=hrel
  cases gk with
  | zero=>exact absurd HA.out (by simp [spec_l5Own.l0])
  | succ k1 =>
   have H:=HA.out
   clear HA
   simp only [spec_l5Own.l0] at H
   by_cases c6 : x9_1 < (l0_0.length : Int)
   ·rw [if_pos c6] at H
    have c6b0 : decide (x9_1 < (l0_0.length : Int)) = true:=decide_eq_true c6
    clear c6
    by_cases c7 : 0 ≤ x9_1
    ·rw [if_pos c7] at H
     have c7b0 : decide (0 ≤ x9_1) = true:=decide_eq_true c7
     clear c7
     by_cases c8 : x9_1 < (l0_0.length : Int)
     ·rw [if_pos c8] at H
      have c8b0 : decide (x9_1 < (l0_0.length : Int)) = true:=decide_eq_true c8
      clear c8
      obtain ⟨y195,hy195⟩ : ∃ y_ : List Int,y_ = (([] : List Int)):=⟨_,rfl⟩
      replace H : (if y195.length + (rd_L1 l0_0 x9_1).length < 140737488355328 then (if x3_1.length < 5864062014805 then (spec_l5Own.l0 k1 (x3_1 ++ [(y195 ++ (rd_L1 l0_0 x9_1))]) l0_0 (l0_0.length : Int) (wrap64 (x9_1 + 1)) l0_0 l0_1 l0_2 l0_3) else (none)) else (none)) = some (r1,r2,r3,r4):=by first|(rw [hy195];with_reducible exact H)|(have H2_:=(Option.bind_some _ _).symm.trans H;rw [hy195];with_reducible exact H2_)|(have H2_:=(Option.bind_some _ _).symm.trans H;with_reducible exact H2_)|with_reducible exact H|(rw [hy195];exact H)|exact H
      have Ny195:=Aside0.mk hy195
      clear hy195
      by_cases c9 : y195.length + (rd_L1 l0_0 x9_1).length < 140737488355328
      ·rw [if_pos c9] at H
       have LMc9:=Aside0.mk c9
       clear c9
       obtain ⟨y198,hy198⟩ : ∃ y_ : List Int,y_ = (y195 ++ (rd_L1 l0_0 x9_1)):=⟨_,rfl⟩
       replace H : (if x3_1.length < 5864062014805 then (spec_l5Own.l0 k1 (x3_1 ++ [y198]) l0_0 (l0_0.length : Int) (wrap64 (x9_1 + 1)) l0_0 l0_1 l0_2 l0_3) else (none)) = some (r1,r2,r3,r4):=by first|(rw [hy198];with_reducible exact H)|(have H2_:=(Option.bind_some _ _).symm.trans H;rw [hy198];with_reducible exact H2_)|(have H2_:=(Option.bind_some _ _).symm.trans H;with_reducible exact H2_)|with_reducible exact H|(rw [hy198];exact H)|exact H
       have Ny198:=Aside0.mk hy198
       clear hy198
       by_cases c10 : x3_1.length < 5864062014805
       ·rw [if_pos c10] at H
        have LMc10:=Aside0.mk c10
        clear c10
        obtain ⟨y201,hy201⟩ : ∃ y_ : List (List Int),y_ = (x3_1 ++ [y198]):=⟨_,rfl⟩
        replace H : (spec_l5Own.l0 k1 y201 l0_0 (l0_0.length : Int) (wrap64 (x9_1 + 1)) l0_0 l0_1 l0_2 l0_3) = some (r1,r2,r3,r4):=by first|(rw [hy201];with_reducible exact H)|(have H2_:=(Option.bind_some _ _).symm.trans H;rw [hy201];with_reducible exact H2_)|(have H2_:=(Option.bind_some _ _).symm.trans H;with_reducible exact H2_)|with_reducible exact H|(rw [hy201];exact H)|exact H
        have Ny201:=Aside0.mk hy201
        clear hy201
        have H':=Aside0.mk H
        clear H
        have p194 : 0 ≤ (x9_1 : Int):=of_decide_eq_true (by assumption)
        have q194 : x9_1 < (l0_0.length : Int):=of_decide_eq_true (by assumption)
        obtain ⟨ad194,A194_0,c194_0,e194,hx194_0,hl194_0,hi194_0⟩:=at_L1 HR0_0.out x9_1 p194 q194
        cases e194
        (try replace hx194_0:=(HB.out.cell (World.block_lt_of_cell? w _ hx194_0)).trans hx194_0)
        have HR194_0:=Aside0.mk hi194_0
        have HC194_0:=Aside0.mk hl194_0
        clear hi194_0 hl194_0
        replace p194:=eq_true p194
        replace q194:=eq_true q194
        go_wp2_with (first|((with_reducible refine gate_dst (N:=14) rfl ?_);refine Kd.R_lit (Kd.int .u8) _ 5 ?hg (N:=14) ?hd (xs:=([] : List Int)) (inner:=[]) (ok:=fun _=>True) (okp:=fun _=>True) ?hr ?hp (fun _ hk=>hk) trivial (Below.refl _ _) (Nat.le_refl _) (by simp) ?_;(case hd=>rfl);(case hg=>rfl);(case hr=>first|(go_simp;done)|(go_simp;rfl));(case hp=>exact (Reps.none _ _));intro v196 w11 ho12 hb hg_ hnew_;clear hg_ hnew_;(first|rw [← Ny195.out] at ho12|(simp only [Int.reduceToNat] at ho12;rw [← Ny195.out] at ho12));have n0_:=Aside0.mk (Kd.S_elder' (by exact HO_3.out) (Kd.R_base ho12) hb);have n1_:=Aside0.mk (Kd.R_lower ho12 (below_size (by repeat (first|(with_reducible first|exact HB.out|apply below_alloc|apply pw_below_drewN|apply below_drew1|refine below_set ?_ GE192.out|refine below_set ?_ GE193.out)|exact HB.out))));have n2_:=Aside0.mk (blk_below (g:=gb192) (o:=.cells #[.slice (some ad194) l0_0.length c0_0,.slice A0_1 l0_1.length c0_1,.slice A0_2 l0_2.length c0_2,.slice A0_3 l0_3.length c0_3] 29 (0,0)) (by exact BK192.out) hb);have n3_:=Aside0.mk (blk_below (g:=gb193) (o:=.cells #[.slice none 0 0,.slice none 0 0,.slice none 0 0,.slice none 0 0] 29 (0,0)) (by exact BK193.out) hb);have n4_:=Aside0.mk (below_step (by repeat (first|(with_reducible first|exact HB.out|apply below_alloc|apply pw_below_drewN|apply below_drew1|refine below_set ?_ GE192.out|refine below_set ?_ GE193.out)|exact HB.out)) hb);clear HO_3;clear BK192;clear BK193;clear HB;have HO_3:=n0_;have HO197:=n1_;have BK192:=n2_;have BK193:=n3_;have HB:=n4_;clear n0_ n1_ n2_ n3_ n4_;clear hb ho12)|((with_reducible refine gate_builtin (b:=.append) (xs:=#[.tmp 14,.tmp 15]) rfl ?_);at_builtin;refine Kd.R_append_rows (Kd.int .u8) (w0:=w) w.heap.size rfl (.tmp 14) (.tmp 15) 23 5 (.int .u8 0) 1 rfl Try.underlying23 info5 rfl (by decide) (by omega) v196 y195 (rd_L1 l0_0 x9_1) _ _ _ (fun _=>True) (fun _=>False) rfl rfl ?aO ?aR (fun _ _ h=>h) (fun _ h=>h.elim) ?aF ?aB ?aS ?aL ?_;(case aR=>repeat (first|exact (Kd.C_below HR194_0.out HB.out)|(with_reducible first|apply Kd.C_alloc|apply Kd.C_drewN|apply Kd.C_drew)));(case aB=>exact (by repeat (first|(with_reducible first|exact HB.out|apply below_alloc|apply pw_below_drewN|apply below_drew1|refine below_set ?_ GE192.out|refine below_set ?_ GE193.out)|exact HB.out)));(case aF=>exact (fun _ _=>trivial));(case aO=>exact (by exact HO197.out));(case aS=>exact (below_size (by repeat (first|(with_reducible first|exact HB.out|apply below_alloc|apply pw_below_drewN|apply below_drew1|refine below_set ?_ GE192.out|refine below_set ?_ GE193.out)|exact HB.out))));(case aL=>have:=LMc9.out;omega);intro v199 w13 ho hb hg hat;rw [← Ny198.out] at ho;have n0_:=Aside0.mk (Kd.S_after (ok:=(fun _=>True)) (by exact HO_3.out) hg hat);have n1_:=Aside0.mk (blk_grown (g:=gb192) (o:=.cells #[.slice (some ad194) l0_0.length c0_0,.slice A0_1 l0_1.length c0_1,.slice A0_2 l0_2.length c0_2,.slice A0_3 l0_3.length c0_3] 29 (0,0)) (by exact BK192.out) hg (Kd.R_ne HO197.out BK192.out (by decide)));have n2_:=Aside0.mk (blk_grown (g:=gb193) (o:=.cells #[.slice none 0 0,.slice none 0 0,.slice none 0 0,.slice none 0 0] 29 (0,0)) (by exact BK193.out) hg (Kd.R_ne HO197.out BK193.out (by decide)));have n3_:=Aside0.mk (hb);have n4_:=Aside0.mk (ho);clear HO_3;clear BK192;clear BK193;clear HB;clear HO197;have HO_3:=n0_;have BK192:=n1_;have BK193:=n2_;have HB:=n3_;have HO200:=n4_;clear n0_ n1_ n2_ n3_ n4_;clear ho hb hg hat;obtain ⟨Ao15,co15,eo15⟩:=Kd.R_slice HO200.out;subst eo15)|((with_reducible refine gate_builtin (b:=.append) (xs:=#[.tmp 13,.tmp 17]) rfl ?_);at_builtin;refine Kd.S_append (Kd.slice 5 (Kd.int .u8)) (w0:=w) w.heap.size rfl (.tmp 13) (.tmp 17) 22 23 (.slice none 0 0) 24 rfl Try.underlying22 info23 rfl (by decide) (by omega) u3 x3_1 y198 [.slice Ao15 y198.length co15] (fun _=>True) (fun k_=>some k_ = (.slice Ao15 y198.length co15 : Value).ownBlock) rfl rfl ?aP (fun k_ hk_=>((Kd.R_mono (ok':=fun k_=>((fun _=>True)) k_∧some k_ ≠ (u3 : Value).ownBlock) (Kd.R_apart' (HO200.out) (Kd.S_typed HO_3.out) (by decide)) (fun k_ hk=>⟨trivial,hk.2⟩))).1 k_ hk_.symm) ?aF ?aO ?aB ?aS ?aL ?_;(case aP=>exact Kd.M_row (Kd.R_mono (Kd.R_tight rfl (Kd.R_mono (ok':=fun k_=>((fun _=>True)) k_∧some k_ ≠ (u3 : Value).ownBlock) (Kd.R_apart' (HO200.out) (Kd.S_typed HO_3.out) (by decide)) (fun k_ hk=>⟨trivial,hk.2⟩))) (fun _ h_=>h_)));(case aB=>exact (by repeat (first|(with_reducible first|exact HB.out|apply below_alloc|apply pw_below_drewN|apply below_drew1|refine below_set ?_ GE192.out|refine below_set ?_ GE193.out)|exact HB.out)));(case aF=>exact (fun _ _=>trivial));(case aO=>exact (by exact Kd.S_mono HO_3.out (fun k_ hk=>⟨trivial,fun e_=>hk.2 e_⟩)));(case aS=>exact (below_size (by repeat (first|(with_reducible first|exact HB.out|apply below_alloc|apply pw_below_drewN|apply below_drew1|refine below_set ?_ GE192.out|refine below_set ?_ GE193.out)|exact HB.out))));(case aL=>have:=LMc10.out;omega);intro v202 w14 ho hb hg hat;rw [← Ny201.out] at ho;have n0_:=Aside0.mk (blk_grown (g:=gb192) (o:=.cells #[.slice (some ad194) l0_0.length c0_0,.slice A0_1 l0_1.length c0_1,.slice A0_2 l0_2.length c0_2,.slice A0_3 l0_3.length c0_3] 29 (0,0)) (by exact BK192.out) hg (Kd.S_ne HO_3.out BK192.out (by decide)));have n1_:=Aside0.mk (blk_grown (g:=gb193) (o:=.cells #[.slice none 0 0,.slice none 0 0,.slice none 0 0,.slice none 0 0] 29 (0,0)) (by exact BK193.out) hg (Kd.S_ne HO_3.out BK193.out (by decide)));have n2_:=Aside0.mk (hb);have n3_:=Aside0.mk (ho);clear BK192;clear BK193;clear HB;clear HO_3;clear HO200;have BK192:=n0_;have BK193:=n1_;have HB:=n2_;have HO203:=n3_;clear n0_ n1_ n2_ n3_;clear ho hb hg hat))
        go_roundg k1
        case measure=>have:=HK1.out;omega
        case rel=>exact ⟨(y201),(wrap64 (x9_1 + 1)),(by first|rfl|(simp;done)|(simp [*];done)),H',⟨by have:=HK1.out;omega⟩,⟨by exact HO203.out⟩,⟨by exact BK192.out⟩,⟨by exact BK193.out⟩,⟨by repeat (first|(with_reducible first|exact HB.out|apply below_alloc|apply pw_below_drewN|apply below_drew1|refine below_set ?_ GE192.out|refine below_set ?_ GE193.out)|exact HB.out)⟩⟩
       ·rw [if_neg c10] at H
        exact absurd H (by simp)
      ·rw [if_neg c9] at H
       exact absurd H (by simp)
     ·rw [if_neg c8] at H
      exact absurd H (by simp)
    ·rw [if_neg c7] at H
     exact absurd H (by simp)
   ·rw [if_neg c6] at H
    have c6b0 : decide (x9_1 < (l0_0.length : Int)) = false:=decide_eq_false c6
    clear c6
    obtain ⟨y204,hy204⟩ : ∃ y_ : List Int,y_ = (([] : List Int)):=⟨_,rfl⟩
    replace H : (if y204.length + l0_1.length < 140737488355328 then ((some (([] : List Int) : List Int)).bind fun y210=>(if y210.length + l0_2.length < 17592186044416 then ((some (([] : List Int) : List Int)).bind fun y216=>(if y216.length + l0_3.length < 17592186044416 then (some (x3_1,(y204 ++ l0_1),(y210 ++ l0_2),(y216 ++ l0_3))) else (none))) else (none))) else (none)) = some (r1,r2,r3,r4):=by first|(rw [hy204];with_reducible exact H)|(have H2_:=(Option.bind_some _ _).symm.trans H;rw [hy204];with_reducible exact H2_)|(have H2_:=(Option.bind_some _ _).symm.trans H;with_reducible exact H2_)|with_reducible exact H|(rw [hy204];exact H)|exact H
    have Ny204:=Aside0.mk hy204
    clear hy204
    by_cases c16 : y204.length + l0_1.length < 140737488355328
    ·rw [if_pos c16] at H
     have LMc16:=Aside0.mk c16
     clear c16
     obtain ⟨y207,hy207⟩ : ∃ y_ : List Int,y_ = (y204 ++ l0_1):=⟨_,rfl⟩
     replace H : ((some (([] : List Int) : List Int)).bind fun y210=>(if y210.length + l0_2.length < 17592186044416 then ((some (([] : List Int) : List Int)).bind fun y216=>(if y216.length + l0_3.length < 17592186044416 then (some (x3_1,y207,(y210 ++ l0_2),(y216 ++ l0_3))) else (none))) else (none))) = some (r1,r2,r3,r4):=by first|(rw [hy207];with_reducible exact H)|(have H2_:=(Option.bind_some _ _).symm.trans H;rw [hy207];with_reducible exact H2_)|(have H2_:=(Option.bind_some _ _).symm.trans H;with_reducible exact H2_)|with_reducible exact H|(rw [hy207];exact H)|exact H
     have Ny207:=Aside0.mk hy207
     clear hy207
     obtain ⟨y210,hy210⟩ : ∃ y_ : List Int,y_ = (([] : List Int)):=⟨_,rfl⟩
     replace H : (if y210.length + l0_2.length < 17592186044416 then ((some (([] : List Int) : List Int)).bind fun y216=>(if y216.length + l0_3.length < 17592186044416 then (some (x3_1,y207,(y210 ++ l0_2),(y216 ++ l0_3))) else (none))) else (none)) = some (r1,r2,r3,r4):=by first|(rw [hy210];with_reducible exact H)|(have H2_:=(Option.bind_some _ _).symm.trans H;rw [hy210];with_reducible exact H2_)|(have H2_:=(Option.bind_some _ _).symm.trans H;with_reducible exact H2_)|with_reducible exact H|(rw [hy210];exact H)|exact H
     have Ny210:=Aside0.mk hy210
     clear hy210
     by_cases c17 : y210.length + l0_2.length < 17592186044416
     ·rw [if_pos c17] at H
      have LMc17:=Aside0.mk c17
      clear c17
      obtain ⟨y213,hy213⟩ : ∃ y_ : List Int,y_ = (y210 ++ l0_2):=⟨_,rfl⟩
      replace H : ((some (([] : List Int) : List Int)).bind fun y216=>(if y216.length + l0_3.length < 17592186044416 then (some (x3_1,y207,y213,(y216 ++ l0_3))) else (none))) = some (r1,r2,r3,r4):=by first|(rw [hy213];with_reducible exact H)|(have H2_:=(Option.bind_some _ _).symm.trans H;rw [hy213];with_reducible exact H2_)|(have H2_:=(Option.bind_some _ _).symm.trans H;with_reducible exact H2_)|with_reducible exact H|(rw [hy213];exact H)|exact H
      have Ny213:=Aside0.mk hy213
      clear hy213
      obtain ⟨y216,hy216⟩ : ∃ y_ : List Int,y_ = (([] : List Int)):=⟨_,rfl⟩
      replace H : (if y216.length + l0_3.length < 17592186044416 then (some (x3_1,y207,y213,(y216 ++ l0_3))) else (none)) = some (r1,r2,r3,r4):=by first|(rw [hy216];with_reducible exact H)|(have H2_:=(Option.bind_some _ _).symm.trans H;rw [hy216];with_reducible exact H2_)|(have H2_:=(Option.bind_some _ _).symm.trans H;with_reducible exact H2_)|with_reducible exact H|(rw [hy216];exact H)|exact H
      have Ny216:=Aside0.mk hy216
      clear hy216
      by_cases c18 : y216.length + l0_3.length < 17592186044416
      ·rw [if_pos c18] at H
       have LMc18:=Aside0.mk c18
       clear c18
       obtain ⟨y219,hy219⟩ : ∃ y_ : List Int,y_ = (y216 ++ l0_3):=⟨_,rfl⟩
       replace H : (some (x3_1,y207,y213,y219)) = some (r1,r2,r3,r4):=by first|(rw [hy219];with_reducible exact H)|(have H2_:=(Option.bind_some _ _).symm.trans H;rw [hy219];with_reducible exact H2_)|(have H2_:=(Option.bind_some _ _).symm.trans H;with_reducible exact H2_)|with_reducible exact H|(rw [hy219];exact H)|exact H
       have Ny219:=Aside0.mk hy219
       clear hy219
       simp only [Option.some.injEq,Prod.mk.injEq] at H
       obtain ⟨rfl,rfl,rfl,rfl⟩:=H
       try go_wp2
       have n0_:=Aside0.mk (Kd.S_drew HO_3.out)
       have n1_:=Aside0.mk (blk_drew BK192.out)
       have n2_:=Aside0.mk (blk_drew BK193.out)
       have n3_:=Aside0.mk (below_drew1 HB.out)
       clear HO_3
       clear BK192
       clear BK193
       clear HB
       have HO_3:=n0_
       have BK192:=n1_
       have BK193:=n2_
       have HB:=n3_
       clear n0_ n1_ n2_ n3_
       refine start_ (n:=15) (S:=fun w'=>w'.cell? ⟨gb192,0,none⟩ = some (.slice A0_0 l0_0.length c0_0)∧w'.cell? ⟨gb192,1,none⟩ = some (.slice A0_1 l0_1.length c0_1)∧w'.cell? ⟨gb192,2,none⟩ = some (.slice A0_2 l0_2.length c0_2)∧w'.cell? ⟨gb192,3,none⟩ = some (.slice A0_3 l0_3.length c0_3)) (ds:=[]) #[false,false,false,false,false,false,false,false,false,false,false,false,false,false,false] (by kernel_rfl) rfl rfl ⟨(blk_cell BK192.out 0).trans rfl,(blk_cell BK192.out 1).trans rfl,(blk_cell BK192.out 2).trans rfl,(blk_cell BK192.out 3).trans rfl⟩ (fun hHeld=>?_);refine with_tabW spec_l5Own.tab7 spec_l5Own.bits7 (fun HT_ HW_=>?_)
       generalize wr.drew = w19 at HO_3 BK192 BK193 HB hHeld ⊢
       refine pure_ (i:=0) (N:=some 20) (v:=?_) (a':=?_) #[true,false,false,false,false,false,false,false,false,false,false,false,false,false,false] rfl rfl (any_of HT_.out (by kernel_rfl)) (fun _ _ _ h=>h) (Or.inl ⟨by rfl,?_⟩) ?_ ?_
       rotate_left
       ·intro w'
        go_simp
        with_reducible rfl
       rotate_left
       ·simp only [Act.put,List.setIfInBounds_toArray,List.set_cons_zero,List.set_cons_succ,i64_w,i32_w]
        rfl
       refine pure_ (i:=2) (N:=some 22) (v:=?_) (a':=?_) #[true,false,true,false,false,false,false,false,false,false,false,false,false,false,false] rfl rfl (any_of HT_.out (by kernel_rfl)) (fun _ _ _ h=>h) (Or.inl ⟨by rfl,?_⟩) ?_ ?_
       rotate_left
       ·intro w'
        go_simp
        with_reducible rfl
       rotate_left
       ·simp only [Act.put,List.setIfInBounds_toArray,List.set_cons_zero,List.set_cons_succ,i64_w,i32_w]
        rfl
       refine pure_ (i:=6) (N:=some 26) (v:=?_) (a':=?_) #[true,false,true,false,false,false,true,false,false,false,false,false,false,false,false] rfl rfl (any_of HT_.out (by kernel_rfl)) (fun _ _ _ h=>h) (Or.inl ⟨by rfl,?_⟩) ?_ ?_
       rotate_left
       ·intro w'
        go_simp
        with_reducible rfl
       rotate_left
       ·simp only [Act.put,List.setIfInBounds_toArray,List.set_cons_zero,List.set_cons_succ,i64_w,i32_w]
        rfl
       refine pure_ (i:=10) (N:=some 30) (v:=?_) (a':=?_) #[true,false,true,false,false,false,true,false,false,false,true,false,false,false,false] rfl rfl (any_of HT_.out (by kernel_rfl)) (fun _ _ _ h=>h) (Or.inl ⟨by rfl,?_⟩) ?_ ?_
       rotate_left
       ·intro w'
        go_simp
        with_reducible rfl
       rotate_left
       ·simp only [Act.put,List.setIfInBounds_toArray,List.set_cons_zero,List.set_cons_succ,i64_w,i32_w]
        rfl
       refine take_ (i:=3) (N:=some 23) (v:=?_) (a':=?_) #[true,false,true,true,false,false,true,false,false,false,true,false,false,false,false] rfl rfl (take_ofW HT_.out HW_.out (by kernel_rfl)) (fun _ _ _ h=>h) (Or.inl ⟨by rfl,?_⟩) hHeld ?_ ?_
       rotate_left
       ·rintro w' ⟨s0,s1,s2,s3⟩
        go_simp
        with_reducible rfl
       rotate_left
       ·simp only [Act.put,List.setIfInBounds_toArray,List.set_cons_zero,List.set_cons_succ,i64_w,i32_w]
        rfl
       refine take_ (i:=7) (N:=some 27) (v:=?_) (a':=?_) #[true,false,true,true,false,false,true,true,false,false,true,false,false,false,false] rfl rfl (take_ofW HT_.out HW_.out (by kernel_rfl)) (fun _ _ _ h=>h) (Or.inl ⟨by rfl,?_⟩) hHeld ?_ ?_
       rotate_left
       ·rintro w' ⟨s0,s1,s2,s3⟩
        go_simp
        with_reducible rfl
       rotate_left
       ·simp only [Act.put,List.setIfInBounds_toArray,List.set_cons_zero,List.set_cons_succ,i64_w,i32_w]
        rfl
       refine take_ (i:=11) (N:=some 31) (v:=?_) (a':=?_) #[true,false,true,true,false,false,true,true,false,false,true,true,false,false,false] rfl rfl (take_ofW HT_.out HW_.out (by kernel_rfl)) (fun _ _ _ h=>h) (Or.inl ⟨by rfl,?_⟩) hHeld ?_ ?_
       rotate_left
       ·rintro w' ⟨s0,s1,s2,s3⟩
        go_simp
        with_reducible rfl
       rotate_left
       ·simp only [Act.put,List.setIfInBounds_toArray,List.set_cons_zero,List.set_cons_succ,i64_w,i32_w]
        rfl
       refine join_ (σ:=Value × Value × Value × Value × Value) 3 #[true,true,true,true,true,true,true,true,true,true,true,true,false,false,false] (fun s_=>[(21,s_.1),(24,s_.2.1),(25,s_.2.2.1),(28,s_.2.2.2.1),(29,s_.2.2.2.2)]) (fun s_ w'=>(w'.cell? ⟨gb192,0,none⟩ = some (.slice A0_0 l0_0.length c0_0)∧w'.cell? ⟨gb192,1,none⟩ = some (.slice A0_1 l0_1.length c0_1)∧w'.cell? ⟨gb192,2,none⟩ = some (.slice A0_2 l0_2.length c0_2)∧w'.cell? ⟨gb192,3,none⟩ = some (.slice A0_3 l0_3.length c0_3))∧(Kd.R (Kd.int .u8) 5 w' w.heap.size (fun _=>True) s_.2.1 y207)∧(Kd.R (Kd.int .i64) 3 w' w.heap.size (fun k_=>some k_ ≠ (s_.2.2.2.2 : Value).ownBlock) s_.2.2.2.1 y213)∧(Kd.R (Kd.int .i64) 3 w' w.heap.size (fun k_=>some k_ ≠ (s_.2.2.2.1 : Value).ownBlock) s_.2.2.2.2 y216)∧(Kd.S (Kd.slice 5 (Kd.int .u8)) 23 w' w.heap.size (fun k_=>some k_ ≠ (s_.2.1 : Value).ownBlock) u3 x3_1)∧(w'.heap[gb192]? = some (.cells #[.slice A0_0 l0_0.length c0_0,.slice A0_1 l0_1.length c0_1,.slice A0_2 l0_2.length c0_2,.slice A0_3 l0_3.length c0_3] 29 (0,0)))∧(w'.heap[gb193]? = some (.cells #[.slice none 0 0,.slice none 0 0,.slice none 0 0,.slice none 0 0] 29 (0,0)))∧(Below w.heap.size w w')) ?_ ?_
       rotate_left
       ·intro hJ1_4_5_8_9
        refine join_ (σ:=Value × Value × Value × Value) 4 #[true,true,true,true,true,true,true,true,true,false,true,true,false,false,false] (fun s_=>[(21,s_.1),(24,s_.2.1),(25,s_.2.2.1),(28,s_.2.2.2)]) (fun s_ w'=>(w'.cell? ⟨gb192,0,none⟩ = some (.slice A0_0 l0_0.length c0_0)∧w'.cell? ⟨gb192,1,none⟩ = some (.slice A0_1 l0_1.length c0_1)∧w'.cell? ⟨gb192,2,none⟩ = some (.slice A0_2 l0_2.length c0_2)∧w'.cell? ⟨gb192,3,none⟩ = some (.slice A0_3 l0_3.length c0_3))∧(Kd.R (Kd.int .u8) 5 w' w.heap.size (fun _=>True) s_.2.1 y207)∧(Kd.R (Kd.int .i64) 3 w' w.heap.size (fun _=>True) s_.2.2.2 y213)∧(Kd.S (Kd.slice 5 (Kd.int .u8)) 23 w' w.heap.size (fun k_=>some k_ ≠ (s_.2.1 : Value).ownBlock) u3 x3_1)∧(w'.heap[gb192]? = some (.cells #[.slice A0_0 l0_0.length c0_0,.slice A0_1 l0_1.length c0_1,.slice A0_2 l0_2.length c0_2,.slice A0_3 l0_3.length c0_3] 29 (0,0)))∧(w'.heap[gb193]? = some (.cells #[.slice none 0 0,.slice none 0 0,.slice none 0 0,.slice none 0 0] 29 (0,0)))∧(Below w.heap.size w w')) ?_ ?_
        rotate_left
        ·intro hJ1_4_5_8
         refine join_ (σ:=Value × Value × Value × Value) 4 #[true,true,true,true,true,true,true,true,false,true,true,true,false,false,false] (fun s_=>[(21,s_.1),(24,s_.2.1),(25,s_.2.2.1),(29,s_.2.2.2)]) (fun s_ w'=>(w'.cell? ⟨gb192,0,none⟩ = some (.slice A0_0 l0_0.length c0_0)∧w'.cell? ⟨gb192,1,none⟩ = some (.slice A0_1 l0_1.length c0_1)∧w'.cell? ⟨gb192,2,none⟩ = some (.slice A0_2 l0_2.length c0_2)∧w'.cell? ⟨gb192,3,none⟩ = some (.slice A0_3 l0_3.length c0_3))∧(Kd.R (Kd.int .u8) 5 w' w.heap.size (fun _=>True) s_.2.1 y207)∧(Kd.R (Kd.int .i64) 3 w' w.heap.size (fun k_=>some k_ ≠ (s_.2.2.2 : Value).ownBlock) s_.2.2.1 y210)∧(Kd.R (Kd.int .i64) 3 w' w.heap.size (fun k_=>some k_ ≠ (s_.2.2.1 : Value).ownBlock) s_.2.2.2 y216)∧(Kd.S (Kd.slice 5 (Kd.int .u8)) 23 w' w.heap.size (fun k_=>some k_ ≠ (s_.2.1 : Value).ownBlock) u3 x3_1)∧(w'.heap[gb192]? = some (.cells #[.slice A0_0 l0_0.length c0_0,.slice A0_1 l0_1.length c0_1,.slice A0_2 l0_2.length c0_2,.slice A0_3 l0_3.length c0_3] 29 (0,0)))∧(w'.heap[gb193]? = some (.cells #[.slice none 0 0,.slice none 0 0,.slice none 0 0,.slice none 0 0] 29 (0,0)))∧(Below w.heap.size w w')) ?_ ?_
         rotate_left
         ·intro hJ1_4_5_9
          refine join_ (σ:=Value × Value × Value) 5 #[true,true,true,true,true,true,true,true,false,false,true,true,false,false,false] (fun s_=>[(21,s_.1),(24,s_.2.1),(25,s_.2.2)]) (fun s_ w'=>(w'.cell? ⟨gb192,0,none⟩ = some (.slice A0_0 l0_0.length c0_0)∧w'.cell? ⟨gb192,1,none⟩ = some (.slice A0_1 l0_1.length c0_1)∧w'.cell? ⟨gb192,2,none⟩ = some (.slice A0_2 l0_2.length c0_2)∧w'.cell? ⟨gb192,3,none⟩ = some (.slice A0_3 l0_3.length c0_3))∧(Kd.R (Kd.int .u8) 5 w' w.heap.size (fun _=>True) s_.2.1 y207)∧(Kd.R (Kd.int .i64) 3 w' w.heap.size (fun _=>True) s_.2.2 y210)∧(Kd.S (Kd.slice 5 (Kd.int .u8)) 23 w' w.heap.size (fun k_=>some k_ ≠ (s_.2.1 : Value).ownBlock) u3 x3_1)∧(w'.heap[gb192]? = some (.cells #[.slice A0_0 l0_0.length c0_0,.slice A0_1 l0_1.length c0_1,.slice A0_2 l0_2.length c0_2,.slice A0_3 l0_3.length c0_3] 29 (0,0)))∧(w'.heap[gb193]? = some (.cells #[.slice none 0 0,.slice none 0 0,.slice none 0 0,.slice none 0 0] 29 (0,0)))∧(Below w.heap.size w w')) ?_ ?_
          rotate_left
          ·intro hJ1_4_5
           refine join_ (σ:=Value × Value × Value) 5 #[true,true,true,true,true,false,true,true,false,true,true,true,false,false,false] (fun s_=>[(21,s_.1),(24,s_.2.1),(29,s_.2.2)]) (fun s_ w'=>(w'.cell? ⟨gb192,0,none⟩ = some (.slice A0_0 l0_0.length c0_0)∧w'.cell? ⟨gb192,1,none⟩ = some (.slice A0_1 l0_1.length c0_1)∧w'.cell? ⟨gb192,2,none⟩ = some (.slice A0_2 l0_2.length c0_2)∧w'.cell? ⟨gb192,3,none⟩ = some (.slice A0_3 l0_3.length c0_3))∧(Kd.R (Kd.int .u8) 5 w' w.heap.size (fun _=>True) s_.2.1 y207)∧(Kd.R (Kd.int .i64) 3 w' w.heap.size (fun _=>True) s_.2.2 y216)∧(Kd.S (Kd.slice 5 (Kd.int .u8)) 23 w' w.heap.size (fun k_=>some k_ ≠ (s_.2.1 : Value).ownBlock) u3 x3_1)∧(w'.heap[gb192]? = some (.cells #[.slice A0_0 l0_0.length c0_0,.slice A0_1 l0_1.length c0_1,.slice A0_2 l0_2.length c0_2,.slice A0_3 l0_3.length c0_3] 29 (0,0)))∧(w'.heap[gb193]? = some (.cells #[.slice none 0 0,.slice none 0 0,.slice none 0 0,.slice none 0 0] 29 (0,0)))∧(Below w.heap.size w w')) ?_ ?_
           rotate_left
           ·intro hJ1_4_9
            refine join_ (σ:=Value × Value × Value) 5 #[true,true,true,true,false,true,true,true,false,true,true,true,false,false,false] (fun s_=>[(21,s_.1),(25,s_.2.1),(29,s_.2.2)]) (fun s_ w'=>(w'.cell? ⟨gb192,0,none⟩ = some (.slice A0_0 l0_0.length c0_0)∧w'.cell? ⟨gb192,1,none⟩ = some (.slice A0_1 l0_1.length c0_1)∧w'.cell? ⟨gb192,2,none⟩ = some (.slice A0_2 l0_2.length c0_2)∧w'.cell? ⟨gb192,3,none⟩ = some (.slice A0_3 l0_3.length c0_3))∧(Kd.R (Kd.int .u8) 5 w' w.heap.size (fun _=>True) s_.1 y204)∧(Kd.R (Kd.int .i64) 3 w' w.heap.size (fun k_=>some k_ ≠ (s_.2.2 : Value).ownBlock) s_.2.1 y210)∧(Kd.R (Kd.int .i64) 3 w' w.heap.size (fun k_=>some k_ ≠ (s_.2.1 : Value).ownBlock) s_.2.2 y216)∧(Kd.S (Kd.slice 5 (Kd.int .u8)) 23 w' w.heap.size (fun k_=>some k_ ≠ (s_.1 : Value).ownBlock) u3 x3_1)∧(w'.heap[gb192]? = some (.cells #[.slice A0_0 l0_0.length c0_0,.slice A0_1 l0_1.length c0_1,.slice A0_2 l0_2.length c0_2,.slice A0_3 l0_3.length c0_3] 29 (0,0)))∧(w'.heap[gb193]? = some (.cells #[.slice none 0 0,.slice none 0 0,.slice none 0 0,.slice none 0 0] 29 (0,0)))∧(Below w.heap.size w w')) ?_ ?_
            rotate_left
            ·intro hJ1_5_9
             refine join_ (σ:=Value × Value) 6 #[true,true,true,true,true,false,true,true,false,false,true,true,false,false,false] (fun s_=>[(21,s_.1),(24,s_.2)]) (fun s_ w'=>(w'.cell? ⟨gb192,0,none⟩ = some (.slice A0_0 l0_0.length c0_0)∧w'.cell? ⟨gb192,1,none⟩ = some (.slice A0_1 l0_1.length c0_1)∧w'.cell? ⟨gb192,2,none⟩ = some (.slice A0_2 l0_2.length c0_2)∧w'.cell? ⟨gb192,3,none⟩ = some (.slice A0_3 l0_3.length c0_3))∧(Kd.R (Kd.int .u8) 5 w' w.heap.size (fun _=>True) s_.2 y207)∧(Kd.S (Kd.slice 5 (Kd.int .u8)) 23 w' w.heap.size (fun k_=>some k_ ≠ (s_.2 : Value).ownBlock) u3 x3_1)∧(w'.heap[gb192]? = some (.cells #[.slice A0_0 l0_0.length c0_0,.slice A0_1 l0_1.length c0_1,.slice A0_2 l0_2.length c0_2,.slice A0_3 l0_3.length c0_3] 29 (0,0)))∧(w'.heap[gb193]? = some (.cells #[.slice none 0 0,.slice none 0 0,.slice none 0 0,.slice none 0 0] 29 (0,0)))∧(Below w.heap.size w w')) ?_ ?_
             rotate_left
             ·intro hJ1_4
              refine join_ (σ:=Value × Value) 6 #[true,true,true,true,false,true,true,true,false,false,true,true,false,false,false] (fun s_=>[(21,s_.1),(25,s_.2)]) (fun s_ w'=>(w'.cell? ⟨gb192,0,none⟩ = some (.slice A0_0 l0_0.length c0_0)∧w'.cell? ⟨gb192,1,none⟩ = some (.slice A0_1 l0_1.length c0_1)∧w'.cell? ⟨gb192,2,none⟩ = some (.slice A0_2 l0_2.length c0_2)∧w'.cell? ⟨gb192,3,none⟩ = some (.slice A0_3 l0_3.length c0_3))∧(Kd.R (Kd.int .u8) 5 w' w.heap.size (fun _=>True) s_.1 y204)∧(Kd.R (Kd.int .i64) 3 w' w.heap.size (fun _=>True) s_.2 y210)∧(Kd.S (Kd.slice 5 (Kd.int .u8)) 23 w' w.heap.size (fun k_=>some k_ ≠ (s_.1 : Value).ownBlock) u3 x3_1)∧(w'.heap[gb192]? = some (.cells #[.slice A0_0 l0_0.length c0_0,.slice A0_1 l0_1.length c0_1,.slice A0_2 l0_2.length c0_2,.slice A0_3 l0_3.length c0_3] 29 (0,0)))∧(w'.heap[gb193]? = some (.cells #[.slice none 0 0,.slice none 0 0,.slice none 0 0,.slice none 0 0] 29 (0,0)))∧(Below w.heap.size w w')) ?_ ?_
              rotate_left
              ·intro hJ1_5
               refine join_ (σ:=Value × Value) 6 #[true,true,true,true,false,false,true,true,false,true,true,true,false,false,false] (fun s_=>[(21,s_.1),(29,s_.2)]) (fun s_ w'=>(w'.cell? ⟨gb192,0,none⟩ = some (.slice A0_0 l0_0.length c0_0)∧w'.cell? ⟨gb192,1,none⟩ = some (.slice A0_1 l0_1.length c0_1)∧w'.cell? ⟨gb192,2,none⟩ = some (.slice A0_2 l0_2.length c0_2)∧w'.cell? ⟨gb192,3,none⟩ = some (.slice A0_3 l0_3.length c0_3))∧(Kd.R (Kd.int .u8) 5 w' w.heap.size (fun _=>True) s_.1 y204)∧(Kd.R (Kd.int .i64) 3 w' w.heap.size (fun _=>True) s_.2 y216)∧(Kd.S (Kd.slice 5 (Kd.int .u8)) 23 w' w.heap.size (fun k_=>some k_ ≠ (s_.1 : Value).ownBlock) u3 x3_1)∧(w'.heap[gb192]? = some (.cells #[.slice A0_0 l0_0.length c0_0,.slice A0_1 l0_1.length c0_1,.slice A0_2 l0_2.length c0_2,.slice A0_3 l0_3.length c0_3] 29 (0,0)))∧(w'.heap[gb193]? = some (.cells #[.slice none 0 0,.slice none 0 0,.slice none 0 0,.slice none 0 0] 29 (0,0)))∧(Below w.heap.size w w')) ?_ ?_
               rotate_left
               ·intro hJ1_9
                refine join_ (σ:=Value × Value) 6 #[true,false,true,true,false,true,true,true,false,true,true,true,false,false,false] (fun s_=>[(25,s_.1),(29,s_.2)]) (fun s_ w'=>(w'.cell? ⟨gb192,0,none⟩ = some (.slice A0_0 l0_0.length c0_0)∧w'.cell? ⟨gb192,1,none⟩ = some (.slice A0_1 l0_1.length c0_1)∧w'.cell? ⟨gb192,2,none⟩ = some (.slice A0_2 l0_2.length c0_2)∧w'.cell? ⟨gb192,3,none⟩ = some (.slice A0_3 l0_3.length c0_3))∧(Kd.R (Kd.int .i64) 3 w' w.heap.size (fun k_=>some k_ ≠ (s_.2 : Value).ownBlock) s_.1 y210)∧(Kd.R (Kd.int .i64) 3 w' w.heap.size (fun k_=>some k_ ≠ (s_.1 : Value).ownBlock) s_.2 y216)∧(Kd.S (Kd.slice 5 (Kd.int .u8)) 23 w' w.heap.size (fun _=>True) u3 x3_1)∧(w'.heap[gb192]? = some (.cells #[.slice A0_0 l0_0.length c0_0,.slice A0_1 l0_1.length c0_1,.slice A0_2 l0_2.length c0_2,.slice A0_3 l0_3.length c0_3] 29 (0,0)))∧(w'.heap[gb193]? = some (.cells #[.slice none 0 0,.slice none 0 0,.slice none 0 0,.slice none 0 0] 29 (0,0)))∧(Below w.heap.size w w')) ?_ ?_
                rotate_left
                ·intro hJ5_9
                 refine join_ (σ:=Value) 7 #[true,true,true,true,false,false,true,true,false,false,true,true,false,false,false] (fun s_=>[(21,s_)]) (fun s_ w'=>(w'.cell? ⟨gb192,0,none⟩ = some (.slice A0_0 l0_0.length c0_0)∧w'.cell? ⟨gb192,1,none⟩ = some (.slice A0_1 l0_1.length c0_1)∧w'.cell? ⟨gb192,2,none⟩ = some (.slice A0_2 l0_2.length c0_2)∧w'.cell? ⟨gb192,3,none⟩ = some (.slice A0_3 l0_3.length c0_3))∧(Kd.R (Kd.int .u8) 5 w' w.heap.size (fun _=>True) s_ y204)∧(Kd.S (Kd.slice 5 (Kd.int .u8)) 23 w' w.heap.size (fun k_=>some k_ ≠ (s_ : Value).ownBlock) u3 x3_1)∧(w'.heap[gb192]? = some (.cells #[.slice A0_0 l0_0.length c0_0,.slice A0_1 l0_1.length c0_1,.slice A0_2 l0_2.length c0_2,.slice A0_3 l0_3.length c0_3] 29 (0,0)))∧(w'.heap[gb193]? = some (.cells #[.slice none 0 0,.slice none 0 0,.slice none 0 0,.slice none 0 0] 29 (0,0)))∧(Below w.heap.size w w')) ?_ ?_
                 rotate_left
                 ·intro hJ1
                  refine join_ (σ:=Value) 7 #[true,false,true,true,false,true,true,true,false,false,true,true,false,false,false] (fun s_=>[(25,s_)]) (fun s_ w'=>(w'.cell? ⟨gb192,0,none⟩ = some (.slice A0_0 l0_0.length c0_0)∧w'.cell? ⟨gb192,1,none⟩ = some (.slice A0_1 l0_1.length c0_1)∧w'.cell? ⟨gb192,2,none⟩ = some (.slice A0_2 l0_2.length c0_2)∧w'.cell? ⟨gb192,3,none⟩ = some (.slice A0_3 l0_3.length c0_3))∧(Kd.R (Kd.int .i64) 3 w' w.heap.size (fun _=>True) s_ y210)∧(Kd.S (Kd.slice 5 (Kd.int .u8)) 23 w' w.heap.size (fun _=>True) u3 x3_1)∧(w'.heap[gb192]? = some (.cells #[.slice A0_0 l0_0.length c0_0,.slice A0_1 l0_1.length c0_1,.slice A0_2 l0_2.length c0_2,.slice A0_3 l0_3.length c0_3] 29 (0,0)))∧(w'.heap[gb193]? = some (.cells #[.slice none 0 0,.slice none 0 0,.slice none 0 0,.slice none 0 0] 29 (0,0)))∧(Below w.heap.size w w')) ?_ ?_
                  rotate_left
                  ·intro hJ5
                   refine join_ (σ:=Value) 7 #[true,false,true,true,false,false,true,true,false,true,true,true,false,false,false] (fun s_=>[(29,s_)]) (fun s_ w'=>(w'.cell? ⟨gb192,0,none⟩ = some (.slice A0_0 l0_0.length c0_0)∧w'.cell? ⟨gb192,1,none⟩ = some (.slice A0_1 l0_1.length c0_1)∧w'.cell? ⟨gb192,2,none⟩ = some (.slice A0_2 l0_2.length c0_2)∧w'.cell? ⟨gb192,3,none⟩ = some (.slice A0_3 l0_3.length c0_3))∧(Kd.R (Kd.int .i64) 3 w' w.heap.size (fun _=>True) s_ y216)∧(Kd.S (Kd.slice 5 (Kd.int .u8)) 23 w' w.heap.size (fun _=>True) u3 x3_1)∧(w'.heap[gb192]? = some (.cells #[.slice A0_0 l0_0.length c0_0,.slice A0_1 l0_1.length c0_1,.slice A0_2 l0_2.length c0_2,.slice A0_3 l0_3.length c0_3] 29 (0,0)))∧(w'.heap[gb193]? = some (.cells #[.slice none 0 0,.slice none 0 0,.slice none 0 0,.slice none 0 0] 29 (0,0)))∧(Below w.heap.size w w')) ?_ ?_
                   rotate_left
                   ·intro hJ9
                    refine three_ (i:=1) (j:=5) (k:=9) (Ni:=some 21) (Nj:=some 25) (Nk:=some 29) #[true,true,true,true,false,false,true,true,false,false,true,true,false,false,false] #[true,false,true,true,false,true,true,true,false,false,true,true,false,false,false] #[true,false,true,true,false,false,true,true,false,true,true,true,false,false,false] rfl rfl rfl rfl rfl rfl (three_of HT_.out (by kernel_rfl)) (by decide) (by decide) (by decide) (fun K hK=>?_) (fun K hK=>?_) (fun K hK=>?_)
                    ·skip
                     refine Kd.R_lit_step (Kd.int .u8) _ 5 ?hg (N:=21) ?hd (xs:=([] : List Int)) (inner:=[]) (ok:=fun _=>True) (okp:=fun _=>True) ?hr ?hp (fun _ hk=>hk) trivial (Below.refl _ _) (Nat.le_refl _) (by simp) ?_;(case hd=>rfl);(case hg=>rfl);(case hr=>first|(go_simp;done)|(go_simp;rfl));(case hp=>exact (Reps.none _ _))
                     intro v205 w20 ho21 hb hg_ hnew_
                     clear hg_ hnew_
                     (first|rw [← Ny204.out] at ho21|(simp only [Int.reduceToNat] at ho21;rw [← Ny204.out] at ho21))
                     have n0_:=Aside0.mk (Kd.S_elder' (by exact HO_3.out) (Kd.R_base ho21) hb)
                     have n1_:=Aside0.mk (Kd.R_lower ho21 (below_size (by repeat (first|(with_reducible first|exact HB.out|apply below_alloc|apply pw_below_drewN|apply below_drew1|refine below_set ?_ GE192.out|refine below_set ?_ GE193.out)|exact HB.out))))
                     have n2_:=Aside0.mk (blk_below (g:=gb192) (o:=.cells #[.slice A0_0 l0_0.length c0_0,.slice A0_1 l0_1.length c0_1,.slice A0_2 l0_2.length c0_2,.slice A0_3 l0_3.length c0_3] 29 (0,0)) (by exact BK192.out) hb)
                     have n3_:=Aside0.mk (blk_below (g:=gb193) (o:=.cells #[.slice none 0 0,.slice none 0 0,.slice none 0 0,.slice none 0 0] 29 (0,0)) (by exact BK193.out) hb)
                     have n4_:=Aside0.mk (below_step (by repeat (first|(with_reducible first|exact HB.out|apply below_alloc|apply pw_below_drewN|apply below_drew1|refine below_set ?_ GE192.out|refine below_set ?_ GE193.out)|exact HB.out)) hb)
                     clear HO_3
                     clear BK192
                     clear BK193
                     clear HB
                     have HO_3:=n0_
                     have HO206:=n1_
                     have BK192:=n2_
                     have BK193:=n3_
                     have HB:=n4_
                     clear n0_ n1_ n2_ n3_ n4_
                     clear hb ho21
                     refine hK.out _ _ ⟨(blk_cell BK192.out 0).trans rfl,(blk_cell BK192.out 1).trans rfl,(blk_cell BK192.out 2).trans rfl,(blk_cell BK192.out 3).trans rfl⟩ (fun hHeld=>?_)
                     clear hK K
                     refine norm_ (a':=?_) ?_ ?_
                     rotate_left
                     ·show Act.put _ (some 21) _ = _
                      simp only [Act.put,List.setIfInBounds_toArray,List.set_cons_zero,List.set_cons_succ,i64_w,i32_w]
                      rfl
                     exact norm_ (by first|(simp only [putAll,Act.put,List.setIfInBounds_toArray,List.set_cons_zero,List.set_cons_succ];done)|(simp only [putAll,Act.put,List.setIfInBounds_toArray,List.set_cons_zero,List.set_cons_succ];rfl)) (hJ1 (v205) _ ⟨hHeld,(by exact HO206.out),(by exact Kd.S_mono HO_3.out (fun _ hk=>hk.2)),(by exact BK192.out),(by exact BK193.out),(by repeat (first|(with_reducible first|exact HB.out|apply below_alloc|apply pw_below_drewN|apply below_drew1|refine below_set ?_ GE192.out|refine below_set ?_ GE193.out)|exact HB.out))⟩)
                    ·skip
                     refine Kd.R_lit_step (Kd.int .i64) _ 3 ?hg (N:=25) ?hd (xs:=([] : List Int)) (inner:=[]) (ok:=fun _=>True) (okp:=fun _=>True) ?hr ?hp (fun _ hk=>hk) trivial (Below.refl _ _) (Nat.le_refl _) (by simp) ?_;(case hd=>rfl);(case hg=>rfl);(case hr=>first|(go_simp;done)|(go_simp;rfl));(case hp=>exact (Reps.none _ _))
                     intro v211 w20 ho21 hb hg_ hnew_
                     clear hg_ hnew_
                     (first|rw [← Ny210.out] at ho21|(simp only [Int.reduceToNat] at ho21;rw [← Ny210.out] at ho21))
                     have n0_:=Aside0.mk (Kd.S_below (by exact HO_3.out) hb)
                     have n1_:=Aside0.mk (Kd.R_lower ho21 (below_size (by repeat (first|(with_reducible first|exact HB.out|apply below_alloc|apply pw_below_drewN|apply below_drew1|refine below_set ?_ GE192.out|refine below_set ?_ GE193.out)|exact HB.out))))
                     have n2_:=Aside0.mk (blk_below (g:=gb192) (o:=.cells #[.slice A0_0 l0_0.length c0_0,.slice A0_1 l0_1.length c0_1,.slice A0_2 l0_2.length c0_2,.slice A0_3 l0_3.length c0_3] 29 (0,0)) (by exact BK192.out) hb)
                     have n3_:=Aside0.mk (blk_below (g:=gb193) (o:=.cells #[.slice none 0 0,.slice none 0 0,.slice none 0 0,.slice none 0 0] 29 (0,0)) (by exact BK193.out) hb)
                     have n4_:=Aside0.mk (below_step (by repeat (first|(with_reducible first|exact HB.out|apply below_alloc|apply pw_below_drewN|apply below_drew1|refine below_set ?_ GE192.out|refine below_set ?_ GE193.out)|exact HB.out)) hb)
                     clear HO_3
                     clear BK192
                     clear BK193
                     clear HB
                     have HO_3:=n0_
                     have HO212:=n1_
                     have BK192:=n2_
                     have BK193:=n3_
                     have HB:=n4_
                     clear n0_ n1_ n2_ n3_ n4_
                     clear hb ho21
                     refine hK.out _ _ ⟨(blk_cell BK192.out 0).trans rfl,(blk_cell BK192.out 1).trans rfl,(blk_cell BK192.out 2).trans rfl,(blk_cell BK192.out 3).trans rfl⟩ (fun hHeld=>?_)
                     clear hK K
                     refine norm_ (a':=?_) ?_ ?_
                     rotate_left
                     ·show Act.put _ (some 25) _ = _
                      simp only [Act.put,List.setIfInBounds_toArray,List.set_cons_zero,List.set_cons_succ,i64_w,i32_w]
                      rfl
                     exact norm_ (by first|(simp only [putAll,Act.put,List.setIfInBounds_toArray,List.set_cons_zero,List.set_cons_succ];done)|(simp only [putAll,Act.put,List.setIfInBounds_toArray,List.set_cons_zero,List.set_cons_succ];rfl)) (hJ5 (v211) _ ⟨hHeld,(by exact HO212.out),(by exact HO_3.out),(by exact BK192.out),(by exact BK193.out),(by repeat (first|(with_reducible first|exact HB.out|apply below_alloc|apply pw_below_drewN|apply below_drew1|refine below_set ?_ GE192.out|refine below_set ?_ GE193.out)|exact HB.out))⟩)
                    ·skip
                     refine Kd.R_lit_step (Kd.int .i64) _ 3 ?hg (N:=29) ?hd (xs:=([] : List Int)) (inner:=[]) (ok:=fun _=>True) (okp:=fun _=>True) ?hr ?hp (fun _ hk=>hk) trivial (Below.refl _ _) (Nat.le_refl _) (by simp) ?_;(case hd=>rfl);(case hg=>rfl);(case hr=>first|(go_simp;done)|(go_simp;rfl));(case hp=>exact (Reps.none _ _))
                     intro v217 w20 ho21 hb hg_ hnew_
                     clear hg_ hnew_
                     (first|rw [← Ny216.out] at ho21|(simp only [Int.reduceToNat] at ho21;rw [← Ny216.out] at ho21))
                     have n0_:=Aside0.mk (Kd.S_below (by exact HO_3.out) hb)
                     have n1_:=Aside0.mk (Kd.R_lower ho21 (below_size (by repeat (first|(with_reducible first|exact HB.out|apply below_alloc|apply pw_below_drewN|apply below_drew1|refine below_set ?_ GE192.out|refine below_set ?_ GE193.out)|exact HB.out))))
                     have n2_:=Aside0.mk (blk_below (g:=gb192) (o:=.cells #[.slice A0_0 l0_0.length c0_0,.slice A0_1 l0_1.length c0_1,.slice A0_2 l0_2.length c0_2,.slice A0_3 l0_3.length c0_3] 29 (0,0)) (by exact BK192.out) hb)
                     have n3_:=Aside0.mk (blk_below (g:=gb193) (o:=.cells #[.slice none 0 0,.slice none 0 0,.slice none 0 0,.slice none 0 0] 29 (0,0)) (by exact BK193.out) hb)
                     have n4_:=Aside0.mk (below_step (by repeat (first|(with_reducible first|exact HB.out|apply below_alloc|apply pw_below_drewN|apply below_drew1|refine below_set ?_ GE192.out|refine below_set ?_ GE193.out)|exact HB.out)) hb)
                     clear HO_3
                     clear BK192
                     clear BK193
                     clear HB
                     have HO_3:=n0_
                     have HO218:=n1_
                     have BK192:=n2_
                     have BK193:=n3_
                     have HB:=n4_
                     clear n0_ n1_ n2_ n3_ n4_
                     clear hb ho21
                     refine hK.out _ _ ⟨(blk_cell BK192.out 0).trans rfl,(blk_cell BK192.out 1).trans rfl,(blk_cell BK192.out 2).trans rfl,(blk_cell BK192.out 3).trans rfl⟩ (fun hHeld=>?_)
                     clear hK K
                     refine norm_ (a':=?_) ?_ ?_
                     rotate_left
                     ·show Act.put _ (some 29) _ = _
                      simp only [Act.put,List.setIfInBounds_toArray,List.set_cons_zero,List.set_cons_succ,i64_w,i32_w]
                      rfl
                     exact norm_ (by first|(simp only [putAll,Act.put,List.setIfInBounds_toArray,List.set_cons_zero,List.set_cons_succ];done)|(simp only [putAll,Act.put,List.setIfInBounds_toArray,List.set_cons_zero,List.set_cons_succ];rfl)) (hJ9 (v217) _ ⟨hHeld,(by exact HO218.out),(by exact HO_3.out),(by exact BK192.out),(by exact BK193.out),(by repeat (first|(with_reducible first|exact HB.out|apply below_alloc|apply pw_below_drewN|apply below_drew1|refine below_set ?_ GE192.out|refine below_set ?_ GE193.out)|exact HB.out))⟩)
                   ·skip
                    rintro v217 w22 ⟨hS_,h0_,h1_,h2_,h3_,h4_⟩
                    have n0_ : Aside0 (Kd.R (Kd.int .i64) 3 w22 w.heap.size (fun _=>True) v217 y216):=⟨h0_⟩
                    have n1_ : Aside0 (Kd.S (Kd.slice 5 (Kd.int .u8)) 23 w22 w.heap.size (fun _=>True) u3 x3_1):=⟨h1_⟩
                    have n2_ : Aside0 (w22.heap[gb192]? = some (.cells #[.slice A0_0 l0_0.length c0_0,.slice A0_1 l0_1.length c0_1,.slice A0_2 l0_2.length c0_2,.slice A0_3 l0_3.length c0_3] 29 (0,0))):=⟨h2_⟩
                    have n3_ : Aside0 (w22.heap[gb193]? = some (.cells #[.slice none 0 0,.slice none 0 0,.slice none 0 0,.slice none 0 0] 29 (0,0))):=⟨h3_⟩
                    have n4_ : Aside0 (Below w.heap.size w w22):=⟨h4_⟩
                    clear HO_3
                    clear BK192
                    clear BK193
                    clear HB
                    clear h0_ h1_ h2_ h3_ h4_
                    have HO218:=n0_
                    have HO_3:=n1_
                    have BK192:=n2_
                    have BK193:=n3_
                    have HB:=n4_
                    clear n0_ n1_ n2_ n3_ n4_
                    have hHeld : w22.cell? ⟨gb192,0,none⟩ = some (.slice A0_0 l0_0.length c0_0)∧w22.cell? ⟨gb192,1,none⟩ = some (.slice A0_1 l0_1.length c0_1)∧w22.cell? ⟨gb192,2,none⟩ = some (.slice A0_2 l0_2.length c0_2)∧w22.cell? ⟨gb192,3,none⟩ = some (.slice A0_3 l0_3.length c0_3):=hS_
                    refine norm_ (a':=?_) ?_ ?_
                    rotate_left
                    ·simp only [putAll,Act.put,List.setIfInBounds_toArray,List.set_cons_zero,List.set_cons_succ]
                     rfl
                    refine two_ (i:=1) (j:=5) (Ni:=some 21) (Nj:=some 25) #[true,true,true,true,false,false,true,true,false,true,true,true,false,false,false] #[true,false,true,true,false,true,true,true,false,true,true,true,false,false,false] rfl rfl rfl rfl (two_of HT_.out (by kernel_rfl)) (by decide) (by decide) (fun K hK=>?_) (fun K hK=>?_)
                    ·skip
                     refine Kd.R_lit_step (Kd.int .u8) _ 5 ?hg (N:=21) ?hd (xs:=([] : List Int)) (inner:=[]) (ok:=fun _=>True) (okp:=fun _=>True) ?hr ?hp (fun _ hk=>hk) trivial (Below.refl _ _) (Nat.le_refl _) (by simp) ?_;(case hd=>rfl);(case hg=>rfl);(case hr=>first|(go_simp;done)|(go_simp;rfl));(case hp=>exact (Reps.none _ _))
                     intro v205 w23 ho24 hb hg_ hnew_
                     clear hg_ hnew_
                     (first|rw [← Ny204.out] at ho24|(simp only [Int.reduceToNat] at ho24;rw [← Ny204.out] at ho24))
                     have n0_:=Aside0.mk (Kd.S_elder' (by exact HO_3.out) (Kd.R_base ho24) hb)
                     have n1_:=Aside0.mk (Kd.R_below (by exact HO218.out) hb)
                     have n2_:=Aside0.mk (Kd.R_lower ho24 (below_size (by repeat (first|(with_reducible first|exact HB.out|apply below_alloc|apply pw_below_drewN|apply below_drew1|refine below_set ?_ GE192.out|refine below_set ?_ GE193.out)|exact HB.out))))
                     have n3_:=Aside0.mk (blk_below (g:=gb192) (o:=.cells #[.slice A0_0 l0_0.length c0_0,.slice A0_1 l0_1.length c0_1,.slice A0_2 l0_2.length c0_2,.slice A0_3 l0_3.length c0_3] 29 (0,0)) (by exact BK192.out) hb)
                     have n4_:=Aside0.mk (blk_below (g:=gb193) (o:=.cells #[.slice none 0 0,.slice none 0 0,.slice none 0 0,.slice none 0 0] 29 (0,0)) (by exact BK193.out) hb)
                     have n5_:=Aside0.mk (below_step (by repeat (first|(with_reducible first|exact HB.out|apply below_alloc|apply pw_below_drewN|apply below_drew1|refine below_set ?_ GE192.out|refine below_set ?_ GE193.out)|exact HB.out)) hb)
                     clear HO_3
                     clear HO218
                     clear BK192
                     clear BK193
                     clear HB
                     have HO_3:=n0_
                     have HO218:=n1_
                     have HO206:=n2_
                     have BK192:=n3_
                     have BK193:=n4_
                     have HB:=n5_
                     clear n0_ n1_ n2_ n3_ n4_ n5_
                     clear hb ho24
                     refine hK.out _ _ ⟨(blk_cell BK192.out 0).trans rfl,(blk_cell BK192.out 1).trans rfl,(blk_cell BK192.out 2).trans rfl,(blk_cell BK192.out 3).trans rfl⟩ (fun hHeld=>?_)
                     clear hK K
                     refine norm_ (a':=?_) ?_ ?_
                     rotate_left
                     ·show Act.put _ (some 21) _ = _
                      simp only [Act.put,List.setIfInBounds_toArray,List.set_cons_zero,List.set_cons_succ,i64_w,i32_w]
                      rfl
                     exact norm_ (by first|(simp only [putAll,Act.put,List.setIfInBounds_toArray,List.set_cons_zero,List.set_cons_succ];done)|(simp only [putAll,Act.put,List.setIfInBounds_toArray,List.set_cons_zero,List.set_cons_succ];rfl)) (hJ1_9 (v205,v217) _ ⟨hHeld,(by exact HO206.out),(by exact HO218.out),(by exact Kd.S_mono HO_3.out (fun _ hk=>hk.2)),(by exact BK192.out),(by exact BK193.out),(by repeat (first|(with_reducible first|exact HB.out|apply below_alloc|apply pw_below_drewN|apply below_drew1|refine below_set ?_ GE192.out|refine below_set ?_ GE193.out)|exact HB.out))⟩)
                    ·skip
                     refine Kd.R_lit_step (Kd.int .i64) _ 3 ?hg (N:=25) ?hd (xs:=([] : List Int)) (inner:=[]) (ok:=fun _=>True) (okp:=fun _=>True) ?hr ?hp (fun _ hk=>hk) trivial (Below.refl _ _) (Nat.le_refl _) (by simp) ?_;(case hd=>rfl);(case hg=>rfl);(case hr=>first|(go_simp;done)|(go_simp;rfl));(case hp=>exact (Reps.none _ _))
                     intro v211 w23 ho24 hb hg_ hnew_
                     clear hg_ hnew_
                     (first|rw [← Ny210.out] at ho24|(simp only [Int.reduceToNat] at ho24;rw [← Ny210.out] at ho24))
                     have n0_:=Aside0.mk (Kd.S_below (by exact HO_3.out) hb)
                     have n1_:=Aside0.mk (Kd.R_elder' (by exact HO218.out) (Kd.R_base ho24) hb)
                     have n2_:=Aside0.mk (Kd.R_lower (Kd.R_new' ho24 (Kd.R_lt (by exact HO218.out))) (below_size (by repeat (first|(with_reducible first|exact HB.out|apply below_alloc|apply pw_below_drewN|apply below_drew1|refine below_set ?_ GE192.out|refine below_set ?_ GE193.out)|exact HB.out))))
                     have n3_:=Aside0.mk (blk_below (g:=gb192) (o:=.cells #[.slice A0_0 l0_0.length c0_0,.slice A0_1 l0_1.length c0_1,.slice A0_2 l0_2.length c0_2,.slice A0_3 l0_3.length c0_3] 29 (0,0)) (by exact BK192.out) hb)
                     have n4_:=Aside0.mk (blk_below (g:=gb193) (o:=.cells #[.slice none 0 0,.slice none 0 0,.slice none 0 0,.slice none 0 0] 29 (0,0)) (by exact BK193.out) hb)
                     have n5_:=Aside0.mk (below_step (by repeat (first|(with_reducible first|exact HB.out|apply below_alloc|apply pw_below_drewN|apply below_drew1|refine below_set ?_ GE192.out|refine below_set ?_ GE193.out)|exact HB.out)) hb)
                     clear HO_3
                     clear HO218
                     clear BK192
                     clear BK193
                     clear HB
                     have HO_3:=n0_
                     have HO218:=n1_
                     have HO212:=n2_
                     have BK192:=n3_
                     have BK193:=n4_
                     have HB:=n5_
                     clear n0_ n1_ n2_ n3_ n4_ n5_
                     clear hb ho24
                     refine hK.out _ _ ⟨(blk_cell BK192.out 0).trans rfl,(blk_cell BK192.out 1).trans rfl,(blk_cell BK192.out 2).trans rfl,(blk_cell BK192.out 3).trans rfl⟩ (fun hHeld=>?_)
                     clear hK K
                     refine norm_ (a':=?_) ?_ ?_
                     rotate_left
                     ·show Act.put _ (some 25) _ = _
                      simp only [Act.put,List.setIfInBounds_toArray,List.set_cons_zero,List.set_cons_succ,i64_w,i32_w]
                      rfl
                     exact norm_ (by first|(simp only [putAll,Act.put,List.setIfInBounds_toArray,List.set_cons_zero,List.set_cons_succ];done)|(simp only [putAll,Act.put,List.setIfInBounds_toArray,List.set_cons_zero,List.set_cons_succ];rfl)) (hJ5_9 (v211,v217) _ ⟨hHeld,(by exact Kd.R_mono HO212.out (fun _ hk=>hk.2)),(by exact Kd.R_mono HO218.out (fun _ hk=>hk.2)),(by exact HO_3.out),(by exact BK192.out),(by exact BK193.out),(by repeat (first|(with_reducible first|exact HB.out|apply below_alloc|apply pw_below_drewN|apply below_drew1|refine below_set ?_ GE192.out|refine below_set ?_ GE193.out)|exact HB.out))⟩)
                  ·skip
                   rintro v211 w22 ⟨hS_,h0_,h1_,h2_,h3_,h4_⟩
                   have n0_ : Aside0 (Kd.R (Kd.int .i64) 3 w22 w.heap.size (fun _=>True) v211 y210):=⟨h0_⟩
                   have n1_ : Aside0 (Kd.S (Kd.slice 5 (Kd.int .u8)) 23 w22 w.heap.size (fun _=>True) u3 x3_1):=⟨h1_⟩
                   have n2_ : Aside0 (w22.heap[gb192]? = some (.cells #[.slice A0_0 l0_0.length c0_0,.slice A0_1 l0_1.length c0_1,.slice A0_2 l0_2.length c0_2,.slice A0_3 l0_3.length c0_3] 29 (0,0))):=⟨h2_⟩
                   have n3_ : Aside0 (w22.heap[gb193]? = some (.cells #[.slice none 0 0,.slice none 0 0,.slice none 0 0,.slice none 0 0] 29 (0,0))):=⟨h3_⟩
                   have n4_ : Aside0 (Below w.heap.size w w22):=⟨h4_⟩
                   clear HO_3
                   clear BK192
                   clear BK193
                   clear HB
                   clear h0_ h1_ h2_ h3_ h4_
                   have HO212:=n0_
                   have HO_3:=n1_
                   have BK192:=n2_
                   have BK193:=n3_
                   have HB:=n4_
                   clear n0_ n1_ n2_ n3_ n4_
                   have hHeld : w22.cell? ⟨gb192,0,none⟩ = some (.slice A0_0 l0_0.length c0_0)∧w22.cell? ⟨gb192,1,none⟩ = some (.slice A0_1 l0_1.length c0_1)∧w22.cell? ⟨gb192,2,none⟩ = some (.slice A0_2 l0_2.length c0_2)∧w22.cell? ⟨gb192,3,none⟩ = some (.slice A0_3 l0_3.length c0_3):=hS_
                   refine norm_ (a':=?_) ?_ ?_
                   rotate_left
                   ·simp only [putAll,Act.put,List.setIfInBounds_toArray,List.set_cons_zero,List.set_cons_succ]
                    rfl
                   refine two_ (i:=1) (j:=9) (Ni:=some 21) (Nj:=some 29) #[true,true,true,true,false,true,true,true,false,false,true,true,false,false,false] #[true,false,true,true,false,true,true,true,false,true,true,true,false,false,false] rfl rfl rfl rfl (two_of HT_.out (by kernel_rfl)) (by decide) (by decide) (fun K hK=>?_) (fun K hK=>?_)
                   ·skip
                    refine Kd.R_lit_step (Kd.int .u8) _ 5 ?hg (N:=21) ?hd (xs:=([] : List Int)) (inner:=[]) (ok:=fun _=>True) (okp:=fun _=>True) ?hr ?hp (fun _ hk=>hk) trivial (Below.refl _ _) (Nat.le_refl _) (by simp) ?_;(case hd=>rfl);(case hg=>rfl);(case hr=>first|(go_simp;done)|(go_simp;rfl));(case hp=>exact (Reps.none _ _))
                    intro v205 w23 ho24 hb hg_ hnew_
                    clear hg_ hnew_
                    (first|rw [← Ny204.out] at ho24|(simp only [Int.reduceToNat] at ho24;rw [← Ny204.out] at ho24))
                    have n0_:=Aside0.mk (Kd.S_elder' (by exact HO_3.out) (Kd.R_base ho24) hb)
                    have n1_:=Aside0.mk (Kd.R_below (by exact HO212.out) hb)
                    have n2_:=Aside0.mk (Kd.R_lower ho24 (below_size (by repeat (first|(with_reducible first|exact HB.out|apply below_alloc|apply pw_below_drewN|apply below_drew1|refine below_set ?_ GE192.out|refine below_set ?_ GE193.out)|exact HB.out))))
                    have n3_:=Aside0.mk (blk_below (g:=gb192) (o:=.cells #[.slice A0_0 l0_0.length c0_0,.slice A0_1 l0_1.length c0_1,.slice A0_2 l0_2.length c0_2,.slice A0_3 l0_3.length c0_3] 29 (0,0)) (by exact BK192.out) hb)
                    have n4_:=Aside0.mk (blk_below (g:=gb193) (o:=.cells #[.slice none 0 0,.slice none 0 0,.slice none 0 0,.slice none 0 0] 29 (0,0)) (by exact BK193.out) hb)
                    have n5_:=Aside0.mk (below_step (by repeat (first|(with_reducible first|exact HB.out|apply below_alloc|apply pw_below_drewN|apply below_drew1|refine below_set ?_ GE192.out|refine below_set ?_ GE193.out)|exact HB.out)) hb)
                    clear HO_3
                    clear HO212
                    clear BK192
                    clear BK193
                    clear HB
                    have HO_3:=n0_
                    have HO212:=n1_
                    have HO206:=n2_
                    have BK192:=n3_
                    have BK193:=n4_
                    have HB:=n5_
                    clear n0_ n1_ n2_ n3_ n4_ n5_
                    clear hb ho24
                    refine hK.out _ _ ⟨(blk_cell BK192.out 0).trans rfl,(blk_cell BK192.out 1).trans rfl,(blk_cell BK192.out 2).trans rfl,(blk_cell BK192.out 3).trans rfl⟩ (fun hHeld=>?_)
                    clear hK K
                    refine norm_ (a':=?_) ?_ ?_
                    rotate_left
                    ·show Act.put _ (some 21) _ = _
                     simp only [Act.put,List.setIfInBounds_toArray,List.set_cons_zero,List.set_cons_succ,i64_w,i32_w]
                     rfl
                    exact norm_ (by first|(simp only [putAll,Act.put,List.setIfInBounds_toArray,List.set_cons_zero,List.set_cons_succ];done)|(simp only [putAll,Act.put,List.setIfInBounds_toArray,List.set_cons_zero,List.set_cons_succ];rfl)) (hJ1_5 (v205,v211) _ ⟨hHeld,(by exact HO206.out),(by exact HO212.out),(by exact Kd.S_mono HO_3.out (fun _ hk=>hk.2)),(by exact BK192.out),(by exact BK193.out),(by repeat (first|(with_reducible first|exact HB.out|apply below_alloc|apply pw_below_drewN|apply below_drew1|refine below_set ?_ GE192.out|refine below_set ?_ GE193.out)|exact HB.out))⟩)
                   ·skip
                    refine Kd.R_lit_step (Kd.int .i64) _ 3 ?hg (N:=29) ?hd (xs:=([] : List Int)) (inner:=[]) (ok:=fun _=>True) (okp:=fun _=>True) ?hr ?hp (fun _ hk=>hk) trivial (Below.refl _ _) (Nat.le_refl _) (by simp) ?_;(case hd=>rfl);(case hg=>rfl);(case hr=>first|(go_simp;done)|(go_simp;rfl));(case hp=>exact (Reps.none _ _))
                    intro v217 w23 ho24 hb hg_ hnew_
                    clear hg_ hnew_
                    (first|rw [← Ny216.out] at ho24|(simp only [Int.reduceToNat] at ho24;rw [← Ny216.out] at ho24))
                    have n0_:=Aside0.mk (Kd.S_below (by exact HO_3.out) hb)
                    have n1_:=Aside0.mk (Kd.R_elder' (by exact HO212.out) (Kd.R_base ho24) hb)
                    have n2_:=Aside0.mk (Kd.R_lower (Kd.R_new' ho24 (Kd.R_lt (by exact HO212.out))) (below_size (by repeat (first|(with_reducible first|exact HB.out|apply below_alloc|apply pw_below_drewN|apply below_drew1|refine below_set ?_ GE192.out|refine below_set ?_ GE193.out)|exact HB.out))))
                    have n3_:=Aside0.mk (blk_below (g:=gb192) (o:=.cells #[.slice A0_0 l0_0.length c0_0,.slice A0_1 l0_1.length c0_1,.slice A0_2 l0_2.length c0_2,.slice A0_3 l0_3.length c0_3] 29 (0,0)) (by exact BK192.out) hb)
                    have n4_:=Aside0.mk (blk_below (g:=gb193) (o:=.cells #[.slice none 0 0,.slice none 0 0,.slice none 0 0,.slice none 0 0] 29 (0,0)) (by exact BK193.out) hb)
                    have n5_:=Aside0.mk (below_step (by repeat (first|(with_reducible first|exact HB.out|apply below_alloc|apply pw_below_drewN|apply below_drew1|refine below_set ?_ GE192.out|refine below_set ?_ GE193.out)|exact HB.out)) hb)
                    clear HO_3
                    clear HO212
                    clear BK192
                    clear BK193
                    clear HB
                    have HO_3:=n0_
                    have HO212:=n1_
                    have HO218:=n2_
                    have BK192:=n3_
                    have BK193:=n4_
                    have HB:=n5_
                    clear n0_ n1_ n2_ n3_ n4_ n5_
                    clear hb ho24
                    refine hK.out _ _ ⟨(blk_cell BK192.out 0).trans rfl,(blk_cell BK192.out 1).trans rfl,(blk_cell BK192.out 2).trans rfl,(blk_cell BK192.out 3).trans rfl⟩ (fun hHeld=>?_)
                    clear hK K
                    refine norm_ (a':=?_) ?_ ?_
                    rotate_left
                    ·show Act.put _ (some 29) _ = _
                     simp only [Act.put,List.setIfInBounds_toArray,List.set_cons_zero,List.set_cons_succ,i64_w,i32_w]
                     rfl
                    exact norm_ (by first|(simp only [putAll,Act.put,List.setIfInBounds_toArray,List.set_cons_zero,List.set_cons_succ];done)|(simp only [putAll,Act.put,List.setIfInBounds_toArray,List.set_cons_zero,List.set_cons_succ];rfl)) (hJ5_9 (v211,v217) _ ⟨hHeld,(by exact Kd.R_mono HO212.out (fun _ hk=>hk.2)),(by exact Kd.R_mono HO218.out (fun _ hk=>hk.2)),(by exact HO_3.out),(by exact BK192.out),(by exact BK193.out),(by repeat (first|(with_reducible first|exact HB.out|apply below_alloc|apply pw_below_drewN|apply below_drew1|refine below_set ?_ GE192.out|refine below_set ?_ GE193.out)|exact HB.out))⟩)
                 ·skip
                  rintro v205 w22 ⟨hS_,h0_,h1_,h2_,h3_,h4_⟩
                  have n0_ : Aside0 (Kd.R (Kd.int .u8) 5 w22 w.heap.size (fun _=>True) v205 y204):=⟨h0_⟩
                  have n1_ : Aside0 (Kd.S (Kd.slice 5 (Kd.int .u8)) 23 w22 w.heap.size (fun k_=>some k_ ≠ (v205 : Value).ownBlock) u3 x3_1):=⟨h1_⟩
                  have n2_ : Aside0 (w22.heap[gb192]? = some (.cells #[.slice A0_0 l0_0.length c0_0,.slice A0_1 l0_1.length c0_1,.slice A0_2 l0_2.length c0_2,.slice A0_3 l0_3.length c0_3] 29 (0,0))):=⟨h2_⟩
                  have n3_ : Aside0 (w22.heap[gb193]? = some (.cells #[.slice none 0 0,.slice none 0 0,.slice none 0 0,.slice none 0 0] 29 (0,0))):=⟨h3_⟩
                  have n4_ : Aside0 (Below w.heap.size w w22):=⟨h4_⟩
                  clear HO_3
                  clear BK192
                  clear BK193
                  clear HB
                  clear h0_ h1_ h2_ h3_ h4_
                  have HO206:=n0_
                  have HO_3:=n1_
                  have BK192:=n2_
                  have BK193:=n3_
                  have HB:=n4_
                  clear n0_ n1_ n2_ n3_ n4_
                  have hHeld : w22.cell? ⟨gb192,0,none⟩ = some (.slice A0_0 l0_0.length c0_0)∧w22.cell? ⟨gb192,1,none⟩ = some (.slice A0_1 l0_1.length c0_1)∧w22.cell? ⟨gb192,2,none⟩ = some (.slice A0_2 l0_2.length c0_2)∧w22.cell? ⟨gb192,3,none⟩ = some (.slice A0_3 l0_3.length c0_3):=hS_
                  refine norm_ (a':=?_) ?_ ?_
                  rotate_left
                  ·simp only [putAll,Act.put,List.setIfInBounds_toArray,List.set_cons_zero,List.set_cons_succ]
                   rfl
                  refine three_ (i:=4) (j:=5) (k:=9) (Ni:=some 24) (Nj:=some 25) (Nk:=some 29) #[true,true,true,true,true,false,true,true,false,false,true,true,false,false,false] #[true,true,true,true,false,true,true,true,false,false,true,true,false,false,false] #[true,true,true,true,false,false,true,true,false,true,true,true,false,false,false] rfl rfl rfl rfl rfl rfl (three_of HT_.out (by kernel_rfl)) (by decide) (by decide) (by decide) (fun K hK=>?_) (fun K hK=>?_) (fun K hK=>?_)
                  ·skip
                   refine Kd.R_append_rows_step (Kd.int .u8) (w0:=w) w.heap.size (by rfl) (.tmp 21) (.tmp 23) 23 5 (.int .u8 0) 1 rfl Try.underlying23 info5 rfl (by decide) (by omega) v205 y204 l0_1 _ _ _ (fun _=>True) (fun _=>False) rfl rfl ?aO ?aR (fun _ _ h=>h) (fun _ h=>h.elim) ?aF ?aB ?aS ?aL ?_
                   (case aR=>repeat (first|exact (Kd.C_below HR0_1.out HB.out)|(with_reducible first|apply Kd.C_alloc|apply Kd.C_drewN|apply Kd.C_drew)))
                   (case aB=>exact (by repeat (first|(with_reducible first|exact HB.out|apply below_alloc|apply pw_below_drewN|apply below_drew1|refine below_set ?_ GE192.out|refine below_set ?_ GE193.out)|exact HB.out)))
                   (case aF=>exact (fun _ _=>trivial))
                   (case aO=>exact (by exact HO206.out))
                   (case aS=>exact (below_size (by repeat (first|(with_reducible first|exact HB.out|apply below_alloc|apply pw_below_drewN|apply below_drew1|refine below_set ?_ GE192.out|refine below_set ?_ GE193.out)|exact HB.out))))
                   (case aL=>have:=LMc16.out;omega)
                   intro v208 w23 ho hb hg hat
                   rw [← Ny207.out] at ho
                   have n0_:=Aside0.mk (Kd.S_after (ok:=(fun _=>True)) (by exact Kd.S_mono HO_3.out (fun _ hk=>⟨trivial,hk⟩)) hg hat)
                   have n1_:=Aside0.mk (blk_grown (g:=gb192) (o:=.cells #[.slice A0_0 l0_0.length c0_0,.slice A0_1 l0_1.length c0_1,.slice A0_2 l0_2.length c0_2,.slice A0_3 l0_3.length c0_3] 29 (0,0)) (by exact BK192.out) hg (Kd.R_ne HO206.out BK192.out (by decide)))
                   have n2_:=Aside0.mk (blk_grown (g:=gb193) (o:=.cells #[.slice none 0 0,.slice none 0 0,.slice none 0 0,.slice none 0 0] 29 (0,0)) (by exact BK193.out) hg (Kd.R_ne HO206.out BK193.out (by decide)))
                   have n3_:=Aside0.mk (hb)
                   have n4_:=Aside0.mk (ho)
                   clear HO_3
                   clear BK192
                   clear BK193
                   clear HB
                   clear HO206
                   have HO_3:=n0_
                   have BK192:=n1_
                   have BK193:=n2_
                   have HB:=n3_
                   have HO209:=n4_
                   clear n0_ n1_ n2_ n3_ n4_
                   clear ho hb hg hat
                   refine hK.out _ _ ⟨(blk_cell BK192.out 0).trans rfl,(blk_cell BK192.out 1).trans rfl,(blk_cell BK192.out 2).trans rfl,(blk_cell BK192.out 3).trans rfl⟩ (fun hHeld=>?_)
                   clear hK K
                   refine norm_ (a':=?_) ?_ ?_
                   rotate_left
                   ·show Act.put _ (some 24) _ = _
                    simp only [Act.put,List.setIfInBounds_toArray,List.set_cons_zero,List.set_cons_succ,i64_w,i32_w]
                    rfl
                   exact norm_ (by first|(simp only [putAll,Act.put,List.setIfInBounds_toArray,List.set_cons_zero,List.set_cons_succ];done)|(simp only [putAll,Act.put,List.setIfInBounds_toArray,List.set_cons_zero,List.set_cons_succ];rfl)) (hJ1_4 (v205,v208) _ ⟨hHeld,(by exact HO209.out),(by exact Kd.S_mono HO_3.out (fun _ hk=>hk.2)),(by exact BK192.out),(by exact BK193.out),(by repeat (first|(with_reducible first|exact HB.out|apply below_alloc|apply pw_below_drewN|apply below_drew1|refine below_set ?_ GE192.out|refine below_set ?_ GE193.out)|exact HB.out))⟩)
                  ·skip
                   refine Kd.R_lit_step (Kd.int .i64) _ 3 ?hg (N:=25) ?hd (xs:=([] : List Int)) (inner:=[]) (ok:=fun _=>True) (okp:=fun _=>True) ?hr ?hp (fun _ hk=>hk) trivial (Below.refl _ _) (Nat.le_refl _) (by simp) ?_;(case hd=>rfl);(case hg=>rfl);(case hr=>first|(go_simp;done)|(go_simp;rfl));(case hp=>exact (Reps.none _ _))
                   intro v211 w23 ho24 hb hg_ hnew_
                   clear hg_ hnew_
                   (first|rw [← Ny210.out] at ho24|(simp only [Int.reduceToNat] at ho24;rw [← Ny210.out] at ho24))
                   have n0_:=Aside0.mk (Kd.S_below (by exact HO_3.out) hb)
                   have n1_:=Aside0.mk (Kd.R_below (by exact HO206.out) hb)
                   have n2_:=Aside0.mk (Kd.R_lower ho24 (below_size (by repeat (first|(with_reducible first|exact HB.out|apply below_alloc|apply pw_below_drewN|apply below_drew1|refine below_set ?_ GE192.out|refine below_set ?_ GE193.out)|exact HB.out))))
                   have n3_:=Aside0.mk (blk_below (g:=gb192) (o:=.cells #[.slice A0_0 l0_0.length c0_0,.slice A0_1 l0_1.length c0_1,.slice A0_2 l0_2.length c0_2,.slice A0_3 l0_3.length c0_3] 29 (0,0)) (by exact BK192.out) hb)
                   have n4_:=Aside0.mk (blk_below (g:=gb193) (o:=.cells #[.slice none 0 0,.slice none 0 0,.slice none 0 0,.slice none 0 0] 29 (0,0)) (by exact BK193.out) hb)
                   have n5_:=Aside0.mk (below_step (by repeat (first|(with_reducible first|exact HB.out|apply below_alloc|apply pw_below_drewN|apply below_drew1|refine below_set ?_ GE192.out|refine below_set ?_ GE193.out)|exact HB.out)) hb)
                   clear HO_3
                   clear HO206
                   clear BK192
                   clear BK193
                   clear HB
                   have HO_3:=n0_
                   have HO206:=n1_
                   have HO212:=n2_
                   have BK192:=n3_
                   have BK193:=n4_
                   have HB:=n5_
                   clear n0_ n1_ n2_ n3_ n4_ n5_
                   clear hb ho24
                   refine hK.out _ _ ⟨(blk_cell BK192.out 0).trans rfl,(blk_cell BK192.out 1).trans rfl,(blk_cell BK192.out 2).trans rfl,(blk_cell BK192.out 3).trans rfl⟩ (fun hHeld=>?_)
                   clear hK K
                   refine norm_ (a':=?_) ?_ ?_
                   rotate_left
                   ·show Act.put _ (some 25) _ = _
                    simp only [Act.put,List.setIfInBounds_toArray,List.set_cons_zero,List.set_cons_succ,i64_w,i32_w]
                    rfl
                   exact norm_ (by first|(simp only [putAll,Act.put,List.setIfInBounds_toArray,List.set_cons_zero,List.set_cons_succ];done)|(simp only [putAll,Act.put,List.setIfInBounds_toArray,List.set_cons_zero,List.set_cons_succ];rfl)) (hJ1_5 (v205,v211) _ ⟨hHeld,(by exact HO206.out),(by exact HO212.out),(by exact HO_3.out),(by exact BK192.out),(by exact BK193.out),(by repeat (first|(with_reducible first|exact HB.out|apply below_alloc|apply pw_below_drewN|apply below_drew1|refine below_set ?_ GE192.out|refine below_set ?_ GE193.out)|exact HB.out))⟩)
                  ·skip
                   refine Kd.R_lit_step (Kd.int .i64) _ 3 ?hg (N:=29) ?hd (xs:=([] : List Int)) (inner:=[]) (ok:=fun _=>True) (okp:=fun _=>True) ?hr ?hp (fun _ hk=>hk) trivial (Below.refl _ _) (Nat.le_refl _) (by simp) ?_;(case hd=>rfl);(case hg=>rfl);(case hr=>first|(go_simp;done)|(go_simp;rfl));(case hp=>exact (Reps.none _ _))
                   intro v217 w23 ho24 hb hg_ hnew_
                   clear hg_ hnew_
                   (first|rw [← Ny216.out] at ho24|(simp only [Int.reduceToNat] at ho24;rw [← Ny216.out] at ho24))
                   have n0_:=Aside0.mk (Kd.S_below (by exact HO_3.out) hb)
                   have n1_:=Aside0.mk (Kd.R_below (by exact HO206.out) hb)
                   have n2_:=Aside0.mk (Kd.R_lower ho24 (below_size (by repeat (first|(with_reducible first|exact HB.out|apply below_alloc|apply pw_below_drewN|apply below_drew1|refine below_set ?_ GE192.out|refine below_set ?_ GE193.out)|exact HB.out))))
                   have n3_:=Aside0.mk (blk_below (g:=gb192) (o:=.cells #[.slice A0_0 l0_0.length c0_0,.slice A0_1 l0_1.length c0_1,.slice A0_2 l0_2.length c0_2,.slice A0_3 l0_3.length c0_3] 29 (0,0)) (by exact BK192.out) hb)
                   have n4_:=Aside0.mk (blk_below (g:=gb193) (o:=.cells #[.slice none 0 0,.slice none 0 0,.slice none 0 0,.slice none 0 0] 29 (0,0)) (by exact BK193.out) hb)
                   have n5_:=Aside0.mk (below_step (by repeat (first|(with_reducible first|exact HB.out|apply below_alloc|apply pw_below_drewN|apply below_drew1|refine below_set ?_ GE192.out|refine below_set ?_ GE193.out)|exact HB.out)) hb)
                   clear HO_3
                   clear HO206
                   clear BK192
                   clear BK193
                   clear HB
                   have HO_3:=n0_
                   have HO206:=n1_
                   have HO218:=n2_
                   have BK192:=n3_
                   have BK193:=n4_
                   have HB:=n5_
                   clear n0_ n1_ n2_ n3_ n4_ n5_
                   clear hb ho24
                   refine hK.out _ _ ⟨(blk_cell BK192.out 0).trans rfl,(blk_cell BK192.out 1).trans rfl,(blk_cell BK192.out 2).trans rfl,(blk_cell BK192.out 3).trans rfl⟩ (fun hHeld=>?_)
                   clear hK K
                   refine norm_ (a':=?_) ?_ ?_
                   rotate_left
                   ·show Act.put _ (some 29) _ = _
                    simp only [Act.put,List.setIfInBounds_toArray,List.set_cons_zero,List.set_cons_succ,i64_w,i32_w]
                    rfl
                   exact norm_ (by first|(simp only [putAll,Act.put,List.setIfInBounds_toArray,List.set_cons_zero,List.set_cons_succ];done)|(simp only [putAll,Act.put,List.setIfInBounds_toArray,List.set_cons_zero,List.set_cons_succ];rfl)) (hJ1_9 (v205,v217) _ ⟨hHeld,(by exact HO206.out),(by exact HO218.out),(by exact HO_3.out),(by exact BK192.out),(by exact BK193.out),(by repeat (first|(with_reducible first|exact HB.out|apply below_alloc|apply pw_below_drewN|apply below_drew1|refine below_set ?_ GE192.out|refine below_set ?_ GE193.out)|exact HB.out))⟩)
                ·skip
                 rintro ⟨v211,v217⟩ w24 ⟨hS_,h0_,h1_,h2_,h3_,h4_,h5_⟩
                 have n0_ : Aside0 (Kd.R (Kd.int .i64) 3 w24 w.heap.size (fun k_=>some k_ ≠ (v217 : Value).ownBlock) v211 y210):=⟨h0_⟩
                 have n1_ : Aside0 (Kd.R (Kd.int .i64) 3 w24 w.heap.size (fun k_=>some k_ ≠ (v211 : Value).ownBlock) v217 y216):=⟨h1_⟩
                 have n2_ : Aside0 (Kd.S (Kd.slice 5 (Kd.int .u8)) 23 w24 w.heap.size (fun _=>True) u3 x3_1):=⟨h2_⟩
                 have n3_ : Aside0 (w24.heap[gb192]? = some (.cells #[.slice A0_0 l0_0.length c0_0,.slice A0_1 l0_1.length c0_1,.slice A0_2 l0_2.length c0_2,.slice A0_3 l0_3.length c0_3] 29 (0,0))):=⟨h3_⟩
                 have n4_ : Aside0 (w24.heap[gb193]? = some (.cells #[.slice none 0 0,.slice none 0 0,.slice none 0 0,.slice none 0 0] 29 (0,0))):=⟨h4_⟩
                 have n5_ : Aside0 (Below w.heap.size w w24):=⟨h5_⟩
                 clear HO_3
                 clear BK192
                 clear BK193
                 clear HB
                 clear h0_ h1_ h2_ h3_ h4_ h5_
                 have HO212:=n0_
                 have HO218:=n1_
                 have HO_3:=n2_
                 have BK192:=n3_
                 have BK193:=n4_
                 have HB:=n5_
                 clear n0_ n1_ n2_ n3_ n4_ n5_
                 have hHeld : w24.cell? ⟨gb192,0,none⟩ = some (.slice A0_0 l0_0.length c0_0)∧w24.cell? ⟨gb192,1,none⟩ = some (.slice A0_1 l0_1.length c0_1)∧w24.cell? ⟨gb192,2,none⟩ = some (.slice A0_2 l0_2.length c0_2)∧w24.cell? ⟨gb192,3,none⟩ = some (.slice A0_3 l0_3.length c0_3):=hS_
                 refine norm_ (a':=?_) ?_ ?_
                 rotate_left
                 ·simp only [putAll,Act.put,List.setIfInBounds_toArray,List.set_cons_zero,List.set_cons_succ]
                  rfl
                 refine one_ (i:=1) (N:=some 21) #[true,true,true,true,false,true,true,true,false,true,true,true,false,false,false] rfl rfl (one_of HT_.out (by kernel_rfl)) (by decide) (fun K hK=>?_)
                 refine Kd.R_lit_step (Kd.int .u8) _ 5 ?hg (N:=21) ?hd (xs:=([] : List Int)) (inner:=[]) (ok:=fun _=>True) (okp:=fun _=>True) ?hr ?hp (fun _ hk=>hk) trivial (Below.refl _ _) (Nat.le_refl _) (by simp) ?_;(case hd=>rfl);(case hg=>rfl);(case hr=>first|(go_simp;done)|(go_simp;rfl));(case hp=>exact (Reps.none _ _))
                 intro v205 w25 ho26 hb hg_ hnew_
                 clear hg_ hnew_
                 (first|rw [← Ny204.out] at ho26|(simp only [Int.reduceToNat] at ho26;rw [← Ny204.out] at ho26))
                 have n0_:=Aside0.mk (Kd.S_elder' (by exact HO_3.out) (Kd.R_base ho26) hb)
                 have n1_:=Aside0.mk (Kd.R_below (by exact HO212.out) hb)
                 have n2_:=Aside0.mk (Kd.R_below (by exact HO218.out) hb)
                 have n3_:=Aside0.mk (Kd.R_lower ho26 (below_size (by repeat (first|(with_reducible first|exact HB.out|apply below_alloc|apply pw_below_drewN|apply below_drew1|refine below_set ?_ GE192.out|refine below_set ?_ GE193.out)|exact HB.out))))
                 have n4_:=Aside0.mk (blk_below (g:=gb192) (o:=.cells #[.slice A0_0 l0_0.length c0_0,.slice A0_1 l0_1.length c0_1,.slice A0_2 l0_2.length c0_2,.slice A0_3 l0_3.length c0_3] 29 (0,0)) (by exact BK192.out) hb)
                 have n5_:=Aside0.mk (blk_below (g:=gb193) (o:=.cells #[.slice none 0 0,.slice none 0 0,.slice none 0 0,.slice none 0 0] 29 (0,0)) (by exact BK193.out) hb)
                 have n6_:=Aside0.mk (below_step (by repeat (first|(with_reducible first|exact HB.out|apply below_alloc|apply pw_below_drewN|apply below_drew1|refine below_set ?_ GE192.out|refine below_set ?_ GE193.out)|exact HB.out)) hb)
                 clear HO_3
                 clear HO212
                 clear HO218
                 clear BK192
                 clear BK193
                 clear HB
                 have HO_3:=n0_
                 have HO212:=n1_
                 have HO218:=n2_
                 have HO206:=n3_
                 have BK192:=n4_
                 have BK193:=n5_
                 have HB:=n6_
                 clear n0_ n1_ n2_ n3_ n4_ n5_ n6_
                 clear hb ho26
                 refine hK.out _ _ ⟨(blk_cell BK192.out 0).trans rfl,(blk_cell BK192.out 1).trans rfl,(blk_cell BK192.out 2).trans rfl,(blk_cell BK192.out 3).trans rfl⟩ (fun hHeld=>?_)
                 clear hK K
                 refine norm_ (a':=?_) ?_ ?_
                 rotate_left
                 ·show Act.put _ (some 21) _ = _
                  simp only [Act.put,List.setIfInBounds_toArray,List.set_cons_zero,List.set_cons_succ,i64_w,i32_w]
                  rfl
                 exact norm_ (by first|(simp only [putAll,Act.put,List.setIfInBounds_toArray,List.set_cons_zero,List.set_cons_succ];done)|(simp only [putAll,Act.put,List.setIfInBounds_toArray,List.set_cons_zero,List.set_cons_succ];rfl)) (hJ1_5_9 (v205,v211,v217) _ ⟨hHeld,(by exact HO206.out),(by exact HO212.out),(by exact HO218.out),(by exact Kd.S_mono HO_3.out (fun _ hk=>hk.2)),(by exact BK192.out),(by exact BK193.out),(by repeat (first|(with_reducible first|exact HB.out|apply below_alloc|apply pw_below_drewN|apply below_drew1|refine below_set ?_ GE192.out|refine below_set ?_ GE193.out)|exact HB.out))⟩)
               ·skip
                rintro ⟨v205,v217⟩ w24 ⟨hS_,h0_,h1_,h2_,h3_,h4_,h5_⟩
                have n0_ : Aside0 (Kd.R (Kd.int .u8) 5 w24 w.heap.size (fun _=>True) v205 y204):=⟨h0_⟩
                have n1_ : Aside0 (Kd.R (Kd.int .i64) 3 w24 w.heap.size (fun _=>True) v217 y216):=⟨h1_⟩
                have n2_ : Aside0 (Kd.S (Kd.slice 5 (Kd.int .u8)) 23 w24 w.heap.size (fun k_=>some k_ ≠ (v205 : Value).ownBlock) u3 x3_1):=⟨h2_⟩
                have n3_ : Aside0 (w24.heap[gb192]? = some (.cells #[.slice A0_0 l0_0.length c0_0,.slice A0_1 l0_1.length c0_1,.slice A0_2 l0_2.length c0_2,.slice A0_3 l0_3.length c0_3] 29 (0,0))):=⟨h3_⟩
                have n4_ : Aside0 (w24.heap[gb193]? = some (.cells #[.slice none 0 0,.slice none 0 0,.slice none 0 0,.slice none 0 0] 29 (0,0))):=⟨h4_⟩
                have n5_ : Aside0 (Below w.heap.size w w24):=⟨h5_⟩
                clear HO_3
                clear BK192
                clear BK193
                clear HB
                clear h0_ h1_ h2_ h3_ h4_ h5_
                have HO206:=n0_
                have HO218:=n1_
                have HO_3:=n2_
                have BK192:=n3_
                have BK193:=n4_
                have HB:=n5_
                clear n0_ n1_ n2_ n3_ n4_ n5_
                have hHeld : w24.cell? ⟨gb192,0,none⟩ = some (.slice A0_0 l0_0.length c0_0)∧w24.cell? ⟨gb192,1,none⟩ = some (.slice A0_1 l0_1.length c0_1)∧w24.cell? ⟨gb192,2,none⟩ = some (.slice A0_2 l0_2.length c0_2)∧w24.cell? ⟨gb192,3,none⟩ = some (.slice A0_3 l0_3.length c0_3):=hS_
                refine norm_ (a':=?_) ?_ ?_
                rotate_left
                ·simp only [putAll,Act.put,List.setIfInBounds_toArray,List.set_cons_zero,List.set_cons_succ]
                 rfl
                refine two_ (i:=4) (j:=5) (Ni:=some 24) (Nj:=some 25) #[true,true,true,true,true,false,true,true,false,true,true,true,false,false,false] #[true,true,true,true,false,true,true,true,false,true,true,true,false,false,false] rfl rfl rfl rfl (two_of HT_.out (by kernel_rfl)) (by decide) (by decide) (fun K hK=>?_) (fun K hK=>?_)
                ·skip
                 refine Kd.R_append_rows_step (Kd.int .u8) (w0:=w) w.heap.size (by rfl) (.tmp 21) (.tmp 23) 23 5 (.int .u8 0) 1 rfl Try.underlying23 info5 rfl (by decide) (by omega) v205 y204 l0_1 _ _ _ (fun _=>True) (fun _=>False) rfl rfl ?aO ?aR (fun _ _ h=>h) (fun _ h=>h.elim) ?aF ?aB ?aS ?aL ?_
                 (case aR=>repeat (first|exact (Kd.C_below HR0_1.out HB.out)|(with_reducible first|apply Kd.C_alloc|apply Kd.C_drewN|apply Kd.C_drew)))
                 (case aB=>exact (by repeat (first|(with_reducible first|exact HB.out|apply below_alloc|apply pw_below_drewN|apply below_drew1|refine below_set ?_ GE192.out|refine below_set ?_ GE193.out)|exact HB.out)))
                 (case aF=>exact (fun _ _=>trivial))
                 (case aO=>exact (by exact HO206.out))
                 (case aS=>exact (below_size (by repeat (first|(with_reducible first|exact HB.out|apply below_alloc|apply pw_below_drewN|apply below_drew1|refine below_set ?_ GE192.out|refine below_set ?_ GE193.out)|exact HB.out))))
                 (case aL=>have:=LMc16.out;omega)
                 intro v208 w25 ho hb hg hat
                 rw [← Ny207.out] at ho
                 have n0_:=Aside0.mk (Kd.S_after (ok:=(fun _=>True)) (by exact Kd.S_mono HO_3.out (fun _ hk=>⟨trivial,hk⟩)) hg hat)
                 have n1_:=Aside0.mk (blk_grown (g:=gb192) (o:=.cells #[.slice A0_0 l0_0.length c0_0,.slice A0_1 l0_1.length c0_1,.slice A0_2 l0_2.length c0_2,.slice A0_3 l0_3.length c0_3] 29 (0,0)) (by exact BK192.out) hg (Kd.R_ne HO206.out BK192.out (by decide)))
                 have n2_:=Aside0.mk (blk_grown (g:=gb193) (o:=.cells #[.slice none 0 0,.slice none 0 0,.slice none 0 0,.slice none 0 0] 29 (0,0)) (by exact BK193.out) hg (Kd.R_ne HO206.out BK193.out (by decide)))
                 have n3_:=Aside0.mk (Kd.R_over' (by exact HO218.out) (Kd.R_typed (by exact HO206.out)) (by decide) hg)
                 have n4_:=Aside0.mk (hb)
                 have n5_:=Aside0.mk (ho)
                 clear HO_3
                 clear BK192
                 clear BK193
                 clear HO218
                 clear HB
                 clear HO206
                 have HO_3:=n0_
                 have BK192:=n1_
                 have BK193:=n2_
                 have HO218:=n3_
                 have HB:=n4_
                 have HO209:=n5_
                 clear n0_ n1_ n2_ n3_ n4_ n5_
                 clear ho hb hg hat
                 refine hK.out _ _ ⟨(blk_cell BK192.out 0).trans rfl,(blk_cell BK192.out 1).trans rfl,(blk_cell BK192.out 2).trans rfl,(blk_cell BK192.out 3).trans rfl⟩ (fun hHeld=>?_)
                 clear hK K
                 refine norm_ (a':=?_) ?_ ?_
                 rotate_left
                 ·show Act.put _ (some 24) _ = _
                  simp only [Act.put,List.setIfInBounds_toArray,List.set_cons_zero,List.set_cons_succ,i64_w,i32_w]
                  rfl
                 exact norm_ (by first|(simp only [putAll,Act.put,List.setIfInBounds_toArray,List.set_cons_zero,List.set_cons_succ];done)|(simp only [putAll,Act.put,List.setIfInBounds_toArray,List.set_cons_zero,List.set_cons_succ];rfl)) (hJ1_4_9 (v205,v208,v217) _ ⟨hHeld,(by exact HO209.out),(by exact HO218.out),(by exact Kd.S_mono HO_3.out (fun _ hk=>hk.2)),(by exact BK192.out),(by exact BK193.out),(by repeat (first|(with_reducible first|exact HB.out|apply below_alloc|apply pw_below_drewN|apply below_drew1|refine below_set ?_ GE192.out|refine below_set ?_ GE193.out)|exact HB.out))⟩)
                ·skip
                 refine Kd.R_lit_step (Kd.int .i64) _ 3 ?hg (N:=25) ?hd (xs:=([] : List Int)) (inner:=[]) (ok:=fun _=>True) (okp:=fun _=>True) ?hr ?hp (fun _ hk=>hk) trivial (Below.refl _ _) (Nat.le_refl _) (by simp) ?_;(case hd=>rfl);(case hg=>rfl);(case hr=>first|(go_simp;done)|(go_simp;rfl));(case hp=>exact (Reps.none _ _))
                 intro v211 w25 ho26 hb hg_ hnew_
                 clear hg_ hnew_
                 (first|rw [← Ny210.out] at ho26|(simp only [Int.reduceToNat] at ho26;rw [← Ny210.out] at ho26))
                 have n0_:=Aside0.mk (Kd.S_below (by exact HO_3.out) hb)
                 have n1_:=Aside0.mk (Kd.R_below (by exact HO206.out) hb)
                 have n2_:=Aside0.mk (Kd.R_elder' (by exact HO218.out) (Kd.R_base ho26) hb)
                 have n3_:=Aside0.mk (Kd.R_lower (Kd.R_new' ho26 (Kd.R_lt (by exact HO218.out))) (below_size (by repeat (first|(with_reducible first|exact HB.out|apply below_alloc|apply pw_below_drewN|apply below_drew1|refine below_set ?_ GE192.out|refine below_set ?_ GE193.out)|exact HB.out))))
                 have n4_:=Aside0.mk (blk_below (g:=gb192) (o:=.cells #[.slice A0_0 l0_0.length c0_0,.slice A0_1 l0_1.length c0_1,.slice A0_2 l0_2.length c0_2,.slice A0_3 l0_3.length c0_3] 29 (0,0)) (by exact BK192.out) hb)
                 have n5_:=Aside0.mk (blk_below (g:=gb193) (o:=.cells #[.slice none 0 0,.slice none 0 0,.slice none 0 0,.slice none 0 0] 29 (0,0)) (by exact BK193.out) hb)
                 have n6_:=Aside0.mk (below_step (by repeat (first|(with_reducible first|exact HB.out|apply below_alloc|apply pw_below_drewN|apply below_drew1|refine below_set ?_ GE192.out|refine below_set ?_ GE193.out)|exact HB.out)) hb)
                 clear HO_3
                 clear HO206
                 clear HO218
                 clear BK192
                 clear BK193
                 clear HB
                 have HO_3:=n0_
                 have HO206:=n1_
                 have HO218:=n2_
                 have HO212:=n3_
                 have BK192:=n4_
                 have BK193:=n5_
                 have HB:=n6_
                 clear n0_ n1_ n2_ n3_ n4_ n5_ n6_
                 clear hb ho26
                 refine hK.out _ _ ⟨(blk_cell BK192.out 0).trans rfl,(blk_cell BK192.out 1).trans rfl,(blk_cell BK192.out 2).trans rfl,(blk_cell BK192.out 3).trans rfl⟩ (fun hHeld=>?_)
                 clear hK K
                 refine norm_ (a':=?_) ?_ ?_
                 rotate_left
                 ·show Act.put _ (some 25) _ = _
                  simp only [Act.put,List.setIfInBounds_toArray,List.set_cons_zero,List.set_cons_succ,i64_w,i32_w]
                  rfl
                 exact norm_ (by first|(simp only [putAll,Act.put,List.setIfInBounds_toArray,List.set_cons_zero,List.set_cons_succ];done)|(simp only [putAll,Act.put,List.setIfInBounds_toArray,List.set_cons_zero,List.set_cons_succ];rfl)) (hJ1_5_9 (v205,v211,v217) _ ⟨hHeld,(by exact HO206.out),(by exact Kd.R_mono HO212.out (fun _ hk=>hk.2)),(by exact Kd.R_mono HO218.out (fun _ hk=>hk.2)),(by exact HO_3.out),(by exact BK192.out),(by exact BK193.out),(by repeat (first|(with_reducible first|exact HB.out|apply below_alloc|apply pw_below_drewN|apply below_drew1|refine below_set ?_ GE192.out|refine below_set ?_ GE193.out)|exact HB.out))⟩)
              ·skip
               rintro ⟨v205,v211⟩ w24 ⟨hS_,h0_,h1_,h2_,h3_,h4_,h5_⟩
               have n0_ : Aside0 (Kd.R (Kd.int .u8) 5 w24 w.heap.size (fun _=>True) v205 y204):=⟨h0_⟩
               have n1_ : Aside0 (Kd.R (Kd.int .i64) 3 w24 w.heap.size (fun _=>True) v211 y210):=⟨h1_⟩
               have n2_ : Aside0 (Kd.S (Kd.slice 5 (Kd.int .u8)) 23 w24 w.heap.size (fun k_=>some k_ ≠ (v205 : Value).ownBlock) u3 x3_1):=⟨h2_⟩
               have n3_ : Aside0 (w24.heap[gb192]? = some (.cells #[.slice A0_0 l0_0.length c0_0,.slice A0_1 l0_1.length c0_1,.slice A0_2 l0_2.length c0_2,.slice A0_3 l0_3.length c0_3] 29 (0,0))):=⟨h3_⟩
               have n4_ : Aside0 (w24.heap[gb193]? = some (.cells #[.slice none 0 0,.slice none 0 0,.slice none 0 0,.slice none 0 0] 29 (0,0))):=⟨h4_⟩
               have n5_ : Aside0 (Below w.heap.size w w24):=⟨h5_⟩
               clear HO_3
               clear BK192
               clear BK193
               clear HB
               clear h0_ h1_ h2_ h3_ h4_ h5_
               have HO206:=n0_
               have HO212:=n1_
               have HO_3:=n2_
               have BK192:=n3_
               have BK193:=n4_
               have HB:=n5_
               clear n0_ n1_ n2_ n3_ n4_ n5_
               have hHeld : w24.cell? ⟨gb192,0,none⟩ = some (.slice A0_0 l0_0.length c0_0)∧w24.cell? ⟨gb192,1,none⟩ = some (.slice A0_1 l0_1.length c0_1)∧w24.cell? ⟨gb192,2,none⟩ = some (.slice A0_2 l0_2.length c0_2)∧w24.cell? ⟨gb192,3,none⟩ = some (.slice A0_3 l0_3.length c0_3):=hS_
               refine norm_ (a':=?_) ?_ ?_
               rotate_left
               ·simp only [putAll,Act.put,List.setIfInBounds_toArray,List.set_cons_zero,List.set_cons_succ]
                rfl
               refine two_ (i:=4) (j:=9) (Ni:=some 24) (Nj:=some 29) #[true,true,true,true,true,true,true,true,false,false,true,true,false,false,false] #[true,true,true,true,false,true,true,true,false,true,true,true,false,false,false] rfl rfl rfl rfl (two_of HT_.out (by kernel_rfl)) (by decide) (by decide) (fun K hK=>?_) (fun K hK=>?_)
               ·skip
                refine Kd.R_append_rows_step (Kd.int .u8) (w0:=w) w.heap.size (by rfl) (.tmp 21) (.tmp 23) 23 5 (.int .u8 0) 1 rfl Try.underlying23 info5 rfl (by decide) (by omega) v205 y204 l0_1 _ _ _ (fun _=>True) (fun _=>False) rfl rfl ?aO ?aR (fun _ _ h=>h) (fun _ h=>h.elim) ?aF ?aB ?aS ?aL ?_
                (case aR=>repeat (first|exact (Kd.C_below HR0_1.out HB.out)|(with_reducible first|apply Kd.C_alloc|apply Kd.C_drewN|apply Kd.C_drew)))
                (case aB=>exact (by repeat (first|(with_reducible first|exact HB.out|apply below_alloc|apply pw_below_drewN|apply below_drew1|refine below_set ?_ GE192.out|refine below_set ?_ GE193.out)|exact HB.out)))
                (case aF=>exact (fun _ _=>trivial))
                (case aO=>exact (by exact HO206.out))
                (case aS=>exact (below_size (by repeat (first|(with_reducible first|exact HB.out|apply below_alloc|apply pw_below_drewN|apply below_drew1|refine below_set ?_ GE192.out|refine below_set ?_ GE193.out)|exact HB.out))))
                (case aL=>have:=LMc16.out;omega)
                intro v208 w25 ho hb hg hat
                rw [← Ny207.out] at ho
                have n0_:=Aside0.mk (Kd.S_after (ok:=(fun _=>True)) (by exact Kd.S_mono HO_3.out (fun _ hk=>⟨trivial,hk⟩)) hg hat)
                have n1_:=Aside0.mk (blk_grown (g:=gb192) (o:=.cells #[.slice A0_0 l0_0.length c0_0,.slice A0_1 l0_1.length c0_1,.slice A0_2 l0_2.length c0_2,.slice A0_3 l0_3.length c0_3] 29 (0,0)) (by exact BK192.out) hg (Kd.R_ne HO206.out BK192.out (by decide)))
                have n2_:=Aside0.mk (blk_grown (g:=gb193) (o:=.cells #[.slice none 0 0,.slice none 0 0,.slice none 0 0,.slice none 0 0] 29 (0,0)) (by exact BK193.out) hg (Kd.R_ne HO206.out BK193.out (by decide)))
                have n3_:=Aside0.mk (Kd.R_over' (by exact HO212.out) (Kd.R_typed (by exact HO206.out)) (by decide) hg)
                have n4_:=Aside0.mk (hb)
                have n5_:=Aside0.mk (ho)
                clear HO_3
                clear BK192
                clear BK193
                clear HO212
                clear HB
                clear HO206
                have HO_3:=n0_
                have BK192:=n1_
                have BK193:=n2_
                have HO212:=n3_
                have HB:=n4_
                have HO209:=n5_
                clear n0_ n1_ n2_ n3_ n4_ n5_
                clear ho hb hg hat
                refine hK.out _ _ ⟨(blk_cell BK192.out 0).trans rfl,(blk_cell BK192.out 1).trans rfl,(blk_cell BK192.out 2).trans rfl,(blk_cell BK192.out 3).trans rfl⟩ (fun hHeld=>?_)
                clear hK K
                refine norm_ (a':=?_) ?_ ?_
                rotate_left
                ·show Act.put _ (some 24) _ = _
                 simp only [Act.put,List.setIfInBounds_toArray,List.set_cons_zero,List.set_cons_succ,i64_w,i32_w]
                 rfl
                exact norm_ (by first|(simp only [putAll,Act.put,List.setIfInBounds_toArray,List.set_cons_zero,List.set_cons_succ];done)|(simp only [putAll,Act.put,List.setIfInBounds_toArray,List.set_cons_zero,List.set_cons_succ];rfl)) (hJ1_4_5 (v205,v208,v211) _ ⟨hHeld,(by exact HO209.out),(by exact HO212.out),(by exact Kd.S_mono HO_3.out (fun _ hk=>hk.2)),(by exact BK192.out),(by exact BK193.out),(by repeat (first|(with_reducible first|exact HB.out|apply below_alloc|apply pw_below_drewN|apply below_drew1|refine below_set ?_ GE192.out|refine below_set ?_ GE193.out)|exact HB.out))⟩)
               ·skip
                refine Kd.R_lit_step (Kd.int .i64) _ 3 ?hg (N:=29) ?hd (xs:=([] : List Int)) (inner:=[]) (ok:=fun _=>True) (okp:=fun _=>True) ?hr ?hp (fun _ hk=>hk) trivial (Below.refl _ _) (Nat.le_refl _) (by simp) ?_;(case hd=>rfl);(case hg=>rfl);(case hr=>first|(go_simp;done)|(go_simp;rfl));(case hp=>exact (Reps.none _ _))
                intro v217 w25 ho26 hb hg_ hnew_
                clear hg_ hnew_
                (first|rw [← Ny216.out] at ho26|(simp only [Int.reduceToNat] at ho26;rw [← Ny216.out] at ho26))
                have n0_:=Aside0.mk (Kd.S_below (by exact HO_3.out) hb)
                have n1_:=Aside0.mk (Kd.R_below (by exact HO206.out) hb)
                have n2_:=Aside0.mk (Kd.R_elder' (by exact HO212.out) (Kd.R_base ho26) hb)
                have n3_:=Aside0.mk (Kd.R_lower (Kd.R_new' ho26 (Kd.R_lt (by exact HO212.out))) (below_size (by repeat (first|(with_reducible first|exact HB.out|apply below_alloc|apply pw_below_drewN|apply below_drew1|refine below_set ?_ GE192.out|refine below_set ?_ GE193.out)|exact HB.out))))
                have n4_:=Aside0.mk (blk_below (g:=gb192) (o:=.cells #[.slice A0_0 l0_0.length c0_0,.slice A0_1 l0_1.length c0_1,.slice A0_2 l0_2.length c0_2,.slice A0_3 l0_3.length c0_3] 29 (0,0)) (by exact BK192.out) hb)
                have n5_:=Aside0.mk (blk_below (g:=gb193) (o:=.cells #[.slice none 0 0,.slice none 0 0,.slice none 0 0,.slice none 0 0] 29 (0,0)) (by exact BK193.out) hb)
                have n6_:=Aside0.mk (below_step (by repeat (first|(with_reducible first|exact HB.out|apply below_alloc|apply pw_below_drewN|apply below_drew1|refine below_set ?_ GE192.out|refine below_set ?_ GE193.out)|exact HB.out)) hb)
                clear HO_3
                clear HO206
                clear HO212
                clear BK192
                clear BK193
                clear HB
                have HO_3:=n0_
                have HO206:=n1_
                have HO212:=n2_
                have HO218:=n3_
                have BK192:=n4_
                have BK193:=n5_
                have HB:=n6_
                clear n0_ n1_ n2_ n3_ n4_ n5_ n6_
                clear hb ho26
                refine hK.out _ _ ⟨(blk_cell BK192.out 0).trans rfl,(blk_cell BK192.out 1).trans rfl,(blk_cell BK192.out 2).trans rfl,(blk_cell BK192.out 3).trans rfl⟩ (fun hHeld=>?_)
                clear hK K
                refine norm_ (a':=?_) ?_ ?_
                rotate_left
                ·show Act.put _ (some 29) _ = _
                 simp only [Act.put,List.setIfInBounds_toArray,List.set_cons_zero,List.set_cons_succ,i64_w,i32_w]
                 rfl
                exact norm_ (by first|(simp only [putAll,Act.put,List.setIfInBounds_toArray,List.set_cons_zero,List.set_cons_succ];done)|(simp only [putAll,Act.put,List.setIfInBounds_toArray,List.set_cons_zero,List.set_cons_succ];rfl)) (hJ1_5_9 (v205,v211,v217) _ ⟨hHeld,(by exact HO206.out),(by exact Kd.R_mono HO212.out (fun _ hk=>hk.2)),(by exact Kd.R_mono HO218.out (fun _ hk=>hk.2)),(by exact HO_3.out),(by exact BK192.out),(by exact BK193.out),(by repeat (first|(with_reducible first|exact HB.out|apply below_alloc|apply pw_below_drewN|apply below_drew1|refine below_set ?_ GE192.out|refine below_set ?_ GE193.out)|exact HB.out))⟩)
             ·skip
              rintro ⟨v205,v208⟩ w23 ⟨hS_,h0_,h1_,h2_,h3_,h4_⟩
              have n0_ : Aside0 (Kd.R (Kd.int .u8) 5 w23 w.heap.size (fun _=>True) v208 y207):=⟨h0_⟩
              have n1_ : Aside0 (Kd.S (Kd.slice 5 (Kd.int .u8)) 23 w23 w.heap.size (fun k_=>some k_ ≠ (v208 : Value).ownBlock) u3 x3_1):=⟨h1_⟩
              have n2_ : Aside0 (w23.heap[gb192]? = some (.cells #[.slice A0_0 l0_0.length c0_0,.slice A0_1 l0_1.length c0_1,.slice A0_2 l0_2.length c0_2,.slice A0_3 l0_3.length c0_3] 29 (0,0))):=⟨h2_⟩
              have n3_ : Aside0 (w23.heap[gb193]? = some (.cells #[.slice none 0 0,.slice none 0 0,.slice none 0 0,.slice none 0 0] 29 (0,0))):=⟨h3_⟩
              have n4_ : Aside0 (Below w.heap.size w w23):=⟨h4_⟩
              clear HO_3
              clear BK192
              clear BK193
              clear HB
              clear h0_ h1_ h2_ h3_ h4_
              have HO209:=n0_
              have HO_3:=n1_
              have BK192:=n2_
              have BK193:=n3_
              have HB:=n4_
              clear n0_ n1_ n2_ n3_ n4_
              have hHeld : w23.cell? ⟨gb192,0,none⟩ = some (.slice A0_0 l0_0.length c0_0)∧w23.cell? ⟨gb192,1,none⟩ = some (.slice A0_1 l0_1.length c0_1)∧w23.cell? ⟨gb192,2,none⟩ = some (.slice A0_2 l0_2.length c0_2)∧w23.cell? ⟨gb192,3,none⟩ = some (.slice A0_3 l0_3.length c0_3):=hS_
              refine norm_ (a':=?_) ?_ ?_
              rotate_left
              ·simp only [putAll,Act.put,List.setIfInBounds_toArray,List.set_cons_zero,List.set_cons_succ]
               rfl
              refine two_ (i:=5) (j:=9) (Ni:=some 25) (Nj:=some 29) #[true,true,true,true,true,true,true,true,false,false,true,true,false,false,false] #[true,true,true,true,true,false,true,true,false,true,true,true,false,false,false] rfl rfl rfl rfl (two_of HT_.out (by kernel_rfl)) (by decide) (by decide) (fun K hK=>?_) (fun K hK=>?_)
              ·skip
               refine Kd.R_lit_step (Kd.int .i64) _ 3 ?hg (N:=25) ?hd (xs:=([] : List Int)) (inner:=[]) (ok:=fun _=>True) (okp:=fun _=>True) ?hr ?hp (fun _ hk=>hk) trivial (Below.refl _ _) (Nat.le_refl _) (by simp) ?_;(case hd=>rfl);(case hg=>rfl);(case hr=>first|(go_simp;done)|(go_simp;rfl));(case hp=>exact (Reps.none _ _))
               intro v211 w24 ho25 hb hg_ hnew_
               clear hg_ hnew_
               (first|rw [← Ny210.out] at ho25|(simp only [Int.reduceToNat] at ho25;rw [← Ny210.out] at ho25))
               have n0_:=Aside0.mk (Kd.S_below (by exact HO_3.out) hb)
               have n1_:=Aside0.mk (Kd.R_below (by exact HO209.out) hb)
               have n2_:=Aside0.mk (Kd.R_lower ho25 (below_size (by repeat (first|(with_reducible first|exact HB.out|apply below_alloc|apply pw_below_drewN|apply below_drew1|refine below_set ?_ GE192.out|refine below_set ?_ GE193.out)|exact HB.out))))
               have n3_:=Aside0.mk (blk_below (g:=gb192) (o:=.cells #[.slice A0_0 l0_0.length c0_0,.slice A0_1 l0_1.length c0_1,.slice A0_2 l0_2.length c0_2,.slice A0_3 l0_3.length c0_3] 29 (0,0)) (by exact BK192.out) hb)
               have n4_:=Aside0.mk (blk_below (g:=gb193) (o:=.cells #[.slice none 0 0,.slice none 0 0,.slice none 0 0,.slice none 0 0] 29 (0,0)) (by exact BK193.out) hb)
               have n5_:=Aside0.mk (below_step (by repeat (first|(with_reducible first|exact HB.out|apply below_alloc|apply pw_below_drewN|apply below_drew1|refine below_set ?_ GE192.out|refine below_set ?_ GE193.out)|exact HB.out)) hb)
               clear HO_3
               clear HO209
               clear BK192
               clear BK193
               clear HB
               have HO_3:=n0_
               have HO209:=n1_
               have HO212:=n2_
               have BK192:=n3_
               have BK193:=n4_
               have HB:=n5_
               clear n0_ n1_ n2_ n3_ n4_ n5_
               clear hb ho25
               refine hK.out _ _ ⟨(blk_cell BK192.out 0).trans rfl,(blk_cell BK192.out 1).trans rfl,(blk_cell BK192.out 2).trans rfl,(blk_cell BK192.out 3).trans rfl⟩ (fun hHeld=>?_)
               clear hK K
               refine norm_ (a':=?_) ?_ ?_
               rotate_left
               ·show Act.put _ (some 25) _ = _
                simp only [Act.put,List.setIfInBounds_toArray,List.set_cons_zero,List.set_cons_succ,i64_w,i32_w]
                rfl
               exact norm_ (by first|(simp only [putAll,Act.put,List.setIfInBounds_toArray,List.set_cons_zero,List.set_cons_succ];done)|(simp only [putAll,Act.put,List.setIfInBounds_toArray,List.set_cons_zero,List.set_cons_succ];rfl)) (hJ1_4_5 (v205,v208,v211) _ ⟨hHeld,(by exact HO209.out),(by exact HO212.out),(by exact HO_3.out),(by exact BK192.out),(by exact BK193.out),(by repeat (first|(with_reducible first|exact HB.out|apply below_alloc|apply pw_below_drewN|apply below_drew1|refine below_set ?_ GE192.out|refine below_set ?_ GE193.out)|exact HB.out))⟩)
              ·skip
               refine Kd.R_lit_step (Kd.int .i64) _ 3 ?hg (N:=29) ?hd (xs:=([] : List Int)) (inner:=[]) (ok:=fun _=>True) (okp:=fun _=>True) ?hr ?hp (fun _ hk=>hk) trivial (Below.refl _ _) (Nat.le_refl _) (by simp) ?_;(case hd=>rfl);(case hg=>rfl);(case hr=>first|(go_simp;done)|(go_simp;rfl));(case hp=>exact (Reps.none _ _))
               intro v217 w24 ho25 hb hg_ hnew_
               clear hg_ hnew_
               (first|rw [← Ny216.out] at ho25|(simp only [Int.reduceToNat] at ho25;rw [← Ny216.out] at ho25))
               have n0_:=Aside0.mk (Kd.S_below (by exact HO_3.out) hb)
               have n1_:=Aside0.mk (Kd.R_below (by exact HO209.out) hb)
               have n2_:=Aside0.mk (Kd.R_lower ho25 (below_size (by repeat (first|(with_reducible first|exact HB.out|apply below_alloc|apply pw_below_drewN|apply below_drew1|refine below_set ?_ GE192.out|refine below_set ?_ GE193.out)|exact HB.out))))
               have n3_:=Aside0.mk (blk_below (g:=gb192) (o:=.cells #[.slice A0_0 l0_0.length c0_0,.slice A0_1 l0_1.length c0_1,.slice A0_2 l0_2.length c0_2,.slice A0_3 l0_3.length c0_3] 29 (0,0)) (by exact BK192.out) hb)
               have n4_:=Aside0.mk (blk_below (g:=gb193) (o:=.cells #[.slice none 0 0,.slice none 0 0,.slice none 0 0,.slice none 0 0] 29 (0,0)) (by exact BK193.out) hb)
               have n5_:=Aside0.mk (below_step (by repeat (first|(with_reducible first|exact HB.out|apply below_alloc|apply pw_below_drewN|apply below_drew1|refine below_set ?_ GE192.out|refine below_set ?_ GE193.out)|exact HB.out)) hb)
               clear HO_3
               clear HO209
               clear BK192
               clear BK193
               clear HB
               have HO_3:=n0_
               have HO209:=n1_
               have HO218:=n2_
               have BK192:=n3_
               have BK193:=n4_
               have HB:=n5_
               clear n0_ n1_ n2_ n3_ n4_ n5_
               clear hb ho25
               refine hK.out _ _ ⟨(blk_cell BK192.out 0).trans rfl,(blk_cell BK192.out 1).trans rfl,(blk_cell BK192.out 2).trans rfl,(blk_cell BK192.out 3).trans rfl⟩ (fun hHeld=>?_)
               clear hK K
               refine norm_ (a':=?_) ?_ ?_
               rotate_left
               ·show Act.put _ (some 29) _ = _
                simp only [Act.put,List.setIfInBounds_toArray,List.set_cons_zero,List.set_cons_succ,i64_w,i32_w]
                rfl
               exact norm_ (by first|(simp only [putAll,Act.put,List.setIfInBounds_toArray,List.set_cons_zero,List.set_cons_succ];done)|(simp only [putAll,Act.put,List.setIfInBounds_toArray,List.set_cons_zero,List.set_cons_succ];rfl)) (hJ1_4_9 (v205,v208,v217) _ ⟨hHeld,(by exact HO209.out),(by exact HO218.out),(by exact HO_3.out),(by exact BK192.out),(by exact BK193.out),(by repeat (first|(with_reducible first|exact HB.out|apply below_alloc|apply pw_below_drewN|apply below_drew1|refine below_set ?_ GE192.out|refine below_set ?_ GE193.out)|exact HB.out))⟩)
            ·skip
             rintro ⟨v205,v211,v217⟩ w26 ⟨hS_,h0_,h1_,h2_,h3_,h4_,h5_,h6_⟩
             have n0_ : Aside0 (Kd.R (Kd.int .u8) 5 w26 w.heap.size (fun _=>True) v205 y204):=⟨h0_⟩
             have n1_ : Aside0 (Kd.R (Kd.int .i64) 3 w26 w.heap.size (fun k_=>some k_ ≠ (v217 : Value).ownBlock) v211 y210):=⟨h1_⟩
             have n2_ : Aside0 (Kd.R (Kd.int .i64) 3 w26 w.heap.size (fun k_=>some k_ ≠ (v211 : Value).ownBlock) v217 y216):=⟨h2_⟩
             have n3_ : Aside0 (Kd.S (Kd.slice 5 (Kd.int .u8)) 23 w26 w.heap.size (fun k_=>some k_ ≠ (v205 : Value).ownBlock) u3 x3_1):=⟨h3_⟩
             have n4_ : Aside0 (w26.heap[gb192]? = some (.cells #[.slice A0_0 l0_0.length c0_0,.slice A0_1 l0_1.length c0_1,.slice A0_2 l0_2.length c0_2,.slice A0_3 l0_3.length c0_3] 29 (0,0))):=⟨h4_⟩
             have n5_ : Aside0 (w26.heap[gb193]? = some (.cells #[.slice none 0 0,.slice none 0 0,.slice none 0 0,.slice none 0 0] 29 (0,0))):=⟨h5_⟩
             have n6_ : Aside0 (Below w.heap.size w w26):=⟨h6_⟩
             clear HO_3
             clear BK192
             clear BK193
             clear HB
             clear h0_ h1_ h2_ h3_ h4_ h5_ h6_
             have HO206:=n0_
             have HO212:=n1_
             have HO218:=n2_
             have HO_3:=n3_
             have BK192:=n4_
             have BK193:=n5_
             have HB:=n6_
             clear n0_ n1_ n2_ n3_ n4_ n5_ n6_
             have hHeld : w26.cell? ⟨gb192,0,none⟩ = some (.slice A0_0 l0_0.length c0_0)∧w26.cell? ⟨gb192,1,none⟩ = some (.slice A0_1 l0_1.length c0_1)∧w26.cell? ⟨gb192,2,none⟩ = some (.slice A0_2 l0_2.length c0_2)∧w26.cell? ⟨gb192,3,none⟩ = some (.slice A0_3 l0_3.length c0_3):=hS_
             refine norm_ (a':=?_) ?_ ?_
             rotate_left
             ·simp only [putAll,Act.put,List.setIfInBounds_toArray,List.set_cons_zero,List.set_cons_succ]
              rfl
             refine one_ (i:=4) (N:=some 24) #[true,true,true,true,true,true,true,true,false,true,true,true,false,false,false] rfl rfl (one_of HT_.out (by kernel_rfl)) (by decide) (fun K hK=>?_)
             refine Kd.R_append_rows_step (Kd.int .u8) (w0:=w) w.heap.size (by rfl) (.tmp 21) (.tmp 23) 23 5 (.int .u8 0) 1 rfl Try.underlying23 info5 rfl (by decide) (by omega) v205 y204 l0_1 _ _ _ (fun _=>True) (fun _=>False) rfl rfl ?aO ?aR (fun _ _ h=>h) (fun _ h=>h.elim) ?aF ?aB ?aS ?aL ?_
             (case aR=>repeat (first|exact (Kd.C_below HR0_1.out HB.out)|(with_reducible first|apply Kd.C_alloc|apply Kd.C_drewN|apply Kd.C_drew)))
             (case aB=>exact (by repeat (first|(with_reducible first|exact HB.out|apply below_alloc|apply pw_below_drewN|apply below_drew1|refine below_set ?_ GE192.out|refine below_set ?_ GE193.out)|exact HB.out)))
             (case aF=>exact (fun _ _=>trivial))
             (case aO=>exact (by exact HO206.out))
             (case aS=>exact (below_size (by repeat (first|(with_reducible first|exact HB.out|apply below_alloc|apply pw_below_drewN|apply below_drew1|refine below_set ?_ GE192.out|refine below_set ?_ GE193.out)|exact HB.out))))
             (case aL=>have:=LMc16.out;omega)
             intro v208 w27 ho hb hg hat
             rw [← Ny207.out] at ho
             have n0_:=Aside0.mk (Kd.S_after (ok:=(fun _=>True)) (by exact Kd.S_mono HO_3.out (fun _ hk=>⟨trivial,hk⟩)) hg hat)
             have n1_:=Aside0.mk (blk_grown (g:=gb192) (o:=.cells #[.slice A0_0 l0_0.length c0_0,.slice A0_1 l0_1.length c0_1,.slice A0_2 l0_2.length c0_2,.slice A0_3 l0_3.length c0_3] 29 (0,0)) (by exact BK192.out) hg (Kd.R_ne HO206.out BK192.out (by decide)))
             have n2_:=Aside0.mk (blk_grown (g:=gb193) (o:=.cells #[.slice none 0 0,.slice none 0 0,.slice none 0 0,.slice none 0 0] 29 (0,0)) (by exact BK193.out) hg (Kd.R_ne HO206.out BK193.out (by decide)))
             have n3_:=Aside0.mk (Kd.R_over' (by exact HO212.out) (Kd.R_typed (by exact HO206.out)) (by decide) hg)
             have n4_:=Aside0.mk (Kd.R_over' (by exact HO218.out) (Kd.R_typed (by exact HO206.out)) (by decide) hg)
             have n5_:=Aside0.mk (hb)
             have n6_:=Aside0.mk (ho)
             clear HO_3
             clear BK192
             clear BK193
             clear HO212
             clear HO218
             clear HB
             clear HO206
             have HO_3:=n0_
             have BK192:=n1_
             have BK193:=n2_
             have HO212:=n3_
             have HO218:=n4_
             have HB:=n5_
             have HO209:=n6_
             clear n0_ n1_ n2_ n3_ n4_ n5_ n6_
             clear ho hb hg hat
             refine hK.out _ _ ⟨(blk_cell BK192.out 0).trans rfl,(blk_cell BK192.out 1).trans rfl,(blk_cell BK192.out 2).trans rfl,(blk_cell BK192.out 3).trans rfl⟩ (fun hHeld=>?_)
             clear hK K
             refine norm_ (a':=?_) ?_ ?_
             rotate_left
             ·show Act.put _ (some 24) _ = _
              simp only [Act.put,List.setIfInBounds_toArray,List.set_cons_zero,List.set_cons_succ,i64_w,i32_w]
              rfl
             exact norm_ (by first|(simp only [putAll,Act.put,List.setIfInBounds_toArray,List.set_cons_zero,List.set_cons_succ];done)|(simp only [putAll,Act.put,List.setIfInBounds_toArray,List.set_cons_zero,List.set_cons_succ];rfl)) (hJ1_4_5_9 (v205,v208,v211,v217) _ ⟨hHeld,(by exact HO209.out),(by exact HO212.out),(by exact HO218.out),(by exact Kd.S_mono HO_3.out (fun _ hk=>hk.2)),(by exact BK192.out),(by exact BK193.out),(by repeat (first|(with_reducible first|exact HB.out|apply below_alloc|apply pw_below_drewN|apply below_drew1|refine below_set ?_ GE192.out|refine below_set ?_ GE193.out)|exact HB.out))⟩)
           ·skip
            rintro ⟨v205,v208,v217⟩ w25 ⟨hS_,h0_,h1_,h2_,h3_,h4_,h5_⟩
            have n0_ : Aside0 (Kd.R (Kd.int .u8) 5 w25 w.heap.size (fun _=>True) v208 y207):=⟨h0_⟩
            have n1_ : Aside0 (Kd.R (Kd.int .i64) 3 w25 w.heap.size (fun _=>True) v217 y216):=⟨h1_⟩
            have n2_ : Aside0 (Kd.S (Kd.slice 5 (Kd.int .u8)) 23 w25 w.heap.size (fun k_=>some k_ ≠ (v208 : Value).ownBlock) u3 x3_1):=⟨h2_⟩
            have n3_ : Aside0 (w25.heap[gb192]? = some (.cells #[.slice A0_0 l0_0.length c0_0,.slice A0_1 l0_1.length c0_1,.slice A0_2 l0_2.length c0_2,.slice A0_3 l0_3.length c0_3] 29 (0,0))):=⟨h3_⟩
            have n4_ : Aside0 (w25.heap[gb193]? = some (.cells #[.slice none 0 0,.slice none 0 0,.slice none 0 0,.slice none 0 0] 29 (0,0))):=⟨h4_⟩
            have n5_ : Aside0 (Below w.heap.size w w25):=⟨h5_⟩
            clear HO_3
            clear BK192
            clear BK193
            clear HB
            clear h0_ h1_ h2_ h3_ h4_ h5_
            have HO209:=n0_
            have HO218:=n1_
            have HO_3:=n2_
            have BK192:=n3_
            have BK193:=n4_
            have HB:=n5_
            clear n0_ n1_ n2_ n3_ n4_ n5_
            have hHeld : w25.cell? ⟨gb192,0,none⟩ = some (.slice A0_0 l0_0.length c0_0)∧w25.cell? ⟨gb192,1,none⟩ = some (.slice A0_1 l0_1.length c0_1)∧w25.cell? ⟨gb192,2,none⟩ = some (.slice A0_2 l0_2.length c0_2)∧w25.cell? ⟨gb192,3,none⟩ = some (.slice A0_3 l0_3.length c0_3):=hS_
            refine norm_ (a':=?_) ?_ ?_
            rotate_left
            ·simp only [putAll,Act.put,List.setIfInBounds_toArray,List.set_cons_zero,List.set_cons_succ]
             rfl
            refine one_ (i:=5) (N:=some 25) #[true,true,true,true,true,true,true,true,false,true,true,true,false,false,false] rfl rfl (one_of HT_.out (by kernel_rfl)) (by decide) (fun K hK=>?_)
            refine Kd.R_lit_step (Kd.int .i64) _ 3 ?hg (N:=25) ?hd (xs:=([] : List Int)) (inner:=[]) (ok:=fun _=>True) (okp:=fun _=>True) ?hr ?hp (fun _ hk=>hk) trivial (Below.refl _ _) (Nat.le_refl _) (by simp) ?_;(case hd=>rfl);(case hg=>rfl);(case hr=>first|(go_simp;done)|(go_simp;rfl));(case hp=>exact (Reps.none _ _))
            intro v211 w26 ho27 hb hg_ hnew_
            clear hg_ hnew_
            (first|rw [← Ny210.out] at ho27|(simp only [Int.reduceToNat] at ho27;rw [← Ny210.out] at ho27))
            have n0_:=Aside0.mk (Kd.S_below (by exact HO_3.out) hb)
            have n1_:=Aside0.mk (Kd.R_below (by exact HO209.out) hb)
            have n2_:=Aside0.mk (Kd.R_elder' (by exact HO218.out) (Kd.R_base ho27) hb)
            have n3_:=Aside0.mk (Kd.R_lower (Kd.R_new' ho27 (Kd.R_lt (by exact HO218.out))) (below_size (by repeat (first|(with_reducible first|exact HB.out|apply below_alloc|apply pw_below_drewN|apply below_drew1|refine below_set ?_ GE192.out|refine below_set ?_ GE193.out)|exact HB.out))))
            have n4_:=Aside0.mk (blk_below (g:=gb192) (o:=.cells #[.slice A0_0 l0_0.length c0_0,.slice A0_1 l0_1.length c0_1,.slice A0_2 l0_2.length c0_2,.slice A0_3 l0_3.length c0_3] 29 (0,0)) (by exact BK192.out) hb)
            have n5_:=Aside0.mk (blk_below (g:=gb193) (o:=.cells #[.slice none 0 0,.slice none 0 0,.slice none 0 0,.slice none 0 0] 29 (0,0)) (by exact BK193.out) hb)
            have n6_:=Aside0.mk (below_step (by repeat (first|(with_reducible first|exact HB.out|apply below_alloc|apply pw_below_drewN|apply below_drew1|refine below_set ?_ GE192.out|refine below_set ?_ GE193.out)|exact HB.out)) hb)
            clear HO_3
            clear HO209
            clear HO218
            clear BK192
            clear BK193
            clear HB
            have HO_3:=n0_
            have HO209:=n1_
            have HO218:=n2_
            have HO212:=n3_
            have BK192:=n4_
            have BK193:=n5_
            have HB:=n6_
            clear n0_ n1_ n2_ n3_ n4_ n5_ n6_
            clear hb ho27
            refine hK.out _ _ ⟨(blk_cell BK192.out 0).trans rfl,(blk_cell BK192.out 1).trans rfl,(blk_cell BK192.out 2).trans rfl,(blk_cell BK192.out 3).trans rfl⟩ (fun hHeld=>?_)
            clear hK K
            refine norm_ (a':=?_) ?_ ?_
            rotate_left
            ·show Act.put _ (some 25) _ = _
             simp only [Act.put,List.setIfInBounds_toArray,List.set_cons_zero,List.set_cons_succ,i64_w,i32_w]
             rfl
            exact norm_ (by first|(simp only [putAll,Act.put,List.setIfInBounds_toArray,List.set_cons_zero,List.set_cons_succ];done)|(simp only [putAll,Act.put,List.setIfInBounds_toArray,List.set_cons_zero,List.set_cons_succ];rfl)) (hJ1_4_5_9 (v205,v208,v211,v217) _ ⟨hHeld,(by exact HO209.out),(by exact Kd.R_mono HO212.out (fun _ hk=>hk.2)),(by exact Kd.R_mono HO218.out (fun _ hk=>hk.2)),(by exact HO_3.out),(by exact BK192.out),(by exact BK193.out),(by repeat (first|(with_reducible first|exact HB.out|apply below_alloc|apply pw_below_drewN|apply below_drew1|refine below_set ?_ GE192.out|refine below_set ?_ GE193.out)|exact HB.out))⟩)
          ·skip
           rintro ⟨v205,v208,v211⟩ w25 ⟨hS_,h0_,h1_,h2_,h3_,h4_,h5_⟩
           have n0_ : Aside0 (Kd.R (Kd.int .u8) 5 w25 w.heap.size (fun _=>True) v208 y207):=⟨h0_⟩
           have n1_ : Aside0 (Kd.R (Kd.int .i64) 3 w25 w.heap.size (fun _=>True) v211 y210):=⟨h1_⟩
           have n2_ : Aside0 (Kd.S (Kd.slice 5 (Kd.int .u8)) 23 w25 w.heap.size (fun k_=>some k_ ≠ (v208 : Value).ownBlock) u3 x3_1):=⟨h2_⟩
           have n3_ : Aside0 (w25.heap[gb192]? = some (.cells #[.slice A0_0 l0_0.length c0_0,.slice A0_1 l0_1.length c0_1,.slice A0_2 l0_2.length c0_2,.slice A0_3 l0_3.length c0_3] 29 (0,0))):=⟨h3_⟩
           have n4_ : Aside0 (w25.heap[gb193]? = some (.cells #[.slice none 0 0,.slice none 0 0,.slice none 0 0,.slice none 0 0] 29 (0,0))):=⟨h4_⟩
           have n5_ : Aside0 (Below w.heap.size w w25):=⟨h5_⟩
           clear HO_3
           clear BK192
           clear BK193
           clear HB
           clear h0_ h1_ h2_ h3_ h4_ h5_
           have HO209:=n0_
           have HO212:=n1_
           have HO_3:=n2_
           have BK192:=n3_
           have BK193:=n4_
           have HB:=n5_
           clear n0_ n1_ n2_ n3_ n4_ n5_
           have hHeld : w25.cell? ⟨gb192,0,none⟩ = some (.slice A0_0 l0_0.length c0_0)∧w25.cell? ⟨gb192,1,none⟩ = some (.slice A0_1 l0_1.length c0_1)∧w25.cell? ⟨gb192,2,none⟩ = some (.slice A0_2 l0_2.length c0_2)∧w25.cell? ⟨gb192,3,none⟩ = some (.slice A0_3 l0_3.length c0_3):=hS_
           refine norm_ (a':=?_) ?_ ?_
           rotate_left
           ·simp only [putAll,Act.put,List.setIfInBounds_toArray,List.set_cons_zero,List.set_cons_succ]
            rfl
           refine two_ (i:=8) (j:=9) (Ni:=some 28) (Nj:=some 29) #[true,true,true,true,true,true,true,true,true,false,true,true,false,false,false] #[true,true,true,true,true,true,true,true,false,true,true,true,false,false,false] rfl rfl rfl rfl (two_of HT_.out (by kernel_rfl)) (by decide) (by decide) (fun K hK=>?_) (fun K hK=>?_)
           ·skip
            refine Kd.R_append_rows_step (Kd.int .i64) (w0:=w) w.heap.size (by rfl) (.tmp 25) (.tmp 27) 24 3 (.int .i64 0) 8 rfl Try.underlying24 info3 rfl (by decide) (by omega) v211 y210 l0_2 _ _ _ (fun _=>True) (fun _=>False) rfl rfl ?aO ?aR (fun _ _ h=>h) (fun _ h=>h.elim) ?aF ?aB ?aS ?aL ?_
            (case aR=>repeat (first|exact (Kd.C_below HR0_2.out HB.out)|(with_reducible first|apply Kd.C_alloc|apply Kd.C_drewN|apply Kd.C_drew)))
            (case aB=>exact (by repeat (first|(with_reducible first|exact HB.out|apply below_alloc|apply pw_below_drewN|apply below_drew1|refine below_set ?_ GE192.out|refine below_set ?_ GE193.out)|exact HB.out)))
            (case aF=>exact (fun _ _=>trivial))
            (case aO=>exact (by exact HO212.out))
            (case aS=>exact (below_size (by repeat (first|(with_reducible first|exact HB.out|apply below_alloc|apply pw_below_drewN|apply below_drew1|refine below_set ?_ GE192.out|refine below_set ?_ GE193.out)|exact HB.out))))
            (case aL=>have:=LMc17.out;omega)
            intro v214 w26 ho hb hg hat
            rw [← Ny213.out] at ho
            have n0_:=Aside0.mk (Kd.S_over' (by exact HO_3.out) (Kd.R_typed (by exact HO212.out)) (by decide) hg)
            have n1_:=Aside0.mk (blk_grown (g:=gb192) (o:=.cells #[.slice A0_0 l0_0.length c0_0,.slice A0_1 l0_1.length c0_1,.slice A0_2 l0_2.length c0_2,.slice A0_3 l0_3.length c0_3] 29 (0,0)) (by exact BK192.out) hg (Kd.R_ne HO212.out BK192.out (by decide)))
            have n2_:=Aside0.mk (blk_grown (g:=gb193) (o:=.cells #[.slice none 0 0,.slice none 0 0,.slice none 0 0,.slice none 0 0] 29 (0,0)) (by exact BK193.out) hg (Kd.R_ne HO212.out BK193.out (by decide)))
            have n3_:=Aside0.mk (Kd.R_over' (by exact HO209.out) (Kd.R_typed (by exact HO212.out)) (by decide) hg)
            have n4_:=Aside0.mk (hb)
            have n5_:=Aside0.mk (ho)
            clear HO_3
            clear BK192
            clear BK193
            clear HO209
            clear HB
            clear HO212
            have HO_3:=n0_
            have BK192:=n1_
            have BK193:=n2_
            have HO209:=n3_
            have HB:=n4_
            have HO215:=n5_
            clear n0_ n1_ n2_ n3_ n4_ n5_
            clear ho hb hg hat
            refine hK.out _ _ ⟨(blk_cell BK192.out 0).trans rfl,(blk_cell BK192.out 1).trans rfl,(blk_cell BK192.out 2).trans rfl,(blk_cell BK192.out 3).trans rfl⟩ (fun hHeld=>?_)
            clear hK K
            refine norm_ (a':=?_) ?_ ?_
            rotate_left
            ·show Act.put _ (some 28) _ = _
             simp only [Act.put,List.setIfInBounds_toArray,List.set_cons_zero,List.set_cons_succ,i64_w,i32_w]
             rfl
            exact norm_ (by first|(simp only [putAll,Act.put,List.setIfInBounds_toArray,List.set_cons_zero,List.set_cons_succ];done)|(simp only [putAll,Act.put,List.setIfInBounds_toArray,List.set_cons_zero,List.set_cons_succ];rfl)) (hJ1_4_5_8 (v205,v208,v211,v214) _ ⟨hHeld,(by exact HO209.out),(by exact HO215.out),(by exact HO_3.out),(by exact BK192.out),(by exact BK193.out),(by repeat (first|(with_reducible first|exact HB.out|apply below_alloc|apply pw_below_drewN|apply below_drew1|refine below_set ?_ GE192.out|refine below_set ?_ GE193.out)|exact HB.out))⟩)
           ·skip
            refine Kd.R_lit_step (Kd.int .i64) _ 3 ?hg (N:=29) ?hd (xs:=([] : List Int)) (inner:=[]) (ok:=fun _=>True) (okp:=fun _=>True) ?hr ?hp (fun _ hk=>hk) trivial (Below.refl _ _) (Nat.le_refl _) (by simp) ?_;(case hd=>rfl);(case hg=>rfl);(case hr=>first|(go_simp;done)|(go_simp;rfl));(case hp=>exact (Reps.none _ _))
            intro v217 w26 ho27 hb hg_ hnew_
            clear hg_ hnew_
            (first|rw [← Ny216.out] at ho27|(simp only [Int.reduceToNat] at ho27;rw [← Ny216.out] at ho27))
            have n0_:=Aside0.mk (Kd.S_below (by exact HO_3.out) hb)
            have n1_:=Aside0.mk (Kd.R_below (by exact HO209.out) hb)
            have n2_:=Aside0.mk (Kd.R_elder' (by exact HO212.out) (Kd.R_base ho27) hb)
            have n3_:=Aside0.mk (Kd.R_lower (Kd.R_new' ho27 (Kd.R_lt (by exact HO212.out))) (below_size (by repeat (first|(with_reducible first|exact HB.out|apply below_alloc|apply pw_below_drewN|apply below_drew1|refine below_set ?_ GE192.out|refine below_set ?_ GE193.out)|exact HB.out))))
            have n4_:=Aside0.mk (blk_below (g:=gb192) (o:=.cells #[.slice A0_0 l0_0.length c0_0,.slice A0_1 l0_1.length c0_1,.slice A0_2 l0_2.length c0_2,.slice A0_3 l0_3.length c0_3] 29 (0,0)) (by exact BK192.out) hb)
            have n5_:=Aside0.mk (blk_below (g:=gb193) (o:=.cells #[.slice none 0 0,.slice none 0 0,.slice none 0 0,.slice none 0 0] 29 (0,0)) (by exact BK193.out) hb)
            have n6_:=Aside0.mk (below_step (by repeat (first|(with_reducible first|exact HB.out|apply below_alloc|apply pw_below_drewN|apply below_drew1|refine below_set ?_ GE192.out|refine below_set ?_ GE193.out)|exact HB.out)) hb)
            clear HO_3
            clear HO209
            clear HO212
            clear BK192
            clear BK193
            clear HB
            have HO_3:=n0_
            have HO209:=n1_
            have HO212:=n2_
            have HO218:=n3_
            have BK192:=n4_
            have BK193:=n5_
            have HB:=n6_
            clear n0_ n1_ n2_ n3_ n4_ n5_ n6_
            clear hb ho27
            refine hK.out _ _ ⟨(blk_cell BK192.out 0).trans rfl,(blk_cell BK192.out 1).trans rfl,(blk_cell BK192.out 2).trans rfl,(blk_cell BK192.out 3).trans rfl⟩ (fun hHeld=>?_)
            clear hK K
            refine norm_ (a':=?_) ?_ ?_
            rotate_left
            ·show Act.put _ (some 29) _ = _
             simp only [Act.put,List.setIfInBounds_toArray,List.set_cons_zero,List.set_cons_succ,i64_w,i32_w]
             rfl
            exact norm_ (by first|(simp only [putAll,Act.put,List.setIfInBounds_toArray,List.set_cons_zero,List.set_cons_succ];done)|(simp only [putAll,Act.put,List.setIfInBounds_toArray,List.set_cons_zero,List.set_cons_succ];rfl)) (hJ1_4_5_9 (v205,v208,v211,v217) _ ⟨hHeld,(by exact HO209.out),(by exact Kd.R_mono HO212.out (fun _ hk=>hk.2)),(by exact Kd.R_mono HO218.out (fun _ hk=>hk.2)),(by exact HO_3.out),(by exact BK192.out),(by exact BK193.out),(by repeat (first|(with_reducible first|exact HB.out|apply below_alloc|apply pw_below_drewN|apply below_drew1|refine below_set ?_ GE192.out|refine below_set ?_ GE193.out)|exact HB.out))⟩)
         ·skip
          rintro ⟨v205,v208,v211,v217⟩ w27 ⟨hS_,h0_,h1_,h2_,h3_,h4_,h5_,h6_⟩
          have n0_ : Aside0 (Kd.R (Kd.int .u8) 5 w27 w.heap.size (fun _=>True) v208 y207):=⟨h0_⟩
          have n1_ : Aside0 (Kd.R (Kd.int .i64) 3 w27 w.heap.size (fun k_=>some k_ ≠ (v217 : Value).ownBlock) v211 y210):=⟨h1_⟩
          have n2_ : Aside0 (Kd.R (Kd.int .i64) 3 w27 w.heap.size (fun k_=>some k_ ≠ (v211 : Value).ownBlock) v217 y216):=⟨h2_⟩
          have n3_ : Aside0 (Kd.S (Kd.slice 5 (Kd.int .u8)) 23 w27 w.heap.size (fun k_=>some k_ ≠ (v208 : Value).ownBlock) u3 x3_1):=⟨h3_⟩
          have n4_ : Aside0 (w27.heap[gb192]? = some (.cells #[.slice A0_0 l0_0.length c0_0,.slice A0_1 l0_1.length c0_1,.slice A0_2 l0_2.length c0_2,.slice A0_3 l0_3.length c0_3] 29 (0,0))):=⟨h4_⟩
          have n5_ : Aside0 (w27.heap[gb193]? = some (.cells #[.slice none 0 0,.slice none 0 0,.slice none 0 0,.slice none 0 0] 29 (0,0))):=⟨h5_⟩
          have n6_ : Aside0 (Below w.heap.size w w27):=⟨h6_⟩
          clear HO_3
          clear BK192
          clear BK193
          clear HB
          clear h0_ h1_ h2_ h3_ h4_ h5_ h6_
          have HO209:=n0_
          have HO212:=n1_
          have HO218:=n2_
          have HO_3:=n3_
          have BK192:=n4_
          have BK193:=n5_
          have HB:=n6_
          clear n0_ n1_ n2_ n3_ n4_ n5_ n6_
          have hHeld : w27.cell? ⟨gb192,0,none⟩ = some (.slice A0_0 l0_0.length c0_0)∧w27.cell? ⟨gb192,1,none⟩ = some (.slice A0_1 l0_1.length c0_1)∧w27.cell? ⟨gb192,2,none⟩ = some (.slice A0_2 l0_2.length c0_2)∧w27.cell? ⟨gb192,3,none⟩ = some (.slice A0_3 l0_3.length c0_3):=hS_
          refine norm_ (a':=?_) ?_ ?_
          rotate_left
          ·simp only [putAll,Act.put,List.setIfInBounds_toArray,List.set_cons_zero,List.set_cons_succ]
           rfl
          refine one_ (i:=8) (N:=some 28) #[true,true,true,true,true,true,true,true,true,true,true,true,false,false,false] rfl rfl (one_of HT_.out (by kernel_rfl)) (by decide) (fun K hK=>?_)
          refine Kd.R_append_rows_step (Kd.int .i64) (w0:=w) w.heap.size (by rfl) (.tmp 25) (.tmp 27) 24 3 (.int .i64 0) 8 rfl Try.underlying24 info3 rfl (by decide) (by omega) v211 y210 l0_2 _ _ _ (fun k_=>some k_ ≠ (v217 : Value).ownBlock) (fun _=>False) rfl rfl ?aO ?aR (fun _ _ h=>h) (fun _ h=>h.elim) ?aF ?aB ?aS ?aL ?_
          (case aR=>repeat (first|exact (Kd.C_below HR0_2.out HB.out)|(with_reducible first|apply Kd.C_alloc|apply Kd.C_drewN|apply Kd.C_drew)))
          (case aB=>exact (by repeat (first|(with_reducible first|exact HB.out|apply below_alloc|apply pw_below_drewN|apply below_drew1|refine below_set ?_ GE192.out|refine below_set ?_ GE193.out)|exact HB.out)))
          (case aF=>exact (fun k_ hk=>Kd.fresh' (Kd.R_lt (by exact HO218.out)) k_ hk))
          (case aO=>exact (by exact HO212.out))
          (case aS=>exact (below_size (by repeat (first|(with_reducible first|exact HB.out|apply below_alloc|apply pw_below_drewN|apply below_drew1|refine below_set ?_ GE192.out|refine below_set ?_ GE193.out)|exact HB.out))))
          (case aL=>have:=LMc17.out;omega)
          intro v214 w28 ho hb hg hat
          rw [← Ny213.out] at ho
          have n0_:=Aside0.mk (Kd.S_over' (by exact HO_3.out) (Kd.R_typed (by exact HO212.out)) (by decide) hg)
          have n1_:=Aside0.mk (blk_grown (g:=gb192) (o:=.cells #[.slice A0_0 l0_0.length c0_0,.slice A0_1 l0_1.length c0_1,.slice A0_2 l0_2.length c0_2,.slice A0_3 l0_3.length c0_3] 29 (0,0)) (by exact BK192.out) hg (Kd.R_ne HO212.out BK192.out (by decide)))
          have n2_:=Aside0.mk (blk_grown (g:=gb193) (o:=.cells #[.slice none 0 0,.slice none 0 0,.slice none 0 0,.slice none 0 0] 29 (0,0)) (by exact BK193.out) hg (Kd.R_ne HO212.out BK193.out (by decide)))
          have n3_:=Aside0.mk (Kd.R_over' (by exact HO209.out) (Kd.R_typed (by exact HO212.out)) (by decide) hg)
          have n4_:=Aside0.mk (Kd.R_after (ok:=(fun _=>True)) (by exact Kd.R_mono HO218.out (fun _ hk=>⟨trivial,hk⟩)) hg hat)
          have n5_:=Aside0.mk (hb)
          have n6_:=Aside0.mk (ho)
          clear HO_3
          clear BK192
          clear BK193
          clear HO209
          clear HO218
          clear HB
          clear HO212
          have HO_3:=n0_
          have BK192:=n1_
          have BK193:=n2_
          have HO209:=n3_
          have HO218:=n4_
          have HB:=n5_
          have HO215:=n6_
          clear n0_ n1_ n2_ n3_ n4_ n5_ n6_
          clear ho hb hg hat
          refine hK.out _ _ ⟨(blk_cell BK192.out 0).trans rfl,(blk_cell BK192.out 1).trans rfl,(blk_cell BK192.out 2).trans rfl,(blk_cell BK192.out 3).trans rfl⟩ (fun hHeld=>?_)
          clear hK K
          refine norm_ (a':=?_) ?_ ?_
          rotate_left
          ·show Act.put _ (some 28) _ = _
           simp only [Act.put,List.setIfInBounds_toArray,List.set_cons_zero,List.set_cons_succ,i64_w,i32_w]
           rfl
          exact norm_ (by first|(simp only [putAll,Act.put,List.setIfInBounds_toArray,List.set_cons_zero,List.set_cons_succ];done)|(simp only [putAll,Act.put,List.setIfInBounds_toArray,List.set_cons_zero,List.set_cons_succ];rfl)) (hJ1_4_5_8_9 (v205,v208,v211,v214,v217) _ ⟨hHeld,(by exact HO209.out),(by exact HO215.out),(by exact Kd.R_mono HO218.out (fun _ hk=>hk.2)),(by exact HO_3.out),(by exact BK192.out),(by exact BK193.out),(by repeat (first|(with_reducible first|exact HB.out|apply below_alloc|apply pw_below_drewN|apply below_drew1|refine below_set ?_ GE192.out|refine below_set ?_ GE193.out)|exact HB.out))⟩)
        ·skip
         rintro ⟨v205,v208,v211,v214⟩ w26 ⟨hS_,h0_,h1_,h2_,h3_,h4_,h5_⟩
         have n0_ : Aside0 (Kd.R (Kd.int .u8) 5 w26 w.heap.size (fun _=>True) v208 y207):=⟨h0_⟩
         have n1_ : Aside0 (Kd.R (Kd.int .i64) 3 w26 w.heap.size (fun _=>True) v214 y213):=⟨h1_⟩
         have n2_ : Aside0 (Kd.S (Kd.slice 5 (Kd.int .u8)) 23 w26 w.heap.size (fun k_=>some k_ ≠ (v208 : Value).ownBlock) u3 x3_1):=⟨h2_⟩
         have n3_ : Aside0 (w26.heap[gb192]? = some (.cells #[.slice A0_0 l0_0.length c0_0,.slice A0_1 l0_1.length c0_1,.slice A0_2 l0_2.length c0_2,.slice A0_3 l0_3.length c0_3] 29 (0,0))):=⟨h3_⟩
         have n4_ : Aside0 (w26.heap[gb193]? = some (.cells #[.slice none 0 0,.slice none 0 0,.slice none 0 0,.slice none 0 0] 29 (0,0))):=⟨h4_⟩
         have n5_ : Aside0 (Below w.heap.size w w26):=⟨h5_⟩
         clear HO_3
         clear BK192
         clear BK193
         clear HB
         clear h0_ h1_ h2_ h3_ h4_ h5_
         have HO209:=n0_
         have HO215:=n1_
         have HO_3:=n2_
         have BK192:=n3_
         have BK193:=n4_
         have HB:=n5_
         clear n0_ n1_ n2_ n3_ n4_ n5_
         have hHeld : w26.cell? ⟨gb192,0,none⟩ = some (.slice A0_0 l0_0.length c0_0)∧w26.cell? ⟨gb192,1,none⟩ = some (.slice A0_1 l0_1.length c0_1)∧w26.cell? ⟨gb192,2,none⟩ = some (.slice A0_2 l0_2.length c0_2)∧w26.cell? ⟨gb192,3,none⟩ = some (.slice A0_3 l0_3.length c0_3):=hS_
         refine norm_ (a':=?_) ?_ ?_
         rotate_left
         ·simp only [putAll,Act.put,List.setIfInBounds_toArray,List.set_cons_zero,List.set_cons_succ]
          rfl
         refine one_ (i:=9) (N:=some 29) #[true,true,true,true,true,true,true,true,true,true,true,true,false,false,false] rfl rfl (one_of HT_.out (by kernel_rfl)) (by decide) (fun K hK=>?_)
         refine Kd.R_lit_step (Kd.int .i64) _ 3 ?hg (N:=29) ?hd (xs:=([] : List Int)) (inner:=[]) (ok:=fun _=>True) (okp:=fun _=>True) ?hr ?hp (fun _ hk=>hk) trivial (Below.refl _ _) (Nat.le_refl _) (by simp) ?_;(case hd=>rfl);(case hg=>rfl);(case hr=>first|(go_simp;done)|(go_simp;rfl));(case hp=>exact (Reps.none _ _))
         intro v217 w27 ho28 hb hg_ hnew_
         clear hg_ hnew_
         (first|rw [← Ny216.out] at ho28|(simp only [Int.reduceToNat] at ho28;rw [← Ny216.out] at ho28))
         have n0_:=Aside0.mk (Kd.S_below (by exact HO_3.out) hb)
         have n1_:=Aside0.mk (Kd.R_below (by exact HO209.out) hb)
         have n2_:=Aside0.mk (Kd.R_elder' (by exact HO215.out) (Kd.R_base ho28) hb)
         have n3_:=Aside0.mk (Kd.R_lower (Kd.R_new' ho28 (Kd.R_lt (by exact HO215.out))) (below_size (by repeat (first|(with_reducible first|exact HB.out|apply below_alloc|apply pw_below_drewN|apply below_drew1|refine below_set ?_ GE192.out|refine below_set ?_ GE193.out)|exact HB.out))))
         have n4_:=Aside0.mk (blk_below (g:=gb192) (o:=.cells #[.slice A0_0 l0_0.length c0_0,.slice A0_1 l0_1.length c0_1,.slice A0_2 l0_2.length c0_2,.slice A0_3 l0_3.length c0_3] 29 (0,0)) (by exact BK192.out) hb)
         have n5_:=Aside0.mk (blk_below (g:=gb193) (o:=.cells #[.slice none 0 0,.slice none 0 0,.slice none 0 0,.slice none 0 0] 29 (0,0)) (by exact BK193.out) hb)
         have n6_:=Aside0.mk (below_step (by repeat (first|(with_reducible first|exact HB.out|apply below_alloc|apply pw_below_drewN|apply below_drew1|refine below_set ?_ GE192.out|refine below_set ?_ GE193.out)|exact HB.out)) hb)
         clear HO_3
         clear HO209
         clear HO215
         clear BK192
         clear BK193
         clear HB
         have HO_3:=n0_
         have HO209:=n1_
         have HO215:=n2_
         have HO218:=n3_
         have BK192:=n4_
         have BK193:=n5_
         have HB:=n6_
         clear n0_ n1_ n2_ n3_ n4_ n5_ n6_
         clear hb ho28
         refine hK.out _ _ ⟨(blk_cell BK192.out 0).trans rfl,(blk_cell BK192.out 1).trans rfl,(blk_cell BK192.out 2).trans rfl,(blk_cell BK192.out 3).trans rfl⟩ (fun hHeld=>?_)
         clear hK K
         refine norm_ (a':=?_) ?_ ?_
         rotate_left
         ·show Act.put _ (some 29) _ = _
          simp only [Act.put,List.setIfInBounds_toArray,List.set_cons_zero,List.set_cons_succ,i64_w,i32_w]
          rfl
         exact norm_ (by first|(simp only [putAll,Act.put,List.setIfInBounds_toArray,List.set_cons_zero,List.set_cons_succ];done)|(simp only [putAll,Act.put,List.setIfInBounds_toArray,List.set_cons_zero,List.set_cons_succ];rfl)) (hJ1_4_5_8_9 (v205,v208,v211,v214,v217) _ ⟨hHeld,(by exact HO209.out),(by exact Kd.R_mono HO215.out (fun _ hk=>hk.2)),(by exact Kd.R_mono HO218.out (fun _ hk=>hk.2)),(by exact HO_3.out),(by exact BK192.out),(by exact BK193.out),(by repeat (first|(with_reducible first|exact HB.out|apply below_alloc|apply pw_below_drewN|apply below_drew1|refine below_set ?_ GE192.out|refine below_set ?_ GE193.out)|exact HB.out))⟩)
       rintro ⟨v205,v208,v211,v214,v217⟩ w28 ⟨hS_,h0_,h1_,h2_,h3_,h4_,h5_,h6_⟩
       have n0_ : Aside0 (Kd.R (Kd.int .u8) 5 w28 w.heap.size (fun _=>True) v208 y207):=⟨h0_⟩
       have n1_ : Aside0 (Kd.R (Kd.int .i64) 3 w28 w.heap.size (fun k_=>some k_ ≠ (v217 : Value).ownBlock) v214 y213):=⟨h1_⟩
       have n2_ : Aside0 (Kd.R (Kd.int .i64) 3 w28 w.heap.size (fun k_=>some k_ ≠ (v214 : Value).ownBlock) v217 y216):=⟨h2_⟩
       have n3_ : Aside0 (Kd.S (Kd.slice 5 (Kd.int .u8)) 23 w28 w.heap.size (fun k_=>some k_ ≠ (v208 : Value).ownBlock) u3 x3_1):=⟨h3_⟩
       have n4_ : Aside0 (w28.heap[gb192]? = some (.cells #[.slice A0_0 l0_0.length c0_0,.slice A0_1 l0_1.length c0_1,.slice A0_2 l0_2.length c0_2,.slice A0_3 l0_3.length c0_3] 29 (0,0))):=⟨h4_⟩
       have n5_ : Aside0 (w28.heap[gb193]? = some (.cells #[.slice none 0 0,.slice none 0 0,.slice none 0 0,.slice none 0 0] 29 (0,0))):=⟨h5_⟩
       have n6_ : Aside0 (Below w.heap.size w w28):=⟨h6_⟩
       clear HO_3
       clear BK192
       clear BK193
       clear HB
       clear h0_ h1_ h2_ h3_ h4_ h5_ h6_
       have HO209:=n0_
       have HO215:=n1_
       have HO218:=n2_
       have HO_3:=n3_
       have BK192:=n4_
       have BK193:=n5_
       have HB:=n6_
       clear n0_ n1_ n2_ n3_ n4_ n5_ n6_
       have hHeld : w28.cell? ⟨gb192,0,none⟩ = some (.slice A0_0 l0_0.length c0_0)∧w28.cell? ⟨gb192,1,none⟩ = some (.slice A0_1 l0_1.length c0_1)∧w28.cell? ⟨gb192,2,none⟩ = some (.slice A0_2 l0_2.length c0_2)∧w28.cell? ⟨gb192,3,none⟩ = some (.slice A0_3 l0_3.length c0_3):=hS_
       refine norm_ (a':=?_) ?_ ?_
       rotate_left
       ·simp only [putAll,Act.put,List.setIfInBounds_toArray,List.set_cons_zero,List.set_cons_succ]
        rfl
       refine one_ (i:=12) (N:=some 32) #[true,true,true,true,true,true,true,true,true,true,true,true,true,false,false] rfl rfl (one_of HT_.out (by kernel_rfl)) (by decide) (fun K hK=>?_)
       refine Kd.R_append_rows_step (Kd.int .i64) (w0:=w) w.heap.size (by rfl) (.tmp 29) (.tmp 31) 24 3 (.int .i64 0) 8 rfl Try.underlying24 info3 rfl (by decide) (by omega) v217 y216 l0_3 _ _ _ (fun k_=>some k_ ≠ (v214 : Value).ownBlock) (fun _=>False) rfl rfl ?aO ?aR (fun _ _ h=>h) (fun _ h=>h.elim) ?aF ?aB ?aS ?aL ?_
       (case aR=>repeat (first|exact (Kd.C_below HR0_3.out HB.out)|(with_reducible first|apply Kd.C_alloc|apply Kd.C_drewN|apply Kd.C_drew)))
       (case aB=>exact (by repeat (first|(with_reducible first|exact HB.out|apply below_alloc|apply pw_below_drewN|apply below_drew1|refine below_set ?_ GE192.out|refine below_set ?_ GE193.out)|exact HB.out)))
       (case aF=>exact (fun k_ hk=>Kd.fresh' (Kd.R_lt (by exact HO215.out)) k_ hk))
       (case aO=>exact (by exact HO218.out))
       (case aS=>exact (below_size (by repeat (first|(with_reducible first|exact HB.out|apply below_alloc|apply pw_below_drewN|apply below_drew1|refine below_set ?_ GE192.out|refine below_set ?_ GE193.out)|exact HB.out))))
       (case aL=>have:=LMc18.out;omega)
       intro v220 w29 ho hb hg hat
       rw [← Ny219.out] at ho
       have n0_:=Aside0.mk (Kd.S_over' (by exact HO_3.out) (Kd.R_typed (by exact HO218.out)) (by decide) hg)
       have n1_:=Aside0.mk (blk_grown (g:=gb192) (o:=.cells #[.slice A0_0 l0_0.length c0_0,.slice A0_1 l0_1.length c0_1,.slice A0_2 l0_2.length c0_2,.slice A0_3 l0_3.length c0_3] 29 (0,0)) (by exact BK192.out) hg (Kd.R_ne HO218.out BK192.out (by decide)))
       have n2_:=Aside0.mk (blk_grown (g:=gb193) (o:=.cells #[.slice none 0 0,.slice none 0 0,.slice none 0 0,.slice none 0 0] 29 (0,0)) (by exact BK193.out) hg (Kd.R_ne HO218.out BK193.out (by decide)))
       have n3_:=Aside0.mk (Kd.R_over' (by exact HO209.out) (Kd.R_typed (by exact HO218.out)) (by decide) hg)
       have n4_:=Aside0.mk (Kd.R_after (ok:=(fun _=>True)) (by exact Kd.R_mono HO215.out (fun _ hk=>⟨trivial,hk⟩)) hg hat)
       have n5_:=Aside0.mk (hb)
       have n6_:=Aside0.mk (ho)
       clear HO_3
       clear BK192
       clear BK193
       clear HO209
       clear HO215
       clear HB
       clear HO218
       have HO_3:=n0_
       have BK192:=n1_
       have BK193:=n2_
       have HO209:=n3_
       have HO215:=n4_
       have HB:=n5_
       have HO221:=n6_
       clear n0_ n1_ n2_ n3_ n4_ n5_ n6_
       clear ho hb hg hat
       obtain ⟨Ao30,co30,eo30⟩:=Kd.R_slice HO221.out
       (first|subst eo30|(injection eo30 with f1_ f2_ f3_;have f4_:=f1_.symm;have f5_:=f3_.symm;clear f1_ f2_ f3_;subst f4_;subst f5_))
       obtain ⟨Ao31,co31,eo31⟩:=Kd.R_slice HO215.out
       (first|subst eo31|(injection eo31 with f1_ f2_ f3_;have f4_:=f1_.symm;have f5_:=f3_.symm;clear f1_ f2_ f3_;subst f4_;subst f5_))
       obtain ⟨Ao32,co32,eo32⟩:=Kd.R_slice HO209.out
       (first|subst eo32|(injection eo32 with f1_ f2_ f3_;have f4_:=f1_.symm;have f5_:=f3_.symm;clear f1_ f2_ f3_;subst f4_;subst f5_))
       obtain ⟨Ao33,co33,eo33⟩:=Kd.S_slice HO_3.out
       (first|subst eo33|(injection eo33 with f1_ f2_ f3_;have f4_:=f1_.symm;have f5_:=f3_.symm;clear f1_ f2_ f3_;subst f4_;subst f5_))
       refine hK.out _ _ ⟨(blk_cell BK192.out 0).trans rfl,(blk_cell BK192.out 1).trans rfl,(blk_cell BK192.out 2).trans rfl,(blk_cell BK192.out 3).trans rfl⟩ (fun hHeld=>?_)
       clear hK K
       refine norm_ (a':=?_) ?_ ?_
       rotate_left
       ·show Act.put _ (some 32) _ = _
        simp only [Act.put,List.setIfInBounds_toArray,List.set_cons_zero,List.set_cons_succ,i64_w,i32_w]
        rfl
       refine pure_ (i:=13) (N:=some 33) (v:=?_) (a':=?_) #[true,true,true,true,true,true,true,true,true,true,true,true,true,true,false] rfl rfl (any_of HT_.out (by kernel_rfl)) (fun _ _ _ h=>h) (Or.inl ⟨by rfl,?_⟩) ?_ ?_
       rotate_left
       ·intro w'
        go_simp
        with_reducible rfl
       rotate_left
       ·simp only [Act.put,List.setIfInBounds_toArray,List.set_cons_zero,List.set_cons_succ,i64_w,i32_w]
        rfl
       refine one_ (i:=14) (N:=none) #[true,true,true,true,true,true,true,true,true,true,true,true,true,true,true] rfl rfl (one_of HT_.out (by kernel_rfl)) (by decide) (fun K hK=>?_)
       have hs34 : w29.cell? ⟨gb193,0,none⟩ = some (.slice none 0 0):=(blk_cell BK193.out 0).trans rfl
       have hfs34:=blk_frozen BK193.out 0
       have hns34_0:=NB192_193.out
       have hms34_0:=NB193_192.out
       have hs35 : w29.cell? ⟨gb193,1,none⟩ = some (.slice none 0 0):=(blk_cell BK193.out 1).trans rfl
       have hfs35:=blk_frozen BK193.out 1
       have hns35_0:=NB192_193.out
       have hms35_0:=NB193_192.out
       have hs36 : w29.cell? ⟨gb193,2,none⟩ = some (.slice none 0 0):=(blk_cell BK193.out 2).trans rfl
       have hfs36:=blk_frozen BK193.out 2
       have hns36_0:=NB192_193.out
       have hms36_0:=NB193_192.out
       have hs37 : w29.cell? ⟨gb193,3,none⟩ = some (.slice none 0 0):=(blk_cell BK193.out 3).trans rfl
       have hfs37:=blk_frozen BK193.out 3
       have hns37_0:=NB192_193.out
       have hms37_0:=NB193_192.out
       refine skip_ (w1:=?_) (by rfl) rfl ?_ ?_
       rotate_left
       ·go_simp
        rfl
       refine hK.out _ _ ⟨((cell_far (p:=⟨gb193,_,none⟩) NB192_193.out _).trans (((cell_far (p:=⟨gb193,_,none⟩) NB192_193.out _).trans (((cell_far (p:=⟨gb193,_,none⟩) NB192_193.out _).trans (((cell_far (p:=⟨gb193,_,none⟩) NB192_193.out _).trans (hHeld.1)))))))),((cell_far (p:=⟨gb193,_,none⟩) NB192_193.out _).trans (((cell_far (p:=⟨gb193,_,none⟩) NB192_193.out _).trans (((cell_far (p:=⟨gb193,_,none⟩) NB192_193.out _).trans (((cell_far (p:=⟨gb193,_,none⟩) NB192_193.out _).trans (hHeld.2.1)))))))),((cell_far (p:=⟨gb193,_,none⟩) NB192_193.out _).trans (((cell_far (p:=⟨gb193,_,none⟩) NB192_193.out _).trans (((cell_far (p:=⟨gb193,_,none⟩) NB192_193.out _).trans (((cell_far (p:=⟨gb193,_,none⟩) NB192_193.out _).trans (hHeld.2.2.1)))))))),((cell_far (p:=⟨gb193,_,none⟩) NB192_193.out _).trans (((cell_far (p:=⟨gb193,_,none⟩) NB192_193.out _).trans (((cell_far (p:=⟨gb193,_,none⟩) NB192_193.out _).trans (((cell_far (p:=⟨gb193,_,none⟩) NB192_193.out _).trans (hHeld.2.2.2))))))))⟩ (fun hHeld=>?_)
       clear hK K
       refine done_ (done_of HT_.out (by kernel_rfl)) ?_
       try go_wp2
       refine bodyPost_ret (results_cell_row rfl _ _ gb193 29 #[.slice Ao33 x3_1.length co33,.slice Ao32 y207.length co32,.slice Ao31 y213.length co31,.slice Ao30 y219.length co30] (0,0) _ rfl (by refine blk_put (cs:=#[.slice Ao33 x3_1.length co33,.slice Ao32 y207.length co32,.slice Ao31 y213.length co31,.slice none 0 0]) ?_ 3 _ rfl;refine blk_put (cs:=#[.slice Ao33 x3_1.length co33,.slice Ao32 y207.length co32,.slice none 0 0,.slice none 0 0]) ?_ 2 _ rfl;refine blk_put (cs:=#[.slice Ao33 x3_1.length co33,.slice none 0 0,.slice none 0 0,.slice none 0 0]) ?_ 1 _ rfl;refine blk_put (cs:=#[.slice none 0 0,.slice none 0 0,.slice none 0 0,.slice none 0 0]) ?_ 0 _ rfl;exact BK193.out) Try.underlying29 rfl (by kernel_rfl)) rfl ?_
       exact ⟨_,_,_,_,by first|rfl|(simp [*,errW_none,errW_some] <;> rfl),by exact Kd.S_mono (Kd.S_far (p:=⟨gb193,3,none⟩) (Kd.S_far (p:=⟨gb193,2,none⟩) (Kd.S_far (p:=⟨gb193,1,none⟩) (Kd.S_far (p:=⟨gb193,0,none⟩) (Kd.S_types HO_3.out BK193.out (by decide)) (fun _ hk=>hk.2) (.slice Ao33 x3_1.length co33)) (fun _ hk=>hk.2) (.slice Ao32 y207.length co32)) (fun _ hk=>hk.2) (.slice Ao31 y213.length co31)) (fun _ hk=>hk.2) (.slice Ao30 y219.length co30)) (fun _ hk=>hk.1),by exact Kd.R_mono (Kd.R_far (p:=⟨gb193,3,none⟩) (Kd.R_far (p:=⟨gb193,2,none⟩) (Kd.R_far (p:=⟨gb193,1,none⟩) (Kd.R_far (p:=⟨gb193,0,none⟩) (Kd.R_types HO209.out BK193.out (by decide)) (fun _ hk=>hk.2) (.slice Ao33 x3_1.length co33)) (fun _ hk=>hk.2) (.slice Ao32 y207.length co32)) (fun _ hk=>hk.2) (.slice Ao31 y213.length co31)) (fun _ hk=>hk.2) (.slice Ao30 y219.length co30)) (fun _ hk=>trivial),by exact Kd.R_mono (Kd.R_far (p:=⟨gb193,3,none⟩) (Kd.R_far (p:=⟨gb193,2,none⟩) (Kd.R_far (p:=⟨gb193,1,none⟩) (Kd.R_far (p:=⟨gb193,0,none⟩) (Kd.R_types HO215.out BK193.out (by decide)) (fun _ hk=>hk.2) (.slice Ao33 x3_1.length co33)) (fun _ hk=>hk.2) (.slice Ao32 y207.length co32)) (fun _ hk=>hk.2) (.slice Ao31 y213.length co31)) (fun _ hk=>hk.2) (.slice Ao30 y219.length co30)) (fun _ hk=>hk.1.2),by exact Kd.R_mono (Kd.R_far (p:=⟨gb193,3,none⟩) (Kd.R_far (p:=⟨gb193,2,none⟩) (Kd.R_far (p:=⟨gb193,1,none⟩) (Kd.R_far (p:=⟨gb193,0,none⟩) (Kd.R_types HO221.out BK193.out (by decide)) (fun _ hk=>hk.2) (.slice Ao33 x3_1.length co33)) (fun _ hk=>hk.2) (.slice Ao32 y207.length co32)) (fun _ hk=>hk.2) (.slice Ao31 y213.length co31)) (fun _ hk=>hk.2) (.slice Ao30 y219.length co30)) (fun _ hk=>hk.1),by repeat (first|(with_reducible first|exact HB.out|apply below_alloc|apply pw_below_drewN|apply below_drew1|refine below_set ?_ GE192.out|refine below_set ?_ GE193.out)|exact HB.out)⟩
      ·rw [if_neg c18] at H
       exact absurd H (by simp)
     ·rw [if_neg c17] at H
      exact absurd H (by simp)
    ·rw [if_neg c16] at H
     exact absurd H (by simp)

end Go.Proofs.Ytlphbpaojcdjaaa.PFnExactPutIn
