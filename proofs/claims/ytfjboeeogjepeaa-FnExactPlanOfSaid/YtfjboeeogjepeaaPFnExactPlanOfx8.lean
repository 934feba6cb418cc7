-- Written by a program of this session over the print of the kit (wip/t/patch_print.py).
import Derived.Test.YtfjboeeogjepeaaPFnExactPlanOfx0
import Derived.Test.YtfjboeeogjepeaaPFnExactPlanOfx7
namespace Go.Proofs.Ytfjboeeogjepeaa.PFnExactPlanOf
open Go.RowKit Go.Proofs.YtfjboeeogjepeaaW.PrintWords Go.Proofs.YtfjboeeogjepeaaW.PrintLast Go.Proofs.YtfjboeeogjepeaaW.PrintMore
attribute [local go_sem] max2_int min2_int max_two min_two max_three min_three max_four min_four   -- for this text's walks alone
set_option linter.unusedVariables false
set_option linter.unusedSimpArgs false

/-! ### impl_header: function 44 -/
mutual
def impl_header.l0 : Nat → List (S59) → List Int → List (S59) → Int → Int → Option (List Int)
 | 0,_,_,_,_,_=>none
 | k + 1,x0,x3,x13,x14,x15=>if x15 < x14 then (if 0 ≤ x15 then (if x15 < (x13.length : Int) then ((impl_two.f ((rd_T59 x13 x15).f0)).bind fun t281=>(if x3.length + t281.length < 140737488355328 then (impl_header.l0 k x0 (x3 ++ t281) x13 x14 (wrap64 (x15 + 1))) else (none))) else (none)) else (none)) else ((impl_padded.f x3 124).bind fun t287=>((impl_DigestOf.f k t287).bind fun t290=>(impl_header.l1 k t287 t290 x0 (x0.length : Int) 0)))
def impl_header.l1 : Nat → List Int → Int → List (S59) → Int → Int → Option (List Int)
 | 0,_,_,_,_,_=>none
 | k + 1,x3,x6,x29,x30,x31=>if x31 < x30 then (if 0 ≤ x31 then (if x31 < (x29.length : Int) then ((impl_digest.f k x6 ((rd_T59 x29 x31).f1)).bind fun t293=>(impl_header.l1 k x3 t293 x29 x30 (wrap64 (x31 + 1)))) else (none)) else (none)) else ((impl_four.f x6).bind fun t294=>(if x3.length + t294.length < 140737488355328 then (some (x3 ++ t294)) else (none)))
end
def impl_header.f (k : Nat) (l0 : List (S59)) : Option (List Int):=impl_header.l0 k l0 (([76,79,71,49,((l0.length : Int)) % 256] : List Int)) l0 (l0.length : Int) 0
theorem impl_header.mono_l : ∀ k,(∀ y0 y1 y2 y3 y4,LeO (impl_header.l0 k y0 y1 y2 y3 y4) (impl_header.l0 (k + 1) y0 y1 y2 y3 y4))∧(∀ y0 y1 y2 y3 y4,LeO (impl_header.l1 k y0 y1 y2 y3 y4) (impl_header.l1 (k + 1) y0 y1 y2 y3 y4))
 | 0=>⟨fun _ _ _ _ _ r h=>by simp [impl_header.l0] at h,fun _ _ _ _ _ r h=>by simp [impl_header.l1] at h⟩
 | k + 1=>by
  obtain ⟨ih0,ih1⟩:=impl_header.mono_l k
  refine ⟨?_,?_⟩
  ·intro y0 y1 y2 y3 y4
   unfold impl_header.l0
   repeat' first
   | (with_reducible exact ih0 _ _ _ _ _)
   | (with_reducible exact ih1 _ _ _ _ _)
   | (with_reducible exact impl_DigestOf.mono _ _)
   | (with_reducible exact impl_digest.mono _ _ _)
   | (with_reducible exact LeO.refl _)
   | (with_reducible exact LeO.none _)
   | (with_reducible refine LeO.ite ?_ ?_)
   | (with_reducible refine LeO.bind ?_ (fun _=>?_))
   | exact ih0 _ _ _ _ _
   | exact ih1 _ _ _ _ _
   | exact impl_DigestOf.mono _ _
   | exact impl_digest.mono _ _ _
   | exact LeO.none _
   | refine LeO.ite ?_ ?_
   | refine LeO.bind ?_ (fun _=>?_)
  ·intro y0 y1 y2 y3 y4
   unfold impl_header.l1
   repeat' first
   | (with_reducible exact ih0 _ _ _ _ _)
   | (with_reducible exact ih1 _ _ _ _ _)
   | (with_reducible exact impl_DigestOf.mono _ _)
   | (with_reducible exact impl_digest.mono _ _ _)
   | (with_reducible exact LeO.refl _)
   | (with_reducible exact LeO.none _)
   | (with_reducible refine LeO.ite ?_ ?_)
   | (with_reducible refine LeO.bind ?_ (fun _=>?_))
   | exact ih0 _ _ _ _ _
   | exact ih1 _ _ _ _ _
   | exact impl_DigestOf.mono _ _
   | exact impl_digest.mono _ _ _
   | exact LeO.none _
   | refine LeO.ite ?_ ?_
   | refine LeO.bind ?_ (fun _=>?_)
theorem impl_header.mono : ∀ a0 k,LeO (impl_header.f k a0) (impl_header.f (k + 1) a0):=by
 intro a0 k
 obtain ⟨ih0,ih1⟩:=impl_header.mono_l k
 unfold impl_header.f
 repeat' first
   | (with_reducible exact ih0 _ _ _ _ _)
   | (with_reducible exact ih1 _ _ _ _ _)
   | (with_reducible exact impl_DigestOf.mono _ _)
   | (with_reducible exact impl_digest.mono _ _ _)
   | (with_reducible exact LeO.refl _)
   | (with_reducible exact LeO.none _)
   | (with_reducible refine LeO.ite ?_ ?_)
   | (with_reducible refine LeO.bind ?_ (fun _=>?_))
   | exact ih0 _ _ _ _ _
   | exact ih1 _ _ _ _ _
   | exact impl_DigestOf.mono _ _
   | exact impl_digest.mono _ _ _
   | exact LeO.none _
   | refine LeO.ite ?_ ?_
   | refine LeO.bind ?_ (fun _=>?_)
set_option maxHeartbeats 8000000 in
set_option maxRecDepth 100000 in
theorem impl_header.calls (k : Nat) (A0 : Option Addr) (c0 : Nat) (l0 : List (S59)) (r : List Int) (w : World) (hr0 : Kd.C k59 w A0 l0.length l0) (hc0 : l0.length ≤ c0) (h : impl_header.f k l0 = some r) :
  Calls Try.prog 44 #[.slice A0 l0.length c0] w fun e w'=>∃ v0_ : Value,e = .returned (v0_)∧Kd.R (Kd.int .u8) 5 w' w.heap.size (fun _=>True) v0_ r∧Below w.heap.size w w':=by
 have hu59:=Try.underlying59
 have HR0:=Aside0.mk hr0
 have HC0:=Aside0.mk hc0
 clear hr0 hc0
 have HB:=Aside0.mk (Below.refl w.heap.size w)
 have H : (impl_header.l0 k l0 (([76,79,71,49,((l0.length : Int)) % 256] : List Int)) l0 (l0.length : Int) 0) = some r:=h
 clear h
 obtain ⟨y276,hy276⟩ : ∃ y_ : List Int,y_ = (([76,79,71,49,((l0.length : Int)) % 256] : List Int)):=⟨_,rfl⟩
 replace H : (impl_header.l0 k l0 y276 l0 (l0.length : Int) 0) = some r:=by first|(rw [hy276];with_reducible exact H)|(have H2_:=(Option.bind_some _ _).symm.trans H;rw [hy276];with_reducible exact H2_)|(have H2_:=(Option.bind_some _ _).symm.trans H;with_reducible exact H2_)|with_reducible exact H|(rw [hy276];exact H)|exact H
 have Ny276:=Aside0.mk hy276
 clear hy276
 have H':=Aside0.mk H
 clear H
 go_enter Try.func44,Try.ntmps44
 go_wp2_with (first|((with_reducible refine gate_dst (N:=12) rfl ?_);refine Kd.R_lit (Kd.int .u8) _ 5 ?hg (N:=12) ?hd (xs:=([76,79,71,49,((l0.length : Int)) % 256] : List Int)) (inner:=[.int .u8 76,.int .u8 79,.int .u8 71,.int .u8 49,.int .u8 (((l0.length : Int)) % 256)]) (ok:=fun _=>True) (okp:=fun _=>True) ?hr ?hp (fun _ hk=>hk) trivial (Below.refl _ _) (Nat.le_refl _) (by simp) ?_;(case hd=>rfl);(case hg=>rfl);(case hr=>first|(go_simp;done)|(go_simp;rfl));(case hp=>exact (Reps.one (show Kd.M (Kd.int .u8) _ _ _ 76 [.int .u8 76] from rfl) (Reps.one (show Kd.M (Kd.int .u8) _ _ _ 79 [.int .u8 79] from rfl) (Reps.one (show Kd.M (Kd.int .u8) _ _ _ 71 [.int .u8 71] from rfl) (Reps.one (show Kd.M (Kd.int .u8) _ _ _ 49 [.int .u8 49] from rfl) (Reps.one (show Kd.M (Kd.int .u8) _ _ _ (((l0.length : Int)) % 256) [.int .u8 (((l0.length : Int)) % 256)] from rfl) (Reps.none _ _)))))));intro v277 w2 ho3 hb hg_ hnew_;clear hg_ hnew_;(first|rw [← Ny276.out] at ho3|(simp only [Int.reduceToNat] at ho3;rw [← Ny276.out] at ho3));have n0_:=Aside0.mk (Kd.R_lower ho3 (below_size (by repeat (first|exact HB.out|apply below_alloc|apply pw_below_drewN|apply below_drew1))));have n1_:=Aside0.mk (below_step (by repeat (first|exact HB.out|apply below_alloc|apply pw_below_drewN|apply below_drew1)) hb);clear HB;have HO278:=n0_;have HB:=n1_;clear n0_ n1_;clear hb ho3))
 go_loopg [3,15] k (fun kq v3 v15 w'=>∃ (x3_1 : List Int) (x15_1 : Int),v15 = .int .i64 x15_1∧Aside0 (impl_header.l0 kq l0 x3_1 l0 (l0.length : Int) x15_1 = some r)∧Aside0 (kq ≤ k)∧Aside0 (Kd.R (Kd.int .u8) 5 w' w.heap.size (fun _=>True) v3 x3_1)∧Aside0 (Below w.heap.size w w'))
 case atStart=>exact ⟨(y276),(0),(by first|rfl|(simp;done)|(simp [*];done)),H',⟨Nat.le_refl _⟩,⟨by (with_reducible repeat (first|apply Kd.R_alloc|apply Kd.R_drewN|apply Kd.R_drew));exact HO278.out⟩,⟨by repeat (first|exact HB.out|apply below_alloc|apply pw_below_drewN|apply below_drew1)⟩⟩
 case round =>
  clear H'
  try clear p2
  obtain ⟨x3_1,x15_1,rfl,HA,HK1,HO_3,HB⟩:=hrel
  cases gk with
  | zero=>exact absurd HA.out (by simp [impl_header.l0])
  | succ k1 =>
   have H:=HA.out
   clear HA
   simp only [impl_header.l0] at H
   by_cases c4 : x15_1 < (l0.length : Int)
   ·rw [if_pos c4] at H
    have c4b0 : decide (x15_1 < (l0.length : Int)) = true:=decide_eq_true c4
    clear c4
    by_cases c5 : 0 ≤ x15_1
    ·rw [if_pos c5] at H
     have c5b0 : decide (0 ≤ x15_1) = true:=decide_eq_true c5
     clear c5
     by_cases c6 : x15_1 < (l0.length : Int)
     ·rw [if_pos c6] at H
      have c6b0 : decide (x15_1 < (l0.length : Int)) = true:=decide_eq_true c6
      clear c6
      replace H:=Option.bind_eq_some_iff.mp H
      obtain ⟨t281,A70,H⟩:=H
      replace H : (if x3_1.length + t281.length < 140737488355328 then (impl_header.l0 k1 l0 (x3_1 ++ t281) l0 (l0.length : Int) (wrap64 (x15_1 + 1))) else (none)) = some r:=H
      have A7:=Aside0.mk A70
      clear A70
      by_cases c8 : x3_1.length + t281.length < 140737488355328
      ·rw [if_pos c8] at H
       have LMc8:=Aside0.mk c8
       clear c8
       obtain ⟨y284,hy284⟩ : ∃ y_ : List Int,y_ = (x3_1 ++ t281):=⟨_,rfl⟩
       replace H : (impl_header.l0 k1 l0 y284 l0 (l0.length : Int) (wrap64 (x15_1 + 1))) = some r:=by first|(rw [hy284];with_reducible exact H)|(have H2_:=(Option.bind_some _ _).symm.trans H;rw [hy284];with_reducible exact H2_)|(have H2_:=(Option.bind_some _ _).symm.trans H;with_reducible exact H2_)|with_reducible exact H|(rw [hy284];exact H)|exact H
       have Ny284:=Aside0.mk hy284
       clear hy284
       have H':=Aside0.mk H
       clear H
       have p279 : 0 ≤ (x15_1 : Int):=of_decide_eq_true (by assumption)
       have q279 : x15_1 < (l0.length : Int):=of_decide_eq_true (by assumption)
       obtain ⟨ad279,A279_1,c279_1,e279,hx279_0,hx279_1,hl279_1,hi279_1⟩:=at_T59 HR0.out x15_1 p279 q279
       cases e279
       (try replace hx279_0:=(HB.out.cell (World.block_lt_of_cell? w _ hx279_0)).trans hx279_0)
       (try replace hx279_1:=(HB.out.cell (World.block_lt_of_cell? w _ hx279_1)).trans hx279_1)
       have HR279_1:=Aside0.mk hi279_1
       have HC279_1:=Aside0.mk hl279_1
       clear hi279_1 hl279_1
       replace p279:=eq_true p279
       replace q279:=eq_true q279
       go_wp2_with (first|((with_reducible refine gate_dst (N:=5) rfl ?_);refine box_event ?hg (N:=5) ?hd (cs:=#[.int .i64 0,.slice none 0 0]) (t:=59) ?hr ?_;(case hd=>rfl);(case hg=>rfl);(case hr=>first|(go_simp;done)|(go_simp;rfl));intro gb280 hg w9 hbox hb;have n0_:=Aside0.mk (Kd.R_below (by (with_reducible repeat (first|apply Kd.R_alloc|apply Kd.R_drewN|apply Kd.R_drew));exact HO_3.out) hb);have n1_:=Aside0.mk (below_step (by repeat (first|exact HB.out|apply below_alloc|apply pw_below_drewN|apply below_drew1)) hb);have n2_:=Aside0.mk (hbox);have n3_:=Aside0.mk ((by rw [hg];exact (below_size (by repeat (first|exact HB.out|apply below_alloc|apply pw_below_drewN|apply below_drew1))) : w.heap.size ≤ gb280));have n4_:=Aside0.mk ((by rw [hg];exact (below_size (by repeat (first|exact HB.out|apply below_alloc|apply pw_below_drewN|apply below_drew1))) : w.heap.size ≤ gb280));clear HO_3;clear HB;have HO_3:=n0_;have HB:=n1_;have BK280:=n2_;have GW280:=n3_;have GE280:=n4_;clear n0_ n1_ n2_ n3_ n4_;clear hb hbox hg;have hcz10_0 : w9.cell? ⟨gb280,0,none⟩ = some (.int .i64 0):=(blk_cell BK280.out 0).trans rfl;have hcz10_1 : w9.cell? ⟨gb280,1,none⟩ = some (.slice none 0 0):=(blk_cell BK280.out 1).trans rfl;have hfz10_0:=blk_frozen BK280.out 0;have hfz10_1:=blk_frozen BK280.out 1)|((with_reducible refine gate_callee (f:=72) rfl ?_);refine goesL_ (some 22) rfl rfl Try.func72 (by kernel_rfl) rfl #[.int .i64 ((rd_T59 l0 x15_1).f0)] rfl (by (try simp only [List.map_toArray,List.map_cons,List.map_nil]);first|done|rfl|(simp only [List.length_drop,List.length_take];rfl)) ?_;(with_reducible refine (impl_two.calls ((rd_T59 l0 x15_1).f0) t281 _ A7.out).mono ?_);rintro e w11 ⟨v282,rfl,ho0,hb⟩;refine ⟨_,rfl,?_⟩;have n0_:=Aside0.mk (Kd.R_elder' (by (with_reducible repeat (first|apply Kd.R_alloc|apply Kd.R_drewN|apply Kd.R_drew));exact (Kd.R_mono (Kd.R_far (p:=⟨gb280,1,none⟩) (Kd.R_far (p:=⟨gb280,0,none⟩) (Kd.R_types HO_3.out BK280.out (by decide)) (fun _ hk=>hk.2) (.int .i64 ((rd_T59 l0 x15_1).f0))) (fun _ hk=>hk.2) (.slice A279_1 ((rd_T59 l0 x15_1).f1).length c279_1)) (fun _ h_=>h_.1))) (Kd.R_base ho0) hb);have n1_:=Aside0.mk (Kd.R_lower (Kd.R_new' ho0 (Kd.R_lt (by (with_reducible repeat (first|apply Kd.R_alloc|apply Kd.R_drewN|apply Kd.R_drew));exact (Kd.R_mono (Kd.R_far (p:=⟨gb280,1,none⟩) (Kd.R_far (p:=⟨gb280,0,none⟩) (Kd.R_types HO_3.out BK280.out (by decide)) (fun _ hk=>hk.2) (.int .i64 ((rd_T59 l0 x15_1).f0))) (fun _ hk=>hk.2) (.slice A279_1 ((rd_T59 l0 x15_1).f1).length c279_1)) (fun _ h_=>h_.1))))) (below_size (by repeat (first|(with_reducible first|exact HB.out|apply below_alloc|apply pw_below_drewN|apply below_drew1|refine below_set ?_ GE280.out)|exact HB.out))));have n2_:=Aside0.mk (blk_below (g:=gb280) (o:=.cells #[.int .i64 ((rd_T59 l0 x15_1).f0),.slice A279_1 ((rd_T59 l0 x15_1).f1).length c279_1] 59 (0,0)) (by (with_reducible repeat first|apply blk_drewN|apply blk_drew|apply blk_alloc);refine blk_put (cs:=#[.int .i64 ((rd_T59 l0 x15_1).f0),.slice none 0 0]) ?_ 1 _ rfl;(with_reducible repeat first|apply blk_drewN|apply blk_drew|apply blk_alloc);refine blk_put (cs:=#[.int .i64 0,.slice none 0 0]) ?_ 0 _ rfl;(with_reducible repeat first|apply blk_drewN|apply blk_drew|apply blk_alloc);exact BK280.out) hb);have n3_:=Aside0.mk (below_step (by repeat (first|(with_reducible first|exact HB.out|apply below_alloc|apply pw_below_drewN|apply below_drew1|refine below_set ?_ GE280.out)|exact HB.out)) hb);clear HO_3;clear BK280;clear HB;have HO_3:=n0_;have HO283:=n1_;have BK280:=n2_;have HB:=n3_;clear n0_ n1_ n2_ n3_;(try clear hb);(try clear hb2);(try clear hk);(try clear hi);(try clear ho0);obtain ⟨Ao13,co13,eo13⟩:=Kd.R_slice HO283.out;subst eo13)|((with_reducible refine gate_builtin (b:=.append) (xs:=#[.tmp 19,.tmp 22]) rfl ?_);at_builtin;refine Kd.R_append_rows (Kd.int .u8) (w0:=w) w.heap.size rfl (.tmp 19) (.tmp 22) 24 5 (.int .u8 0) 1 rfl Try.underlying24 info5 rfl (by decide) (by omega) u3 x3_1 t281 _ _ _ (fun k_=>some k_ ≠ (.slice Ao13 t281.length co13 : Value).ownBlock) (fun _=>False) rfl rfl ?aO ?aR (fun _ _ h=>h) (fun _ h=>h.elim) ?aF ?aB ?aS ?aL ?_;(case aR=>repeat (first|exact (Kd.R_reads' HO283.out).2.2|(with_reducible first|apply Kd.C_alloc|apply Kd.C_drewN|apply Kd.C_drew)));(case aB=>exact (by repeat (first|(with_reducible first|exact HB.out|apply below_alloc|apply pw_below_drewN|apply below_drew1|refine below_set ?_ GE280.out)|exact HB.out)));(case aF=>exact (fun k_ hk=>Kd.fresh' (Kd.R_lt (by (with_reducible repeat (first|apply Kd.R_alloc|apply Kd.R_drewN|apply Kd.R_drew));exact HO283.out)) k_ hk));(case aO=>exact (by (with_reducible repeat (first|apply Kd.R_alloc|apply Kd.R_drewN|apply Kd.R_drew));exact Kd.R_mono HO_3.out (fun _ hk=>hk.2)));(case aS=>exact (below_size (by repeat (first|(with_reducible first|exact HB.out|apply below_alloc|apply pw_below_drewN|apply below_drew1|refine below_set ?_ GE280.out)|exact HB.out))));(case aL=>have:=LMc8.out;omega);intro v285 w12 ho hb hg hat;rw [← Ny284.out] at ho;have n0_:=Aside0.mk (blk_grown (g:=gb280) (o:=.cells #[.int .i64 ((rd_T59 l0 x15_1).f0),.slice A279_1 ((rd_T59 l0 x15_1).f1).length c279_1] 59 (0,0)) (by (with_reducible repeat first|apply blk_drewN|apply blk_drew|apply blk_alloc);exact BK280.out) hg (Kd.R_ne HO_3.out BK280.out (by decide)));have n1_:=Aside0.mk (Kd.R_after (ok:=(fun _=>True)) (by (with_reducible repeat (first|apply Kd.R_alloc|apply Kd.R_drewN|apply Kd.R_drew));exact HO283.out) hg hat);have n2_:=Aside0.mk (hb);have n3_:=Aside0.mk (ho);clear BK280;clear HO283;clear HB;clear HO_3;have BK280:=n0_;have HO283:=n1_;have HB:=n2_;have HO286:=n3_;clear n0_ n1_ n2_ n3_;clear ho hb hg hat))
       go_roundg k1
       case measure=>have:=HK1.out;omega
       case rel=>exact ⟨(y284),(wrap64 (x15_1 + 1)),(by first|rfl|(simp;done)|(simp [*];done)),H',⟨by have:=HK1.out;omega⟩,⟨by (with_reducible repeat (first|apply Kd.R_alloc|apply Kd.R_drewN|apply Kd.R_drew));exact Kd.R_mono HO286.out (fun _ hk=>trivial)⟩,⟨by repeat (first|(with_reducible first|exact HB.out|apply below_alloc|apply pw_below_drewN|apply below_drew1|refine below_set ?_ GE280.out)|exact HB.out)⟩⟩
      ·rw [if_neg c8] at H
       exact absurd H (by simp)
     ·rw [if_neg c6] at H
      exact absurd H (by simp)
    ·rw [if_neg c5] at H
     exact absurd H (by simp)
   ·rw [if_neg c4] at H
    have c4b0 : decide (x15_1 < (l0.length : Int)) = false:=decide_eq_false c4
    clear c4
    replace H:=Option.bind_eq_some_iff.mp H
    obtain ⟨t287,A140,H⟩:=H
    replace H : ((impl_DigestOf.f k1 t287).bind fun t290=>(impl_header.l1 k1 t287 t290 l0 (l0.length : Int) 0)) = some r:=H
    have A14:=Aside0.mk A140
    clear A140
    replace H:=Option.bind_eq_some_iff.mp H
    obtain ⟨t290,A150,H⟩:=H
    replace H : (impl_header.l1 k1 t287 t290 l0 (l0.length : Int) 0) = some r:=H
    have A15:=Aside0.mk A150
    clear A150
    have H':=Aside0.mk H
    clear H
    obtain ⟨Ao16,co16,eo16⟩:=Kd.R_slice HO_3.out
    subst eo16
    go_wp2_with (first|((with_reducible refine gate_callee (f:=73) rfl ?_);refine goesL_ (some 26) rfl rfl Try.func73 (by kernel_rfl) rfl #[.slice Ao16 x3_1.length co16,.int .i64 124] rfl (by (try simp only [List.map_toArray,List.map_cons,List.map_nil]);first|done|rfl|(simp only [List.length_drop,List.length_take];rfl)) ?_;(with_reducible refine (impl_padded.calls (fun k_=>some k_ = (.slice Ao16 x3_1.length co16 : Value).ownBlock) (.slice Ao16 x3_1.length co16) x3_1 124 t287 w _ ?side1 ?side2 A14.out).mono ?_);(case side1=>repeat (first|exact HB.out|apply below_alloc|apply pw_below_drewN|apply below_drew1));(case side2=>exact Kd.R_tight rfl HO_3.out);rintro e w17 ⟨v288,rfl,ho0,hb,hkp⟩;refine ⟨_,rfl,?_⟩;have n0_:=Aside0.mk (Kd.R_mono (ok':=fun k_=>True) ho0 (fun k_ hk_=>trivial));have n1_:=Aside0.mk (hb);clear HB;clear HO_3;have HO289:=n0_;have HB:=n1_;clear n0_ n1_;(try clear hb);(try clear hkp);(try clear hbx);(try clear ho0);obtain ⟨Ao18,co18,eo18⟩:=Kd.R_slice HO289.out;subst eo18)|((with_reducible refine gate_callee (f:=74) rfl ?_);refine goesL_ (some 28) rfl rfl Try.func74 (by kernel_rfl) rfl #[.slice Ao18 t287.length co18] rfl (by (try simp only [List.map_toArray,List.map_cons,List.map_nil]);first|done|rfl|(simp only [List.length_drop,List.length_take];rfl)) ?_;(with_reducible refine (impl_DigestOf.calls k1 _ _ t287 t290 _ ?side1 ?side2 A15.out).mono ?_);(case side1=>repeat (first|exact (Kd.R_reads' HO289.out).2.2|(with_reducible first|apply Kd.C_alloc|apply Kd.C_drewN|apply Kd.C_drew)));(case side2=>exact (Kd.R_reads' HO289.out).2.1);rintro e w' ⟨rfl,⟨nd,rfl⟩⟩;refine ⟨_,rfl,?_⟩))
    go_loopg [6,31] k1 (fun kq v6 v31 w'=>∃ (x6_2 : Int) (x31_2 : Int),v6 = .int .u32 x6_2∧v31 = .int .i64 x31_2∧Aside0 (impl_header.l1 kq t287 x6_2 l0 (l0.length : Int) x31_2 = some r)∧Aside0 (kq ≤ k1)∧Aside0 (Kd.R (Kd.int .u8) 5 w' w.heap.size (fun _=>True) (.slice Ao18 t287.length co18) t287)∧Aside0 (Below w.heap.size w w'))
    case atStart=>exact ⟨(t290),(0),(by first|rfl|(simp;done)|(simp [*];done)),(by first|rfl|(simp;done)|(simp [*];done)),H',⟨Nat.le_refl _⟩,⟨by (with_reducible repeat (first|apply Kd.R_alloc|apply Kd.R_drewN|apply Kd.R_drew));exact HO289.out⟩,⟨by repeat (first|exact HB.out|apply below_alloc|apply pw_below_drewN|apply below_drew1)⟩⟩
    case round =>
     clear H'
     try clear c2;try clear p2;try clear q2;try clear hx2;try clear c4;try clear c4b0;try clear c5;try clear c5b0;try clear c6;try clear c6b0;try clear p6;try clear c7;try clear c8;try clear hcz10_0;try clear hcz10_1;try clear hfz10_0;try clear hfz10_1;try clear hx279_0;try clear hx279_1;try clear p2;try clear p279;try clear q279
     obtain ⟨x6_2,x31_2,rfl,rfl,HA,HK2,HO_3,HB⟩:=hrel
     cases gk with
     | zero=>exact absurd HA.out (by simp [impl_header.l1])
     | succ k2 =>
      have H:=HA.out
      clear HA
      simp only [impl_header.l1] at H
      by_cases c19 : x31_2 < (l0.length : Int)
      ·rw [if_pos c19] at H
       have c19b0 : decide (x31_2 < (l0.length : Int)) = true:=decide_eq_true c19
       clear c19
       by_cases c20 : 0 ≤ x31_2
       ·rw [if_pos c20] at H
        have c20b0 : decide (0 ≤ x31_2) = true:=decide_eq_true c20
        clear c20
        by_cases c21 : x31_2 < (l0.length : Int)
        ·rw [if_pos c21] at H
         have c21b0 : decide (x31_2 < (l0.length : Int)) = true:=decide_eq_true c21
         clear c21
         replace H:=Option.bind_eq_some_iff.mp H
         obtain ⟨t293,A220,H⟩:=H
         replace H : (impl_header.l1 k2 t287 t293 l0 (l0.length : Int) (wrap64 (x31_2 + 1))) = some r:=H
         have A22:=Aside0.mk A220
         clear A220
         have H':=Aside0.mk H
         clear H
         have p291 : 0 ≤ (x31_2 : Int):=of_decide_eq_true (by assumption)
         have q291 : x31_2 < (l0.length : Int):=of_decide_eq_true (by assumption)
         obtain ⟨ad291,A291_1,c291_1,e291,hx291_0,hx291_1,hl291_1,hi291_1⟩:=at_T59 HR0.out x31_2 p291 q291
         cases e291
         (try replace hx291_0:=(HB.out.cell (World.block_lt_of_cell? w _ hx291_0)).trans hx291_0)
         (try replace hx291_1:=(HB.out.cell (World.block_lt_of_cell? w _ hx291_1)).trans hx291_1)
         have HR291_1:=Aside0.mk hi291_1
         have HC291_1:=Aside0.mk hl291_1
         clear hi291_1 hl291_1
         replace p291:=eq_true p291
         replace q291:=eq_true q291
         go_wp2_with (first|((with_reducible refine gate_dst (N:=8) rfl ?_);refine box_event ?hg (N:=8) ?hd (cs:=#[.int .i64 0,.slice none 0 0]) (t:=59) ?hr ?_;(case hd=>rfl);(case hg=>rfl);(case hr=>first|(go_simp;done)|(go_simp;rfl));intro gb292 hg w23 hbox hb;have n0_:=Aside0.mk (Kd.R_below (by (with_reducible repeat (first|apply Kd.R_alloc|apply Kd.R_drewN|apply Kd.R_drew));exact HO_3.out) hb);have n1_:=Aside0.mk (below_step (by repeat (first|exact HB.out|apply below_alloc|apply pw_below_drewN|apply below_drew1)) hb);have n2_:=Aside0.mk (hbox);have n3_:=Aside0.mk ((by rw [hg];exact (below_size (by repeat (first|exact HB.out|apply below_alloc|apply pw_below_drewN|apply below_drew1))) : w.heap.size ≤ gb292));have n4_:=Aside0.mk ((by rw [hg];exact (below_size (by repeat (first|exact HB.out|apply below_alloc|apply pw_below_drewN|apply below_drew1))) : w.heap.size ≤ gb292));clear HO_3;clear HB;have HO_3:=n0_;have HB:=n1_;have BK292:=n2_;have GW292:=n3_;have GE292:=n4_;clear n0_ n1_ n2_ n3_ n4_;clear hb hbox hg;have hcz24_0 : w23.cell? ⟨gb292,0,none⟩ = some (.int .i64 0):=(blk_cell BK292.out 0).trans rfl;have hcz24_1 : w23.cell? ⟨gb292,1,none⟩ = some (.slice none 0 0):=(blk_cell BK292.out 1).trans rfl;have hfz24_0:=blk_frozen BK292.out 0;have hfz24_1:=blk_frozen BK292.out 1)|((with_reducible refine gate_callee (f:=75) rfl ?_);refine goesL_ (some 38) rfl rfl Try.func75 (by kernel_rfl) rfl #[.int .u32 x6_2,.slice A291_1 ((rd_T59 l0 x31_2).f1).length c291_1] rfl (by (try simp only [List.map_toArray,List.map_cons,List.map_nil]);first|done|rfl|(simp only [List.length_drop,List.length_take];rfl)) ?_;(with_reducible refine (impl_digest.calls k2 x6_2 _ _ ((rd_T59 l0 x31_2).f1) t293 _ ?side1 ?side2 A22.out).mono ?_);(case side1=>exact Kd.C_below HR291_1.out (by repeat (first|(with_reducible first|exact HB.out|apply below_alloc|apply pw_below_drewN|apply below_drew1|refine below_set ?_ GE292.out)|exact HB.out)));(case side2=>exact HC291_1.out);rintro e w' ⟨rfl,⟨nd,rfl⟩⟩;refine ⟨_,rfl,?_⟩))
         go_roundg k2
         case measure=>have:=HK1.out;have:=HK2.out;omega
         case rel=>exact ⟨(t293),(wrap64 (x31_2 + 1)),(by first|rfl|(simp;done)|(simp [*];done)),(by first|rfl|(simp;done)|(simp [*];done)),H',⟨by have:=HK1.out;have:=HK2.out;omega⟩,⟨by (with_reducible repeat (first|apply Kd.R_alloc|apply Kd.R_drewN|apply Kd.R_drew));exact Kd.R_mono (Kd.R_far (p:=⟨gb292,1,none⟩) (Kd.R_far (p:=⟨gb292,0,none⟩) (Kd.R_types HO_3.out BK292.out (by decide)) (fun _ hk=>hk.2) (.int .i64 ((rd_T59 l0 x31_2).f0))) (fun _ hk=>hk.2) (.slice A291_1 ((rd_T59 l0 x31_2).f1).length c291_1)) (fun _ hk=>trivial)⟩,⟨by repeat (first|(with_reducible first|exact HB.out|apply below_alloc|apply pw_below_drewN|apply below_drew1|refine below_set ?_ GE292.out)|exact HB.out)⟩⟩
        ·rw [if_neg c21] at H
         exact absurd H (by simp)
       ·rw [if_neg c20] at H
        exact absurd H (by simp)
      ·rw [if_neg c19] at H
       have c19b0 : decide (x31_2 < (l0.length : Int)) = false:=decide_eq_false c19
       clear c19
       replace H:=Option.bind_eq_some_iff.mp H
       obtain ⟨t294,A250,H⟩:=H
       replace H : (if t287.length + t294.length < 140737488355328 then (some (t287 ++ t294)) else (none)) = some r:=H
       have A25:=Aside0.mk A250
       clear A250
       by_cases c26 : t287.length + t294.length < 140737488355328
       ·rw [if_pos c26] at H
        have LMc26:=Aside0.mk c26
        clear c26
        obtain ⟨y297,hy297⟩ : ∃ y_ : List Int,y_ = (t287 ++ t294):=⟨_,rfl⟩
        replace H : (some y297) = some r:=by first|(rw [hy297];with_reducible exact H)|(have H2_:=(Option.bind_some _ _).symm.trans H;rw [hy297];with_reducible exact H2_)|(have H2_:=(Option.bind_some _ _).symm.trans H;with_reducible exact H2_)|with_reducible exact H|(rw [hy297];exact H)|exact H
        have Ny297:=Aside0.mk hy297
        clear hy297
        obtain rfl:=Option.some.inj H
        go_wp2_with (first|((with_reducible refine gate_callee (f:=76) rfl ?_);refine goesL_ (some 42) rfl rfl Try.func76 (by kernel_rfl) rfl #[.int .u32 x6_2] rfl (by (try simp only [List.map_toArray,List.map_cons,List.map_nil]);first|done|rfl|(simp only [List.length_drop,List.length_take];rfl)) ?_;(with_reducible refine (impl_four.calls x6_2 t294 _ A25.out).mono ?_);rintro e w27 ⟨v295,rfl,ho0,hb⟩;refine ⟨_,rfl,?_⟩;have n0_:=Aside0.mk (Kd.R_elder' (by (with_reducible repeat (first|apply Kd.R_alloc|apply Kd.R_drewN|apply Kd.R_drew));exact HO_3.out) (Kd.R_base ho0) hb);have n1_:=Aside0.mk (Kd.R_lower (Kd.R_new' ho0 (Kd.R_lt (by (with_reducible repeat (first|apply Kd.R_alloc|apply Kd.R_drewN|apply Kd.R_drew));exact HO_3.out))) (below_size (by repeat (first|exact HB.out|apply below_alloc|apply pw_below_drewN|apply below_drew1))));have n2_:=Aside0.mk (below_step (by repeat (first|exact HB.out|apply below_alloc|apply pw_below_drewN|apply below_drew1)) hb);clear HO_3;clear HB;have HO_3:=n0_;have HO296:=n1_;have HB:=n2_;clear n0_ n1_ n2_;(try clear hb);(try clear hb2);(try clear hk);(try clear hi);(try clear ho0);obtain ⟨Ao29,co29,eo29⟩:=Kd.R_slice HO296.out;subst eo29)|((with_reducible refine gate_builtin (b:=.append) (xs:=#[.tmp 40,.tmp 42]) rfl ?_);at_builtin;refine Kd.R_append_rows (Kd.int .u8) (w0:=w) w.heap.size rfl (.tmp 40) (.tmp 42) 24 5 (.int .u8 0) 1 rfl Try.underlying24 info5 rfl (by decide) (by omega) (.slice Ao18 t287.length co18) t287 t294 _ _ _ (fun k_=>some k_ ≠ (.slice Ao29 t294.length co29 : Value).ownBlock) (fun _=>False) rfl rfl ?aO ?aR (fun _ _ h=>h) (fun _ h=>h.elim) ?aF ?aB ?aS ?aL ?_;(case aR=>repeat (first|exact (Kd.R_reads' HO296.out).2.2|(with_reducible first|apply Kd.C_alloc|apply Kd.C_drewN|apply Kd.C_drew)));(case aB=>exact (by repeat (first|exact HB.out|apply below_alloc|apply pw_below_drewN|apply below_drew1)));(case aF=>exact (fun k_ hk=>Kd.fresh' (Kd.R_lt (by (with_reducible repeat (first|apply Kd.R_alloc|apply Kd.R_drewN|apply Kd.R_drew));exact HO296.out)) k_ hk));(case aO=>exact (by (with_reducible repeat (first|apply Kd.R_alloc|apply Kd.R_drewN|apply Kd.R_drew));exact Kd.R_mono HO_3.out (fun _ hk=>hk.2)));(case aS=>exact (below_size (by repeat (first|exact HB.out|apply below_alloc|apply pw_below_drewN|apply below_drew1))));(case aL=>have:=LMc26.out;omega);intro v298 w28 ho hb hg hat;rw [← Ny297.out] at ho;have n0_:=Aside0.mk (Kd.R_after (ok:=(fun _=>True)) (by (with_reducible repeat (first|apply Kd.R_alloc|apply Kd.R_drewN|apply Kd.R_drew));exact HO296.out) hg hat);have n1_:=Aside0.mk (hb);have n2_:=Aside0.mk (ho);clear HO296;clear HB;clear HO_3;have HO296:=n0_;have HB:=n1_;have HO299:=n2_;clear n0_ n1_ n2_;clear ho hb hg hat))
        go_ret
        exact ⟨_,by first|rfl|(simp [*,errW_none,errW_some] <;> rfl),by (with_reducible repeat (first|apply Kd.R_alloc|apply Kd.R_drewN|apply Kd.R_drew));exact Kd.R_mono HO299.out (fun _ hk=>trivial),by repeat (first|exact HB.out|apply below_alloc|apply pw_below_drewN|apply below_drew1)⟩
       ·rw [if_neg c26] at H
        exact absurd H (by simp)

/-! ### slices_Clone_byte_byte: function 80 -/
def slices_Clone_byte_byte.f (l0 : List Int) : Option (List Int):=(some (([] : List Int) : List Int)).bind fun y300=>(if y300.length + l0.length < 140737488355328 then (some (y300 ++ l0)) else (none))
set_option maxHeartbeats 8000000 in
set_option maxRecDepth 100000 in
theorem slices_Clone_byte_byte.calls (A0 : Option Addr) (c0 : Nat) (l0 : List Int) (r : List Int) (w : World) (hr0 : Kd.C (Kd.int .u8) w A0 l0.length l0) (hc0 : l0.length ≤ c0) (h : slices_Clone_byte_byte.f l0 = some r) :
  Calls Try.prog 80 #[.slice A0 l0.length c0] w fun e w'=>∃ v0_ : Value,e = .returned (v0_)∧Kd.R (Kd.int .u8) 5 w' w.heap.size (fun _=>True) v0_ r∧Below w.heap.size w w':=by
 have HR0:=Aside0.mk hr0
 have HC0:=Aside0.mk hc0
 clear hr0 hc0
 have HB:=Aside0.mk (Below.refl w.heap.size w)
 have H : ((some (([] : List Int) : List Int)).bind fun y300=>(if y300.length + l0.length < 140737488355328 then (some (y300 ++ l0)) else (none))) = some r:=h
 clear h
 rcases A0 with _|ad0_
 ·obtain rfl : l0 = []:=by
   by_cases hl_ : 0 < l0.length
   ·obtain ⟨ad_,hz_,_⟩:=Kd.at_int HR0.out (0 : Int) (by omega) (by omega)
    cases hz_
   ·exact List.length_eq_zero_iff.1 (by omega)
  have hnt_ : ∀ (c : Nat) (W : World),Sem.run Try.prog (binOp BinOp.eql 24 (.slice none 0 c) (.slice none 0 0)) W = Result.ok (Value.bool true) W:=fun _ _=>by first|rfl|kernel_rfl
  go_enter Try.func80,Try.ntmps80
  go_wp2
  go_ret
  have hr_ : r = []:=by first|simpa using H|simpa using H.symm|(simp at H;exact H.symm)|(simp at H;exact H.2.symm)
  subst hr_
  exact ⟨_,rfl,Kd.R_nil _ _ _ _ _,HB.out⟩
 have hnt_ : ∀ (n c : Nat) (W : World),Sem.run Try.prog (binOp BinOp.eql 24 (.slice (some ad0_) n c) (.slice none 0 0)) W = Result.ok (Value.bool false) W:=fun _ _ _=>by first|rfl|kernel_rfl
 obtain ⟨y300,hy300⟩ : ∃ y_ : List Int,y_ = (([] : List Int)):=⟨_,rfl⟩
 replace H : (if y300.length + l0.length < 140737488355328 then (some (y300 ++ l0)) else (none)) = some r:=by first|(rw [hy300];with_reducible exact H)|(have H2_:=(Option.bind_some _ _).symm.trans H;rw [hy300];with_reducible exact H2_)|(have H2_:=(Option.bind_some _ _).symm.trans H;with_reducible exact H2_)|with_reducible exact H|(rw [hy300];exact H)|exact H
 have Ny300:=Aside0.mk hy300
 clear hy300
 by_cases c2 : y300.length + l0.length < 140737488355328
 ·rw [if_pos c2] at H
  have LMc2:=Aside0.mk c2
  clear c2
  obtain ⟨y303,hy303⟩ : ∃ y_ : List Int,y_ = (y300 ++ l0):=⟨_,rfl⟩
  replace H : (some y303) = some r:=by first|(rw [hy303];with_reducible exact H)|(have H2_:=(Option.bind_some _ _).symm.trans H;rw [hy303];with_reducible exact H2_)|(have H2_:=(Option.bind_some _ _).symm.trans H;with_reducible exact H2_)|with_reducible exact H|(rw [hy303];exact H)|exact H
  have Ny303:=Aside0.mk hy303
  clear hy303
  obtain rfl:=Option.some.inj H
  go_enter Try.func80,Try.ntmps80
  go_wp2_with (first|((with_reducible refine gate_dst (N:=5) rfl ?_);refine Kd.R_lit (Kd.int .u8) _ 5 ?hg (N:=5) ?hd (xs:=([] : List Int)) (inner:=[]) (ok:=fun _=>True) (okp:=fun _=>True) ?hr ?hp (fun _ hk=>hk) trivial (Below.refl _ _) (Nat.le_refl _) (by simp) ?_;(case hd=>rfl);(case hg=>rfl);(case hr=>first|(go_simp;done)|(go_simp;rfl));(case hp=>exact (Reps.none _ _));intro v301 w3 ho4 hb hg_ hnew_;clear hg_ hnew_;(first|rw [← Ny300.out] at ho4|(simp only [Int.reduceToNat] at ho4;rw [← Ny300.out] at ho4));have n0_:=Aside0.mk (Kd.R_lower ho4 (below_size (by repeat (first|exact HB.out|apply below_alloc|apply pw_below_drewN|apply below_drew1))));have n1_:=Aside0.mk (below_step (by repeat (first|exact HB.out|apply below_alloc|apply pw_below_drewN|apply below_drew1)) hb);clear HB;have HO302:=n0_;have HB:=n1_;clear n0_ n1_;clear hb ho4)|((with_reducible refine gate_builtin (b:=.append) (xs:=#[.tmp 5,.tmp 6]) rfl ?_);at_builtin;refine Kd.R_append_rows (Kd.int .u8) (w0:=w) w.heap.size rfl (.tmp 5) (.tmp 6) 24 5 (.int .u8 0) 1 rfl Try.underlying24 info5 rfl (by decide) (by omega) v301 y300 l0 _ _ _ (fun _=>True) (fun _=>False) rfl rfl ?aO ?aR (fun _ _ h=>h) (fun _ h=>h.elim) ?aF ?aB ?aS ?aL ?_;(case aR=>repeat (first|exact (Kd.C_below HR0.out HB.out)|(with_reducible first|apply Kd.C_alloc|apply Kd.C_drewN|apply Kd.C_drew)));(case aB=>exact (by repeat (first|exact HB.out|apply below_alloc|apply pw_below_drewN|apply below_drew1)));(case aF=>exact (fun _ _=>trivial));(case aO=>exact (by (with_reducible repeat (first|apply Kd.R_alloc|apply Kd.R_drewN|apply Kd.R_drew));exact HO302.out));(case aS=>exact (below_size (by repeat (first|exact HB.out|apply below_alloc|apply pw_below_drewN|apply below_drew1))));(case aL=>have:=LMc2.out;omega);intro v304 w5 ho hb hg hat;rw [← Ny303.out] at ho;have n0_:=Aside0.mk (hb);have n1_:=Aside0.mk (ho);clear HB;clear HO302;have HB:=n0_;have HO305:=n1_;clear n0_ n1_;clear ho hb hg hat))
  go_ret
  exact ⟨_,by first|rfl|(simp [*,errW_none,errW_some] <;> rfl),by (with_reducible repeat (first|apply Kd.R_alloc|apply Kd.R_drewN|apply Kd.R_drew));exact HO305.out,by repeat (first|exact HB.out|apply below_alloc|apply pw_below_drewN|apply below_drew1)⟩
 ·rw [if_neg c2] at H
  exact absurd H (by simp)

/-! ### impl_home: function 62 -/
def impl_home.l0 : Nat → List (S59) → List (S59) → Int → Int → Option ((List (S59)))
 | 0,_,_,_,_=>none
 | k + 1,x3,x7,x8,x9=>if x9 < x8 then (if 0 ≤ x9 then (if x9 < (x7.length : Int) then ((slices_Clone_byte_byte.f ((rd_T59 x7 x9).f1)).bind fun t311=>(if x3.length < 4398046511104 then (impl_home.l0 k (x3 ++ [(⟨(rd_T59 x7 x9).f0,t311⟩ : S59)]) x7 x8 (wrap64 (x9 + 1))) else (none))) else (none)) else (none)) else (if 128 ≤ 281474976710656 then (if x3.length < 4398046511104 then (some (x3 ++ [(⟨2,(List.replicate 128 0)⟩ : S59)])) else (none)) else (none))
def impl_home.f (k : Nat) (l0 : List (S59)) : Option ((List (S59))):=impl_home.l0 k (([] : List (S59))) l0 (l0.length : Int) 0
theorem impl_home.mono_l : ∀ k,(∀ y0 y1 y2 y3,LeO (impl_home.l0 k y0 y1 y2 y3) (impl_home.l0 (k + 1) y0 y1 y2 y3))
 | 0=>fun _ _ _ _ r h=>by simp [impl_home.l0] at h
 | k + 1=>by
  have ih0:=impl_home.mono_l k
  ·intro y0 y1 y2 y3
   unfold impl_home.l0
   repeat' first
   | (with_reducible exact ih0 _ _ _ _)
   | (with_reducible exact LeO.refl _)
   | (with_reducible exact LeO.none _)
   | (with_reducible refine LeO.ite ?_ ?_)
   | (with_reducible refine LeO.bind ?_ (fun _=>?_))
   | exact ih0 _ _ _ _
   | exact LeO.none _
   | refine LeO.ite ?_ ?_
   | refine LeO.bind ?_ (fun _=>?_)
theorem impl_home.mono : ∀ a0 k,LeO (impl_home.f k a0) (impl_home.f (k + 1) a0):=by
 intro a0 k
 have ih0:=impl_home.mono_l k
 unfold impl_home.f
 repeat' first
   | (with_reducible exact ih0 _ _ _ _)
   | (with_reducible exact LeO.refl _)
   | (with_reducible exact LeO.none _)
   | (with_reducible refine LeO.ite ?_ ?_)
   | (with_reducible refine LeO.bind ?_ (fun _=>?_))
   | exact ih0 _ _ _ _
   | exact LeO.none _
   | refine LeO.ite ?_ ?_
   | refine LeO.bind ?_ (fun _=>?_)
def impl_home.T5 : Bool × List (List Nat × List Nat):=(true,[([],[]),([],[]),([1],[1]),([],[]),([3],[3]),([4],[4]),([2,5],[2,5]),([6],[6]),([0,7,5],[0,7]),([8,8,0,1,2,3,4,5,6,7,8],[0,8])])
def impl_home.B5 : List Nat:=[0,0,2,0,8,24,62,126,255,511]
theorem impl_home.tab5 : rtab .any (opsOf Try.f62 5) = impl_home.T5:=by kernel_rfl
theorem impl_home.bits5 : waitsOk impl_home.T5.2 impl_home.B5 = true:=by kernel_rfl
set_option maxHeartbeats 8000000 in
set_option maxRecDepth 100000 in
theorem impl_home.calls (k : Nat) (A0 : Option Addr) (c0 : Nat) (l0 : List (S59)) (r : List (S59)) (w : World) (hr0 : Kd.C k59 w A0 l0.length l0) (hc0 : l0.length ≤ c0) (h : impl_home.f k l0 = some r) :
  Calls Try.prog 62 #[.slice A0 l0.length c0] w fun e w'=>∃ v0_ : Value,e = .returned (v0_)∧Kd.S k59 59 w' w.heap.size (fun _=>True) v0_ r∧Below w.heap.size w w':=by
 have hu59:=Try.underlying59
 have HR0:=Aside0.mk hr0
 have HC0:=Aside0.mk hc0
 clear hr0 hc0
 have HB:=Aside0.mk (Below.refl w.heap.size w)
 have H : (impl_home.l0 k (([] : List (S59))) l0 (l0.length : Int) 0) = some r:=h
 clear h
 obtain ⟨y306,hy306⟩ : ∃ y_ : List (S59),y_ = (([] : List (S59))):=⟨_,rfl⟩
 replace H : (impl_home.l0 k y306 l0 (l0.length : Int) 0) = some r:=by first|(rw [hy306];with_reducible exact H)|(have H2_:=(Option.bind_some _ _).symm.trans H;rw [hy306];with_reducible exact H2_)|(have H2_:=(Option.bind_some _ _).symm.trans H;with_reducible exact H2_)|with_reducible exact H|(rw [hy306];exact H)|exact H
 have Ny306:=Aside0.mk hy306
 clear hy306
 have H':=Aside0.mk H
 clear H
 go_enter Try.func62,Try.ntmps62
 go_wp2_with (first|((with_reducible refine gate_dst (N:=6) rfl ?_);refine Kd.S_lit k59 _ 59 ?hg (N:=6) ?hd (xs:=([] : List (S59))) (inner:=[]) (ok:=fun _=>True) (okp:=fun _=>True) ?hr ?hp (fun _ hk=>hk) trivial (Below.refl _ _) (Nat.le_refl _) (by simp) ?_;(case hd=>rfl);(case hg=>rfl);(case hr=>first|(go_simp;done)|(go_simp;rfl));(case hp=>exact (Reps.none _ _));intro v307 w2 ho3 hb hg_ hnew_;clear hg_ hnew_;(first|rw [← Ny306.out] at ho3|(simp only [Int.reduceToNat] at ho3;rw [← Ny306.out] at ho3));have n0_:=Aside0.mk (Kd.S_lower ho3 (below_size (by repeat (first|exact HB.out|apply below_alloc|apply pw_below_drewN|apply below_drew1))));have n1_:=Aside0.mk (below_step (by repeat (first|exact HB.out|apply below_alloc|apply pw_below_drewN|apply below_drew1)) hb);clear HB;have HO308:=n0_;have HB:=n1_;clear n0_ n1_;clear hb ho3))
 go_loopg [3,9] k (fun kq v3 v9 w'=>∃ (x3_1 : List (S59)) (x9_1 : Int),v9 = .int .i64 x9_1∧Aside0 (impl_home.l0 kq x3_1 l0 (l0.length : Int) x9_1 = some r)∧Aside0 (kq ≤ k)∧Aside0 (Kd.S k59 59 w' w.heap.size (fun _=>True) v3 x3_1)∧Aside0 (Below w.heap.size w w'))
 case atStart=>exact ⟨(y306),(0),(by first|rfl|(simp;done)|(simp [*];done)),H',⟨Nat.le_refl _⟩,⟨by (with_reducible repeat (first|apply Kd.S_alloc|apply Kd.S_drewN|apply Kd.S_drew));exact HO308.out⟩,⟨by repeat (first|exact HB.out|apply below_alloc|apply pw_below_drewN|apply below_drew1)⟩⟩
 case round =>
  clear H'
  try clear p2
  obtain ⟨x3_1,x9_1,rfl,HA,HK1,HO_3,HB⟩:=hrel
  cases gk with
  | zero=>exact absurd HA.out (by simp [impl_home.l0])
  | succ k1 =>
   have H:=HA.out
   clear HA
   simp only [impl_home.l0] at H
   by_cases c4 : x9_1 < (l0.length : Int)
   ·rw [if_pos c4] at H
    have c4b0 : decide (x9_1 < (l0.length : Int)) = true:=decide_eq_true c4
    clear c4
    by_cases c5 : 0 ≤ x9_1
    ·rw [if_pos c5] at H
     have c5b0 : decide (0 ≤ x9_1) = true:=decide_eq_true c5
     clear c5
     by_cases c6 : x9_1 < (l0.length : Int)
     ·rw [if_pos c6] at H
      have c6b0 : decide (x9_1 < (l0.length : Int)) = true:=decide_eq_true c6
      clear c6
      replace H:=Option.bind_eq_some_iff.mp H
      obtain ⟨t311,A70,H⟩:=H
      replace H : (if x3_1.length < 4398046511104 then (impl_home.l0 k1 (x3_1 ++ [(⟨(rd_T59 l0 x9_1).f0,t311⟩ : S59)]) l0 (l0.length : Int) (wrap64 (x9_1 + 1))) else (none)) = some r:=H
      have A7:=Aside0.mk A70
      clear A70
      by_cases c8 : x3_1.length < 4398046511104
      ·rw [if_pos c8] at H
       have LMc8:=Aside0.mk c8
       clear c8
       obtain ⟨y314,hy314⟩ : ∃ y_ : List (S59),y_ = (x3_1 ++ [(⟨(rd_T59 l0 x9_1).f0,t311⟩ : S59)]):=⟨_,rfl⟩
       replace H : (impl_home.l0 k1 y314 l0 (l0.length : Int) (wrap64 (x9_1 + 1))) = some r:=by first|(rw [hy314];with_reducible exact H)|(have H2_:=(Option.bind_some _ _).symm.trans H;rw [hy314];with_reducible exact H2_)|(have H2_:=(Option.bind_some _ _).symm.trans H;with_reducible exact H2_)|with_reducible exact H|(rw [hy314];exact H)|exact H
       have Ny314:=Aside0.mk hy314
       clear hy314
       have H':=Aside0.mk H
       clear H
       have p309 : 0 ≤ (x9_1 : Int):=of_decide_eq_true (by assumption)
       have q309 : x9_1 < (l0.length : Int):=of_decide_eq_true (by assumption)
       obtain ⟨ad309,A309_1,c309_1,e309,hx309_0,hx309_1,hl309_1,hi309_1⟩:=at_T59 HR0.out x9_1 p309 q309
       cases e309
       (try replace hx309_0:=(HB.out.cell (World.block_lt_of_cell? w _ hx309_0)).trans hx309_0)
       (try replace hx309_1:=(HB.out.cell (World.block_lt_of_cell? w _ hx309_1)).trans hx309_1)
       have HR309_1:=Aside0.mk hi309_1
       have HC309_1:=Aside0.mk hl309_1
       clear hi309_1 hl309_1
       replace p309:=eq_true p309
       replace q309:=eq_true q309
       try go_wp2_with (first|((with_reducible refine gate_dst (N:=5) rfl ?_);refine box_event ?hg (N:=5) ?hd (cs:=#[.int .i64 0,.slice none 0 0]) (t:=59) ?hr ?_;(case hd=>rfl);(case hg=>rfl);(case hr=>first|(go_simp;done)|(go_simp;rfl));intro gb310 hg w9 hbox hb;have n0_:=Aside0.mk (Kd.S_below (Kd.S_elderB (by (with_reducible repeat (first|apply Kd.S_alloc|apply Kd.S_drewN|apply Kd.S_drew));exact HO_3.out) gb310 (Nat.le_of_eq hg.symm)) hb);have n1_:=Aside0.mk (below_step (by repeat (first|exact HB.out|apply below_alloc|apply pw_below_drewN|apply below_drew1)) hb);have n2_:=Aside0.mk (hbox);have n3_:=Aside0.mk ((by rw [hg];exact (below_size (by repeat (first|exact HB.out|apply below_alloc|apply pw_below_drewN|apply below_drew1))) : w.heap.size ≤ gb310));have n4_:=Aside0.mk ((by rw [hg];exact (below_size (by repeat (first|exact HB.out|apply below_alloc|apply pw_below_drewN|apply below_drew1))) : w.heap.size ≤ gb310));clear HO_3;clear HB;have HO_3:=n0_;have HB:=n1_;have BK310:=n2_;have GW310:=n3_;have GE310:=n4_;clear n0_ n1_ n2_ n3_ n4_;clear hb hbox hg;have hcz10_0 : w9.cell? ⟨gb310,0,none⟩ = some (.int .i64 0):=(blk_cell BK310.out 0).trans rfl;have hcz10_1 : w9.cell? ⟨gb310,1,none⟩ = some (.slice none 0 0):=(blk_cell BK310.out 1).trans rfl;have hfz10_0:=blk_frozen BK310.out 0;have hfz10_1:=blk_frozen BK310.out 1))
       have n0_ : Aside0 (Kd.S k59 59 ((w9.setCell ⟨gb310,0,none⟩ (.int .i64 ((rd_T59 l0 x9_1).f0))).setCell ⟨gb310,1,none⟩ (.slice A309_1 ((rd_T59 l0 x9_1).f1).length c309_1)) w.heap.size (fun k_=>k_ ≠ gb310) u3 x3_1):=⟨by (with_reducible repeat (first|apply Kd.S_alloc|apply Kd.S_drewN|apply Kd.S_drew));exact Kd.S_mono (Kd.S_far (p:=⟨gb310,1,none⟩) (Kd.S_far (p:=⟨gb310,0,none⟩) (Kd.S_mono HO_3.out (fun k_ hk=>(⟨hk,hk.2⟩ : _∧k_ ≠ gb310))) (fun _ hk=>hk.2) (.int .i64 ((rd_T59 l0 x9_1).f0))) (fun _ hk=>hk.2) (.slice A309_1 ((rd_T59 l0 x9_1).f1).length c309_1)) (fun _ hk=>hk.1.2)⟩
       have n1_ : Aside0 (((w9.setCell ⟨gb310,0,none⟩ (.int .i64 ((rd_T59 l0 x9_1).f0))).setCell ⟨gb310,1,none⟩ (.slice A309_1 ((rd_T59 l0 x9_1).f1).length c309_1)).heap[gb310]? = some (.cells #[.int .i64 ((rd_T59 l0 x9_1).f0),.slice A309_1 ((rd_T59 l0 x9_1).f1).length c309_1] 59 (0,0))):=⟨by (with_reducible repeat first|apply blk_drewN|apply blk_drew|apply blk_alloc);refine blk_put (cs:=#[.int .i64 ((rd_T59 l0 x9_1).f0),.slice none 0 0]) ?_ 1 _ rfl;(with_reducible repeat first|apply blk_drewN|apply blk_drew|apply blk_alloc);refine blk_put (cs:=#[.int .i64 0,.slice none 0 0]) ?_ 0 _ rfl;(with_reducible repeat first|apply blk_drewN|apply blk_drew|apply blk_alloc);exact BK310.out⟩
       have n2_ : Aside0 (Below w.heap.size w ((w9.setCell ⟨gb310,0,none⟩ (.int .i64 ((rd_T59 l0 x9_1).f0))).setCell ⟨gb310,1,none⟩ (.slice A309_1 ((rd_T59 l0 x9_1).f1).length c309_1))):=⟨by repeat (first|(with_reducible first|exact HB.out|apply below_alloc|apply pw_below_drewN|apply below_drew1|refine below_set ?_ GE310.out)|exact HB.out)⟩
       (try clear HO_3)
       (try clear BK310)
       (try clear HB)
       generalize ((w9.setCell ⟨gb310,0,none⟩ (.int .i64 ((rd_T59 l0 x9_1).f0))).setCell ⟨gb310,1,none⟩ (.slice A309_1 ((rd_T59 l0 x9_1).f1).length c309_1)) = w11 at n0_ n1_ n2_ ⊢
       have HO_3:=n0_
       have BK310:=n1_
       have HB:=n2_
       clear n0_ n1_ n2_
       have n0_:=Aside0.mk (Kd.S_drew HO_3.out)
       have n1_:=Aside0.mk (blk_drew BK310.out)
       have n2_:=Aside0.mk (below_drew1 HB.out)
       clear HO_3
       clear BK310
       clear HB
       have HO_3:=n0_
       have BK310:=n1_
       have HB:=n2_
       clear n0_ n1_ n2_
       refine start_ (n:=10) (S:=fun w'=>w'.cell? ⟨gb310,0,none⟩ = some (.int .i64 ((rd_T59 l0 x9_1).f0))∧w'.cell? ⟨gb310,1,none⟩ = some (.slice A309_1 ((rd_T59 l0 x9_1).f1).length c309_1)) (ds:=[]) #[false,false,false,false,false,false,false,false,false,false] (by kernel_rfl) rfl rfl ⟨(blk_cell BK310.out 0).trans rfl,(blk_cell BK310.out 1).trans rfl⟩ (fun hHeld=>?_);refine with_tabW impl_home.tab5 impl_home.bits5 (fun HT_ HW_=>?_)
       generalize w11.drew = w12 at HO_3 BK310 HB hHeld ⊢
       refine pure_ (i:=0) (N:=some 13) (v:=?_) (a':=?_) #[true,false,false,false,false,false,false,false,false,false] rfl rfl (any_of HT_.out (by kernel_rfl)) (fun _ _ _ h=>h) (Or.inl ⟨by rfl,?_⟩) ?_ ?_
       rotate_left
       ·intro w'
        go_simp
        with_reducible rfl
       rotate_left
       ·simp only [Act.put,List.setIfInBounds_toArray,List.set_cons_zero,List.set_cons_succ,i64_w,i32_w]
        rfl
       refine pure_ (i:=1) (N:=some 14) (v:=?_) (a':=?_) #[true,true,false,false,false,false,false,false,false,false] rfl rfl (any_of HT_.out (by kernel_rfl)) (fun _ _ _ h=>h) (Or.inl ⟨by rfl,?_⟩) ?_ ?_
       rotate_left
       ·intro w'
        go_simp
        with_reducible rfl
       rotate_left
       ·simp only [Act.put,List.setIfInBounds_toArray,List.set_cons_zero,List.set_cons_succ,i64_w,i32_w]
        rfl
       refine pure_ (i:=3) (N:=some 16) (v:=?_) (a':=?_) #[true,true,false,true,false,false,false,false,false,false] rfl rfl (any_of HT_.out (by kernel_rfl)) (fun _ _ _ h=>h) (Or.inl ⟨by rfl,?_⟩) ?_ ?_
       rotate_left
       ·intro w'
        go_simp
        with_reducible rfl
       rotate_left
       ·simp only [Act.put,List.setIfInBounds_toArray,List.set_cons_zero,List.set_cons_succ,i64_w,i32_w]
        rfl
       refine take_ (i:=2) (N:=some 15) (v:=?_) (a':=?_) #[true,true,true,true,false,false,false,false,false,false] rfl rfl (take_ofW HT_.out HW_.out (by kernel_rfl)) (fun _ _ _ h=>h) (Or.inl ⟨by rfl,?_⟩) hHeld ?_ ?_
       rotate_left
       ·rintro w' ⟨s0,s1⟩
        go_simp
        with_reducible rfl
       rotate_left
       ·simp only [Act.put,List.setIfInBounds_toArray,List.set_cons_zero,List.set_cons_succ,i64_w,i32_w]
        rfl
       refine take_ (i:=4) (N:=some 17) (v:=?_) (a':=?_) #[true,true,true,true,true,false,false,false,false,false] rfl rfl (take_ofW HT_.out HW_.out (by kernel_rfl)) (fun _ _ _ h=>h) (Or.inl ⟨by rfl,?_⟩) hHeld ?_ ?_
       rotate_left
       ·rintro w' ⟨s0,s1⟩
        go_simp
        with_reducible rfl
       rotate_left
       ·simp only [Act.put,List.setIfInBounds_toArray,List.set_cons_zero,List.set_cons_succ,i64_w,i32_w]
        rfl
       refine one_ (i:=5) (N:=some 18) #[true,true,true,true,true,true,false,false,false,false] rfl rfl (one_of HT_.out (by kernel_rfl)) (by decide) (fun K hK=>?_)
       refine goes_ Try.func80 (by kernel_rfl) rfl #[.slice A309_1 ((rd_T59 l0 x9_1).f1).length c309_1] (by rfl) rfl rfl (by (try simp only [List.map_toArray,List.map_cons,List.map_nil]);first|done|rfl|(simp only [List.length_drop,List.length_take];rfl)) ?_
       with_reducible refine (slices_Clone_byte_byte.calls _ _ ((rd_T59 l0 x9_1).f1) t311 _ ?side1 ?side2 A7.out).mono ?_
       (case side1=>repeat (first|exact (Kd.C_below HR309_1.out HB.out)|(with_reducible first|apply Kd.C_alloc|apply Kd.C_drewN|apply Kd.C_drew)))
       (case side2=>exact HC309_1.out)
       rintro e w13 ⟨v312,rfl,ho0,hb⟩
       refine ⟨_,rfl,?_⟩
       have n0_:=Aside0.mk (Kd.S_elder' (by (with_reducible repeat (first|apply Kd.S_alloc|apply Kd.S_drewN|apply Kd.S_drew));exact HO_3.out) (Kd.R_base ho0) hb)
       have n1_:=Aside0.mk (Kd.R_lower ho0 (below_size (by repeat (first|(with_reducible first|exact HB.out|apply below_alloc|apply pw_below_drewN|apply below_drew1|refine below_set ?_ GE310.out)|exact HB.out))))
       have n2_:=Aside0.mk (blk_below (g:=gb310) (o:=.cells #[.int .i64 ((rd_T59 l0 x9_1).f0),.slice A309_1 ((rd_T59 l0 x9_1).f1).length c309_1] 59 (0,0)) (by (with_reducible repeat first|apply blk_drewN|apply blk_drew|apply blk_alloc);exact BK310.out) hb)
       have n3_:=Aside0.mk (below_step (by repeat (first|(with_reducible first|exact HB.out|apply below_alloc|apply pw_below_drewN|apply below_drew1|refine below_set ?_ GE310.out)|exact HB.out)) hb)
       clear HO_3
       clear BK310
       clear HB
       have HO_3:=n0_
       have HO313:=n1_
       have BK310:=n2_
       have HB:=n3_
       clear n0_ n1_ n2_ n3_
       (try clear hb)
       (try clear hb2)
       (try clear hk)
       (try clear hi)
       (try clear ho0)
       obtain ⟨Ao14,co14,eo14⟩:=Kd.R_slice HO313.out
       (first|subst eo14|(injection eo14 with f1_ f2_ f3_;have f4_:=f1_.symm;have f5_:=f3_.symm;clear f1_ f2_ f3_;subst f4_;subst f5_))
       refine hK.out _ _ ⟨(blk_cell BK310.out 0).trans rfl,(blk_cell BK310.out 1).trans rfl⟩ (fun hHeld=>?_)
       clear hK K
       refine norm_ (a':=?_) ?_ ?_
       rotate_left
       ·show Act.put _ (some 18) _ = _
        simp only [Act.put,List.setIfInBounds_toArray,List.set_cons_zero,List.set_cons_succ,i64_w,i32_w]
        rfl
       refine pure_ (i:=6) (N:=some 19) (v:=?_) (a':=?_) #[true,true,true,true,true,true,true,false,false,false] rfl rfl (any_of HT_.out (by kernel_rfl)) (fun _ _ _ h=>h) (Or.inl ⟨by rfl,?_⟩) ?_ ?_
       rotate_left
       ·intro w'
        go_simp
        with_reducible rfl
       rotate_left
       ·simp only [Act.put,List.setIfInBounds_toArray,List.set_cons_zero,List.set_cons_succ,i64_w,i32_w]
        rfl
       refine one_ (i:=7) (N:=some 20) #[true,true,true,true,true,true,true,true,false,false] rfl rfl (one_of HT_.out (by kernel_rfl)) (by decide) (fun K hK=>?_)
       refine value_ (w1:=?_) (v:=?_) (by rfl) rfl ?_ ?_
       rotate_left 2
       ·go_simp
        constructor
        ·rfl
        ·rfl
       refine hK.out _ _ ⟨(blk_cell (blk_alloc BK310.out _) 0).trans rfl,(blk_cell (blk_alloc BK310.out _) 1).trans rfl⟩ (fun hHeld=>?_)
       clear hK K
       refine norm_ (a':=?_) ?_ ?_
       rotate_left
       ·show Act.put _ (some 20) _ = _
        simp only [Act.put,List.setIfInBounds_toArray,List.set_cons_zero,List.set_cons_succ,i64_w,i32_w]
        rfl
       refine one_ (i:=8) (N:=some 21) #[true,true,true,true,true,true,true,true,true,false] rfl rfl (one_of HT_.out (by kernel_rfl)) (by decide) (fun K hK=>?_)
       refine Kd.S_append_step k59 (w0:=w) w.heap.size (by rfl) (.tmp 13) (.tmp 20) 27 59 (.agg #[(.int .i64 0),(.slice none 0 0)]) 32 rfl Try.underlying27 info59 rfl (by decide) (by omega) u3 x3_1 (⟨(rd_T59 l0 x9_1).f0,t311⟩ : S59) [.int .i64 ((rd_T59 l0 x9_1).f0),.slice Ao14 t311.length co14] (fun k_=>k_ ≠ gb310) (fun k_=>some k_ = (.slice Ao14 t311.length co14 : Value).ownBlock) rfl rfl ?aP (fun k_ hk_=>((Kd.R_mono (ok':=fun k_=>((fun k_=>k_ ≠ gb310)) k_∧some k_ ≠ (u3 : Value).ownBlock) (Kd.R_types (Kd.R_apart' (HO313.out) (Kd.S_typed HO_3.out) (by decide)) BK310.out (by decide)) (fun k_ hk=>⟨hk.2,hk.1.2⟩))).1 k_ hk_.symm) ?aF ?aO ?aB ?aS ?aL ?_
       (case aP=>exact k59_mkM _ _ _ (⟨(rd_T59 l0 x9_1).f0,t311⟩ : S59) (Kd.R_mono (Kd.R_tight rfl (Kd.R_mono (ok':=fun k_=>((fun k_=>k_ ≠ gb310)) k_∧some k_ ≠ (u3 : Value).ownBlock) (Kd.R_types (Kd.R_apart' (HO313.out) (Kd.S_typed HO_3.out) (by decide)) BK310.out (by decide)) (fun k_ hk=>⟨hk.2,hk.1.2⟩))) (fun _ h_=>h_)))
       (case aB=>exact (by repeat (first|(with_reducible first|exact HB.out|apply below_alloc|apply pw_below_drewN|apply below_drew1|refine below_set ?_ GE310.out)|exact HB.out)))
       (case aF=>exact (fun k_ hk=>Kd.freshB (g:=gb310) (o:=.cells #[.int .i64 ((rd_T59 l0 x9_1).f0),.slice A309_1 ((rd_T59 l0 x9_1).f1).length c309_1] 59 (0,0)) (by (with_reducible repeat first|apply blk_drewN|apply blk_drew|apply blk_alloc);exact BK310.out) k_ hk))
       (case aO=>exact (by (with_reducible repeat (first|apply Kd.S_alloc|apply Kd.S_drewN|apply Kd.S_drew));exact Kd.S_mono HO_3.out (fun k_ hk=>⟨hk.1,fun e_=>hk.2 e_⟩)))
       (case aS=>exact (below_size (by repeat (first|(with_reducible first|exact HB.out|apply below_alloc|apply pw_below_drewN|apply below_drew1|refine below_set ?_ GE310.out)|exact HB.out))))
       (case aL=>have:=LMc8.out;omega)
       intro v315 w15 ho hb hg hat
       rw [← Ny314.out] at ho
       have n0_:=Aside0.mk (blk_grown (g:=gb310) (o:=.cells #[.int .i64 ((rd_T59 l0 x9_1).f0),.slice A309_1 ((rd_T59 l0 x9_1).f1).length c309_1] 59 (0,0)) (by (with_reducible repeat first|apply blk_drewN|apply blk_drew|apply blk_alloc);exact BK310.out) hg (Kd.S_away HO_3.out (fun _ hk=>hk.1)))
       have n1_:=Aside0.mk (hb)
       have n2_:=Aside0.mk (ho)
       clear BK310
       clear HB
       clear HO_3
       clear HO313
       have BK310:=n0_
       have HB:=n1_
       have HO316:=n2_
       clear n0_ n1_ n2_
       clear ho hb hg hat
       refine hK.out _ _ ⟨(blk_cell BK310.out 0).trans rfl,(blk_cell BK310.out 1).trans rfl⟩ (fun hHeld=>?_)
       clear hK K
       refine norm_ (a':=?_) ?_ ?_
       rotate_left
       ·show Act.put _ (some 21) _ = _
        simp only [Act.put,List.setIfInBounds_toArray,List.set_cons_zero,List.set_cons_succ,i64_w,i32_w]
        rfl
       refine pure_ (i:=9) (N:=some 3) (v:=?_) (a':=?_) #[true,true,true,true,true,true,true,true,true,true] rfl rfl (any_of HT_.out (by kernel_rfl)) (fun _ _ _ h=>h) (Or.inl ⟨by rfl,?_⟩) ?_ ?_
       rotate_left
       ·intro w'
        go_simp
        with_reducible rfl
       rotate_left
       ·simp only [Act.put,List.setIfInBounds_toArray,List.set_cons_zero,List.set_cons_succ,i64_w,i32_w]
        rfl
       refine done_ (done_of HT_.out (by kernel_rfl)) ?_
       try go_wp2
       go_roundg k1
       case measure=>have:=HK1.out;omega
       case rel=>exact ⟨(y314),(wrap64 (x9_1 + 1)),(by first|rfl|(simp;done)|(simp [*];done)),H',⟨by have:=HK1.out;omega⟩,⟨by (with_reducible repeat (first|apply Kd.S_alloc|apply Kd.S_drewN|apply Kd.S_drew));exact Kd.S_mono HO316.out (fun _ hk=>trivial)⟩,⟨by repeat (first|(with_reducible first|exact HB.out|apply below_alloc|apply pw_below_drewN|apply below_drew1|refine below_set ?_ GE310.out)|exact HB.out)⟩⟩
      ·rw [if_neg c8] at H
       exact absurd H (by simp)
     ·rw [if_neg c6] at H
      exact absurd H (by simp)
    ·rw [if_neg c5] at H
     exact absurd H (by simp)
   ·rw [if_neg c4] at H
    have c4b0 : decide (x9_1 < (l0.length : Int)) = false:=decide_eq_false c4
    clear c4
    by_cases c16 : 128 ≤ 281474976710656
    ·rw [if_pos c16] at H
     have c16b0:=eq_true c16
     have c16b1 : decide (128 ≤ 281474976710656) = true:=decide_eq_true c16
     clear c16
     obtain ⟨y317,hy317⟩ : ∃ y_ : List Int,y_ = (List.replicate 128 0):=⟨_,rfl⟩
     replace H : (if x3_1.length < 4398046511104 then (some (x3_1 ++ [(⟨2,y317⟩ : S59)])) else (none)) = some r:=by first|(rw [hy317];with_reducible exact H)|(have H2_:=(Option.bind_some _ _).symm.trans H;rw [hy317];with_reducible exact H2_)|(have H2_:=(Option.bind_some _ _).symm.trans H;with_reducible exact H2_)|with_reducible exact H|(rw [hy317];exact H)|exact H
     have Ny317:=Aside0.mk hy317
     clear hy317
     by_cases c17 : x3_1.length < 4398046511104
     ·rw [if_pos c17] at H
      have LMc17:=Aside0.mk c17
      clear c17
      obtain ⟨y320,hy320⟩ : ∃ y_ : List (S59),y_ = (x3_1 ++ [(⟨2,y317⟩ : S59)]):=⟨_,rfl⟩
      replace H : (some y320) = some r:=by first|(rw [hy320];with_reducible exact H)|(have H2_:=(Option.bind_some _ _).symm.trans H;rw [hy320];with_reducible exact H2_)|(have H2_:=(Option.bind_some _ _).symm.trans H;with_reducible exact H2_)|with_reducible exact H|(rw [hy320];exact H)|exact H
      have Ny320:=Aside0.mk hy320
      clear hy320
      obtain rfl:=Option.some.inj H
      go_wp2_with (first|((with_reducible refine gate_dst (N:=24) rfl ?_);refine Kd.R_make (Kd.int .u8) _ 5 rfl (N:=24) rfl 24 _ _ rfl 128 rfl rfl Try.underlying24 (.int .u8 0) 1 info5 rfl (by decide) (by omega) 0 (ok:=fun _=>True) (okp:=fun _=>True) rfl (fun _ hk=>hk) trivial (by omega) (by omega) (Below.refl _ _) (Nat.le_refl _) ?_;intro v318 w18 ho19 hb hg_ hnew_;clear hg_ hnew_;(first|rw [← Ny317.out] at ho19|(simp only [Int.reduceToNat] at ho19;rw [← Ny317.out] at ho19));have n0_:=Aside0.mk (Kd.S_elder' (by (with_reducible repeat (first|apply Kd.S_alloc|apply Kd.S_drewN|apply Kd.S_drew));exact HO_3.out) (Kd.R_base ho19) hb);have n1_:=Aside0.mk (Kd.R_lower ho19 (below_size (by repeat (first|exact HB.out|apply below_alloc|apply pw_below_drewN|apply below_drew1))));have n2_:=Aside0.mk (below_step (by repeat (first|exact HB.out|apply below_alloc|apply pw_below_drewN|apply below_drew1)) hb);clear HO_3;clear HB;have HO_3:=n0_;have HO319:=n1_;have HB:=n2_;clear n0_ n1_ n2_;clear hb ho19;obtain ⟨Ao20,co20,eo20⟩:=Kd.R_slice HO319.out;subst eo20)|((with_reducible refine gate_builtin (b:=.append) (xs:=#[.tmp 23,.tmp 26]) rfl ?_);at_builtin;refine Kd.S_append k59 (w0:=w) w.heap.size rfl (.tmp 23) (.tmp 26) 27 59 (.agg #[(.int .i64 0),(.slice none 0 0)]) 32 rfl Try.underlying27 info59 rfl (by decide) (by omega) u3 x3_1 (⟨2,y317⟩ : S59) [.int .i64 2,.slice Ao20 y317.length co20] (fun _=>True) (fun k_=>some k_ = (.slice Ao20 y317.length co20 : Value).ownBlock) rfl rfl ?aP (fun k_ hk_=>((Kd.R_mono (ok':=fun k_=>((fun _=>True)) k_∧some k_ ≠ (u3 : Value).ownBlock) (Kd.R_apart' (HO319.out) (Kd.S_typed HO_3.out) (by decide)) (fun k_ hk=>⟨trivial,hk.2⟩))).1 k_ hk_.symm) ?aF ?aO ?aB ?aS ?aL ?_;(case aP=>exact k59_mkM _ _ _ (⟨2,y317⟩ : S59) (Kd.R_mono (Kd.R_tight rfl (Kd.R_mono (ok':=fun k_=>((fun _=>True)) k_∧some k_ ≠ (u3 : Value).ownBlock) (Kd.R_apart' (HO319.out) (Kd.S_typed HO_3.out) (by decide)) (fun k_ hk=>⟨trivial,hk.2⟩))) (fun _ h_=>h_)));(case aB=>exact (by repeat (first|exact HB.out|apply below_alloc|apply pw_below_drewN|apply below_drew1)));(case aF=>exact (fun _ _=>trivial));(case aO=>exact (by (with_reducible repeat (first|apply Kd.S_alloc|apply Kd.S_drewN|apply Kd.S_drew));exact Kd.S_mono HO_3.out (fun k_ hk=>⟨trivial,fun e_=>hk.2 e_⟩)));(case aS=>exact (below_size (by repeat (first|exact HB.out|apply below_alloc|apply pw_below_drewN|apply below_drew1))));(case aL=>have:=LMc17.out;omega);intro v321 w21 ho hb hg hat;rw [← Ny320.out] at ho;have n0_:=Aside0.mk (hb);have n1_:=Aside0.mk (ho);clear HB;clear HO_3;clear HO319;have HB:=n0_;have HO322:=n1_;clear n0_ n1_;clear ho hb hg hat))
      go_ret
      exact ⟨_,by first|rfl|(simp [*,errW_none,errW_some] <;> rfl),by (with_reducible repeat (first|apply Kd.S_alloc|apply Kd.S_drewN|apply Kd.S_drew));exact HO322.out,by repeat (first|exact HB.out|apply below_alloc|apply pw_below_drewN|apply below_drew1)⟩
     ·rw [if_neg c17] at H
      exact absurd H (by simp)
    ·rw [if_neg c16] at H
     exact absurd H (by simp)

/-! ### impl_plan: function 55 -/
def impl_plan.l0 : Nat → List (S59) → List (S59) → List (S59) → Int → Int → Option ((List (S59)))
 | 0,_,_,_,_,_=>none
 | k + 1,x0,x3,x7,x8,x9=>if x9 < x8 then (if 0 ≤ x9 then (if x9 < (x7.length : Int) then ((slices_Clone_byte_byte.f ((rd_T59 x7 x9).f1)).bind fun t328=>(if x3.length < 4398046511104 then (impl_plan.l0 k x0 (x3 ++ [(⟨wrap64 (3 + x9),t328⟩ : S59)]) x7 x8 (wrap64 (x9 + 1))) else (none))) else (none)) else (none)) else ((impl_header.f k x0).bind fun t334=>(if x3.length < 4398046511104 then ((some (x3 ++ [(⟨2,t334⟩ : S59)] : List (S59))).bind fun y337=>((impl_home.f k x0).bind fun t340=>(if y337.length + t340.length < 4398046511104 then (some (y337 ++ t340)) else (none)))) else (none)))
def impl_plan.f (k : Nat) (l0 : List (S59)) : Option ((List (S59))):=impl_plan.l0 k l0 (([] : List (S59))) l0 (l0.length : Int) 0
theorem impl_plan.mono_l : ∀ k,(∀ y0 y1 y2 y3 y4,LeO (impl_plan.l0 k y0 y1 y2 y3 y4) (impl_plan.l0 (k + 1) y0 y1 y2 y3 y4))
 | 0=>fun _ _ _ _ _ r h=>by simp [impl_plan.l0] at h
 | k + 1=>by
  have ih0:=impl_plan.mono_l k
  ·intro y0 y1 y2 y3 y4
   unfold impl_plan.l0
   repeat' first
   | (with_reducible exact ih0 _ _ _ _ _)
   | (with_reducible exact impl_header.mono _ _)
   | (with_reducible exact impl_home.mono _ _)
   | (with_reducible exact LeO.refl _)
   | (with_reducible exact LeO.none _)
   | (with_reducible refine LeO.ite ?_ ?_)
   | (with_reducible refine LeO.bind ?_ (fun _=>?_))
   | exact ih0 _ _ _ _ _
   | exact impl_header.mono _ _
   | exact impl_home.mono _ _
   | exact LeO.none _
   | refine LeO.ite ?_ ?_
   | refine LeO.bind ?_ (fun _=>?_)
theorem impl_plan.mono : ∀ a0 k,LeO (impl_plan.f k a0) (impl_plan.f (k + 1) a0):=by
 intro a0 k
 have ih0:=impl_plan.mono_l k
 unfold impl_plan.f
 repeat' first
   | (with_reducible exact ih0 _ _ _ _ _)
   | (with_reducible exact impl_header.mono _ _)
   | (with_reducible exact impl_home.mono _ _)
   | (with_reducible exact LeO.refl _)
   | (with_reducible exact LeO.none _)
   | (with_reducible refine LeO.ite ?_ ?_)
   | (with_reducible refine LeO.bind ?_ (fun _=>?_))
   | exact ih0 _ _ _ _ _
   | exact impl_header.mono _ _
   | exact impl_home.mono _ _
   | exact LeO.none _
   | refine LeO.ite ?_ ?_
   | refine LeO.bind ?_ (fun _=>?_)
set_option maxHeartbeats 8000000 in
set_option maxRecDepth 100000 in
theorem impl_plan.calls (k : Nat) (A0 : Option Addr) (c0 : Nat) (l0 : List (S59)) (r : List (S59)) (w : World) (hr0 : Kd.C k59 w A0 l0.length l0) (hc0 : l0.length ≤ c0) (h : impl_plan.f k l0 = some r) :
  Calls Try.prog 55 #[.slice A0 l0.length c0] w fun e w'=>∃ v0_ : Value,e = .returned (v0_)∧Kd.S k59 59 w' w.heap.size (fun _=>True) v0_ r∧Below w.heap.size w w':=by
 have hu59:=Try.underlying59
 have HR0:=Aside0.mk hr0
 have HC0:=Aside0.mk hc0
 clear hr0 hc0
 have HB:=Aside0.mk (Below.refl w.heap.size w)
 have H : (impl_plan.l0 k l0 (([] : List (S59))) l0 (l0.length : Int) 0) = some r:=h
 clear h
 obtain ⟨y323,hy323⟩ : ∃ y_ : List (S59),y_ = (([] : List (S59))):=⟨_,rfl⟩
 replace H : (impl_plan.l0 k l0 y323 l0 (l0.length : Int) 0) = some r:=by first|(rw [hy323];with_reducible exact H)|(have H2_:=(Option.bind_some _ _).symm.trans H;rw [hy323];with_reducible exact H2_)|(have H2_:=(Option.bind_some _ _).symm.trans H;with_reducible exact H2_)|with_reducible exact H|(rw [hy323];exact H)|exact H
 have Ny323:=Aside0.mk hy323
 clear hy323
 have H':=Aside0.mk H
 clear H
 go_enter Try.func55,Try.ntmps55
 go_wp2_with (first|((with_reducible refine gate_dst (N:=6) rfl ?_);refine Kd.S_lit k59 _ 59 ?hg (N:=6) ?hd (xs:=([] : List (S59))) (inner:=[]) (ok:=fun _=>True) (okp:=fun _=>True) ?hr ?hp (fun _ hk=>hk) trivial (Below.refl _ _) (Nat.le_refl _) (by simp) ?_;(case hd=>rfl);(case hg=>rfl);(case hr=>first|(go_simp;done)|(go_simp;rfl));(case hp=>exact (Reps.none _ _));intro v324 w2 ho3 hb hg_ hnew_;clear hg_ hnew_;(first|rw [← Ny323.out] at ho3|(simp only [Int.reduceToNat] at ho3;rw [← Ny323.out] at ho3));have n0_:=Aside0.mk (Kd.S_lower (Kd.S_mono (Kd.S_bound ho3) (fun k_ h_=>(⟨h_.1,(by first|exact h_.2.1|simpa only [World.size_setCell] using h_.2.1)⟩ : _∧w.heap.size ≤ k_))) (below_size (by repeat (first|exact HB.out|apply below_alloc|apply pw_below_drewN|apply below_drew1))));have n1_:=Aside0.mk (below_step (by repeat (first|exact HB.out|apply below_alloc|apply pw_below_drewN|apply below_drew1)) hb);clear HB;have HO325:=n0_;have HB:=n1_;clear n0_ n1_;clear hb ho3))
 go_loopg [3,9] k (fun kq v3 v9 w'=>∃ (x3_1 : List (S59)) (x9_1 : Int),v9 = .int .i64 x9_1∧Aside0 (impl_plan.l0 kq l0 x3_1 l0 (l0.length : Int) x9_1 = some r)∧Aside0 (kq ≤ k)∧Aside0 (Kd.S k59 59 w' w.heap.size (fun _=>True) v3 x3_1)∧Aside0 (Below w.heap.size w w'))
 case atStart=>exact ⟨(y323),(0),(by first|rfl|(simp;done)|(simp [*];done)),H',⟨Nat.le_refl _⟩,⟨by (with_reducible repeat (first|apply Kd.S_alloc|apply Kd.S_drewN|apply Kd.S_drew));exact Kd.S_mono HO325.out (fun _ hk=>trivial)⟩,⟨by repeat (first|exact HB.out|apply below_alloc|apply pw_below_drewN|apply below_drew1)⟩⟩
 case round =>
  clear H'
  try clear p2
  obtain ⟨x3_1,x9_1,rfl,HA,HK1,HO_3,HB⟩:=hrel
  cases gk with
  | zero=>exact absurd HA.out (by simp [impl_plan.l0])
  | succ k1 =>
   have H:=HA.out
   clear HA
   simp only [impl_plan.l0] at H
   by_cases c4 : x9_1 < (l0.length : Int)
   ·rw [if_pos c4] at H
    have c4b0 : decide (x9_1 < (l0.length : Int)) = true:=decide_eq_true c4
    clear c4
    by_cases c5 : 0 ≤ x9_1
    ·rw [if_pos c5] at H
     have c5b0 : decide (0 ≤ x9_1) = true:=decide_eq_true c5
     clear c5
     by_cases c6 : x9_1 < (l0.length : Int)
     ·rw [if_pos c6] at H
      have c6b0 : decide (x9_1 < (l0.length : Int)) = true:=decide_eq_true c6
      clear c6
      replace H:=Option.bind_eq_some_iff.mp H
      obtain ⟨t328,A70,H⟩:=H
      replace H : (if x3_1.length < 4398046511104 then (impl_plan.l0 k1 l0 (x3_1 ++ [(⟨wrap64 (3 + x9_1),t328⟩ : S59)]) l0 (l0.length : Int) (wrap64 (x9_1 + 1))) else (none)) = some r:=H
      have A7:=Aside0.mk A70
      clear A70
      by_cases c8 : x3_1.length < 4398046511104
      ·rw [if_pos c8] at H
       have LMc8:=Aside0.mk c8
       clear c8
       obtain ⟨y331,hy331⟩ : ∃ y_ : List (S59),y_ = (x3_1 ++ [(⟨wrap64 (3 + x9_1),t328⟩ : S59)]):=⟨_,rfl⟩
       replace H : (impl_plan.l0 k1 l0 y331 l0 (l0.length : Int) (wrap64 (x9_1 + 1))) = some r:=by first|(rw [hy331];with_reducible exact H)|(have H2_:=(Option.bind_some _ _).symm.trans H;rw [hy331];with_reducible exact H2_)|(have H2_:=(Option.bind_some _ _).symm.trans H;with_reducible exact H2_)|with_reducible exact H|(rw [hy331];exact H)|exact H
       have Ny331:=Aside0.mk hy331
       clear hy331
       have H':=Aside0.mk H
       clear H
       have p326 : 0 ≤ (x9_1 : Int):=of_decide_eq_true (by assumption)
       have q326 : x9_1 < (l0.length : Int):=of_decide_eq_true (by assumption)
       obtain ⟨ad326,A326_1,c326_1,e326,hx326_0,hx326_1,hl326_1,hi326_1⟩:=at_T59 HR0.out x9_1 p326 q326
       cases e326
       (try replace hx326_0:=(HB.out.cell (World.block_lt_of_cell? w _ hx326_0)).trans hx326_0)
       (try replace hx326_1:=(HB.out.cell (World.block_lt_of_cell? w _ hx326_1)).trans hx326_1)
       have HR326_1:=Aside0.mk hi326_1
       have HC326_1:=Aside0.mk hl326_1
       clear hi326_1 hl326_1
       replace p326:=eq_true p326
       replace q326:=eq_true q326
       go_wp2_with (first|((with_reducible refine gate_dst (N:=5) rfl ?_);refine box_event ?hg (N:=5) ?hd (cs:=#[.int .i64 0,.slice none 0 0]) (t:=59) ?hr ?_;(case hd=>rfl);(case hg=>rfl);(case hr=>first|(go_simp;done)|(go_simp;rfl));intro gb327 hg w9 hbox hb;have n0_:=Aside0.mk (Kd.S_below (Kd.S_elderB (by (with_reducible repeat (first|apply Kd.S_alloc|apply Kd.S_drewN|apply Kd.S_drew));exact HO_3.out) gb327 (Nat.le_of_eq hg.symm)) hb);have n1_:=Aside0.mk (below_step (by repeat (first|exact HB.out|apply below_alloc|apply pw_below_drewN|apply below_drew1)) hb);have n2_:=Aside0.mk (hbox);have n3_:=Aside0.mk ((by rw [hg];exact (below_size (by repeat (first|exact HB.out|apply below_alloc|apply pw_below_drewN|apply below_drew1))) : w.heap.size ≤ gb327));have n4_:=Aside0.mk ((by rw [hg];exact (below_size (by repeat (first|exact HB.out|apply below_alloc|apply pw_below_drewN|apply below_drew1))) : w.heap.size ≤ gb327));clear HO_3;clear HB;have HO_3:=n0_;have HB:=n1_;have BK327:=n2_;have GW327:=n3_;have GE327:=n4_;clear n0_ n1_ n2_ n3_ n4_;clear hb hbox hg;have hcz10_0 : w9.cell? ⟨gb327,0,none⟩ = some (.int .i64 0):=(blk_cell BK327.out 0).trans rfl;have hcz10_1 : w9.cell? ⟨gb327,1,none⟩ = some (.slice none 0 0):=(blk_cell BK327.out 1).trans rfl;have hfz10_0:=blk_frozen BK327.out 0;have hfz10_1:=blk_frozen BK327.out 1)|((with_reducible refine gate_callee (f:=80) rfl ?_);refine goesL_ (some 19) rfl rfl Try.func80 (by kernel_rfl) rfl #[.slice A326_1 ((rd_T59 l0 x9_1).f1).length c326_1] rfl (by (try simp only [List.map_toArray,List.map_cons,List.map_nil]);first|done|rfl|(simp only [List.length_drop,List.length_take];rfl)) ?_;(with_reducible refine (slices_Clone_byte_byte.calls _ _ ((rd_T59 l0 x9_1).f1) t328 _ ?side1 ?side2 A7.out).mono ?_);(case side1=>exact Kd.C_below HR326_1.out (by repeat (first|(with_reducible first|exact HB.out|apply below_alloc|apply pw_below_drewN|apply below_drew1|refine below_set ?_ GE327.out)|exact HB.out)));(case side2=>exact HC326_1.out);rintro e w11 ⟨v329,rfl,ho0,hb⟩;refine ⟨_,rfl,?_⟩;have n0_:=Aside0.mk (Kd.S_elder' (by (with_reducible repeat (first|apply Kd.S_alloc|apply Kd.S_drewN|apply Kd.S_drew));exact (Kd.S_mono (Kd.S_far (p:=⟨gb327,1,none⟩) (Kd.S_far (p:=⟨gb327,0,none⟩) (Kd.S_mono HO_3.out (fun k_ hk=>(⟨hk,hk.2⟩ : _∧k_ ≠ gb327))) (fun _ hk=>hk.2) (.int .i64 ((rd_T59 l0 x9_1).f0))) (fun _ hk=>hk.2) (.slice A326_1 ((rd_T59 l0 x9_1).f1).length c326_1)) (fun _ h_=>h_.1))) (Kd.R_base ho0) hb);have n1_:=Aside0.mk (Kd.R_lower ho0 (below_size (by repeat (first|(with_reducible first|exact HB.out|apply below_alloc|apply pw_below_drewN|apply below_drew1|refine below_set ?_ GE327.out)|exact HB.out))));have n2_:=Aside0.mk (blk_below (g:=gb327) (o:=.cells #[.int .i64 ((rd_T59 l0 x9_1).f0),.slice A326_1 ((rd_T59 l0 x9_1).f1).length c326_1] 59 (0,0)) (by (with_reducible repeat first|apply blk_drewN|apply blk_drew|apply blk_alloc);refine blk_put (cs:=#[.int .i64 ((rd_T59 l0 x9_1).f0),.slice none 0 0]) ?_ 1 _ rfl;(with_reducible repeat first|apply blk_drewN|apply blk_drew|apply blk_alloc);refine blk_put (cs:=#[.int .i64 0,.slice none 0 0]) ?_ 0 _ rfl;(with_reducible repeat first|apply blk_drewN|apply blk_drew|apply blk_alloc);exact BK327.out) hb);have n3_:=Aside0.mk (below_step (by repeat (first|(with_reducible first|exact HB.out|apply below_alloc|apply pw_below_drewN|apply below_drew1|refine below_set ?_ GE327.out)|exact HB.out)) hb);clear HO_3;clear BK327;clear HB;have HO_3:=n0_;have HO330:=n1_;have BK327:=n2_;have HB:=n3_;clear n0_ n1_ n2_ n3_;(try clear hb);(try clear hb2);(try clear hk);(try clear hi);(try clear ho0);obtain ⟨Ao12,co12,eo12⟩:=Kd.R_slice HO330.out;subst eo12)|((with_reducible refine gate_builtin (b:=.append) (xs:=#[.tmp 14,.tmp 21]) rfl ?_);at_builtin;refine Kd.S_append k59 (w0:=w) w.heap.size rfl (.tmp 14) (.tmp 21) 27 59 (.agg #[(.int .i64 0),(.slice none 0 0)]) 32 rfl Try.underlying27 info59 rfl (by decide) (by omega) u3 x3_1 (⟨wrap64 (3 + x9_1),t328⟩ : S59) [.int .i64 (wrap64 (3 + x9_1)),.slice Ao12 t328.length co12] (fun k_=>k_ ≠ gb327) (fun k_=>some k_ = (.slice Ao12 t328.length co12 : Value).ownBlock) rfl rfl ?aP (fun k_ hk_=>((Kd.R_mono (ok':=fun k_=>((fun k_=>k_ ≠ gb327)) k_∧some k_ ≠ (u3 : Value).ownBlock) (Kd.R_types (Kd.R_apart' (HO330.out) (Kd.S_typed HO_3.out) (by decide)) BK327.out (by decide)) (fun k_ hk=>⟨hk.2,hk.1.2⟩))).1 k_ hk_.symm) ?aF ?aO ?aB ?aS ?aL ?_;(case aP=>exact k59_mkM _ _ _ (⟨wrap64 (3 + x9_1),t328⟩ : S59) (Kd.R_mono (Kd.R_tight rfl (Kd.R_mono (ok':=fun k_=>((fun k_=>k_ ≠ gb327)) k_∧some k_ ≠ (u3 : Value).ownBlock) (Kd.R_types (Kd.R_apart' (HO330.out) (Kd.S_typed HO_3.out) (by decide)) BK327.out (by decide)) (fun k_ hk=>⟨hk.2,hk.1.2⟩))) (fun _ h_=>h_)));(case aB=>exact (by repeat (first|(with_reducible first|exact HB.out|apply below_alloc|apply pw_below_drewN|apply below_drew1|refine below_set ?_ GE327.out)|exact HB.out)));(case aF=>exact (fun k_ hk=>Kd.freshB (g:=gb327) (o:=.cells #[.int .i64 ((rd_T59 l0 x9_1).f0),.slice A326_1 ((rd_T59 l0 x9_1).f1).length c326_1] 59 (0,0)) (by (with_reducible repeat first|apply blk_drewN|apply blk_drew|apply blk_alloc);exact BK327.out) k_ hk));(case aO=>exact (by (with_reducible repeat (first|apply Kd.S_alloc|apply Kd.S_drewN|apply Kd.S_drew));exact Kd.S_mono HO_3.out (fun k_ hk=>⟨hk.1.2,fun e_=>hk.2 e_⟩)));(case aS=>exact (below_size (by repeat (first|(with_reducible first|exact HB.out|apply below_alloc|apply pw_below_drewN|apply below_drew1|refine below_set ?_ GE327.out)|exact HB.out))));(case aL=>have:=LMc8.out;omega);intro v332 w13 ho hb hg hat;rw [← Ny331.out] at ho;have n0_:=Aside0.mk (blk_grown (g:=gb327) (o:=.cells #[.int .i64 ((rd_T59 l0 x9_1).f0),.slice A326_1 ((rd_T59 l0 x9_1).f1).length c326_1] 59 (0,0)) (by (with_reducible repeat first|apply blk_drewN|apply blk_drew|apply blk_alloc);exact BK327.out) hg (Kd.S_away HO_3.out (fun _ hk=>hk.1.2)));have n1_:=Aside0.mk (hb);have n2_:=Aside0.mk (ho);clear BK327;clear HB;clear HO_3;clear HO330;have BK327:=n0_;have HB:=n1_;have HO333:=n2_;clear n0_ n1_ n2_;clear ho hb hg hat))
       go_roundg k1
       case measure=>have:=HK1.out;omega
       case rel=>exact ⟨(y331),(wrap64 (x9_1 + 1)),(by first|rfl|(simp;done)|(simp [*];done)),H',⟨by have:=HK1.out;omega⟩,⟨by (with_reducible repeat (first|apply Kd.S_alloc|apply Kd.S_drewN|apply Kd.S_drew));exact Kd.S_mono HO333.out (fun _ hk=>trivial)⟩,⟨by repeat (first|(with_reducible first|exact HB.out|apply below_alloc|apply pw_below_drewN|apply below_drew1|refine below_set ?_ GE327.out)|exact HB.out)⟩⟩
      ·rw [if_neg c8] at H
       exact absurd H (by simp)
     ·rw [if_neg c6] at H
      exact absurd H (by simp)
    ·rw [if_neg c5] at H
     exact absurd H (by simp)
   ·rw [if_neg c4] at H
    have c4b0 : decide (x9_1 < (l0.length : Int)) = false:=decide_eq_false c4
    clear c4
    replace H:=Option.bind_eq_some_iff.mp H
    obtain ⟨t334,A140,H⟩:=H
    replace H : (if x3_1.length < 4398046511104 then ((some (x3_1 ++ [(⟨2,t334⟩ : S59)] : List (S59))).bind fun y337=>((impl_home.f k1 l0).bind fun t340=>(if y337.length + t340.length < 4398046511104 then (some (y337 ++ t340)) else (none)))) else (none)) = some r:=H
    have A14:=Aside0.mk A140
    clear A140
    by_cases c15 : x3_1.length < 4398046511104
    ·rw [if_pos c15] at H
     have LMc15:=Aside0.mk c15
     clear c15
     obtain ⟨y337,hy337⟩ : ∃ y_ : List (S59),y_ = (x3_1 ++ [(⟨2,t334⟩ : S59)]):=⟨_,rfl⟩
     replace H : ((impl_home.f k1 l0).bind fun t340=>(if y337.length + t340.length < 4398046511104 then (some (y337 ++ t340)) else (none))) = some r:=by first|(rw [hy337];with_reducible exact H)|(have H2_:=(Option.bind_some _ _).symm.trans H;rw [hy337];with_reducible exact H2_)|(have H2_:=(Option.bind_some _ _).symm.trans H;with_reducible exact H2_)|with_reducible exact H|(rw [hy337];exact H)|exact H
     have Ny337:=Aside0.mk hy337
     clear hy337
     replace H:=Option.bind_eq_some_iff.mp H
     obtain ⟨t340,A160,H⟩:=H
     replace H : (if y337.length + t340.length < 4398046511104 then (some (y337 ++ t340)) else (none)) = some r:=H
     have A16:=Aside0.mk A160
     clear A160
     by_cases c17 : y337.length + t340.length < 4398046511104
     ·rw [if_pos c17] at H
      have LMc17:=Aside0.mk c17
      clear c17
      obtain ⟨y346,hy346⟩ : ∃ y_ : List (S59),y_ = (y337 ++ t340):=⟨_,rfl⟩
      replace H : (some y346) = some r:=by first|(rw [hy346];with_reducible exact H)|(have H2_:=(Option.bind_some _ _).symm.trans H;rw [hy346];with_reducible exact H2_)|(have H2_:=(Option.bind_some _ _).symm.trans H;with_reducible exact H2_)|with_reducible exact H|(rw [hy346];exact H)|exact H
      have Ny346:=Aside0.mk hy346
      clear hy346
      obtain rfl:=Option.some.inj H
      go_wp2_with (first|((with_reducible refine gate_callee (f:=44) rfl ?_);refine goesL_ (some 26) rfl rfl Try.func44 (by kernel_rfl) rfl #[.slice A0 l0.length c0] rfl (by (try simp only [List.map_toArray,List.map_cons,List.map_nil]);first|done|rfl|(simp only [List.length_drop,List.length_take];rfl)) ?_;(with_reducible refine (impl_header.calls k1 _ _ l0 t334 _ ?side1 ?side2 A14.out).mono ?_);(case side1=>repeat (first|exact (Kd.C_below HR0.out HB.out)|(with_reducible first|apply Kd.C_alloc|apply Kd.C_drewN|apply Kd.C_drew)));(case side2=>exact HC0.out);rintro e w18 ⟨v335,rfl,ho0,hb⟩;refine ⟨_,rfl,?_⟩;have n0_:=Aside0.mk (Kd.S_elder' (by (with_reducible repeat (first|apply Kd.S_alloc|apply Kd.S_drewN|apply Kd.S_drew));exact HO_3.out) (Kd.R_base ho0) hb);have n1_:=Aside0.mk (Kd.R_lower ho0 (below_size (by repeat (first|exact HB.out|apply below_alloc|apply pw_below_drewN|apply below_drew1))));have n2_:=Aside0.mk (below_step (by repeat (first|exact HB.out|apply below_alloc|apply pw_below_drewN|apply below_drew1)) hb);clear HO_3;clear HB;have HO_3:=n0_;have HO336:=n1_;have HB:=n2_;clear n0_ n1_ n2_;(try clear hb);(try clear hb2);(try clear hk);(try clear hi);(try clear ho0);obtain ⟨Ao19,co19,eo19⟩:=Kd.R_slice HO336.out;subst eo19)|((with_reducible refine gate_builtin (b:=.append) (xs:=#[.tmp 24,.tmp 28]) rfl ?_);at_builtin;refine Kd.S_append k59 (w0:=w) w.heap.size rfl (.tmp 24) (.tmp 28) 27 59 (.agg #[(.int .i64 0),(.slice none 0 0)]) 32 rfl Try.underlying27 info59 rfl (by decide) (by omega) u3 x3_1 (⟨2,t334⟩ : S59) [.int .i64 2,.slice Ao19 t334.length co19] (fun _=>True) (fun k_=>some k_ = (.slice Ao19 t334.length co19 : Value).ownBlock) rfl rfl ?aP (fun k_ hk_=>((Kd.R_mono (ok':=fun k_=>((fun _=>True)) k_∧some k_ ≠ (u3 : Value).ownBlock) (Kd.R_apart' (HO336.out) (Kd.S_typed HO_3.out) (by decide)) (fun k_ hk=>⟨trivial,hk.2⟩))).1 k_ hk_.symm) ?aF ?aO ?aB ?aS ?aL ?_;(case aP=>exact k59_mkM _ _ _ (⟨2,t334⟩ : S59) (Kd.R_mono (Kd.R_tight rfl (Kd.R_mono (ok':=fun k_=>((fun _=>True)) k_∧some k_ ≠ (u3 : Value).ownBlock) (Kd.R_apart' (HO336.out) (Kd.S_typed HO_3.out) (by decide)) (fun k_ hk=>⟨trivial,hk.2⟩))) (fun _ h_=>h_)));(case aB=>exact (by repeat (first|exact HB.out|apply below_alloc|apply pw_below_drewN|apply below_drew1)));(case aF=>exact (fun _ _=>trivial));(case aO=>exact (by (with_reducible repeat (first|apply Kd.S_alloc|apply Kd.S_drewN|apply Kd.S_drew));exact Kd.S_mono HO_3.out (fun k_ hk=>⟨trivial,fun e_=>hk.2 e_⟩)));(case aS=>exact (below_size (by repeat (first|exact HB.out|apply below_alloc|apply pw_below_drewN|apply below_drew1))));(case aL=>have:=LMc15.out;omega);intro v338 w20 ho hb hg hat;rw [← Ny337.out] at ho;have n0_:=Aside0.mk (hb);have n1_:=Aside0.mk (ho);clear HB;clear HO_3;clear HO336;have HB:=n0_;have HO339:=n1_;clear n0_ n1_;clear ho hb hg hat)|((with_reducible refine gate_callee (f:=62) rfl ?_);refine goesL_ (some 31) rfl rfl Try.func62 (by kernel_rfl) rfl #[.slice A0 l0.length c0] rfl (by (try simp only [List.map_toArray,List.map_cons,List.map_nil]);first|done|rfl|(simp only [List.length_drop,List.length_take];rfl)) ?_;(with_reducible refine (impl_home.calls k1 _ _ l0 t340 _ ?side1 ?side2 A16.out).mono ?_);(case side1=>repeat (first|exact (Kd.C_below HR0.out HB.out)|(with_reducible first|apply Kd.C_alloc|apply Kd.C_drewN|apply Kd.C_drew)));(case side2=>exact HC0.out);rintro e w21 ⟨v341,rfl,ho0,hb⟩;refine ⟨_,rfl,?_⟩;have n0_:=Aside0.mk (Kd.S_told (Kd.S_old (by (with_reducible repeat (first|apply Kd.S_alloc|apply Kd.S_drewN|apply Kd.S_drew));exact HO339.out) hb) (Kd.S_base ho0));have n1_:=Aside0.mk (Kd.S_lower (Kd.S_new' (Kd.S_mono (Kd.S_bound ho0) (fun k_ h_=>(⟨h_.1,(by first|exact h_.2.1|simpa only [World.size_setCell] using h_.2.1)⟩ : _∧w20.heap.size ≤ k_))) (Kd.S_lt (by (with_reducible repeat (first|apply Kd.S_alloc|apply Kd.S_drewN|apply Kd.S_drew));exact HO339.out))) (below_size (by repeat (first|exact HB.out|apply below_alloc|apply pw_below_drewN|apply below_drew1))));have n2_:=Aside0.mk (below_step (by repeat (first|exact HB.out|apply below_alloc|apply pw_below_drewN|apply below_drew1)) hb);clear HO339;clear HB;have HO339:=n0_;have HO342:=n1_;have HB:=n2_;clear n0_ n1_ n2_;(try clear hb);(try clear hb2);(try clear hk);(try clear hi);(try clear ho0);obtain ⟨Ao23,co23,eo23⟩:=Kd.S_slice HO342.out;subst eo23)|((with_reducible refine gate_builtin (b:=.append) (xs:=#[.tmp 29,.tmp 31]) rfl ?_);at_builtin;refine S_append_rows k59 (w0:=w) w.heap.size rfl (.tmp 29) (.tmp 31) 27 59 (.agg #[(.int .i64 0),(.slice none 0 0)]) 32 rfl Try.underlying27 info59 rfl (by decide) (by omega) v338 (.slice Ao23 t340.length co23) y337 t340 (fun _=>True) (SB_ k59 59 w21 w.heap.size (fun k_=>((True∧w20.heap.size ≤ k_)∧some k_ ≠ (v338 : Value).ownBlock))) rfl rfl ?aO ?aU ?aP ?aF ?aB ?aS ?aL ?_;(case aU=>exact SB_own HO342.out);(case aP=>exact fun k_ hk=>⟨trivial,hk.1.2⟩);(case aB=>exact (by repeat (first|exact HB.out|apply below_alloc|apply pw_below_drewN|apply below_drew1)));(case aF=>exact (fun _ _=>trivial));(case aO=>exact ((Kd.S_mono (ok':=fun k_=>((fun _=>True)) k_∧¬ SB_ k59 59 w21 w.heap.size (fun k_=>((True∧w20.heap.size ≤ k_)∧some k_ ≠ (v338 : Value).ownBlock)) k_) HO339.out (fun k_ hk=>⟨trivial,fun h2_=>absurd (hk.2) (Nat.not_lt.2 (h2_.1.1.2))⟩))));(case aS=>exact (below_size (by repeat (first|exact HB.out|apply below_alloc|apply pw_below_drewN|apply below_drew1))));(case aL=>have:=LMc17.out;omega);intro v347 w22 ho hb hg hat;rw [← Ny346.out] at ho;have n0_:=Aside0.mk (hb);have n1_:=Aside0.mk (ho);clear HB;clear HO339;clear HO342;have HB:=n0_;have HO348:=n1_;clear n0_ n1_;clear ho hb hg hat))
      go_ret
      exact ⟨_,by first|rfl|(simp [*,errW_none,errW_some] <;> rfl),by (with_reducible repeat (first|apply Kd.S_alloc|apply Kd.S_drewN|apply Kd.S_drew));exact HO348.out,by repeat (first|exact HB.out|apply below_alloc|apply pw_below_drewN|apply below_drew1)⟩
     ·rw [if_neg c17] at H
      exact absurd H (by simp)
    ·rw [if_neg c15] at H
     exact absurd H (by simp)

/-! ### impl_PlanOf: function 27 -/
def impl_PlanOf.f (k : Nat) (l0_0 : List (List Int)) (a0_1 : Int) (a0_2 : Bool) (a0_3 : Int) (l1 : List (S59)) : Option ((List (S59)) × Bool):=(impl_GoodGroup.f k l0_0 a0_1 a0_2 a0_3 l1).bind fun t350=>(if t350 = true then ((impl_plan.f k l1).bind fun t351=>(some (t351,true))) else (some (([] : List (S59)),false)))
theorem impl_PlanOf.mono : ∀ a0 a1 a2 a3 a4 k,LeO (impl_PlanOf.f k a0 a1 a2 a3 a4) (impl_PlanOf.f (k + 1) a0 a1 a2 a3 a4):=by
 intro a0 a1 a2 a3 a4 k
 unfold impl_PlanOf.f
 repeat' first
   | (with_reducible exact impl_GoodGroup.mono _ _ _ _ _ _)
   | (with_reducible exact impl_plan.mono _ _)
   | (with_reducible exact LeO.refl _)
   | (with_reducible exact LeO.none _)
   | (with_reducible refine LeO.ite ?_ ?_)
   | (with_reducible refine LeO.bind ?_ (fun _=>?_))
   | exact impl_GoodGroup.mono _ _ _ _ _ _
   | exact impl_plan.mono _ _
   | exact LeO.none _
   | refine LeO.ite ?_ ?_
   | refine LeO.bind ?_ (fun _=>?_)
set_option maxHeartbeats 8000000 in
set_option maxRecDepth 100000 in
theorem impl_PlanOf.calls (k : Nat) (A0_0 : Option Addr) (c0_0 : Nat) (l0_0 : List (List Int)) (a0_1 : Int) (a0_2 : Bool) (a0_3 : Int) (A1 : Option Addr) (c1 : Nat) (l1 : List (S59)) (r1 : List (S59)) (r2 : Bool) (w : World) (hr0_0 : Kd.C (Kd.slice 5 (Kd.int .u8)) w A0_0 l0_0.length l0_0) (hc0_0 : l0_0.length ≤ c0_0) (hr1 : Kd.C k59 w A1 l1.length l1) (hc1 : l1.length ≤ c1) (h : impl_PlanOf.f k l0_0 a0_1 a0_2 a0_3 l1 = some (r1,r2)) :
  Calls Try.prog 27 #[.agg #[.slice A0_0 l0_0.length c0_0,.int .i64 a0_1,.bool a0_2,.int .i64 a0_3],.slice A1 l1.length c1] w fun e w'=>∃ v0_ : Value,e = .returned (.tuple #[v0_,.bool r2])∧Kd.S k59 59 w' w.heap.size (fun _=>True) v0_ r1∧Below w.heap.size w w':=by
 have hu39:=Try.underlying39
 have HR0_0:=Aside0.mk hr0_0
 have HC0_0:=Aside0.mk hc0_0
 clear hr0_0 hc0_0
 have HR1:=Aside0.mk hr1
 have HC1:=Aside0.mk hc1
 clear hr1 hc1
 have HB:=Aside0.mk (Below.refl w.heap.size w)
 have H : ((impl_GoodGroup.f k l0_0 a0_1 a0_2 a0_3 l1).bind fun t350=>(if t350 = true then ((impl_plan.f k l1).bind fun t351=>(some (t351,true))) else (some (([] : List (S59)),false)))) = some (r1,r2):=h
 clear h
 replace H:=Option.bind_eq_some_iff.mp H
 obtain ⟨t350,A30,H⟩:=H
 replace H : (if t350 = true then ((impl_plan.f k l1).bind fun t351=>(some (t351,true))) else (some (([] : List (S59)),false))) = some (r1,r2):=H
 have A3:=Aside0.mk A30
 clear A30
 by_cases c4 : t350 = true
 ·subst c4
  have H1 : ((impl_plan.f k l1).bind fun t351=>(some (t351,true))) = some (r1,r2):=by rw [if_pos rfl] at H;exact H
  clear H
  have H:=H1
  clear H1
  replace H:=Option.bind_eq_some_iff.mp H
  obtain ⟨t351,A50,H⟩:=H
  replace H : (some (t351,true)) = some (r1,r2):=H
  have A5:=Aside0.mk A50
  clear A50
  simp only [Option.some.injEq,Prod.mk.injEq] at H
  obtain ⟨rfl,rfl⟩:=H
  go_enter Try.func27,Try.ntmps27
  go_wp2_with (first|((with_reducible refine gate_dst (N:=2) rfl ?_);refine box_event ?hg (N:=2) ?hd (cs:=#[.slice A0_0 l0_0.length c0_0,.int .i64 a0_1,.bool a0_2,.int .i64 a0_3]) (t:=39) ?hr ?_;(case hd=>rfl);(case hg=>rfl);(case hr=>first|(go_simp;done)|(go_simp;rfl));intro gb349 hg w6 hbox hb;have n0_:=Aside0.mk (below_step (by repeat (first|exact HB.out|apply below_alloc|apply pw_below_drewN|apply below_drew1)) hb);have n1_:=Aside0.mk (hbox);have n2_:=Aside0.mk ((by rw [hg];exact (below_size (by repeat (first|exact HB.out|apply below_alloc|apply pw_below_drewN|apply below_drew1))) : w.heap.size ≤ gb349));have n3_:=Aside0.mk ((by rw [hg];exact (below_size (by repeat (first|exact HB.out|apply below_alloc|apply pw_below_drewN|apply below_drew1))) : w.heap.size ≤ gb349));clear HB;have HB:=n0_;have BK349:=n1_;have GW349:=n2_;have GE349:=n3_;clear n0_ n1_ n2_ n3_;clear hb hbox hg;have hcz7_0 : w6.cell? ⟨gb349,0,none⟩ = some (.slice A0_0 l0_0.length c0_0):=(blk_cell BK349.out 0).trans rfl;have hcz7_1 : w6.cell? ⟨gb349,1,none⟩ = some (.int .i64 a0_1):=(blk_cell BK349.out 1).trans rfl;have hcz7_2 : w6.cell? ⟨gb349,2,none⟩ = some (.bool a0_2):=(blk_cell BK349.out 2).trans rfl;have hcz7_3 : w6.cell? ⟨gb349,3,none⟩ = some (.int .i64 a0_3):=(blk_cell BK349.out 3).trans rfl;have hfz7_0:=blk_frozen BK349.out 0;have hfz7_1:=blk_frozen BK349.out 1;have hfz7_2:=blk_frozen BK349.out 2;have hfz7_3:=blk_frozen BK349.out 3)|((with_reducible refine gate_callee (f:=22) rfl ?_);refine goesL_ (some 8) rfl rfl Try.func22 (by kernel_rfl) rfl #[.agg #[.slice A0_0 l0_0.length c0_0,.int .i64 a0_1,.bool a0_2,.int .i64 a0_3],.slice A1 l1.length c1] rfl (by (try simp only [List.map_toArray,List.map_cons,List.map_nil]);first|done|rfl|(simp only [List.length_drop,List.length_take];rfl)) ?_;(with_reducible refine (impl_GoodGroup.calls k _ _ l0_0 a0_1 a0_2 a0_3 _ _ l1 true _ ?side1 ?side2 ?side3 ?side4 A3.out).mono ?_);(case side1=>repeat (first|exact (Kd.C_below HR0_0.out HB.out)|(with_reducible first|apply Kd.C_alloc|apply Kd.C_drewN|apply Kd.C_drew)));(case side2=>exact HC0_0.out);(case side3=>repeat (first|exact (Kd.C_below HR1.out HB.out)|(with_reducible first|apply Kd.C_alloc|apply Kd.C_drewN|apply Kd.C_drew)));(case side4=>exact HC1.out);rintro e w8 ⟨rfl,hb⟩;refine ⟨_,rfl,?_⟩;have n0_:=Aside0.mk (blk_below (g:=gb349) (o:=.cells #[.slice A0_0 l0_0.length c0_0,.int .i64 a0_1,.bool a0_2,.int .i64 a0_3] 39 (0,0)) (by (with_reducible repeat first|apply blk_drewN|apply blk_drew|apply blk_alloc);exact BK349.out) hb);have n1_:=Aside0.mk (below_step (by repeat (first|(with_reducible first|exact HB.out|apply below_alloc|apply pw_below_drewN|apply below_drew1|refine below_set ?_ GE349.out)|exact HB.out)) hb);clear BK349;clear HB;have BK349:=n0_;have HB:=n1_;clear n0_ n1_;(try clear hb);(try clear hb2);(try clear hk);(try clear hi))|((with_reducible refine gate_callee (f:=55) rfl ?_);refine goesL_ (some 11) rfl rfl Try.func55 (by kernel_rfl) rfl #[.slice A1 l1.length c1] rfl (by (try simp only [List.map_toArray,List.map_cons,List.map_nil]);first|done|rfl|(simp only [List.length_drop,List.length_take];rfl)) ?_;(with_reducible refine (impl_plan.calls k _ _ l1 t351 _ ?side1 ?side2 A5.out).mono ?_);(case side1=>repeat (first|exact (Kd.C_below HR1.out HB.out)|(with_reducible first|apply Kd.C_alloc|apply Kd.C_drewN|apply Kd.C_drew)));(case side2=>exact HC1.out);rintro e w9 ⟨v352,rfl,ho0,hb⟩;refine ⟨_,rfl,?_⟩;have n0_:=Aside0.mk (Kd.S_lower ho0 (below_size (by repeat (first|(with_reducible first|exact HB.out|apply below_alloc|apply pw_below_drewN|apply below_drew1|refine below_set ?_ GE349.out)|exact HB.out))));have n1_:=Aside0.mk (blk_below (g:=gb349) (o:=.cells #[.slice A0_0 l0_0.length c0_0,.int .i64 a0_1,.bool a0_2,.int .i64 a0_3] 39 (0,0)) (by (with_reducible repeat first|apply blk_drewN|apply blk_drew|apply blk_alloc);exact BK349.out) hb);have n2_:=Aside0.mk (below_step (by repeat (first|(with_reducible first|exact HB.out|apply below_alloc|apply pw_below_drewN|apply below_drew1|refine below_set ?_ GE349.out)|exact HB.out)) hb);clear BK349;clear HB;have HO353:=n0_;have BK349:=n1_;have HB:=n2_;clear n0_ n1_ n2_;(try clear hb);(try clear hb2);(try clear hk);(try clear hi);(try clear ho0)))
  go_ret2
  exact ⟨_,by first|rfl|(simp [*,errW_none,errW_some] <;> rfl),by (with_reducible repeat (first|apply Kd.S_alloc|apply Kd.S_drewN|apply Kd.S_drew));exact HO353.out,by repeat (first|(with_reducible first|exact HB.out|apply below_alloc|apply pw_below_drewN|apply below_drew1|refine below_set ?_ GE349.out)|exact HB.out)⟩
 ·replace c4:=Bool.eq_false_iff.mpr c4
  subst c4
  have H1 : (some (([] : List (S59)),false)) = some (r1,r2):=by rw [if_neg (show ¬ (false = true) by decide)] at H;exact H
  clear H
  have H:=H1
  clear H1
  simp only [Option.some.injEq,Prod.mk.injEq] at H
  obtain ⟨rfl,rfl⟩:=H
  go_enter Try.func27,Try.ntmps27
  go_wp2_with (first|((with_reducible refine gate_dst (N:=2) rfl ?_);refine box_event ?hg (N:=2) ?hd (cs:=#[.slice A0_0 l0_0.length c0_0,.int .i64 a0_1,.bool a0_2,.int .i64 a0_3]) (t:=39) ?hr ?_;(case hd=>rfl);(case hg=>rfl);(case hr=>first|(go_simp;done)|(go_simp;rfl));intro gb349 hg w10 hbox hb;have n0_:=Aside0.mk (below_step (by repeat (first|exact HB.out|apply below_alloc|apply pw_below_drewN|apply below_drew1)) hb);have n1_:=Aside0.mk (hbox);have n2_:=Aside0.mk ((by rw [hg];exact (below_size (by repeat (first|exact HB.out|apply below_alloc|apply pw_below_drewN|apply below_drew1))) : w.heap.size ≤ gb349));have n3_:=Aside0.mk ((by rw [hg];exact (below_size (by repeat (first|exact HB.out|apply below_alloc|apply pw_below_drewN|apply below_drew1))) : w.heap.size ≤ gb349));clear HB;have HB:=n0_;have BK349:=n1_;have GW349:=n2_;have GE349:=n3_;clear n0_ n1_ n2_ n3_;clear hb hbox hg;have hcz11_0 : w10.cell? ⟨gb349,0,none⟩ = some (.slice A0_0 l0_0.length c0_0):=(blk_cell BK349.out 0).trans rfl;have hcz11_1 : w10.cell? ⟨gb349,1,none⟩ = some (.int .i64 a0_1):=(blk_cell BK349.out 1).trans rfl;have hcz11_2 : w10.cell? ⟨gb349,2,none⟩ = some (.bool a0_2):=(blk_cell BK349.out 2).trans rfl;have hcz11_3 : w10.cell? ⟨gb349,3,none⟩ = some (.int .i64 a0_3):=(blk_cell BK349.out 3).trans rfl;have hfz11_0:=blk_frozen BK349.out 0;have hfz11_1:=blk_frozen BK349.out 1;have hfz11_2:=blk_frozen BK349.out 2;have hfz11_3:=blk_frozen BK349.out 3)|((with_reducible refine gate_callee (f:=22) rfl ?_);refine goesL_ (some 8) rfl rfl Try.func22 (by kernel_rfl) rfl #[.agg #[.slice A0_0 l0_0.length c0_0,.int .i64 a0_1,.bool a0_2,.int .i64 a0_3],.slice A1 l1.length c1] rfl (by (try simp only [List.map_toArray,List.map_cons,List.map_nil]);first|done|rfl|(simp only [List.length_drop,List.length_take];rfl)) ?_;(with_reducible refine (impl_GoodGroup.calls k _ _ l0_0 a0_1 a0_2 a0_3 _ _ l1 false _ ?side1 ?side2 ?side3 ?side4 A3.out).mono ?_);(case side1=>repeat (first|exact (Kd.C_below HR0_0.out HB.out)|(with_reducible first|apply Kd.C_alloc|apply Kd.C_drewN|apply Kd.C_drew)));(case side2=>exact HC0_0.out);(case side3=>repeat (first|exact (Kd.C_below HR1.out HB.out)|(with_reducible first|apply Kd.C_alloc|apply Kd.C_drewN|apply Kd.C_drew)));(case side4=>exact HC1.out);rintro e w12 ⟨rfl,hb⟩;refine ⟨_,rfl,?_⟩;have n0_:=Aside0.mk (blk_below (g:=gb349) (o:=.cells #[.slice A0_0 l0_0.length c0_0,.int .i64 a0_1,.bool a0_2,.int .i64 a0_3] 39 (0,0)) (by (with_reducible repeat first|apply blk_drewN|apply blk_drew|apply blk_alloc);exact BK349.out) hb);have n1_:=Aside0.mk (below_step (by repeat (first|(with_reducible first|exact HB.out|apply below_alloc|apply pw_below_drewN|apply below_drew1|refine below_set ?_ GE349.out)|exact HB.out)) hb);clear BK349;clear HB;have BK349:=n0_;have HB:=n1_;clear n0_ n1_;(try clear hb);(try clear hb2);(try clear hk);(try clear hi)))
  go_ret2
  exact ⟨_,by first|rfl|(simp [*,errW_none,errW_some] <;> rfl),by first|exact Kd.S_nil _ _ _ _ _|exact Kd.N_nil _ _ _ _ _|exact Kd.V_nil _ _ _ _ _|exact Kd.Q_nil _ _ _ _ _|exact Kd.R_nil _ _ _ _ _,by repeat (first|(with_reducible first|exact HB.out|apply below_alloc|apply pw_below_drewN|apply below_drew1|refine below_set ?_ GE349.out)|exact HB.out)⟩

end Go.Proofs.Ytfjboeeogjepeaa.PFnExactPlanOf
