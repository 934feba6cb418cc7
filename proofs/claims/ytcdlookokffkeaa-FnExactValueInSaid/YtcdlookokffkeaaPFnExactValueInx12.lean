-- Written by a program of this session over the print of the kit (wip/t/patch_print.py).
import Derived.Test.YtcdlookokffkeaaPFnExactValueInx0
import Derived.Test.YtcdlookokffkeaaPFnExactValueInx1
import Derived.Test.YtcdlookokffkeaaPFnExactValueInx2
import Derived.Test.YtcdlookokffkeaaPFnExactValueInx8
import Derived.Test.YtcdlookokffkeaaPFnExactValueInx9
import Derived.Test.YtcdlookokffkeaaPFnExactValueInx11
namespace Go.Proofs.Ytcdlookokffkeaa.PFnExactValueIn
open Go.RowKit Go.Proofs.YtcdlookokffkeaaW.PrintWords Go.Proofs.YtcdlookokffkeaaW.PrintLast Go.Proofs.YtcdlookokffkeaaW.PrintMore
attribute [local go_sem] max2_int min2_int max_two min_two max_three min_three max_four min_four   -- for this text's walks alone
set_option linter.unusedVariables false
set_option linter.unusedSimpArgs false

/-! ### impl_treeOf: function 38 -/
def impl_treeOf.f (k : Nat) (l0_0 : List (List Int)) (l0_1 : List Int) (l0_2 : List Int) (l0_3 : List Int) (a1 : Int) : Option (Int × List Int × (List (List Int)) × Bool):=(impl_GoodSpace.f k l0_0 l0_1 l0_2 l0_3).bind fun t320=>(if t320 = true then ((impl_Space_tree.f k l0_0 l0_1 l0_2 l0_3 a1).bind fun bt321=>(some (bt321.1,bt321.2.1,bt321.2.2.1,bt321.2.2.2))) else (some (0,([] : List Int),([] : List (List Int)),false)))
theorem impl_treeOf.mono : ∀ a0 a1 a2 a3 a4 k,LeO (impl_treeOf.f k a0 a1 a2 a3 a4) (impl_treeOf.f (k + 1) a0 a1 a2 a3 a4):=by
 intro a0 a1 a2 a3 a4 k
 unfold impl_treeOf.f
 repeat' first
   | (with_reducible exact impl_GoodSpace.mono _ _ _ _ _)
   | (with_reducible exact impl_Space_tree.mono _ _ _ _ _ _)
   | (with_reducible exact LeO.refl _)
   | (with_reducible exact LeO.none _)
   | (with_reducible refine LeO.ite ?_ ?_)
   | (with_reducible refine LeO.bind ?_ (fun _=>?_))
   | exact impl_GoodSpace.mono _ _ _ _ _
   | exact impl_Space_tree.mono _ _ _ _ _ _
   | exact LeO.none _
   | refine LeO.ite ?_ ?_
   | refine LeO.bind ?_ (fun _=>?_)
set_option maxHeartbeats 8000000 in
set_option maxRecDepth 100000 in
theorem impl_treeOf.calls (k : Nat) (A0_0 : Option Addr) (c0_0 : Nat) (l0_0 : List (List Int)) (A0_1 : Option Addr) (c0_1 : Nat) (l0_1 : List Int) (A0_2 : Option Addr) (c0_2 : Nat) (l0_2 : List Int) (A0_3 : Option Addr) (c0_3 : Nat) (l0_3 : List Int) (a1 : Int) (r1 : Int) (r2 : List Int) (r3 : List (List Int)) (r4 : Bool) (w : World) (hr0_0 : Kd.C (Kd.slice 5 (Kd.int .u8)) w A0_0 l0_0.length l0_0) (hc0_0 : l0_0.length ≤ c0_0) (hr0_1 : Kd.C (Kd.int .u8) w A0_1 l0_1.length l0_1) (hc0_1 : l0_1.length ≤ c0_1) (hr0_2 : Kd.C (Kd.int .i64) w A0_2 l0_2.length l0_2) (hc0_2 : l0_2.length ≤ c0_2) (hr0_3 : Kd.C (Kd.int .i64) w A0_3 l0_3.length l0_3) (hc0_3 : l0_3.length ≤ c0_3) (h : impl_treeOf.f k l0_0 l0_1 l0_2 l0_3 a1 = some (r1,r2,r3,r4)) :
  Calls Try.prog 38 #[.agg #[.slice A0_0 l0_0.length c0_0,.slice A0_1 l0_1.length c0_1,.slice A0_2 l0_2.length c0_2,.slice A0_3 l0_3.length c0_3],.int .i64 a1] w fun e w'=>∃ v1_ v2_ : Value,e = .returned (.tuple #[.agg #[.int .i64 r1,v1_,v2_],.bool r4])∧Kd.R (Kd.int .i64) 3 w' w.heap.size (fun _=>True) v1_ r2∧Kd.S (Kd.slice 3 (Kd.int .i64)) 24 w' w.heap.size (fun k_=>some k_ ≠ (v1_ : Value).ownBlock) v2_ r3∧Below w.heap.size w w':=by
 have hu30:=Try.underlying30
 have hu61:=Try.underlying61
 have HR0_0:=Aside0.mk hr0_0
 have HC0_0:=Aside0.mk hc0_0
 clear hr0_0 hc0_0
 have HR0_1:=Aside0.mk hr0_1
 have HC0_1:=Aside0.mk hc0_1
 clear hr0_1 hc0_1
 have HR0_2:=Aside0.mk hr0_2
 have HC0_2:=Aside0.mk hc0_2
 clear hr0_2 hc0_2
 have HR0_3:=Aside0.mk hr0_3
 have HC0_3:=Aside0.mk hc0_3
 clear hr0_3 hc0_3
 have HB:=Aside0.mk (Below.refl w.heap.size w)
 have H : ((impl_GoodSpace.f k l0_0 l0_1 l0_2 l0_3).bind fun t320=>(if t320 = true then ((impl_Space_tree.f k l0_0 l0_1 l0_2 l0_3 a1).bind fun bt321=>(some (bt321.1,bt321.2.1,bt321.2.2.1,bt321.2.2.2))) else (some (0,([] : List Int),([] : List (List Int)),false)))) = some (r1,r2,r3,r4):=h
 clear h
 replace H:=Option.bind_eq_some_iff.mp H
 obtain ⟨t320,A30,H⟩:=H
 replace H : (if t320 = true then ((impl_Space_tree.f k l0_0 l0_1 l0_2 l0_3 a1).bind fun bt321=>(some (bt321.1,bt321.2.1,bt321.2.2.1,bt321.2.2.2))) else (some (0,([] : List Int),([] : List (List Int)),false))) = some (r1,r2,r3,r4):=H
 have A3:=Aside0.mk A30
 clear A30
 by_cases c4 : t320 = true
 ·subst c4
  have H1 : ((impl_Space_tree.f k l0_0 l0_1 l0_2 l0_3 a1).bind fun bt321=>(some (bt321.1,bt321.2.1,bt321.2.2.1,bt321.2.2.2))) = some (r1,r2,r3,r4):=by rw [if_pos rfl] at H;exact H
  clear H
  have H:=H1
  clear H1
  replace H:=Option.bind_eq_some_iff.mp H
  obtain ⟨⟨t321,t322,t325,t328⟩,A50,H⟩:=H
  replace H : (some (t321,t322,t325,t328)) = some (r1,r2,r3,r4):=H
  have A5:=Aside0.mk A50
  clear A50
  simp only [Option.some.injEq,Prod.mk.injEq] at H
  obtain ⟨rfl,rfl,rfl,rfl⟩:=H
  go_enter Try.func38,Try.ntmps38
  go_wp2_with (first|((with_reducible refine gate_dst (N:=2) rfl ?_);refine box_event ?hg (N:=2) ?hd (cs:=#[.slice A0_0 l0_0.length c0_0,.slice A0_1 l0_1.length c0_1,.slice A0_2 l0_2.length c0_2,.slice A0_3 l0_3.length c0_3]) (t:=30) ?hr ?_;(case hd=>rfl);(case hg=>rfl);(case hr=>first|(go_simp;done)|(go_simp;rfl));intro gb318 hg w6 hbox hb;have n0_:=Aside0.mk (below_step (by repeat (first|exact HB.out|apply below_alloc|apply pw_below_drewN|apply below_drew1)) hb);have n1_:=Aside0.mk (hbox);have n2_:=Aside0.mk ((by rw [hg];exact (below_size (by repeat (first|exact HB.out|apply below_alloc|apply pw_below_drewN|apply below_drew1))) : w.heap.size ≤ gb318));have n3_:=Aside0.mk ((by rw [hg];exact (below_size (by repeat (first|exact HB.out|apply below_alloc|apply pw_below_drewN|apply below_drew1))) : w.heap.size ≤ gb318));clear HB;have HB:=n0_;have BK318:=n1_;have GW318:=n2_;have GE318:=n3_;clear n0_ n1_ n2_ n3_;clear hb hbox hg)|((with_reducible refine gate_dst (N:=4) rfl ?_);refine box_event ?hg (N:=4) ?hd (cs:=#[.int .i64 0,.slice none 0 0,.slice none 0 0]) (t:=61) ?hr ?_;(case hd=>rfl);(case hg=>rfl);(case hr=>first|(go_simp;done)|(go_simp;rfl));intro gb319 hg w7 hbox hb;have n0_:=Aside0.mk (blk_below (g:=gb318) (o:=.cells #[.slice A0_0 l0_0.length c0_0,.slice A0_1 l0_1.length c0_1,.slice A0_2 l0_2.length c0_2,.slice A0_3 l0_3.length c0_3] 30 (0,0)) (by (with_reducible repeat first|apply blk_drewN|apply blk_drew|apply blk_alloc);exact BK318.out) hb);have n1_:=Aside0.mk (below_step (by repeat (first|(with_reducible first|exact HB.out|apply below_alloc|apply pw_below_drewN|apply below_drew1|refine below_set ?_ GE318.out)|exact HB.out)) hb);have n2_:=Aside0.mk (hbox);have n3_:=Aside0.mk ((by rw [hg];exact (below_size (by repeat (first|(with_reducible first|exact HB.out|apply below_alloc|apply pw_below_drewN|apply below_drew1|refine below_set ?_ GE318.out)|exact HB.out))) : w.heap.size ≤ gb319));have n4_:=Aside0.mk ((by rw [hg];exact (below_size (by repeat (first|(with_reducible first|exact HB.out|apply below_alloc|apply pw_below_drewN|apply below_drew1|refine below_set ?_ GE318.out)|exact HB.out))) : w.heap.size ≤ gb319));have n5_:=Aside0.mk ((by rw [hg];exact Nat.ne_of_lt (blk_lt (g:=gb318) (o:=.cells #[.slice A0_0 l0_0.length c0_0,.slice A0_1 l0_1.length c0_1,.slice A0_2 l0_2.length c0_2,.slice A0_3 l0_3.length c0_3] 30 (0,0)) (by (with_reducible repeat first|apply blk_drewN|apply blk_drew|apply blk_alloc);exact BK318.out)) : gb318 ≠ gb319));have n6_:=Aside0.mk ((by rw [hg];exact Nat.ne_of_gt (blk_lt (g:=gb318) (o:=.cells #[.slice A0_0 l0_0.length c0_0,.slice A0_1 l0_1.length c0_1,.slice A0_2 l0_2.length c0_2,.slice A0_3 l0_3.length c0_3] 30 (0,0)) (by (with_reducible repeat first|apply blk_drewN|apply blk_drew|apply blk_alloc);exact BK318.out)) : gb319 ≠ gb318));clear BK318;clear HB;have BK318:=n0_;have HB:=n1_;have BK319:=n2_;have GW319:=n3_;have GE319:=n4_;have NB318_319:=n5_;have NB319_318:=n6_;clear n0_ n1_ n2_ n3_ n4_ n5_ n6_;clear hb hbox hg;have hnb8:=NB318_319.out;have hnc8:=NB319_318.out;have hcz9_0 : w7.cell? ⟨gb318,0,none⟩ = some (.slice A0_0 l0_0.length c0_0):=(blk_cell BK318.out 0).trans rfl;have hcz9_1 : w7.cell? ⟨gb318,1,none⟩ = some (.slice A0_1 l0_1.length c0_1):=(blk_cell BK318.out 1).trans rfl;have hcz9_2 : w7.cell? ⟨gb318,2,none⟩ = some (.slice A0_2 l0_2.length c0_2):=(blk_cell BK318.out 2).trans rfl;have hcz9_3 : w7.cell? ⟨gb318,3,none⟩ = some (.slice A0_3 l0_3.length c0_3):=(blk_cell BK318.out 3).trans rfl;have hfz9_0:=blk_frozen BK318.out 0;have hfz9_1:=blk_frozen BK318.out 1;have hfz9_2:=blk_frozen BK318.out 2;have hfz9_3:=blk_frozen BK318.out 3)|((with_reducible refine gate_callee (f:=45) rfl ?_);refine goesL_ (some 7) rfl rfl Try.func45 (by kernel_rfl) rfl #[.agg #[.slice A0_0 l0_0.length c0_0,.slice A0_1 l0_1.length c0_1,.slice A0_2 l0_2.length c0_2,.slice A0_3 l0_3.length c0_3]] rfl (by (try simp only [List.map_toArray,List.map_cons,List.map_nil]);first|done|rfl|(simp only [List.length_drop,List.length_take];rfl)) ?_;(with_reducible refine (impl_GoodSpace.calls k _ _ l0_0 _ _ l0_1 _ _ l0_2 _ _ l0_3 true _ ?side1 ?side2 ?side3 ?side4 ?side5 ?side6 ?side7 ?side8 A3.out).mono ?_);(case side1=>repeat (first|exact (Kd.C_below HR0_0.out HB.out)|(with_reducible first|apply Kd.C_alloc|apply Kd.C_drewN|apply Kd.C_drew)));(case side2=>exact HC0_0.out);(case side3=>repeat (first|exact (Kd.C_below HR0_1.out HB.out)|(with_reducible first|apply Kd.C_alloc|apply Kd.C_drewN|apply Kd.C_drew)));(case side4=>exact HC0_1.out);(case side5=>repeat (first|exact (Kd.C_below HR0_2.out HB.out)|(with_reducible first|apply Kd.C_alloc|apply Kd.C_drewN|apply Kd.C_drew)));(case side6=>exact HC0_2.out);(case side7=>repeat (first|exact (Kd.C_below HR0_3.out HB.out)|(with_reducible first|apply Kd.C_alloc|apply Kd.C_drewN|apply Kd.C_drew)));(case side8=>exact HC0_3.out);rintro e w10 ⟨rfl,hb⟩;refine ⟨_,rfl,?_⟩;have n0_:=Aside0.mk (blk_below (g:=gb318) (o:=.cells #[.slice A0_0 l0_0.length c0_0,.slice A0_1 l0_1.length c0_1,.slice A0_2 l0_2.length c0_2,.slice A0_3 l0_3.length c0_3] 30 (0,0)) (by (with_reducible repeat first|apply blk_drewN|apply blk_drew|apply blk_alloc);exact BK318.out) hb);have n1_:=Aside0.mk (blk_below (g:=gb319) (o:=.cells #[.int .i64 0,.slice none 0 0,.slice none 0 0] 61 (0,0)) (by (with_reducible repeat first|apply blk_drewN|apply blk_drew|apply blk_alloc);exact BK319.out) hb);have n2_:=Aside0.mk (below_step (by repeat (first|(with_reducible first|exact HB.out|apply below_alloc|apply pw_below_drewN|apply below_drew1|refine below_set ?_ GE318.out|refine below_set ?_ GE319.out)|exact HB.out)) hb);clear BK318;clear BK319;clear HB;have BK318:=n0_;have BK319:=n1_;have HB:=n2_;clear n0_ n1_ n2_;(try clear hb);(try clear hb2);(try clear hk);(try clear hi))|((with_reducible refine gate_callee (f:=46) rfl ?_);refine goesL_ (some 11) rfl rfl Try.func46 (by kernel_rfl) rfl #[.pointer (some ⟨gb318,0,none⟩),.int .i64 a1] rfl (by (try simp only [List.map_toArray,List.map_cons,List.map_nil]);first|done|rfl|(simp only [List.length_drop,List.length_take];rfl)) ?_;(with_reducible refine (impl_Space_tree.calls k gb318 A0_0 c0_0 l0_0 A0_1 c0_1 l0_1 A0_2 c0_2 l0_2 A0_3 c0_3 l0_3 a1 t321 t322 t325 t328 _ ?side1 ?side2 ?side3 ?side4 ?side5 ?side6 ?side7 ?side8 ?side9 A5.out).mono ?_);(case side1=>exact by (with_reducible repeat first|apply blk_drewN|apply blk_drew|apply blk_alloc);exact BK318.out);(case side2=>repeat (first|exact (Kd.C_below HR0_0.out HB.out)|(with_reducible first|apply Kd.C_alloc|apply Kd.C_drewN|apply Kd.C_drew)));(case side3=>exact HC0_0.out);(case side4=>repeat (first|exact (Kd.C_below HR0_1.out HB.out)|(with_reducible first|apply Kd.C_alloc|apply Kd.C_drewN|apply Kd.C_drew)));(case side5=>exact HC0_1.out);(case side6=>repeat (first|exact (Kd.C_below HR0_2.out HB.out)|(with_reducible first|apply Kd.C_alloc|apply Kd.C_drewN|apply Kd.C_drew)));(case side7=>exact HC0_2.out);(case side8=>repeat (first|exact (Kd.C_below HR0_3.out HB.out)|(with_reducible first|apply Kd.C_alloc|apply Kd.C_drewN|apply Kd.C_drew)));(case side9=>exact HC0_3.out);rintro e w11 ⟨v323,v326,rfl,ho0,ho1,hb⟩;refine ⟨_,rfl,?_⟩;have n0_:=Aside0.mk (Kd.R_lower ho0 (below_size (by repeat (first|(with_reducible first|exact HB.out|apply below_alloc|apply pw_below_drewN|apply below_drew1|refine below_set ?_ GE318.out|refine below_set ?_ GE319.out)|exact HB.out))));have n1_:=Aside0.mk (Kd.S_lower ho1 (below_size (by repeat (first|(with_reducible first|exact HB.out|apply below_alloc|apply pw_below_drewN|apply below_drew1|refine below_set ?_ GE318.out|refine below_set ?_ GE319.out)|exact HB.out))));have n2_:=Aside0.mk (blk_below (g:=gb318) (o:=.cells #[.slice A0_0 l0_0.length c0_0,.slice A0_1 l0_1.length c0_1,.slice A0_2 l0_2.length c0_2,.slice A0_3 l0_3.length c0_3] 30 (0,0)) (by (with_reducible repeat first|apply blk_drewN|apply blk_drew|apply blk_alloc);exact BK318.out) hb);have n3_:=Aside0.mk (blk_below (g:=gb319) (o:=.cells #[.int .i64 0,.slice none 0 0,.slice none 0 0] 61 (0,0)) (by (with_reducible repeat first|apply blk_drewN|apply blk_drew|apply blk_alloc);exact BK319.out) hb);have n4_:=Aside0.mk (below_step (by repeat (first|(with_reducible first|exact HB.out|apply below_alloc|apply pw_below_drewN|apply below_drew1|refine below_set ?_ GE318.out|refine below_set ?_ GE319.out)|exact HB.out)) hb);clear BK318;clear BK319;clear HB;have HO324:=n0_;have HO327:=n1_;have BK318:=n2_;have BK319:=n3_;have HB:=n4_;clear n0_ n1_ n2_ n3_ n4_;(try clear hb);(try clear hb2);(try clear hk);(try clear hi);(try clear ho0);(try clear ho1);have hcz12_0 : w11.cell? ⟨gb319,0,none⟩ = some (.int .i64 0):=(blk_cell BK319.out 0).trans rfl;have hcz12_1 : w11.cell? ⟨gb319,1,none⟩ = some (.slice none 0 0):=(blk_cell BK319.out 1).trans rfl;have hcz12_2 : w11.cell? ⟨gb319,2,none⟩ = some (.slice none 0 0):=(blk_cell BK319.out 2).trans rfl;have hfz12_0:=blk_frozen BK319.out 0;have hfz12_1:=blk_frozen BK319.out 1;have hfz12_2:=blk_frozen BK319.out 2;obtain ⟨Ao13,co13,eo13⟩:=Kd.R_slice HO324.out;subst eo13;obtain ⟨Ao14,co14,eo14⟩:=Kd.S_slice HO327.out;subst eo14))
  refine bodyPost_ret (results_ct rfl _ _ gb319 61 #[.int .i64 t321,.slice Ao13 t322.length co13,.slice Ao14 t325.length co14] (0,0) _ rfl (by (with_reducible repeat first|apply blk_drewN|apply blk_drew|apply blk_alloc);refine blk_put (cs:=#[.int .i64 t321,.slice Ao13 t322.length co13,.slice none 0 0]) ?_ 2 _ rfl;(with_reducible repeat first|apply blk_drewN|apply blk_drew|apply blk_alloc);refine blk_put (cs:=#[.int .i64 t321,.slice none 0 0,.slice none 0 0]) ?_ 1 _ rfl;(with_reducible repeat first|apply blk_drewN|apply blk_drew|apply blk_alloc);refine blk_put (cs:=#[.int .i64 0,.slice none 0 0,.slice none 0 0]) ?_ 0 _ rfl;(with_reducible repeat first|apply blk_drewN|apply blk_drew|apply blk_alloc);exact BK319.out) Try.underlying61 rfl (by kernel_rfl)) rfl ?_
  exact ⟨_,_,by first|rfl|(simp [*,errW_none,errW_some] <;> rfl),by (with_reducible repeat (first|apply Kd.R_alloc|apply Kd.R_drewN|apply Kd.R_drew));exact Kd.R_mono (Kd.R_far (p:=⟨gb319,2,none⟩) (Kd.R_far (p:=⟨gb319,1,none⟩) (Kd.R_far (p:=⟨gb319,0,none⟩) (Kd.R_types HO324.out BK319.out (by decide)) (fun _ hk=>hk.2) (.int .i64 t321)) (fun _ hk=>hk.2) (.slice Ao13 t322.length co13)) (fun _ hk=>hk.2) (.slice Ao14 t325.length co14)) (fun _ hk=>trivial),by (with_reducible repeat (first|apply Kd.S_alloc|apply Kd.S_drewN|apply Kd.S_drew));exact Kd.S_mono (Kd.S_far (p:=⟨gb319,2,none⟩) (Kd.S_far (p:=⟨gb319,1,none⟩) (Kd.S_far (p:=⟨gb319,0,none⟩) (Kd.S_types HO327.out BK319.out (by decide)) (fun _ hk=>hk.2) (.int .i64 t321)) (fun _ hk=>hk.2) (.slice Ao13 t322.length co13)) (fun _ hk=>hk.2) (.slice Ao14 t325.length co14)) (fun _ hk=>hk.1),by repeat (first|(with_reducible first|exact HB.out|apply below_alloc|apply pw_below_drewN|apply below_drew1|refine below_set ?_ GE318.out|refine below_set ?_ GE319.out)|exact HB.out)⟩
 ·replace c4:=Bool.eq_false_iff.mpr c4
  subst c4
  have H1 : (some (0,([] : List Int),([] : List (List Int)),false)) = some (r1,r2,r3,r4):=by rw [if_neg (show ¬ (false = true) by decide)] at H;exact H
  clear H
  have H:=H1
  clear H1
  simp only [Option.some.injEq,Prod.mk.injEq] at H
  obtain ⟨rfl,rfl,rfl,rfl⟩:=H
  go_enter Try.func38,Try.ntmps38
  go_wp2_with (first|((with_reducible refine gate_dst (N:=2) rfl ?_);refine box_event ?hg (N:=2) ?hd (cs:=#[.slice A0_0 l0_0.length c0_0,.slice A0_1 l0_1.length c0_1,.slice A0_2 l0_2.length c0_2,.slice A0_3 l0_3.length c0_3]) (t:=30) ?hr ?_;(case hd=>rfl);(case hg=>rfl);(case hr=>first|(go_simp;done)|(go_simp;rfl));intro gb318 hg w15 hbox hb;have n0_:=Aside0.mk (below_step (by repeat (first|exact HB.out|apply below_alloc|apply pw_below_drewN|apply below_drew1)) hb);have n1_:=Aside0.mk (hbox);have n2_:=Aside0.mk ((by rw [hg];exact (below_size (by repeat (first|exact HB.out|apply below_alloc|apply pw_below_drewN|apply below_drew1))) : w.heap.size ≤ gb318));have n3_:=Aside0.mk ((by rw [hg];exact (below_size (by repeat (first|exact HB.out|apply below_alloc|apply pw_below_drewN|apply below_drew1))) : w.heap.size ≤ gb318));clear HB;have HB:=n0_;have BK318:=n1_;have GW318:=n2_;have GE318:=n3_;clear n0_ n1_ n2_ n3_;clear hb hbox hg)|((with_reducible refine gate_dst (N:=4) rfl ?_);refine box_event ?hg (N:=4) ?hd (cs:=#[.int .i64 0,.slice none 0 0,.slice none 0 0]) (t:=61) ?hr ?_;(case hd=>rfl);(case hg=>rfl);(case hr=>first|(go_simp;done)|(go_simp;rfl));intro gb319 hg w16 hbox hb;have n0_:=Aside0.mk (blk_below (g:=gb318) (o:=.cells #[.slice A0_0 l0_0.length c0_0,.slice A0_1 l0_1.length c0_1,.slice A0_2 l0_2.length c0_2,.slice A0_3 l0_3.length c0_3] 30 (0,0)) (by (with_reducible repeat first|apply blk_drewN|apply blk_drew|apply blk_alloc);exact BK318.out) hb);have n1_:=Aside0.mk (below_step (by repeat (first|(with_reducible first|exact HB.out|apply below_alloc|apply pw_below_drewN|apply below_drew1|refine below_set ?_ GE318.out)|exact HB.out)) hb);have n2_:=Aside0.mk (hbox);have n3_:=Aside0.mk ((by rw [hg];exact (below_size (by repeat (first|(with_reducible first|exact HB.out|apply below_alloc|apply pw_below_drewN|apply below_drew1|refine below_set ?_ GE318.out)|exact HB.out))) : w.heap.size ≤ gb319));have n4_:=Aside0.mk ((by rw [hg];exact (below_size (by repeat (first|(with_reducible first|exact HB.out|apply below_alloc|apply pw_below_drewN|apply below_drew1|refine below_set ?_ GE318.out)|exact HB.out))) : w.heap.size ≤ gb319));have n5_:=Aside0.mk ((by rw [hg];exact Nat.ne_of_lt (blk_lt (g:=gb318) (o:=.cells #[.slice A0_0 l0_0.length c0_0,.slice A0_1 l0_1.length c0_1,.slice A0_2 l0_2.length c0_2,.slice A0_3 l0_3.length c0_3] 30 (0,0)) (by (with_reducible repeat first|apply blk_drewN|apply blk_drew|apply blk_alloc);exact BK318.out)) : gb318 ≠ gb319));have n6_:=Aside0.mk ((by rw [hg];exact Nat.ne_of_gt (blk_lt (g:=gb318) (o:=.cells #[.slice A0_0 l0_0.length c0_0,.slice A0_1 l0_1.length c0_1,.slice A0_2 l0_2.length c0_2,.slice A0_3 l0_3.length c0_3] 30 (0,0)) (by (with_reducible repeat first|apply blk_drewN|apply blk_drew|apply blk_alloc);exact BK318.out)) : gb319 ≠ gb318));clear BK318;clear HB;have BK318:=n0_;have HB:=n1_;have BK319:=n2_;have GW319:=n3_;have GE319:=n4_;have NB318_319:=n5_;have NB319_318:=n6_;clear n0_ n1_ n2_ n3_ n4_ n5_ n6_;clear hb hbox hg;have hnb17:=NB318_319.out;have hnc17:=NB319_318.out;have hcz18_0 : w16.cell? ⟨gb318,0,none⟩ = some (.slice A0_0 l0_0.length c0_0):=(blk_cell BK318.out 0).trans rfl;have hcz18_1 : w16.cell? ⟨gb318,1,none⟩ = some (.slice A0_1 l0_1.length c0_1):=(blk_cell BK318.out 1).trans rfl;have hcz18_2 : w16.cell? ⟨gb318,2,none⟩ = some (.slice A0_2 l0_2.length c0_2):=(blk_cell BK318.out 2).trans rfl;have hcz18_3 : w16.cell? ⟨gb318,3,none⟩ = some (.slice A0_3 l0_3.length c0_3):=(blk_cell BK318.out 3).trans rfl;have hfz18_0:=blk_frozen BK318.out 0;have hfz18_1:=blk_frozen BK318.out 1;have hfz18_2:=blk_frozen BK318.out 2;have hfz18_3:=blk_frozen BK318.out 3)|((with_reducible refine gate_callee (f:=45) rfl ?_);refine goesL_ (some 7) rfl rfl Try.func45 (by kernel_rfl) rfl #[.agg #[.slice A0_0 l0_0.length c0_0,.slice A0_1 l0_1.length c0_1,.slice A0_2 l0_2.length c0_2,.slice A0_3 l0_3.length c0_3]] rfl (by (try simp only [List.map_toArray,List.map_cons,List.map_nil]);first|done|rfl|(simp only [List.length_drop,List.length_take];rfl)) ?_;(with_reducible refine (impl_GoodSpace.calls k _ _ l0_0 _ _ l0_1 _ _ l0_2 _ _ l0_3 false _ ?side1 ?side2 ?side3 ?side4 ?side5 ?side6 ?side7 ?side8 A3.out).mono ?_);(case side1=>repeat (first|exact (Kd.C_below HR0_0.out HB.out)|(with_reducible first|apply Kd.C_alloc|apply Kd.C_drewN|apply Kd.C_drew)));(case side2=>exact HC0_0.out);(case side3=>repeat (first|exact (Kd.C_below HR0_1.out HB.out)|(with_reducible first|apply Kd.C_alloc|apply Kd.C_drewN|apply Kd.C_drew)));(case side4=>exact HC0_1.out);(case side5=>repeat (first|exact (Kd.C_below HR0_2.out HB.out)|(with_reducible first|apply Kd.C_alloc|apply Kd.C_drewN|apply Kd.C_drew)));(case side6=>exact HC0_2.out);(case side7=>repeat (first|exact (Kd.C_below HR0_3.out HB.out)|(with_reducible first|apply Kd.C_alloc|apply Kd.C_drewN|apply Kd.C_drew)));(case side8=>exact HC0_3.out);rintro e w19 ⟨rfl,hb⟩;refine ⟨_,rfl,?_⟩;have n0_:=Aside0.mk (blk_below (g:=gb318) (o:=.cells #[.slice A0_0 l0_0.length c0_0,.slice A0_1 l0_1.length c0_1,.slice A0_2 l0_2.length c0_2,.slice A0_3 l0_3.length c0_3] 30 (0,0)) (by (with_reducible repeat first|apply blk_drewN|apply blk_drew|apply blk_alloc);exact BK318.out) hb);have n1_:=Aside0.mk (blk_below (g:=gb319) (o:=.cells #[.int .i64 0,.slice none 0 0,.slice none 0 0] 61 (0,0)) (by (with_reducible repeat first|apply blk_drewN|apply blk_drew|apply blk_alloc);exact BK319.out) hb);have n2_:=Aside0.mk (below_step (by repeat (first|(with_reducible first|exact HB.out|apply below_alloc|apply pw_below_drewN|apply below_drew1|refine below_set ?_ GE318.out|refine below_set ?_ GE319.out)|exact HB.out)) hb);clear BK318;clear BK319;clear HB;have BK318:=n0_;have BK319:=n1_;have HB:=n2_;clear n0_ n1_ n2_;(try clear hb);(try clear hb2);(try clear hk);(try clear hi);have hcz20_0 : w19.cell? ⟨gb319,0,none⟩ = some (.int .i64 0):=(blk_cell BK319.out 0).trans rfl;have hcz20_1 : w19.cell? ⟨gb319,1,none⟩ = some (.slice none 0 0):=(blk_cell BK319.out 1).trans rfl;have hcz20_2 : w19.cell? ⟨gb319,2,none⟩ = some (.slice none 0 0):=(blk_cell BK319.out 2).trans rfl;have hfz20_0:=blk_frozen BK319.out 0;have hfz20_1:=blk_frozen BK319.out 1;have hfz20_2:=blk_frozen BK319.out 2))
  refine bodyPost_ret (results_ct rfl _ _ gb319 61 #[.int .i64 0,.slice none 0 0,.slice none 0 0] (0,0) _ rfl (by (with_reducible repeat first|apply blk_drewN|apply blk_drew|apply blk_alloc);refine blk_put (cs:=#[.int .i64 0,.slice none 0 0,.slice none 0 0]) ?_ 2 _ rfl;(with_reducible repeat first|apply blk_drewN|apply blk_drew|apply blk_alloc);refine blk_put (cs:=#[.int .i64 0,.slice none 0 0,.slice none 0 0]) ?_ 1 _ rfl;(with_reducible repeat first|apply blk_drewN|apply blk_drew|apply blk_alloc);refine blk_put (cs:=#[.int .i64 0,.slice none 0 0,.slice none 0 0]) ?_ 0 _ rfl;(with_reducible repeat first|apply blk_drewN|apply blk_drew|apply blk_alloc);exact BK319.out) Try.underlying61 rfl (by kernel_rfl)) rfl ?_
  exact ⟨_,_,by first|rfl|(simp [*,errW_none,errW_some] <;> rfl),by first|exact Kd.R_nil _ _ _ _ _|exact Kd.N_nil _ _ _ _ _|exact Kd.V_nil _ _ _ _ _|exact Kd.Q_nil _ _ _ _ _|exact Kd.S_nil _ _ _ _ _,by first|exact Kd.S_nil _ _ _ _ _|exact Kd.N_nil _ _ _ _ _|exact Kd.V_nil _ _ _ _ _|exact Kd.Q_nil _ _ _ _ _|exact Kd.R_nil _ _ _ _ _,by repeat (first|(with_reducible first|exact HB.out|apply below_alloc|apply pw_below_drewN|apply below_drew1|refine below_set ?_ GE318.out|refine below_set ?_ GE319.out)|exact HB.out)⟩

/-! ### impl_tree_value: function 50 -/
def impl_tree_value.f (a0_0 : Int) (l0_1 : List Int) (l0_2 : List (List Int)) (a1 : Int) : Option (Int):=if 0 ≤ (wrap64 (Int.tdiv a1 32)) then (if (wrap64 (Int.tdiv a1 32)) < (l0_2.length : Int) then (if 0 ≤ (Int.tmod a1 32) then (if (Int.tmod a1 32) < ((rd_L3 l0_2 (wrap64 (Int.tdiv a1 32))).length : Int) then (some (rd (rd_L3 l0_2 (wrap64 (Int.tdiv a1 32))) (Int.tmod a1 32))) else (none)) else (none)) else (none)) else (none)
set_option maxHeartbeats 8000000 in
set_option maxRecDepth 100000 in
theorem impl_tree_value.calls (a0_0 : Int) (A0_1 : Option Addr) (c0_1 : Nat) (l0_1 : List Int) (A0_2 : Option Addr) (c0_2 : Nat) (l0_2 : List (List Int)) (a1 : Int) (r : Int) (w : World) (hr0_1 : Kd.C (Kd.int .i64) w A0_1 l0_1.length l0_1) (hc0_1 : l0_1.length ≤ c0_1) (hr0_2 : Kd.C (Kd.slice 3 (Kd.int .i64)) w A0_2 l0_2.length l0_2) (hc0_2 : l0_2.length ≤ c0_2) (h : impl_tree_value.f a0_0 l0_1 l0_2 a1 = some r) :
  Calls Try.prog 50 #[.agg #[.int .i64 a0_0,.slice A0_1 l0_1.length c0_1,.slice A0_2 l0_2.length c0_2],.int .i64 a1] w fun e w'=>e = .returned (.int .i64 r)∧Below w.heap.size w w':=by
 have hu61:=Try.underlying61
 have HR0_1:=Aside0.mk hr0_1
 have HC0_1:=Aside0.mk hc0_1
 clear hr0_1 hc0_1
 have HR0_2:=Aside0.mk hr0_2
 have HC0_2:=Aside0.mk hc0_2
 clear hr0_2 hc0_2
 have HB:=Aside0.mk (Below.refl w.heap.size w)
 have H : (if 0 ≤ (wrap64 (Int.tdiv a1 32)) then (if (wrap64 (Int.tdiv a1 32)) < (l0_2.length : Int) then (if 0 ≤ (Int.tmod a1 32) then (if (Int.tmod a1 32) < ((rd_L3 l0_2 (wrap64 (Int.tdiv a1 32))).length : Int) then (some (rd (rd_L3 l0_2 (wrap64 (Int.tdiv a1 32))) (Int.tmod a1 32))) else (none)) else (none)) else (none)) else (none)) = some r:=h
 clear h
 obtain ⟨ji3,hji3⟩ : ∃ j_ : Int,(wrap64 (Int.tdiv a1 32)) = j_:=⟨_,rfl⟩
 replace H : (if 0 ≤ (ji3) then (if (ji3) < (l0_2.length : Int) then (if 0 ≤ (Int.tmod a1 32) then (if (Int.tmod a1 32) < ((rd_L3 l0_2 (ji3)).length : Int) then (some (rd (rd_L3 l0_2 (ji3)) (Int.tmod a1 32))) else (none)) else (none)) else (none)) else (none)) = some r:=by first|(rw [hji3] at H;exact H)|(simp only [hji3] at H ⊢;exact H)
 have hji3w : (IntKind.i64.wrap (Int.tdiv a1 32)) = ji3:=(i64_w _).trans hji3
 by_cases c4 : 0 ≤ (ji3)
 ·rw [if_pos c4] at H
  have c4b0 : decide (0 ≤ (ji3)) = true:=decide_eq_true c4
  clear c4
  by_cases c5 : (ji3) < (l0_2.length : Int)
  ·rw [if_pos c5] at H
   have c5b0 : decide ((ji3) < (l0_2.length : Int)) = true:=decide_eq_true c5
   clear c5
   obtain ⟨ji6,hji6⟩ : ∃ j_ : Int,(Int.tmod a1 32) = j_:=⟨_,rfl⟩
   replace H : (if 0 ≤ (ji6) then (if (ji6) < ((rd_L3 l0_2 (ji3)).length : Int) then (some (rd (rd_L3 l0_2 (ji3)) (ji6))) else (none)) else (none)) = some r:=by first|(rw [hji6] at H;exact H)|(simp only [hji6] at H ⊢;exact H)
   by_cases c7 : 0 ≤ (ji6)
   ·rw [if_pos c7] at H
    have c7b0 : decide (0 ≤ (ji6)) = true:=decide_eq_true c7
    clear c7
    by_cases c8 : (ji6) < ((rd_L3 l0_2 (ji3)).length : Int)
    ·rw [if_pos c8] at H
     have c8b0 : decide ((ji6) < ((rd_L3 l0_2 (ji3)).length : Int)) = true:=decide_eq_true c8
     clear c8
     obtain rfl:=Option.some.inj H
     go_enter Try.func50,Try.ntmps50
     go_wp2_with (first|((with_reducible refine gate_dst (N:=2) rfl ?_);refine box_event ?hg (N:=2) ?hd (cs:=#[.int .i64 a0_0,.slice A0_1 l0_1.length c0_1,.slice A0_2 l0_2.length c0_2]) (t:=61) ?hr ?_;(case hd=>rfl);(case hg=>rfl);(case hr=>first|(go_simp;done)|(go_simp;rfl));intro gb329 hg w9 hbox hb;have n0_:=Aside0.mk (below_step (by repeat (first|exact HB.out|apply below_alloc|apply pw_below_drewN|apply below_drew1)) hb);have n1_:=Aside0.mk (hbox);have n2_:=Aside0.mk ((by rw [hg];exact (below_size (by repeat (first|exact HB.out|apply below_alloc|apply pw_below_drewN|apply below_drew1))) : w.heap.size ≤ gb329));have n3_:=Aside0.mk ((by rw [hg];exact (below_size (by repeat (first|exact HB.out|apply below_alloc|apply pw_below_drewN|apply below_drew1))) : w.heap.size ≤ gb329));clear HB;have HB:=n0_;have BK329:=n1_;have GW329:=n2_;have GE329:=n3_;clear n0_ n1_ n2_ n3_;clear hb hbox hg;have hcz10_0 : w9.cell? ⟨gb329,0,none⟩ = some (.int .i64 a0_0):=(blk_cell BK329.out 0).trans rfl;have hcz10_1 : w9.cell? ⟨gb329,1,none⟩ = some (.slice A0_1 l0_1.length c0_1):=(blk_cell BK329.out 1).trans rfl;have hcz10_2 : w9.cell? ⟨gb329,2,none⟩ = some (.slice A0_2 l0_2.length c0_2):=(blk_cell BK329.out 2).trans rfl;have hfz10_0:=blk_frozen BK329.out 0;have hfz10_1:=blk_frozen BK329.out 1;have hfz10_2:=blk_frozen BK329.out 2;have p330 : 0 ≤ ((ji3) : Int):=of_decide_eq_true (by assumption);have q330 : (ji3) < (l0_2.length : Int):=of_decide_eq_true (by assumption);obtain ⟨ad330,A330_0,c330_0,e330,hx330_0,hl330_0,hi330_0⟩:=at_L3 HR0_2.out (ji3) p330 q330;cases e330;(try replace hx330_0:=(HB.out.cell (World.block_lt_of_cell? w _ hx330_0)).trans hx330_0);have HR330_0:=Aside0.mk hi330_0;have HC330_0:=Aside0.mk hl330_0;clear hi330_0 hl330_0;replace p330:=eq_true p330;replace q330:=eq_true q330;have p331 : 0 ≤ ((ji6) : Int):=of_decide_eq_true (by assumption);have q331 : (ji6) < ((rd_L3 l0_2 (ji3)).length : Int):=of_decide_eq_true (by assumption);obtain ⟨ad331,e331,hx331_0⟩:=Kd.at_int HR330_0.out (ji6) p331 q331;cases e331;(try replace hx331_0:=(HB.out.cell (World.block_lt_of_cell? w _ hx331_0)).trans hx331_0);replace p331:=eq_true p331;replace q331:=eq_true q331))
     go_ret
     exact ⟨by first|rfl|(simp [errW_none,errW_some] <;> rfl)|(simp only [← hji3,← hji6];first|rfl|(simp [errW_none,errW_some] <;> rfl))|(simp [*,errW_none,errW_some] <;> rfl),by repeat (first|(with_reducible first|exact HB.out|apply below_alloc|apply pw_below_drewN|apply below_drew1|refine below_set ?_ GE329.out)|exact HB.out)⟩
    ·rw [if_neg c8] at H
     exact absurd H (by simp)
   ·rw [if_neg c7] at H
    exact absurd H (by simp)
  ·rw [if_neg c5] at H
   exact absurd H (by simp)
 ·rw [if_neg c4] at H
  exact absurd H (by simp)

/-! ### impl_ValueIn: function 20 -/
def impl_ValueIn.f (k : Nat) (l0_0 : List (List Int)) (l0_1 : List Int) (l0_2 : List Int) (l0_3 : List Int) (a1 : Int) (a2 : Int) : Option (Int × Bool):=(impl_treeOf.f k l0_0 l0_1 l0_2 l0_3 a1).bind fun bt333=>(if bt333.2.2.2 = true then ((impl_within.f a2 0 1023).bind fun t342=>(if t342 = true then ((impl_tree_value.f bt333.1 bt333.2.1 bt333.2.2.1 a2).bind fun t343=>(if t343 = 0 then (some (0,false)) else ((impl_tree_value.f bt333.1 bt333.2.1 bt333.2.2.1 a2).bind fun t344=>(some (t344,true))))) else (some (0,false)))) else (some (0,false)))
theorem impl_ValueIn.mono : ∀ a0 a1 a2 a3 a4 a5 k,LeO (impl_ValueIn.f k a0 a1 a2 a3 a4 a5) (impl_ValueIn.f (k + 1) a0 a1 a2 a3 a4 a5):=by
 intro a0 a1 a2 a3 a4 a5 k
 unfold impl_ValueIn.f
 repeat' first
   | (with_reducible exact impl_treeOf.mono _ _ _ _ _ _)
   | (with_reducible exact LeO.refl _)
   | (with_reducible exact LeO.none _)
   | (with_reducible refine LeO.ite ?_ ?_)
   | (with_reducible refine LeO.bind ?_ (fun _=>?_))
   | exact impl_treeOf.mono _ _ _ _ _ _
   | exact LeO.none _
   | refine LeO.ite ?_ ?_
   | refine LeO.bind ?_ (fun _=>?_)
set_option maxHeartbeats 8000000 in
set_option maxRecDepth 100000 in
theorem impl_ValueIn.calls (k : Nat) (A0_0 : Option Addr) (c0_0 : Nat) (l0_0 : List (List Int)) (A0_1 : Option Addr) (c0_1 : Nat) (l0_1 : List Int) (A0_2 : Option Addr) (c0_2 : Nat) (l0_2 : List Int) (A0_3 : Option Addr) (c0_3 : Nat) (l0_3 : List Int) (a1 : Int) (a2 : Int) (r1 : Int) (r2 : Bool) (w : World) (hr0_0 : Kd.C (Kd.slice 5 (Kd.int .u8)) w A0_0 l0_0.length l0_0) (hc0_0 : l0_0.length ≤ c0_0) (hr0_1 : Kd.C (Kd.int .u8) w A0_1 l0_1.length l0_1) (hc0_1 : l0_1.length ≤ c0_1) (hr0_2 : Kd.C (Kd.int .i64) w A0_2 l0_2.length l0_2) (hc0_2 : l0_2.length ≤ c0_2) (hr0_3 : Kd.C (Kd.int .i64) w A0_3 l0_3.length l0_3) (hc0_3 : l0_3.length ≤ c0_3) (h : impl_ValueIn.f k l0_0 l0_1 l0_2 l0_3 a1 a2 = some (r1,r2)) :
  Calls Try.prog 20 #[.agg #[.slice A0_0 l0_0.length c0_0,.slice A0_1 l0_1.length c0_1,.slice A0_2 l0_2.length c0_2,.slice A0_3 l0_3.length c0_3],.int .i64 a1,.int .i64 a2] w fun e w'=>e = .returned (.tuple #[.int .i64 r1,.bool r2])∧Below w.heap.size w w':=by
 have hu30:=Try.underlying30
 have hu61:=Try.underlying61
 have HR0_0:=Aside0.mk hr0_0
 have HC0_0:=Aside0.mk hc0_0
 clear hr0_0 hc0_0
 have HR0_1:=Aside0.mk hr0_1
 have HC0_1:=Aside0.mk hc0_1
 clear hr0_1 hc0_1
 have HR0_2:=Aside0.mk hr0_2
 have HC0_2:=Aside0.mk hc0_2
 clear hr0_2 hc0_2
 have HR0_3:=Aside0.mk hr0_3
 have HC0_3:=Aside0.mk hc0_3
 clear hr0_3 hc0_3
 have HB:=Aside0.mk (Below.refl w.heap.size w)
 have H : ((impl_treeOf.f k l0_0 l0_1 l0_2 l0_3 a1).bind fun bt333=>(if bt333.2.2.2 = true then ((impl_within.f a2 0 1023).bind fun t342=>(if t342 = true then ((impl_tree_value.f bt333.1 bt333.2.1 bt333.2.2.1 a2).bind fun t343=>(if t343 = 0 then (some (0,false)) else ((impl_tree_value.f bt333.1 bt333.2.1 bt333.2.2.1 a2).bind fun t344=>(some (t344,true))))) else (some (0,false)))) else (some (0,false)))) = some (r1,r2):=h
 clear h
 replace H:=Option.bind_eq_some_iff.mp H
 obtain ⟨⟨t333,t334,t337,t340⟩,A40,H⟩:=H
 replace H : (if t340 = true then ((impl_within.f a2 0 1023).bind fun t342=>(if t342 = true then ((impl_tree_value.f t333 t334 t337 a2).bind fun t343=>(if t343 = 0 then (some (0,false)) else ((impl_tree_value.f t333 t334 t337 a2).bind fun t344=>(some (t344,true))))) else (some (0,false)))) else (some (0,false))) = some (r1,r2):=H
 have A4:=Aside0.mk A40
 clear A40
 by_cases c5 : t340 = true
 ·subst c5
  have H1 : ((impl_within.f a2 0 1023).bind fun t342=>(if t342 = true then ((impl_tree_value.f t333 t334 t337 a2).bind fun t343=>(if t343 = 0 then (some (0,false)) else ((impl_tree_value.f t333 t334 t337 a2).bind fun t344=>(some (t344,true))))) else (some (0,false)))) = some (r1,r2):=by rw [if_pos rfl] at H;exact H
  clear H
  have H:=H1
  clear H1
  replace H:=Option.bind_eq_some_iff.mp H
  obtain ⟨t342,A60,H⟩:=H
  replace H : (if t342 = true then ((impl_tree_value.f t333 t334 t337 a2).bind fun t343=>(if t343 = 0 then (some (0,false)) else ((impl_tree_value.f t333 t334 t337 a2).bind fun t344=>(some (t344,true))))) else (some (0,false))) = some (r1,r2):=H
  have A6:=Aside0.mk A60
  clear A60
  by_cases c7 : t342 = true
  ·subst c7
   have H1 : ((impl_tree_value.f t333 t334 t337 a2).bind fun t343=>(if t343 = 0 then (some (0,false)) else ((impl_tree_value.f t333 t334 t337 a2).bind fun t344=>(some (t344,true))))) = some (r1,r2):=by rw [if_pos rfl] at H;exact H
   clear H
   have H:=H1
   clear H1
   replace H:=Option.bind_eq_some_iff.mp H
   obtain ⟨t343,A80,H⟩:=H
   replace H : (if t343 = 0 then (some (0,false)) else ((impl_tree_value.f t333 t334 t337 a2).bind fun t344=>(some (t344,true)))) = some (r1,r2):=H
   have A8:=Aside0.mk A80
   clear A80
   by_cases c9 : t343 = 0
   ·rw [if_pos c9] at H
    have c9b0 : (t343 == 0) = true:=beq_iff_eq.mpr c9
    have c9b1 : (t343 != 0) = false:=bne_eq_false_iff_eq.mpr c9
    clear c9
    simp only [Option.some.injEq,Prod.mk.injEq] at H
    obtain ⟨rfl,rfl⟩:=H
    go_enter Try.func20,Try.ntmps20
    go_wp2_with (first|((with_reducible refine gate_dst (N:=3) rfl ?_);refine box_event ?hg (N:=3) ?hd (cs:=#[.slice A0_0 l0_0.length c0_0,.slice A0_1 l0_1.length c0_1,.slice A0_2 l0_2.length c0_2,.slice A0_3 l0_3.length c0_3]) (t:=30) ?hr ?_;(case hd=>rfl);(case hg=>rfl);(case hr=>first|(go_simp;done)|(go_simp;rfl));intro gb332 hg w10 hbox hb;have n0_:=Aside0.mk (below_step (by repeat (first|exact HB.out|apply below_alloc|apply pw_below_drewN|apply below_drew1)) hb);have n1_:=Aside0.mk (hbox);have n2_:=Aside0.mk ((by rw [hg];exact (below_size (by repeat (first|exact HB.out|apply below_alloc|apply pw_below_drewN|apply below_drew1))) : w.heap.size ≤ gb332));have n3_:=Aside0.mk ((by rw [hg];exact (below_size (by repeat (first|exact HB.out|apply below_alloc|apply pw_below_drewN|apply below_drew1))) : w.heap.size ≤ gb332));clear HB;have HB:=n0_;have BK332:=n1_;have GW332:=n2_;have GE332:=n3_;clear n0_ n1_ n2_ n3_;clear hb hbox hg;have hcz11_0 : w10.cell? ⟨gb332,0,none⟩ = some (.slice A0_0 l0_0.length c0_0):=(blk_cell BK332.out 0).trans rfl;have hcz11_1 : w10.cell? ⟨gb332,1,none⟩ = some (.slice A0_1 l0_1.length c0_1):=(blk_cell BK332.out 1).trans rfl;have hcz11_2 : w10.cell? ⟨gb332,2,none⟩ = some (.slice A0_2 l0_2.length c0_2):=(blk_cell BK332.out 2).trans rfl;have hcz11_3 : w10.cell? ⟨gb332,3,none⟩ = some (.slice A0_3 l0_3.length c0_3):=(blk_cell BK332.out 3).trans rfl;have hfz11_0:=blk_frozen BK332.out 0;have hfz11_1:=blk_frozen BK332.out 1;have hfz11_2:=blk_frozen BK332.out 2;have hfz11_3:=blk_frozen BK332.out 3)|((with_reducible refine gate_callee (f:=38) rfl ?_);refine goesL_ (some 13) rfl rfl Try.func38 (by kernel_rfl) rfl #[.agg #[.slice A0_0 l0_0.length c0_0,.slice A0_1 l0_1.length c0_1,.slice A0_2 l0_2.length c0_2,.slice A0_3 l0_3.length c0_3],.int .i64 a1] rfl (by (try simp only [List.map_toArray,List.map_cons,List.map_nil]);first|done|rfl|(simp only [List.length_drop,List.length_take];rfl)) ?_;(with_reducible refine (impl_treeOf.calls k _ _ l0_0 _ _ l0_1 _ _ l0_2 _ _ l0_3 a1 t333 t334 t337 true _ ?side1 ?side2 ?side3 ?side4 ?side5 ?side6 ?side7 ?side8 A4.out).mono ?_);(case side1=>repeat (first|exact (Kd.C_below HR0_0.out HB.out)|(with_reducible first|apply Kd.C_alloc|apply Kd.C_drewN|apply Kd.C_drew)));(case side2=>exact HC0_0.out);(case side3=>repeat (first|exact (Kd.C_below HR0_1.out HB.out)|(with_reducible first|apply Kd.C_alloc|apply Kd.C_drewN|apply Kd.C_drew)));(case side4=>exact HC0_1.out);(case side5=>repeat (first|exact (Kd.C_below HR0_2.out HB.out)|(with_reducible first|apply Kd.C_alloc|apply Kd.C_drewN|apply Kd.C_drew)));(case side6=>exact HC0_2.out);(case side7=>repeat (first|exact (Kd.C_below HR0_3.out HB.out)|(with_reducible first|apply Kd.C_alloc|apply Kd.C_drewN|apply Kd.C_drew)));(case side8=>exact HC0_3.out);rintro e w12 ⟨v335,v338,rfl,ho0,ho1,hb⟩;refine ⟨_,rfl,?_⟩;have n0_:=Aside0.mk (Kd.R_lower ho0 (below_size (by repeat (first|(with_reducible first|exact HB.out|apply below_alloc|apply pw_below_drewN|apply below_drew1|refine below_set ?_ GE332.out)|exact HB.out))));have n1_:=Aside0.mk (Kd.S_lower ho1 (below_size (by repeat (first|(with_reducible first|exact HB.out|apply below_alloc|apply pw_below_drewN|apply below_drew1|refine below_set ?_ GE332.out)|exact HB.out))));have n2_:=Aside0.mk (blk_below (g:=gb332) (o:=.cells #[.slice A0_0 l0_0.length c0_0,.slice A0_1 l0_1.length c0_1,.slice A0_2 l0_2.length c0_2,.slice A0_3 l0_3.length c0_3] 30 (0,0)) (by (with_reducible repeat first|apply blk_drewN|apply blk_drew|apply blk_alloc);exact BK332.out) hb);have n3_:=Aside0.mk (below_step (by repeat (first|(with_reducible first|exact HB.out|apply below_alloc|apply pw_below_drewN|apply below_drew1|refine below_set ?_ GE332.out)|exact HB.out)) hb);clear BK332;clear HB;have HO336:=n0_;have HO339:=n1_;have BK332:=n2_;have HB:=n3_;clear n0_ n1_ n2_ n3_;(try clear hb);(try clear hb2);(try clear hk);(try clear hi);(try clear ho0);(try clear ho1))|((with_reducible refine gate_dst (N:=8) rfl ?_);refine box_event ?hg (N:=8) ?hd (cs:=#[.int .i64 0,.slice none 0 0,.slice none 0 0]) (t:=61) ?hr ?_;(case hd=>rfl);(case hg=>rfl);(case hr=>first|(go_simp;done)|(go_simp;rfl));intro gb341 hg w13 hbox hb;have n0_:=Aside0.mk (Kd.R_below (by (with_reducible repeat (first|apply Kd.R_alloc|apply Kd.R_drewN|apply Kd.R_drew));exact HO336.out) hb);have n1_:=Aside0.mk (Kd.S_below (by (with_reducible repeat (first|apply Kd.S_alloc|apply Kd.S_drewN|apply Kd.S_drew));exact HO339.out) hb);have n2_:=Aside0.mk (blk_below (g:=gb332) (o:=.cells #[.slice A0_0 l0_0.length c0_0,.slice A0_1 l0_1.length c0_1,.slice A0_2 l0_2.length c0_2,.slice A0_3 l0_3.length c0_3] 30 (0,0)) (by (with_reducible repeat first|apply blk_drewN|apply blk_drew|apply blk_alloc);exact BK332.out) hb);have n3_:=Aside0.mk (below_step (by repeat (first|(with_reducible first|exact HB.out|apply below_alloc|apply pw_below_drewN|apply below_drew1|refine below_set ?_ GE332.out)|exact HB.out)) hb);have n4_:=Aside0.mk (hbox);have n5_:=Aside0.mk ((by rw [hg];exact (below_size (by repeat (first|(with_reducible first|exact HB.out|apply below_alloc|apply pw_below_drewN|apply below_drew1|refine below_set ?_ GE332.out)|exact HB.out))) : w.heap.size ≤ gb341));have n6_:=Aside0.mk ((by rw [hg];exact (below_size (by repeat (first|(with_reducible first|exact HB.out|apply below_alloc|apply pw_below_drewN|apply below_drew1|refine below_set ?_ GE332.out)|exact HB.out))) : w.heap.size ≤ gb341));have n7_:=Aside0.mk ((by rw [hg];exact Nat.ne_of_lt (blk_lt (g:=gb332) (o:=.cells #[.slice A0_0 l0_0.length c0_0,.slice A0_1 l0_1.length c0_1,.slice A0_2 l0_2.length c0_2,.slice A0_3 l0_3.length c0_3] 30 (0,0)) (by (with_reducible repeat first|apply blk_drewN|apply blk_drew|apply blk_alloc);exact BK332.out)) : gb332 ≠ gb341));have n8_:=Aside0.mk ((by rw [hg];exact Nat.ne_of_gt (blk_lt (g:=gb332) (o:=.cells #[.slice A0_0 l0_0.length c0_0,.slice A0_1 l0_1.length c0_1,.slice A0_2 l0_2.length c0_2,.slice A0_3 l0_3.length c0_3] 30 (0,0)) (by (with_reducible repeat first|apply blk_drewN|apply blk_drew|apply blk_alloc);exact BK332.out)) : gb341 ≠ gb332));clear HO336;clear HO339;clear BK332;clear HB;have HO336:=n0_;have HO339:=n1_;have BK332:=n2_;have HB:=n3_;have BK341:=n4_;have GW341:=n5_;have GE341:=n6_;have NB332_341:=n7_;have NB341_332:=n8_;clear n0_ n1_ n2_ n3_ n4_ n5_ n6_ n7_ n8_;clear hb hbox hg;have hnb14:=NB341_332.out;have hnc14:=NB332_341.out;have hcz15_0 : w13.cell? ⟨gb341,0,none⟩ = some (.int .i64 0):=(blk_cell BK341.out 0).trans rfl;have hcz15_1 : w13.cell? ⟨gb341,1,none⟩ = some (.slice none 0 0):=(blk_cell BK341.out 1).trans rfl;have hcz15_2 : w13.cell? ⟨gb341,2,none⟩ = some (.slice none 0 0):=(blk_cell BK341.out 2).trans rfl;have hfz15_0:=blk_frozen BK341.out 0;have hfz15_1:=blk_frozen BK341.out 1;have hfz15_2:=blk_frozen BK341.out 2;obtain ⟨Ao16,co16,eo16⟩:=Kd.R_slice HO336.out;subst eo16;obtain ⟨Ao17,co17,eo17⟩:=Kd.S_slice HO339.out;subst eo17)|(go_at_call 49;(with_reducible refine (impl_within.calls a2 0 1023 true _ A6.out).mono ?_);rintro e w' ⟨rfl,⟨nd,rfl⟩⟩)|(go_at_call 50;(with_reducible refine (impl_tree_value.calls t333 _ _ t334 _ _ t337 a2 t343 _ ?side1 ?side2 ?side3 ?side4 A8.out).mono ?_);(case side1=>refine (Kd.R_reads' (e:=3) (base:=w.heap.size) (ok:=fun k_=>True) (n:=t334.length) (c:=co16) ?_).2.2;exact (by (with_reducible repeat (first|apply Kd.R_alloc|apply Kd.R_drewN|apply Kd.R_drew));exact (Kd.R_mono (Kd.R_far (p:=⟨gb341,2,none⟩) (Kd.R_far (p:=⟨gb341,1,none⟩) (Kd.R_far (p:=⟨gb341,0,none⟩) (Kd.R_types HO336.out BK341.out (by decide)) (fun _ hk=>hk.2) (.int .i64 t333)) (fun _ hk=>hk.2) (.slice Ao16 t334.length co16)) (fun _ hk=>hk.2) (.slice Ao17 t337.length co17)) (fun _ h_=>h_.1))));(case side2=>exact (Kd.R_reads' HO336.out).2.1);(case side3=>refine (Kd.S_reads' (e:=24) (base:=w.heap.size) (ok:=fun k_=>some k_ ≠ (.slice Ao16 t334.length co16 : Value).ownBlock) (n:=t337.length) (c:=co17) ?_).2.2;exact (by (with_reducible repeat (first|apply Kd.S_alloc|apply Kd.S_drewN|apply Kd.S_drew));exact (Kd.S_mono (Kd.S_far (p:=⟨gb341,2,none⟩) (Kd.S_far (p:=⟨gb341,1,none⟩) (Kd.S_far (p:=⟨gb341,0,none⟩) (Kd.S_types HO339.out BK341.out (by decide)) (fun _ hk=>hk.2) (.int .i64 t333)) (fun _ hk=>hk.2) (.slice Ao16 t334.length co16)) (fun _ hk=>hk.2) (.slice Ao17 t337.length co17)) (fun _ h_=>h_.1))));(case side4=>exact (Kd.S_reads' HO339.out).2.1);rintro e w18 ⟨rfl,hb⟩;have n0_:=Aside0.mk (Kd.R_below (by (with_reducible repeat (first|apply Kd.R_alloc|apply Kd.R_drewN|apply Kd.R_drew));exact (Kd.R_mono (Kd.R_far (p:=⟨gb341,2,none⟩) (Kd.R_far (p:=⟨gb341,1,none⟩) (Kd.R_far (p:=⟨gb341,0,none⟩) (Kd.R_types HO336.out BK341.out (by decide)) (fun _ hk=>hk.2) (.int .i64 t333)) (fun _ hk=>hk.2) (.slice Ao16 t334.length co16)) (fun _ hk=>hk.2) (.slice Ao17 t337.length co17)) (fun _ h_=>h_.1))) hb);have n1_:=Aside0.mk (Kd.S_below (by (with_reducible repeat (first|apply Kd.S_alloc|apply Kd.S_drewN|apply Kd.S_drew));exact (Kd.S_mono (Kd.S_far (p:=⟨gb341,2,none⟩) (Kd.S_far (p:=⟨gb341,1,none⟩) (Kd.S_far (p:=⟨gb341,0,none⟩) (Kd.S_types HO339.out BK341.out (by decide)) (fun _ hk=>hk.2) (.int .i64 t333)) (fun _ hk=>hk.2) (.slice Ao16 t334.length co16)) (fun _ hk=>hk.2) (.slice Ao17 t337.length co17)) (fun _ h_=>h_.1))) hb);have n2_:=Aside0.mk (blk_below (g:=gb332) (o:=.cells #[.slice A0_0 l0_0.length c0_0,.slice A0_1 l0_1.length c0_1,.slice A0_2 l0_2.length c0_2,.slice A0_3 l0_3.length c0_3] 30 (0,0)) (by (with_reducible repeat first|apply blk_drewN|apply blk_drew|apply blk_alloc);refine blk_far ?_ NB332_341.out _;(with_reducible repeat first|apply blk_drewN|apply blk_drew|apply blk_alloc);refine blk_far ?_ NB332_341.out _;(with_reducible repeat first|apply blk_drewN|apply blk_drew|apply blk_alloc);refine blk_far ?_ NB332_341.out _;(with_reducible repeat first|apply blk_drewN|apply blk_drew|apply blk_alloc);exact BK332.out) hb);have n3_:=Aside0.mk (blk_below (g:=gb341) (o:=.cells #[.int .i64 t333,.slice Ao16 t334.length co16,.slice Ao17 t337.length co17] 61 (0,0)) (by (with_reducible repeat first|apply blk_drewN|apply blk_drew|apply blk_alloc);refine blk_put (cs:=#[.int .i64 t333,.slice Ao16 t334.length co16,.slice none 0 0]) ?_ 2 _ rfl;(with_reducible repeat first|apply blk_drewN|apply blk_drew|apply blk_alloc);refine blk_put (cs:=#[.int .i64 t333,.slice none 0 0,.slice none 0 0]) ?_ 1 _ rfl;(with_reducible repeat first|apply blk_drewN|apply blk_drew|apply blk_alloc);refine blk_put (cs:=#[.int .i64 0,.slice none 0 0,.slice none 0 0]) ?_ 0 _ rfl;(with_reducible repeat first|apply blk_drewN|apply blk_drew|apply blk_alloc);exact BK341.out) hb);have n4_:=Aside0.mk (below_step (by repeat (first|(with_reducible first|exact HB.out|apply below_alloc|apply pw_below_drewN|apply below_drew1|refine below_set ?_ GE332.out|refine below_set ?_ GE341.out)|exact HB.out)) hb);clear HO336;clear HO339;clear BK332;clear BK341;clear HB;have HO336:=n0_;have HO339:=n1_;have BK332:=n2_;have BK341:=n3_;have HB:=n4_;clear n0_ n1_ n2_ n3_ n4_;(try clear hb);(try clear hb2);(try clear hk);(try clear hi)))
    go_ret2
    exact ⟨by first|rfl|(simp [*,errW_none,errW_some] <;> rfl),by repeat (first|(with_reducible first|exact HB.out|apply below_alloc|apply pw_below_drewN|apply below_drew1|refine below_set ?_ GE332.out|refine below_set ?_ GE341.out)|exact HB.out)⟩
   ·rw [if_neg c9] at H
    have c9b0 : (t343 == 0) = false:=beq_eq_false_iff_ne.mpr c9
    have c9b1 : (t343 != 0) = true:=bne_iff_ne.mpr c9
    replace H:=Option.bind_eq_some_iff.mp H
    obtain ⟨t344,A190,H⟩:=H
    replace H : (some (t344,true)) = some (r1,r2):=H
    have A19:=Aside0.mk A190
    clear A190
    simp only [Option.some.injEq,Prod.mk.injEq] at H
    obtain ⟨rfl,rfl⟩:=H
    go_enter Try.func20,Try.ntmps20
    go_wp2_with (first|((with_reducible refine gate_dst (N:=3) rfl ?_);refine box_event ?hg (N:=3) ?hd (cs:=#[.slice A0_0 l0_0.length c0_0,.slice A0_1 l0_1.length c0_1,.slice A0_2 l0_2.length c0_2,.slice A0_3 l0_3.length c0_3]) (t:=30) ?hr ?_;(case hd=>rfl);(case hg=>rfl);(case hr=>first|(go_simp;done)|(go_simp;rfl));intro gb332 hg w20 hbox hb;have n0_:=Aside0.mk (below_step (by repeat (first|exact HB.out|apply below_alloc|apply pw_below_drewN|apply below_drew1)) hb);have n1_:=Aside0.mk (hbox);have n2_:=Aside0.mk ((by rw [hg];exact (below_size (by repeat (first|exact HB.out|apply below_alloc|apply pw_below_drewN|apply below_drew1))) : w.heap.size ≤ gb332));have n3_:=Aside0.mk ((by rw [hg];exact (below_size (by repeat (first|exact HB.out|apply below_alloc|apply pw_below_drewN|apply below_drew1))) : w.heap.size ≤ gb332));clear HB;have HB:=n0_;have BK332:=n1_;have GW332:=n2_;have GE332:=n3_;clear n0_ n1_ n2_ n3_;clear hb hbox hg;have hcz21_0 : w20.cell? ⟨gb332,0,none⟩ = some (.slice A0_0 l0_0.length c0_0):=(blk_cell BK332.out 0).trans rfl;have hcz21_1 : w20.cell? ⟨gb332,1,none⟩ = some (.slice A0_1 l0_1.length c0_1):=(blk_cell BK332.out 1).trans rfl;have hcz21_2 : w20.cell? ⟨gb332,2,none⟩ = some (.slice A0_2 l0_2.length c0_2):=(blk_cell BK332.out 2).trans rfl;have hcz21_3 : w20.cell? ⟨gb332,3,none⟩ = some (.slice A0_3 l0_3.length c0_3):=(blk_cell BK332.out 3).trans rfl;have hfz21_0:=blk_frozen BK332.out 0;have hfz21_1:=blk_frozen BK332.out 1;have hfz21_2:=blk_frozen BK332.out 2;have hfz21_3:=blk_frozen BK332.out 3)|((with_reducible refine gate_callee (f:=38) rfl ?_);refine goesL_ (some 13) rfl rfl Try.func38 (by kernel_rfl) rfl #[.agg #[.slice A0_0 l0_0.length c0_0,.slice A0_1 l0_1.length c0_1,.slice A0_2 l0_2.length c0_2,.slice A0_3 l0_3.length c0_3],.int .i64 a1] rfl (by (try simp only [List.map_toArray,List.map_cons,List.map_nil]);first|done|rfl|(simp only [List.length_drop,List.length_take];rfl)) ?_;(with_reducible refine (impl_treeOf.calls k _ _ l0_0 _ _ l0_1 _ _ l0_2 _ _ l0_3 a1 t333 t334 t337 true _ ?side1 ?side2 ?side3 ?side4 ?side5 ?side6 ?side7 ?side8 A4.out).mono ?_);(case side1=>repeat (first|exact (Kd.C_below HR0_0.out HB.out)|(with_reducible first|apply Kd.C_alloc|apply Kd.C_drewN|apply Kd.C_drew)));(case side2=>exact HC0_0.out);(case side3=>repeat (first|exact (Kd.C_below HR0_1.out HB.out)|(with_reducible first|apply Kd.C_alloc|apply Kd.C_drewN|apply Kd.C_drew)));(case side4=>exact HC0_1.out);(case side5=>repeat (first|exact (Kd.C_below HR0_2.out HB.out)|(with_reducible first|apply Kd.C_alloc|apply Kd.C_drewN|apply Kd.C_drew)));(case side6=>exact HC0_2.out);(case side7=>repeat (first|exact (Kd.C_below HR0_3.out HB.out)|(with_reducible first|apply Kd.C_alloc|apply Kd.C_drewN|apply Kd.C_drew)));(case side8=>exact HC0_3.out);rintro e w22 ⟨v335,v338,rfl,ho0,ho1,hb⟩;refine ⟨_,rfl,?_⟩;have n0_:=Aside0.mk (Kd.R_lower ho0 (below_size (by repeat (first|(with_reducible first|exact HB.out|apply below_alloc|apply pw_below_drewN|apply below_drew1|refine below_set ?_ GE332.out)|exact HB.out))));have n1_:=Aside0.mk (Kd.S_lower ho1 (below_size (by repeat (first|(with_reducible first|exact HB.out|apply below_alloc|apply pw_below_drewN|apply below_drew1|refine below_set ?_ GE332.out)|exact HB.out))));have n2_:=Aside0.mk (blk_below (g:=gb332) (o:=.cells #[.slice A0_0 l0_0.length c0_0,.slice A0_1 l0_1.length c0_1,.slice A0_2 l0_2.length c0_2,.slice A0_3 l0_3.length c0_3] 30 (0,0)) (by (with_reducible repeat first|apply blk_drewN|apply blk_drew|apply blk_alloc);exact BK332.out) hb);have n3_:=Aside0.mk (below_step (by repeat (first|(with_reducible first|exact HB.out|apply below_alloc|apply pw_below_drewN|apply below_drew1|refine below_set ?_ GE332.out)|exact HB.out)) hb);clear BK332;clear HB;have HO336:=n0_;have HO339:=n1_;have BK332:=n2_;have HB:=n3_;clear n0_ n1_ n2_ n3_;(try clear hb);(try clear hb2);(try clear hk);(try clear hi);(try clear ho0);(try clear ho1))|((with_reducible refine gate_dst (N:=8) rfl ?_);refine box_event ?hg (N:=8) ?hd (cs:=#[.int .i64 0,.slice none 0 0,.slice none 0 0]) (t:=61) ?hr ?_;(case hd=>rfl);(case hg=>rfl);(case hr=>first|(go_simp;done)|(go_simp;rfl));intro gb341 hg w23 hbox hb;have n0_:=Aside0.mk (Kd.R_below (by (with_reducible repeat (first|apply Kd.R_alloc|apply Kd.R_drewN|apply Kd.R_drew));exact HO336.out) hb);have n1_:=Aside0.mk (Kd.S_below (by (with_reducible repeat (first|apply Kd.S_alloc|apply Kd.S_drewN|apply Kd.S_drew));exact HO339.out) hb);have n2_:=Aside0.mk (blk_below (g:=gb332) (o:=.cells #[.slice A0_0 l0_0.length c0_0,.slice A0_1 l0_1.length c0_1,.slice A0_2 l0_2.length c0_2,.slice A0_3 l0_3.length c0_3] 30 (0,0)) (by (with_reducible repeat first|apply blk_drewN|apply blk_drew|apply blk_alloc);exact BK332.out) hb);have n3_:=Aside0.mk (below_step (by repeat (first|(with_reducible first|exact HB.out|apply below_alloc|apply pw_below_drewN|apply below_drew1|refine below_set ?_ GE332.out)|exact HB.out)) hb);have n4_:=Aside0.mk (hbox);have n5_:=Aside0.mk ((by rw [hg];exact (below_size (by repeat (first|(with_reducible first|exact HB.out|apply below_alloc|apply pw_below_drewN|apply below_drew1|refine below_set ?_ GE332.out)|exact HB.out))) : w.heap.size ≤ gb341));have n6_:=Aside0.mk ((by rw [hg];exact (below_size (by repeat (first|(with_reducible first|exact HB.out|apply below_alloc|apply pw_below_drewN|apply below_drew1|refine below_set ?_ GE332.out)|exact HB.out))) : w.heap.size ≤ gb341));have n7_:=Aside0.mk ((by rw [hg];exact Nat.ne_of_lt (blk_lt (g:=gb332) (o:=.cells #[.slice A0_0 l0_0.length c0_0,.slice A0_1 l0_1.length c0_1,.slice A0_2 l0_2.length c0_2,.slice A0_3 l0_3.length c0_3] 30 (0,0)) (by (with_reducible repeat first|apply blk_drewN|apply blk_drew|apply blk_alloc);exact BK332.out)) : gb332 ≠ gb341));have n8_:=Aside0.mk ((by rw [hg];exact Nat.ne_of_gt (blk_lt (g:=gb332) (o:=.cells #[.slice A0_0 l0_0.length c0_0,.slice A0_1 l0_1.length c0_1,.slice A0_2 l0_2.length c0_2,.slice A0_3 l0_3.length c0_3] 30 (0,0)) (by (with_reducible repeat first|apply blk_drewN|apply blk_drew|apply blk_alloc);exact BK332.out)) : gb341 ≠ gb332));clear HO336;clear HO339;clear BK332;clear HB;have HO336:=n0_;have HO339:=n1_;have BK332:=n2_;have HB:=n3_;have BK341:=n4_;have GW341:=n5_;have GE341:=n6_;have NB332_341:=n7_;have NB341_332:=n8_;clear n0_ n1_ n2_ n3_ n4_ n5_ n6_ n7_ n8_;clear hb hbox hg;have hnb24:=NB341_332.out;have hnc24:=NB332_341.out;have hcz25_0 : w23.cell? ⟨gb341,0,none⟩ = some (.int .i64 0):=(blk_cell BK341.out 0).trans rfl;have hcz25_1 : w23.cell? ⟨gb341,1,none⟩ = some (.slice none 0 0):=(blk_cell BK341.out 1).trans rfl;have hcz25_2 : w23.cell? ⟨gb341,2,none⟩ = some (.slice none 0 0):=(blk_cell BK341.out 2).trans rfl;have hfz25_0:=blk_frozen BK341.out 0;have hfz25_1:=blk_frozen BK341.out 1;have hfz25_2:=blk_frozen BK341.out 2;obtain ⟨Ao26,co26,eo26⟩:=Kd.R_slice HO336.out;subst eo26;obtain ⟨Ao27,co27,eo27⟩:=Kd.S_slice HO339.out;subst eo27)|(go_at_call 49;(with_reducible refine (impl_within.calls a2 0 1023 true _ A6.out).mono ?_);rintro e w' ⟨rfl,⟨nd,rfl⟩⟩)|(go_at_call 50;(with_reducible refine (impl_tree_value.calls t333 _ _ t334 _ _ t337 a2 t343 _ ?side1 ?side2 ?side3 ?side4 A8.out).mono ?_);(case side1=>refine (Kd.R_reads' (e:=3) (base:=w.heap.size) (ok:=fun k_=>True) (n:=t334.length) (c:=co26) ?_).2.2;exact (by (with_reducible repeat (first|apply Kd.R_alloc|apply Kd.R_drewN|apply Kd.R_drew));exact (Kd.R_mono (Kd.R_far (p:=⟨gb341,2,none⟩) (Kd.R_far (p:=⟨gb341,1,none⟩) (Kd.R_far (p:=⟨gb341,0,none⟩) (Kd.R_types HO336.out BK341.out (by decide)) (fun _ hk=>hk.2) (.int .i64 t333)) (fun _ hk=>hk.2) (.slice Ao26 t334.length co26)) (fun _ hk=>hk.2) (.slice Ao27 t337.length co27)) (fun _ h_=>h_.1))));(case side2=>exact (Kd.R_reads' HO336.out).2.1);(case side3=>refine (Kd.S_reads' (e:=24) (base:=w.heap.size) (ok:=fun k_=>some k_ ≠ (.slice Ao26 t334.length co26 : Value).ownBlock) (n:=t337.length) (c:=co27) ?_).2.2;exact (by (with_reducible repeat (first|apply Kd.S_alloc|apply Kd.S_drewN|apply Kd.S_drew));exact (Kd.S_mono (Kd.S_far (p:=⟨gb341,2,none⟩) (Kd.S_far (p:=⟨gb341,1,none⟩) (Kd.S_far (p:=⟨gb341,0,none⟩) (Kd.S_types HO339.out BK341.out (by decide)) (fun _ hk=>hk.2) (.int .i64 t333)) (fun _ hk=>hk.2) (.slice Ao26 t334.length co26)) (fun _ hk=>hk.2) (.slice Ao27 t337.length co27)) (fun _ h_=>h_.1))));(case side4=>exact (Kd.S_reads' HO339.out).2.1);rintro e w28 ⟨rfl,hb⟩;have n0_:=Aside0.mk (Kd.R_below (by (with_reducible repeat (first|apply Kd.R_alloc|apply Kd.R_drewN|apply Kd.R_drew));exact (Kd.R_mono (Kd.R_far (p:=⟨gb341,2,none⟩) (Kd.R_far (p:=⟨gb341,1,none⟩) (Kd.R_far (p:=⟨gb341,0,none⟩) (Kd.R_types HO336.out BK341.out (by decide)) (fun _ hk=>hk.2) (.int .i64 t333)) (fun _ hk=>hk.2) (.slice Ao26 t334.length co26)) (fun _ hk=>hk.2) (.slice Ao27 t337.length co27)) (fun _ h_=>h_.1))) hb);have n1_:=Aside0.mk (Kd.S_below (by (with_reducible repeat (first|apply Kd.S_alloc|apply Kd.S_drewN|apply Kd.S_drew));exact (Kd.S_mono (Kd.S_far (p:=⟨gb341,2,none⟩) (Kd.S_far (p:=⟨gb341,1,none⟩) (Kd.S_far (p:=⟨gb341,0,none⟩) (Kd.S_types HO339.out BK341.out (by decide)) (fun _ hk=>hk.2) (.int .i64 t333)) (fun _ hk=>hk.2) (.slice Ao26 t334.length co26)) (fun _ hk=>hk.2) (.slice Ao27 t337.length co27)) (fun _ h_=>h_.1))) hb);have n2_:=Aside0.mk (blk_below (g:=gb332) (o:=.cells #[.slice A0_0 l0_0.length c0_0,.slice A0_1 l0_1.length c0_1,.slice A0_2 l0_2.length c0_2,.slice A0_3 l0_3.length c0_3] 30 (0,0)) (by (with_reducible repeat first|apply blk_drewN|apply blk_drew|apply blk_alloc);refine blk_far ?_ NB332_341.out _;(with_reducible repeat first|apply blk_drewN|apply blk_drew|apply blk_alloc);refine blk_far ?_ NB332_341.out _;(with_reducible repeat first|apply blk_drewN|apply blk_drew|apply blk_alloc);refine blk_far ?_ NB332_341.out _;(with_reducible repeat first|apply blk_drewN|apply blk_drew|apply blk_alloc);exact BK332.out) hb);have n3_:=Aside0.mk (blk_below (g:=gb341) (o:=.cells #[.int .i64 t333,.slice Ao26 t334.length co26,.slice Ao27 t337.length co27] 61 (0,0)) (by (with_reducible repeat first|apply blk_drewN|apply blk_drew|apply blk_alloc);refine blk_put (cs:=#[.int .i64 t333,.slice Ao26 t334.length co26,.slice none 0 0]) ?_ 2 _ rfl;(with_reducible repeat first|apply blk_drewN|apply blk_drew|apply blk_alloc);refine blk_put (cs:=#[.int .i64 t333,.slice none 0 0,.slice none 0 0]) ?_ 1 _ rfl;(with_reducible repeat first|apply blk_drewN|apply blk_drew|apply blk_alloc);refine blk_put (cs:=#[.int .i64 0,.slice none 0 0,.slice none 0 0]) ?_ 0 _ rfl;(with_reducible repeat first|apply blk_drewN|apply blk_drew|apply blk_alloc);exact BK341.out) hb);have n4_:=Aside0.mk (below_step (by repeat (first|(with_reducible first|exact HB.out|apply below_alloc|apply pw_below_drewN|apply below_drew1|refine below_set ?_ GE332.out|refine below_set ?_ GE341.out)|exact HB.out)) hb);clear HO336;clear HO339;clear BK332;clear BK341;clear HB;have HO336:=n0_;have HO339:=n1_;have BK332:=n2_;have BK341:=n3_;have HB:=n4_;clear n0_ n1_ n2_ n3_ n4_;(try clear hb);(try clear hb2);(try clear hk);(try clear hi);have hcz29_0 : w28.cell? ⟨gb341,0,none⟩ = some (.int .i64 t333):=(blk_cell BK341.out 0).trans rfl;have hcz29_1 : w28.cell? ⟨gb341,1,none⟩ = some (.slice Ao26 t334.length co26):=(blk_cell BK341.out 1).trans rfl;have hcz29_2 : w28.cell? ⟨gb341,2,none⟩ = some (.slice Ao27 t337.length co27):=(blk_cell BK341.out 2).trans rfl;have hfz29_0:=blk_frozen BK341.out 0;have hfz29_1:=blk_frozen BK341.out 1;have hfz29_2:=blk_frozen BK341.out 2)|((with_reducible refine gate_callee (f:=50) rfl ?_);refine goesL_ (some 31) rfl rfl Try.func50 (by kernel_rfl) rfl #[.agg #[.int .i64 t333,.slice Ao26 t334.length co26,.slice Ao27 t337.length co27],.int .i64 a2] rfl (by (try simp only [List.map_toArray,List.map_cons,List.map_nil]);first|done|rfl|(simp only [List.length_drop,List.length_take];rfl)) ?_;(with_reducible refine (impl_tree_value.calls t333 _ _ t334 _ _ t337 a2 t344 _ ?side1 ?side2 ?side3 ?side4 A19.out).mono ?_);(case side1=>repeat (first|exact (Kd.R_reads' HO336.out).2.2|(with_reducible first|apply Kd.C_alloc|apply Kd.C_drewN|apply Kd.C_drew)));(case side2=>exact (Kd.R_reads' HO336.out).2.1);(case side3=>repeat (first|exact (Kd.S_reads' HO339.out).2.2|(with_reducible first|apply Kd.C_alloc|apply Kd.C_drewN|apply Kd.C_drew)));(case side4=>exact (Kd.S_reads' HO339.out).2.1);rintro e w30 ⟨rfl,hb⟩;refine ⟨_,rfl,?_⟩;have n0_:=Aside0.mk (Kd.R_below (by (with_reducible repeat (first|apply Kd.R_alloc|apply Kd.R_drewN|apply Kd.R_drew));exact HO336.out) hb);have n1_:=Aside0.mk (Kd.S_below (by (with_reducible repeat (first|apply Kd.S_alloc|apply Kd.S_drewN|apply Kd.S_drew));exact HO339.out) hb);have n2_:=Aside0.mk (blk_below (g:=gb332) (o:=.cells #[.slice A0_0 l0_0.length c0_0,.slice A0_1 l0_1.length c0_1,.slice A0_2 l0_2.length c0_2,.slice A0_3 l0_3.length c0_3] 30 (0,0)) (by (with_reducible repeat first|apply blk_drewN|apply blk_drew|apply blk_alloc);exact BK332.out) hb);have n3_:=Aside0.mk (blk_below (g:=gb341) (o:=.cells #[.int .i64 t333,.slice Ao26 t334.length co26,.slice Ao27 t337.length co27] 61 (0,0)) (by (with_reducible repeat first|apply blk_drewN|apply blk_drew|apply blk_alloc);exact BK341.out) hb);have n4_:=Aside0.mk (below_step (by repeat (first|(with_reducible first|exact HB.out|apply below_alloc|apply pw_below_drewN|apply below_drew1|refine below_set ?_ GE332.out|refine below_set ?_ GE341.out)|exact HB.out)) hb);clear HO336;clear HO339;clear BK332;clear BK341;clear HB;have HO336:=n0_;have HO339:=n1_;have BK332:=n2_;have BK341:=n3_;have HB:=n4_;clear n0_ n1_ n2_ n3_ n4_;(try clear hb);(try clear hb2);(try clear hk);(try clear hi)))
    go_ret2
    exact ⟨by first|rfl|(simp [*,errW_none,errW_some] <;> rfl),by repeat (first|(with_reducible first|exact HB.out|apply below_alloc|apply pw_below_drewN|apply below_drew1|refine below_set ?_ GE332.out|refine below_set ?_ GE341.out)|exact HB.out)⟩
  ·replace c7:=Bool.eq_false_iff.mpr c7
   subst c7
   have H1 : (some (0,false)) = some (r1,r2):=by rw [if_neg (show ¬ (false = true) by decide)] at H;exact H
   clear H
   have H:=H1
   clear H1
   simp only [Option.some.injEq,Prod.mk.injEq] at H
   obtain ⟨rfl,rfl⟩:=H
   go_enter Try.func20,Try.ntmps20
   go_wp2_with (first|((with_reducible refine gate_dst (N:=3) rfl ?_);refine box_event ?hg (N:=3) ?hd (cs:=#[.slice A0_0 l0_0.length c0_0,.slice A0_1 l0_1.length c0_1,.slice A0_2 l0_2.length c0_2,.slice A0_3 l0_3.length c0_3]) (t:=30) ?hr ?_;(case hd=>rfl);(case hg=>rfl);(case hr=>first|(go_simp;done)|(go_simp;rfl));intro gb332 hg w31 hbox hb;have n0_:=Aside0.mk (below_step (by repeat (first|exact HB.out|apply below_alloc|apply pw_below_drewN|apply below_drew1)) hb);have n1_:=Aside0.mk (hbox);have n2_:=Aside0.mk ((by rw [hg];exact (below_size (by repeat (first|exact HB.out|apply below_alloc|apply pw_below_drewN|apply below_drew1))) : w.heap.size ≤ gb332));have n3_:=Aside0.mk ((by rw [hg];exact (below_size (by repeat (first|exact HB.out|apply below_alloc|apply pw_below_drewN|apply below_drew1))) : w.heap.size ≤ gb332));clear HB;have HB:=n0_;have BK332:=n1_;have GW332:=n2_;have GE332:=n3_;clear n0_ n1_ n2_ n3_;clear hb hbox hg;have hcz32_0 : w31.cell? ⟨gb332,0,none⟩ = some (.slice A0_0 l0_0.length c0_0):=(blk_cell BK332.out 0).trans rfl;have hcz32_1 : w31.cell? ⟨gb332,1,none⟩ = some (.slice A0_1 l0_1.length c0_1):=(blk_cell BK332.out 1).trans rfl;have hcz32_2 : w31.cell? ⟨gb332,2,none⟩ = some (.slice A0_2 l0_2.length c0_2):=(blk_cell BK332.out 2).trans rfl;have hcz32_3 : w31.cell? ⟨gb332,3,none⟩ = some (.slice A0_3 l0_3.length c0_3):=(blk_cell BK332.out 3).trans rfl;have hfz32_0:=blk_frozen BK332.out 0;have hfz32_1:=blk_frozen BK332.out 1;have hfz32_2:=blk_frozen BK332.out 2;have hfz32_3:=blk_frozen BK332.out 3)|((with_reducible refine gate_callee (f:=38) rfl ?_);refine goesL_ (some 13) rfl rfl Try.func38 (by kernel_rfl) rfl #[.agg #[.slice A0_0 l0_0.length c0_0,.slice A0_1 l0_1.length c0_1,.slice A0_2 l0_2.length c0_2,.slice A0_3 l0_3.length c0_3],.int .i64 a1] rfl (by (try simp only [List.map_toArray,List.map_cons,List.map_nil]);first|done|rfl|(simp only [List.length_drop,List.length_take];rfl)) ?_;(with_reducible refine (impl_treeOf.calls k _ _ l0_0 _ _ l0_1 _ _ l0_2 _ _ l0_3 a1 t333 t334 t337 true _ ?side1 ?side2 ?side3 ?side4 ?side5 ?side6 ?side7 ?side8 A4.out).mono ?_);(case side1=>repeat (first|exact (Kd.C_below HR0_0.out HB.out)|(with_reducible first|apply Kd.C_alloc|apply Kd.C_drewN|apply Kd.C_drew)));(case side2=>exact HC0_0.out);(case side3=>repeat (first|exact (Kd.C_below HR0_1.out HB.out)|(with_reducible first|apply Kd.C_alloc|apply Kd.C_drewN|apply Kd.C_drew)));(case side4=>exact HC0_1.out);(case side5=>repeat (first|exact (Kd.C_below HR0_2.out HB.out)|(with_reducible first|apply Kd.C_alloc|apply Kd.C_drewN|apply Kd.C_drew)));(case side6=>exact HC0_2.out);(case side7=>repeat (first|exact (Kd.C_below HR0_3.out HB.out)|(with_reducible first|apply Kd.C_alloc|apply Kd.C_drewN|apply Kd.C_drew)));(case side8=>exact HC0_3.out);rintro e w33 ⟨v335,v338,rfl,ho0,ho1,hb⟩;refine ⟨_,rfl,?_⟩;have n0_:=Aside0.mk (Kd.R_lower ho0 (below_size (by repeat (first|(with_reducible first|exact HB.out|apply below_alloc|apply pw_below_drewN|apply below_drew1|refine below_set ?_ GE332.out)|exact HB.out))));have n1_:=Aside0.mk (Kd.S_lower ho1 (below_size (by repeat (first|(with_reducible first|exact HB.out|apply below_alloc|apply pw_below_drewN|apply below_drew1|refine below_set ?_ GE332.out)|exact HB.out))));have n2_:=Aside0.mk (blk_below (g:=gb332) (o:=.cells #[.slice A0_0 l0_0.length c0_0,.slice A0_1 l0_1.length c0_1,.slice A0_2 l0_2.length c0_2,.slice A0_3 l0_3.length c0_3] 30 (0,0)) (by (with_reducible repeat first|apply blk_drewN|apply blk_drew|apply blk_alloc);exact BK332.out) hb);have n3_:=Aside0.mk (below_step (by repeat (first|(with_reducible first|exact HB.out|apply below_alloc|apply pw_below_drewN|apply below_drew1|refine below_set ?_ GE332.out)|exact HB.out)) hb);clear BK332;clear HB;have HO336:=n0_;have HO339:=n1_;have BK332:=n2_;have HB:=n3_;clear n0_ n1_ n2_ n3_;(try clear hb);(try clear hb2);(try clear hk);(try clear hi);(try clear ho0);(try clear ho1))|((with_reducible refine gate_dst (N:=8) rfl ?_);refine box_event ?hg (N:=8) ?hd (cs:=#[.int .i64 0,.slice none 0 0,.slice none 0 0]) (t:=61) ?hr ?_;(case hd=>rfl);(case hg=>rfl);(case hr=>first|(go_simp;done)|(go_simp;rfl));intro gb341 hg w34 hbox hb;have n0_:=Aside0.mk (Kd.R_below (by (with_reducible repeat (first|apply Kd.R_alloc|apply Kd.R_drewN|apply Kd.R_drew));exact HO336.out) hb);have n1_:=Aside0.mk (Kd.S_below (by (with_reducible repeat (first|apply Kd.S_alloc|apply Kd.S_drewN|apply Kd.S_drew));exact HO339.out) hb);have n2_:=Aside0.mk (blk_below (g:=gb332) (o:=.cells #[.slice A0_0 l0_0.length c0_0,.slice A0_1 l0_1.length c0_1,.slice A0_2 l0_2.length c0_2,.slice A0_3 l0_3.length c0_3] 30 (0,0)) (by (with_reducible repeat first|apply blk_drewN|apply blk_drew|apply blk_alloc);exact BK332.out) hb);have n3_:=Aside0.mk (below_step (by repeat (first|(with_reducible first|exact HB.out|apply below_alloc|apply pw_below_drewN|apply below_drew1|refine below_set ?_ GE332.out)|exact HB.out)) hb);have n4_:=Aside0.mk (hbox);have n5_:=Aside0.mk ((by rw [hg];exact (below_size (by repeat (first|(with_reducible first|exact HB.out|apply below_alloc|apply pw_below_drewN|apply below_drew1|refine below_set ?_ GE332.out)|exact HB.out))) : w.heap.size ≤ gb341));have n6_:=Aside0.mk ((by rw [hg];exact (below_size (by repeat (first|(with_reducible first|exact HB.out|apply below_alloc|apply pw_below_drewN|apply below_drew1|refine below_set ?_ GE332.out)|exact HB.out))) : w.heap.size ≤ gb341));have n7_:=Aside0.mk ((by rw [hg];exact Nat.ne_of_lt (blk_lt (g:=gb332) (o:=.cells #[.slice A0_0 l0_0.length c0_0,.slice A0_1 l0_1.length c0_1,.slice A0_2 l0_2.length c0_2,.slice A0_3 l0_3.length c0_3] 30 (0,0)) (by (with_reducible repeat first|apply blk_drewN|apply blk_drew|apply blk_alloc);exact BK332.out)) : gb332 ≠ gb341));have n8_:=Aside0.mk ((by rw [hg];exact Nat.ne_of_gt (blk_lt (g:=gb332) (o:=.cells #[.slice A0_0 l0_0.length c0_0,.slice A0_1 l0_1.length c0_1,.slice A0_2 l0_2.length c0_2,.slice A0_3 l0_3.length c0_3] 30 (0,0)) (by (with_reducible repeat first|apply blk_drewN|apply blk_drew|apply blk_alloc);exact BK332.out)) : gb341 ≠ gb332));clear HO336;clear HO339;clear BK332;clear HB;have HO336:=n0_;have HO339:=n1_;have BK332:=n2_;have HB:=n3_;have BK341:=n4_;have GW341:=n5_;have GE341:=n6_;have NB332_341:=n7_;have NB341_332:=n8_;clear n0_ n1_ n2_ n3_ n4_ n5_ n6_ n7_ n8_;clear hb hbox hg;have hnb35:=NB341_332.out;have hnc35:=NB332_341.out;have hcz36_0 : w34.cell? ⟨gb341,0,none⟩ = some (.int .i64 0):=(blk_cell BK341.out 0).trans rfl;have hcz36_1 : w34.cell? ⟨gb341,1,none⟩ = some (.slice none 0 0):=(blk_cell BK341.out 1).trans rfl;have hcz36_2 : w34.cell? ⟨gb341,2,none⟩ = some (.slice none 0 0):=(blk_cell BK341.out 2).trans rfl;have hfz36_0:=blk_frozen BK341.out 0;have hfz36_1:=blk_frozen BK341.out 1;have hfz36_2:=blk_frozen BK341.out 2;obtain ⟨Ao37,co37,eo37⟩:=Kd.R_slice HO336.out;subst eo37;obtain ⟨Ao38,co38,eo38⟩:=Kd.S_slice HO339.out;subst eo38)|(go_at_call 49;(with_reducible refine (impl_within.calls a2 0 1023 false _ A6.out).mono ?_);rintro e w' ⟨rfl,⟨nd,rfl⟩⟩))
   go_ret2
   exact ⟨by first|rfl|(simp [*,errW_none,errW_some] <;> rfl),by repeat (first|(with_reducible first|exact HB.out|apply below_alloc|apply pw_below_drewN|apply below_drew1|refine below_set ?_ GE332.out|refine below_set ?_ GE341.out)|exact HB.out)⟩
 ·replace c5:=Bool.eq_false_iff.mpr c5
  subst c5
  have H1 : (some (0,false)) = some (r1,r2):=by rw [if_neg (show ¬ (false = true) by decide)] at H;exact H
  clear H
  have H:=H1
  clear H1
  simp only [Option.some.injEq,Prod.mk.injEq] at H
  obtain ⟨rfl,rfl⟩:=H
  go_enter Try.func20,Try.ntmps20
  go_wp2_with (first|((with_reducible refine gate_dst (N:=3) rfl ?_);refine box_event ?hg (N:=3) ?hd (cs:=#[.slice A0_0 l0_0.length c0_0,.slice A0_1 l0_1.length c0_1,.slice A0_2 l0_2.length c0_2,.slice A0_3 l0_3.length c0_3]) (t:=30) ?hr ?_;(case hd=>rfl);(case hg=>rfl);(case hr=>first|(go_simp;done)|(go_simp;rfl));intro gb332 hg w39 hbox hb;have n0_:=Aside0.mk (below_step (by repeat (first|exact HB.out|apply below_alloc|apply pw_below_drewN|apply below_drew1)) hb);have n1_:=Aside0.mk (hbox);have n2_:=Aside0.mk ((by rw [hg];exact (below_size (by repeat (first|exact HB.out|apply below_alloc|apply pw_below_drewN|apply below_drew1))) : w.heap.size ≤ gb332));have n3_:=Aside0.mk ((by rw [hg];exact (below_size (by repeat (first|exact HB.out|apply below_alloc|apply pw_below_drewN|apply below_drew1))) : w.heap.size ≤ gb332));clear HB;have HB:=n0_;have BK332:=n1_;have GW332:=n2_;have GE332:=n3_;clear n0_ n1_ n2_ n3_;clear hb hbox hg;have hcz40_0 : w39.cell? ⟨gb332,0,none⟩ = some (.slice A0_0 l0_0.length c0_0):=(blk_cell BK332.out 0).trans rfl;have hcz40_1 : w39.cell? ⟨gb332,1,none⟩ = some (.slice A0_1 l0_1.length c0_1):=(blk_cell BK332.out 1).trans rfl;have hcz40_2 : w39.cell? ⟨gb332,2,none⟩ = some (.slice A0_2 l0_2.length c0_2):=(blk_cell BK332.out 2).trans rfl;have hcz40_3 : w39.cell? ⟨gb332,3,none⟩ = some (.slice A0_3 l0_3.length c0_3):=(blk_cell BK332.out 3).trans rfl;have hfz40_0:=blk_frozen BK332.out 0;have hfz40_1:=blk_frozen BK332.out 1;have hfz40_2:=blk_frozen BK332.out 2;have hfz40_3:=blk_frozen BK332.out 3)|((with_reducible refine gate_callee (f:=38) rfl ?_);refine goesL_ (some 13) rfl rfl Try.func38 (by kernel_rfl) rfl #[.agg #[.slice A0_0 l0_0.length c0_0,.slice A0_1 l0_1.length c0_1,.slice A0_2 l0_2.length c0_2,.slice A0_3 l0_3.length c0_3],.int .i64 a1] rfl (by (try simp only [List.map_toArray,List.map_cons,List.map_nil]);first|done|rfl|(simp only [List.length_drop,List.length_take];rfl)) ?_;(with_reducible refine (impl_treeOf.calls k _ _ l0_0 _ _ l0_1 _ _ l0_2 _ _ l0_3 a1 t333 t334 t337 false _ ?side1 ?side2 ?side3 ?side4 ?side5 ?side6 ?side7 ?side8 A4.out).mono ?_);(case side1=>repeat (first|exact (Kd.C_below HR0_0.out HB.out)|(with_reducible first|apply Kd.C_alloc|apply Kd.C_drewN|apply Kd.C_drew)));(case side2=>exact HC0_0.out);(case side3=>repeat (first|exact (Kd.C_below HR0_1.out HB.out)|(with_reducible first|apply Kd.C_alloc|apply Kd.C_drewN|apply Kd.C_drew)));(case side4=>exact HC0_1.out);(case side5=>repeat (first|exact (Kd.C_below HR0_2.out HB.out)|(with_reducible first|apply Kd.C_alloc|apply Kd.C_drewN|apply Kd.C_drew)));(case side6=>exact HC0_2.out);(case side7=>repeat (first|exact (Kd.C_below HR0_3.out HB.out)|(with_reducible first|apply Kd.C_alloc|apply Kd.C_drewN|apply Kd.C_drew)));(case side8=>exact HC0_3.out);rintro e w41 ⟨v335,v338,rfl,ho0,ho1,hb⟩;refine ⟨_,rfl,?_⟩;have n0_:=Aside0.mk (Kd.R_lower ho0 (below_size (by repeat (first|(with_reducible first|exact HB.out|apply below_alloc|apply pw_below_drewN|apply below_drew1|refine below_set ?_ GE332.out)|exact HB.out))));have n1_:=Aside0.mk (Kd.S_lower ho1 (below_size (by repeat (first|(with_reducible first|exact HB.out|apply below_alloc|apply pw_below_drewN|apply below_drew1|refine below_set ?_ GE332.out)|exact HB.out))));have n2_:=Aside0.mk (blk_below (g:=gb332) (o:=.cells #[.slice A0_0 l0_0.length c0_0,.slice A0_1 l0_1.length c0_1,.slice A0_2 l0_2.length c0_2,.slice A0_3 l0_3.length c0_3] 30 (0,0)) (by (with_reducible repeat first|apply blk_drewN|apply blk_drew|apply blk_alloc);exact BK332.out) hb);have n3_:=Aside0.mk (below_step (by repeat (first|(with_reducible first|exact HB.out|apply below_alloc|apply pw_below_drewN|apply below_drew1|refine below_set ?_ GE332.out)|exact HB.out)) hb);clear BK332;clear HB;have HO336:=n0_;have HO339:=n1_;have BK332:=n2_;have HB:=n3_;clear n0_ n1_ n2_ n3_;(try clear hb);(try clear hb2);(try clear hk);(try clear hi);(try clear ho0);(try clear ho1))|((with_reducible refine gate_dst (N:=8) rfl ?_);refine box_event ?hg (N:=8) ?hd (cs:=#[.int .i64 0,.slice none 0 0,.slice none 0 0]) (t:=61) ?hr ?_;(case hd=>rfl);(case hg=>rfl);(case hr=>first|(go_simp;done)|(go_simp;rfl));intro gb341 hg w42 hbox hb;have n0_:=Aside0.mk (Kd.R_below (by (with_reducible repeat (first|apply Kd.R_alloc|apply Kd.R_drewN|apply Kd.R_drew));exact HO336.out) hb);have n1_:=Aside0.mk (Kd.S_below (by (with_reducible repeat (first|apply Kd.S_alloc|apply Kd.S_drewN|apply Kd.S_drew));exact HO339.out) hb);have n2_:=Aside0.mk (blk_below (g:=gb332) (o:=.cells #[.slice A0_0 l0_0.length c0_0,.slice A0_1 l0_1.length c0_1,.slice A0_2 l0_2.length c0_2,.slice A0_3 l0_3.length c0_3] 30 (0,0)) (by (with_reducible repeat first|apply blk_drewN|apply blk_drew|apply blk_alloc);exact BK332.out) hb);have n3_:=Aside0.mk (below_step (by repeat (first|(with_reducible first|exact HB.out|apply below_alloc|apply pw_below_drewN|apply below_drew1|refine below_set ?_ GE332.out)|exact HB.out)) hb);have n4_:=Aside0.mk (hbox);have n5_:=Aside0.mk ((by rw [hg];exact (below_size (by repeat (first|(with_reducible first|exact HB.out|apply below_alloc|apply pw_below_drewN|apply below_drew1|refine below_set ?_ GE332.out)|exact HB.out))) : w.heap.size ≤ gb341));have n6_:=Aside0.mk ((by rw [hg];exact (below_size (by repeat (first|(with_reducible first|exact HB.out|apply below_alloc|apply pw_below_drewN|apply below_drew1|refine below_set ?_ GE332.out)|exact HB.out))) : w.heap.size ≤ gb341));have n7_:=Aside0.mk ((by rw [hg];exact Nat.ne_of_lt (blk_lt (g:=gb332) (o:=.cells #[.slice A0_0 l0_0.length c0_0,.slice A0_1 l0_1.length c0_1,.slice A0_2 l0_2.length c0_2,.slice A0_3 l0_3.length c0_3] 30 (0,0)) (by (with_reducible repeat first|apply blk_drewN|apply blk_drew|apply blk_alloc);exact BK332.out)) : gb332 ≠ gb341));have n8_:=Aside0.mk ((by rw [hg];exact Nat.ne_of_gt (blk_lt (g:=gb332) (o:=.cells #[.slice A0_0 l0_0.length c0_0,.slice A0_1 l0_1.length c0_1,.slice A0_2 l0_2.length c0_2,.slice A0_3 l0_3.length c0_3] 30 (0,0)) (by (with_reducible repeat first|apply blk_drewN|apply blk_drew|apply blk_alloc);exact BK332.out)) : gb341 ≠ gb332));clear HO336;clear HO339;clear BK332;clear HB;have HO336:=n0_;have HO339:=n1_;have BK332:=n2_;have HB:=n3_;have BK341:=n4_;have GW341:=n5_;have GE341:=n6_;have NB332_341:=n7_;have NB341_332:=n8_;clear n0_ n1_ n2_ n3_ n4_ n5_ n6_ n7_ n8_;clear hb hbox hg;have hnb43:=NB341_332.out;have hnc43:=NB332_341.out;have hcz44_0 : w42.cell? ⟨gb341,0,none⟩ = some (.int .i64 0):=(blk_cell BK341.out 0).trans rfl;have hcz44_1 : w42.cell? ⟨gb341,1,none⟩ = some (.slice none 0 0):=(blk_cell BK341.out 1).trans rfl;have hcz44_2 : w42.cell? ⟨gb341,2,none⟩ = some (.slice none 0 0):=(blk_cell BK341.out 2).trans rfl;have hfz44_0:=blk_frozen BK341.out 0;have hfz44_1:=blk_frozen BK341.out 1;have hfz44_2:=blk_frozen BK341.out 2;obtain ⟨Ao45,co45,eo45⟩:=Kd.R_slice HO336.out;subst eo45;obtain ⟨Ao46,co46,eo46⟩:=Kd.S_slice HO339.out;subst eo46))
  go_ret2
  exact ⟨by first|rfl|(simp [*,errW_none,errW_some] <;> rfl),by repeat (first|(with_reducible first|exact HB.out|apply below_alloc|apply pw_below_drewN|apply below_drew1|refine below_set ?_ GE332.out|refine below_set ?_ GE341.out)|exact HB.out)⟩

/-! ### laws_FnExactValueIn: function 5 -/
def laws_FnExactValueIn.j0 : Nat → Bool → List (List Int) → List Int → List Int → List Int → List (List Int) → List Int → List Int → List Int → Option (Bool)
 | 0,_,_,_,_,_,_,_,_,_=>none
 | k + 1,x42,x346000,x346001,x346002,x346003,x374000,x374001,x374002,x374003=>if x42 = true then (some false) else ((laws_toSpace.f k x346000 x346001 x346002 x346003).bind fun bt376=>((laws_eqSpace.f k x374000 x374001 x374002 x374003 bt376.1 bt376.2.1 bt376.2.2.1 bt376.2.2.2).bind fun t388=>(if t388 = true then (some true) else (some false))))
def laws_FnExactValueIn.f (k : Nat) (l0_0 : List (List Int)) (l0_1 : List Int) (l0_2 : List Int) (l0_3 : List Int) (a1 : Int) (a2 : Int) : Option (Bool):=(laws_szSpace.f k l0_0 l0_1 l0_2 l0_3 1048576).bind fun t346=>(if t346 < 0 then (some true) else ((laws_toSpace.f k l0_0 l0_1 l0_2 l0_3).bind fun bt347=>((spec_ValueIn.f k bt347.1 bt347.2.1 bt347.2.2.1 bt347.2.2.2 a1 a2).bind fun bt359=>((laws_toSpace.f k l0_0 l0_1 l0_2 l0_3).bind fun bt361=>((impl_ValueIn.f k bt361.1 bt361.2.1 bt361.2.2.1 bt361.2.2.2 a1 a2).bind fun bt374=>(if bt374.1 = bt359.1 then (laws_FnExactValueIn.j0 k (bt374.2 != bt359.2) l0_0 l0_1 l0_2 l0_3 bt361.1 bt361.2.1 bt361.2.2.1 bt361.2.2.2) else (laws_FnExactValueIn.j0 k true l0_0 l0_1 l0_2 l0_3 bt361.1 bt361.2.1 bt361.2.2.1 bt361.2.2.2)))))))
theorem laws_FnExactValueIn.mono_l : ∀ k,(∀ y0 y1 y2 y3 y4 y5 y6 y7 y8,LeO (laws_FnExactValueIn.j0 k y0 y1 y2 y3 y4 y5 y6 y7 y8) (laws_FnExactValueIn.j0 (k + 1) y0 y1 y2 y3 y4 y5 y6 y7 y8))
 | 0=>fun _ _ _ _ _ _ _ _ _ r h=>by simp [laws_FnExactValueIn.j0] at h
 | k + 1=>by
  have ih0:=laws_FnExactValueIn.mono_l k
  ·intro y0 y1 y2 y3 y4 y5 y6 y7 y8
   unfold laws_FnExactValueIn.j0
   repeat' first
   | (with_reducible exact ih0 _ _ _ _ _ _ _ _ _)
   | (with_reducible exact impl_ValueIn.mono _ _ _ _ _ _ _)
   | (with_reducible exact laws_eqSpace.mono _ _ _ _ _ _ _ _ _)
   | (with_reducible exact laws_szSpace.mono _ _ _ _ _ _)
   | (with_reducible exact laws_toSpace.mono _ _ _ _ _)
   | (with_reducible exact spec_ValueIn.mono _ _ _ _ _ _ _)
   | (with_reducible exact LeO.refl _)
   | (with_reducible exact LeO.none _)
   | (with_reducible refine LeO.ite ?_ ?_)
   | (with_reducible refine LeO.bind ?_ (fun _=>?_))
   | exact ih0 _ _ _ _ _ _ _ _ _
   | exact impl_ValueIn.mono _ _ _ _ _ _ _
   | exact laws_eqSpace.mono _ _ _ _ _ _ _ _ _
   | exact laws_szSpace.mono _ _ _ _ _ _
   | exact laws_toSpace.mono _ _ _ _ _
   | exact spec_ValueIn.mono _ _ _ _ _ _ _
   | exact LeO.none _
   | refine LeO.ite ?_ ?_
   | refine LeO.bind ?_ (fun _=>?_)
theorem laws_FnExactValueIn.mono : ∀ a0 a1 a2 a3 a4 a5 k,LeO (laws_FnExactValueIn.f k a0 a1 a2 a3 a4 a5) (laws_FnExactValueIn.f (k + 1) a0 a1 a2 a3 a4 a5):=by
 intro a0 a1 a2 a3 a4 a5 k
 have ih0:=laws_FnExactValueIn.mono_l k
 unfold laws_FnExactValueIn.f
 repeat' first
   | (with_reducible exact ih0 _ _ _ _ _ _ _ _ _)
   | (with_reducible exact impl_ValueIn.mono _ _ _ _ _ _ _)
   | (with_reducible exact laws_eqSpace.mono _ _ _ _ _ _ _ _ _)
   | (with_reducible exact laws_szSpace.mono _ _ _ _ _ _)
   | (with_reducible exact laws_toSpace.mono _ _ _ _ _)
   | (with_reducible exact spec_ValueIn.mono _ _ _ _ _ _ _)
   | (with_reducible exact LeO.refl _)
   | (with_reducible exact LeO.none _)
   | (with_reducible refine LeO.ite ?_ ?_)
   | (with_reducible refine LeO.bind ?_ (fun _=>?_))
   | exact ih0 _ _ _ _ _ _ _ _ _
   | exact impl_ValueIn.mono _ _ _ _ _ _ _
   | exact laws_eqSpace.mono _ _ _ _ _ _ _ _ _
   | exact laws_szSpace.mono _ _ _ _ _ _
   | exact laws_toSpace.mono _ _ _ _ _
   | exact spec_ValueIn.mono _ _ _ _ _ _ _
   | exact LeO.none _
   | refine LeO.ite ?_ ?_
   | refine LeO.bind ?_ (fun _=>?_)
set_option maxHeartbeats 8000000 in
set_option maxRecDepth 100000 in
theorem laws_FnExactValueIn.calls (k : Nat) (A0_0 : Option Addr) (c0_0 : Nat) (l0_0 : List (List Int)) (A0_1 : Option Addr) (c0_1 : Nat) (l0_1 : List Int) (A0_2 : Option Addr) (c0_2 : Nat) (l0_2 : List Int) (A0_3 : Option Addr) (c0_3 : Nat) (l0_3 : List Int) (a1 : Int) (a2 : Int) (r : Bool) (w : World) (hr0_0 : Kd.C (Kd.slice 5 (Kd.int .u8)) w A0_0 l0_0.length l0_0) (hc0_0 : l0_0.length ≤ c0_0) (hr0_1 : Kd.C (Kd.int .u8) w A0_1 l0_1.length l0_1) (hc0_1 : l0_1.length ≤ c0_1) (hr0_2 : Kd.C (Kd.int .i64) w A0_2 l0_2.length l0_2) (hc0_2 : l0_2.length ≤ c0_2) (hr0_3 : Kd.C (Kd.int .i64) w A0_3 l0_3.length l0_3) (hc0_3 : l0_3.length ≤ c0_3) (h : laws_FnExactValueIn.f k l0_0 l0_1 l0_2 l0_3 a1 a2 = some r) :
  Calls Try.prog 5 #[.agg #[.slice A0_0 l0_0.length c0_0,.slice A0_1 l0_1.length c0_1,.slice A0_2 l0_2.length c0_2,.slice A0_3 l0_3.length c0_3],.int .i64 a1,.int .i64 a2] w fun e w'=>e = .returned (.bool r)∧Below w.heap.size w w':=by
 have hu26:=Try.underlying26
 have hu30:=Try.underlying30
 have HR0_0:=Aside0.mk hr0_0
 have HC0_0:=Aside0.mk hc0_0
 clear hr0_0 hc0_0
 have HR0_1:=Aside0.mk hr0_1
 have HC0_1:=Aside0.mk hc0_1
 clear hr0_1 hc0_1
 have HR0_2:=Aside0.mk hr0_2
 have HC0_2:=Aside0.mk hc0_2
 clear hr0_2 hc0_2
 have HR0_3:=Aside0.mk hr0_3
 have HC0_3:=Aside0.mk hc0_3
 clear hr0_3 hc0_3
 have HB:=Aside0.mk (Below.refl w.heap.size w)
 have H : ((laws_szSpace.f k l0_0 l0_1 l0_2 l0_3 1048576).bind fun t346=>(if t346 < 0 then (some true) else ((laws_toSpace.f k l0_0 l0_1 l0_2 l0_3).bind fun bt347=>((spec_ValueIn.f k bt347.1 bt347.2.1 bt347.2.2.1 bt347.2.2.2 a1 a2).bind fun bt359=>((laws_toSpace.f k l0_0 l0_1 l0_2 l0_3).bind fun bt361=>((impl_ValueIn.f k bt361.1 bt361.2.1 bt361.2.2.1 bt361.2.2.2 a1 a2).bind fun bt374=>(if bt374.1 = bt359.1 then (laws_FnExactValueIn.j0 k (bt374.2 != bt359.2) l0_0 l0_1 l0_2 l0_3 bt361.1 bt361.2.1 bt361.2.2.1 bt361.2.2.2) else (laws_FnExactValueIn.j0 k true l0_0 l0_1 l0_2 l0_3 bt361.1 bt361.2.1 bt361.2.2.1 bt361.2.2.2)))))))) = some r:=h
 clear h
 replace H:=Option.bind_eq_some_iff.mp H
 obtain ⟨t346,A40,H⟩:=H
 replace H : (if t346 < 0 then (some true) else ((laws_toSpace.f k l0_0 l0_1 l0_2 l0_3).bind fun bt347=>((spec_ValueIn.f k bt347.1 bt347.2.1 bt347.2.2.1 bt347.2.2.2 a1 a2).bind fun bt359=>((laws_toSpace.f k l0_0 l0_1 l0_2 l0_3).bind fun bt361=>((impl_ValueIn.f k bt361.1 bt361.2.1 bt361.2.2.1 bt361.2.2.2 a1 a2).bind fun bt374=>(if bt374.1 = bt359.1 then (laws_FnExactValueIn.j0 k (bt374.2 != bt359.2) l0_0 l0_1 l0_2 l0_3 bt361.1 bt361.2.1 bt361.2.2.1 bt361.2.2.2) else (laws_FnExactValueIn.j0 k true l0_0 l0_1 l0_2 l0_3 bt361.1 bt361.2.1 bt361.2.2.1 bt361.2.2.2))))))) = some r:=H
 have A4:=Aside0.mk A40
 clear A40
 by_cases c5 : t346 < 0
 ·rw [if_pos c5] at H
  have c5b0 : decide (t346 < 0) = true:=decide_eq_true c5
  clear c5
  obtain rfl:=Option.some.inj H
  go_enter Try.func5,Try.ntmps5
  go_wp2_with (first|((with_reducible refine gate_dst (N:=3) rfl ?_);refine box_event ?hg (N:=3) ?hd (cs:=#[.slice A0_0 l0_0.length c0_0,.slice A0_1 l0_1.length c0_1,.slice A0_2 l0_2.length c0_2,.slice A0_3 l0_3.length c0_3]) (t:=26) ?hr ?_;(case hd=>rfl);(case hg=>rfl);(case hr=>first|(go_simp;done)|(go_simp;rfl));intro gb345 hg w6 hbox hb;have n0_:=Aside0.mk (below_step (by repeat (first|exact HB.out|apply below_alloc|apply pw_below_drewN|apply below_drew1)) hb);have n1_:=Aside0.mk (hbox);have n2_:=Aside0.mk ((by rw [hg];exact (below_size (by repeat (first|exact HB.out|apply below_alloc|apply pw_below_drewN|apply below_drew1))) : w.heap.size ≤ gb345));have n3_:=Aside0.mk ((by rw [hg];exact (below_size (by repeat (first|exact HB.out|apply below_alloc|apply pw_below_drewN|apply below_drew1))) : w.heap.size ≤ gb345));clear HB;have HB:=n0_;have BK345:=n1_;have GW345:=n2_;have GE345:=n3_;clear n0_ n1_ n2_ n3_;clear hb hbox hg;have hcz7_0 : w6.cell? ⟨gb345,0,none⟩ = some (.slice A0_0 l0_0.length c0_0):=(blk_cell BK345.out 0).trans rfl;have hcz7_1 : w6.cell? ⟨gb345,1,none⟩ = some (.slice A0_1 l0_1.length c0_1):=(blk_cell BK345.out 1).trans rfl;have hcz7_2 : w6.cell? ⟨gb345,2,none⟩ = some (.slice A0_2 l0_2.length c0_2):=(blk_cell BK345.out 2).trans rfl;have hcz7_3 : w6.cell? ⟨gb345,3,none⟩ = some (.slice A0_3 l0_3.length c0_3):=(blk_cell BK345.out 3).trans rfl;have hfz7_0:=blk_frozen BK345.out 0;have hfz7_1:=blk_frozen BK345.out 1;have hfz7_2:=blk_frozen BK345.out 2;have hfz7_3:=blk_frozen BK345.out 3)|((with_reducible refine gate_callee (f:=8) rfl ?_);refine goesL_ (some 15) rfl rfl Try.func8 (by kernel_rfl) rfl #[.agg #[.slice A0_0 l0_0.length c0_0,.slice A0_1 l0_1.length c0_1,.slice A0_2 l0_2.length c0_2,.slice A0_3 l0_3.length c0_3],.int .i64 1048576] rfl (by (try simp only [List.map_toArray,List.map_cons,List.map_nil]);first|done|rfl|(simp only [List.length_drop,List.length_take];rfl)) ?_;(with_reducible refine (laws_szSpace.calls k _ _ l0_0 _ _ l0_1 _ _ l0_2 _ _ l0_3 1048576 t346 _ ?side1 ?side2 ?side3 ?side4 ?side5 ?side6 ?side7 ?side8 A4.out).mono ?_);(case side1=>repeat (first|exact (Kd.C_below HR0_0.out HB.out)|(with_reducible first|apply Kd.C_alloc|apply Kd.C_drewN|apply Kd.C_drew)));(case side2=>exact HC0_0.out);(case side3=>repeat (first|exact (Kd.C_below HR0_1.out HB.out)|(with_reducible first|apply Kd.C_alloc|apply Kd.C_drewN|apply Kd.C_drew)));(case side4=>exact HC0_1.out);(case side5=>repeat (first|exact (Kd.C_below HR0_2.out HB.out)|(with_reducible first|apply Kd.C_alloc|apply Kd.C_drewN|apply Kd.C_drew)));(case side6=>exact HC0_2.out);(case side7=>repeat (first|exact (Kd.C_below HR0_3.out HB.out)|(with_reducible first|apply Kd.C_alloc|apply Kd.C_drewN|apply Kd.C_drew)));(case side8=>exact HC0_3.out);rintro e w8 ⟨rfl,hb⟩;refine ⟨_,rfl,?_⟩;have n0_:=Aside0.mk (blk_below (g:=gb345) (o:=.cells #[.slice A0_0 l0_0.length c0_0,.slice A0_1 l0_1.length c0_1,.slice A0_2 l0_2.length c0_2,.slice A0_3 l0_3.length c0_3] 26 (0,0)) (by (with_reducible repeat first|apply blk_drewN|apply blk_drew|apply blk_alloc);exact BK345.out) hb);have n1_:=Aside0.mk (below_step (by repeat (first|(with_reducible first|exact HB.out|apply below_alloc|apply pw_below_drewN|apply below_drew1|refine below_set ?_ GE345.out)|exact HB.out)) hb);clear BK345;clear HB;have BK345:=n0_;have HB:=n1_;clear n0_ n1_;(try clear hb);(try clear hb2);(try clear hk);(try clear hi)))
  go_ret
  exact ⟨by first|rfl|(simp [*,errW_none,errW_some] <;> rfl),by repeat (first|(with_reducible first|exact HB.out|apply below_alloc|apply pw_below_drewN|apply below_drew1|refine below_set ?_ GE345.out)|exact HB.out)⟩
 ·rw [if_neg c5] at H
  have c5b0 : decide (t346 < 0) = false:=decide_eq_false c5
  clear c5
  replace H:=Option.bind_eq_some_iff.mp H
  obtain ⟨⟨t347,t350,t353,t356⟩,A90,H⟩:=H
  replace H : ((spec_ValueIn.f k t347 t350 t353 t356 a1 a2).bind fun bt359=>((laws_toSpace.f k l0_0 l0_1 l0_2 l0_3).bind fun bt361=>((impl_ValueIn.f k bt361.1 bt361.2.1 bt361.2.2.1 bt361.2.2.2 a1 a2).bind fun bt374=>(if bt374.1 = bt359.1 then (laws_FnExactValueIn.j0 k (bt374.2 != bt359.2) l0_0 l0_1 l0_2 l0_3 bt361.1 bt361.2.1 bt361.2.2.1 bt361.2.2.2) else (laws_FnExactValueIn.j0 k true l0_0 l0_1 l0_2 l0_3 bt361.1 bt361.2.1 bt361.2.2.1 bt361.2.2.2))))) = some r:=H
  have A9:=Aside0.mk A90
  clear A90
  replace H:=Option.bind_eq_some_iff.mp H
  obtain ⟨⟨t359,t360⟩,A100,H⟩:=H
  replace H : ((laws_toSpace.f k l0_0 l0_1 l0_2 l0_3).bind fun bt361=>((impl_ValueIn.f k bt361.1 bt361.2.1 bt361.2.2.1 bt361.2.2.2 a1 a2).bind fun bt374=>(if bt374.1 = t359 then (laws_FnExactValueIn.j0 k (bt374.2 != t360) l0_0 l0_1 l0_2 l0_3 bt361.1 bt361.2.1 bt361.2.2.1 bt361.2.2.2) else (laws_FnExactValueIn.j0 k true l0_0 l0_1 l0_2 l0_3 bt361.1 bt361.2.1 bt361.2.2.1 bt361.2.2.2)))) = some r:=H
  have A10:=Aside0.mk A100
  clear A100
  replace H:=Option.bind_eq_some_iff.mp H
  obtain ⟨⟨t361,t364,t367,t370⟩,A110,H⟩:=H
  replace H : ((impl_ValueIn.f k t361 t364 t367 t370 a1 a2).bind fun bt374=>(if bt374.1 = t359 then (laws_FnExactValueIn.j0 k (bt374.2 != t360) l0_0 l0_1 l0_2 l0_3 t361 t364 t367 t370) else (laws_FnExactValueIn.j0 k true l0_0 l0_1 l0_2 l0_3 t361 t364 t367 t370))) = some r:=H
  have A11:=Aside0.mk A110
  clear A110
  replace H:=Option.bind_eq_some_iff.mp H
  obtain ⟨⟨t374,t375⟩,A120,H⟩:=H
  replace H : (if t374 = t359 then (laws_FnExactValueIn.j0 k (t375 != t360) l0_0 l0_1 l0_2 l0_3 t361 t364 t367 t370) else (laws_FnExactValueIn.j0 k true l0_0 l0_1 l0_2 l0_3 t361 t364 t367 t370)) = some r:=H
  have A12:=Aside0.mk A120
  clear A120
  have HC13:=Aside0.mk H
  clear H
  go_enter Try.func5,Try.ntmps5
  go_upto_region 8 with (first|((with_reducible refine gate_dst (N:=3) rfl ?_);refine box_event ?hg (N:=3) ?hd (cs:=#[.slice A0_0 l0_0.length c0_0,.slice A0_1 l0_1.length c0_1,.slice A0_2 l0_2.length c0_2,.slice A0_3 l0_3.length c0_3]) (t:=26) ?hr ?_;(case hd=>rfl);(case hg=>rfl);(case hr=>first|(go_simp;done)|(go_simp;rfl));intro gb345 hg w14 hbox hb;have n0_:=Aside0.mk (below_step (by repeat (first|exact HB.out|apply below_alloc|apply pw_below_drewN|apply below_drew1)) hb);have n1_:=Aside0.mk (hbox);have n2_:=Aside0.mk ((by rw [hg];exact (below_size (by repeat (first|exact HB.out|apply below_alloc|apply pw_below_drewN|apply below_drew1))) : w.heap.size ≤ gb345));have n3_:=Aside0.mk ((by rw [hg];exact (below_size (by repeat (first|exact HB.out|apply below_alloc|apply pw_below_drewN|apply below_drew1))) : w.heap.size ≤ gb345));clear HB;have HB:=n0_;have BK345:=n1_;have GW345:=n2_;have GE345:=n3_;clear n0_ n1_ n2_ n3_;clear hb hbox hg;have hcz15_0 : w14.cell? ⟨gb345,0,none⟩ = some (.slice A0_0 l0_0.length c0_0):=(blk_cell BK345.out 0).trans rfl;have hcz15_1 : w14.cell? ⟨gb345,1,none⟩ = some (.slice A0_1 l0_1.length c0_1):=(blk_cell BK345.out 1).trans rfl;have hcz15_2 : w14.cell? ⟨gb345,2,none⟩ = some (.slice A0_2 l0_2.length c0_2):=(blk_cell BK345.out 2).trans rfl;have hcz15_3 : w14.cell? ⟨gb345,3,none⟩ = some (.slice A0_3 l0_3.length c0_3):=(blk_cell BK345.out 3).trans rfl;have hfz15_0:=blk_frozen BK345.out 0;have hfz15_1:=blk_frozen BK345.out 1;have hfz15_2:=blk_frozen BK345.out 2;have hfz15_3:=blk_frozen BK345.out 3)|((with_reducible refine gate_callee (f:=8) rfl ?_);refine goesL_ (some 15) rfl rfl Try.func8 (by kernel_rfl) rfl #[.agg #[.slice A0_0 l0_0.length c0_0,.slice A0_1 l0_1.length c0_1,.slice A0_2 l0_2.length c0_2,.slice A0_3 l0_3.length c0_3],.int .i64 1048576] rfl (by (try simp only [List.map_toArray,List.map_cons,List.map_nil]);first|done|rfl|(simp only [List.length_drop,List.length_take];rfl)) ?_;(with_reducible refine (laws_szSpace.calls k _ _ l0_0 _ _ l0_1 _ _ l0_2 _ _ l0_3 1048576 t346 _ ?side1 ?side2 ?side3 ?side4 ?side5 ?side6 ?side7 ?side8 A4.out).mono ?_);(case side1=>repeat (first|exact (Kd.C_below HR0_0.out HB.out)|(with_reducible first|apply Kd.C_alloc|apply Kd.C_drewN|apply Kd.C_drew)));(case side2=>exact HC0_0.out);(case side3=>repeat (first|exact (Kd.C_below HR0_1.out HB.out)|(with_reducible first|apply Kd.C_alloc|apply Kd.C_drewN|apply Kd.C_drew)));(case side4=>exact HC0_1.out);(case side5=>repeat (first|exact (Kd.C_below HR0_2.out HB.out)|(with_reducible first|apply Kd.C_alloc|apply Kd.C_drewN|apply Kd.C_drew)));(case side6=>exact HC0_2.out);(case side7=>repeat (first|exact (Kd.C_below HR0_3.out HB.out)|(with_reducible first|apply Kd.C_alloc|apply Kd.C_drewN|apply Kd.C_drew)));(case side8=>exact HC0_3.out);rintro e w16 ⟨rfl,hb⟩;refine ⟨_,rfl,?_⟩;have n0_:=Aside0.mk (blk_below (g:=gb345) (o:=.cells #[.slice A0_0 l0_0.length c0_0,.slice A0_1 l0_1.length c0_1,.slice A0_2 l0_2.length c0_2,.slice A0_3 l0_3.length c0_3] 26 (0,0)) (by (with_reducible repeat first|apply blk_drewN|apply blk_drew|apply blk_alloc);exact BK345.out) hb);have n1_:=Aside0.mk (below_step (by repeat (first|(with_reducible first|exact HB.out|apply below_alloc|apply pw_below_drewN|apply below_drew1|refine below_set ?_ GE345.out)|exact HB.out)) hb);clear BK345;clear HB;have BK345:=n0_;have HB:=n1_;clear n0_ n1_;(try clear hb);(try clear hb2);(try clear hk);(try clear hi);have hcz17_0 : w16.cell? ⟨gb345,0,none⟩ = some (.slice A0_0 l0_0.length c0_0):=(blk_cell BK345.out 0).trans rfl;have hcz17_1 : w16.cell? ⟨gb345,1,none⟩ = some (.slice A0_1 l0_1.length c0_1):=(blk_cell BK345.out 1).trans rfl;have hcz17_2 : w16.cell? ⟨gb345,2,none⟩ = some (.slice A0_2 l0_2.length c0_2):=(blk_cell BK345.out 2).trans rfl;have hcz17_3 : w16.cell? ⟨gb345,3,none⟩ = some (.slice A0_3 l0_3.length c0_3):=(blk_cell BK345.out 3).trans rfl;have hfz17_0:=blk_frozen BK345.out 0;have hfz17_1:=blk_frozen BK345.out 1;have hfz17_2:=blk_frozen BK345.out 2;have hfz17_3:=blk_frozen BK345.out 3)|((with_reducible refine gate_callee (f:=10) rfl ?_);refine goesL_ (some 20) rfl rfl Try.func10 (by kernel_rfl) rfl #[.agg #[.slice A0_0 l0_0.length c0_0,.slice A0_1 l0_1.length c0_1,.slice A0_2 l0_2.length c0_2,.slice A0_3 l0_3.length c0_3]] rfl (by (try simp only [List.map_toArray,List.map_cons,List.map_nil]);first|done|rfl|(simp only [List.length_drop,List.length_take];rfl)) ?_;(with_reducible refine (laws_toSpace.calls k _ _ l0_0 _ _ l0_1 _ _ l0_2 _ _ l0_3 t347 t350 t353 t356 _ ?side1 ?side2 ?side3 ?side4 ?side5 ?side6 ?side7 ?side8 A9.out).mono ?_);(case side1=>repeat (first|exact (Kd.C_below HR0_0.out HB.out)|(with_reducible first|apply Kd.C_alloc|apply Kd.C_drewN|apply Kd.C_drew)));(case side2=>exact HC0_0.out);(case side3=>repeat (first|exact (Kd.C_below HR0_1.out HB.out)|(with_reducible first|apply Kd.C_alloc|apply Kd.C_drewN|apply Kd.C_drew)));(case side4=>exact HC0_1.out);(case side5=>repeat (first|exact (Kd.C_below HR0_2.out HB.out)|(with_reducible first|apply Kd.C_alloc|apply Kd.C_drewN|apply Kd.C_drew)));(case side6=>exact HC0_2.out);(case side7=>repeat (first|exact (Kd.C_below HR0_3.out HB.out)|(with_reducible first|apply Kd.C_alloc|apply Kd.C_drewN|apply Kd.C_drew)));(case side8=>exact HC0_3.out);rintro e w18 ⟨v348,v351,v354,v357,rfl,ho0,ho1,ho2,ho3,hb⟩;refine ⟨_,rfl,?_⟩;have n0_:=Aside0.mk (Kd.S_lower (Kd.S_mono (Kd.S_bound ho0) (fun k_ h_=>(⟨h_.1,(by first|exact h_.2.1|simpa only [World.size_setCell] using h_.2.1)⟩ : _∧w16.heap.size ≤ k_))) (below_size (by repeat (first|(with_reducible first|exact HB.out|apply below_alloc|apply pw_below_drewN|apply below_drew1|refine below_set ?_ GE345.out)|exact HB.out))));have n1_:=Aside0.mk (Kd.R_lower ho1 (below_size (by repeat (first|(with_reducible first|exact HB.out|apply below_alloc|apply pw_below_drewN|apply below_drew1|refine below_set ?_ GE345.out)|exact HB.out))));have n2_:=Aside0.mk (Kd.R_lower ho2 (below_size (by repeat (first|(with_reducible first|exact HB.out|apply below_alloc|apply pw_below_drewN|apply below_drew1|refine below_set ?_ GE345.out)|exact HB.out))));have n3_:=Aside0.mk (Kd.R_lower ho3 (below_size (by repeat (first|(with_reducible first|exact HB.out|apply below_alloc|apply pw_below_drewN|apply below_drew1|refine below_set ?_ GE345.out)|exact HB.out))));have n4_:=Aside0.mk (blk_below (g:=gb345) (o:=.cells #[.slice A0_0 l0_0.length c0_0,.slice A0_1 l0_1.length c0_1,.slice A0_2 l0_2.length c0_2,.slice A0_3 l0_3.length c0_3] 26 (0,0)) (by (with_reducible repeat first|apply blk_drewN|apply blk_drew|apply blk_alloc);exact BK345.out) hb);have n5_:=Aside0.mk (below_step (by repeat (first|(with_reducible first|exact HB.out|apply below_alloc|apply pw_below_drewN|apply below_drew1|refine below_set ?_ GE345.out)|exact HB.out)) hb);clear BK345;clear HB;have HO349:=n0_;have HO352:=n1_;have HO355:=n2_;have HO358:=n3_;have BK345:=n4_;have HB:=n5_;clear n0_ n1_ n2_ n3_ n4_ n5_;(try clear hb);(try clear hb2);(try clear hk);(try clear hi);(try clear ho0);(try clear ho1);(try clear ho2);(try clear ho3);obtain ⟨Ao19,co19,eo19⟩:=Kd.S_slice HO349.out;subst eo19;obtain ⟨Ao20,co20,eo20⟩:=Kd.R_slice HO352.out;subst eo20;obtain ⟨Ao21,co21,eo21⟩:=Kd.R_slice HO355.out;subst eo21;obtain ⟨Ao22,co22,eo22⟩:=Kd.R_slice HO358.out;subst eo22)|((with_reducible refine gate_callee (f:=19) rfl ?_);refine goesL_ (some 23) rfl rfl Try.func19 (by kernel_rfl) rfl #[.agg #[.slice Ao19 t347.length co19,.slice Ao20 t350.length co20,.slice Ao21 t353.length co21,.slice Ao22 t356.length co22],.int .i64 a1,.int .i64 a2] rfl (by (try simp only [List.map_toArray,List.map_cons,List.map_nil]);first|done|rfl|(simp only [List.length_drop,List.length_take];rfl)) ?_;(with_reducible refine (spec_ValueIn.calls k _ _ t347 _ _ t350 _ _ t353 _ _ t356 a1 a2 t359 t360 _ ?side1 ?side2 ?side3 ?side4 ?side5 ?side6 ?side7 ?side8 A10.out).mono ?_);(case side1=>repeat (first|exact (Kd.S_reads' HO349.out).2.2|(with_reducible first|apply Kd.C_alloc|apply Kd.C_drewN|apply Kd.C_drew)));(case side2=>exact (Kd.S_reads' HO349.out).2.1);(case side3=>repeat (first|exact (Kd.R_reads' HO352.out).2.2|(with_reducible first|apply Kd.C_alloc|apply Kd.C_drewN|apply Kd.C_drew)));(case side4=>exact (Kd.R_reads' HO352.out).2.1);(case side5=>repeat (first|exact (Kd.R_reads' HO355.out).2.2|(with_reducible first|apply Kd.C_alloc|apply Kd.C_drewN|apply Kd.C_drew)));(case side6=>exact (Kd.R_reads' HO355.out).2.1);(case side7=>repeat (first|exact (Kd.R_reads' HO358.out).2.2|(with_reducible first|apply Kd.C_alloc|apply Kd.C_drewN|apply Kd.C_drew)));(case side8=>exact (Kd.R_reads' HO358.out).2.1);rintro e w23 ⟨rfl,hb⟩;refine ⟨_,rfl,?_⟩;have n0_:=Aside0.mk (Kd.S_below (by (with_reducible repeat (first|apply Kd.S_alloc|apply Kd.S_drewN|apply Kd.S_drew));exact HO349.out) hb);have n1_:=Aside0.mk (Kd.R_below (by (with_reducible repeat (first|apply Kd.R_alloc|apply Kd.R_drewN|apply Kd.R_drew));exact HO352.out) hb);have n2_:=Aside0.mk (Kd.R_below (by (with_reducible repeat (first|apply Kd.R_alloc|apply Kd.R_drewN|apply Kd.R_drew));exact HO355.out) hb);have n3_:=Aside0.mk (Kd.R_below (by (with_reducible repeat (first|apply Kd.R_alloc|apply Kd.R_drewN|apply Kd.R_drew));exact HO358.out) hb);have n4_:=Aside0.mk (blk_below (g:=gb345) (o:=.cells #[.slice A0_0 l0_0.length c0_0,.slice A0_1 l0_1.length c0_1,.slice A0_2 l0_2.length c0_2,.slice A0_3 l0_3.length c0_3] 26 (0,0)) (by (with_reducible repeat first|apply blk_drewN|apply blk_drew|apply blk_alloc);exact BK345.out) hb);have n5_:=Aside0.mk (below_step (by repeat (first|(with_reducible first|exact HB.out|apply below_alloc|apply pw_below_drewN|apply below_drew1|refine below_set ?_ GE345.out)|exact HB.out)) hb);clear HO349;clear HO352;clear HO355;clear HO358;clear BK345;clear HB;have HO349:=n0_;have HO352:=n1_;have HO355:=n2_;have HO358:=n3_;have BK345:=n4_;have HB:=n5_;clear n0_ n1_ n2_ n3_ n4_ n5_;(try clear hb);(try clear hb2);(try clear hk);(try clear hi);have hcz24_0 : w23.cell? ⟨gb345,0,none⟩ = some (.slice A0_0 l0_0.length c0_0):=(blk_cell BK345.out 0).trans rfl;have hcz24_1 : w23.cell? ⟨gb345,1,none⟩ = some (.slice A0_1 l0_1.length c0_1):=(blk_cell BK345.out 1).trans rfl;have hcz24_2 : w23.cell? ⟨gb345,2,none⟩ = some (.slice A0_2 l0_2.length c0_2):=(blk_cell BK345.out 2).trans rfl;have hcz24_3 : w23.cell? ⟨gb345,3,none⟩ = some (.slice A0_3 l0_3.length c0_3):=(blk_cell BK345.out 3).trans rfl;have hfz24_0:=blk_frozen BK345.out 0;have hfz24_1:=blk_frozen BK345.out 1;have hfz24_2:=blk_frozen BK345.out 2;have hfz24_3:=blk_frozen BK345.out 3)|((with_reducible refine gate_callee (f:=10) rfl ?_);refine goesL_ (some 27) rfl rfl Try.func10 (by kernel_rfl) rfl #[.agg #[.slice A0_0 l0_0.length c0_0,.slice A0_1 l0_1.length c0_1,.slice A0_2 l0_2.length c0_2,.slice A0_3 l0_3.length c0_3]] rfl (by (try simp only [List.map_toArray,List.map_cons,List.map_nil]);first|done|rfl|(simp only [List.length_drop,List.length_take];rfl)) ?_;(with_reducible refine (laws_toSpace.calls k _ _ l0_0 _ _ l0_1 _ _ l0_2 _ _ l0_3 t361 t364 t367 t370 _ ?side1 ?side2 ?side3 ?side4 ?side5 ?side6 ?side7 ?side8 A11.out).mono ?_);(case side1=>repeat (first|exact (Kd.C_below HR0_0.out HB.out)|(with_reducible first|apply Kd.C_alloc|apply Kd.C_drewN|apply Kd.C_drew)));(case side2=>exact HC0_0.out);(case side3=>repeat (first|exact (Kd.C_below HR0_1.out HB.out)|(with_reducible first|apply Kd.C_alloc|apply Kd.C_drewN|apply Kd.C_drew)));(case side4=>exact HC0_1.out);(case side5=>repeat (first|exact (Kd.C_below HR0_2.out HB.out)|(with_reducible first|apply Kd.C_alloc|apply Kd.C_drewN|apply Kd.C_drew)));(case side6=>exact HC0_2.out);(case side7=>repeat (first|exact (Kd.C_below HR0_3.out HB.out)|(with_reducible first|apply Kd.C_alloc|apply Kd.C_drewN|apply Kd.C_drew)));(case side8=>exact HC0_3.out);rintro e w25 ⟨v362,v365,v368,v371,rfl,ho0,ho1,ho2,ho3,hb⟩;refine ⟨_,rfl,?_⟩;have n0_:=Aside0.mk (Kd.S_lower (Kd.S_new' (Kd.S_new' (Kd.S_mono (Kd.S_bound ho0) (fun k_ h_=>(⟨h_.1,(by first|exact h_.2.1|simpa only [World.size_setCell] using h_.2.1)⟩ : _∧w23.heap.size ≤ k_))) (Kd.S_lt (by (with_reducible repeat (first|apply Kd.S_alloc|apply Kd.S_drewN|apply Kd.S_drew));exact HO349.out))) (Kd.R_lt (by (with_reducible repeat (first|apply Kd.R_alloc|apply Kd.R_drewN|apply Kd.R_drew));exact HO352.out))) (below_size (by repeat (first|(with_reducible first|exact HB.out|apply below_alloc|apply pw_below_drewN|apply below_drew1|refine below_set ?_ GE345.out)|exact HB.out))));have n1_:=Aside0.mk (Kd.R_lower (Kd.R_new' ho1 (Kd.R_lt (by (with_reducible repeat (first|apply Kd.R_alloc|apply Kd.R_drewN|apply Kd.R_drew));exact HO352.out))) (below_size (by repeat (first|(with_reducible first|exact HB.out|apply below_alloc|apply pw_below_drewN|apply below_drew1|refine below_set ?_ GE345.out)|exact HB.out))));have n2_:=Aside0.mk (Kd.R_lower (Kd.R_new' (Kd.R_new' ho2 (Kd.R_lt (by (with_reducible repeat (first|apply Kd.R_alloc|apply Kd.R_drewN|apply Kd.R_drew));exact HO355.out))) (Kd.R_lt (by (with_reducible repeat (first|apply Kd.R_alloc|apply Kd.R_drewN|apply Kd.R_drew));exact HO358.out))) (below_size (by repeat (first|(with_reducible first|exact HB.out|apply below_alloc|apply pw_below_drewN|apply below_drew1|refine below_set ?_ GE345.out)|exact HB.out))));have n3_:=Aside0.mk (Kd.R_lower (Kd.R_new' (Kd.R_new' ho3 (Kd.R_lt (by (with_reducible repeat (first|apply Kd.R_alloc|apply Kd.R_drewN|apply Kd.R_drew));exact HO355.out))) (Kd.R_lt (by (with_reducible repeat (first|apply Kd.R_alloc|apply Kd.R_drewN|apply Kd.R_drew));exact HO358.out))) (below_size (by repeat (first|(with_reducible first|exact HB.out|apply below_alloc|apply pw_below_drewN|apply below_drew1|refine below_set ?_ GE345.out)|exact HB.out))));have n4_:=Aside0.mk (blk_below (g:=gb345) (o:=.cells #[.slice A0_0 l0_0.length c0_0,.slice A0_1 l0_1.length c0_1,.slice A0_2 l0_2.length c0_2,.slice A0_3 l0_3.length c0_3] 26 (0,0)) (by (with_reducible repeat first|apply blk_drewN|apply blk_drew|apply blk_alloc);exact BK345.out) hb);have n5_:=Aside0.mk (below_step (by repeat (first|(with_reducible first|exact HB.out|apply below_alloc|apply pw_below_drewN|apply below_drew1|refine below_set ?_ GE345.out)|exact HB.out)) hb);clear BK345;clear HB;clear HO349;clear HO352;clear HO355;clear HO358;have HO363:=n0_;have HO366:=n1_;have HO369:=n2_;have HO372:=n3_;have BK345:=n4_;have HB:=n5_;clear n0_ n1_ n2_ n3_ n4_ n5_;(try clear hb);(try clear hb2);(try clear hk);(try clear hi);(try clear ho0);(try clear ho1);(try clear ho2);(try clear ho3))|((with_reducible refine gate_dst (N:=10) rfl ?_);refine box_event ?hg (N:=10) ?hd (cs:=#[.slice none 0 0,.slice none 0 0,.slice none 0 0,.slice none 0 0]) (t:=30) ?hr ?_;(case hd=>rfl);(case hg=>rfl);(case hr=>first|(go_simp;done)|(go_simp;rfl));intro gb373 hg w26 hbox hb;have n0_:=Aside0.mk (Kd.S_below (by (with_reducible repeat (first|apply Kd.S_alloc|apply Kd.S_drewN|apply Kd.S_drew));exact HO363.out) hb);have n1_:=Aside0.mk (Kd.R_below (by (with_reducible repeat (first|apply Kd.R_alloc|apply Kd.R_drewN|apply Kd.R_drew));exact HO366.out) hb);have n2_:=Aside0.mk (Kd.R_below (by (with_reducible repeat (first|apply Kd.R_alloc|apply Kd.R_drewN|apply Kd.R_drew));exact HO369.out) hb);have n3_:=Aside0.mk (Kd.R_below (by (with_reducible repeat (first|apply Kd.R_alloc|apply Kd.R_drewN|apply Kd.R_drew));exact HO372.out) hb);have n4_:=Aside0.mk (blk_below (g:=gb345) (o:=.cells #[.slice A0_0 l0_0.length c0_0,.slice A0_1 l0_1.length c0_1,.slice A0_2 l0_2.length c0_2,.slice A0_3 l0_3.length c0_3] 26 (0,0)) (by (with_reducible repeat first|apply blk_drewN|apply blk_drew|apply blk_alloc);exact BK345.out) hb);have n5_:=Aside0.mk (below_step (by repeat (first|(with_reducible first|exact HB.out|apply below_alloc|apply pw_below_drewN|apply below_drew1|refine below_set ?_ GE345.out)|exact HB.out)) hb);have n6_:=Aside0.mk (hbox);have n7_:=Aside0.mk ((by rw [hg];exact (below_size (by repeat (first|(with_reducible first|exact HB.out|apply below_alloc|apply pw_below_drewN|apply below_drew1|refine below_set ?_ GE345.out)|exact HB.out))) : w.heap.size ≤ gb373));have n8_:=Aside0.mk ((by rw [hg];exact (below_size (by repeat (first|(with_reducible first|exact HB.out|apply below_alloc|apply pw_below_drewN|apply below_drew1|refine below_set ?_ GE345.out)|exact HB.out))) : w.heap.size ≤ gb373));have n9_:=Aside0.mk ((by rw [hg];exact Nat.ne_of_lt (blk_lt (g:=gb345) (o:=.cells #[.slice A0_0 l0_0.length c0_0,.slice A0_1 l0_1.length c0_1,.slice A0_2 l0_2.length c0_2,.slice A0_3 l0_3.length c0_3] 26 (0,0)) (by (with_reducible repeat first|apply blk_drewN|apply blk_drew|apply blk_alloc);exact BK345.out)) : gb345 ≠ gb373));have n10_:=Aside0.mk ((by rw [hg];exact Nat.ne_of_gt (blk_lt (g:=gb345) (o:=.cells #[.slice A0_0 l0_0.length c0_0,.slice A0_1 l0_1.length c0_1,.slice A0_2 l0_2.length c0_2,.slice A0_3 l0_3.length c0_3] 26 (0,0)) (by (with_reducible repeat first|apply blk_drewN|apply blk_drew|apply blk_alloc);exact BK345.out)) : gb373 ≠ gb345));clear HO363;clear HO366;clear HO369;clear HO372;clear BK345;clear HB;have HO363:=n0_;have HO366:=n1_;have HO369:=n2_;have HO372:=n3_;have BK345:=n4_;have HB:=n5_;have BK373:=n6_;have GW373:=n7_;have GE373:=n8_;have NB345_373:=n9_;have NB373_345:=n10_;clear n0_ n1_ n2_ n3_ n4_ n5_ n6_ n7_ n8_ n9_ n10_;clear hb hbox hg;obtain ⟨Ao27,co27,eo27⟩:=Kd.S_slice HO363.out;subst eo27;have hnb28:=NB373_345.out;have hnc28:=NB345_373.out;have hcz29_0 : w26.cell? ⟨gb373,0,none⟩ = some (.slice none 0 0):=(blk_cell BK373.out 0).trans rfl;have hcz29_1 : w26.cell? ⟨gb373,1,none⟩ = some (.slice none 0 0):=(blk_cell BK373.out 1).trans rfl;have hcz29_2 : w26.cell? ⟨gb373,2,none⟩ = some (.slice none 0 0):=(blk_cell BK373.out 2).trans rfl;have hcz29_3 : w26.cell? ⟨gb373,3,none⟩ = some (.slice none 0 0):=(blk_cell BK373.out 3).trans rfl;have hfz29_0:=blk_frozen BK373.out 0;have hfz29_1:=blk_frozen BK373.out 1;have hfz29_2:=blk_frozen BK373.out 2;have hfz29_3:=blk_frozen BK373.out 3;obtain ⟨Ao30,co30,eo30⟩:=Kd.R_slice HO366.out;subst eo30;obtain ⟨Ao31,co31,eo31⟩:=Kd.R_slice HO369.out;subst eo31;obtain ⟨Ao32,co32,eo32⟩:=Kd.R_slice HO372.out;subst eo32)|((with_reducible refine gate_callee (f:=20) rfl ?_);refine goesL_ (some 32) rfl rfl Try.func20 (by kernel_rfl) rfl #[.agg #[.slice Ao27 t361.length co27,.slice Ao30 t364.length co30,.slice Ao31 t367.length co31,.slice Ao32 t370.length co32],.int .i64 a1,.int .i64 a2] rfl (by (try simp only [List.map_toArray,List.map_cons,List.map_nil]);first|done|rfl|(simp only [List.length_drop,List.length_take];rfl)) ?_;(with_reducible refine (impl_ValueIn.calls k _ _ t361 _ _ t364 _ _ t367 _ _ t370 a1 a2 t374 t375 _ ?side1 ?side2 ?side3 ?side4 ?side5 ?side6 ?side7 ?side8 A12.out).mono ?_);(case side1=>refine (Kd.S_reads' (e:=23) (base:=w.heap.size) (ok:=fun k_=>(some k_ ≠ (.slice Ao30 t364.length co30 : Value).ownBlock∧w23.heap.size ≤ k_)) (n:=t361.length) (c:=co27) ?_).2.2;exact (by (with_reducible repeat (first|apply Kd.S_alloc|apply Kd.S_drewN|apply Kd.S_drew));exact Kd.S_mono (Kd.S_far (p:=⟨gb373,3,none⟩) (Kd.S_far (p:=⟨gb373,2,none⟩) (Kd.S_far (p:=⟨gb373,1,none⟩) (Kd.S_far (p:=⟨gb373,0,none⟩) (Kd.S_types HO363.out BK373.out (by decide)) (fun _ hk=>hk.2) (.slice Ao27 t361.length co27)) (fun _ hk=>hk.2) (.slice Ao30 t364.length co30)) (fun _ hk=>hk.2) (.slice Ao31 t367.length co31)) (fun _ hk=>hk.2) (.slice Ao32 t370.length co32)) (fun _ hk=>⟨hk.1.1.1.1,hk.1.1.1.2⟩)));(case side2=>exact (Kd.S_reads' HO363.out).2.1);(case side3=>refine (Kd.R_reads' (e:=5) (base:=w.heap.size) (ok:=fun k_=>True) (n:=t364.length) (c:=co30) ?_).2.2;exact (by (with_reducible repeat (first|apply Kd.R_alloc|apply Kd.R_drewN|apply Kd.R_drew));exact Kd.R_mono (Kd.R_far (p:=⟨gb373,3,none⟩) (Kd.R_far (p:=⟨gb373,2,none⟩) (Kd.R_far (p:=⟨gb373,1,none⟩) (Kd.R_far (p:=⟨gb373,0,none⟩) (Kd.R_types HO366.out BK373.out (by decide)) (fun _ hk=>hk.2) (.slice Ao27 t361.length co27)) (fun _ hk=>hk.2) (.slice Ao30 t364.length co30)) (fun _ hk=>hk.2) (.slice Ao31 t367.length co31)) (fun _ hk=>hk.2) (.slice Ao32 t370.length co32)) (fun _ hk=>trivial)));(case side4=>exact (Kd.R_reads' HO366.out).2.1);(case side5=>refine (Kd.R_reads' (e:=3) (base:=w.heap.size) (ok:=fun k_=>some k_ ≠ (.slice Ao32 t370.length co32 : Value).ownBlock) (n:=t367.length) (c:=co31) ?_).2.2;exact (by (with_reducible repeat (first|apply Kd.R_alloc|apply Kd.R_drewN|apply Kd.R_drew));exact Kd.R_mono (Kd.R_far (p:=⟨gb373,3,none⟩) (Kd.R_far (p:=⟨gb373,2,none⟩) (Kd.R_far (p:=⟨gb373,1,none⟩) (Kd.R_far (p:=⟨gb373,0,none⟩) (Kd.R_types HO369.out BK373.out (by decide)) (fun _ hk=>hk.2) (.slice Ao27 t361.length co27)) (fun _ hk=>hk.2) (.slice Ao30 t364.length co30)) (fun _ hk=>hk.2) (.slice Ao31 t367.length co31)) (fun _ hk=>hk.2) (.slice Ao32 t370.length co32)) (fun _ hk=>hk.1.1.1)));(case side6=>exact (Kd.R_reads' HO369.out).2.1);(case side7=>refine (Kd.R_reads' (e:=3) (base:=w.heap.size) (ok:=fun k_=>some k_ ≠ (.slice Ao31 t367.length co31 : Value).ownBlock) (n:=t370.length) (c:=co32) ?_).2.2;exact (by (with_reducible repeat (first|apply Kd.R_alloc|apply Kd.R_drewN|apply Kd.R_drew));exact Kd.R_mono (Kd.R_far (p:=⟨gb373,3,none⟩) (Kd.R_far (p:=⟨gb373,2,none⟩) (Kd.R_far (p:=⟨gb373,1,none⟩) (Kd.R_far (p:=⟨gb373,0,none⟩) (Kd.R_types HO372.out BK373.out (by decide)) (fun _ hk=>hk.2) (.slice Ao27 t361.length co27)) (fun _ hk=>hk.2) (.slice Ao30 t364.length co30)) (fun _ hk=>hk.2) (.slice Ao31 t367.length co31)) (fun _ hk=>hk.2) (.slice Ao32 t370.length co32)) (fun _ hk=>hk.1.1.1)));(case side8=>exact (Kd.R_reads' HO372.out).2.1);rintro e w33 ⟨rfl,hb⟩;refine ⟨_,rfl,?_⟩;have n0_:=Aside0.mk (Kd.S_below (by (with_reducible repeat (first|apply Kd.S_alloc|apply Kd.S_drewN|apply Kd.S_drew));exact (Kd.S_mono (Kd.S_far (p:=⟨gb373,3,none⟩) (Kd.S_far (p:=⟨gb373,2,none⟩) (Kd.S_far (p:=⟨gb373,1,none⟩) (Kd.S_far (p:=⟨gb373,0,none⟩) (Kd.S_types HO363.out BK373.out (by decide)) (fun _ hk=>hk.2) (.slice Ao27 t361.length co27)) (fun _ hk=>hk.2) (.slice Ao30 t364.length co30)) (fun _ hk=>hk.2) (.slice Ao31 t367.length co31)) (fun _ hk=>hk.2) (.slice Ao32 t370.length co32)) (fun _ h_=>h_.1))) hb);have n1_:=Aside0.mk (Kd.R_below (by (with_reducible repeat (first|apply Kd.R_alloc|apply Kd.R_drewN|apply Kd.R_drew));exact (Kd.R_mono (Kd.R_far (p:=⟨gb373,3,none⟩) (Kd.R_far (p:=⟨gb373,2,none⟩) (Kd.R_far (p:=⟨gb373,1,none⟩) (Kd.R_far (p:=⟨gb373,0,none⟩) (Kd.R_types HO366.out BK373.out (by decide)) (fun _ hk=>hk.2) (.slice Ao27 t361.length co27)) (fun _ hk=>hk.2) (.slice Ao30 t364.length co30)) (fun _ hk=>hk.2) (.slice Ao31 t367.length co31)) (fun _ hk=>hk.2) (.slice Ao32 t370.length co32)) (fun _ h_=>h_.1))) hb);have n2_:=Aside0.mk (Kd.R_below (by (with_reducible repeat (first|apply Kd.R_alloc|apply Kd.R_drewN|apply Kd.R_drew));exact (Kd.R_mono (Kd.R_far (p:=⟨gb373,3,none⟩) (Kd.R_far (p:=⟨gb373,2,none⟩) (Kd.R_far (p:=⟨gb373,1,none⟩) (Kd.R_far (p:=⟨gb373,0,none⟩) (Kd.R_types HO369.out BK373.out (by decide)) (fun _ hk=>hk.2) (.slice Ao27 t361.length co27)) (fun _ hk=>hk.2) (.slice Ao30 t364.length co30)) (fun _ hk=>hk.2) (.slice Ao31 t367.length co31)) (fun _ hk=>hk.2) (.slice Ao32 t370.length co32)) (fun _ h_=>h_.1))) hb);have n3_:=Aside0.mk (Kd.R_below (by (with_reducible repeat (first|apply Kd.R_alloc|apply Kd.R_drewN|apply Kd.R_drew));exact (Kd.R_mono (Kd.R_far (p:=⟨gb373,3,none⟩) (Kd.R_far (p:=⟨gb373,2,none⟩) (Kd.R_far (p:=⟨gb373,1,none⟩) (Kd.R_far (p:=⟨gb373,0,none⟩) (Kd.R_types HO372.out BK373.out (by decide)) (fun _ hk=>hk.2) (.slice Ao27 t361.length co27)) (fun _ hk=>hk.2) (.slice Ao30 t364.length co30)) (fun _ hk=>hk.2) (.slice Ao31 t367.length co31)) (fun _ hk=>hk.2) (.slice Ao32 t370.length co32)) (fun _ h_=>h_.1))) hb);have n4_:=Aside0.mk (blk_below (g:=gb345) (o:=.cells #[.slice A0_0 l0_0.length c0_0,.slice A0_1 l0_1.length c0_1,.slice A0_2 l0_2.length c0_2,.slice A0_3 l0_3.length c0_3] 26 (0,0)) (by (with_reducible repeat first|apply blk_drewN|apply blk_drew|apply blk_alloc);refine blk_far ?_ NB345_373.out _;(with_reducible repeat first|apply blk_drewN|apply blk_drew|apply blk_alloc);refine blk_far ?_ NB345_373.out _;(with_reducible repeat first|apply blk_drewN|apply blk_drew|apply blk_alloc);refine blk_far ?_ NB345_373.out _;(with_reducible repeat first|apply blk_drewN|apply blk_drew|apply blk_alloc);refine blk_far ?_ NB345_373.out _;(with_reducible repeat first|apply blk_drewN|apply blk_drew|apply blk_alloc);exact BK345.out) hb);have n5_:=Aside0.mk (blk_below (g:=gb373) (o:=.cells #[.slice Ao27 t361.length co27,.slice Ao30 t364.length co30,.slice Ao31 t367.length co31,.slice Ao32 t370.length co32] 30 (0,0)) (by (with_reducible repeat first|apply blk_drewN|apply blk_drew|apply blk_alloc);refine blk_put (cs:=#[.slice Ao27 t361.length co27,.slice Ao30 t364.length co30,.slice Ao31 t367.length co31,.slice none 0 0]) ?_ 3 _ rfl;(with_reducible repeat first|apply blk_drewN|apply blk_drew|apply blk_alloc);refine blk_put (cs:=#[.slice Ao27 t361.length co27,.slice Ao30 t364.length co30,.slice none 0 0,.slice none 0 0]) ?_ 2 _ rfl;(with_reducible repeat first|apply blk_drewN|apply blk_drew|apply blk_alloc);refine blk_put (cs:=#[.slice Ao27 t361.length co27,.slice none 0 0,.slice none 0 0,.slice none 0 0]) ?_ 1 _ rfl;(with_reducible repeat first|apply blk_drewN|apply blk_drew|apply blk_alloc);refine blk_put (cs:=#[.slice none 0 0,.slice none 0 0,.slice none 0 0,.slice none 0 0]) ?_ 0 _ rfl;(with_reducible repeat first|apply blk_drewN|apply blk_drew|apply blk_alloc);exact BK373.out) hb);have n6_:=Aside0.mk (below_step (by repeat (first|(with_reducible first|exact HB.out|apply below_alloc|apply pw_below_drewN|apply below_drew1|refine below_set ?_ GE345.out|refine below_set ?_ GE373.out)|exact HB.out)) hb);clear HO363;clear HO366;clear HO369;clear HO372;clear BK345;clear BK373;clear HB;have HO363:=n0_;have HO366:=n1_;have HO369:=n2_;have HO372:=n3_;have BK345:=n4_;have BK373:=n5_;have HB:=n6_;clear n0_ n1_ n2_ n3_ n4_ n5_ n6_;(try clear hb);(try clear hb2);(try clear hk);(try clear hi)))
  (try simp only [Act.put,List.setIfInBounds_toArray,List.set_cons_zero,List.set_cons_succ])
  go_cut [42] (fun v42 wc=>∃ (kq : Nat) (x42_12 : Bool),v42 = .bool x42_12∧Aside0 (laws_FnExactValueIn.j0 kq x42_12 l0_0 l0_1 l0_2 l0_3 t361 t364 t367 t370 = some r)∧Aside0 (kq ≤ k)∧Aside0 (Kd.S (Kd.slice 5 (Kd.int .u8)) 23 wc w.heap.size (fun k_=>some k_ ≠ ((.slice Ao30 t364.length co30) : Value).ownBlock) (.slice Ao27 t361.length co27) t361)∧Aside0 (Kd.R (Kd.int .u8) 5 wc w.heap.size (fun _=>True) (.slice Ao30 t364.length co30) t364)∧Aside0 (Kd.R (Kd.int .i64) 3 wc w.heap.size (fun k_=>some k_ ≠ ((.slice Ao32 t370.length co32) : Value).ownBlock) (.slice Ao31 t367.length co31) t367)∧Aside0 (Kd.R (Kd.int .i64) 3 wc w.heap.size (fun k_=>some k_ ≠ ((.slice Ao31 t367.length co31) : Value).ownBlock) (.slice Ao32 t370.length co32) t370)∧Aside0 (wc.heap[gb345]? = some (.cells #[(.slice A0_0 l0_0.length c0_0),(.slice A0_1 l0_1.length c0_1),(.slice A0_2 l0_2.length c0_2),(.slice A0_3 l0_3.length c0_3)] 26 (0,0)))∧Aside0 (wc.heap[gb373]? = some (.cells #[(.slice Ao27 t361.length co27),(.slice Ao30 t364.length co30),(.slice Ao31 t367.length co31),(.slice Ao32 t370.length co32)] 30 (0,0)))∧Aside0 (Below w.heap.size w wc))
  case first =>
   have H:=HC13.out
   clear HC13
   by_cases c34 : t374 = t359
   ·rw [if_pos c34] at H
    have c34b0 : (t374 == t359) = true:=beq_iff_eq.mpr c34
    have c34b1 : (t374 != t359) = false:=bne_eq_false_iff_eq.mpr c34
    clear c34
    (first|rw [c34b0]|(simp only [i64_w,i32_w];rw [c34b0])|skip)
    have H':=Aside0.mk H
    clear H
    go_wp2
    go_meet
    case rel=>exact ⟨_,((t375 != t360)),(by first|rfl|(simp;done)|(simp [*];done)),H',⟨by first|omega|exact Nat.le_refl _⟩,⟨by (with_reducible repeat (first|apply Kd.S_alloc|apply Kd.S_drewN|apply Kd.S_drew));exact Kd.S_mono HO363.out (fun _ hk=>hk.1.1.1)⟩,⟨by (with_reducible repeat (first|apply Kd.R_alloc|apply Kd.R_drewN|apply Kd.R_drew));exact Kd.R_mono HO366.out (fun _ hk=>trivial)⟩,⟨by (with_reducible repeat (first|apply Kd.R_alloc|apply Kd.R_drewN|apply Kd.R_drew));exact Kd.R_mono HO369.out (fun _ hk=>hk.1.1)⟩,⟨by (with_reducible repeat (first|apply Kd.R_alloc|apply Kd.R_drewN|apply Kd.R_drew));exact Kd.R_mono HO372.out (fun _ hk=>hk.1.1)⟩,⟨by (with_reducible repeat first|apply blk_drewN|apply blk_drew|apply blk_alloc);exact BK345.out⟩,⟨by (with_reducible repeat first|apply blk_drewN|apply blk_drew|apply blk_alloc);exact BK373.out⟩,⟨by repeat (first|(with_reducible first|exact HB.out|apply below_alloc|apply pw_below_drewN|apply below_drew1|refine below_set ?_ GE345.out|refine below_set ?_ GE373.out)|exact HB.out)⟩⟩
   ·rw [if_neg c34] at H
    have c34b0 : (t374 == t359) = false:=beq_eq_false_iff_ne.mpr c34
    have c34b1 : (t374 != t359) = true:=bne_iff_ne.mpr c34
    (first|rw [c34b0]|(simp only [i64_w,i32_w];rw [c34b0])|skip)
    have H':=Aside0.mk H
    clear H
    go_wp2
    go_meet
    case rel=>exact ⟨_,(true),(by first|rfl|(simp;done)|(simp [*];done)),H',⟨by first|omega|exact Nat.le_refl _⟩,⟨by (with_reducible repeat (first|apply Kd.S_alloc|apply Kd.S_drewN|apply Kd.S_drew));exact Kd.S_mono HO363.out (fun _ hk=>hk.1.1.1)⟩,⟨by (with_reducible repeat (first|apply Kd.R_alloc|apply Kd.R_drewN|apply Kd.R_drew));exact Kd.R_mono HO366.out (fun _ hk=>trivial)⟩,⟨by (with_reducible repeat (first|apply Kd.R_alloc|apply Kd.R_drewN|apply Kd.R_drew));exact Kd.R_mono HO369.out (fun _ hk=>hk.1.1)⟩,⟨by (with_reducible repeat (first|apply Kd.R_alloc|apply Kd.R_drewN|apply Kd.R_drew));exact Kd.R_mono HO372.out (fun _ hk=>hk.1.1)⟩,⟨by (with_reducible repeat first|apply blk_drewN|apply blk_drew|apply blk_alloc);exact BK345.out⟩,⟨by (with_reducible repeat first|apply blk_drewN|apply blk_drew|apply blk_alloc);exact BK373.out⟩,⟨by repeat (first|(with_reducible first|exact HB.out|apply below_alloc|apply pw_below_drewN|apply below_drew1|refine below_set ?_ GE345.out|refine below_set ?_ GE373.out)|exact HB.out)⟩⟩
  case rest =>
   clear HC13
   try clear c1;try clear c2;try clear p2;try clear c3;try clear c5;try clear c5b0;try clear c8;try clear c10;try clear c19;try clear c20;try clear c28;try clear c34;try clear c34b0;try clear c34b1;try clear hcz15_0;try clear hcz15_1;try clear hcz15_2;try clear hcz15_3;try clear hcz17_0;try clear hcz17_1;try clear hcz17_2;try clear hcz17_3;try clear hcz24_0;try clear hcz24_1;try clear hcz24_2;try clear hcz24_3;try clear hcz29_0;try clear hcz29_1;try clear hcz29_2;try clear hcz29_3;try clear hcz7_0;try clear hcz7_1;try clear hcz7_2;try clear hcz7_3;try clear hfz15_0;try clear hfz15_1;try clear hfz15_2;try clear hfz15_3;try clear hfz17_0;try clear hfz17_1;try clear hfz17_2;try clear hfz17_3;try clear hfz24_0;try clear hfz24_1;try clear hfz24_2;try clear hfz24_3;try clear hfz29_0;try clear hfz29_1;try clear hfz29_2;try clear hfz29_3;try clear hfz7_0;try clear hfz7_1;try clear hfz7_2;try clear hfz7_3
   obtain ⟨kq,x42_12,rfl,HA,HJ12,HO_374000,HO_374001,HO_374002,HO_374003,BK345,BK373,HB⟩:=hcut
   cases kq with
   | zero=>exact absurd HA.out (by simp [laws_FnExactValueIn.j0])
   | succ kj12 =>
    have H:=HA.out
    clear HA
    simp only [laws_FnExactValueIn.j0] at H
    by_cases c35 : x42_12 = true
    ·subst c35
     have H1 : (some false) = some r:=by rw [if_pos rfl] at H;exact H
     clear H
     have H:=H1
     clear H1
     obtain rfl:=Option.some.inj H
     go_wp2
     go_ret
     exact ⟨by first|rfl|(simp [*,errW_none,errW_some] <;> rfl),by repeat (first|(with_reducible first|exact HB.out|apply below_alloc|apply pw_below_drewN|apply below_drew1|refine below_set ?_ GE345.out|refine below_set ?_ GE373.out)|exact HB.out)⟩
    ·replace c35:=Bool.eq_false_iff.mpr c35
     subst c35
     have H1 : ((laws_toSpace.f kj12 l0_0 l0_1 l0_2 l0_3).bind fun bt376=>((laws_eqSpace.f kj12 t361 t364 t367 t370 bt376.1 bt376.2.1 bt376.2.2.1 bt376.2.2.2).bind fun t388=>(if t388 = true then (some true) else (some false)))) = some r:=by rw [if_neg (show ¬ (false = true) by decide)] at H;exact H
     clear H
     have H:=H1
     clear H1
     replace H:=Option.bind_eq_some_iff.mp H
     obtain ⟨⟨t376,t379,t382,t385⟩,A360,H⟩:=H
     replace H : ((laws_eqSpace.f kj12 t361 t364 t367 t370 t376 t379 t382 t385).bind fun t388=>(if t388 = true then (some true) else (some false))) = some r:=H
     have A36:=Aside0.mk A360
     clear A360
     replace H:=Option.bind_eq_some_iff.mp H
     obtain ⟨t388,A370,H⟩:=H
     replace H : (if t388 = true then (some true) else (some false)) = some r:=H
     have A37:=Aside0.mk A370
     clear A370
     by_cases c38 : t388 = true
     ·subst c38
      have H1 : (some true) = some r:=by rw [if_pos rfl] at H;exact H
      clear H
      have H:=H1
      clear H1
      obtain rfl:=Option.some.inj H
      try go_wp2
      have n0_:=Aside0.mk (Kd.S_drew HO_374000.out)
      have n1_:=Aside0.mk (Kd.R_drew HO_374001.out)
      have n2_:=Aside0.mk (Kd.R_drew HO_374002.out)
      have n3_:=Aside0.mk (Kd.R_drew HO_374003.out)
      have n4_:=Aside0.mk (blk_drew BK345.out)
      have n5_:=Aside0.mk (blk_drew BK373.out)
      have n6_:=Aside0.mk (below_drew1 HB.out)
      clear HO_374000
      clear HO_374001
      clear HO_374002
      clear HO_374003
      clear BK345
      clear BK373
      clear HB
      have HO_374000:=n0_
      have HO_374001:=n1_
      have HO_374002:=n2_
      have HO_374003:=n3_
      have BK345:=n4_
      have BK373:=n5_
      have HB:=n6_
      clear n0_ n1_ n2_ n3_ n4_ n5_ n6_
      refine start_ (n:=5) (S:=fun w'=>w'.cell? ⟨gb373,0,none⟩ = some (.slice Ao27 t361.length co27)∧w'.cell? ⟨gb373,1,none⟩ = some (.slice Ao30 t364.length co30)∧w'.cell? ⟨gb373,2,none⟩ = some (.slice Ao31 t367.length co31)∧w'.cell? ⟨gb373,3,none⟩ = some (.slice Ao32 t370.length co32)∧w'.cell? ⟨gb345,0,none⟩ = some (.slice A0_0 l0_0.length c0_0)∧w'.cell? ⟨gb345,1,none⟩ = some (.slice A0_1 l0_1.length c0_1)∧w'.cell? ⟨gb345,2,none⟩ = some (.slice A0_2 l0_2.length c0_2)∧w'.cell? ⟨gb345,3,none⟩ = some (.slice A0_3 l0_3.length c0_3)) (ds:=[]) #[false,false,false,false,false] (by kernel_rfl) rfl rfl ⟨(blk_cell BK373.out 0).trans rfl,(blk_cell BK373.out 1).trans rfl,(blk_cell BK373.out 2).trans rfl,(blk_cell BK373.out 3).trans rfl,(blk_cell BK345.out 0).trans rfl,(blk_cell BK345.out 1).trans rfl,(blk_cell BK345.out 2).trans rfl,(blk_cell BK345.out 3).trans rfl⟩ (fun hHeld=>?_)
      generalize wc.drew = w39 at HO_374000 HO_374001 HO_374002 HO_374003 BK345 BK373 HB hHeld ⊢
      refine take_ (i:=0) (N:=some 43) (v:=?_) (a':=?_) #[true,false,false,false,false] rfl rfl (by kernel_rfl) (fun _ _ _ h=>h) (Or.inl ⟨by rfl,?_⟩) hHeld ?_ ?_
      rotate_left
      ·rintro w' ⟨s0,s1,s2,s3,s4,s5,s6,s7⟩
       go_simp
       with_reducible rfl
      rotate_left
      ·simp only [Act.put,List.setIfInBounds_toArray,List.set_cons_zero,List.set_cons_succ,i64_w,i32_w]
       rfl
      refine take_ (i:=1) (N:=some 44) (v:=?_) (a':=?_) #[true,true,false,false,false] rfl rfl (by kernel_rfl) (fun _ _ _ h=>h) (Or.inl ⟨by rfl,?_⟩) hHeld ?_ ?_
      rotate_left
      ·rintro w' ⟨s0,s1,s2,s3,s4,s5,s6,s7⟩
       go_simp
       with_reducible rfl
      rotate_left
      ·simp only [Act.put,List.setIfInBounds_toArray,List.set_cons_zero,List.set_cons_succ,i64_w,i32_w]
       rfl
      refine one_ (i:=2) (N:=some 45) #[true,true,true,false,false] rfl rfl (by kernel_rfl) (by decide) (fun K hK=>?_)
      refine goes_ Try.func10 (by kernel_rfl) rfl #[.agg #[.slice A0_0 l0_0.length c0_0,.slice A0_1 l0_1.length c0_1,.slice A0_2 l0_2.length c0_2,.slice A0_3 l0_3.length c0_3]] (by rfl) rfl rfl (by (try simp only [List.map_toArray,List.map_cons,List.map_nil]);first|done|rfl|(simp only [List.length_drop,List.length_take];rfl)) ?_
      with_reducible refine (laws_toSpace.calls kj12 _ _ l0_0 _ _ l0_1 _ _ l0_2 _ _ l0_3 t376 t379 t382 t385 _ ?side1 ?side2 ?side3 ?side4 ?side5 ?side6 ?side7 ?side8 A36.out).mono ?_
      (case side1=>repeat (first|exact (Kd.C_below HR0_0.out HB.out)|(with_reducible first|apply Kd.C_alloc|apply Kd.C_drewN|apply Kd.C_drew)))
      (case side2=>exact HC0_0.out)
      (case side3=>repeat (first|exact (Kd.C_below HR0_1.out HB.out)|(with_reducible first|apply Kd.C_alloc|apply Kd.C_drewN|apply Kd.C_drew)))
      (case side4=>exact HC0_1.out)
      (case side5=>repeat (first|exact (Kd.C_below HR0_2.out HB.out)|(with_reducible first|apply Kd.C_alloc|apply Kd.C_drewN|apply Kd.C_drew)))
      (case side6=>exact HC0_2.out)
      (case side7=>repeat (first|exact (Kd.C_below HR0_3.out HB.out)|(with_reducible first|apply Kd.C_alloc|apply Kd.C_drewN|apply Kd.C_drew)))
      (case side8=>exact HC0_3.out)
      rintro e w40 ⟨v377,v380,v383,v386,rfl,ho0,ho1,ho2,ho3,hb⟩
      refine ⟨_,rfl,?_⟩
      have n0_:=Aside0.mk (Kd.S_told (Kd.S_told (Kd.S_old (by (with_reducible repeat (first|apply Kd.S_alloc|apply Kd.S_drewN|apply Kd.S_drew));exact HO_374000.out) hb) (Kd.S_base ho0)) (Kd.R_base ho1))
      have n1_:=Aside0.mk (Kd.R_elder' (by (with_reducible repeat (first|apply Kd.R_alloc|apply Kd.R_drewN|apply Kd.R_drew));exact HO_374001.out) (Kd.R_base ho1) hb)
      have n2_:=Aside0.mk (Kd.R_mono (Kd.R_told (Kd.R_told (Kd.R_old (by (with_reducible repeat (first|apply Kd.R_alloc|apply Kd.R_drewN|apply Kd.R_drew));exact HO_374002.out) hb) (Kd.R_base ho2)) (Kd.R_base ho3)) (fun _ h_=>h_.1))
      have n3_:=Aside0.mk (Kd.R_mono (Kd.R_told (Kd.R_told (Kd.R_old (by (with_reducible repeat (first|apply Kd.R_alloc|apply Kd.R_drewN|apply Kd.R_drew));exact HO_374003.out) hb) (Kd.R_base ho2)) (Kd.R_base ho3)) (fun _ h_=>h_.1))
      have n4_:=Aside0.mk (Kd.S_lower (Kd.S_new' (Kd.S_new' (Kd.S_mono (Kd.S_bound ho0) (fun k_ h_=>(⟨h_.1,(by first|exact h_.2.1|simpa only [World.size_setCell] using h_.2.1)⟩ : _∧w39.heap.size ≤ k_))) (Kd.S_lt (by (with_reducible repeat (first|apply Kd.S_alloc|apply Kd.S_drewN|apply Kd.S_drew));exact HO_374000.out))) (Kd.R_lt (by (with_reducible repeat (first|apply Kd.R_alloc|apply Kd.R_drewN|apply Kd.R_drew));exact HO_374001.out))) (below_size (by repeat (first|(with_reducible first|exact HB.out|apply below_alloc|apply pw_below_drewN|apply below_drew1|refine below_set ?_ GE345.out|refine below_set ?_ GE373.out)|exact HB.out))))
      have n5_:=Aside0.mk (Kd.R_lower (Kd.R_new' ho1 (Kd.R_lt (by (with_reducible repeat (first|apply Kd.R_alloc|apply Kd.R_drewN|apply Kd.R_drew));exact HO_374001.out))) (below_size (by repeat (first|(with_reducible first|exact HB.out|apply below_alloc|apply pw_below_drewN|apply below_drew1|refine below_set ?_ GE345.out|refine below_set ?_ GE373.out)|exact HB.out))))
      have n6_:=Aside0.mk (Kd.R_lower (Kd.R_new' (Kd.R_new' ho2 (Kd.R_lt (by (with_reducible repeat (first|apply Kd.R_alloc|apply Kd.R_drewN|apply Kd.R_drew));exact HO_374002.out))) (Kd.R_lt (by (with_reducible repeat (first|apply Kd.R_alloc|apply Kd.R_drewN|apply Kd.R_drew));exact HO_374003.out))) (below_size (by repeat (first|(with_reducible first|exact HB.out|apply below_alloc|apply pw_below_drewN|apply below_drew1|refine below_set ?_ GE345.out|refine below_set ?_ GE373.out)|exact HB.out))))
      have n7_:=Aside0.mk (Kd.R_lower (Kd.R_new' (Kd.R_new' ho3 (Kd.R_lt (by (with_reducible repeat (first|apply Kd.R_alloc|apply Kd.R_drewN|apply Kd.R_drew));exact HO_374002.out))) (Kd.R_lt (by (with_reducible repeat (first|apply Kd.R_alloc|apply Kd.R_drewN|apply Kd.R_drew));exact HO_374003.out))) (below_size (by repeat (first|(with_reducible first|exact HB.out|apply below_alloc|apply pw_below_drewN|apply below_drew1|refine below_set ?_ GE345.out|refine below_set ?_ GE373.out)|exact HB.out))))
      have n8_:=Aside0.mk (blk_below (g:=gb345) (o:=.cells #[.slice A0_0 l0_0.length c0_0,.slice A0_1 l0_1.length c0_1,.slice A0_2 l0_2.length c0_2,.slice A0_3 l0_3.length c0_3] 26 (0,0)) (by (with_reducible repeat first|apply blk_drewN|apply blk_drew|apply blk_alloc);exact BK345.out) hb)
      have n9_:=Aside0.mk (blk_below (g:=gb373) (o:=.cells #[.slice Ao27 t361.length co27,.slice Ao30 t364.length co30,.slice Ao31 t367.length co31,.slice Ao32 t370.length co32] 30 (0,0)) (by (with_reducible repeat first|apply blk_drewN|apply blk_drew|apply blk_alloc);exact BK373.out) hb)
      have n10_:=Aside0.mk (below_step (by repeat (first|(with_reducible first|exact HB.out|apply below_alloc|apply pw_below_drewN|apply below_drew1|refine below_set ?_ GE345.out|refine below_set ?_ GE373.out)|exact HB.out)) hb)
      clear HO_374000
      clear HO_374001
      clear HO_374002
      clear HO_374003
      clear BK345
      clear BK373
      clear HB
      have HO_374000:=n0_
      have HO_374001:=n1_
      have HO_374002:=n2_
      have HO_374003:=n3_
      have HO378:=n4_
      have HO381:=n5_
      have HO384:=n6_
      have HO387:=n7_
      have BK345:=n8_
      have BK373:=n9_
      have HB:=n10_
      clear n0_ n1_ n2_ n3_ n4_ n5_ n6_ n7_ n8_ n9_ n10_
      (try clear hb)
      (try clear hb2)
      (try clear hk)
      (try clear hi)
      (try clear ho0)
      (try clear ho1)
      (try clear ho2)
      (try clear ho3)
      obtain ⟨Ao41,co41,eo41⟩:=Kd.S_slice HO378.out
      (first|subst eo41|(injection eo41 with f1_ f2_ f3_;have f4_:=f1_.symm;have f5_:=f3_.symm;clear f1_ f2_ f3_;subst f4_;subst f5_))
      obtain ⟨Ao42,co42,eo42⟩:=Kd.R_slice HO381.out
      (first|subst eo42|(injection eo42 with f1_ f2_ f3_;have f4_:=f1_.symm;have f5_:=f3_.symm;clear f1_ f2_ f3_;subst f4_;subst f5_))
      obtain ⟨Ao43,co43,eo43⟩:=Kd.R_slice HO384.out
      (first|subst eo43|(injection eo43 with f1_ f2_ f3_;have f4_:=f1_.symm;have f5_:=f3_.symm;clear f1_ f2_ f3_;subst f4_;subst f5_))
      obtain ⟨Ao44,co44,eo44⟩:=Kd.R_slice HO387.out
      (first|subst eo44|(injection eo44 with f1_ f2_ f3_;have f4_:=f1_.symm;have f5_:=f3_.symm;clear f1_ f2_ f3_;subst f4_;subst f5_))
      refine hK.out _ _ ⟨(blk_cell BK373.out 0).trans rfl,(blk_cell BK373.out 1).trans rfl,(blk_cell BK373.out 2).trans rfl,(blk_cell BK373.out 3).trans rfl,(blk_cell BK345.out 0).trans rfl,(blk_cell BK345.out 1).trans rfl,(blk_cell BK345.out 2).trans rfl,(blk_cell BK345.out 3).trans rfl⟩ (fun hHeld=>?_)
      clear hK K
      refine norm_ (a':=?_) ?_ ?_
      rotate_left
      ·show Act.put _ (some 45) _ = _
       simp only [Act.put,List.setIfInBounds_toArray,List.set_cons_zero,List.set_cons_succ,i64_w,i32_w]
       rfl
      refine one_ (i:=3) (N:=some 46) #[true,true,true,true,false] rfl rfl (by kernel_rfl) (by decide) (fun K hK=>?_)
      refine goes_ Try.func13 (by kernel_rfl) rfl #[.agg #[.slice Ao27 t361.length co27,.slice Ao30 t364.length co30,.slice Ao31 t367.length co31,.slice Ao32 t370.length co32],.agg #[.slice Ao41 t376.length co41,.slice Ao42 t379.length co42,.slice Ao43 t382.length co43,.slice Ao44 t385.length co44]] (by rfl) rfl rfl (by (try simp only [List.map_toArray,List.map_cons,List.map_nil]);first|done|rfl|(simp only [List.length_drop,List.length_take];rfl)) ?_
      with_reducible refine (laws_eqSpace.calls kj12 _ _ t361 _ _ t364 _ _ t367 _ _ t370 _ _ t376 _ _ t379 _ _ t382 _ _ t385 true _ ?side1 ?side2 ?side3 ?side4 ?side5 ?side6 ?side7 ?side8 ?side9 ?side10 ?side11 ?side12 ?side13 ?side14 ?side15 ?side16 A37.out).mono ?_
      (case side1=>repeat (first|exact (Kd.S_reads' HO_374000.out).2.2|(with_reducible first|apply Kd.C_alloc|apply Kd.C_drewN|apply Kd.C_drew)))
      (case side2=>exact (Kd.S_reads' HO_374000.out).2.1)
      (case side3=>repeat (first|exact (Kd.R_reads' HO_374001.out).2.2|(with_reducible first|apply Kd.C_alloc|apply Kd.C_drewN|apply Kd.C_drew)))
      (case side4=>exact (Kd.R_reads' HO_374001.out).2.1)
      (case side5=>repeat (first|exact (Kd.R_reads' HO_374002.out).2.2|(with_reducible first|apply Kd.C_alloc|apply Kd.C_drewN|apply Kd.C_drew)))
      (case side6=>exact (Kd.R_reads' HO_374002.out).2.1)
      (case side7=>repeat (first|exact (Kd.R_reads' HO_374003.out).2.2|(with_reducible first|apply Kd.C_alloc|apply Kd.C_drewN|apply Kd.C_drew)))
      (case side8=>exact (Kd.R_reads' HO_374003.out).2.1)
      (case side9=>repeat (first|exact (Kd.S_reads' HO378.out).2.2|(with_reducible first|apply Kd.C_alloc|apply Kd.C_drewN|apply Kd.C_drew)))
      (case side10=>exact (Kd.S_reads' HO378.out).2.1)
      (case side11=>repeat (first|exact (Kd.R_reads' HO381.out).2.2|(with_reducible first|apply Kd.C_alloc|apply Kd.C_drewN|apply Kd.C_drew)))
      (case side12=>exact (Kd.R_reads' HO381.out).2.1)
      (case side13=>repeat (first|exact (Kd.R_reads' HO384.out).2.2|(with_reducible first|apply Kd.C_alloc|apply Kd.C_drewN|apply Kd.C_drew)))
      (case side14=>exact (Kd.R_reads' HO384.out).2.1)
      (case side15=>repeat (first|exact (Kd.R_reads' HO387.out).2.2|(with_reducible first|apply Kd.C_alloc|apply Kd.C_drewN|apply Kd.C_drew)))
      (case side16=>exact (Kd.R_reads' HO387.out).2.1)
      rintro e w45 ⟨rfl,hb⟩
      refine ⟨_,rfl,?_⟩
      have n0_:=Aside0.mk (Kd.S_below (by (with_reducible repeat (first|apply Kd.S_alloc|apply Kd.S_drewN|apply Kd.S_drew));exact HO_374000.out) hb)
      have n1_:=Aside0.mk (Kd.R_below (by (with_reducible repeat (first|apply Kd.R_alloc|apply Kd.R_drewN|apply Kd.R_drew));exact HO_374001.out) hb)
      have n2_:=Aside0.mk (Kd.R_below (by (with_reducible repeat (first|apply Kd.R_alloc|apply Kd.R_drewN|apply Kd.R_drew));exact HO_374002.out) hb)
      have n3_:=Aside0.mk (Kd.R_below (by (with_reducible repeat (first|apply Kd.R_alloc|apply Kd.R_drewN|apply Kd.R_drew));exact HO_374003.out) hb)
      have n4_:=Aside0.mk (Kd.S_below (by (with_reducible repeat (first|apply Kd.S_alloc|apply Kd.S_drewN|apply Kd.S_drew));exact HO378.out) hb)
      have n5_:=Aside0.mk (Kd.R_below (by (with_reducible repeat (first|apply Kd.R_alloc|apply Kd.R_drewN|apply Kd.R_drew));exact HO381.out) hb)
      have n6_:=Aside0.mk (Kd.R_below (by (with_reducible repeat (first|apply Kd.R_alloc|apply Kd.R_drewN|apply Kd.R_drew));exact HO384.out) hb)
      have n7_:=Aside0.mk (Kd.R_below (by (with_reducible repeat (first|apply Kd.R_alloc|apply Kd.R_drewN|apply Kd.R_drew));exact HO387.out) hb)
      have n8_:=Aside0.mk (blk_below (g:=gb345) (o:=.cells #[.slice A0_0 l0_0.length c0_0,.slice A0_1 l0_1.length c0_1,.slice A0_2 l0_2.length c0_2,.slice A0_3 l0_3.length c0_3] 26 (0,0)) (by (with_reducible repeat first|apply blk_drewN|apply blk_drew|apply blk_alloc);exact BK345.out) hb)
      have n9_:=Aside0.mk (blk_below (g:=gb373) (o:=.cells #[.slice Ao27 t361.length co27,.slice Ao30 t364.length co30,.slice Ao31 t367.length co31,.slice Ao32 t370.length co32] 30 (0,0)) (by (with_reducible repeat first|apply blk_drewN|apply blk_drew|apply blk_alloc);exact BK373.out) hb)
      have n10_:=Aside0.mk (below_step (by repeat (first|(with_reducible first|exact HB.out|apply below_alloc|apply pw_below_drewN|apply below_drew1|refine below_set ?_ GE345.out|refine below_set ?_ GE373.out)|exact HB.out)) hb)
      clear HO_374000
      clear HO_374001
      clear HO_374002
      clear HO_374003
      clear HO378
      clear HO381
      clear HO384
      clear HO387
      clear BK345
      clear BK373
      clear HB
      have HO_374000:=n0_
      have HO_374001:=n1_
      have HO_374002:=n2_
      have HO_374003:=n3_
      have HO378:=n4_
      have HO381:=n5_
      have HO384:=n6_
      have HO387:=n7_
      have BK345:=n8_
      have BK373:=n9_
      have HB:=n10_
      clear n0_ n1_ n2_ n3_ n4_ n5_ n6_ n7_ n8_ n9_ n10_
      (try clear hb)
      (try clear hb2)
      (try clear hk)
      (try clear hi)
      refine hK.out _ _ ⟨(blk_cell BK373.out 0).trans rfl,(blk_cell BK373.out 1).trans rfl,(blk_cell BK373.out 2).trans rfl,(blk_cell BK373.out 3).trans rfl,(blk_cell BK345.out 0).trans rfl,(blk_cell BK345.out 1).trans rfl,(blk_cell BK345.out 2).trans rfl,(blk_cell BK345.out 3).trans rfl⟩ (fun hHeld=>?_)
      clear hK K
      refine norm_ (a':=?_) ?_ ?_
      rotate_left
      ·show Act.put _ (some 46) _ = _
       simp only [Act.put,List.setIfInBounds_toArray,List.set_cons_zero,List.set_cons_succ,i64_w,i32_w]
       rfl
      refine pure_ (i:=4) (N:=some 47) (v:=?_) (a':=?_) #[true,true,true,true,true] rfl rfl (by kernel_rfl) (fun _ _ _ h=>h) (Or.inl ⟨by rfl,?_⟩) ?_ ?_
      rotate_left
      ·intro w'
       go_simp
       with_reducible rfl
      rotate_left
      ·simp only [Act.put,List.setIfInBounds_toArray,List.set_cons_zero,List.set_cons_succ,i64_w,i32_w]
       rfl
      refine done_ (by kernel_rfl) ?_
      try go_wp2
      go_ret
      exact ⟨by first|rfl|(simp [*,errW_none,errW_some] <;> rfl),by repeat (first|(with_reducible first|exact HB.out|apply below_alloc|apply pw_below_drewN|apply below_drew1|refine below_set ?_ GE345.out|refine below_set ?_ GE373.out)|exact HB.out)⟩
     ·replace c38:=Bool.eq_false_iff.mpr c38
      subst c38
      have H1 : (some false) = some r:=by rw [if_neg (show ¬ (false = true) by decide)] at H;exact H
      clear H
      have H:=H1
      clear H1
      obtain rfl:=Option.some.inj H
      try go_wp2
      have n0_:=Aside0.mk (Kd.S_drew HO_374000.out)
      have n1_:=Aside0.mk (Kd.R_drew HO_374001.out)
      have n2_:=Aside0.mk (Kd.R_drew HO_374002.out)
      have n3_:=Aside0.mk (Kd.R_drew HO_374003.out)
      have n4_:=Aside0.mk (blk_drew BK345.out)
      have n5_:=Aside0.mk (blk_drew BK373.out)
      have n6_:=Aside0.mk (below_drew1 HB.out)
      clear HO_374000
      clear HO_374001
      clear HO_374002
      clear HO_374003
      clear BK345
      clear BK373
      clear HB
      have HO_374000:=n0_
      have HO_374001:=n1_
      have HO_374002:=n2_
      have HO_374003:=n3_
      have BK345:=n4_
      have BK373:=n5_
      have HB:=n6_
      clear n0_ n1_ n2_ n3_ n4_ n5_ n6_
      refine start_ (n:=5) (S:=fun w'=>w'.cell? ⟨gb373,0,none⟩ = some (.slice Ao27 t361.length co27)∧w'.cell? ⟨gb373,1,none⟩ = some (.slice Ao30 t364.length co30)∧w'.cell? ⟨gb373,2,none⟩ = some (.slice Ao31 t367.length co31)∧w'.cell? ⟨gb373,3,none⟩ = some (.slice Ao32 t370.length co32)∧w'.cell? ⟨gb345,0,none⟩ = some (.slice A0_0 l0_0.length c0_0)∧w'.cell? ⟨gb345,1,none⟩ = some (.slice A0_1 l0_1.length c0_1)∧w'.cell? ⟨gb345,2,none⟩ = some (.slice A0_2 l0_2.length c0_2)∧w'.cell? ⟨gb345,3,none⟩ = some (.slice A0_3 l0_3.length c0_3)) (ds:=[]) #[false,false,false,false,false] (by kernel_rfl) rfl rfl ⟨(blk_cell BK373.out 0).trans rfl,(blk_cell BK373.out 1).trans rfl,(blk_cell BK373.out 2).trans rfl,(blk_cell BK373.out 3).trans rfl,(blk_cell BK345.out 0).trans rfl,(blk_cell BK345.out 1).trans rfl,(blk_cell BK345.out 2).trans rfl,(blk_cell BK345.out 3).trans rfl⟩ (fun hHeld=>?_)
      generalize wc.drew = w46 at HO_374000 HO_374001 HO_374002 HO_374003 BK345 BK373 HB hHeld ⊢
      refine take_ (i:=0) (N:=some 43) (v:=?_) (a':=?_) #[true,false,false,false,false] rfl rfl (by kernel_rfl) (fun _ _ _ h=>h) (Or.inl ⟨by rfl,?_⟩) hHeld ?_ ?_
      rotate_left
      ·rintro w' ⟨s0,s1,s2,s3,s4,s5,s6,s7⟩
       go_simp
       with_reducible rfl
      rotate_left
      ·simp only [Act.put,List.setIfInBounds_toArray,List.set_cons_zero,List.set_cons_succ,i64_w,i32_w]
       rfl
      refine take_ (i:=1) (N:=some 44) (v:=?_) (a':=?_) #[true,true,false,false,false] rfl rfl (by kernel_rfl) (fun _ _ _ h=>h) (Or.inl ⟨by rfl,?_⟩) hHeld ?_ ?_
      rotate_left
      ·rintro w' ⟨s0,s1,s2,s3,s4,s5,s6,s7⟩
       go_simp
       with_reducible rfl
      rotate_left
      ·simp only [Act.put,List.setIfInBounds_toArray,List.set_cons_zero,List.set_cons_succ,i64_w,i32_w]
       rfl
      refine one_ (i:=2) (N:=some 45) #[true,true,true,false,false] rfl rfl (by kernel_rfl) (by decide) (fun K hK=>?_)
      refine goes_ Try.func10 (by kernel_rfl) rfl #[.agg #[.slice A0_0 l0_0.length c0_0,.slice A0_1 l0_1.length c0_1,.slice A0_2 l0_2.length c0_2,.slice A0_3 l0_3.length c0_3]] (by rfl) rfl rfl (by (try simp only [List.map_toArray,List.map_cons,List.map_nil]);first|done|rfl|(simp only [List.length_drop,List.length_take];rfl)) ?_
      with_reducible refine (laws_toSpace.calls kj12 _ _ l0_0 _ _ l0_1 _ _ l0_2 _ _ l0_3 t376 t379 t382 t385 _ ?side1 ?side2 ?side3 ?side4 ?side5 ?side6 ?side7 ?side8 A36.out).mono ?_
      (case side1=>repeat (first|exact (Kd.C_below HR0_0.out HB.out)|(with_reducible first|apply Kd.C_alloc|apply Kd.C_drewN|apply Kd.C_drew)))
      (case side2=>exact HC0_0.out)
      (case side3=>repeat (first|exact (Kd.C_below HR0_1.out HB.out)|(with_reducible first|apply Kd.C_alloc|apply Kd.C_drewN|apply Kd.C_drew)))
      (case side4=>exact HC0_1.out)
      (case side5=>repeat (first|exact (Kd.C_below HR0_2.out HB.out)|(with_reducible first|apply Kd.C_alloc|apply Kd.C_drewN|apply Kd.C_drew)))
      (case side6=>exact HC0_2.out)
      (case side7=>repeat (first|exact (Kd.C_below HR0_3.out HB.out)|(with_reducible first|apply Kd.C_alloc|apply Kd.C_drewN|apply Kd.C_drew)))
      (case side8=>exact HC0_3.out)
      rintro e w47 ⟨v377,v380,v383,v386,rfl,ho0,ho1,ho2,ho3,hb⟩
      refine ⟨_,rfl,?_⟩
      have n0_:=Aside0.mk (Kd.S_told (Kd.S_told (Kd.S_old (by (with_reducible repeat (first|apply Kd.S_alloc|apply Kd.S_drewN|apply Kd.S_drew));exact HO_374000.out) hb) (Kd.S_base ho0)) (Kd.R_base ho1))
      have n1_:=Aside0.mk (Kd.R_elder' (by (with_reducible repeat (first|apply Kd.R_alloc|apply Kd.R_drewN|apply Kd.R_drew));exact HO_374001.out) (Kd.R_base ho1) hb)
      have n2_:=Aside0.mk (Kd.R_mono (Kd.R_told (Kd.R_told (Kd.R_old (by (with_reducible repeat (first|apply Kd.R_alloc|apply Kd.R_drewN|apply Kd.R_drew));exact HO_374002.out) hb) (Kd.R_base ho2)) (Kd.R_base ho3)) (fun _ h_=>h_.1))
      have n3_:=Aside0.mk (Kd.R_mono (Kd.R_told (Kd.R_told (Kd.R_old (by (with_reducible repeat (first|apply Kd.R_alloc|apply Kd.R_drewN|apply Kd.R_drew));exact HO_374003.out) hb) (Kd.R_base ho2)) (Kd.R_base ho3)) (fun _ h_=>h_.1))
      have n4_:=Aside0.mk (Kd.S_lower (Kd.S_new' (Kd.S_new' (Kd.S_mono (Kd.S_bound ho0) (fun k_ h_=>(⟨h_.1,(by first|exact h_.2.1|simpa only [World.size_setCell] using h_.2.1)⟩ : _∧w46.heap.size ≤ k_))) (Kd.S_lt (by (with_reducible repeat (first|apply Kd.S_alloc|apply Kd.S_drewN|apply Kd.S_drew));exact HO_374000.out))) (Kd.R_lt (by (with_reducible repeat (first|apply Kd.R_alloc|apply Kd.R_drewN|apply Kd.R_drew));exact HO_374001.out))) (below_size (by repeat (first|(with_reducible first|exact HB.out|apply below_alloc|apply pw_below_drewN|apply below_drew1|refine below_set ?_ GE345.out|refine below_set ?_ GE373.out)|exact HB.out))))
      have n5_:=Aside0.mk (Kd.R_lower (Kd.R_new' ho1 (Kd.R_lt (by (with_reducible repeat (first|apply Kd.R_alloc|apply Kd.R_drewN|apply Kd.R_drew));exact HO_374001.out))) (below_size (by repeat (first|(with_reducible first|exact HB.out|apply below_alloc|apply pw_below_drewN|apply below_drew1|refine below_set ?_ GE345.out|refine below_set ?_ GE373.out)|exact HB.out))))
      have n6_:=Aside0.mk (Kd.R_lower (Kd.R_new' (Kd.R_new' ho2 (Kd.R_lt (by (with_reducible repeat (first|apply Kd.R_alloc|apply Kd.R_drewN|apply Kd.R_drew));exact HO_374002.out))) (Kd.R_lt (by (with_reducible repeat (first|apply Kd.R_alloc|apply Kd.R_drewN|apply Kd.R_drew));exact HO_374003.out))) (below_size (by repeat (first|(with_reducible first|exact HB.out|apply below_alloc|apply pw_below_drewN|apply below_drew1|refine below_set ?_ GE345.out|refine below_set ?_ GE373.out)|exact HB.out))))
      have n7_:=Aside0.mk (Kd.R_lower (Kd.R_new' (Kd.R_new' ho3 (Kd.R_lt (by (with_reducible repeat (first|apply Kd.R_alloc|apply Kd.R_drewN|apply Kd.R_drew));exact HO_374002.out))) (Kd.R_lt (by (with_reducible repeat (first|apply Kd.R_alloc|apply Kd.R_drewN|apply Kd.R_drew));exact HO_374003.out))) (below_size (by repeat (first|(with_reducible first|exact HB.out|apply below_alloc|apply pw_below_drewN|apply below_drew1|refine below_set ?_ GE345.out|refine below_set ?_ GE373.out)|exact HB.out))))
      have n8_:=Aside0.mk (blk_below (g:=gb345) (o:=.cells #[.slice A0_0 l0_0.length c0_0,.slice A0_1 l0_1.length c0_1,.slice A0_2 l0_2.length c0_2,.slice A0_3 l0_3.length c0_3] 26 (0,0)) (by (with_reducible repeat first|apply blk_drewN|apply blk_drew|apply blk_alloc);exact BK345.out) hb)
      have n9_:=Aside0.mk (blk_below (g:=gb373) (o:=.cells #[.slice Ao27 t361.length co27,.slice Ao30 t364.length co30,.slice Ao31 t367.length co31,.slice Ao32 t370.length co32] 30 (0,0)) (by (with_reducible repeat first|apply blk_drewN|apply blk_drew|apply blk_alloc);exact BK373.out) hb)
      have n10_:=Aside0.mk (below_step (by repeat (first|(with_reducible first|exact HB.out|apply below_alloc|apply pw_below_drewN|apply below_drew1|refine below_set ?_ GE345.out|refine below_set ?_ GE373.out)|exact HB.out)) hb)
      clear HO_374000
      clear HO_374001
      clear HO_374002
      clear HO_374003
      clear BK345
      clear BK373
      clear HB
      have HO_374000:=n0_
      have HO_374001:=n1_
      have HO_374002:=n2_
      have HO_374003:=n3_
      have HO378:=n4_
      have HO381:=n5_
      have HO384:=n6_
      have HO387:=n7_
      have BK345:=n8_
      have BK373:=n9_
      have HB:=n10_
      clear n0_ n1_ n2_ n3_ n4_ n5_ n6_ n7_ n8_ n9_ n10_
      (try clear hb)
      (try clear hb2)
      (try clear hk)
      (try clear hi)
      (try clear ho0)
      (try clear ho1)
      (try clear ho2)
      (try clear ho3)
      obtain ⟨Ao48,co48,eo48⟩:=Kd.S_slice HO378.out
      (first|subst eo48|(injection eo48 with f1_ f2_ f3_;have f4_:=f1_.symm;have f5_:=f3_.symm;clear f1_ f2_ f3_;subst f4_;subst f5_))
      obtain ⟨Ao49,co49,eo49⟩:=Kd.R_slice HO381.out
      (first|subst eo49|(injection eo49 with f1_ f2_ f3_;have f4_:=f1_.symm;have f5_:=f3_.symm;clear f1_ f2_ f3_;subst f4_;subst f5_))
      obtain ⟨Ao50,co50,eo50⟩:=Kd.R_slice HO384.out
      (first|subst eo50|(injection eo50 with f1_ f2_ f3_;have f4_:=f1_.symm;have f5_:=f3_.symm;clear f1_ f2_ f3_;subst f4_;subst f5_))
      obtain ⟨Ao51,co51,eo51⟩:=Kd.R_slice HO387.out
      (first|subst eo51|(injection eo51 with f1_ f2_ f3_;have f4_:=f1_.symm;have f5_:=f3_.symm;clear f1_ f2_ f3_;subst f4_;subst f5_))
      refine hK.out _ _ ⟨(blk_cell BK373.out 0).trans rfl,(blk_cell BK373.out 1).trans rfl,(blk_cell BK373.out 2).trans rfl,(blk_cell BK373.out 3).trans rfl,(blk_cell BK345.out 0).trans rfl,(blk_cell BK345.out 1).trans rfl,(blk_cell BK345.out 2).trans rfl,(blk_cell BK345.out 3).trans rfl⟩ (fun hHeld=>?_)
      clear hK K
      refine norm_ (a':=?_) ?_ ?_
      rotate_left
      ·show Act.put _ (some 45) _ = _
       simp only [Act.put,List.setIfInBounds_toArray,List.set_cons_zero,List.set_cons_succ,i64_w,i32_w]
       rfl
      refine one_ (i:=3) (N:=some 46) #[true,true,true,true,false] rfl rfl (by kernel_rfl) (by decide) (fun K hK=>?_)
      refine goes_ Try.func13 (by kernel_rfl) rfl #[.agg #[.slice Ao27 t361.length co27,.slice Ao30 t364.length co30,.slice Ao31 t367.length co31,.slice Ao32 t370.length co32],.agg #[.slice Ao48 t376.length co48,.slice Ao49 t379.length co49,.slice Ao50 t382.length co50,.slice Ao51 t385.length co51]] (by rfl) rfl rfl (by (try simp only [List.map_toArray,List.map_cons,List.map_nil]);first|done|rfl|(simp only [List.length_drop,List.length_take];rfl)) ?_
      with_reducible refine (laws_eqSpace.calls kj12 _ _ t361 _ _ t364 _ _ t367 _ _ t370 _ _ t376 _ _ t379 _ _ t382 _ _ t385 false _ ?side1 ?side2 ?side3 ?side4 ?side5 ?side6 ?side7 ?side8 ?side9 ?side10 ?side11 ?side12 ?side13 ?side14 ?side15 ?side16 A37.out).mono ?_
      (case side1=>repeat (first|exact (Kd.S_reads' HO_374000.out).2.2|(with_reducible first|apply Kd.C_alloc|apply Kd.C_drewN|apply Kd.C_drew)))
      (case side2=>exact (Kd.S_reads' HO_374000.out).2.1)
      (case side3=>repeat (first|exact (Kd.R_reads' HO_374001.out).2.2|(with_reducible first|apply Kd.C_alloc|apply Kd.C_drewN|apply Kd.C_drew)))
      (case side4=>exact (Kd.R_reads' HO_374001.out).2.1)
      (case side5=>repeat (first|exact (Kd.R_reads' HO_374002.out).2.2|(with_reducible first|apply Kd.C_alloc|apply Kd.C_drewN|apply Kd.C_drew)))
      (case side6=>exact (Kd.R_reads' HO_374002.out).2.1)
      (case side7=>repeat (first|exact (Kd.R_reads' HO_374003.out).2.2|(with_reducible first|apply Kd.C_alloc|apply Kd.C_drewN|apply Kd.C_drew)))
      (case side8=>exact (Kd.R_reads' HO_374003.out).2.1)
      (case side9=>repeat (first|exact (Kd.S_reads' HO378.out).2.2|(with_reducible first|apply Kd.C_alloc|apply Kd.C_drewN|apply Kd.C_drew)))
      (case side10=>exact (Kd.S_reads' HO378.out).2.1)
      (case side11=>repeat (first|exact (Kd.R_reads' HO381.out).2.2|(with_reducible first|apply Kd.C_alloc|apply Kd.C_drewN|apply Kd.C_drew)))
      (case side12=>exact (Kd.R_reads' HO381.out).2.1)
      (case side13=>repeat (first|exact (Kd.R_reads' HO384.out).2.2|(with_reducible first|apply Kd.C_alloc|apply Kd.C_drewN|apply Kd.C_drew)))
      (case side14=>exact (Kd.R_reads' HO384.out).2.1)
      (case side15=>repeat (first|exact (Kd.R_reads' HO387.out).2.2|(with_reducible first|apply Kd.C_alloc|apply Kd.C_drewN|apply Kd.C_drew)))
      (case side16=>exact (Kd.R_reads' HO387.out).2.1)
      rintro e w52 ⟨rfl,hb⟩
      refine ⟨_,rfl,?_⟩
      have n0_:=Aside0.mk (Kd.S_below (by (with_reducible repeat (first|apply Kd.S_alloc|apply Kd.S_drewN|apply Kd.S_drew));exact HO_374000.out) hb)
      have n1_:=Aside0.mk (Kd.R_below (by (with_reducible repeat (first|apply Kd.R_alloc|apply Kd.R_drewN|apply Kd.R_drew));exact HO_374001.out) hb)
      have n2_:=Aside0.mk (Kd.R_below (by (with_reducible repeat (first|apply Kd.R_alloc|apply Kd.R_drewN|apply Kd.R_drew));exact HO_374002.out) hb)
      have n3_:=Aside0.mk (Kd.R_below (by (with_reducible repeat (first|apply Kd.R_alloc|apply Kd.R_drewN|apply Kd.R_drew));exact HO_374003.out) hb)
      have n4_:=Aside0.mk (Kd.S_below (by (with_reducible repeat (first|apply Kd.S_alloc|apply Kd.S_drewN|apply Kd.S_drew));exact HO378.out) hb)
      have n5_:=Aside0.mk (Kd.R_below (by (with_reducible repeat (first|apply Kd.R_alloc|apply Kd.R_drewN|apply Kd.R_drew));exact HO381.out) hb)
      have n6_:=Aside0.mk (Kd.R_below (by (with_reducible repeat (first|apply Kd.R_alloc|apply Kd.R_drewN|apply Kd.R_drew));exact HO384.out) hb)
      have n7_:=Aside0.mk (Kd.R_below (by (with_reducible repeat (first|apply Kd.R_alloc|apply Kd.R_drewN|apply Kd.R_drew));exact HO387.out) hb)
      have n8_:=Aside0.mk (blk_below (g:=gb345) (o:=.cells #[.slice A0_0 l0_0.length c0_0,.slice A0_1 l0_1.length c0_1,.slice A0_2 l0_2.length c0_2,.slice A0_3 l0_3.length c0_3] 26 (0,0)) (by (with_reducible repeat first|apply blk_drewN|apply blk_drew|apply blk_alloc);exact BK345.out) hb)
      have n9_:=Aside0.mk (blk_below (g:=gb373) (o:=.cells #[.slice Ao27 t361.length co27,.slice Ao30 t364.length co30,.slice Ao31 t367.length co31,.slice Ao32 t370.length co32] 30 (0,0)) (by (with_reducible repeat first|apply blk_drewN|apply blk_drew|apply blk_alloc);exact BK373.out) hb)
      have n10_:=Aside0.mk (below_step (by repeat (first|(with_reducible first|exact HB.out|apply below_alloc|apply pw_below_drewN|apply below_drew1|refine below_set ?_ GE345.out|refine below_set ?_ GE373.out)|exact HB.out)) hb)
      clear HO_374000
      clear HO_374001
      clear HO_374002
      clear HO_374003
      clear HO378
      clear HO381
      clear HO384
      clear HO387
      clear BK345
      clear BK373
      clear HB
      have HO_374000:=n0_
      have HO_374001:=n1_
      have HO_374002:=n2_
      have HO_374003:=n3_
      have HO378:=n4_
      have HO381:=n5_
      have HO384:=n6_
      have HO387:=n7_
      have BK345:=n8_
      have BK373:=n9_
      have HB:=n10_
      clear n0_ n1_ n2_ n3_ n4_ n5_ n6_ n7_ n8_ n9_ n10_
      (try clear hb)
      (try clear hb2)
      (try clear hk)
      (try clear hi)
      refine hK.out _ _ ⟨(blk_cell BK373.out 0).trans rfl,(blk_cell BK373.out 1).trans rfl,(blk_cell BK373.out 2).trans rfl,(blk_cell BK373.out 3).trans rfl,(blk_cell BK345.out 0).trans rfl,(blk_cell BK345.out 1).trans rfl,(blk_cell BK345.out 2).trans rfl,(blk_cell BK345.out 3).trans rfl⟩ (fun hHeld=>?_)
      clear hK K
      refine norm_ (a':=?_) ?_ ?_
      rotate_left
      ·show Act.put _ (some 46) _ = _
       simp only [Act.put,List.setIfInBounds_toArray,List.set_cons_zero,List.set_cons_succ,i64_w,i32_w]
       rfl
      refine pure_ (i:=4) (N:=some 47) (v:=?_) (a':=?_) #[true,true,true,true,true] rfl rfl (by kernel_rfl) (fun _ _ _ h=>h) (Or.inl ⟨by rfl,?_⟩) ?_ ?_
      rotate_left
      ·intro w'
       go_simp
       with_reducible rfl
      rotate_left
      ·simp only [Act.put,List.setIfInBounds_toArray,List.set_cons_zero,List.set_cons_succ,i64_w,i32_w]
       rfl
      refine done_ (by kernel_rfl) ?_
      try go_wp2
      go_ret
      exact ⟨by first|rfl|(simp [*,errW_none,errW_some] <;> rfl),by repeat (first|(with_reducible first|exact HB.out|apply below_alloc|apply pw_below_drewN|apply below_drew1|refine below_set ?_ GE345.out|refine below_set ?_ GE373.out)|exact HB.out)⟩

end Go.Proofs.Ytcdlookokffkeaa.PFnExactValueIn
