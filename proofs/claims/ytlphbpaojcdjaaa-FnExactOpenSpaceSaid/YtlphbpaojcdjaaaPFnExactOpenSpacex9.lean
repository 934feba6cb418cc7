-- Written by a program of this session over the print of the kit (wip/t/patch_print.py).
import Derived.Test.YtlphbpaojcdjaaaPFnExactOpenSpacex0
import Derived.Test.YtlphbpaojcdjaaaPFnExactOpenSpacex7
import Derived.Test.YtlphbpaojcdjaaaPFnExactOpenSpacex8
namespace Go.Proofs.Ytlphbpaojcdjaaa.PFnExactOpenSpace
open Go.RowKit Go.Proofs.YtlphbpaojcdjaaaW.PrintWords Go.Proofs.YtlphbpaojcdjaaaW.PrintLast Go.Proofs.YtlphbpaojcdjaaaW.PrintMore
attribute [local go_sem] max2_int min2_int max_two min_two max_three min_three max_four min_four   -- for this text's walks alone
set_option linter.unusedVariables false
set_option linter.unusedSimpArgs false

/-! ### impl_OpenSpace: function 26 -/
def impl_OpenSpace.f (k : Nat) (l0_0 : List (List Int)) (a0_1 : Int) (a0_2 : Bool) (a0_3 : Int) : Option ((List (List Int)) × List Int × List Int × List Int × Bool):=(impl_GoodDisk.f k l0_0 a0_1 a0_2 a0_3).bind fun t248=>(if t248 = true then (if 1 < (l0_0.length : Int) then ((impl_copyBlocks.f k l0_0).bind fun t250=>(if 20 ≤ ((rd_L2 l0_0 1).length : Int) then ((slices_Clone_byte_byte.f ((rd_L2 l0_0 1).take 20)).bind fun t254=>((impl_GoodSpace.f k t250 t254 ([] : List Int) ([] : List Int)).bind fun t258=>(if t258 = true then ((slices_ContainsFunc_byte_byte_61.f k ((rd_L2 l0_0 1).drop 20) ()).bind fun t260=>(if t260 = true then (some (([] : List (List Int)),([] : List Int),([] : List Int),([] : List Int),false)) else (some (t250,t254,([] : List Int),([] : List Int),true)))) else (some (([] : List (List Int)),([] : List Int),([] : List Int),([] : List Int),false))))) else (none))) else (none)) else (some (([] : List (List Int)),([] : List Int),([] : List Int),([] : List Int),false)))
theorem impl_OpenSpace.mono : ∀ a0 a1 a2 a3 k,LeO (impl_OpenSpace.f k a0 a1 a2 a3) (impl_OpenSpace.f (k + 1) a0 a1 a2 a3):=by
 intro a0 a1 a2 a3 k
 unfold impl_OpenSpace.f
 repeat' first
   | (with_reducible exact impl_GoodDisk.mono _ _ _ _ _)
   | (with_reducible exact impl_GoodSpace.mono _ _ _ _ _)
   | (with_reducible exact impl_copyBlocks.mono _ _)
   | (with_reducible exact slices_ContainsFunc_byte_byte_61.mono _ _ _)
   | (with_reducible exact LeO.refl _)
   | (with_reducible exact LeO.none _)
   | (with_reducible refine LeO.ite ?_ ?_)
   | (with_reducible refine LeO.bind ?_ (fun _=>?_))
   | exact impl_GoodDisk.mono _ _ _ _ _
   | exact impl_GoodSpace.mono _ _ _ _ _
   | exact impl_copyBlocks.mono _ _
   | exact slices_ContainsFunc_byte_byte_61.mono _ _ _
   | exact LeO.none _
   | refine LeO.ite ?_ ?_
   | refine LeO.bind ?_ (fun _=>?_)
def impl_OpenSpace.T4 : Bool × List (List Nat × List Nat):=(true,[([],[]),([0],[0]),([1],[1]),([],[]),([3],[3]),([4,2],[4]),([2,5],[2,5]),([],[]),([7,6,5,0,1,2,3,4,5,6,7],[6,7])])
def impl_OpenSpace.B4 : List Nat:=[0,1,3,0,8,31,63,0,255]
theorem impl_OpenSpace.tab4 : rtab .any (opsOf Try.f26 4) = impl_OpenSpace.T4:=by kernel_rfl
theorem impl_OpenSpace.bits4 : waitsOk impl_OpenSpace.T4.2 impl_OpenSpace.B4 = true:=by kernel_rfl
set_option maxHeartbeats 8000000 in
set_option maxRecDepth 100000 in
theorem impl_OpenSpace.calls (k : Nat) (A0_0 : Option Addr) (c0_0 : Nat) (l0_0 : List (List Int)) (a0_1 : Int) (a0_2 : Bool) (a0_3 : Int) (r1 : List (List Int)) (r2 : List Int) (r3 : List Int) (r4 : List Int) (r5 : Bool) (w : World) (hr0_0 : Kd.C (Kd.slice 5 (Kd.int .u8)) w A0_0 l0_0.length l0_0) (hc0_0 : l0_0.length ≤ c0_0) (h : impl_OpenSpace.f k l0_0 a0_1 a0_2 a0_3 = some (r1,r2,r3,r4,r5)) :
  Calls Try.prog 26 #[.agg #[.slice A0_0 l0_0.length c0_0,.int .i64 a0_1,.bool a0_2,.int .i64 a0_3]] w fun e w'=>∃ v0_ v1_ v2_ v3_ : Value,e = .returned (.tuple #[.agg #[v0_,v1_,v2_,v3_],.bool r5])∧Kd.S (Kd.slice 5 (Kd.int .u8)) 23 w' w.heap.size (fun k_=>some k_ ≠ (v1_ : Value).ownBlock) v0_ r1∧Kd.R (Kd.int .u8) 5 w' w.heap.size (fun _=>True) v1_ r2∧Kd.R (Kd.int .i64) 3 w' w.heap.size (fun k_=>some k_ ≠ (v3_ : Value).ownBlock) v2_ r3∧Kd.R (Kd.int .i64) 3 w' w.heap.size (fun k_=>some k_ ≠ (v2_ : Value).ownBlock) v3_ r4∧Below w.heap.size w w':=by
 have hu45:=Try.underlying45
 have hu29:=Try.underlying29
 have HR0_0:=Aside0.mk hr0_0
 have HC0_0:=Aside0.mk hc0_0
 clear hr0_0 hc0_0
 have HB:=Aside0.mk (Below.refl w.heap.size w)
 have H : ((impl_GoodDisk.f k l0_0 a0_1 a0_2 a0_3).bind fun t248=>(if t248 = true then (if 1 < (l0_0.length : Int) then ((impl_copyBlocks.f k l0_0).bind fun t250=>(if 20 ≤ ((rd_L2 l0_0 1).length : Int) then ((slices_Clone_byte_byte.f ((rd_L2 l0_0 1).take 20)).bind fun t254=>((impl_GoodSpace.f k t250 t254 ([] : List Int) ([] : List Int)).bind fun t258=>(if t258 = true then ((slices_ContainsFunc_byte_byte_61.f k ((rd_L2 l0_0 1).drop 20) ()).bind fun t260=>(if t260 = true then (some (([] : List (List Int)),([] : List Int),([] : List Int),([] : List Int),false)) else (some (t250,t254,([] : List Int),([] : List Int),true)))) else (some (([] : List (List Int)),([] : List Int),([] : List Int),([] : List Int),false))))) else (none))) else (none)) else (some (([] : List (List Int)),([] : List Int),([] : List Int),([] : List Int),false)))) = some (r1,r2,r3,r4,r5):=h
 clear h
 replace H:=Option.bind_eq_some_iff.mp H
 obtain ⟨t248,A20,H⟩:=H
 replace H : (if t248 = true then (if 1 < (l0_0.length : Int) then ((impl_copyBlocks.f k l0_0).bind fun t250=>(if 20 ≤ ((rd_L2 l0_0 1).length : Int) then ((slices_Clone_byte_byte.f ((rd_L2 l0_0 1).take 20)).bind fun t254=>((impl_GoodSpace.f k t250 t254 ([] : List Int) ([] : List Int)).bind fun t258=>(if t258 = true then ((slices_ContainsFunc_byte_byte_61.f k ((rd_L2 l0_0 1).drop 20) ()).bind fun t260=>(if t260 = true then (some (([] : List (List Int)),([] : List Int),([] : List Int),([] : List Int),false)) else (some (t250,t254,([] : List Int),([] : List Int),true)))) else (some (([] : List (List Int)),([] : List Int),([] : List Int),([] : List Int),false))))) else (none))) else (none)) else (some (([] : List (List Int)),([] : List Int),([] : List Int),([] : List Int),false))) = some (r1,r2,r3,r4,r5):=H
 have A2:=Aside0.mk A20
 clear A20
 by_cases c3 : t248 = true
 ·subst c3
  have H1 : (if 1 < (l0_0.length : Int) then ((impl_copyBlocks.f k l0_0).bind fun t250=>(if 20 ≤ ((rd_L2 l0_0 1).length : Int) then ((slices_Clone_byte_byte.f ((rd_L2 l0_0 1).take 20)).bind fun t254=>((impl_GoodSpace.f k t250 t254 ([] : List Int) ([] : List Int)).bind fun t258=>(if t258 = true then ((slices_ContainsFunc_byte_byte_61.f k ((rd_L2 l0_0 1).drop 20) ()).bind fun t260=>(if t260 = true then (some (([] : List (List Int)),([] : List Int),([] : List Int),([] : List Int),false)) else (some (t250,t254,([] : List Int),([] : List Int),true)))) else (some (([] : List (List Int)),([] : List Int),([] : List Int),([] : List Int),false))))) else (none))) else (none)) = some (r1,r2,r3,r4,r5):=by rw [if_pos rfl] at H;exact H
  clear H
  have H:=H1
  clear H1
  by_cases c4 : 1 < (l0_0.length : Int)
  ·rw [if_pos c4] at H
   have c4b0 : decide (1 < (l0_0.length : Int)) = true:=decide_eq_true c4
   have c4b1 : decide (1 < l0_0.length) = true:=decide_eq_true (by omega)
   clear c4
   replace H:=Option.bind_eq_some_iff.mp H
   obtain ⟨t250,A50,H⟩:=H
   replace H : (if 20 ≤ ((rd_L2 l0_0 1).length : Int) then ((slices_Clone_byte_byte.f ((rd_L2 l0_0 1).take 20)).bind fun t254=>((impl_GoodSpace.f k t250 t254 ([] : List Int) ([] : List Int)).bind fun t258=>(if t258 = true then ((slices_ContainsFunc_byte_byte_61.f k ((rd_L2 l0_0 1).drop 20) ()).bind fun t260=>(if t260 = true then (some (([] : List (List Int)),([] : List Int),([] : List Int),([] : List Int),false)) else (some (t250,t254,([] : List Int),([] : List Int),true)))) else (some (([] : List (List Int)),([] : List Int),([] : List Int),([] : List Int),false))))) else (none)) = some (r1,r2,r3,r4,r5):=H
   have A5:=Aside0.mk A50
   clear A50
   by_cases c6 : 20 ≤ ((rd_L2 l0_0 1).length : Int)
   ·rw [if_pos c6] at H
    have c6b0:=eq_true c6
    have c6b1 : decide (20 ≤ ((rd_L2 l0_0 1).length : Int)) = true:=decide_eq_true c6
    clear c6
    replace H:=Option.bind_eq_some_iff.mp H
    obtain ⟨t254,A70,H⟩:=H
    replace H : ((impl_GoodSpace.f k t250 t254 ([] : List Int) ([] : List Int)).bind fun t258=>(if t258 = true then ((slices_ContainsFunc_byte_byte_61.f k ((rd_L2 l0_0 1).drop 20) ()).bind fun t260=>(if t260 = true then (some (([] : List (List Int)),([] : List Int),([] : List Int),([] : List Int),false)) else (some (t250,t254,([] : List Int),([] : List Int),true)))) else (some (([] : List (List Int)),([] : List Int),([] : List Int),([] : List Int),false)))) = some (r1,r2,r3,r4,r5):=H
    have A7:=Aside0.mk A70
    clear A70
    replace H:=Option.bind_eq_some_iff.mp H
    obtain ⟨t258,A80,H⟩:=H
    replace H : (if t258 = true then ((slices_ContainsFunc_byte_byte_61.f k ((rd_L2 l0_0 1).drop 20) ()).bind fun t260=>(if t260 = true then (some (([] : List (List Int)),([] : List Int),([] : List Int),([] : List Int),false)) else (some (t250,t254,([] : List Int),([] : List Int),true)))) else (some (([] : List (List Int)),([] : List Int),([] : List Int),([] : List Int),false))) = some (r1,r2,r3,r4,r5):=H
    have A8:=Aside0.mk A80
    clear A80
    by_cases c9 : t258 = true
    ·subst c9
     have H1 : ((slices_ContainsFunc_byte_byte_61.f k ((rd_L2 l0_0 1).drop 20) ()).bind fun t260=>(if t260 = true then (some (([] : List (List Int)),([] : List Int),([] : List Int),([] : List Int),false)) else (some (t250,t254,([] : List Int),([] : List Int),true)))) = some (r1,r2,r3,r4,r5):=by rw [if_pos rfl] at H;exact H
     clear H
     have H:=H1
     clear H1
     have c10b0:=eq_true (of_decide_eq_true (by assumption) : 20 ≤ ((rd_L2 l0_0 1).length : Int))
     replace H:=Option.bind_eq_some_iff.mp H
     obtain ⟨t260,A110,H⟩:=H
     replace H : (if t260 = true then (some (([] : List (List Int)),([] : List Int),([] : List Int),([] : List Int),false)) else (some (t250,t254,([] : List Int),([] : List Int),true))) = some (r1,r2,r3,r4,r5):=H
     have A11:=Aside0.mk A110
     clear A110
     by_cases c12 : t260 = true
     ·subst c12
      have H1 : (some (([] : List (List Int)),([] : List Int),([] : List Int),([] : List Int),false)) = some (r1,r2,r3,r4,r5):=by rw [if_pos rfl] at H;exact H
      clear H
      have H:=H1
      clear H1
      simp only [Option.some.injEq,Prod.mk.injEq] at H
      obtain ⟨rfl,rfl,rfl,rfl,rfl⟩:=H
      go_enter Try.func26,Try.ntmps26
      try go_wp2_with (first|((with_reducible refine gate_dst (N:=1) rfl ?_);refine box_event ?hg (N:=1) ?hd (cs:=#[.slice A0_0 l0_0.length c0_0,.int .i64 a0_1,.bool a0_2,.int .i64 a0_3]) (t:=45) ?hr ?_;(case hd=>rfl);(case hg=>rfl);(case hr=>first|(go_simp;done)|(go_simp;rfl));intro gb246 hg w13 hbox hb;have n0_:=Aside0.mk (below_step (by repeat (first|exact HB.out|apply below_alloc|apply pw_below_drewN|apply below_drew1)) hb);have n1_:=Aside0.mk (hbox);have n2_:=Aside0.mk ((by rw [hg];exact (below_size (by repeat (first|exact HB.out|apply below_alloc|apply pw_below_drewN|apply below_drew1))) : w.heap.size ≤ gb246));have n3_:=Aside0.mk ((by rw [hg];exact (below_size (by repeat (first|exact HB.out|apply below_alloc|apply pw_below_drewN|apply below_drew1))) : w.heap.size ≤ gb246));clear HB;have HB:=n0_;have BK246:=n1_;have GW246:=n2_;have GE246:=n3_;clear n0_ n1_ n2_ n3_;clear hb hbox hg)|((with_reducible refine gate_dst (N:=2) rfl ?_);refine box_event ?hg (N:=2) ?hd (cs:=#[.slice none 0 0,.slice none 0 0,.slice none 0 0,.slice none 0 0]) (t:=29) ?hr ?_;(case hd=>rfl);(case hg=>rfl);(case hr=>first|(go_simp;done)|(go_simp;rfl));intro gb247 hg w14 hbox hb;have n0_:=Aside0.mk (blk_below (g:=gb246) (o:=.cells #[.slice A0_0 l0_0.length c0_0,.int .i64 a0_1,.bool a0_2,.int .i64 a0_3] 45 (0,0)) (by (with_reducible repeat first|apply blk_drewN|apply blk_drew|apply blk_alloc);exact BK246.out) hb);have n1_:=Aside0.mk (below_step (by repeat (first|(with_reducible first|exact HB.out|apply below_alloc|apply pw_below_drewN|apply below_drew1|refine below_set ?_ GE246.out)|exact HB.out)) hb);have n2_:=Aside0.mk (hbox);have n3_:=Aside0.mk ((by rw [hg];exact (below_size (by repeat (first|(with_reducible first|exact HB.out|apply below_alloc|apply pw_below_drewN|apply below_drew1|refine below_set ?_ GE246.out)|exact HB.out))) : w.heap.size ≤ gb247));have n4_:=Aside0.mk ((by rw [hg];exact (below_size (by repeat (first|(with_reducible first|exact HB.out|apply below_alloc|apply pw_below_drewN|apply below_drew1|refine below_set ?_ GE246.out)|exact HB.out))) : w.heap.size ≤ gb247));have n5_:=Aside0.mk ((by rw [hg];exact Nat.ne_of_lt (blk_lt (g:=gb246) (o:=.cells #[.slice A0_0 l0_0.length c0_0,.int .i64 a0_1,.bool a0_2,.int .i64 a0_3] 45 (0,0)) (by (with_reducible repeat first|apply blk_drewN|apply blk_drew|apply blk_alloc);exact BK246.out)) : gb246 ≠ gb247));have n6_:=Aside0.mk ((by rw [hg];exact Nat.ne_of_gt (blk_lt (g:=gb246) (o:=.cells #[.slice A0_0 l0_0.length c0_0,.int .i64 a0_1,.bool a0_2,.int .i64 a0_3] 45 (0,0)) (by (with_reducible repeat first|apply blk_drewN|apply blk_drew|apply blk_alloc);exact BK246.out)) : gb247 ≠ gb246));clear BK246;clear HB;have BK246:=n0_;have HB:=n1_;have BK247:=n2_;have GW247:=n3_;have GE247:=n4_;have NB246_247:=n5_;have NB247_246:=n6_;clear n0_ n1_ n2_ n3_ n4_ n5_ n6_;clear hb hbox hg;have hnb15:=NB246_247.out;have hnc15:=NB247_246.out;have hcz16_0 : w14.cell? ⟨gb246,0,none⟩ = some (.slice A0_0 l0_0.length c0_0):=(blk_cell BK246.out 0).trans rfl;have hcz16_1 : w14.cell? ⟨gb246,1,none⟩ = some (.int .i64 a0_1):=(blk_cell BK246.out 1).trans rfl;have hcz16_2 : w14.cell? ⟨gb246,2,none⟩ = some (.bool a0_2):=(blk_cell BK246.out 2).trans rfl;have hcz16_3 : w14.cell? ⟨gb246,3,none⟩ = some (.int .i64 a0_3):=(blk_cell BK246.out 3).trans rfl;have hfz16_0:=blk_frozen BK246.out 0;have hfz16_1:=blk_frozen BK246.out 1;have hfz16_2:=blk_frozen BK246.out 2;have hfz16_3:=blk_frozen BK246.out 3)|((with_reducible refine gate_callee (f:=58) rfl ?_);refine goesL_ (some 7) rfl rfl Try.func58 (by kernel_rfl) rfl #[.agg #[.slice A0_0 l0_0.length c0_0,.int .i64 a0_1,.bool a0_2,.int .i64 a0_3]] rfl (by (try simp only [List.map_toArray,List.map_cons,List.map_nil]);first|done|rfl|(simp only [List.length_drop,List.length_take];rfl)) ?_;(with_reducible refine (impl_GoodDisk.calls k _ _ l0_0 a0_1 a0_2 a0_3 true _ ?side1 ?side2 A2.out).mono ?_);(case side1=>repeat (first|exact (Kd.C_below HR0_0.out HB.out)|(with_reducible first|apply Kd.C_alloc|apply Kd.C_drewN|apply Kd.C_drew)));(case side2=>exact HC0_0.out);rintro e w17 ⟨rfl,hb⟩;refine ⟨_,rfl,?_⟩;have n0_:=Aside0.mk (blk_below (g:=gb246) (o:=.cells #[.slice A0_0 l0_0.length c0_0,.int .i64 a0_1,.bool a0_2,.int .i64 a0_3] 45 (0,0)) (by (with_reducible repeat first|apply blk_drewN|apply blk_drew|apply blk_alloc);exact BK246.out) hb);have n1_:=Aside0.mk (blk_below (g:=gb247) (o:=.cells #[.slice none 0 0,.slice none 0 0,.slice none 0 0,.slice none 0 0] 29 (0,0)) (by (with_reducible repeat first|apply blk_drewN|apply blk_drew|apply blk_alloc);exact BK247.out) hb);have n2_:=Aside0.mk (below_step (by repeat (first|(with_reducible first|exact HB.out|apply below_alloc|apply pw_below_drewN|apply below_drew1|refine below_set ?_ GE246.out|refine below_set ?_ GE247.out)|exact HB.out)) hb);clear BK246;clear BK247;clear HB;have BK246:=n0_;have BK247:=n1_;have HB:=n2_;clear n0_ n1_ n2_;(try clear hb);(try clear hb2);(try clear hk);(try clear hi);have hcz18_0 : w17.cell? ⟨gb246,0,none⟩ = some (.slice A0_0 l0_0.length c0_0):=(blk_cell BK246.out 0).trans rfl;have hcz18_1 : w17.cell? ⟨gb246,1,none⟩ = some (.int .i64 a0_1):=(blk_cell BK246.out 1).trans rfl;have hcz18_2 : w17.cell? ⟨gb246,2,none⟩ = some (.bool a0_2):=(blk_cell BK246.out 2).trans rfl;have hcz18_3 : w17.cell? ⟨gb246,3,none⟩ = some (.int .i64 a0_3):=(blk_cell BK246.out 3).trans rfl;have hfz18_0:=blk_frozen BK246.out 0;have hfz18_1:=blk_frozen BK246.out 1;have hfz18_2:=blk_frozen BK246.out 2;have hfz18_3:=blk_frozen BK246.out 3;have p249 : 0 ≤ (1 : Int):=(by omega);have q249 : 1 < (l0_0.length : Int):=of_decide_eq_true (by assumption);obtain ⟨ad249,A249_0,c249_0,e249,hx249_0,hl249_0,hi249_0⟩:=at_L2 HR0_0.out 1 p249 q249;cases e249;(try simp only [show (1 : Int).toNat = 1 from rfl,Nat.reduceMul,Nat.reduceEqDiff,Go.Addr.add,↓reduceIte] at hx249_0);have qi249 : (1 < l0_0.length) = True:=eq_true (by omega);(try rw [show ((1 : Int)).toNat = 1 from rfl] at hx249_0);(try replace hx249_0:=(HB.out.cell (World.block_lt_of_cell? w _ hx249_0)).trans hx249_0);have HR249_0:=Aside0.mk hi249_0;have HC249_0:=Aside0.mk hl249_0;clear hi249_0 hl249_0;replace p249:=eq_true p249;replace q249:=eq_true q249))
      have n0_:=Aside0.mk (blk_drew BK246.out)
      have n1_:=Aside0.mk (blk_drew BK247.out)
      have n2_:=Aside0.mk (below_drew1 HB.out)
      clear BK246
      clear BK247
      clear HB
      have BK246:=n0_
      have BK247:=n1_
      have HB:=n2_
      clear n0_ n1_ n2_
      obtain ⟨i020,hi020,_,hsz20,_⟩:=info_parts info5
      obtain ⟨hcut20,hA20,hC20⟩:=print_take_of (P:=Try.prog) (Value.int .u8) 0 23 5 .i64 Try.underlying23 hi020 hsz20 A249_0 c249_0 (rd_L2 l0_0 1) 20 (by omega) (of_decide_eq_true (by assumption)) HC249_0.out
      have HR253:=Aside0.mk (Kd.C_of_reads (h1:=fun _=>rfl) (hA20 _ (Kd.reads_of_C HR249_0.out)))
      have HC253:=Aside0.mk hC20
      clear hA20 hC20 hi020 hsz20
      refine start_ (n:=9) (S:=fun w'=>w'.cell? ⟨gb246,0,none⟩ = some (.slice (some ad249) l0_0.length c0_0)∧w'.cell? ⟨gb246,1,none⟩ = some (.int .i64 a0_1)∧w'.cell? ⟨gb246,2,none⟩ = some (.bool a0_2)∧w'.cell? ⟨gb246,3,none⟩ = some (.int .i64 a0_3)) (ds:=[]) #[false,false,false,false,false,false,false,false,false] (by kernel_rfl) rfl rfl ⟨(blk_cell BK246.out 0).trans rfl,(blk_cell BK246.out 1).trans rfl,(blk_cell BK246.out 2).trans rfl,(blk_cell BK246.out 3).trans rfl⟩ (fun hHeld=>?_);refine with_tabW impl_OpenSpace.tab4 impl_OpenSpace.bits4 (fun HT_ HW_=>?_)
      generalize w17.drew = w19 at BK246 BK247 HB HR253 hHeld ⊢
      refine pure_ (i:=0) (N:=some 14) (v:=?_) (a':=?_) #[true,false,false,false,false,false,false,false,false] rfl rfl (any_of HT_.out (by kernel_rfl)) (fun _ _ _ h=>h) (Or.inl ⟨by rfl,?_⟩) ?_ ?_
      rotate_left
      ·intro w'
       go_simp
       with_reducible rfl
      rotate_left
      ·simp only [Act.put,List.setIfInBounds_toArray,List.set_cons_zero,List.set_cons_succ,i64_w,i32_w]
       rfl
      refine pure_ (i:=3) (N:=some 17) (v:=?_) (a':=?_) #[true,false,false,true,false,false,false,false,false] rfl rfl (any_of HT_.out (by kernel_rfl)) (fun _ _ _ h=>h) (Or.inl ⟨by rfl,?_⟩) ?_ ?_
      rotate_left
      ·intro w'
       go_simp
       with_reducible rfl
      rotate_left
      ·simp only [Act.put,List.setIfInBounds_toArray,List.set_cons_zero,List.set_cons_succ,i64_w,i32_w]
       rfl
      refine pure_ (i:=4) (N:=some 18) (v:=?_) (a':=?_) #[true,false,false,true,true,false,false,false,false] rfl rfl (any_of HT_.out (by kernel_rfl)) (fun _ _ _ h=>h) (Or.inl ⟨by rfl,?_⟩) ?_ ?_
      rotate_left
      ·intro w'
       go_simp
       with_reducible rfl
      rotate_left
      ·simp only [Act.put,List.setIfInBounds_toArray,List.set_cons_zero,List.set_cons_succ,i64_w,i32_w]
       rfl
      refine take_ (i:=1) (N:=some 15) (v:=?_) (a':=?_) #[true,true,false,true,true,false,false,false,false] rfl rfl (take_ofW HT_.out HW_.out (by kernel_rfl)) (fun _ _ _ h=>h) (Or.inl ⟨by rfl,?_⟩) hHeld ?_ ?_
      rotate_left
      ·rintro w' ⟨s0,s1,s2,s3⟩
       go_simp
       with_reducible rfl
      rotate_left
      ·simp only [Act.put,List.setIfInBounds_toArray,List.set_cons_zero,List.set_cons_succ,i64_w,i32_w]
       rfl
      refine join_ (σ:=Value × Value × Nat) 1 #[true,true,true,true,true,true,true,true,false] (fun s_=>[(16,s_.1),(19,s_.2.1),(5,.pointer (some ⟨s_.2.2,0,none⟩)),(20,.agg #[s_.1,s_.2.1,.slice none 0 0,.slice none 0 0])]) (fun s_ w'=>(w'.cell? ⟨gb246,0,none⟩ = some (.slice (some ad249) l0_0.length c0_0)∧w'.cell? ⟨gb246,1,none⟩ = some (.int .i64 a0_1)∧w'.cell? ⟨gb246,2,none⟩ = some (.bool a0_2)∧w'.cell? ⟨gb246,3,none⟩ = some (.int .i64 a0_3))∧(Kd.S (Kd.slice 5 (Kd.int .u8)) 23 w' w.heap.size (fun k_=>some k_ ≠ (s_.2.1 : Value).ownBlock) s_.1 t250)∧(Kd.R (Kd.int .u8) 5 w' w.heap.size (fun _=>True) s_.2.1 t254)∧(w'.heap[gb246]? = some (.cells #[.slice (some ad249) l0_0.length c0_0,.int .i64 a0_1,.bool a0_2,.int .i64 a0_3] 45 (0,0)))∧(w'.heap[gb247]? = some (.cells #[.slice none 0 0,.slice none 0 0,.slice none 0 0,.slice none 0 0] 29 (0,0)))∧(w'.heap[s_.2.2]? = some (.cells #[.slice none 0 0,.slice none 0 0,.slice none 0 0,.slice none 0 0] 29 (0,0)))∧(w.heap.size ≤ s_.2.2)∧(w.heap.size ≤ s_.2.2)∧(gb246 ≠ s_.2.2)∧(s_.2.2 ≠ gb246)∧(gb247 ≠ s_.2.2)∧(s_.2.2 ≠ gb247)∧(Below w.heap.size w w')) ?_ ?_
      rotate_left
      ·intro hCont
       refine two_ (i:=2) (j:=7) (Ni:=some 16) (Nj:=some 5) #[true,true,true,true,true,false,false,false,false] #[true,true,false,true,true,false,false,true,false] rfl rfl rfl rfl (two_of HT_.out (by kernel_rfl)) (by decide) (by decide) (fun K hK=>?_) (fun K hK=>?_)
       ·skip
        refine goes_ Try.func59 (by kernel_rfl) rfl #[.slice (some ad249) l0_0.length c0_0] (by rfl) rfl rfl (by (try simp only [List.map_toArray,List.map_cons,List.map_nil]);first|done|rfl|(simp only [List.length_drop,List.length_take];rfl)) ?_
        with_reducible refine (impl_copyBlocks.calls k _ _ l0_0 t250 _ ?side1 ?side2 A5.out).mono ?_
        (case side1=>repeat (first|exact (Kd.C_below HR0_0.out HB.out)|(with_reducible first|apply Kd.C_alloc|apply Kd.C_drewN|apply Kd.C_drew)))
        (case side2=>exact HC0_0.out)
        rintro e w21 ⟨v251,rfl,ho0,hb⟩
        refine ⟨_,rfl,?_⟩
        have n0_:=Aside0.mk (Kd.S_lower ho0 (below_size (by repeat (first|(with_reducible first|exact HB.out|apply below_alloc|apply pw_below_drewN|apply below_drew1|refine below_set ?_ GE246.out|refine below_set ?_ GE247.out)|exact HB.out))))
        have n1_:=Aside0.mk (blk_below (g:=gb246) (o:=.cells #[.slice (some ad249) l0_0.length c0_0,.int .i64 a0_1,.bool a0_2,.int .i64 a0_3] 45 (0,0)) (by (with_reducible repeat first|apply blk_drewN|apply blk_drew|apply blk_alloc);exact BK246.out) hb)
        have n2_:=Aside0.mk (blk_below (g:=gb247) (o:=.cells #[.slice none 0 0,.slice none 0 0,.slice none 0 0,.slice none 0 0] 29 (0,0)) (by (with_reducible repeat first|apply blk_drewN|apply blk_drew|apply blk_alloc);exact BK247.out) hb)
        have n3_:=Aside0.mk (below_step (by repeat (first|(with_reducible first|exact HB.out|apply below_alloc|apply pw_below_drewN|apply below_drew1|refine below_set ?_ GE246.out|refine below_set ?_ GE247.out)|exact HB.out)) hb)
        clear BK246
        clear BK247
        clear HB
        have HO252:=n0_
        have BK246:=n1_
        have BK247:=n2_
        have HB:=n3_
        clear n0_ n1_ n2_ n3_
        (try clear hb)
        (try clear hb2)
        (try clear hk)
        (try clear hi)
        (try clear ho0)
        refine hK.out _ _ ⟨(blk_cell BK246.out 0).trans rfl,(blk_cell BK246.out 1).trans rfl,(blk_cell BK246.out 2).trans rfl,(blk_cell BK246.out 3).trans rfl⟩ (fun hHeld=>?_)
        clear hK K
        refine norm_ (a':=?_) ?_ ?_
        rotate_left
        ·show Act.put _ (some 16) _ = _
         simp only [Act.put,List.setIfInBounds_toArray,List.set_cons_zero,List.set_cons_succ,i64_w,i32_w]
         rfl
        refine two_ (i:=5) (j:=7) (Ni:=some 19) (Nj:=some 5) #[true,true,true,true,true,true,false,false,false] #[true,true,true,true,true,false,false,true,false] rfl rfl rfl rfl (two_of HT_.out (by kernel_rfl)) (by decide) (by decide) (fun K hK=>?_) (fun K hK=>?_)
        ·skip
         refine goes_ Try.func60 (by kernel_rfl) rfl #[.slice A249_0 ((rd_L2 l0_0 1).take 20).length c249_0] (by rfl) rfl rfl (by (try simp only [List.map_toArray,List.map_cons,List.map_nil]);first|done|(rw [show ((rd_L2 l0_0 1).take 20).length = 20 from (by rw [List.length_take];have h_ : (20 : Int) ≤ ((rd_L2 l0_0 1).length : Int):=of_decide_eq_true (by assumption);omega)] <;> rfl)|rfl|(simp only [List.length_drop,List.length_take];rfl)) ?_
         with_reducible refine (slices_Clone_byte_byte.calls _ _ ((rd_L2 l0_0 1).take 20) t254 _ ?side1 ?side2 A7.out).mono ?_
         (case side1=>repeat (first|exact (Kd.C_below HR253.out HB.out)|(with_reducible first|apply Kd.C_alloc|apply Kd.C_drewN|apply Kd.C_drew)))
         (case side2=>exact HC253.out)
         rintro e w22 ⟨v255,rfl,ho0,hb⟩
         refine ⟨_,rfl,?_⟩
         have n0_:=Aside0.mk (Kd.S_elder' (by (with_reducible repeat (first|apply Kd.S_alloc|apply Kd.S_drewN|apply Kd.S_drew));exact HO252.out) (Kd.R_base ho0) hb)
         have n1_:=Aside0.mk (Kd.R_lower ho0 (below_size (by repeat (first|(with_reducible first|exact HB.out|apply below_alloc|apply pw_below_drewN|apply below_drew1|refine below_set ?_ GE246.out|refine below_set ?_ GE247.out)|exact HB.out))))
         have n2_:=Aside0.mk (blk_below (g:=gb246) (o:=.cells #[.slice (some ad249) l0_0.length c0_0,.int .i64 a0_1,.bool a0_2,.int .i64 a0_3] 45 (0,0)) (by (with_reducible repeat first|apply blk_drewN|apply blk_drew|apply blk_alloc);exact BK246.out) hb)
         have n3_:=Aside0.mk (blk_below (g:=gb247) (o:=.cells #[.slice none 0 0,.slice none 0 0,.slice none 0 0,.slice none 0 0] 29 (0,0)) (by (with_reducible repeat first|apply blk_drewN|apply blk_drew|apply blk_alloc);exact BK247.out) hb)
         have n4_:=Aside0.mk (below_step (by repeat (first|(with_reducible first|exact HB.out|apply below_alloc|apply pw_below_drewN|apply below_drew1|refine below_set ?_ GE246.out|refine below_set ?_ GE247.out)|exact HB.out)) hb)
         clear HO252
         clear BK246
         clear BK247
         clear HB
         have HO252:=n0_
         have HO256:=n1_
         have BK246:=n2_
         have BK247:=n3_
         have HB:=n4_
         clear n0_ n1_ n2_ n3_ n4_
         (try clear hb)
         (try clear hb2)
         (try clear hk)
         (try clear hi)
         (try clear ho0)
         obtain ⟨Ao23,co23,eo23⟩:=Kd.R_slice HO256.out
         (first|subst eo23|(injection eo23 with f1_ f2_ f3_;have f4_:=f1_.symm;have f5_:=f3_.symm;clear f1_ f2_ f3_;subst f4_;subst f5_))
         obtain ⟨Ao24,co24,eo24⟩:=Kd.S_slice HO252.out
         (first|subst eo24|(injection eo24 with f1_ f2_ f3_;have f4_:=f1_.symm;have f5_:=f3_.symm;clear f1_ f2_ f3_;subst f4_;subst f5_))
         refine hK.out _ _ ⟨(blk_cell BK246.out 0).trans rfl,(blk_cell BK246.out 1).trans rfl,(blk_cell BK246.out 2).trans rfl,(blk_cell BK246.out 3).trans rfl⟩ (fun hHeld=>?_)
         clear hK K
         refine norm_ (a':=?_) ?_ ?_
         rotate_left
         ·show Act.put _ (some 19) _ = _
          simp only [Act.put,List.setIfInBounds_toArray,List.set_cons_zero,List.set_cons_succ,i64_w,i32_w]
          rfl
         refine pure_ (i:=6) (N:=some 20) (v:=?_) (a':=?_) #[true,true,true,true,true,true,true,false,false] rfl rfl (any_of HT_.out (by kernel_rfl)) (fun _ _ _ h=>h) (Or.inl ⟨by rfl,?_⟩) ?_ ?_
         rotate_left
         ·intro w'
          go_simp
          with_reducible rfl
         rotate_left
         ·simp only [Act.put,List.setIfInBounds_toArray,List.set_cons_zero,List.set_cons_succ,i64_w,i32_w]
          rfl
         refine one_ (i:=7) (N:=some 5) #[true,true,true,true,true,true,true,true,false] rfl rfl (one_of HT_.out (by kernel_rfl)) (by decide) (fun K hK=>?_)
         refine box_step ?hg (N:=5) ?hd (cs:=#[.slice none 0 0,.slice none 0 0,.slice none 0 0,.slice none 0 0]) (t:=29) ?hr ?_;(case hd=>rfl);(case hg=>rfl);(case hr=>first|(go_simp;done)|(go_simp;rfl))
         intro gb257 hg w25 hbox hb
         have n0_:=Aside0.mk (Kd.S_below (by (with_reducible repeat (first|apply Kd.S_alloc|apply Kd.S_drewN|apply Kd.S_drew));exact HO252.out) hb)
         have n1_:=Aside0.mk (Kd.R_below (by (with_reducible repeat (first|apply Kd.R_alloc|apply Kd.R_drewN|apply Kd.R_drew));exact HO256.out) hb)
         have n2_:=Aside0.mk (blk_below (g:=gb246) (o:=.cells #[.slice (some ad249) l0_0.length c0_0,.int .i64 a0_1,.bool a0_2,.int .i64 a0_3] 45 (0,0)) (by (with_reducible repeat first|apply blk_drewN|apply blk_drew|apply blk_alloc);exact BK246.out) hb)
         have n3_:=Aside0.mk (blk_below (g:=gb247) (o:=.cells #[.slice none 0 0,.slice none 0 0,.slice none 0 0,.slice none 0 0] 29 (0,0)) (by (with_reducible repeat first|apply blk_drewN|apply blk_drew|apply blk_alloc);exact BK247.out) hb)
         have n4_:=Aside0.mk (below_step (by repeat (first|(with_reducible first|exact HB.out|apply below_alloc|apply pw_below_drewN|apply below_drew1|refine below_set ?_ GE246.out|refine below_set ?_ GE247.out)|exact HB.out)) hb)
         have n5_:=Aside0.mk (hbox)
         have n6_:=Aside0.mk ((by rw [hg];exact (below_size (by repeat (first|(with_reducible first|exact HB.out|apply below_alloc|apply pw_below_drewN|apply below_drew1|refine below_set ?_ GE246.out|refine below_set ?_ GE247.out)|exact HB.out))) : w.heap.size ≤ gb257))
         have n7_:=Aside0.mk ((by rw [hg];exact (below_size (by repeat (first|(with_reducible first|exact HB.out|apply below_alloc|apply pw_below_drewN|apply below_drew1|refine below_set ?_ GE246.out|refine below_set ?_ GE247.out)|exact HB.out))) : w.heap.size ≤ gb257))
         have n8_:=Aside0.mk ((by rw [hg];exact Nat.ne_of_lt (blk_lt (g:=gb246) (o:=.cells #[.slice (some ad249) l0_0.length c0_0,.int .i64 a0_1,.bool a0_2,.int .i64 a0_3] 45 (0,0)) (by (with_reducible repeat first|apply blk_drewN|apply blk_drew|apply blk_alloc);exact BK246.out)) : gb246 ≠ gb257))
         have n9_:=Aside0.mk ((by rw [hg];exact Nat.ne_of_gt (blk_lt (g:=gb246) (o:=.cells #[.slice (some ad249) l0_0.length c0_0,.int .i64 a0_1,.bool a0_2,.int .i64 a0_3] 45 (0,0)) (by (with_reducible repeat first|apply blk_drewN|apply blk_drew|apply blk_alloc);exact BK246.out)) : gb257 ≠ gb246))
         have n10_:=Aside0.mk ((by rw [hg];exact Nat.ne_of_lt (blk_lt (g:=gb247) (o:=.cells #[.slice none 0 0,.slice none 0 0,.slice none 0 0,.slice none 0 0] 29 (0,0)) (by (with_reducible repeat first|apply blk_drewN|apply blk_drew|apply blk_alloc);exact BK247.out)) : gb247 ≠ gb257))
         have n11_:=Aside0.mk ((by rw [hg];exact Nat.ne_of_gt (blk_lt (g:=gb247) (o:=.cells #[.slice none 0 0,.slice none 0 0,.slice none 0 0,.slice none 0 0] 29 (0,0)) (by (with_reducible repeat first|apply blk_drewN|apply blk_drew|apply blk_alloc);exact BK247.out)) : gb257 ≠ gb247))
         clear HO252
         clear HO256
         clear BK246
         clear BK247
         clear HB
         have HO252:=n0_
         have HO256:=n1_
         have BK246:=n2_
         have BK247:=n3_
         have HB:=n4_
         have BK257:=n5_
         have GW257:=n6_
         have GE257:=n7_
         have NB246_257:=n8_
         have NB257_246:=n9_
         have NB247_257:=n10_
         have NB257_247:=n11_
         clear n0_ n1_ n2_ n3_ n4_ n5_ n6_ n7_ n8_ n9_ n10_ n11_
         clear hb hbox hg
         refine hK.out _ _ ⟨(blk_cell BK246.out 0).trans rfl,(blk_cell BK246.out 1).trans rfl,(blk_cell BK246.out 2).trans rfl,(blk_cell BK246.out 3).trans rfl⟩ (fun hHeld=>?_)
         clear hK K
         refine norm_ (a':=?_) ?_ ?_
         rotate_left
         ·show Act.put _ (some 5) _ = _
          simp only [Act.put,List.setIfInBounds_toArray,List.set_cons_zero,List.set_cons_succ,i64_w,i32_w]
          rfl
         exact norm_ (by simp only [putAll,Act.put,List.setIfInBounds_toArray,List.set_cons_zero,List.set_cons_succ]) (hCont (.slice Ao24 t250.length co24,.slice Ao23 t254.length co23,gb257) _ ⟨hHeld,(by (with_reducible repeat (first|apply Kd.S_alloc|apply Kd.S_drewN|apply Kd.S_drew));exact Kd.S_mono HO252.out (fun _ hk=>hk.2)),(by (with_reducible repeat (first|apply Kd.R_alloc|apply Kd.R_drewN|apply Kd.R_drew));exact HO256.out),(by (with_reducible repeat first|apply blk_drewN|apply blk_drew|apply blk_alloc);exact BK246.out),(by (with_reducible repeat first|apply blk_drewN|apply blk_drew|apply blk_alloc);exact BK247.out),(by (with_reducible repeat first|apply blk_drewN|apply blk_drew|apply blk_alloc);exact BK257.out),GW257.out,GE257.out,NB246_257.out,NB257_246.out,NB247_257.out,NB257_247.out,(by repeat (first|(with_reducible first|exact HB.out|apply below_alloc|apply pw_below_drewN|apply below_drew1|refine below_set ?_ GE246.out|refine below_set ?_ GE247.out|refine below_set ?_ GE257.out)|exact HB.out))⟩)
        ·skip
         refine box_step ?hg (N:=5) ?hd (cs:=#[.slice none 0 0,.slice none 0 0,.slice none 0 0,.slice none 0 0]) (t:=29) ?hr ?_;(case hd=>rfl);(case hg=>rfl);(case hr=>first|(go_simp;done)|(go_simp;rfl))
         intro gb257 hg w22 hbox hb
         have n0_:=Aside0.mk (Kd.S_below (by (with_reducible repeat (first|apply Kd.S_alloc|apply Kd.S_drewN|apply Kd.S_drew));exact HO252.out) hb)
         have n1_:=Aside0.mk (blk_below (g:=gb246) (o:=.cells #[.slice (some ad249) l0_0.length c0_0,.int .i64 a0_1,.bool a0_2,.int .i64 a0_3] 45 (0,0)) (by (with_reducible repeat first|apply blk_drewN|apply blk_drew|apply blk_alloc);exact BK246.out) hb)
         have n2_:=Aside0.mk (blk_below (g:=gb247) (o:=.cells #[.slice none 0 0,.slice none 0 0,.slice none 0 0,.slice none 0 0] 29 (0,0)) (by (with_reducible repeat first|apply blk_drewN|apply blk_drew|apply blk_alloc);exact BK247.out) hb)
         have n3_:=Aside0.mk (below_step (by repeat (first|(with_reducible first|exact HB.out|apply below_alloc|apply pw_below_drewN|apply below_drew1|refine below_set ?_ GE246.out|refine below_set ?_ GE247.out)|exact HB.out)) hb)
         have n4_:=Aside0.mk (hbox)
         have n5_:=Aside0.mk ((by rw [hg];exact (below_size (by repeat (first|(with_reducible first|exact HB.out|apply below_alloc|apply pw_below_drewN|apply below_drew1|refine below_set ?_ GE246.out|refine below_set ?_ GE247.out)|exact HB.out))) : w.heap.size ≤ gb257))
         have n6_:=Aside0.mk ((by rw [hg];exact (below_size (by repeat (first|(with_reducible first|exact HB.out|apply below_alloc|apply pw_below_drewN|apply below_drew1|refine below_set ?_ GE246.out|refine below_set ?_ GE247.out)|exact HB.out))) : w.heap.size ≤ gb257))
         have n7_:=Aside0.mk ((by rw [hg];exact Nat.ne_of_lt (blk_lt (g:=gb246) (o:=.cells #[.slice (some ad249) l0_0.length c0_0,.int .i64 a0_1,.bool a0_2,.int .i64 a0_3] 45 (0,0)) (by (with_reducible repeat first|apply blk_drewN|apply blk_drew|apply blk_alloc);exact BK246.out)) : gb246 ≠ gb257))
         have n8_:=Aside0.mk ((by rw [hg];exact Nat.ne_of_gt (blk_lt (g:=gb246) (o:=.cells #[.slice (some ad249) l0_0.length c0_0,.int .i64 a0_1,.bool a0_2,.int .i64 a0_3] 45 (0,0)) (by (with_reducible repeat first|apply blk_drewN|apply blk_drew|apply blk_alloc);exact BK246.out)) : gb257 ≠ gb246))
         have n9_:=Aside0.mk ((by rw [hg];exact Nat.ne_of_lt (blk_lt (g:=gb247) (o:=.cells #[.slice none 0 0,.slice none 0 0,.slice none 0 0,.slice none 0 0] 29 (0,0)) (by (with_reducible repeat first|apply blk_drewN|apply blk_drew|apply blk_alloc);exact BK247.out)) : gb247 ≠ gb257))
         have n10_:=Aside0.mk ((by rw [hg];exact Nat.ne_of_gt (blk_lt (g:=gb247) (o:=.cells #[.slice none 0 0,.slice none 0 0,.slice none 0 0,.slice none 0 0] 29 (0,0)) (by (with_reducible repeat first|apply blk_drewN|apply blk_drew|apply blk_alloc);exact BK247.out)) : gb257 ≠ gb247))
         clear HO252
         clear BK246
         clear BK247
         clear HB
         have HO252:=n0_
         have BK246:=n1_
         have BK247:=n2_
         have HB:=n3_
         have BK257:=n4_
         have GW257:=n5_
         have GE257:=n6_
         have NB246_257:=n7_
         have NB257_246:=n8_
         have NB247_257:=n9_
         have NB257_247:=n10_
         clear n0_ n1_ n2_ n3_ n4_ n5_ n6_ n7_ n8_ n9_ n10_
         clear hb hbox hg
         refine hK.out _ _ ⟨(blk_cell BK246.out 0).trans rfl,(blk_cell BK246.out 1).trans rfl,(blk_cell BK246.out 2).trans rfl,(blk_cell BK246.out 3).trans rfl⟩ (fun hHeld=>?_)
         clear hK K
         refine norm_ (a':=?_) ?_ ?_
         rotate_left
         ·show Act.put _ (some 5) _ = _
          simp only [Act.put,List.setIfInBounds_toArray,List.set_cons_zero,List.set_cons_succ,i64_w,i32_w]
          rfl
         refine one_ (i:=5) (N:=some 19) #[true,true,true,true,true,true,false,true,false] rfl rfl (one_of HT_.out (by kernel_rfl)) (by decide) (fun K hK=>?_)
         refine goes_ Try.func60 (by kernel_rfl) rfl #[.slice A249_0 ((rd_L2 l0_0 1).take 20).length c249_0] (by rfl) rfl rfl (by (try simp only [List.map_toArray,List.map_cons,List.map_nil]);first|done|(rw [show ((rd_L2 l0_0 1).take 20).length = 20 from (by rw [List.length_take];have h_ : (20 : Int) ≤ ((rd_L2 l0_0 1).length : Int):=of_decide_eq_true (by assumption);omega)] <;> rfl)|rfl|(simp only [List.length_drop,List.length_take];rfl)) ?_
         with_reducible refine (slices_Clone_byte_byte.calls _ _ ((rd_L2 l0_0 1).take 20) t254 _ ?side1 ?side2 A7.out).mono ?_
         (case side1=>repeat (first|exact (Kd.C_below HR253.out HB.out)|(with_reducible first|apply Kd.C_alloc|apply Kd.C_drewN|apply Kd.C_drew)))
         (case side2=>exact HC253.out)
         rintro e w23 ⟨v255,rfl,ho0,hb⟩
         refine ⟨_,rfl,?_⟩
         have n0_:=Aside0.mk (Kd.S_elder' (by (with_reducible repeat (first|apply Kd.S_alloc|apply Kd.S_drewN|apply Kd.S_drew));exact HO252.out) (Kd.R_base ho0) hb)
         have n1_:=Aside0.mk (Kd.R_lower ho0 (below_size (by repeat (first|(with_reducible first|exact HB.out|apply below_alloc|apply pw_below_drewN|apply below_drew1|refine below_set ?_ GE246.out|refine below_set ?_ GE247.out|refine below_set ?_ GE257.out)|exact HB.out))))
         have n2_:=Aside0.mk (blk_below (g:=gb246) (o:=.cells #[.slice (some ad249) l0_0.length c0_0,.int .i64 a0_1,.bool a0_2,.int .i64 a0_3] 45 (0,0)) (by (with_reducible repeat first|apply blk_drewN|apply blk_drew|apply blk_alloc);exact BK246.out) hb)
         have n3_:=Aside0.mk (blk_below (g:=gb247) (o:=.cells #[.slice none 0 0,.slice none 0 0,.slice none 0 0,.slice none 0 0] 29 (0,0)) (by (with_reducible repeat first|apply blk_drewN|apply blk_drew|apply blk_alloc);exact BK247.out) hb)
         have n4_:=Aside0.mk (blk_below (g:=gb257) (o:=.cells #[.slice none 0 0,.slice none 0 0,.slice none 0 0,.slice none 0 0] 29 (0,0)) (by (with_reducible repeat first|apply blk_drewN|apply blk_drew|apply blk_alloc);exact BK257.out) hb)
         have n5_:=Aside0.mk (below_step (by repeat (first|(with_reducible first|exact HB.out|apply below_alloc|apply pw_below_drewN|apply below_drew1|refine below_set ?_ GE246.out|refine below_set ?_ GE247.out|refine below_set ?_ GE257.out)|exact HB.out)) hb)
         clear HO252
         clear BK246
         clear BK247
         clear BK257
         clear HB
         have HO252:=n0_
         have HO256:=n1_
         have BK246:=n2_
         have BK247:=n3_
         have BK257:=n4_
         have HB:=n5_
         clear n0_ n1_ n2_ n3_ n4_ n5_
         (try clear hb)
         (try clear hb2)
         (try clear hk)
         (try clear hi)
         (try clear ho0)
         obtain ⟨Ao24,co24,eo24⟩:=Kd.R_slice HO256.out
         (first|subst eo24|(injection eo24 with f1_ f2_ f3_;have f4_:=f1_.symm;have f5_:=f3_.symm;clear f1_ f2_ f3_;subst f4_;subst f5_))
         obtain ⟨Ao25,co25,eo25⟩:=Kd.S_slice HO252.out
         (first|subst eo25|(injection eo25 with f1_ f2_ f3_;have f4_:=f1_.symm;have f5_:=f3_.symm;clear f1_ f2_ f3_;subst f4_;subst f5_))
         refine hK.out _ _ ⟨(blk_cell BK246.out 0).trans rfl,(blk_cell BK246.out 1).trans rfl,(blk_cell BK246.out 2).trans rfl,(blk_cell BK246.out 3).trans rfl⟩ (fun hHeld=>?_)
         clear hK K
         refine norm_ (a':=?_) ?_ ?_
         rotate_left
         ·show Act.put _ (some 19) _ = _
          simp only [Act.put,List.setIfInBounds_toArray,List.set_cons_zero,List.set_cons_succ,i64_w,i32_w]
          rfl
         refine pure_ (i:=6) (N:=some 20) (v:=?_) (a':=?_) #[true,true,true,true,true,true,true,true,false] rfl rfl (any_of HT_.out (by kernel_rfl)) (fun _ _ _ h=>h) (Or.inl ⟨by rfl,?_⟩) ?_ ?_
         rotate_left
         ·intro w'
          go_simp
          with_reducible rfl
         rotate_left
         ·simp only [Act.put,List.setIfInBounds_toArray,List.set_cons_zero,List.set_cons_succ,i64_w,i32_w]
          rfl
         exact norm_ (by simp only [putAll,Act.put,List.setIfInBounds_toArray,List.set_cons_zero,List.set_cons_succ]) (hCont (.slice Ao25 t250.length co25,.slice Ao24 t254.length co24,gb257) _ ⟨hHeld,(by (with_reducible repeat (first|apply Kd.S_alloc|apply Kd.S_drewN|apply Kd.S_drew));exact Kd.S_mono HO252.out (fun _ hk=>hk.2)),(by (with_reducible repeat (first|apply Kd.R_alloc|apply Kd.R_drewN|apply Kd.R_drew));exact HO256.out),(by (with_reducible repeat first|apply blk_drewN|apply blk_drew|apply blk_alloc);exact BK246.out),(by (with_reducible repeat first|apply blk_drewN|apply blk_drew|apply blk_alloc);exact BK247.out),(by (with_reducible repeat first|apply blk_drewN|apply blk_drew|apply blk_alloc);exact BK257.out),GW257.out,GE257.out,NB246_257.out,NB257_246.out,NB247_257.out,NB257_247.out,(by repeat (first|(with_reducible first|exact HB.out|apply below_alloc|apply pw_below_drewN|apply below_drew1|refine below_set ?_ GE246.out|refine below_set ?_ GE247.out|refine below_set ?_ GE257.out)|exact HB.out))⟩)
       ·skip
        refine box_step ?hg (N:=5) ?hd (cs:=#[.slice none 0 0,.slice none 0 0,.slice none 0 0,.slice none 0 0]) (t:=29) ?hr ?_;(case hd=>rfl);(case hg=>rfl);(case hr=>first|(go_simp;done)|(go_simp;rfl))
        intro gb257 hg w21 hbox hb
        have n0_:=Aside0.mk (blk_below (g:=gb246) (o:=.cells #[.slice (some ad249) l0_0.length c0_0,.int .i64 a0_1,.bool a0_2,.int .i64 a0_3] 45 (0,0)) (by (with_reducible repeat first|apply blk_drewN|apply blk_drew|apply blk_alloc);exact BK246.out) hb)
        have n1_:=Aside0.mk (blk_below (g:=gb247) (o:=.cells #[.slice none 0 0,.slice none 0 0,.slice none 0 0,.slice none 0 0] 29 (0,0)) (by (with_reducible repeat first|apply blk_drewN|apply blk_drew|apply blk_alloc);exact BK247.out) hb)
        have n2_:=Aside0.mk (below_step (by repeat (first|(with_reducible first|exact HB.out|apply below_alloc|apply pw_below_drewN|apply below_drew1|refine below_set ?_ GE246.out|refine below_set ?_ GE247.out)|exact HB.out)) hb)
        have n3_:=Aside0.mk (hbox)
        have n4_:=Aside0.mk ((by rw [hg];exact (below_size (by repeat (first|(with_reducible first|exact HB.out|apply below_alloc|apply pw_below_drewN|apply below_drew1|refine below_set ?_ GE246.out|refine below_set ?_ GE247.out)|exact HB.out))) : w.heap.size ≤ gb257))
        have n5_:=Aside0.mk ((by rw [hg];exact (below_size (by repeat (first|(with_reducible first|exact HB.out|apply below_alloc|apply pw_below_drewN|apply below_drew1|refine below_set ?_ GE246.out|refine below_set ?_ GE247.out)|exact HB.out))) : w.heap.size ≤ gb257))
        have n6_:=Aside0.mk ((by rw [hg];exact Nat.ne_of_lt (blk_lt (g:=gb246) (o:=.cells #[.slice (some ad249) l0_0.length c0_0,.int .i64 a0_1,.bool a0_2,.int .i64 a0_3] 45 (0,0)) (by (with_reducible repeat first|apply blk_drewN|apply blk_drew|apply blk_alloc);exact BK246.out)) : gb246 ≠ gb257))
        have n7_:=Aside0.mk ((by rw [hg];exact Nat.ne_of_gt (blk_lt (g:=gb246) (o:=.cells #[.slice (some ad249) l0_0.length c0_0,.int .i64 a0_1,.bool a0_2,.int .i64 a0_3] 45 (0,0)) (by (with_reducible repeat first|apply blk_drewN|apply blk_drew|apply blk_alloc);exact BK246.out)) : gb257 ≠ gb246))
        have n8_:=Aside0.mk ((by rw [hg];exact Nat.ne_of_lt (blk_lt (g:=gb247) (o:=.cells #[.slice none 0 0,.slice none 0 0,.slice none 0 0,.slice none 0 0] 29 (0,0)) (by (with_reducible repeat first|apply blk_drewN|apply blk_drew|apply blk_alloc);exact BK247.out)) : gb247 ≠ gb257))
        have n9_:=Aside0.mk ((by rw [hg];exact Nat.ne_of_gt (blk_lt (g:=gb247) (o:=.cells #[.slice none 0 0,.slice none 0 0,.slice none 0 0,.slice none 0 0] 29 (0,0)) (by (with_reducible repeat first|apply blk_drewN|apply blk_drew|apply blk_alloc);exact BK247.out)) : gb257 ≠ gb247))
        clear BK246
        clear BK247
        clear HB
        have BK246:=n0_
        have BK247:=n1_
        have HB:=n2_
        have BK257:=n3_
        have GW257:=n4_
        have GE257:=n5_
        have NB246_257:=n6_
        have NB257_246:=n7_
        have NB247_257:=n8_
        have NB257_247:=n9_
        clear n0_ n1_ n2_ n3_ n4_ n5_ n6_ n7_ n8_ n9_
        clear hb hbox hg
        refine hK.out _ _ ⟨(blk_cell BK246.out 0).trans rfl,(blk_cell BK246.out 1).trans rfl,(blk_cell BK246.out 2).trans rfl,(blk_cell BK246.out 3).trans rfl⟩ (fun hHeld=>?_)
        clear hK K
        refine norm_ (a':=?_) ?_ ?_
        rotate_left
        ·show Act.put _ (some 5) _ = _
         simp only [Act.put,List.setIfInBounds_toArray,List.set_cons_zero,List.set_cons_succ,i64_w,i32_w]
         rfl
        refine one_ (i:=2) (N:=some 16) #[true,true,true,true,true,false,false,true,false] rfl rfl (one_of HT_.out (by kernel_rfl)) (by decide) (fun K hK=>?_)
        refine goes_ Try.func59 (by kernel_rfl) rfl #[.slice (some ad249) l0_0.length c0_0] (by rfl) rfl rfl (by (try simp only [List.map_toArray,List.map_cons,List.map_nil]);first|done|rfl|(simp only [List.length_drop,List.length_take];rfl)) ?_
        with_reducible refine (impl_copyBlocks.calls k _ _ l0_0 t250 _ ?side1 ?side2 A5.out).mono ?_
        (case side1=>repeat (first|exact (Kd.C_below HR0_0.out HB.out)|(with_reducible first|apply Kd.C_alloc|apply Kd.C_drewN|apply Kd.C_drew)))
        (case side2=>exact HC0_0.out)
        rintro e w22 ⟨v251,rfl,ho0,hb⟩
        refine ⟨_,rfl,?_⟩
        have n0_:=Aside0.mk (Kd.S_lower ho0 (below_size (by repeat (first|(with_reducible first|exact HB.out|apply below_alloc|apply pw_below_drewN|apply below_drew1|refine below_set ?_ GE246.out|refine below_set ?_ GE247.out|refine below_set ?_ GE257.out)|exact HB.out))))
        have n1_:=Aside0.mk (blk_below (g:=gb246) (o:=.cells #[.slice (some ad249) l0_0.length c0_0,.int .i64 a0_1,.bool a0_2,.int .i64 a0_3] 45 (0,0)) (by (with_reducible repeat first|apply blk_drewN|apply blk_drew|apply blk_alloc);exact BK246.out) hb)
        have n2_:=Aside0.mk (blk_below (g:=gb247) (o:=.cells #[.slice none 0 0,.slice none 0 0,.slice none 0 0,.slice none 0 0] 29 (0,0)) (by (with_reducible repeat first|apply blk_drewN|apply blk_drew|apply blk_alloc);exact BK247.out) hb)
        have n3_:=Aside0.mk (blk_below (g:=gb257) (o:=.cells #[.slice none 0 0,.slice none 0 0,.slice none 0 0,.slice none 0 0] 29 (0,0)) (by (with_reducible repeat first|apply blk_drewN|apply blk_drew|apply blk_alloc);exact BK257.out) hb)
        have n4_:=Aside0.mk (below_step (by repeat (first|(with_reducible first|exact HB.out|apply below_alloc|apply pw_below_drewN|apply below_drew1|refine below_set ?_ GE246.out|refine below_set ?_ GE247.out|refine below_set ?_ GE257.out)|exact HB.out)) hb)
        clear BK246
        clear BK247
        clear BK257
        clear HB
        have HO252:=n0_
        have BK246:=n1_
        have BK247:=n2_
        have BK257:=n3_
        have HB:=n4_
        clear n0_ n1_ n2_ n3_ n4_
        (try clear hb)
        (try clear hb2)
        (try clear hk)
        (try clear hi)
        (try clear ho0)
        refine hK.out _ _ ⟨(blk_cell BK246.out 0).trans rfl,(blk_cell BK246.out 1).trans rfl,(blk_cell BK246.out 2).trans rfl,(blk_cell BK246.out 3).trans rfl⟩ (fun hHeld=>?_)
        clear hK K
        refine norm_ (a':=?_) ?_ ?_
        rotate_left
        ·show Act.put _ (some 16) _ = _
         simp only [Act.put,List.setIfInBounds_toArray,List.set_cons_zero,List.set_cons_succ,i64_w,i32_w]
         rfl
        refine one_ (i:=5) (N:=some 19) #[true,true,true,true,true,true,false,true,false] rfl rfl (one_of HT_.out (by kernel_rfl)) (by decide) (fun K hK=>?_)
        refine goes_ Try.func60 (by kernel_rfl) rfl #[.slice A249_0 ((rd_L2 l0_0 1).take 20).length c249_0] (by rfl) rfl rfl (by (try simp only [List.map_toArray,List.map_cons,List.map_nil]);first|done|(rw [show ((rd_L2 l0_0 1).take 20).length = 20 from (by rw [List.length_take];have h_ : (20 : Int) ≤ ((rd_L2 l0_0 1).length : Int):=of_decide_eq_true (by assumption);omega)] <;> rfl)|rfl|(simp only [List.length_drop,List.length_take];rfl)) ?_
        with_reducible refine (slices_Clone_byte_byte.calls _ _ ((rd_L2 l0_0 1).take 20) t254 _ ?side1 ?side2 A7.out).mono ?_
        (case side1=>repeat (first|exact (Kd.C_below HR253.out HB.out)|(with_reducible first|apply Kd.C_alloc|apply Kd.C_drewN|apply Kd.C_drew)))
        (case side2=>exact HC253.out)
        rintro e w23 ⟨v255,rfl,ho0,hb⟩
        refine ⟨_,rfl,?_⟩
        have n0_:=Aside0.mk (Kd.S_elder' (by (with_reducible repeat (first|apply Kd.S_alloc|apply Kd.S_drewN|apply Kd.S_drew));exact HO252.out) (Kd.R_base ho0) hb)
        have n1_:=Aside0.mk (Kd.R_lower ho0 (below_size (by repeat (first|(with_reducible first|exact HB.out|apply below_alloc|apply pw_below_drewN|apply below_drew1|refine below_set ?_ GE246.out|refine below_set ?_ GE247.out|refine below_set ?_ GE257.out)|exact HB.out))))
        have n2_:=Aside0.mk (blk_below (g:=gb246) (o:=.cells #[.slice (some ad249) l0_0.length c0_0,.int .i64 a0_1,.bool a0_2,.int .i64 a0_3] 45 (0,0)) (by (with_reducible repeat first|apply blk_drewN|apply blk_drew|apply blk_alloc);exact BK246.out) hb)
        have n3_:=Aside0.mk (blk_below (g:=gb247) (o:=.cells #[.slice none 0 0,.slice none 0 0,.slice none 0 0,.slice none 0 0] 29 (0,0)) (by (with_reducible repeat first|apply blk_drewN|apply blk_drew|apply blk_alloc);exact BK247.out) hb)
        have n4_:=Aside0.mk (blk_below (g:=gb257) (o:=.cells #[.slice none 0 0,.slice none 0 0,.slice none 0 0,.slice none 0 0] 29 (0,0)) (by (with_reducible repeat first|apply blk_drewN|apply blk_drew|apply blk_alloc);exact BK257.out) hb)
        have n5_:=Aside0.mk (below_step (by repeat (first|(with_reducible first|exact HB.out|apply below_alloc|apply pw_below_drewN|apply below_drew1|refine below_set ?_ GE246.out|refine below_set ?_ GE247.out|refine below_set ?_ GE257.out)|exact HB.out)) hb)
        clear HO252
        clear BK246
        clear BK247
        clear BK257
        clear HB
        have HO252:=n0_
        have HO256:=n1_
        have BK246:=n2_
        have BK247:=n3_
        have BK257:=n4_
        have HB:=n5_
        clear n0_ n1_ n2_ n3_ n4_ n5_
        (try clear hb)
        (try clear hb2)
        (try clear hk)
        (try clear hi)
        (try clear ho0)
        obtain ⟨Ao24,co24,eo24⟩:=Kd.R_slice HO256.out
        (first|subst eo24|(injection eo24 with f1_ f2_ f3_;have f4_:=f1_.symm;have f5_:=f3_.symm;clear f1_ f2_ f3_;subst f4_;subst f5_))
        obtain ⟨Ao25,co25,eo25⟩:=Kd.S_slice HO252.out
        (first|subst eo25|(injection eo25 with f1_ f2_ f3_;have f4_:=f1_.symm;have f5_:=f3_.symm;clear f1_ f2_ f3_;subst f4_;subst f5_))
        refine hK.out _ _ ⟨(blk_cell BK246.out 0).trans rfl,(blk_cell BK246.out 1).trans rfl,(blk_cell BK246.out 2).trans rfl,(blk_cell BK246.out 3).trans rfl⟩ (fun hHeld=>?_)
        clear hK K
        refine norm_ (a':=?_) ?_ ?_
        rotate_left
        ·show Act.put _ (some 19) _ = _
         simp only [Act.put,List.setIfInBounds_toArray,List.set_cons_zero,List.set_cons_succ,i64_w,i32_w]
         rfl
        refine pure_ (i:=6) (N:=some 20) (v:=?_) (a':=?_) #[true,true,true,true,true,true,true,true,false] rfl rfl (any_of HT_.out (by kernel_rfl)) (fun _ _ _ h=>h) (Or.inl ⟨by rfl,?_⟩) ?_ ?_
        rotate_left
        ·intro w'
         go_simp
         with_reducible rfl
        rotate_left
        ·simp only [Act.put,List.setIfInBounds_toArray,List.set_cons_zero,List.set_cons_succ,i64_w,i32_w]
         rfl
        exact norm_ (by simp only [putAll,Act.put,List.setIfInBounds_toArray,List.set_cons_zero,List.set_cons_succ]) (hCont (.slice Ao25 t250.length co25,.slice Ao24 t254.length co24,gb257) _ ⟨hHeld,(by (with_reducible repeat (first|apply Kd.S_alloc|apply Kd.S_drewN|apply Kd.S_drew));exact Kd.S_mono HO252.out (fun _ hk=>hk.2)),(by (with_reducible repeat (first|apply Kd.R_alloc|apply Kd.R_drewN|apply Kd.R_drew));exact HO256.out),(by (with_reducible repeat first|apply blk_drewN|apply blk_drew|apply blk_alloc);exact BK246.out),(by (with_reducible repeat first|apply blk_drewN|apply blk_drew|apply blk_alloc);exact BK247.out),(by (with_reducible repeat first|apply blk_drewN|apply blk_drew|apply blk_alloc);exact BK257.out),GW257.out,GE257.out,NB246_257.out,NB257_246.out,NB247_257.out,NB257_247.out,(by repeat (first|(with_reducible first|exact HB.out|apply below_alloc|apply pw_below_drewN|apply below_drew1|refine below_set ?_ GE246.out|refine below_set ?_ GE247.out|refine below_set ?_ GE257.out)|exact HB.out))⟩)
      rintro ⟨v251,v255,gb257⟩ w26 ⟨hS_,h0_,h1_,h2_,h3_,h4_,h5_,h6_,h7_,h8_,h9_,h10_,h11_⟩
      have n0_ : Aside0 (Kd.S (Kd.slice 5 (Kd.int .u8)) 23 w26 w.heap.size (fun k_=>some k_ ≠ (v255 : Value).ownBlock) v251 t250):=⟨h0_⟩
      have n1_ : Aside0 (Kd.R (Kd.int .u8) 5 w26 w.heap.size (fun _=>True) v255 t254):=⟨h1_⟩
      have n2_ : Aside0 (w26.heap[gb246]? = some (.cells #[.slice (some ad249) l0_0.length c0_0,.int .i64 a0_1,.bool a0_2,.int .i64 a0_3] 45 (0,0))):=⟨h2_⟩
      have n3_ : Aside0 (w26.heap[gb247]? = some (.cells #[.slice none 0 0,.slice none 0 0,.slice none 0 0,.slice none 0 0] 29 (0,0))):=⟨h3_⟩
      have n4_ : Aside0 (w26.heap[gb257]? = some (.cells #[.slice none 0 0,.slice none 0 0,.slice none 0 0,.slice none 0 0] 29 (0,0))):=⟨h4_⟩
      have n5_ : Aside0 (w.heap.size ≤ gb257):=⟨h5_⟩
      have n6_ : Aside0 (w.heap.size ≤ gb257):=⟨h6_⟩
      have n7_ : Aside0 (gb246 ≠ gb257):=⟨h7_⟩
      have n8_ : Aside0 (gb257 ≠ gb246):=⟨h8_⟩
      have n9_ : Aside0 (gb247 ≠ gb257):=⟨h9_⟩
      have n10_ : Aside0 (gb257 ≠ gb247):=⟨h10_⟩
      have n11_ : Aside0 (Below w.heap.size w w26):=⟨h11_⟩
      clear BK246
      clear BK247
      clear HB
      clear h0_ h1_ h2_ h3_ h4_ h5_ h6_ h7_ h8_ h9_ h10_ h11_
      have HO252:=n0_
      have HO256:=n1_
      have BK246:=n2_
      have BK247:=n3_
      have BK257:=n4_
      have GW257:=n5_
      have GE257:=n6_
      have NB246_257:=n7_
      have NB257_246:=n8_
      have NB247_257:=n9_
      have NB257_247:=n10_
      have HB:=n11_
      clear n0_ n1_ n2_ n3_ n4_ n5_ n6_ n7_ n8_ n9_ n10_ n11_
      have hHeld : w26.cell? ⟨gb246,0,none⟩ = some (.slice (some ad249) l0_0.length c0_0)∧w26.cell? ⟨gb246,1,none⟩ = some (.int .i64 a0_1)∧w26.cell? ⟨gb246,2,none⟩ = some (.bool a0_2)∧w26.cell? ⟨gb246,3,none⟩ = some (.int .i64 a0_3):=hS_
      obtain ⟨Ao27,co27,eo27⟩:=Kd.R_slice HO256.out
      (first|subst eo27|(injection eo27 with f1_ f2_ f3_;have f4_:=f1_.symm;have f5_:=f3_.symm;clear f1_ f2_ f3_;subst f4_;subst f5_))
      obtain ⟨Ao28,co28,eo28⟩:=Kd.S_slice HO252.out
      (first|subst eo28|(injection eo28 with f1_ f2_ f3_;have f4_:=f1_.symm;have f5_:=f3_.symm;clear f1_ f2_ f3_;subst f4_;subst f5_))
      refine norm_ (a':=?_) ?_ ?_
      rotate_left
      ·simp only [putAll,Act.put,List.setIfInBounds_toArray,List.set_cons_zero,List.set_cons_succ]
       rfl
      refine one_ (i:=8) (N:=none) #[true,true,true,true,true,true,true,true,true] rfl rfl (one_of HT_.out (by kernel_rfl)) (by decide) (fun K hK=>?_)
      have hs29 : w26.cell? ⟨gb257,0,none⟩ = some (.slice none 0 0):=(blk_cell BK257.out 0).trans rfl
      have hfs29:=blk_frozen BK257.out 0
      have hns29_0:=NB246_257.out
      have hns29_1:=NB247_257.out
      have hms29_0:=NB257_246.out
      have hms29_1:=NB257_247.out
      have hs30 : w26.cell? ⟨gb257,1,none⟩ = some (.slice none 0 0):=(blk_cell BK257.out 1).trans rfl
      have hfs30:=blk_frozen BK257.out 1
      have hns30_0:=NB246_257.out
      have hns30_1:=NB247_257.out
      have hms30_0:=NB257_246.out
      have hms30_1:=NB257_247.out
      have hs31 : w26.cell? ⟨gb257,2,none⟩ = some (.slice none 0 0):=(blk_cell BK257.out 2).trans rfl
      have hfs31:=blk_frozen BK257.out 2
      have hns31_0:=NB246_257.out
      have hns31_1:=NB247_257.out
      have hms31_0:=NB257_246.out
      have hms31_1:=NB257_247.out
      have hs32 : w26.cell? ⟨gb257,3,none⟩ = some (.slice none 0 0):=(blk_cell BK257.out 3).trans rfl
      have hfs32:=blk_frozen BK257.out 3
      have hns32_0:=NB246_257.out
      have hns32_1:=NB247_257.out
      have hms32_0:=NB257_246.out
      have hms32_1:=NB257_247.out
      refine skip_ (w1:=?_) (by rfl) rfl ?_ ?_
      rotate_left
      ·go_simp
       rfl
      refine hK.out _ _ ⟨((cell_far (p:=⟨gb257,_,none⟩) NB246_257.out _).trans (((cell_far (p:=⟨gb257,_,none⟩) NB246_257.out _).trans (((cell_far (p:=⟨gb257,_,none⟩) NB246_257.out _).trans (((cell_far (p:=⟨gb257,_,none⟩) NB246_257.out _).trans (hHeld.1)))))))),((cell_far (p:=⟨gb257,_,none⟩) NB246_257.out _).trans (((cell_far (p:=⟨gb257,_,none⟩) NB246_257.out _).trans (((cell_far (p:=⟨gb257,_,none⟩) NB246_257.out _).trans (((cell_far (p:=⟨gb257,_,none⟩) NB246_257.out _).trans (hHeld.2.1)))))))),((cell_far (p:=⟨gb257,_,none⟩) NB246_257.out _).trans (((cell_far (p:=⟨gb257,_,none⟩) NB246_257.out _).trans (((cell_far (p:=⟨gb257,_,none⟩) NB246_257.out _).trans (((cell_far (p:=⟨gb257,_,none⟩) NB246_257.out _).trans (hHeld.2.2.1)))))))),((cell_far (p:=⟨gb257,_,none⟩) NB246_257.out _).trans (((cell_far (p:=⟨gb257,_,none⟩) NB246_257.out _).trans (((cell_far (p:=⟨gb257,_,none⟩) NB246_257.out _).trans (((cell_far (p:=⟨gb257,_,none⟩) NB246_257.out _).trans (hHeld.2.2.2))))))))⟩ (fun hHeld=>?_)
      clear hK K
      refine done_ (done_of HT_.out (by kernel_rfl)) ?_
      have hnb33:=NB257_246.out
      have hnc33:=NB246_257.out
      have hnb34:=NB257_247.out
      have hnc34:=NB247_257.out
      have hcz35_0 : w26.cell? ⟨gb257,0,none⟩ = some (.slice none 0 0):=(blk_cell BK257.out 0).trans rfl
      have hcz35_1 : w26.cell? ⟨gb257,1,none⟩ = some (.slice none 0 0):=(blk_cell BK257.out 1).trans rfl
      have hcz35_2 : w26.cell? ⟨gb257,2,none⟩ = some (.slice none 0 0):=(blk_cell BK257.out 2).trans rfl
      have hcz35_3 : w26.cell? ⟨gb257,3,none⟩ = some (.slice none 0 0):=(blk_cell BK257.out 3).trans rfl
      have hfz35_0:=blk_frozen BK257.out 0
      have hfz35_1:=blk_frozen BK257.out 1
      have hfz35_2:=blk_frozen BK257.out 2
      have hfz35_3:=blk_frozen BK257.out 3
      try go_wp2_with (first|((with_reducible refine gate_callee (f:=13) rfl ?_);refine goesL_ (some 22) rfl rfl Try.func13 (by kernel_rfl) rfl #[.agg #[.slice Ao28 t250.length co28,.slice Ao27 t254.length co27,.slice none 0 0,.slice none 0 0]] rfl (by (try simp only [List.map_toArray,List.map_cons,List.map_nil]);first|done|rfl|(simp only [List.length_drop,List.length_take];rfl)) ?_;(refine (impl_GoodSpace.calls k _ _ t250 _ _ t254 _ _ ([] : List Int) _ _ ([] : List Int) true _ ?side1 ?side2 ?side3 ?side4 ?side5 ?side6 ?side7 ?side8 A8.out).mono ?_);(case side1=>refine (Kd.S_reads' (e:=23) (base:=w.heap.size) (ok:=fun k_=>some k_ ≠ (.slice Ao27 t254.length co27 : Value).ownBlock) (n:=t250.length) (c:=co28) ?_).2.2;exact (by (with_reducible repeat (first|apply Kd.S_alloc|apply Kd.S_drewN|apply Kd.S_drew));exact (Kd.S_mono (Kd.S_far (p:=⟨gb257,3,none⟩) (Kd.S_far (p:=⟨gb257,2,none⟩) (Kd.S_far (p:=⟨gb257,1,none⟩) (Kd.S_far (p:=⟨gb257,0,none⟩) (Kd.S_types HO252.out BK257.out (by decide)) (fun _ hk=>hk.2) (.slice Ao28 t250.length co28)) (fun _ hk=>hk.2) (.slice Ao27 t254.length co27)) (fun _ hk=>hk.2) (.slice none 0 0)) (fun _ hk=>hk.2) (.slice none 0 0)) (fun _ h_=>h_.1))));(case side2=>exact (Kd.S_reads' HO252.out).2.1);(case side3=>refine (Kd.R_reads' (e:=5) (base:=w.heap.size) (ok:=fun k_=>True) (n:=t254.length) (c:=co27) ?_).2.2;exact (by (with_reducible repeat (first|apply Kd.R_alloc|apply Kd.R_drewN|apply Kd.R_drew));exact (Kd.R_mono (Kd.R_far (p:=⟨gb257,3,none⟩) (Kd.R_far (p:=⟨gb257,2,none⟩) (Kd.R_far (p:=⟨gb257,1,none⟩) (Kd.R_far (p:=⟨gb257,0,none⟩) (Kd.R_types HO256.out BK257.out (by decide)) (fun _ hk=>hk.2) (.slice Ao28 t250.length co28)) (fun _ hk=>hk.2) (.slice Ao27 t254.length co27)) (fun _ hk=>hk.2) (.slice none 0 0)) (fun _ hk=>hk.2) (.slice none 0 0)) (fun _ h_=>h_.1))));(case side4=>exact (Kd.R_reads' HO256.out).2.1);(case side5=>exact Kd.C_nil _ _);(case side6=>exact Nat.le_refl _);(case side7=>exact Kd.C_nil _ _);(case side8=>exact Nat.le_refl _);rintro e w36 ⟨rfl,hb⟩;refine ⟨_,rfl,?_⟩;have n0_:=Aside0.mk (Kd.S_below (by (with_reducible repeat (first|apply Kd.S_alloc|apply Kd.S_drewN|apply Kd.S_drew));exact (Kd.S_mono (Kd.S_far (p:=⟨gb257,3,none⟩) (Kd.S_far (p:=⟨gb257,2,none⟩) (Kd.S_far (p:=⟨gb257,1,none⟩) (Kd.S_far (p:=⟨gb257,0,none⟩) (Kd.S_types HO252.out BK257.out (by decide)) (fun _ hk=>hk.2) (.slice Ao28 t250.length co28)) (fun _ hk=>hk.2) (.slice Ao27 t254.length co27)) (fun _ hk=>hk.2) (.slice none 0 0)) (fun _ hk=>hk.2) (.slice none 0 0)) (fun _ h_=>h_.1))) hb);have n1_:=Aside0.mk (Kd.R_below (by (with_reducible repeat (first|apply Kd.R_alloc|apply Kd.R_drewN|apply Kd.R_drew));exact (Kd.R_mono (Kd.R_far (p:=⟨gb257,3,none⟩) (Kd.R_far (p:=⟨gb257,2,none⟩) (Kd.R_far (p:=⟨gb257,1,none⟩) (Kd.R_far (p:=⟨gb257,0,none⟩) (Kd.R_types HO256.out BK257.out (by decide)) (fun _ hk=>hk.2) (.slice Ao28 t250.length co28)) (fun _ hk=>hk.2) (.slice Ao27 t254.length co27)) (fun _ hk=>hk.2) (.slice none 0 0)) (fun _ hk=>hk.2) (.slice none 0 0)) (fun _ h_=>h_.1))) hb);have n2_:=Aside0.mk (blk_below (g:=gb246) (o:=.cells #[.slice (some ad249) l0_0.length c0_0,.int .i64 a0_1,.bool a0_2,.int .i64 a0_3] 45 (0,0)) (by (with_reducible repeat first|apply blk_drewN|apply blk_drew|apply blk_alloc);refine blk_far ?_ NB246_257.out _;(with_reducible repeat first|apply blk_drewN|apply blk_drew|apply blk_alloc);refine blk_far ?_ NB246_257.out _;(with_reducible repeat first|apply blk_drewN|apply blk_drew|apply blk_alloc);refine blk_far ?_ NB246_257.out _;(with_reducible repeat first|apply blk_drewN|apply blk_drew|apply blk_alloc);refine blk_far ?_ NB246_257.out _;(with_reducible repeat first|apply blk_drewN|apply blk_drew|apply blk_alloc);exact BK246.out) hb);have n3_:=Aside0.mk (blk_below (g:=gb247) (o:=.cells #[.slice none 0 0,.slice none 0 0,.slice none 0 0,.slice none 0 0] 29 (0,0)) (by (with_reducible repeat first|apply blk_drewN|apply blk_drew|apply blk_alloc);refine blk_far ?_ NB247_257.out _;(with_reducible repeat first|apply blk_drewN|apply blk_drew|apply blk_alloc);refine blk_far ?_ NB247_257.out _;(with_reducible repeat first|apply blk_drewN|apply blk_drew|apply blk_alloc);refine blk_far ?_ NB247_257.out _;(with_reducible repeat first|apply blk_drewN|apply blk_drew|apply blk_alloc);refine blk_far ?_ NB247_257.out _;(with_reducible repeat first|apply blk_drewN|apply blk_drew|apply blk_alloc);exact BK247.out) hb);have n4_:=Aside0.mk (blk_below (g:=gb257) (o:=.cells #[.slice Ao28 t250.length co28,.slice Ao27 t254.length co27,.slice none 0 0,.slice none 0 0] 29 (0,0)) (by (with_reducible repeat first|apply blk_drewN|apply blk_drew|apply blk_alloc);refine blk_put (cs:=#[.slice Ao28 t250.length co28,.slice Ao27 t254.length co27,.slice none 0 0,.slice none 0 0]) ?_ 3 _ rfl;(with_reducible repeat first|apply blk_drewN|apply blk_drew|apply blk_alloc);refine blk_put (cs:=#[.slice Ao28 t250.length co28,.slice Ao27 t254.length co27,.slice none 0 0,.slice none 0 0]) ?_ 2 _ rfl;(with_reducible repeat first|apply blk_drewN|apply blk_drew|apply blk_alloc);refine blk_put (cs:=#[.slice Ao28 t250.length co28,.slice none 0 0,.slice none 0 0,.slice none 0 0]) ?_ 1 _ rfl;(with_reducible repeat first|apply blk_drewN|apply blk_drew|apply blk_alloc);refine blk_put (cs:=#[.slice none 0 0,.slice none 0 0,.slice none 0 0,.slice none 0 0]) ?_ 0 _ rfl;(with_reducible repeat first|apply blk_drewN|apply blk_drew|apply blk_alloc);exact BK257.out) hb);have n5_:=Aside0.mk (below_step (by repeat (first|(with_reducible first|exact HB.out|apply below_alloc|apply pw_below_drewN|apply below_drew1|refine below_set ?_ GE246.out|refine below_set ?_ GE247.out|refine below_set ?_ GE257.out)|exact HB.out)) hb);clear HO252;clear HO256;clear BK246;clear BK247;clear BK257;clear HB;have HO252:=n0_;have HO256:=n1_;have BK246:=n2_;have BK247:=n3_;have BK257:=n4_;have HB:=n5_;clear n0_ n1_ n2_ n3_ n4_ n5_;(try clear hb);(try clear hb2);(try clear hk);(try clear hi);obtain ⟨i037,hi037,_,hsz37,_⟩:=info_parts info5;obtain ⟨A37,hcut37,hA37,hC37⟩:=print_drop_of (P:=Try.prog) (Value.int .u8) 0 23 5 .i64 Try.underlying23 hi037 hsz37 A249_0 c249_0 (rd_L2 l0_0 1) 20 (by omega) (of_decide_eq_true (by assumption)) HC249_0.out;have HR259:=Aside0.mk (Kd.C_of_reads (h1:=fun _=>rfl) (hA37 _ (Kd.reads_of_C HR249_0.out)));have HC259:=Aside0.mk hC37;clear hA37 hC37 hi037 hsz37)|(go_at_call 61;refine calls_of_args (args':=#[.slice A37 ((rd_L2 l0_0 1).drop 20).length (c249_0 - 20),.func (.func 62) #[] #[]]) (by first|rfl|(rw [show ((rd_L2 l0_0 1).drop 20).length = ((rd_L2 l0_0 1).length - 20) from List.length_drop] <;> rfl)|(simp only [List.length_drop,List.length_take];done)|(simp only [List.length_drop,List.length_take];rfl)) ?_;(with_reducible refine (slices_ContainsFunc_byte_byte_61.calls k _ _ ((rd_L2 l0_0 1).drop 20) () true _ ?side1 ?side2 A11.out).mono ?_);(case side1=>repeat (first|exact (Kd.C_below HR259.out HB.out)|(with_reducible first|apply Kd.C_alloc|apply Kd.C_drewN|apply Kd.C_drew)));(case side2=>exact HC259.out);rintro e w' ⟨rfl,⟨nd,rfl⟩⟩;(try (rw [drewN_self w36];generalize hq_ : World.drewN w36 _ = w36;have n0_ : Aside0 (Kd.S (Kd.slice 5 (Kd.int .u8)) 23 w36 w.heap.size (fun k_=>some k_ ≠ (.slice Ao27 t254.length co27 : Value).ownBlock) (.slice Ao28 t250.length co28) t250):=⟨by rw [← hq_];exact (by (with_reducible repeat (first|apply Kd.S_alloc|apply Kd.S_drewN|apply Kd.S_drew));exact HO252.out)⟩;have n1_ : Aside0 (Kd.R (Kd.int .u8) 5 w36 w.heap.size (fun _=>True) (.slice Ao27 t254.length co27) t254):=⟨by rw [← hq_];exact (by (with_reducible repeat (first|apply Kd.R_alloc|apply Kd.R_drewN|apply Kd.R_drew));exact HO256.out)⟩;have n2_ : Aside0 (w36.heap[gb246]? = some (.cells #[.slice (some ad249) l0_0.length c0_0,.int .i64 a0_1,.bool a0_2,.int .i64 a0_3] 45 (0,0))):=⟨by rw [← hq_];exact (by (with_reducible repeat first|apply blk_drewN|apply blk_drew|apply blk_alloc);exact BK246.out)⟩;have n3_ : Aside0 (w36.heap[gb247]? = some (.cells #[.slice none 0 0,.slice none 0 0,.slice none 0 0,.slice none 0 0] 29 (0,0))):=⟨by rw [← hq_];exact (by (with_reducible repeat first|apply blk_drewN|apply blk_drew|apply blk_alloc);exact BK247.out)⟩;have n4_ : Aside0 (w36.heap[gb257]? = some (.cells #[.slice Ao28 t250.length co28,.slice Ao27 t254.length co27,.slice none 0 0,.slice none 0 0] 29 (0,0))):=⟨by rw [← hq_];exact (by (with_reducible repeat first|apply blk_drewN|apply blk_drew|apply blk_alloc);exact BK257.out)⟩;have n5_ : Aside0 (Below w.heap.size w w36):=⟨by rw [← hq_];exact (by repeat (first|(with_reducible first|exact HB.out|apply below_alloc|apply pw_below_drewN|apply below_drew1|refine below_set ?_ GE246.out|refine below_set ?_ GE247.out|refine below_set ?_ GE257.out)|exact HB.out))⟩;clear HO252 HO256 BK246 BK247 BK257 HB hq_;have HO252:=n0_;have HO256:=n1_;have BK246:=n2_;have BK247:=n3_;have BK257:=n4_;have HB:=n5_;clear n0_ n1_ n2_ n3_ n4_ n5_));have hcz38_0 : w36.cell? ⟨gb247,0,none⟩ = some (.slice none 0 0):=(blk_cell BK247.out 0).trans rfl;have hcz38_1 : w36.cell? ⟨gb247,1,none⟩ = some (.slice none 0 0):=(blk_cell BK247.out 1).trans rfl;have hcz38_2 : w36.cell? ⟨gb247,2,none⟩ = some (.slice none 0 0):=(blk_cell BK247.out 2).trans rfl;have hcz38_3 : w36.cell? ⟨gb247,3,none⟩ = some (.slice none 0 0):=(blk_cell BK247.out 3).trans rfl;have hfz38_0:=blk_frozen BK247.out 0;have hfz38_1:=blk_frozen BK247.out 1;have hfz38_2:=blk_frozen BK247.out 2;have hfz38_3:=blk_frozen BK247.out 3))
      refine bodyPost_ret (results_ct rfl _ _ gb247 29 #[.slice none 0 0,.slice none 0 0,.slice none 0 0,.slice none 0 0] (0,0) _ rfl (by (with_reducible repeat first|apply blk_drewN|apply blk_drew|apply blk_alloc);refine blk_put (cs:=#[.slice none 0 0,.slice none 0 0,.slice none 0 0,.slice none 0 0]) ?_ 3 _ rfl;(with_reducible repeat first|apply blk_drewN|apply blk_drew|apply blk_alloc);refine blk_put (cs:=#[.slice none 0 0,.slice none 0 0,.slice none 0 0,.slice none 0 0]) ?_ 2 _ rfl;(with_reducible repeat first|apply blk_drewN|apply blk_drew|apply blk_alloc);refine blk_put (cs:=#[.slice none 0 0,.slice none 0 0,.slice none 0 0,.slice none 0 0]) ?_ 1 _ rfl;(with_reducible repeat first|apply blk_drewN|apply blk_drew|apply blk_alloc);refine blk_put (cs:=#[.slice none 0 0,.slice none 0 0,.slice none 0 0,.slice none 0 0]) ?_ 0 _ rfl;(with_reducible repeat first|apply blk_drewN|apply blk_drew|apply blk_alloc);exact BK247.out) Try.underlying29 rfl (by kernel_rfl)) rfl ?_
      exact ⟨_,_,_,_,by first|rfl|(simp [*,errW_none,errW_some] <;> rfl),by first|exact Kd.S_nil _ _ _ _ _|exact Kd.N_nil _ _ _ _ _|exact Kd.V_nil _ _ _ _ _|exact Kd.Q_nil _ _ _ _ _|exact Kd.R_nil _ _ _ _ _,by first|exact Kd.R_nil _ _ _ _ _|exact Kd.N_nil _ _ _ _ _|exact Kd.V_nil _ _ _ _ _|exact Kd.Q_nil _ _ _ _ _|exact Kd.S_nil _ _ _ _ _,by first|exact Kd.R_nil _ _ _ _ _|exact Kd.N_nil _ _ _ _ _|exact Kd.V_nil _ _ _ _ _|exact Kd.Q_nil _ _ _ _ _|exact Kd.S_nil _ _ _ _ _,by first|exact Kd.R_nil _ _ _ _ _|exact Kd.N_nil _ _ _ _ _|exact Kd.V_nil _ _ _ _ _|exact Kd.Q_nil _ _ _ _ _|exact Kd.S_nil _ _ _ _ _,by repeat (first|(with_reducible first|exact HB.out|apply below_alloc|apply pw_below_drewN|apply below_drew1|refine below_set ?_ GE246.out|refine below_set ?_ GE247.out|refine below_set ?_ GE257.out)|exact HB.out)⟩
     ·replace c12:=Bool.eq_false_iff.mpr c12
      subst c12
      have H1 : (some (t250,t254,([] : List Int),([] : List Int),true)) = some (r1,r2,r3,r4,r5):=by rw [if_neg (show ¬ (false = true) by decide)] at H;exact H
      clear H
      have H:=H1
      clear H1
      simp only [Option.some.injEq,Prod.mk.injEq] at H
      obtain ⟨rfl,rfl,rfl,rfl,rfl⟩:=H
      go_enter Try.func26,Try.ntmps26
      try go_wp2_with (first|((with_reducible refine gate_dst (N:=1) rfl ?_);refine box_event ?hg (N:=1) ?hd (cs:=#[.slice A0_0 l0_0.length c0_0,.int .i64 a0_1,.bool a0_2,.int .i64 a0_3]) (t:=45) ?hr ?_;(case hd=>rfl);(case hg=>rfl);(case hr=>first|(go_simp;done)|(go_simp;rfl));intro gb246 hg w39 hbox hb;have n0_:=Aside0.mk (below_step (by repeat (first|exact HB.out|apply below_alloc|apply pw_below_drewN|apply below_drew1)) hb);have n1_:=Aside0.mk (hbox);have n2_:=Aside0.mk ((by rw [hg];exact (below_size (by repeat (first|exact HB.out|apply below_alloc|apply pw_below_drewN|apply below_drew1))) : w.heap.size ≤ gb246));have n3_:=Aside0.mk ((by rw [hg];exact (below_size (by repeat (first|exact HB.out|apply below_alloc|apply pw_below_drewN|apply below_drew1))) : w.heap.size ≤ gb246));clear HB;have HB:=n0_;have BK246:=n1_;have GW246:=n2_;have GE246:=n3_;clear n0_ n1_ n2_ n3_;clear hb hbox hg)|((with_reducible refine gate_dst (N:=2) rfl ?_);refine box_event ?hg (N:=2) ?hd (cs:=#[.slice none 0 0,.slice none 0 0,.slice none 0 0,.slice none 0 0]) (t:=29) ?hr ?_;(case hd=>rfl);(case hg=>rfl);(case hr=>first|(go_simp;done)|(go_simp;rfl));intro gb247 hg w40 hbox hb;have n0_:=Aside0.mk (blk_below (g:=gb246) (o:=.cells #[.slice A0_0 l0_0.length c0_0,.int .i64 a0_1,.bool a0_2,.int .i64 a0_3] 45 (0,0)) (by (with_reducible repeat first|apply blk_drewN|apply blk_drew|apply blk_alloc);exact BK246.out) hb);have n1_:=Aside0.mk (below_step (by repeat (first|(with_reducible first|exact HB.out|apply below_alloc|apply pw_below_drewN|apply below_drew1|refine below_set ?_ GE246.out)|exact HB.out)) hb);have n2_:=Aside0.mk (hbox);have n3_:=Aside0.mk ((by rw [hg];exact (below_size (by repeat (first|(with_reducible first|exact HB.out|apply below_alloc|apply pw_below_drewN|apply below_drew1|refine below_set ?_ GE246.out)|exact HB.out))) : w.heap.size ≤ gb247));have n4_:=Aside0.mk ((by rw [hg];exact (below_size (by repeat (first|(with_reducible first|exact HB.out|apply below_alloc|apply pw_below_drewN|apply below_drew1|refine below_set ?_ GE246.out)|exact HB.out))) : w.heap.size ≤ gb247));have n5_:=Aside0.mk ((by rw [hg];exact Nat.ne_of_lt (blk_lt (g:=gb246) (o:=.cells #[.slice A0_0 l0_0.length c0_0,.int .i64 a0_1,.bool a0_2,.int .i64 a0_3] 45 (0,0)) (by (with_reducible repeat first|apply blk_drewN|apply blk_drew|apply blk_alloc);exact BK246.out)) : gb246 ≠ gb247));have n6_:=Aside0.mk ((by rw [hg];exact Nat.ne_of_gt (blk_lt (g:=gb246) (o:=.cells #[.slice A0_0 l0_0.length c0_0,.int .i64 a0_1,.bool a0_2,.int .i64 a0_3] 45 (0,0)) (by (with_reducible repeat first|apply blk_drewN|apply blk_drew|apply blk_alloc);exact BK246.out)) : gb247 ≠ gb246));clear BK246;clear HB;have BK246:=n0_;have HB:=n1_;have BK247:=n2_;have GW247:=n3_;have GE247:=n4_;have NB246_247:=n5_;have NB247_246:=n6_;clear n0_ n1_ n2_ n3_ n4_ n5_ n6_;clear hb hbox hg;have hnb41:=NB246_247.out;have hnc41:=NB247_246.out;have hcz42_0 : w40.cell? ⟨gb246,0,none⟩ = some (.slice A0_0 l0_0.length c0_0):=(blk_cell BK246.out 0).trans rfl;have hcz42_1 : w40.cell? ⟨gb246,1,none⟩ = some (.int .i64 a0_1):=(blk_cell BK246.out 1).trans rfl;have hcz42_2 : w40.cell? ⟨gb246,2,none⟩ = some (.bool a0_2):=(blk_cell BK246.out 2).trans rfl;have hcz42_3 : w40.cell? ⟨gb246,3,none⟩ = some (.int .i64 a0_3):=(blk_cell BK246.out 3).trans rfl;have hfz42_0:=blk_frozen BK246.out 0;have hfz42_1:=blk_frozen BK246.out 1;have hfz42_2:=blk_frozen BK246.out 2;have hfz42_3:=blk_frozen BK246.out 3)|((with_reducible refine gate_callee (f:=58) rfl ?_);refine goesL_ (some 7) rfl rfl Try.func58 (by kernel_rfl) rfl #[.agg #[.slice A0_0 l0_0.length c0_0,.int .i64 a0_1,.bool a0_2,.int .i64 a0_3]] rfl (by (try simp only [List.map_toArray,List.map_cons,List.map_nil]);first|done|rfl|(simp only [List.length_drop,List.length_take];rfl)) ?_;(with_reducible refine (impl_GoodDisk.calls k _ _ l0_0 a0_1 a0_2 a0_3 true _ ?side1 ?side2 A2.out).mono ?_);(case side1=>repeat (first|exact (Kd.C_below HR0_0.out HB.out)|(with_reducible first|apply Kd.C_alloc|apply Kd.C_drewN|apply Kd.C_drew)));(case side2=>exact HC0_0.out);rintro e w43 ⟨rfl,hb⟩;refine ⟨_,rfl,?_⟩;have n0_:=Aside0.mk (blk_below (g:=gb246) (o:=.cells #[.slice A0_0 l0_0.length c0_0,.int .i64 a0_1,.bool a0_2,.int .i64 a0_3] 45 (0,0)) (by (with_reducible repeat first|apply blk_drewN|apply blk_drew|apply blk_alloc);exact BK246.out) hb);have n1_:=Aside0.mk (blk_below (g:=gb247) (o:=.cells #[.slice none 0 0,.slice none 0 0,.slice none 0 0,.slice none 0 0] 29 (0,0)) (by (with_reducible repeat first|apply blk_drewN|apply blk_drew|apply blk_alloc);exact BK247.out) hb);have n2_:=Aside0.mk (below_step (by repeat (first|(with_reducible first|exact HB.out|apply below_alloc|apply pw_below_drewN|apply below_drew1|refine below_set ?_ GE246.out|refine below_set ?_ GE247.out)|exact HB.out)) hb);clear BK246;clear BK247;clear HB;have BK246:=n0_;have BK247:=n1_;have HB:=n2_;clear n0_ n1_ n2_;(try clear hb);(try clear hb2);(try clear hk);(try clear hi);have hcz44_0 : w43.cell? ⟨gb246,0,none⟩ = some (.slice A0_0 l0_0.length c0_0):=(blk_cell BK246.out 0).trans rfl;have hcz44_1 : w43.cell? ⟨gb246,1,none⟩ = some (.int .i64 a0_1):=(blk_cell BK246.out 1).trans rfl;have hcz44_2 : w43.cell? ⟨gb246,2,none⟩ = some (.bool a0_2):=(blk_cell BK246.out 2).trans rfl;have hcz44_3 : w43.cell? ⟨gb246,3,none⟩ = some (.int .i64 a0_3):=(blk_cell BK246.out 3).trans rfl;have hfz44_0:=blk_frozen BK246.out 0;have hfz44_1:=blk_frozen BK246.out 1;have hfz44_2:=blk_frozen BK246.out 2;have hfz44_3:=blk_frozen BK246.out 3;have p249 : 0 ≤ (1 : Int):=(by omega);have q249 : 1 < (l0_0.length : Int):=of_decide_eq_true (by assumption);obtain ⟨ad249,A249_0,c249_0,e249,hx249_0,hl249_0,hi249_0⟩:=at_L2 HR0_0.out 1 p249 q249;cases e249;(try simp only [show (1 : Int).toNat = 1 from rfl,Nat.reduceMul,Nat.reduceEqDiff,Go.Addr.add,↓reduceIte] at hx249_0);have qi249 : (1 < l0_0.length) = True:=eq_true (by omega);(try rw [show ((1 : Int)).toNat = 1 from rfl] at hx249_0);(try replace hx249_0:=(HB.out.cell (World.block_lt_of_cell? w _ hx249_0)).trans hx249_0);have HR249_0:=Aside0.mk hi249_0;have HC249_0:=Aside0.mk hl249_0;clear hi249_0 hl249_0;replace p249:=eq_true p249;replace q249:=eq_true q249))
      have n0_:=Aside0.mk (blk_drew BK246.out)
      have n1_:=Aside0.mk (blk_drew BK247.out)
      have n2_:=Aside0.mk (below_drew1 HB.out)
      clear BK246
      clear BK247
      clear HB
      have BK246:=n0_
      have BK247:=n1_
      have HB:=n2_
      clear n0_ n1_ n2_
      obtain ⟨i046,hi046,_,hsz46,_⟩:=info_parts info5
      obtain ⟨hcut46,hA46,hC46⟩:=print_take_of (P:=Try.prog) (Value.int .u8) 0 23 5 .i64 Try.underlying23 hi046 hsz46 A249_0 c249_0 (rd_L2 l0_0 1) 20 (by omega) (of_decide_eq_true (by assumption)) HC249_0.out
      have HR253:=Aside0.mk (Kd.C_of_reads (h1:=fun _=>rfl) (hA46 _ (Kd.reads_of_C HR249_0.out)))
      have HC253:=Aside0.mk hC46
      clear hA46 hC46 hi046 hsz46
      refine start_ (n:=9) (S:=fun w'=>w'.cell? ⟨gb246,0,none⟩ = some (.slice (some ad249) l0_0.length c0_0)∧w'.cell? ⟨gb246,1,none⟩ = some (.int .i64 a0_1)∧w'.cell? ⟨gb246,2,none⟩ = some (.bool a0_2)∧w'.cell? ⟨gb246,3,none⟩ = some (.int .i64 a0_3)) (ds:=[]) #[false,false,false,false,false,false,false,false,false] (by kernel_rfl) rfl rfl ⟨(blk_cell BK246.out 0).trans rfl,(blk_cell BK246.out 1).trans rfl,(blk_cell BK246.out 2).trans rfl,(blk_cell BK246.out 3).trans rfl⟩ (fun hHeld=>?_);refine with_tabW impl_OpenSpace.tab4 impl_OpenSpace.bits4 (fun HT_ HW_=>?_)
      generalize w43.drew = w45 at BK246 BK247 HB HR253 hHeld ⊢
      refine pure_ (i:=0) (N:=some 14) (v:=?_) (a':=?_) #[true,false,false,false,false,false,false,false,false] rfl rfl (any_of HT_.out (by kernel_rfl)) (fun _ _ _ h=>h) (Or.inl ⟨by rfl,?_⟩) ?_ ?_
      rotate_left
      ·intro w'
       go_simp
       with_reducible rfl
      rotate_left
      ·simp only [Act.put,List.setIfInBounds_toArray,List.set_cons_zero,List.set_cons_succ,i64_w,i32_w]
       rfl
      refine pure_ (i:=3) (N:=some 17) (v:=?_) (a':=?_) #[true,false,false,true,false,false,false,false,false] rfl rfl (any_of HT_.out (by kernel_rfl)) (fun _ _ _ h=>h) (Or.inl ⟨by rfl,?_⟩) ?_ ?_
      rotate_left
      ·intro w'
       go_simp
       with_reducible rfl
      rotate_left
      ·simp only [Act.put,List.setIfInBounds_toArray,List.set_cons_zero,List.set_cons_succ,i64_w,i32_w]
       rfl
      refine pure_ (i:=4) (N:=some 18) (v:=?_) (a':=?_) #[true,false,false,true,true,false,false,false,false] rfl rfl (any_of HT_.out (by kernel_rfl)) (fun _ _ _ h=>h) (Or.inl ⟨by rfl,?_⟩) ?_ ?_
      rotate_left
      ·intro w'
       go_simp
       with_reducible rfl
      rotate_left
      ·simp only [Act.put,List.setIfInBounds_toArray,List.set_cons_zero,List.set_cons_succ,i64_w,i32_w]
       rfl
      refine take_ (i:=1) (N:=some 15) (v:=?_) (a':=?_) #[true,true,false,true,true,false,false,false,false] rfl rfl (take_ofW HT_.out HW_.out (by kernel_rfl)) (fun _ _ _ h=>h) (Or.inl ⟨by rfl,?_⟩) hHeld ?_ ?_
      rotate_left
      ·rintro w' ⟨s0,s1,s2,s3⟩
       go_simp
       with_reducible rfl
      rotate_left
      ·simp only [Act.put,List.setIfInBounds_toArray,List.set_cons_zero,List.set_cons_succ,i64_w,i32_w]
       rfl
      refine join_ (σ:=Value × Value × Nat) 1 #[true,true,true,true,true,true,true,true,false] (fun s_=>[(16,s_.1),(19,s_.2.1),(5,.pointer (some ⟨s_.2.2,0,none⟩)),(20,.agg #[s_.1,s_.2.1,.slice none 0 0,.slice none 0 0])]) (fun s_ w'=>(w'.cell? ⟨gb246,0,none⟩ = some (.slice (some ad249) l0_0.length c0_0)∧w'.cell? ⟨gb246,1,none⟩ = some (.int .i64 a0_1)∧w'.cell? ⟨gb246,2,none⟩ = some (.bool a0_2)∧w'.cell? ⟨gb246,3,none⟩ = some (.int .i64 a0_3))∧(Kd.S (Kd.slice 5 (Kd.int .u8)) 23 w' w.heap.size (fun k_=>some k_ ≠ (s_.2.1 : Value).ownBlock) s_.1 t250)∧(Kd.R (Kd.int .u8) 5 w' w.heap.size (fun _=>True) s_.2.1 t254)∧(w'.heap[gb246]? = some (.cells #[.slice (some ad249) l0_0.length c0_0,.int .i64 a0_1,.bool a0_2,.int .i64 a0_3] 45 (0,0)))∧(w'.heap[gb247]? = some (.cells #[.slice none 0 0,.slice none 0 0,.slice none 0 0,.slice none 0 0] 29 (0,0)))∧(w'.heap[s_.2.2]? = some (.cells #[.slice none 0 0,.slice none 0 0,.slice none 0 0,.slice none 0 0] 29 (0,0)))∧(w.heap.size ≤ s_.2.2)∧(w.heap.size ≤ s_.2.2)∧(gb246 ≠ s_.2.2)∧(s_.2.2 ≠ gb246)∧(gb247 ≠ s_.2.2)∧(s_.2.2 ≠ gb247)∧(Below w.heap.size w w')) ?_ ?_
      rotate_left
      ·intro hCont
       refine two_ (i:=2) (j:=7) (Ni:=some 16) (Nj:=some 5) #[true,true,true,true,true,false,false,false,false] #[true,true,false,true,true,false,false,true,false] rfl rfl rfl rfl (two_of HT_.out (by kernel_rfl)) (by decide) (by decide) (fun K hK=>?_) (fun K hK=>?_)
       ·skip
        refine goes_ Try.func59 (by kernel_rfl) rfl #[.slice (some ad249) l0_0.length c0_0] (by rfl) rfl rfl (by (try simp only [List.map_toArray,List.map_cons,List.map_nil]);first|done|rfl|(simp only [List.length_drop,List.length_take];rfl)) ?_
        with_reducible refine (impl_copyBlocks.calls k _ _ l0_0 t250 _ ?side1 ?side2 A5.out).mono ?_
        (case side1=>repeat (first|exact (Kd.C_below HR0_0.out HB.out)|(with_reducible first|apply Kd.C_alloc|apply Kd.C_drewN|apply Kd.C_drew)))
        (case side2=>exact HC0_0.out)
        rintro e w47 ⟨v251,rfl,ho0,hb⟩
        refine ⟨_,rfl,?_⟩
        have n0_:=Aside0.mk (Kd.S_lower ho0 (below_size (by repeat (first|(with_reducible first|exact HB.out|apply below_alloc|apply pw_below_drewN|apply below_drew1|refine below_set ?_ GE246.out|refine below_set ?_ GE247.out)|exact HB.out))))
        have n1_:=Aside0.mk (blk_below (g:=gb246) (o:=.cells #[.slice (some ad249) l0_0.length c0_0,.int .i64 a0_1,.bool a0_2,.int .i64 a0_3] 45 (0,0)) (by (with_reducible repeat first|apply blk_drewN|apply blk_drew|apply blk_alloc);exact BK246.out) hb)
        have n2_:=Aside0.mk (blk_below (g:=gb247) (o:=.cells #[.slice none 0 0,.slice none 0 0,.slice none 0 0,.slice none 0 0] 29 (0,0)) (by (with_reducible repeat first|apply blk_drewN|apply blk_drew|apply blk_alloc);exact BK247.out) hb)
        have n3_:=Aside0.mk (below_step (by repeat (first|(with_reducible first|exact HB.out|apply below_alloc|apply pw_below_drewN|apply below_drew1|refine below_set ?_ GE246.out|refine below_set ?_ GE247.out)|exact HB.out)) hb)
        clear BK246
        clear BK247
        clear HB
        have HO252:=n0_
        have BK246:=n1_
        have BK247:=n2_
        have HB:=n3_
        clear n0_ n1_ n2_ n3_
        (try clear hb)
        (try clear hb2)
        (try clear hk)
        (try clear hi)
        (try clear ho0)
        refine hK.out _ _ ⟨(blk_cell BK246.out 0).trans rfl,(blk_cell BK246.out 1).trans rfl,(blk_cell BK246.out 2).trans rfl,(blk_cell BK246.out 3).trans rfl⟩ (fun hHeld=>?_)
        clear hK K
        refine norm_ (a':=?_) ?_ ?_
        rotate_left
        ·show Act.put _ (some 16) _ = _
         simp only [Act.put,List.setIfInBounds_toArray,List.set_cons_zero,List.set_cons_succ,i64_w,i32_w]
         rfl
        refine two_ (i:=5) (j:=7) (Ni:=some 19) (Nj:=some 5) #[true,true,true,true,true,true,false,false,false] #[true,true,true,true,true,false,false,true,false] rfl rfl rfl rfl (two_of HT_.out (by kernel_rfl)) (by decide) (by decide) (fun K hK=>?_) (fun K hK=>?_)
        ·skip
         refine goes_ Try.func60 (by kernel_rfl) rfl #[.slice A249_0 ((rd_L2 l0_0 1).take 20).length c249_0] (by rfl) rfl rfl (by (try simp only [List.map_toArray,List.map_cons,List.map_nil]);first|done|(rw [show ((rd_L2 l0_0 1).take 20).length = 20 from (by rw [List.length_take];have h_ : (20 : Int) ≤ ((rd_L2 l0_0 1).length : Int):=of_decide_eq_true (by assumption);omega)] <;> rfl)|rfl|(simp only [List.length_drop,List.length_take];rfl)) ?_
         with_reducible refine (slices_Clone_byte_byte.calls _ _ ((rd_L2 l0_0 1).take 20) t254 _ ?side1 ?side2 A7.out).mono ?_
         (case side1=>repeat (first|exact (Kd.C_below HR253.out HB.out)|(with_reducible first|apply Kd.C_alloc|apply Kd.C_drewN|apply Kd.C_drew)))
         (case side2=>exact HC253.out)
         rintro e w48 ⟨v255,rfl,ho0,hb⟩
         refine ⟨_,rfl,?_⟩
         have n0_:=Aside0.mk (Kd.S_elder' (by (with_reducible repeat (first|apply Kd.S_alloc|apply Kd.S_drewN|apply Kd.S_drew));exact HO252.out) (Kd.R_base ho0) hb)
         have n1_:=Aside0.mk (Kd.R_lower ho0 (below_size (by repeat (first|(with_reducible first|exact HB.out|apply below_alloc|apply pw_below_drewN|apply below_drew1|refine below_set ?_ GE246.out|refine below_set ?_ GE247.out)|exact HB.out))))
         have n2_:=Aside0.mk (blk_below (g:=gb246) (o:=.cells #[.slice (some ad249) l0_0.length c0_0,.int .i64 a0_1,.bool a0_2,.int .i64 a0_3] 45 (0,0)) (by (with_reducible repeat first|apply blk_drewN|apply blk_drew|apply blk_alloc);exact BK246.out) hb)
         have n3_:=Aside0.mk (blk_below (g:=gb247) (o:=.cells #[.slice none 0 0,.slice none 0 0,.slice none 0 0,.slice none 0 0] 29 (0,0)) (by (with_reducible repeat first|apply blk_drewN|apply blk_drew|apply blk_alloc);exact BK247.out) hb)
         have n4_:=Aside0.mk (below_step (by repeat (first|(with_reducible first|exact HB.out|apply below_alloc|apply pw_below_drewN|apply below_drew1|refine below_set ?_ GE246.out|refine below_set ?_ GE247.out)|exact HB.out)) hb)
         clear HO252
         clear BK246
         clear BK247
         clear HB
         have HO252:=n0_
         have HO256:=n1_
         have BK246:=n2_
         have BK247:=n3_
         have HB:=n4_
         clear n0_ n1_ n2_ n3_ n4_
         (try clear hb)
         (try clear hb2)
         (try clear hk)
         (try clear hi)
         (try clear ho0)
         obtain ⟨Ao49,co49,eo49⟩:=Kd.R_slice HO256.out
         (first|subst eo49|(injection eo49 with f1_ f2_ f3_;have f4_:=f1_.symm;have f5_:=f3_.symm;clear f1_ f2_ f3_;subst f4_;subst f5_))
         obtain ⟨Ao50,co50,eo50⟩:=Kd.S_slice HO252.out
         (first|subst eo50|(injection eo50 with f1_ f2_ f3_;have f4_:=f1_.symm;have f5_:=f3_.symm;clear f1_ f2_ f3_;subst f4_;subst f5_))
         refine hK.out _ _ ⟨(blk_cell BK246.out 0).trans rfl,(blk_cell BK246.out 1).trans rfl,(blk_cell BK246.out 2).trans rfl,(blk_cell BK246.out 3).trans rfl⟩ (fun hHeld=>?_)
         clear hK K
         refine norm_ (a':=?_) ?_ ?_
         rotate_left
         ·show Act.put _ (some 19) _ = _
          simp only [Act.put,List.setIfInBounds_toArray,List.set_cons_zero,List.set_cons_succ,i64_w,i32_w]
          rfl
         refine pure_ (i:=6) (N:=some 20) (v:=?_) (a':=?_) #[true,true,true,true,true,true,true,false,false] rfl rfl (any_of HT_.out (by kernel_rfl)) (fun _ _ _ h=>h) (Or.inl ⟨by rfl,?_⟩) ?_ ?_
         rotate_left
         ·intro w'
          go_simp
          with_reducible rfl
         rotate_left
         ·simp only [Act.put,List.setIfInBounds_toArray,List.set_cons_zero,List.set_cons_succ,i64_w,i32_w]
          rfl
         refine one_ (i:=7) (N:=some 5) #[true,true,true,true,true,true,true,true,false] rfl rfl (one_of HT_.out (by kernel_rfl)) (by decide) (fun K hK=>?_)
         refine box_step ?hg (N:=5) ?hd (cs:=#[.slice none 0 0,.slice none 0 0,.slice none 0 0,.slice none 0 0]) (t:=29) ?hr ?_;(case hd=>rfl);(case hg=>rfl);(case hr=>first|(go_simp;done)|(go_simp;rfl))
         intro gb257 hg w51 hbox hb
         have n0_:=Aside0.mk (Kd.S_below (by (with_reducible repeat (first|apply Kd.S_alloc|apply Kd.S_drewN|apply Kd.S_drew));exact HO252.out) hb)
         have n1_:=Aside0.mk (Kd.R_below (by (with_reducible repeat (first|apply Kd.R_alloc|apply Kd.R_drewN|apply Kd.R_drew));exact HO256.out) hb)
         have n2_:=Aside0.mk (blk_below (g:=gb246) (o:=.cells #[.slice (some ad249) l0_0.length c0_0,.int .i64 a0_1,.bool a0_2,.int .i64 a0_3] 45 (0,0)) (by (with_reducible repeat first|apply blk_drewN|apply blk_drew|apply blk_alloc);exact BK246.out) hb)
         have n3_:=Aside0.mk (blk_below (g:=gb247) (o:=.cells #[.slice none 0 0,.slice none 0 0,.slice none 0 0,.slice none 0 0] 29 (0,0)) (by (with_reducible repeat first|apply blk_drewN|apply blk_drew|apply blk_alloc);exact BK247.out) hb)
         have n4_:=Aside0.mk (below_step (by repeat (first|(with_reducible first|exact HB.out|apply below_alloc|apply pw_below_drewN|apply below_drew1|refine below_set ?_ GE246.out|refine below_set ?_ GE247.out)|exact HB.out)) hb)
         have n5_:=Aside0.mk (hbox)
         have n6_:=Aside0.mk ((by rw [hg];exact (below_size (by repeat (first|(with_reducible first|exact HB.out|apply below_alloc|apply pw_below_drewN|apply below_drew1|refine below_set ?_ GE246.out|refine below_set ?_ GE247.out)|exact HB.out))) : w.heap.size ≤ gb257))
         have n7_:=Aside0.mk ((by rw [hg];exact (below_size (by repeat (first|(with_reducible first|exact HB.out|apply below_alloc|apply pw_below_drewN|apply below_drew1|refine below_set ?_ GE246.out|refine below_set ?_ GE247.out)|exact HB.out))) : w.heap.size ≤ gb257))
         have n8_:=Aside0.mk ((by rw [hg];exact Nat.ne_of_lt (blk_lt (g:=gb246) (o:=.cells #[.slice (some ad249) l0_0.length c0_0,.int .i64 a0_1,.bool a0_2,.int .i64 a0_3] 45 (0,0)) (by (with_reducible repeat first|apply blk_drewN|apply blk_drew|apply blk_alloc);exact BK246.out)) : gb246 ≠ gb257))
         have n9_:=Aside0.mk ((by rw [hg];exact Nat.ne_of_gt (blk_lt (g:=gb246) (o:=.cells #[.slice (some ad249) l0_0.length c0_0,.int .i64 a0_1,.bool a0_2,.int .i64 a0_3] 45 (0,0)) (by (with_reducible repeat first|apply blk_drewN|apply blk_drew|apply blk_alloc);exact BK246.out)) : gb257 ≠ gb246))
         have n10_:=Aside0.mk ((by rw [hg];exact Nat.ne_of_lt (blk_lt (g:=gb247) (o:=.cells #[.slice none 0 0,.slice none 0 0,.slice none 0 0,.slice none 0 0] 29 (0,0)) (by (with_reducible repeat first|apply blk_drewN|apply blk_drew|apply blk_alloc);exact BK247.out)) : gb247 ≠ gb257))
         have n11_:=Aside0.mk ((by rw [hg];exact Nat.ne_of_gt (blk_lt (g:=gb247) (o:=.cells #[.slice none 0 0,.slice none 0 0,.slice none 0 0,.slice none 0 0] 29 (0,0)) (by (with_reducible repeat first|apply blk_drewN|apply blk_drew|apply blk_alloc);exact BK247.out)) : gb257 ≠ gb247))
         clear HO252
         clear HO256
         clear BK246
         clear BK247
         clear HB
         have HO252:=n0_
         have HO256:=n1_
         have BK246:=n2_
         have BK247:=n3_
         have HB:=n4_
         have BK257:=n5_
         have GW257:=n6_
         have GE257:=n7_
         have NB246_257:=n8_
         have NB257_246:=n9_
         have NB247_257:=n10_
         have NB257_247:=n11_
         clear n0_ n1_ n2_ n3_ n4_ n5_ n6_ n7_ n8_ n9_ n10_ n11_
         clear hb hbox hg
         refine hK.out _ _ ⟨(blk_cell BK246.out 0).trans rfl,(blk_cell BK246.out 1).trans rfl,(blk_cell BK246.out 2).trans rfl,(blk_cell BK246.out 3).trans rfl⟩ (fun hHeld=>?_)
         clear hK K
         refine norm_ (a':=?_) ?_ ?_
         rotate_left
         ·show Act.put _ (some 5) _ = _
          simp only [Act.put,List.setIfInBounds_toArray,List.set_cons_zero,List.set_cons_succ,i64_w,i32_w]
          rfl
         exact norm_ (by simp only [putAll,Act.put,List.setIfInBounds_toArray,List.set_cons_zero,List.set_cons_succ]) (hCont (.slice Ao50 t250.length co50,.slice Ao49 t254.length co49,gb257) _ ⟨hHeld,(by (with_reducible repeat (first|apply Kd.S_alloc|apply Kd.S_drewN|apply Kd.S_drew));exact Kd.S_mono HO252.out (fun _ hk=>hk.2)),(by (with_reducible repeat (first|apply Kd.R_alloc|apply Kd.R_drewN|apply Kd.R_drew));exact HO256.out),(by (with_reducible repeat first|apply blk_drewN|apply blk_drew|apply blk_alloc);exact BK246.out),(by (with_reducible repeat first|apply blk_drewN|apply blk_drew|apply blk_alloc);exact BK247.out),(by (with_reducible repeat first|apply blk_drewN|apply blk_drew|apply blk_alloc);exact BK257.out),GW257.out,GE257.out,NB246_257.out,NB257_246.out,NB247_257.out,NB257_247.out,(by repeat (first|(with_reducible first|exact HB.out|apply below_alloc|apply pw_below_drewN|apply below_drew1|refine below_set ?_ GE246.out|refine below_set ?_ GE247.out|refine below_set ?_ GE257.out)|exact HB.out))⟩)
        ·skip
         refine box_step ?hg (N:=5) ?hd (cs:=#[.slice none 0 0,.slice none 0 0,.slice none 0 0,.slice none 0 0]) (t:=29) ?hr ?_;(case hd=>rfl);(case hg=>rfl);(case hr=>first|(go_simp;done)|(go_simp;rfl))
         intro gb257 hg w48 hbox hb
         have n0_:=Aside0.mk (Kd.S_below (by (with_reducible repeat (first|apply Kd.S_alloc|apply Kd.S_drewN|apply Kd.S_drew));exact HO252.out) hb)
         have n1_:=Aside0.mk (blk_below (g:=gb246) (o:=.cells #[.slice (some ad249) l0_0.length c0_0,.int .i64 a0_1,.bool a0_2,.int .i64 a0_3] 45 (0,0)) (by (with_reducible repeat first|apply blk_drewN|apply blk_drew|apply blk_alloc);exact BK246.out) hb)
         have n2_:=Aside0.mk (blk_below (g:=gb247) (o:=.cells #[.slice none 0 0,.slice none 0 0,.slice none 0 0,.slice none 0 0] 29 (0,0)) (by (with_reducible repeat first|apply blk_drewN|apply blk_drew|apply blk_alloc);exact BK247.out) hb)
         have n3_:=Aside0.mk (below_step (by repeat (first|(with_reducible first|exact HB.out|apply below_alloc|apply pw_below_drewN|apply below_drew1|refine below_set ?_ GE246.out|refine below_set ?_ GE247.out)|exact HB.out)) hb)
         have n4_:=Aside0.mk (hbox)
         have n5_:=Aside0.mk ((by rw [hg];exact (below_size (by repeat (first|(with_reducible first|exact HB.out|apply below_alloc|apply pw_below_drewN|apply below_drew1|refine below_set ?_ GE246.out|refine below_set ?_ GE247.out)|exact HB.out))) : w.heap.size ≤ gb257))
         have n6_:=Aside0.mk ((by rw [hg];exact (below_size (by repeat (first|(with_reducible first|exact HB.out|apply below_alloc|apply pw_below_drewN|apply below_drew1|refine below_set ?_ GE246.out|refine below_set ?_ GE247.out)|exact HB.out))) : w.heap.size ≤ gb257))
         have n7_:=Aside0.mk ((by rw [hg];exact Nat.ne_of_lt (blk_lt (g:=gb246) (o:=.cells #[.slice (some ad249) l0_0.length c0_0,.int .i64 a0_1,.bool a0_2,.int .i64 a0_3] 45 (0,0)) (by (with_reducible repeat first|apply blk_drewN|apply blk_drew|apply blk_alloc);exact BK246.out)) : gb246 ≠ gb257))
         have n8_:=Aside0.mk ((by rw [hg];exact Nat.ne_of_gt (blk_lt (g:=gb246) (o:=.cells #[.slice (some ad249) l0_0.length c0_0,.int .i64 a0_1,.bool a0_2,.int .i64 a0_3] 45 (0,0)) (by (with_reducible repeat first|apply blk_drewN|apply blk_drew|apply blk_alloc);exact BK246.out)) : gb257 ≠ gb246))
         have n9_:=Aside0.mk ((by rw [hg];exact Nat.ne_of_lt (blk_lt (g:=gb247) (o:=.cells #[.slice none 0 0,.slice none 0 0,.slice none 0 0,.slice none 0 0] 29 (0,0)) (by (with_reducible repeat first|apply blk_drewN|apply blk_drew|apply blk_alloc);exact BK247.out)) : gb247 ≠ gb257))
         have n10_:=Aside0.mk ((by rw [hg];exact Nat.ne_of_gt (blk_lt (g:=gb247) (o:=.cells #[.slice none 0 0,.slice none 0 0,.slice none 0 0,.slice none 0 0] 29 (0,0)) (by (with_reducible repeat first|apply blk_drewN|apply blk_drew|apply blk_alloc);exact BK247.out)) : gb257 ≠ gb247))
         clear HO252
         clear BK246
         clear BK247
         clear HB
         have HO252:=n0_
         have BK246:=n1_
         have BK247:=n2_
         have HB:=n3_
         have BK257:=n4_
         have GW257:=n5_
         have GE257:=n6_
         have NB246_257:=n7_
         have NB257_246:=n8_
         have NB247_257:=n9_
         have NB257_247:=n10_
         clear n0_ n1_ n2_ n3_ n4_ n5_ n6_ n7_ n8_ n9_ n10_
         clear hb hbox hg
         refine hK.out _ _ ⟨(blk_cell BK246.out 0).trans rfl,(blk_cell BK246.out 1).trans rfl,(blk_cell BK246.out 2).trans rfl,(blk_cell BK246.out 3).trans rfl⟩ (fun hHeld=>?_)
         clear hK K
         refine norm_ (a':=?_) ?_ ?_
         rotate_left
         ·show Act.put _ (some 5) _ = _
          simp only [Act.put,List.setIfInBounds_toArray,List.set_cons_zero,List.set_cons_succ,i64_w,i32_w]
          rfl
         refine one_ (i:=5) (N:=some 19) #[true,true,true,true,true,true,false,true,false] rfl rfl (one_of HT_.out (by kernel_rfl)) (by decide) (fun K hK=>?_)
         refine goes_ Try.func60 (by kernel_rfl) rfl #[.slice A249_0 ((rd_L2 l0_0 1).take 20).length c249_0] (by rfl) rfl rfl (by (try simp only [List.map_toArray,List.map_cons,List.map_nil]);first|done|(rw [show ((rd_L2 l0_0 1).take 20).length = 20 from (by rw [List.length_take];have h_ : (20 : Int) ≤ ((rd_L2 l0_0 1).length : Int):=of_decide_eq_true (by assumption);omega)] <;> rfl)|rfl|(simp only [List.length_drop,List.length_take];rfl)) ?_
         with_reducible refine (slices_Clone_byte_byte.calls _ _ ((rd_L2 l0_0 1).take 20) t254 _ ?side1 ?side2 A7.out).mono ?_
         (case side1=>repeat (first|exact (Kd.C_below HR253.out HB.out)|(with_reducible first|apply Kd.C_alloc|apply Kd.C_drewN|apply Kd.C_drew)))
         (case side2=>exact HC253.out)
         rintro e w49 ⟨v255,rfl,ho0,hb⟩
         refine ⟨_,rfl,?_⟩
         have n0_:=Aside0.mk (Kd.S_elder' (by (with_reducible repeat (first|apply Kd.S_alloc|apply Kd.S_drewN|apply Kd.S_drew));exact HO252.out) (Kd.R_base ho0) hb)
         have n1_:=Aside0.mk (Kd.R_lower ho0 (below_size (by repeat (first|(with_reducible first|exact HB.out|apply below_alloc|apply pw_below_drewN|apply below_drew1|refine below_set ?_ GE246.out|refine below_set ?_ GE247.out|refine below_set ?_ GE257.out)|exact HB.out))))
         have n2_:=Aside0.mk (blk_below (g:=gb246) (o:=.cells #[.slice (some ad249) l0_0.length c0_0,.int .i64 a0_1,.bool a0_2,.int .i64 a0_3] 45 (0,0)) (by (with_reducible repeat first|apply blk_drewN|apply blk_drew|apply blk_alloc);exact BK246.out) hb)
         have n3_:=Aside0.mk (blk_below (g:=gb247) (o:=.cells #[.slice none 0 0,.slice none 0 0,.slice none 0 0,.slice none 0 0] 29 (0,0)) (by (with_reducible repeat first|apply blk_drewN|apply blk_drew|apply blk_alloc);exact BK247.out) hb)
         have n4_:=Aside0.mk (blk_below (g:=gb257) (o:=.cells #[.slice none 0 0,.slice none 0 0,.slice none 0 0,.slice none 0 0] 29 (0,0)) (by (with_reducible repeat first|apply blk_drewN|apply blk_drew|apply blk_alloc);exact BK257.out) hb)
         have n5_:=Aside0.mk (below_step (by repeat (first|(with_reducible first|exact HB.out|apply below_alloc|apply pw_below_drewN|apply below_drew1|refine below_set ?_ GE246.out|refine below_set ?_ GE247.out|refine below_set ?_ GE257.out)|exact HB.out)) hb)
         clear HO252
         clear BK246
         clear BK247
         clear BK257
         clear HB
         have HO252:=n0_
         have HO256:=n1_
         have BK246:=n2_
         have BK247:=n3_
         have BK257:=n4_
         have HB:=n5_
         clear n0_ n1_ n2_ n3_ n4_ n5_
         (try clear hb)
         (try clear hb2)
         (try clear hk)
         (try clear hi)
         (try clear ho0)
         obtain ⟨Ao50,co50,eo50⟩:=Kd.R_slice HO256.out
         (first|subst eo50|(injection eo50 with f1_ f2_ f3_;have f4_:=f1_.symm;have f5_:=f3_.symm;clear f1_ f2_ f3_;subst f4_;subst f5_))
         obtain ⟨Ao51,co51,eo51⟩:=Kd.S_slice HO252.out
         (first|subst eo51|(injection eo51 with f1_ f2_ f3_;have f4_:=f1_.symm;have f5_:=f3_.symm;clear f1_ f2_ f3_;subst f4_;subst f5_))
         refine hK.out _ _ ⟨(blk_cell BK246.out 0).trans rfl,(blk_cell BK246.out 1).trans rfl,(blk_cell BK246.out 2).trans rfl,(blk_cell BK246.out 3).trans rfl⟩ (fun hHeld=>?_)
         clear hK K
         refine norm_ (a':=?_) ?_ ?_
         rotate_left
         ·show Act.put _ (some 19) _ = _
          simp only [Act.put,List.setIfInBounds_toArray,List.set_cons_zero,List.set_cons_succ,i64_w,i32_w]
          rfl
         refine pure_ (i:=6) (N:=some 20) (v:=?_) (a':=?_) #[true,true,true,true,true,true,true,true,false] rfl rfl (any_of HT_.out (by kernel_rfl)) (fun _ _ _ h=>h) (Or.inl ⟨by rfl,?_⟩) ?_ ?_
         rotate_left
         ·intro w'
          go_simp
          with_reducible rfl
         rotate_left
         ·simp only [Act.put,List.setIfInBounds_toArray,List.set_cons_zero,List.set_cons_succ,i64_w,i32_w]
          rfl
         exact norm_ (by simp only [putAll,Act.put,List.setIfInBounds_toArray,List.set_cons_zero,List.set_cons_succ]) (hCont (.slice Ao51 t250.length co51,.slice Ao50 t254.length co50,gb257) _ ⟨hHeld,(by (with_reducible repeat (first|apply Kd.S_alloc|apply Kd.S_drewN|apply Kd.S_drew));exact Kd.S_mono HO252.out (fun _ hk=>hk.2)),(by (with_reducible repeat (first|apply Kd.R_alloc|apply Kd.R_drewN|apply Kd.R_drew));exact HO256.out),(by (with_reducible repeat first|apply blk_drewN|apply blk_drew|apply blk_alloc);exact BK246.out),(by (with_reducible repeat first|apply blk_drewN|apply blk_drew|apply blk_alloc);exact BK247.out),(by (with_reducible repeat first|apply blk_drewN|apply blk_drew|apply blk_alloc);exact BK257.out),GW257.out,GE257.out,NB246_257.out,NB257_246.out,NB247_257.out,NB257_247.out,(by repeat (first|(with_reducible first|exact HB.out|apply below_alloc|apply pw_below_drewN|apply below_drew1|refine below_set ?_ GE246.out|refine below_set ?_ GE247.out|refine below_set ?_ GE257.out)|exact HB.out))⟩)
       ·skip
        refine box_step ?hg (N:=5) ?hd (cs:=#[.slice none 0 0,.slice none 0 0,.slice none 0 0,.slice none 0 0]) (t:=29) ?hr ?_;(case hd=>rfl);(case hg=>rfl);(case hr=>first|(go_simp;done)|(go_simp;rfl))
        intro gb257 hg w47 hbox hb
        have n0_:=Aside0.mk (blk_below (g:=gb246) (o:=.cells #[.slice (some ad249) l0_0.length c0_0,.int .i64 a0_1,.bool a0_2,.int .i64 a0_3] 45 (0,0)) (by (with_reducible repeat first|apply blk_drewN|apply blk_drew|apply blk_alloc);exact BK246.out) hb)
        have n1_:=Aside0.mk (blk_below (g:=gb247) (o:=.cells #[.slice none 0 0,.slice none 0 0,.slice none 0 0,.slice none 0 0] 29 (0,0)) (by (with_reducible repeat first|apply blk_drewN|apply blk_drew|apply blk_alloc);exact BK247.out) hb)
        have n2_:=Aside0.mk (below_step (by repeat (first|(with_reducible first|exact HB.out|apply below_alloc|apply pw_below_drewN|apply below_drew1|refine below_set ?_ GE246.out|refine below_set ?_ GE247.out)|exact HB.out)) hb)
        have n3_:=Aside0.mk (hbox)
        have n4_:=Aside0.mk ((by rw [hg];exact (below_size (by repeat (first|(with_reducible first|exact HB.out|apply below_alloc|apply pw_below_drewN|apply below_drew1|refine below_set ?_ GE246.out|refine below_set ?_ GE247.out)|exact HB.out))) : w.heap.size ≤ gb257))
        have n5_:=Aside0.mk ((by rw [hg];exact (below_size (by repeat (first|(with_reducible first|exact HB.out|apply below_alloc|apply pw_below_drewN|apply below_drew1|refine below_set ?_ GE246.out|refine below_set ?_ GE247.out)|exact HB.out))) : w.heap.size ≤ gb257))
        have n6_:=Aside0.mk ((by rw [hg];exact Nat.ne_of_lt (blk_lt (g:=gb246) (o:=.cells #[.slice (some ad249) l0_0.length c0_0,.int .i64 a0_1,.bool a0_2,.int .i64 a0_3] 45 (0,0)) (by (with_reducible repeat first|apply blk_drewN|apply blk_drew|apply blk_alloc);exact BK246.out)) : gb246 ≠ gb257))
        have n7_:=Aside0.mk ((by rw [hg];exact Nat.ne_of_gt (blk_lt (g:=gb246) (o:=.cells #[.slice (some ad249) l0_0.length c0_0,.int .i64 a0_1,.bool a0_2,.int .i64 a0_3] 45 (0,0)) (by (with_reducible repeat first|apply blk_drewN|apply blk_drew|apply blk_alloc);exact BK246.out)) : gb257 ≠ gb246))
        have n8_:=Aside0.mk ((by rw [hg];exact Nat.ne_of_lt (blk_lt (g:=gb247) (o:=.cells #[.slice none 0 0,.slice none 0 0,.slice none 0 0,.slice none 0 0] 29 (0,0)) (by (with_reducible repeat first|apply blk_drewN|apply blk_drew|apply blk_alloc);exact BK247.out)) : gb247 ≠ gb257))
        have n9_:=Aside0.mk ((by rw [hg];exact Nat.ne_of_gt (blk_lt (g:=gb247) (o:=.cells #[.slice none 0 0,.slice none 0 0,.slice none 0 0,.slice none 0 0] 29 (0,0)) (by (with_reducible repeat first|apply blk_drewN|apply blk_drew|apply blk_alloc);exact BK247.out)) : gb257 ≠ gb247))
        clear BK246
        clear BK247
        clear HB
        have BK246:=n0_
        have BK247:=n1_
        have HB:=n2_
        have BK257:=n3_
        have GW257:=n4_
        have GE257:=n5_
        have NB246_257:=n6_
        have NB257_246:=n7_
        have NB247_257:=n8_
        have NB257_247:=n9_
        clear n0_ n1_ n2_ n3_ n4_ n5_ n6_ n7_ n8_ n9_
        clear hb hbox hg
        refine hK.out _ _ ⟨(blk_cell BK246.out 0).trans rfl,(blk_cell BK246.out 1).trans rfl,(blk_cell BK246.out 2).trans rfl,(blk_cell BK246.out 3).trans rfl⟩ (fun hHeld=>?_)
        clear hK K
        refine norm_ (a':=?_) ?_ ?_
        rotate_left
        ·show Act.put _ (some 5) _ = _
         simp only [Act.put,List.setIfInBounds_toArray,List.set_cons_zero,List.set_cons_succ,i64_w,i32_w]
         rfl
        refine one_ (i:=2) (N:=some 16) #[true,true,true,true,true,false,false,true,false] rfl rfl (one_of HT_.out (by kernel_rfl)) (by decide) (fun K hK=>?_)
        refine goes_ Try.func59 (by kernel_rfl) rfl #[.slice (some ad249) l0_0.length c0_0] (by rfl) rfl rfl (by (try simp only [List.map_toArray,List.map_cons,List.map_nil]);first|done|rfl|(simp only [List.length_drop,List.length_take];rfl)) ?_
        with_reducible refine (impl_copyBlocks.calls k _ _ l0_0 t250 _ ?side1 ?side2 A5.out).mono ?_
        (case side1=>repeat (first|exact (Kd.C_below HR0_0.out HB.out)|(with_reducible first|apply Kd.C_alloc|apply Kd.C_drewN|apply Kd.C_drew)))
        (case side2=>exact HC0_0.out)
        rintro e w48 ⟨v251,rfl,ho0,hb⟩
        refine ⟨_,rfl,?_⟩
        have n0_:=Aside0.mk (Kd.S_lower ho0 (below_size (by repeat (first|(with_reducible first|exact HB.out|apply below_alloc|apply pw_below_drewN|apply below_drew1|refine below_set ?_ GE246.out|refine below_set ?_ GE247.out|refine below_set ?_ GE257.out)|exact HB.out))))
        have n1_:=Aside0.mk (blk_below (g:=gb246) (o:=.cells #[.slice (some ad249) l0_0.length c0_0,.int .i64 a0_1,.bool a0_2,.int .i64 a0_3] 45 (0,0)) (by (with_reducible repeat first|apply blk_drewN|apply blk_drew|apply blk_alloc);exact BK246.out) hb)
        have n2_:=Aside0.mk (blk_below (g:=gb247) (o:=.cells #[.slice none 0 0,.slice none 0 0,.slice none 0 0,.slice none 0 0] 29 (0,0)) (by (with_reducible repeat first|apply blk_drewN|apply blk_drew|apply blk_alloc);exact BK247.out) hb)
        have n3_:=Aside0.mk (blk_below (g:=gb257) (o:=.cells #[.slice none 0 0,.slice none 0 0,.slice none 0 0,.slice none 0 0] 29 (0,0)) (by (with_reducible repeat first|apply blk_drewN|apply blk_drew|apply blk_alloc);exact BK257.out) hb)
        have n4_:=Aside0.mk (below_step (by repeat (first|(with_reducible first|exact HB.out|apply below_alloc|apply pw_below_drewN|apply below_drew1|refine below_set ?_ GE246.out|refine below_set ?_ GE247.out|refine below_set ?_ GE257.out)|exact HB.out)) hb)
        clear BK246
        clear BK247
        clear BK257
        clear HB
        have HO252:=n0_
        have BK246:=n1_
        have BK247:=n2_
        have BK257:=n3_
        have HB:=n4_
        clear n0_ n1_ n2_ n3_ n4_
        (try clear hb)
        (try clear hb2)
        (try clear hk)
        (try clear hi)
        (try clear ho0)
        refine hK.out _ _ ⟨(blk_cell BK246.out 0).trans rfl,(blk_cell BK246.out 1).trans rfl,(blk_cell BK246.out 2).trans rfl,(blk_cell BK246.out 3).trans rfl⟩ (fun hHeld=>?_)
        clear hK K
        refine norm_ (a':=?_) ?_ ?_
        rotate_left
        ·show Act.put _ (some 16) _ = _
         simp only [Act.put,List.setIfInBounds_toArray,List.set_cons_zero,List.set_cons_succ,i64_w,i32_w]
         rfl
        refine one_ (i:=5) (N:=some 19) #[true,true,true,true,true,true,false,true,false] rfl rfl (one_of HT_.out (by kernel_rfl)) (by decide) (fun K hK=>?_)
        refine goes_ Try.func60 (by kernel_rfl) rfl #[.slice A249_0 ((rd_L2 l0_0 1).take 20).length c249_0] (by rfl) rfl rfl (by (try simp only [List.map_toArray,List.map_cons,List.map_nil]);first|done|(rw [show ((rd_L2 l0_0 1).take 20).length = 20 from (by rw [List.length_take];have h_ : (20 : Int) ≤ ((rd_L2 l0_0 1).length : Int):=of_decide_eq_true (by assumption);omega)] <;> rfl)|rfl|(simp only [List.length_drop,List.length_take];rfl)) ?_
        with_reducible refine (slices_Clone_byte_byte.calls _ _ ((rd_L2 l0_0 1).take 20) t254 _ ?side1 ?side2 A7.out).mono ?_
        (case side1=>repeat (first|exact (Kd.C_below HR253.out HB.out)|(with_reducible first|apply Kd.C_alloc|apply Kd.C_drewN|apply Kd.C_drew)))
        (case side2=>exact HC253.out)
        rintro e w49 ⟨v255,rfl,ho0,hb⟩
        refine ⟨_,rfl,?_⟩
        have n0_:=Aside0.mk (Kd.S_elder' (by (with_reducible repeat (first|apply Kd.S_alloc|apply Kd.S_drewN|apply Kd.S_drew));exact HO252.out) (Kd.R_base ho0) hb)
        have n1_:=Aside0.mk (Kd.R_lower ho0 (below_size (by repeat (first|(with_reducible first|exact HB.out|apply below_alloc|apply pw_below_drewN|apply below_drew1|refine below_set ?_ GE246.out|refine below_set ?_ GE247.out|refine below_set ?_ GE257.out)|exact HB.out))))
        have n2_:=Aside0.mk (blk_below (g:=gb246) (o:=.cells #[.slice (some ad249) l0_0.length c0_0,.int .i64 a0_1,.bool a0_2,.int .i64 a0_3] 45 (0,0)) (by (with_reducible repeat first|apply blk_drewN|apply blk_drew|apply blk_alloc);exact BK246.out) hb)
        have n3_:=Aside0.mk (blk_below (g:=gb247) (o:=.cells #[.slice none 0 0,.slice none 0 0,.slice none 0 0,.slice none 0 0] 29 (0,0)) (by (with_reducible repeat first|apply blk_drewN|apply blk_drew|apply blk_alloc);exact BK247.out) hb)
        have n4_:=Aside0.mk (blk_below (g:=gb257) (o:=.cells #[.slice none 0 0,.slice none 0 0,.slice none 0 0,.slice none 0 0] 29 (0,0)) (by (with_reducible repeat first|apply blk_drewN|apply blk_drew|apply blk_alloc);exact BK257.out) hb)
        have n5_:=Aside0.mk (below_step (by repeat (first|(with_reducible first|exact HB.out|apply below_alloc|apply pw_below_drewN|apply below_drew1|refine below_set ?_ GE246.out|refine below_set ?_ GE247.out|refine below_set ?_ GE257.out)|exact HB.out)) hb)
        clear HO252
        clear BK246
        clear BK247
        clear BK257
        clear HB
        have HO252:=n0_
        have HO256:=n1_
        have BK246:=n2_
        have BK247:=n3_
        have BK257:=n4_
        have HB:=n5_
        clear n0_ n1_ n2_ n3_ n4_ n5_
        (try clear hb)
        (try clear hb2)
        (try clear hk)
        (try clear hi)
        (try clear ho0)
        obtain ⟨Ao50,co50,eo50⟩:=Kd.R_slice HO256.out
        (first|subst eo50|(injection eo50 with f1_ f2_ f3_;have f4_:=f1_.symm;have f5_:=f3_.symm;clear f1_ f2_ f3_;subst f4_;subst f5_))
        obtain ⟨Ao51,co51,eo51⟩:=Kd.S_slice HO252.out
        (first|subst eo51|(injection eo51 with f1_ f2_ f3_;have f4_:=f1_.symm;have f5_:=f3_.symm;clear f1_ f2_ f3_;subst f4_;subst f5_))
        refine hK.out _ _ ⟨(blk_cell BK246.out 0).trans rfl,(blk_cell BK246.out 1).trans rfl,(blk_cell BK246.out 2).trans rfl,(blk_cell BK246.out 3).trans rfl⟩ (fun hHeld=>?_)
        clear hK K
        refine norm_ (a':=?_) ?_ ?_
        rotate_left
        ·show Act.put _ (some 19) _ = _
         simp only [Act.put,List.setIfInBounds_toArray,List.set_cons_zero,List.set_cons_succ,i64_w,i32_w]
         rfl
        refine pure_ (i:=6) (N:=some 20) (v:=?_) (a':=?_) #[true,true,true,true,true,true,true,true,false] rfl rfl (any_of HT_.out (by kernel_rfl)) (fun _ _ _ h=>h) (Or.inl ⟨by rfl,?_⟩) ?_ ?_
        rotate_left
        ·intro w'
         go_simp
         with_reducible rfl
        rotate_left
        ·simp only [Act.put,List.setIfInBounds_toArray,List.set_cons_zero,List.set_cons_succ,i64_w,i32_w]
         rfl
        exact norm_ (by simp only [putAll,Act.put,List.setIfInBounds_toArray,List.set_cons_zero,List.set_cons_succ]) (hCont (.slice Ao51 t250.length co51,.slice Ao50 t254.length co50,gb257) _ ⟨hHeld,(by (with_reducible repeat (first|apply Kd.S_alloc|apply Kd.S_drewN|apply Kd.S_drew));exact Kd.S_mono HO252.out (fun _ hk=>hk.2)),(by (with_reducible repeat (first|apply Kd.R_alloc|apply Kd.R_drewN|apply Kd.R_drew));exact HO256.out),(by (with_reducible repeat first|apply blk_drewN|apply blk_drew|apply blk_alloc);exact BK246.out),(by (with_reducible repeat first|apply blk_drewN|apply blk_drew|apply blk_alloc);exact BK247.out),(by (with_reducible repeat first|apply blk_drewN|apply blk_drew|apply blk_alloc);exact BK257.out),GW257.out,GE257.out,NB246_257.out,NB257_246.out,NB247_257.out,NB257_247.out,(by repeat (first|(with_reducible first|exact HB.out|apply below_alloc|apply pw_below_drewN|apply below_drew1|refine below_set ?_ GE246.out|refine below_set ?_ GE247.out|refine below_set ?_ GE257.out)|exact HB.out))⟩)
      rintro ⟨v251,v255,gb257⟩ w52 ⟨hS_,h0_,h1_,h2_,h3_,h4_,h5_,h6_,h7_,h8_,h9_,h10_,h11_⟩
      have n0_ : Aside0 (Kd.S (Kd.slice 5 (Kd.int .u8)) 23 w52 w.heap.size (fun k_=>some k_ ≠ (v255 : Value).ownBlock) v251 t250):=⟨h0_⟩
      have n1_ : Aside0 (Kd.R (Kd.int .u8) 5 w52 w.heap.size (fun _=>True) v255 t254):=⟨h1_⟩
      have n2_ : Aside0 (w52.heap[gb246]? = some (.cells #[.slice (some ad249) l0_0.length c0_0,.int .i64 a0_1,.bool a0_2,.int .i64 a0_3] 45 (0,0))):=⟨h2_⟩
      have n3_ : Aside0 (w52.heap[gb247]? = some (.cells #[.slice none 0 0,.slice none 0 0,.slice none 0 0,.slice none 0 0] 29 (0,0))):=⟨h3_⟩
      have n4_ : Aside0 (w52.heap[gb257]? = some (.cells #[.slice none 0 0,.slice none 0 0,.slice none 0 0,.slice none 0 0] 29 (0,0))):=⟨h4_⟩
      have n5_ : Aside0 (w.heap.size ≤ gb257):=⟨h5_⟩
      have n6_ : Aside0 (w.heap.size ≤ gb257):=⟨h6_⟩
      have n7_ : Aside0 (gb246 ≠ gb257):=⟨h7_⟩
      have n8_ : Aside0 (gb257 ≠ gb246):=⟨h8_⟩
      have n9_ : Aside0 (gb247 ≠ gb257):=⟨h9_⟩
      have n10_ : Aside0 (gb257 ≠ gb247):=⟨h10_⟩
      have n11_ : Aside0 (Below w.heap.size w w52):=⟨h11_⟩
      clear BK246
      clear BK247
      clear HB
      clear h0_ h1_ h2_ h3_ h4_ h5_ h6_ h7_ h8_ h9_ h10_ h11_
      have HO252:=n0_
      have HO256:=n1_
      have BK246:=n2_
      have BK247:=n3_
      have BK257:=n4_
      have GW257:=n5_
      have GE257:=n6_
      have NB246_257:=n7_
      have NB257_246:=n8_
      have NB247_257:=n9_
      have NB257_247:=n10_
      have HB:=n11_
      clear n0_ n1_ n2_ n3_ n4_ n5_ n6_ n7_ n8_ n9_ n10_ n11_
      have hHeld : w52.cell? ⟨gb246,0,none⟩ = some (.slice (some ad249) l0_0.length c0_0)∧w52.cell? ⟨gb246,1,none⟩ = some (.int .i64 a0_1)∧w52.cell? ⟨gb246,2,none⟩ = some (.bool a0_2)∧w52.cell? ⟨gb246,3,none⟩ = some (.int .i64 a0_3):=hS_
      obtain ⟨Ao53,co53,eo53⟩:=Kd.R_slice HO256.out
      (first|subst eo53|(injection eo53 with f1_ f2_ f3_;have f4_:=f1_.symm;have f5_:=f3_.symm;clear f1_ f2_ f3_;subst f4_;subst f5_))
      obtain ⟨Ao54,co54,eo54⟩:=Kd.S_slice HO252.out
      (first|subst eo54|(injection eo54 with f1_ f2_ f3_;have f4_:=f1_.symm;have f5_:=f3_.symm;clear f1_ f2_ f3_;subst f4_;subst f5_))
      refine norm_ (a':=?_) ?_ ?_
      rotate_left
      ·simp only [putAll,Act.put,List.setIfInBounds_toArray,List.set_cons_zero,List.set_cons_succ]
       rfl
      refine one_ (i:=8) (N:=none) #[true,true,true,true,true,true,true,true,true] rfl rfl (one_of HT_.out (by kernel_rfl)) (by decide) (fun K hK=>?_)
      have hs55 : w52.cell? ⟨gb257,0,none⟩ = some (.slice none 0 0):=(blk_cell BK257.out 0).trans rfl
      have hfs55:=blk_frozen BK257.out 0
      have hns55_0:=NB246_257.out
      have hns55_1:=NB247_257.out
      have hms55_0:=NB257_246.out
      have hms55_1:=NB257_247.out
      have hs56 : w52.cell? ⟨gb257,1,none⟩ = some (.slice none 0 0):=(blk_cell BK257.out 1).trans rfl
      have hfs56:=blk_frozen BK257.out 1
      have hns56_0:=NB246_257.out
      have hns56_1:=NB247_257.out
      have hms56_0:=NB257_246.out
      have hms56_1:=NB257_247.out
      have hs57 : w52.cell? ⟨gb257,2,none⟩ = some (.slice none 0 0):=(blk_cell BK257.out 2).trans rfl
      have hfs57:=blk_frozen BK257.out 2
      have hns57_0:=NB246_257.out
      have hns57_1:=NB247_257.out
      have hms57_0:=NB257_246.out
      have hms57_1:=NB257_247.out
      have hs58 : w52.cell? ⟨gb257,3,none⟩ = some (.slice none 0 0):=(blk_cell BK257.out 3).trans rfl
      have hfs58:=blk_frozen BK257.out 3
      have hns58_0:=NB246_257.out
      have hns58_1:=NB247_257.out
      have hms58_0:=NB257_246.out
      have hms58_1:=NB257_247.out
      refine skip_ (w1:=?_) (by rfl) rfl ?_ ?_
      rotate_left
      ·go_simp
       rfl
      refine hK.out _ _ ⟨((cell_far (p:=⟨gb257,_,none⟩) NB246_257.out _).trans (((cell_far (p:=⟨gb257,_,none⟩) NB246_257.out _).trans (((cell_far (p:=⟨gb257,_,none⟩) NB246_257.out _).trans (((cell_far (p:=⟨gb257,_,none⟩) NB246_257.out _).trans (hHeld.1)))))))),((cell_far (p:=⟨gb257,_,none⟩) NB246_257.out _).trans (((cell_far (p:=⟨gb257,_,none⟩) NB246_257.out _).trans (((cell_far (p:=⟨gb257,_,none⟩) NB246_257.out _).trans (((cell_far (p:=⟨gb257,_,none⟩) NB246_257.out _).trans (hHeld.2.1)))))))),((cell_far (p:=⟨gb257,_,none⟩) NB246_257.out _).trans (((cell_far (p:=⟨gb257,_,none⟩) NB246_257.out _).trans (((cell_far (p:=⟨gb257,_,none⟩) NB246_257.out _).trans (((cell_far (p:=⟨gb257,_,none⟩) NB246_257.out _).trans (hHeld.2.2.1)))))))),((cell_far (p:=⟨gb257,_,none⟩) NB246_257.out _).trans (((cell_far (p:=⟨gb257,_,none⟩) NB246_257.out _).trans (((cell_far (p:=⟨gb257,_,none⟩) NB246_257.out _).trans (((cell_far (p:=⟨gb257,_,none⟩) NB246_257.out _).trans (hHeld.2.2.2))))))))⟩ (fun hHeld=>?_)
      clear hK K
      refine done_ (done_of HT_.out (by kernel_rfl)) ?_
      have hnb59:=NB257_246.out
      have hnc59:=NB246_257.out
      have hnb60:=NB257_247.out
      have hnc60:=NB247_257.out
      have hcz61_0 : w52.cell? ⟨gb257,0,none⟩ = some (.slice none 0 0):=(blk_cell BK257.out 0).trans rfl
      have hcz61_1 : w52.cell? ⟨gb257,1,none⟩ = some (.slice none 0 0):=(blk_cell BK257.out 1).trans rfl
      have hcz61_2 : w52.cell? ⟨gb257,2,none⟩ = some (.slice none 0 0):=(blk_cell BK257.out 2).trans rfl
      have hcz61_3 : w52.cell? ⟨gb257,3,none⟩ = some (.slice none 0 0):=(blk_cell BK257.out 3).trans rfl
      have hfz61_0:=blk_frozen BK257.out 0
      have hfz61_1:=blk_frozen BK257.out 1
      have hfz61_2:=blk_frozen BK257.out 2
      have hfz61_3:=blk_frozen BK257.out 3
      try go_wp2_with (first|((with_reducible refine gate_callee (f:=13) rfl ?_);refine goesL_ (some 22) rfl rfl Try.func13 (by kernel_rfl) rfl #[.agg #[.slice Ao54 t250.length co54,.slice Ao53 t254.length co53,.slice none 0 0,.slice none 0 0]] rfl (by (try simp only [List.map_toArray,List.map_cons,List.map_nil]);first|done|rfl|(simp only [List.length_drop,List.length_take];rfl)) ?_;(refine (impl_GoodSpace.calls k _ _ t250 _ _ t254 _ _ ([] : List Int) _ _ ([] : List Int) true _ ?side1 ?side2 ?side3 ?side4 ?side5 ?side6 ?side7 ?side8 A8.out).mono ?_);(case side1=>refine (Kd.S_reads' (e:=23) (base:=w.heap.size) (ok:=fun k_=>some k_ ≠ (.slice Ao53 t254.length co53 : Value).ownBlock) (n:=t250.length) (c:=co54) ?_).2.2;exact (by (with_reducible repeat (first|apply Kd.S_alloc|apply Kd.S_drewN|apply Kd.S_drew));exact (Kd.S_mono (Kd.S_far (p:=⟨gb257,3,none⟩) (Kd.S_far (p:=⟨gb257,2,none⟩) (Kd.S_far (p:=⟨gb257,1,none⟩) (Kd.S_far (p:=⟨gb257,0,none⟩) (Kd.S_types HO252.out BK257.out (by decide)) (fun _ hk=>hk.2) (.slice Ao54 t250.length co54)) (fun _ hk=>hk.2) (.slice Ao53 t254.length co53)) (fun _ hk=>hk.2) (.slice none 0 0)) (fun _ hk=>hk.2) (.slice none 0 0)) (fun _ h_=>h_.1))));(case side2=>exact (Kd.S_reads' HO252.out).2.1);(case side3=>refine (Kd.R_reads' (e:=5) (base:=w.heap.size) (ok:=fun k_=>True) (n:=t254.length) (c:=co53) ?_).2.2;exact (by (with_reducible repeat (first|apply Kd.R_alloc|apply Kd.R_drewN|apply Kd.R_drew));exact (Kd.R_mono (Kd.R_far (p:=⟨gb257,3,none⟩) (Kd.R_far (p:=⟨gb257,2,none⟩) (Kd.R_far (p:=⟨gb257,1,none⟩) (Kd.R_far (p:=⟨gb257,0,none⟩) (Kd.R_types HO256.out BK257.out (by decide)) (fun _ hk=>hk.2) (.slice Ao54 t250.length co54)) (fun _ hk=>hk.2) (.slice Ao53 t254.length co53)) (fun _ hk=>hk.2) (.slice none 0 0)) (fun _ hk=>hk.2) (.slice none 0 0)) (fun _ h_=>h_.1))));(case side4=>exact (Kd.R_reads' HO256.out).2.1);(case side5=>exact Kd.C_nil _ _);(case side6=>exact Nat.le_refl _);(case side7=>exact Kd.C_nil _ _);(case side8=>exact Nat.le_refl _);rintro e w62 ⟨rfl,hb⟩;refine ⟨_,rfl,?_⟩;have n0_:=Aside0.mk (Kd.S_below (by (with_reducible repeat (first|apply Kd.S_alloc|apply Kd.S_drewN|apply Kd.S_drew));exact (Kd.S_mono (Kd.S_far (p:=⟨gb257,3,none⟩) (Kd.S_far (p:=⟨gb257,2,none⟩) (Kd.S_far (p:=⟨gb257,1,none⟩) (Kd.S_far (p:=⟨gb257,0,none⟩) (Kd.S_types HO252.out BK257.out (by decide)) (fun _ hk=>hk.2) (.slice Ao54 t250.length co54)) (fun _ hk=>hk.2) (.slice Ao53 t254.length co53)) (fun _ hk=>hk.2) (.slice none 0 0)) (fun _ hk=>hk.2) (.slice none 0 0)) (fun _ h_=>h_.1))) hb);have n1_:=Aside0.mk (Kd.R_below (by (with_reducible repeat (first|apply Kd.R_alloc|apply Kd.R_drewN|apply Kd.R_drew));exact (Kd.R_mono (Kd.R_far (p:=⟨gb257,3,none⟩) (Kd.R_far (p:=⟨gb257,2,none⟩) (Kd.R_far (p:=⟨gb257,1,none⟩) (Kd.R_far (p:=⟨gb257,0,none⟩) (Kd.R_types HO256.out BK257.out (by decide)) (fun _ hk=>hk.2) (.slice Ao54 t250.length co54)) (fun _ hk=>hk.2) (.slice Ao53 t254.length co53)) (fun _ hk=>hk.2) (.slice none 0 0)) (fun _ hk=>hk.2) (.slice none 0 0)) (fun _ h_=>h_.1))) hb);have n2_:=Aside0.mk (blk_below (g:=gb246) (o:=.cells #[.slice (some ad249) l0_0.length c0_0,.int .i64 a0_1,.bool a0_2,.int .i64 a0_3] 45 (0,0)) (by (with_reducible repeat first|apply blk_drewN|apply blk_drew|apply blk_alloc);refine blk_far ?_ NB246_257.out _;(with_reducible repeat first|apply blk_drewN|apply blk_drew|apply blk_alloc);refine blk_far ?_ NB246_257.out _;(with_reducible repeat first|apply blk_drewN|apply blk_drew|apply blk_alloc);refine blk_far ?_ NB246_257.out _;(with_reducible repeat first|apply blk_drewN|apply blk_drew|apply blk_alloc);refine blk_far ?_ NB246_257.out _;(with_reducible repeat first|apply blk_drewN|apply blk_drew|apply blk_alloc);exact BK246.out) hb);have n3_:=Aside0.mk (blk_below (g:=gb247) (o:=.cells #[.slice none 0 0,.slice none 0 0,.slice none 0 0,.slice none 0 0] 29 (0,0)) (by (with_reducible repeat first|apply blk_drewN|apply blk_drew|apply blk_alloc);refine blk_far ?_ NB247_257.out _;(with_reducible repeat first|apply blk_drewN|apply blk_drew|apply blk_alloc);refine blk_far ?_ NB247_257.out _;(with_reducible repeat first|apply blk_drewN|apply blk_drew|apply blk_alloc);refine blk_far ?_ NB247_257.out _;(with_reducible repeat first|apply blk_drewN|apply blk_drew|apply blk_alloc);refine blk_far ?_ NB247_257.out _;(with_reducible repeat first|apply blk_drewN|apply blk_drew|apply blk_alloc);exact BK247.out) hb);have n4_:=Aside0.mk (blk_below (g:=gb257) (o:=.cells #[.slice Ao54 t250.length co54,.slice Ao53 t254.length co53,.slice none 0 0,.slice none 0 0] 29 (0,0)) (by (with_reducible repeat first|apply blk_drewN|apply blk_drew|apply blk_alloc);refine blk_put (cs:=#[.slice Ao54 t250.length co54,.slice Ao53 t254.length co53,.slice none 0 0,.slice none 0 0]) ?_ 3 _ rfl;(with_reducible repeat first|apply blk_drewN|apply blk_drew|apply blk_alloc);refine blk_put (cs:=#[.slice Ao54 t250.length co54,.slice Ao53 t254.length co53,.slice none 0 0,.slice none 0 0]) ?_ 2 _ rfl;(with_reducible repeat first|apply blk_drewN|apply blk_drew|apply blk_alloc);refine blk_put (cs:=#[.slice Ao54 t250.length co54,.slice none 0 0,.slice none 0 0,.slice none 0 0]) ?_ 1 _ rfl;(with_reducible repeat first|apply blk_drewN|apply blk_drew|apply blk_alloc);refine blk_put (cs:=#[.slice none 0 0,.slice none 0 0,.slice none 0 0,.slice none 0 0]) ?_ 0 _ rfl;(with_reducible repeat first|apply blk_drewN|apply blk_drew|apply blk_alloc);exact BK257.out) hb);have n5_:=Aside0.mk (below_step (by repeat (first|(with_reducible first|exact HB.out|apply below_alloc|apply pw_below_drewN|apply below_drew1|refine below_set ?_ GE246.out|refine below_set ?_ GE247.out|refine below_set ?_ GE257.out)|exact HB.out)) hb);clear HO252;clear HO256;clear BK246;clear BK247;clear BK257;clear HB;have HO252:=n0_;have HO256:=n1_;have BK246:=n2_;have BK247:=n3_;have BK257:=n4_;have HB:=n5_;clear n0_ n1_ n2_ n3_ n4_ n5_;(try clear hb);(try clear hb2);(try clear hk);(try clear hi);obtain ⟨i063,hi063,_,hsz63,_⟩:=info_parts info5;obtain ⟨A63,hcut63,hA63,hC63⟩:=print_drop_of (P:=Try.prog) (Value.int .u8) 0 23 5 .i64 Try.underlying23 hi063 hsz63 A249_0 c249_0 (rd_L2 l0_0 1) 20 (by omega) (of_decide_eq_true (by assumption)) HC249_0.out;have HR259:=Aside0.mk (Kd.C_of_reads (h1:=fun _=>rfl) (hA63 _ (Kd.reads_of_C HR249_0.out)));have HC259:=Aside0.mk hC63;clear hA63 hC63 hi063 hsz63)|(go_at_call 61;refine calls_of_args (args':=#[.slice A63 ((rd_L2 l0_0 1).drop 20).length (c249_0 - 20),.func (.func 62) #[] #[]]) (by first|rfl|(rw [show ((rd_L2 l0_0 1).drop 20).length = ((rd_L2 l0_0 1).length - 20) from List.length_drop] <;> rfl)|(simp only [List.length_drop,List.length_take];done)|(simp only [List.length_drop,List.length_take];rfl)) ?_;(with_reducible refine (slices_ContainsFunc_byte_byte_61.calls k _ _ ((rd_L2 l0_0 1).drop 20) () false _ ?side1 ?side2 A11.out).mono ?_);(case side1=>repeat (first|exact (Kd.C_below HR259.out HB.out)|(with_reducible first|apply Kd.C_alloc|apply Kd.C_drewN|apply Kd.C_drew)));(case side2=>exact HC259.out);rintro e w' ⟨rfl,⟨nd,rfl⟩⟩;(try (rw [drewN_self w62];generalize hq_ : World.drewN w62 _ = w62;have n0_ : Aside0 (Kd.S (Kd.slice 5 (Kd.int .u8)) 23 w62 w.heap.size (fun k_=>some k_ ≠ (.slice Ao53 t254.length co53 : Value).ownBlock) (.slice Ao54 t250.length co54) t250):=⟨by rw [← hq_];exact (by (with_reducible repeat (first|apply Kd.S_alloc|apply Kd.S_drewN|apply Kd.S_drew));exact HO252.out)⟩;have n1_ : Aside0 (Kd.R (Kd.int .u8) 5 w62 w.heap.size (fun _=>True) (.slice Ao53 t254.length co53) t254):=⟨by rw [← hq_];exact (by (with_reducible repeat (first|apply Kd.R_alloc|apply Kd.R_drewN|apply Kd.R_drew));exact HO256.out)⟩;have n2_ : Aside0 (w62.heap[gb246]? = some (.cells #[.slice (some ad249) l0_0.length c0_0,.int .i64 a0_1,.bool a0_2,.int .i64 a0_3] 45 (0,0))):=⟨by rw [← hq_];exact (by (with_reducible repeat first|apply blk_drewN|apply blk_drew|apply blk_alloc);exact BK246.out)⟩;have n3_ : Aside0 (w62.heap[gb247]? = some (.cells #[.slice none 0 0,.slice none 0 0,.slice none 0 0,.slice none 0 0] 29 (0,0))):=⟨by rw [← hq_];exact (by (with_reducible repeat first|apply blk_drewN|apply blk_drew|apply blk_alloc);exact BK247.out)⟩;have n4_ : Aside0 (w62.heap[gb257]? = some (.cells #[.slice Ao54 t250.length co54,.slice Ao53 t254.length co53,.slice none 0 0,.slice none 0 0] 29 (0,0))):=⟨by rw [← hq_];exact (by (with_reducible repeat first|apply blk_drewN|apply blk_drew|apply blk_alloc);exact BK257.out)⟩;have n5_ : Aside0 (Below w.heap.size w w62):=⟨by rw [← hq_];exact (by repeat (first|(with_reducible first|exact HB.out|apply below_alloc|apply pw_below_drewN|apply below_drew1|refine below_set ?_ GE246.out|refine below_set ?_ GE247.out|refine below_set ?_ GE257.out)|exact HB.out))⟩;clear HO252 HO256 BK246 BK247 BK257 HB hq_;have HO252:=n0_;have HO256:=n1_;have BK246:=n2_;have BK247:=n3_;have BK257:=n4_;have HB:=n5_;clear n0_ n1_ n2_ n3_ n4_ n5_));have hcz64_0 : w62.cell? ⟨gb257,0,none⟩ = some (.slice Ao54 t250.length co54):=(blk_cell BK257.out 0).trans rfl;have hcz64_1 : w62.cell? ⟨gb257,1,none⟩ = some (.slice Ao53 t254.length co53):=(blk_cell BK257.out 1).trans rfl;have hcz64_2 : w62.cell? ⟨gb257,2,none⟩ = some (.slice none 0 0):=(blk_cell BK257.out 2).trans rfl;have hcz64_3 : w62.cell? ⟨gb257,3,none⟩ = some (.slice none 0 0):=(blk_cell BK257.out 3).trans rfl;have hfz64_0:=blk_frozen BK257.out 0;have hfz64_1:=blk_frozen BK257.out 1;have hfz64_2:=blk_frozen BK257.out 2;have hfz64_3:=blk_frozen BK257.out 3;have hcz65_0 : w62.cell? ⟨gb247,0,none⟩ = some (.slice none 0 0):=(blk_cell BK247.out 0).trans rfl;have hcz65_1 : w62.cell? ⟨gb247,1,none⟩ = some (.slice none 0 0):=(blk_cell BK247.out 1).trans rfl;have hcz65_2 : w62.cell? ⟨gb247,2,none⟩ = some (.slice none 0 0):=(blk_cell BK247.out 2).trans rfl;have hcz65_3 : w62.cell? ⟨gb247,3,none⟩ = some (.slice none 0 0):=(blk_cell BK247.out 3).trans rfl;have hfz65_0:=blk_frozen BK247.out 0;have hfz65_1:=blk_frozen BK247.out 1;have hfz65_2:=blk_frozen BK247.out 2;have hfz65_3:=blk_frozen BK247.out 3))
      refine bodyPost_ret (results_ct rfl _ _ gb247 29 #[.slice Ao54 t250.length co54,.slice Ao53 t254.length co53,.slice none 0 0,.slice none 0 0] (0,0) _ rfl (by (with_reducible repeat first|apply blk_drewN|apply blk_drew|apply blk_alloc);refine blk_put (cs:=#[.slice Ao54 t250.length co54,.slice Ao53 t254.length co53,.slice none 0 0,.slice none 0 0]) ?_ 3 _ rfl;(with_reducible repeat first|apply blk_drewN|apply blk_drew|apply blk_alloc);refine blk_put (cs:=#[.slice Ao54 t250.length co54,.slice Ao53 t254.length co53,.slice none 0 0,.slice none 0 0]) ?_ 2 _ rfl;(with_reducible repeat first|apply blk_drewN|apply blk_drew|apply blk_alloc);refine blk_put (cs:=#[.slice Ao54 t250.length co54,.slice none 0 0,.slice none 0 0,.slice none 0 0]) ?_ 1 _ rfl;(with_reducible repeat first|apply blk_drewN|apply blk_drew|apply blk_alloc);refine blk_put (cs:=#[.slice none 0 0,.slice none 0 0,.slice none 0 0,.slice none 0 0]) ?_ 0 _ rfl;(with_reducible repeat first|apply blk_drewN|apply blk_drew|apply blk_alloc);exact BK247.out) Try.underlying29 rfl (by kernel_rfl)) rfl ?_
      exact ⟨_,_,_,_,by first|rfl|(simp [*,errW_none,errW_some] <;> rfl),by (with_reducible repeat (first|apply Kd.S_alloc|apply Kd.S_drewN|apply Kd.S_drew));exact Kd.S_mono (Kd.S_far (p:=⟨gb247,3,none⟩) (Kd.S_far (p:=⟨gb247,2,none⟩) (Kd.S_far (p:=⟨gb247,1,none⟩) (Kd.S_far (p:=⟨gb247,0,none⟩) (Kd.S_types HO252.out BK247.out (by decide)) (fun _ hk=>hk.2) (.slice Ao54 t250.length co54)) (fun _ hk=>hk.2) (.slice Ao53 t254.length co53)) (fun _ hk=>hk.2) (.slice none 0 0)) (fun _ hk=>hk.2) (.slice none 0 0)) (fun _ hk=>hk.1),by (with_reducible repeat (first|apply Kd.R_alloc|apply Kd.R_drewN|apply Kd.R_drew));exact Kd.R_mono (Kd.R_far (p:=⟨gb247,3,none⟩) (Kd.R_far (p:=⟨gb247,2,none⟩) (Kd.R_far (p:=⟨gb247,1,none⟩) (Kd.R_far (p:=⟨gb247,0,none⟩) (Kd.R_types HO256.out BK247.out (by decide)) (fun _ hk=>hk.2) (.slice Ao54 t250.length co54)) (fun _ hk=>hk.2) (.slice Ao53 t254.length co53)) (fun _ hk=>hk.2) (.slice none 0 0)) (fun _ hk=>hk.2) (.slice none 0 0)) (fun _ hk=>trivial),by first|exact Kd.R_nil _ _ _ _ _|exact Kd.N_nil _ _ _ _ _|exact Kd.V_nil _ _ _ _ _|exact Kd.Q_nil _ _ _ _ _|exact Kd.S_nil _ _ _ _ _,by first|exact Kd.R_nil _ _ _ _ _|exact Kd.N_nil _ _ _ _ _|exact Kd.V_nil _ _ _ _ _|exact Kd.Q_nil _ _ _ _ _|exact Kd.S_nil _ _ _ _ _,by repeat (first|(with_reducible first|exact HB.out|apply below_alloc|apply pw_below_drewN|apply below_drew1|refine below_set ?_ GE246.out|refine below_set ?_ GE247.out|refine below_set ?_ GE257.out)|exact HB.out)⟩
    ·replace c9:=Bool.eq_false_iff.mpr c9
     subst c9
     have H1 : (some (([] : List (List Int)),([] : List Int),([] : List Int),([] : List Int),false)) = some (r1,r2,r3,r4,r5):=by rw [if_neg (show ¬ (false = true) by decide)] at H;exact H
     clear H
     have H:=H1
     clear H1
     simp only [Option.some.injEq,Prod.mk.injEq] at H
     obtain ⟨rfl,rfl,rfl,rfl,rfl⟩:=H
     go_enter Try.func26,Try.ntmps26
     try go_wp2_with (first|((with_reducible refine gate_dst (N:=1) rfl ?_);refine box_event ?hg (N:=1) ?hd (cs:=#[.slice A0_0 l0_0.length c0_0,.int .i64 a0_1,.bool a0_2,.int .i64 a0_3]) (t:=45) ?hr ?_;(case hd=>rfl);(case hg=>rfl);(case hr=>first|(go_simp;done)|(go_simp;rfl));intro gb246 hg w66 hbox hb;have n0_:=Aside0.mk (below_step (by repeat (first|exact HB.out|apply below_alloc|apply pw_below_drewN|apply below_drew1)) hb);have n1_:=Aside0.mk (hbox);have n2_:=Aside0.mk ((by rw [hg];exact (below_size (by repeat (first|exact HB.out|apply below_alloc|apply pw_below_drewN|apply below_drew1))) : w.heap.size ≤ gb246));have n3_:=Aside0.mk ((by rw [hg];exact (below_size (by repeat (first|exact HB.out|apply below_alloc|apply pw_below_drewN|apply below_drew1))) : w.heap.size ≤ gb246));clear HB;have HB:=n0_;have BK246:=n1_;have GW246:=n2_;have GE246:=n3_;clear n0_ n1_ n2_ n3_;clear hb hbox hg)|((with_reducible refine gate_dst (N:=2) rfl ?_);refine box_event ?hg (N:=2) ?hd (cs:=#[.slice none 0 0,.slice none 0 0,.slice none 0 0,.slice none 0 0]) (t:=29) ?hr ?_;(case hd=>rfl);(case hg=>rfl);(case hr=>first|(go_simp;done)|(go_simp;rfl));intro gb247 hg w67 hbox hb;have n0_:=Aside0.mk (blk_below (g:=gb246) (o:=.cells #[.slice A0_0 l0_0.length c0_0,.int .i64 a0_1,.bool a0_2,.int .i64 a0_3] 45 (0,0)) (by (with_reducible repeat first|apply blk_drewN|apply blk_drew|apply blk_alloc);exact BK246.out) hb);have n1_:=Aside0.mk (below_step (by repeat (first|(with_reducible first|exact HB.out|apply below_alloc|apply pw_below_drewN|apply below_drew1|refine below_set ?_ GE246.out)|exact HB.out)) hb);have n2_:=Aside0.mk (hbox);have n3_:=Aside0.mk ((by rw [hg];exact (below_size (by repeat (first|(with_reducible first|exact HB.out|apply below_alloc|apply pw_below_drewN|apply below_drew1|refine below_set ?_ GE246.out)|exact HB.out))) : w.heap.size ≤ gb247));have n4_:=Aside0.mk ((by rw [hg];exact (below_size (by repeat (first|(with_reducible first|exact HB.out|apply below_alloc|apply pw_below_drewN|apply below_drew1|refine below_set ?_ GE246.out)|exact HB.out))) : w.heap.size ≤ gb247));have n5_:=Aside0.mk ((by rw [hg];exact Nat.ne_of_lt (blk_lt (g:=gb246) (o:=.cells #[.slice A0_0 l0_0.length c0_0,.int .i64 a0_1,.bool a0_2,.int .i64 a0_3] 45 (0,0)) (by (with_reducible repeat first|apply blk_drewN|apply blk_drew|apply blk_alloc);exact BK246.out)) : gb246 ≠ gb247));have n6_:=Aside0.mk ((by rw [hg];exact Nat.ne_of_gt (blk_lt (g:=gb246) (o:=.cells #[.slice A0_0 l0_0.length c0_0,.int .i64 a0_1,.bool a0_2,.int .i64 a0_3] 45 (0,0)) (by (with_reducible repeat first|apply blk_drewN|apply blk_drew|apply blk_alloc);exact BK246.out)) : gb247 ≠ gb246));clear BK246;clear HB;have BK246:=n0_;have HB:=n1_;have BK247:=n2_;have GW247:=n3_;have GE247:=n4_;have NB246_247:=n5_;have NB247_246:=n6_;clear n0_ n1_ n2_ n3_ n4_ n5_ n6_;clear hb hbox hg;have hnb68:=NB246_247.out;have hnc68:=NB247_246.out;have hcz69_0 : w67.cell? ⟨gb246,0,none⟩ = some (.slice A0_0 l0_0.length c0_0):=(blk_cell BK246.out 0).trans rfl;have hcz69_1 : w67.cell? ⟨gb246,1,none⟩ = some (.int .i64 a0_1):=(blk_cell BK246.out 1).trans rfl;have hcz69_2 : w67.cell? ⟨gb246,2,none⟩ = some (.bool a0_2):=(blk_cell BK246.out 2).trans rfl;have hcz69_3 : w67.cell? ⟨gb246,3,none⟩ = some (.int .i64 a0_3):=(blk_cell BK246.out 3).trans rfl;have hfz69_0:=blk_frozen BK246.out 0;have hfz69_1:=blk_frozen BK246.out 1;have hfz69_2:=blk_frozen BK246.out 2;have hfz69_3:=blk_frozen BK246.out 3)|((with_reducible refine gate_callee (f:=58) rfl ?_);refine goesL_ (some 7) rfl rfl Try.func58 (by kernel_rfl) rfl #[.agg #[.slice A0_0 l0_0.length c0_0,.int .i64 a0_1,.bool a0_2,.int .i64 a0_3]] rfl (by (try simp only [List.map_toArray,List.map_cons,List.map_nil]);first|done|rfl|(simp only [List.length_drop,List.length_take];rfl)) ?_;(with_reducible refine (impl_GoodDisk.calls k _ _ l0_0 a0_1 a0_2 a0_3 true _ ?side1 ?side2 A2.out).mono ?_);(case side1=>repeat (first|exact (Kd.C_below HR0_0.out HB.out)|(with_reducible first|apply Kd.C_alloc|apply Kd.C_drewN|apply Kd.C_drew)));(case side2=>exact HC0_0.out);rintro e w70 ⟨rfl,hb⟩;refine ⟨_,rfl,?_⟩;have n0_:=Aside0.mk (blk_below (g:=gb246) (o:=.cells #[.slice A0_0 l0_0.length c0_0,.int .i64 a0_1,.bool a0_2,.int .i64 a0_3] 45 (0,0)) (by (with_reducible repeat first|apply blk_drewN|apply blk_drew|apply blk_alloc);exact BK246.out) hb);have n1_:=Aside0.mk (blk_below (g:=gb247) (o:=.cells #[.slice none 0 0,.slice none 0 0,.slice none 0 0,.slice none 0 0] 29 (0,0)) (by (with_reducible repeat first|apply blk_drewN|apply blk_drew|apply blk_alloc);exact BK247.out) hb);have n2_:=Aside0.mk (below_step (by repeat (first|(with_reducible first|exact HB.out|apply below_alloc|apply pw_below_drewN|apply below_drew1|refine below_set ?_ GE246.out|refine below_set ?_ GE247.out)|exact HB.out)) hb);clear BK246;clear BK247;clear HB;have BK246:=n0_;have BK247:=n1_;have HB:=n2_;clear n0_ n1_ n2_;(try clear hb);(try clear hb2);(try clear hk);(try clear hi);have hcz71_0 : w70.cell? ⟨gb246,0,none⟩ = some (.slice A0_0 l0_0.length c0_0):=(blk_cell BK246.out 0).trans rfl;have hcz71_1 : w70.cell? ⟨gb246,1,none⟩ = some (.int .i64 a0_1):=(blk_cell BK246.out 1).trans rfl;have hcz71_2 : w70.cell? ⟨gb246,2,none⟩ = some (.bool a0_2):=(blk_cell BK246.out 2).trans rfl;have hcz71_3 : w70.cell? ⟨gb246,3,none⟩ = some (.int .i64 a0_3):=(blk_cell BK246.out 3).trans rfl;have hfz71_0:=blk_frozen BK246.out 0;have hfz71_1:=blk_frozen BK246.out 1;have hfz71_2:=blk_frozen BK246.out 2;have hfz71_3:=blk_frozen BK246.out 3;have p249 : 0 ≤ (1 : Int):=(by omega);have q249 : 1 < (l0_0.length : Int):=of_decide_eq_true (by assumption);obtain ⟨ad249,A249_0,c249_0,e249,hx249_0,hl249_0,hi249_0⟩:=at_L2 HR0_0.out 1 p249 q249;cases e249;(try simp only [show (1 : Int).toNat = 1 from rfl,Nat.reduceMul,Nat.reduceEqDiff,Go.Addr.add,↓reduceIte] at hx249_0);have qi249 : (1 < l0_0.length) = True:=eq_true (by omega);(try rw [show ((1 : Int)).toNat = 1 from rfl] at hx249_0);(try replace hx249_0:=(HB.out.cell (World.block_lt_of_cell? w _ hx249_0)).trans hx249_0);have HR249_0:=Aside0.mk hi249_0;have HC249_0:=Aside0.mk hl249_0;clear hi249_0 hl249_0;replace p249:=eq_true p249;replace q249:=eq_true q249))
     have n0_:=Aside0.mk (blk_drew BK246.out)
     have n1_:=Aside0.mk (blk_drew BK247.out)
     have n2_:=Aside0.mk (below_drew1 HB.out)
     clear BK246
     clear BK247
     clear HB
     have BK246:=n0_
     have BK247:=n1_
     have HB:=n2_
     clear n0_ n1_ n2_
     obtain ⟨i073,hi073,_,hsz73,_⟩:=info_parts info5
     obtain ⟨hcut73,hA73,hC73⟩:=print_take_of (P:=Try.prog) (Value.int .u8) 0 23 5 .i64 Try.underlying23 hi073 hsz73 A249_0 c249_0 (rd_L2 l0_0 1) 20 (by omega) (of_decide_eq_true (by assumption)) HC249_0.out
     have HR253:=Aside0.mk (Kd.C_of_reads (h1:=fun _=>rfl) (hA73 _ (Kd.reads_of_C HR249_0.out)))
     have HC253:=Aside0.mk hC73
     clear hA73 hC73 hi073 hsz73
     refine start_ (n:=9) (S:=fun w'=>w'.cell? ⟨gb246,0,none⟩ = some (.slice (some ad249) l0_0.length c0_0)∧w'.cell? ⟨gb246,1,none⟩ = some (.int .i64 a0_1)∧w'.cell? ⟨gb246,2,none⟩ = some (.bool a0_2)∧w'.cell? ⟨gb246,3,none⟩ = some (.int .i64 a0_3)) (ds:=[]) #[false,false,false,false,false,false,false,false,false] (by kernel_rfl) rfl rfl ⟨(blk_cell BK246.out 0).trans rfl,(blk_cell BK246.out 1).trans rfl,(blk_cell BK246.out 2).trans rfl,(blk_cell BK246.out 3).trans rfl⟩ (fun hHeld=>?_);refine with_tabW impl_OpenSpace.tab4 impl_OpenSpace.bits4 (fun HT_ HW_=>?_)
     generalize w70.drew = w72 at BK246 BK247 HB HR253 hHeld ⊢
     refine pure_ (i:=0) (N:=some 14) (v:=?_) (a':=?_) #[true,false,false,false,false,false,false,false,false] rfl rfl (any_of HT_.out (by kernel_rfl)) (fun _ _ _ h=>h) (Or.inl ⟨by rfl,?_⟩) ?_ ?_
     rotate_left
     ·intro w'
      go_simp
      with_reducible rfl
     rotate_left
     ·simp only [Act.put,List.setIfInBounds_toArray,List.set_cons_zero,List.set_cons_succ,i64_w,i32_w]
      rfl
     refine pure_ (i:=3) (N:=some 17) (v:=?_) (a':=?_) #[true,false,false,true,false,false,false,false,false] rfl rfl (any_of HT_.out (by kernel_rfl)) (fun _ _ _ h=>h) (Or.inl ⟨by rfl,?_⟩) ?_ ?_
     rotate_left
     ·intro w'
      go_simp
      with_reducible rfl
     rotate_left
     ·simp only [Act.put,List.setIfInBounds_toArray,List.set_cons_zero,List.set_cons_succ,i64_w,i32_w]
      rfl
     refine pure_ (i:=4) (N:=some 18) (v:=?_) (a':=?_) #[true,false,false,true,true,false,false,false,false] rfl rfl (any_of HT_.out (by kernel_rfl)) (fun _ _ _ h=>h) (Or.inl ⟨by rfl,?_⟩) ?_ ?_
     rotate_left
     ·intro w'
      go_simp
      with_reducible rfl
     rotate_left
     ·simp only [Act.put,List.setIfInBounds_toArray,List.set_cons_zero,List.set_cons_succ,i64_w,i32_w]
      rfl
     refine take_ (i:=1) (N:=some 15) (v:=?_) (a':=?_) #[true,true,false,true,true,false,false,false,false] rfl rfl (take_ofW HT_.out HW_.out (by kernel_rfl)) (fun _ _ _ h=>h) (Or.inl ⟨by rfl,?_⟩) hHeld ?_ ?_
     rotate_left
     ·rintro w' ⟨s0,s1,s2,s3⟩
      go_simp
      with_reducible rfl
     rotate_left
     ·simp only [Act.put,List.setIfInBounds_toArray,List.set_cons_zero,List.set_cons_succ,i64_w,i32_w]
      rfl
     refine join_ (σ:=Value × Value × Nat) 1 #[true,true,true,true,true,true,true,true,false] (fun s_=>[(16,s_.1),(19,s_.2.1),(5,.pointer (some ⟨s_.2.2,0,none⟩)),(20,.agg #[s_.1,s_.2.1,.slice none 0 0,.slice none 0 0])]) (fun s_ w'=>(w'.cell? ⟨gb246,0,none⟩ = some (.slice (some ad249) l0_0.length c0_0)∧w'.cell? ⟨gb246,1,none⟩ = some (.int .i64 a0_1)∧w'.cell? ⟨gb246,2,none⟩ = some (.bool a0_2)∧w'.cell? ⟨gb246,3,none⟩ = some (.int .i64 a0_3))∧(Kd.S (Kd.slice 5 (Kd.int .u8)) 23 w' w.heap.size (fun k_=>some k_ ≠ (s_.2.1 : Value).ownBlock) s_.1 t250)∧(Kd.R (Kd.int .u8) 5 w' w.heap.size (fun _=>True) s_.2.1 t254)∧(w'.heap[gb246]? = some (.cells #[.slice (some ad249) l0_0.length c0_0,.int .i64 a0_1,.bool a0_2,.int .i64 a0_3] 45 (0,0)))∧(w'.heap[gb247]? = some (.cells #[.slice none 0 0,.slice none 0 0,.slice none 0 0,.slice none 0 0] 29 (0,0)))∧(w'.heap[s_.2.2]? = some (.cells #[.slice none 0 0,.slice none 0 0,.slice none 0 0,.slice none 0 0] 29 (0,0)))∧(w.heap.size ≤ s_.2.2)∧(w.heap.size ≤ s_.2.2)∧(gb246 ≠ s_.2.2)∧(s_.2.2 ≠ gb246)∧(gb247 ≠ s_.2.2)∧(s_.2.2 ≠ gb247)∧(Below w.heap.size w w')) ?_ ?_
     rotate_left
     ·intro hCont
      refine two_ (i:=2) (j:=7) (Ni:=some 16) (Nj:=some 5) #[true,true,true,true,true,false,false,false,false] #[true,true,false,true,true,false,false,true,false] rfl rfl rfl rfl (two_of HT_.out (by kernel_rfl)) (by decide) (by decide) (fun K hK=>?_) (fun K hK=>?_)
      ·skip
       refine goes_ Try.func59 (by kernel_rfl) rfl #[.slice (some ad249) l0_0.length c0_0] (by rfl) rfl rfl (by (try simp only [List.map_toArray,List.map_cons,List.map_nil]);first|done|rfl|(simp only [List.length_drop,List.length_take];rfl)) ?_
       with_reducible refine (impl_copyBlocks.calls k _ _ l0_0 t250 _ ?side1 ?side2 A5.out).mono ?_
       (case side1=>repeat (first|exact (Kd.C_below HR0_0.out HB.out)|(with_reducible first|apply Kd.C_alloc|apply Kd.C_drewN|apply Kd.C_drew)))
       (case side2=>exact HC0_0.out)
       rintro e w74 ⟨v251,rfl,ho0,hb⟩
       refine ⟨_,rfl,?_⟩
       have n0_:=Aside0.mk (Kd.S_lower ho0 (below_size (by repeat (first|(with_reducible first|exact HB.out|apply below_alloc|apply pw_below_drewN|apply below_drew1|refine below_set ?_ GE246.out|refine below_set ?_ GE247.out)|exact HB.out))))
       have n1_:=Aside0.mk (blk_below (g:=gb246) (o:=.cells #[.slice (some ad249) l0_0.length c0_0,.int .i64 a0_1,.bool a0_2,.int .i64 a0_3] 45 (0,0)) (by (with_reducible repeat first|apply blk_drewN|apply blk_drew|apply blk_alloc);exact BK246.out) hb)
       have n2_:=Aside0.mk (blk_below (g:=gb247) (o:=.cells #[.slice none 0 0,.slice none 0 0,.slice none 0 0,.slice none 0 0] 29 (0,0)) (by (with_reducible repeat first|apply blk_drewN|apply blk_drew|apply blk_alloc);exact BK247.out) hb)
       have n3_:=Aside0.mk (below_step (by repeat (first|(with_reducible first|exact HB.out|apply below_alloc|apply pw_below_drewN|apply below_drew1|refine below_set ?_ GE246.out|refine below_set ?_ GE247.out)|exact HB.out)) hb)
       clear BK246
       clear BK247
       clear HB
       have HO252:=n0_
       have BK246:=n1_
       have BK247:=n2_
       have HB:=n3_
       clear n0_ n1_ n2_ n3_
       (try clear hb)
       (try clear hb2)
       (try clear hk)
       (try clear hi)
       (try clear ho0)
       refine hK.out _ _ ⟨(blk_cell BK246.out 0).trans rfl,(blk_cell BK246.out 1).trans rfl,(blk_cell BK246.out 2).trans rfl,(blk_cell BK246.out 3).trans rfl⟩ (fun hHeld=>?_)
       clear hK K
       refine norm_ (a':=?_) ?_ ?_
       rotate_left
       ·show Act.put _ (some 16) _ = _
        simp only [Act.put,List.setIfInBounds_toArray,List.set_cons_zero,List.set_cons_succ,i64_w,i32_w]
        rfl
       refine two_ (i:=5) (j:=7) (Ni:=some 19) (Nj:=some 5) #[true,true,true,true,true,true,false,false,false] #[true,true,true,true,true,false,false,true,false] rfl rfl rfl rfl (two_of HT_.out (by kernel_rfl)) (by decide) (by decide) (fun K hK=>?_) (fun K hK=>?_)
       ·skip
        refine goes_ Try.func60 (by kernel_rfl) rfl #[.slice A249_0 ((rd_L2 l0_0 1).take 20).length c249_0] (by rfl) rfl rfl (by (try simp only [List.map_toArray,List.map_cons,List.map_nil]);first|done|(rw [show ((rd_L2 l0_0 1).take 20).length = 20 from (by rw [List.length_take];have h_ : (20 : Int) ≤ ((rd_L2 l0_0 1).length : Int):=of_decide_eq_true (by assumption);omega)] <;> rfl)|rfl|(simp only [List.length_drop,List.length_take];rfl)) ?_
        with_reducible refine (slices_Clone_byte_byte.calls _ _ ((rd_L2 l0_0 1).take 20) t254 _ ?side1 ?side2 A7.out).mono ?_
        (case side1=>repeat (first|exact (Kd.C_below HR253.out HB.out)|(with_reducible first|apply Kd.C_alloc|apply Kd.C_drewN|apply Kd.C_drew)))
        (case side2=>exact HC253.out)
        rintro e w75 ⟨v255,rfl,ho0,hb⟩
        refine ⟨_,rfl,?_⟩
        have n0_:=Aside0.mk (Kd.S_elder' (by (with_reducible repeat (first|apply Kd.S_alloc|apply Kd.S_drewN|apply Kd.S_drew));exact HO252.out) (Kd.R_base ho0) hb)
        have n1_:=Aside0.mk (Kd.R_lower ho0 (below_size (by repeat (first|(with_reducible first|exact HB.out|apply below_alloc|apply pw_below_drewN|apply below_drew1|refine below_set ?_ GE246.out|refine below_set ?_ GE247.out)|exact HB.out))))
        have n2_:=Aside0.mk (blk_below (g:=gb246) (o:=.cells #[.slice (some ad249) l0_0.length c0_0,.int .i64 a0_1,.bool a0_2,.int .i64 a0_3] 45 (0,0)) (by (with_reducible repeat first|apply blk_drewN|apply blk_drew|apply blk_alloc);exact BK246.out) hb)
        have n3_:=Aside0.mk (blk_below (g:=gb247) (o:=.cells #[.slice none 0 0,.slice none 0 0,.slice none 0 0,.slice none 0 0] 29 (0,0)) (by (with_reducible repeat first|apply blk_drewN|apply blk_drew|apply blk_alloc);exact BK247.out) hb)
        have n4_:=Aside0.mk (below_step (by repeat (first|(with_reducible first|exact HB.out|apply below_alloc|apply pw_below_drewN|apply below_drew1|refine below_set ?_ GE246.out|refine below_set ?_ GE247.out)|exact HB.out)) hb)
        clear HO252
        clear BK246
        clear BK247
        clear HB
        have HO252:=n0_
        have HO256:=n1_
        have BK246:=n2_
        have BK247:=n3_
        have HB:=n4_
        clear n0_ n1_ n2_ n3_ n4_
        (try clear hb)
        (try clear hb2)
        (try clear hk)
        (try clear hi)
        (try clear ho0)
        obtain ⟨Ao76,co76,eo76⟩:=Kd.R_slice HO256.out
        (first|subst eo76|(injection eo76 with f1_ f2_ f3_;have f4_:=f1_.symm;have f5_:=f3_.symm;clear f1_ f2_ f3_;subst f4_;subst f5_))
        obtain ⟨Ao77,co77,eo77⟩:=Kd.S_slice HO252.out
        (first|subst eo77|(injection eo77 with f1_ f2_ f3_;have f4_:=f1_.symm;have f5_:=f3_.symm;clear f1_ f2_ f3_;subst f4_;subst f5_))
        refine hK.out _ _ ⟨(blk_cell BK246.out 0).trans rfl,(blk_cell BK246.out 1).trans rfl,(blk_cell BK246.out 2).trans rfl,(blk_cell BK246.out 3).trans rfl⟩ (fun hHeld=>?_)
        clear hK K
        refine norm_ (a':=?_) ?_ ?_
        rotate_left
        ·show Act.put _ (some 19) _ = _
         simp only [Act.put,List.setIfInBounds_toArray,List.set_cons_zero,List.set_cons_succ,i64_w,i32_w]
         rfl
        refine pure_ (i:=6) (N:=some 20) (v:=?_) (a':=?_) #[true,true,true,true,true,true,true,false,false] rfl rfl (any_of HT_.out (by kernel_rfl)) (fun _ _ _ h=>h) (Or.inl ⟨by rfl,?_⟩) ?_ ?_
        rotate_left
        ·intro w'
         go_simp
         with_reducible rfl
        rotate_left
        ·simp only [Act.put,List.setIfInBounds_toArray,List.set_cons_zero,List.set_cons_succ,i64_w,i32_w]
         rfl
        refine one_ (i:=7) (N:=some 5) #[true,true,true,true,true,true,true,true,false] rfl rfl (one_of HT_.out (by kernel_rfl)) (by decide) (fun K hK=>?_)
        refine box_step ?hg (N:=5) ?hd (cs:=#[.slice none 0 0,.slice none 0 0,.slice none 0 0,.slice none 0 0]) (t:=29) ?hr ?_;(case hd=>rfl);(case hg=>rfl);(case hr=>first|(go_simp;done)|(go_simp;rfl))
        intro gb257 hg w78 hbox hb
        have n0_:=Aside0.mk (Kd.S_below (by (with_reducible repeat (first|apply Kd.S_alloc|apply Kd.S_drewN|apply Kd.S_drew));exact HO252.out) hb)
        have n1_:=Aside0.mk (Kd.R_below (by (with_reducible repeat (first|apply Kd.R_alloc|apply Kd.R_drewN|apply Kd.R_drew));exact HO256.out) hb)
        have n2_:=Aside0.mk (blk_below (g:=gb246) (o:=.cells #[.slice (some ad249) l0_0.length c0_0,.int .i64 a0_1,.bool a0_2,.int .i64 a0_3] 45 (0,0)) (by (with_reducible repeat first|apply blk_drewN|apply blk_drew|apply blk_alloc);exact BK246.out) hb)
        have n3_:=Aside0.mk (blk_below (g:=gb247) (o:=.cells #[.slice none 0 0,.slice none 0 0,.slice none 0 0,.slice none 0 0] 29 (0,0)) (by (with_reducible repeat first|apply blk_drewN|apply blk_drew|apply blk_alloc);exact BK247.out) hb)
        have n4_:=Aside0.mk (below_step (by repeat (first|(with_reducible first|exact HB.out|apply below_alloc|apply pw_below_drewN|apply below_drew1|refine below_set ?_ GE246.out|refine below_set ?_ GE247.out)|exact HB.out)) hb)
        have n5_:=Aside0.mk (hbox)
        have n6_:=Aside0.mk ((by rw [hg];exact (below_size (by repeat (first|(with_reducible first|exact HB.out|apply below_alloc|apply pw_below_drewN|apply below_drew1|refine below_set ?_ GE246.out|refine below_set ?_ GE247.out)|exact HB.out))) : w.heap.size ≤ gb257))
        have n7_:=Aside0.mk ((by rw [hg];exact (below_size (by repeat (first|(with_reducible first|exact HB.out|apply below_alloc|apply pw_below_drewN|apply below_drew1|refine below_set ?_ GE246.out|refine below_set ?_ GE247.out)|exact HB.out))) : w.heap.size ≤ gb257))
        have n8_:=Aside0.mk ((by rw [hg];exact Nat.ne_of_lt (blk_lt (g:=gb246) (o:=.cells #[.slice (some ad249) l0_0.length c0_0,.int .i64 a0_1,.bool a0_2,.int .i64 a0_3] 45 (0,0)) (by (with_reducible repeat first|apply blk_drewN|apply blk_drew|apply blk_alloc);exact BK246.out)) : gb246 ≠ gb257))
        have n9_:=Aside0.mk ((by rw [hg];exact Nat.ne_of_gt (blk_lt (g:=gb246) (o:=.cells #[.slice (some ad249) l0_0.length c0_0,.int .i64 a0_1,.bool a0_2,.int .i64 a0_3] 45 (0,0)) (by (with_reducible repeat first|apply blk_drewN|apply blk_drew|apply blk_alloc);exact BK246.out)) : gb257 ≠ gb246))
        have n10_:=Aside0.mk ((by rw [hg];exact Nat.ne_of_lt (blk_lt (g:=gb247) (o:=.cells #[.slice none 0 0,.slice none 0 0,.slice none 0 0,.slice none 0 0] 29 (0,0)) (by (with_reducible repeat first|apply blk_drewN|apply blk_drew|apply blk_alloc);exact BK247.out)) : gb247 ≠ gb257))
        have n11_:=Aside0.mk ((by rw [hg];exact Nat.ne_of_gt (blk_lt (g:=gb247) (o:=.cells #[.slice none 0 0,.slice none 0 0,.slice none 0 0,.slice none 0 0] 29 (0,0)) (by (with_reducible repeat first|apply blk_drewN|apply blk_drew|apply blk_alloc);exact BK247.out)) : gb257 ≠ gb247))
        clear HO252
        clear HO256
        clear BK246
        clear BK247
        clear HB
        have HO252:=n0_
        have HO256:=n1_
        have BK246:=n2_
        have BK247:=n3_
        have HB:=n4_
        have BK257:=n5_
        have GW257:=n6_
        have GE257:=n7_
        have NB246_257:=n8_
        have NB257_246:=n9_
        have NB247_257:=n10_
        have NB257_247:=n11_
        clear n0_ n1_ n2_ n3_ n4_ n5_ n6_ n7_ n8_ n9_ n10_ n11_
        clear hb hbox hg
        refine hK.out _ _ ⟨(blk_cell BK246.out 0).trans rfl,(blk_cell BK246.out 1).trans rfl,(blk_cell BK246.out 2).trans rfl,(blk_cell BK246.out 3).trans rfl⟩ (fun hHeld=>?_)
        clear hK K
        refine norm_ (a':=?_) ?_ ?_
        rotate_left
        ·show Act.put _ (some 5) _ = _
         simp only [Act.put,List.setIfInBounds_toArray,List.set_cons_zero,List.set_cons_succ,i64_w,i32_w]
         rfl
        exact norm_ (by simp only [putAll,Act.put,List.setIfInBounds_toArray,List.set_cons_zero,List.set_cons_succ]) (hCont (.slice Ao77 t250.length co77,.slice Ao76 t254.length co76,gb257) _ ⟨hHeld,(by (with_reducible repeat (first|apply Kd.S_alloc|apply Kd.S_drewN|apply Kd.S_drew));exact Kd.S_mono HO252.out (fun _ hk=>hk.2)),(by (with_reducible repeat (first|apply Kd.R_alloc|apply Kd.R_drewN|apply Kd.R_drew));exact HO256.out),(by (with_reducible repeat first|apply blk_drewN|apply blk_drew|apply blk_alloc);exact BK246.out),(by (with_reducible repeat first|apply blk_drewN|apply blk_drew|apply blk_alloc);exact BK247.out),(by (with_reducible repeat first|apply blk_drewN|apply blk_drew|apply blk_alloc);exact BK257.out),GW257.out,GE257.out,NB246_257.out,NB257_246.out,NB247_257.out,NB257_247.out,(by repeat (first|(with_reducible first|exact HB.out|apply below_alloc|apply pw_below_drewN|apply below_drew1|refine below_set ?_ GE246.out|refine below_set ?_ GE247.out|refine below_set ?_ GE257.out)|exact HB.out))⟩)
       ·skip
        refine box_step ?hg (N:=5) ?hd (cs:=#[.slice none 0 0,.slice none 0 0,.slice none 0 0,.slice none 0 0]) (t:=29) ?hr ?_;(case hd=>rfl);(case hg=>rfl);(case hr=>first|(go_simp;done)|(go_simp;rfl))
        intro gb257 hg w75 hbox hb
        have n0_:=Aside0.mk (Kd.S_below (by (with_reducible repeat (first|apply Kd.S_alloc|apply Kd.S_drewN|apply Kd.S_drew));exact HO252.out) hb)
        have n1_:=Aside0.mk (blk_below (g:=gb246) (o:=.cells #[.slice (some ad249) l0_0.length c0_0,.int .i64 a0_1,.bool a0_2,.int .i64 a0_3] 45 (0,0)) (by (with_reducible repeat first|apply blk_drewN|apply blk_drew|apply blk_alloc);exact BK246.out) hb)
        have n2_:=Aside0.mk (blk_below (g:=gb247) (o:=.cells #[.slice none 0 0,.slice none 0 0,.slice none 0 0,.slice none 0 0] 29 (0,0)) (by (with_reducible repeat first|apply blk_drewN|apply blk_drew|apply blk_alloc);exact BK247.out) hb)
        have n3_:=Aside0.mk (below_step (by repeat (first|(with_reducible first|exact HB.out|apply below_alloc|apply pw_below_drewN|apply below_drew1|refine below_set ?_ GE246.out|refine below_set ?_ GE247.out)|exact HB.out)) hb)
        have n4_:=Aside0.mk (hbox)
        have n5_:=Aside0.mk ((by rw [hg];exact (below_size (by repeat (first|(with_reducible first|exact HB.out|apply below_alloc|apply pw_below_drewN|apply below_drew1|refine below_set ?_ GE246.out|refine below_set ?_ GE247.out)|exact HB.out))) : w.heap.size ≤ gb257))
        have n6_:=Aside0.mk ((by rw [hg];exact (below_size (by repeat (first|(with_reducible first|exact HB.out|apply below_alloc|apply pw_below_drewN|apply below_drew1|refine below_set ?_ GE246.out|refine below_set ?_ GE247.out)|exact HB.out))) : w.heap.size ≤ gb257))
        have n7_:=Aside0.mk ((by rw [hg];exact Nat.ne_of_lt (blk_lt (g:=gb246) (o:=.cells #[.slice (some ad249) l0_0.length c0_0,.int .i64 a0_1,.bool a0_2,.int .i64 a0_3] 45 (0,0)) (by (with_reducible repeat first|apply blk_drewN|apply blk_drew|apply blk_alloc);exact BK246.out)) : gb246 ≠ gb257))
        have n8_:=Aside0.mk ((by rw [hg];exact Nat.ne_of_gt (blk_lt (g:=gb246) (o:=.cells #[.slice (some ad249) l0_0.length c0_0,.int .i64 a0_1,.bool a0_2,.int .i64 a0_3] 45 (0,0)) (by (with_reducible repeat first|apply blk_drewN|apply blk_drew|apply blk_alloc);exact BK246.out)) : gb257 ≠ gb246))
        have n9_:=Aside0.mk ((by rw [hg];exact Nat.ne_of_lt (blk_lt (g:=gb247) (o:=.cells #[.slice none 0 0,.slice none 0 0,.slice none 0 0,.slice none 0 0] 29 (0,0)) (by (with_reducible repeat first|apply blk_drewN|apply blk_drew|apply blk_alloc);exact BK247.out)) : gb247 ≠ gb257))
        have n10_:=Aside0.mk ((by rw [hg];exact Nat.ne_of_gt (blk_lt (g:=gb247) (o:=.cells #[.slice none 0 0,.slice none 0 0,.slice none 0 0,.slice none 0 0] 29 (0,0)) (by (with_reducible repeat first|apply blk_drewN|apply blk_drew|apply blk_alloc);exact BK247.out)) : gb257 ≠ gb247))
        clear HO252
        clear BK246
        clear BK247
        clear HB
        have HO252:=n0_
        have BK246:=n1_
        have BK247:=n2_
        have HB:=n3_
        have BK257:=n4_
        have GW257:=n5_
        have GE257:=n6_
        have NB246_257:=n7_
        have NB257_246:=n8_
        have NB247_257:=n9_
        have NB257_247:=n10_
        clear n0_ n1_ n2_ n3_ n4_ n5_ n6_ n7_ n8_ n9_ n10_
        clear hb hbox hg
        refine hK.out _ _ ⟨(blk_cell BK246.out 0).trans rfl,(blk_cell BK246.out 1).trans rfl,(blk_cell BK246.out 2).trans rfl,(blk_cell BK246.out 3).trans rfl⟩ (fun hHeld=>?_)
        clear hK K
        refine norm_ (a':=?_) ?_ ?_
        rotate_left
        ·show Act.put _ (some 5) _ = _
         simp only [Act.put,List.setIfInBounds_toArray,List.set_cons_zero,List.set_cons_succ,i64_w,i32_w]
         rfl
        refine one_ (i:=5) (N:=some 19) #[true,true,true,true,true,true,false,true,false] rfl rfl (one_of HT_.out (by kernel_rfl)) (by decide) (fun K hK=>?_)
        refine goes_ Try.func60 (by kernel_rfl) rfl #[.slice A249_0 ((rd_L2 l0_0 1).take 20).length c249_0] (by rfl) rfl rfl (by (try simp only [List.map_toArray,List.map_cons,List.map_nil]);first|done|(rw [show ((rd_L2 l0_0 1).take 20).length = 20 from (by rw [List.length_take];have h_ : (20 : Int) ≤ ((rd_L2 l0_0 1).length : Int):=of_decide_eq_true (by assumption);omega)] <;> rfl)|rfl|(simp only [List.length_drop,List.length_take];rfl)) ?_
        with_reducible refine (slices_Clone_byte_byte.calls _ _ ((rd_L2 l0_0 1).take 20) t254 _ ?side1 ?side2 A7.out).mono ?_
        (case side1=>repeat (first|exact (Kd.C_below HR253.out HB.out)|(with_reducible first|apply Kd.C_alloc|apply Kd.C_drewN|apply Kd.C_drew)))
        (case side2=>exact HC253.out)
        rintro e w76 ⟨v255,rfl,ho0,hb⟩
        refine ⟨_,rfl,?_⟩
        have n0_:=Aside0.mk (Kd.S_elder' (by (with_reducible repeat (first|apply Kd.S_alloc|apply Kd.S_drewN|apply Kd.S_drew));exact HO252.out) (Kd.R_base ho0) hb)
        have n1_:=Aside0.mk (Kd.R_lower ho0 (below_size (by repeat (first|(with_reducible first|exact HB.out|apply below_alloc|apply pw_below_drewN|apply below_drew1|refine below_set ?_ GE246.out|refine below_set ?_ GE247.out|refine below_set ?_ GE257.out)|exact HB.out))))
        have n2_:=Aside0.mk (blk_below (g:=gb246) (o:=.cells #[.slice (some ad249) l0_0.length c0_0,.int .i64 a0_1,.bool a0_2,.int .i64 a0_3] 45 (0,0)) (by (with_reducible repeat first|apply blk_drewN|apply blk_drew|apply blk_alloc);exact BK246.out) hb)
        have n3_:=Aside0.mk (blk_below (g:=gb247) (o:=.cells #[.slice none 0 0,.slice none 0 0,.slice none 0 0,.slice none 0 0] 29 (0,0)) (by (with_reducible repeat first|apply blk_drewN|apply blk_drew|apply blk_alloc);exact BK247.out) hb)
        have n4_:=Aside0.mk (blk_below (g:=gb257) (o:=.cells #[.slice none 0 0,.slice none 0 0,.slice none 0 0,.slice none 0 0] 29 (0,0)) (by (with_reducible repeat first|apply blk_drewN|apply blk_drew|apply blk_alloc);exact BK257.out) hb)
        have n5_:=Aside0.mk (below_step (by repeat (first|(with_reducible first|exact HB.out|apply below_alloc|apply pw_below_drewN|apply below_drew1|refine below_set ?_ GE246.out|refine below_set ?_ GE247.out|refine below_set ?_ GE257.out)|exact HB.out)) hb)
        clear HO252
        clear BK246
        clear BK247
        clear BK257
        clear HB
        have HO252:=n0_
        have HO256:=n1_
        have BK246:=n2_
        have BK247:=n3_
        have BK257:=n4_
        have HB:=n5_
        clear n0_ n1_ n2_ n3_ n4_ n5_
        (try clear hb)
        (try clear hb2)
        (try clear hk)
        (try clear hi)
        (try clear ho0)
        obtain ⟨Ao77,co77,eo77⟩:=Kd.R_slice HO256.out
        (first|subst eo77|(injection eo77 with f1_ f2_ f3_;have f4_:=f1_.symm;have f5_:=f3_.symm;clear f1_ f2_ f3_;subst f4_;subst f5_))
        obtain ⟨Ao78,co78,eo78⟩:=Kd.S_slice HO252.out
        (first|subst eo78|(injection eo78 with f1_ f2_ f3_;have f4_:=f1_.symm;have f5_:=f3_.symm;clear f1_ f2_ f3_;subst f4_;subst f5_))
        refine hK.out _ _ ⟨(blk_cell BK246.out 0).trans rfl,(blk_cell BK246.out 1).trans rfl,(blk_cell BK246.out 2).trans rfl,(blk_cell BK246.out 3).trans rfl⟩ (fun hHeld=>?_)
        clear hK K
        refine norm_ (a':=?_) ?_ ?_
        rotate_left
        ·show Act.put _ (some 19) _ = _
         simp only [Act.put,List.setIfInBounds_toArray,List.set_cons_zero,List.set_cons_succ,i64_w,i32_w]
         rfl
        refine pure_ (i:=6) (N:=some 20) (v:=?_) (a':=?_) #[true,true,true,true,true,true,true,true,false] rfl rfl (any_of HT_.out (by kernel_rfl)) (fun _ _ _ h=>h) (Or.inl ⟨by rfl,?_⟩) ?_ ?_
        rotate_left
        ·intro w'
         go_simp
         with_reducible rfl
        rotate_left
        ·simp only [Act.put,List.setIfInBounds_toArray,List.set_cons_zero,List.set_cons_succ,i64_w,i32_w]
         rfl
        exact norm_ (by simp only [putAll,Act.put,List.setIfInBounds_toArray,List.set_cons_zero,List.set_cons_succ]) (hCont (.slice Ao78 t250.length co78,.slice Ao77 t254.length co77,gb257) _ ⟨hHeld,(by (with_reducible repeat (first|apply Kd.S_alloc|apply Kd.S_drewN|apply Kd.S_drew));exact Kd.S_mono HO252.out (fun _ hk=>hk.2)),(by (with_reducible repeat (first|apply Kd.R_alloc|apply Kd.R_drewN|apply Kd.R_drew));exact HO256.out),(by (with_reducible repeat first|apply blk_drewN|apply blk_drew|apply blk_alloc);exact BK246.out),(by (with_reducible repeat first|apply blk_drewN|apply blk_drew|apply blk_alloc);exact BK247.out),(by (with_reducible repeat first|apply blk_drewN|apply blk_drew|apply blk_alloc);exact BK257.out),GW257.out,GE257.out,NB246_257.out,NB257_246.out,NB247_257.out,NB257_247.out,(by repeat (first|(with_reducible first|exact HB.out|apply below_alloc|apply pw_below_drewN|apply below_drew1|refine below_set ?_ GE246.out|refine below_set ?_ GE247.out|refine below_set ?_ GE257.out)|exact HB.out))⟩)
      ·skip
       refine box_step ?hg (N:=5) ?hd (cs:=#[.slice none 0 0,.slice none 0 0,.slice none 0 0,.slice none 0 0]) (t:=29) ?hr ?_;(case hd=>rfl);(case hg=>rfl);(case hr=>first|(go_simp;done)|(go_simp;rfl))
       intro gb257 hg w74 hbox hb
       have n0_:=Aside0.mk (blk_below (g:=gb246) (o:=.cells #[.slice (some ad249) l0_0.length c0_0,.int .i64 a0_1,.bool a0_2,.int .i64 a0_3] 45 (0,0)) (by (with_reducible repeat first|apply blk_drewN|apply blk_drew|apply blk_alloc);exact BK246.out) hb)
       have n1_:=Aside0.mk (blk_below (g:=gb247) (o:=.cells #[.slice none 0 0,.slice none 0 0,.slice none 0 0,.slice none 0 0] 29 (0,0)) (by (with_reducible repeat first|apply blk_drewN|apply blk_drew|apply blk_alloc);exact BK247.out) hb)
       have n2_:=Aside0.mk (below_step (by repeat (first|(with_reducible first|exact HB.out|apply below_alloc|apply pw_below_drewN|apply below_drew1|refine below_set ?_ GE246.out|refine below_set ?_ GE247.out)|exact HB.out)) hb)
       have n3_:=Aside0.mk (hbox)
       have n4_:=Aside0.mk ((by rw [hg];exact (below_size (by repeat (first|(with_reducible first|exact HB.out|apply below_alloc|apply pw_below_drewN|apply below_drew1|refine below_set ?_ GE246.out|refine below_set ?_ GE247.out)|exact HB.out))) : w.heap.size ≤ gb257))
       have n5_:=Aside0.mk ((by rw [hg];exact (below_size (by repeat (first|(with_reducible first|exact HB.out|apply below_alloc|apply pw_below_drewN|apply below_drew1|refine below_set ?_ GE246.out|refine below_set ?_ GE247.out)|exact HB.out))) : w.heap.size ≤ gb257))
       have n6_:=Aside0.mk ((by rw [hg];exact Nat.ne_of_lt (blk_lt (g:=gb246) (o:=.cells #[.slice (some ad249) l0_0.length c0_0,.int .i64 a0_1,.bool a0_2,.int .i64 a0_3] 45 (0,0)) (by (with_reducible repeat first|apply blk_drewN|apply blk_drew|apply blk_alloc);exact BK246.out)) : gb246 ≠ gb257))
       have n7_:=Aside0.mk ((by rw [hg];exact Nat.ne_of_gt (blk_lt (g:=gb246) (o:=.cells #[.slice (some ad249) l0_0.length c0_0,.int .i64 a0_1,.bool a0_2,.int .i64 a0_3] 45 (0,0)) (by (with_reducible repeat first|apply blk_drewN|apply blk_drew|apply blk_alloc);exact BK246.out)) : gb257 ≠ gb246))
       have n8_:=Aside0.mk ((by rw [hg];exact Nat.ne_of_lt (blk_lt (g:=gb247) (o:=.cells #[.slice none 0 0,.slice none 0 0,.slice none 0 0,.slice none 0 0] 29 (0,0)) (by (with_reducible repeat first|apply blk_drewN|apply blk_drew|apply blk_alloc);exact BK247.out)) : gb247 ≠ gb257))
       have n9_:=Aside0.mk ((by rw [hg];exact Nat.ne_of_gt (blk_lt (g:=gb247) (o:=.cells #[.slice none 0 0,.slice none 0 0,.slice none 0 0,.slice none 0 0] 29 (0,0)) (by (with_reducible repeat first|apply blk_drewN|apply blk_drew|apply blk_alloc);exact BK247.out)) : gb257 ≠ gb247))
       clear BK246
       clear BK247
       clear HB
       have BK246:=n0_
       have BK247:=n1_
       have HB:=n2_
       have BK257:=n3_
       have GW257:=n4_
       have GE257:=n5_
       have NB246_257:=n6_
       have NB257_246:=n7_
       have NB247_257:=n8_
       have NB257_247:=n9_
       clear n0_ n1_ n2_ n3_ n4_ n5_ n6_ n7_ n8_ n9_
       clear hb hbox hg
       refine hK.out _ _ ⟨(blk_cell BK246.out 0).trans rfl,(blk_cell BK246.out 1).trans rfl,(blk_cell BK246.out 2).trans rfl,(blk_cell BK246.out 3).trans rfl⟩ (fun hHeld=>?_)
       clear hK K
       refine norm_ (a':=?_) ?_ ?_
       rotate_left
       ·show Act.put _ (some 5) _ = _
        simp only [Act.put,List.setIfInBounds_toArray,List.set_cons_zero,List.set_cons_succ,i64_w,i32_w]
        rfl
       refine one_ (i:=2) (N:=some 16) #[true,true,true,true,true,false,false,true,false] rfl rfl (one_of HT_.out (by kernel_rfl)) (by decide) (fun K hK=>?_)
       refine goes_ Try.func59 (by kernel_rfl) rfl #[.slice (some ad249) l0_0.length c0_0] (by rfl) rfl rfl (by (try simp only [List.map_toArray,List.map_cons,List.map_nil]);first|done|rfl|(simp only [List.length_drop,List.length_take];rfl)) ?_
       with_reducible refine (impl_copyBlocks.calls k _ _ l0_0 t250 _ ?side1 ?side2 A5.out).mono ?_
       (case side1=>repeat (first|exact (Kd.C_below HR0_0.out HB.out)|(with_reducible first|apply Kd.C_alloc|apply Kd.C_drewN|apply Kd.C_drew)))
       (case side2=>exact HC0_0.out)
       rintro e w75 ⟨v251,rfl,ho0,hb⟩
       refine ⟨_,rfl,?_⟩
       have n0_:=Aside0.mk (Kd.S_lower ho0 (below_size (by repeat (first|(with_reducible first|exact HB.out|apply below_alloc|apply pw_below_drewN|apply below_drew1|refine below_set ?_ GE246.out|refine below_set ?_ GE247.out|refine below_set ?_ GE257.out)|exact HB.out))))
       have n1_:=Aside0.mk (blk_below (g:=gb246) (o:=.cells #[.slice (some ad249) l0_0.length c0_0,.int .i64 a0_1,.bool a0_2,.int .i64 a0_3] 45 (0,0)) (by (with_reducible repeat first|apply blk_drewN|apply blk_drew|apply blk_alloc);exact BK246.out) hb)
       have n2_:=Aside0.mk (blk_below (g:=gb247) (o:=.cells #[.slice none 0 0,.slice none 0 0,.slice none 0 0,.slice none 0 0] 29 (0,0)) (by (with_reducible repeat first|apply blk_drewN|apply blk_drew|apply blk_alloc);exact BK247.out) hb)
       have n3_:=Aside0.mk (blk_below (g:=gb257) (o:=.cells #[.slice none 0 0,.slice none 0 0,.slice none 0 0,.slice none 0 0] 29 (0,0)) (by (with_reducible repeat first|apply blk_drewN|apply blk_drew|apply blk_alloc);exact BK257.out) hb)
       have n4_:=Aside0.mk (below_step (by repeat (first|(with_reducible first|exact HB.out|apply below_alloc|apply pw_below_drewN|apply below_drew1|refine below_set ?_ GE246.out|refine below_set ?_ GE247.out|refine below_set ?_ GE257.out)|exact HB.out)) hb)
       clear BK246
       clear BK247
       clear BK257
       clear HB
       have HO252:=n0_
       have BK246:=n1_
       have BK247:=n2_
       have BK257:=n3_
       have HB:=n4_
       clear n0_ n1_ n2_ n3_ n4_
       (try clear hb)
       (try clear hb2)
       (try clear hk)
       (try clear hi)
       (try clear ho0)
       refine hK.out _ _ ⟨(blk_cell BK246.out 0).trans rfl,(blk_cell BK246.out 1).trans rfl,(blk_cell BK246.out 2).trans rfl,(blk_cell BK246.out 3).trans rfl⟩ (fun hHeld=>?_)
       clear hK K
       refine norm_ (a':=?_) ?_ ?_
       rotate_left
       ·show Act.put _ (some 16) _ = _
        simp only [Act.put,List.setIfInBounds_toArray,List.set_cons_zero,List.set_cons_succ,i64_w,i32_w]
        rfl
       refine one_ (i:=5) (N:=some 19) #[true,true,true,true,true,true,false,true,false] rfl rfl (one_of HT_.out (by kernel_rfl)) (by decide) (fun K hK=>?_)
       refine goes_ Try.func60 (by kernel_rfl) rfl #[.slice A249_0 ((rd_L2 l0_0 1).take 20).length c249_0] (by rfl) rfl rfl (by (try simp only [List.map_toArray,List.map_cons,List.map_nil]);first|done|(rw [show ((rd_L2 l0_0 1).take 20).length = 20 from (by rw [List.length_take];have h_ : (20 : Int) ≤ ((rd_L2 l0_0 1).length : Int):=of_decide_eq_true (by assumption);omega)] <;> rfl)|rfl|(simp only [List.length_drop,List.length_take];rfl)) ?_
       with_reducible refine (slices_Clone_byte_byte.calls _ _ ((rd_L2 l0_0 1).take 20) t254 _ ?side1 ?side2 A7.out).mono ?_
       (case side1=>repeat (first|exact (Kd.C_below HR253.out HB.out)|(with_reducible first|apply Kd.C_alloc|apply Kd.C_drewN|apply Kd.C_drew)))
       (case side2=>exact HC253.out)
       rintro e w76 ⟨v255,rfl,ho0,hb⟩
       refine ⟨_,rfl,?_⟩
       have n0_:=Aside0.mk (Kd.S_elder' (by (with_reducible repeat (first|apply Kd.S_alloc|apply Kd.S_drewN|apply Kd.S_drew));exact HO252.out) (Kd.R_base ho0) hb)
       have n1_:=Aside0.mk (Kd.R_lower ho0 (below_size (by repeat (first|(with_reducible first|exact HB.out|apply below_alloc|apply pw_below_drewN|apply below_drew1|refine below_set ?_ GE246.out|refine below_set ?_ GE247.out|refine below_set ?_ GE257.out)|exact HB.out))))
       have n2_:=Aside0.mk (blk_below (g:=gb246) (o:=.cells #[.slice (some ad249) l0_0.length c0_0,.int .i64 a0_1,.bool a0_2,.int .i64 a0_3] 45 (0,0)) (by (with_reducible repeat first|apply blk_drewN|apply blk_drew|apply blk_alloc);exact BK246.out) hb)
       have n3_:=Aside0.mk (blk_below (g:=gb247) (o:=.cells #[.slice none 0 0,.slice none 0 0,.slice none 0 0,.slice none 0 0] 29 (0,0)) (by (with_reducible repeat first|apply blk_drewN|apply blk_drew|apply blk_alloc);exact BK247.out) hb)
       have n4_:=Aside0.mk (blk_below (g:=gb257) (o:=.cells #[.slice none 0 0,.slice none 0 0,.slice none 0 0,.slice none 0 0] 29 (0,0)) (by (with_reducible repeat first|apply blk_drewN|apply blk_drew|apply blk_alloc);exact BK257.out) hb)
       have n5_:=Aside0.mk (below_step (by repeat (first|(with_reducible first|exact HB.out|apply below_alloc|apply pw_below_drewN|apply below_drew1|refine below_set ?_ GE246.out|refine below_set ?_ GE247.out|refine below_set ?_ GE257.out)|exact HB.out)) hb)
       clear HO252
       clear BK246
       clear BK247
       clear BK257
       clear HB
       have HO252:=n0_
       have HO256:=n1_
       have BK246:=n2_
       have BK247:=n3_
       have BK257:=n4_
       have HB:=n5_
       clear n0_ n1_ n2_ n3_ n4_ n5_
       (try clear hb)
       (try clear hb2)
       (try clear hk)
       (try clear hi)
       (try clear ho0)
       obtain ⟨Ao77,co77,eo77⟩:=Kd.R_slice HO256.out
       (first|subst eo77|(injection eo77 with f1_ f2_ f3_;have f4_:=f1_.symm;have f5_:=f3_.symm;clear f1_ f2_ f3_;subst f4_;subst f5_))
       obtain ⟨Ao78,co78,eo78⟩:=Kd.S_slice HO252.out
       (first|subst eo78|(injection eo78 with f1_ f2_ f3_;have f4_:=f1_.symm;have f5_:=f3_.symm;clear f1_ f2_ f3_;subst f4_;subst f5_))
       refine hK.out _ _ ⟨(blk_cell BK246.out 0).trans rfl,(blk_cell BK246.out 1).trans rfl,(blk_cell BK246.out 2).trans rfl,(blk_cell BK246.out 3).trans rfl⟩ (fun hHeld=>?_)
       clear hK K
       refine norm_ (a':=?_) ?_ ?_
       rotate_left
       ·show Act.put _ (some 19) _ = _
        simp only [Act.put,List.setIfInBounds_toArray,List.set_cons_zero,List.set_cons_succ,i64_w,i32_w]
        rfl
       refine pure_ (i:=6) (N:=some 20) (v:=?_) (a':=?_) #[true,true,true,true,true,true,true,true,false] rfl rfl (any_of HT_.out (by kernel_rfl)) (fun _ _ _ h=>h) (Or.inl ⟨by rfl,?_⟩) ?_ ?_
       rotate_left
       ·intro w'
        go_simp
        with_reducible rfl
       rotate_left
       ·simp only [Act.put,List.setIfInBounds_toArray,List.set_cons_zero,List.set_cons_succ,i64_w,i32_w]
        rfl
       exact norm_ (by simp only [putAll,Act.put,List.setIfInBounds_toArray,List.set_cons_zero,List.set_cons_succ]) (hCont (.slice Ao78 t250.length co78,.slice Ao77 t254.length co77,gb257) _ ⟨hHeld,(by (with_reducible repeat (first|apply Kd.S_alloc|apply Kd.S_drewN|apply Kd.S_drew));exact Kd.S_mono HO252.out (fun _ hk=>hk.2)),(by (with_reducible repeat (first|apply Kd.R_alloc|apply Kd.R_drewN|apply Kd.R_drew));exact HO256.out),(by (with_reducible repeat first|apply blk_drewN|apply blk_drew|apply blk_alloc);exact BK246.out),(by (with_reducible repeat first|apply blk_drewN|apply blk_drew|apply blk_alloc);exact BK247.out),(by (with_reducible repeat first|apply blk_drewN|apply blk_drew|apply blk_alloc);exact BK257.out),GW257.out,GE257.out,NB246_257.out,NB257_246.out,NB247_257.out,NB257_247.out,(by repeat (first|(with_reducible first|exact HB.out|apply below_alloc|apply pw_below_drewN|apply below_drew1|refine below_set ?_ GE246.out|refine below_set ?_ GE247.out|refine below_set ?_ GE257.out)|exact HB.out))⟩)
     rintro ⟨v251,v255,gb257⟩ w79 ⟨hS_,h0_,h1_,h2_,h3_,h4_,h5_,h6_,h7_,h8_,h9_,h10_,h11_⟩
     have n0_ : Aside0 (Kd.S (Kd.slice 5 (Kd.int .u8)) 23 w79 w.heap.size (fun k_=>some k_ ≠ (v255 : Value).ownBlock) v251 t250):=⟨h0_⟩
     have n1_ : Aside0 (Kd.R (Kd.int .u8) 5 w79 w.heap.size (fun _=>True) v255 t254):=⟨h1_⟩
     have n2_ : Aside0 (w79.heap[gb246]? = some (.cells #[.slice (some ad249) l0_0.length c0_0,.int .i64 a0_1,.bool a0_2,.int .i64 a0_3] 45 (0,0))):=⟨h2_⟩
     have n3_ : Aside0 (w79.heap[gb247]? = some (.cells #[.slice none 0 0,.slice none 0 0,.slice none 0 0,.slice none 0 0] 29 (0,0))):=⟨h3_⟩
     have n4_ : Aside0 (w79.heap[gb257]? = some (.cells #[.slice none 0 0,.slice none 0 0,.slice none 0 0,.slice none 0 0] 29 (0,0))):=⟨h4_⟩
     have n5_ : Aside0 (w.heap.size ≤ gb257):=⟨h5_⟩
     have n6_ : Aside0 (w.heap.size ≤ gb257):=⟨h6_⟩
     have n7_ : Aside0 (gb246 ≠ gb257):=⟨h7_⟩
     have n8_ : Aside0 (gb257 ≠ gb246):=⟨h8_⟩
     have n9_ : Aside0 (gb247 ≠ gb257):=⟨h9_⟩
     have n10_ : Aside0 (gb257 ≠ gb247):=⟨h10_⟩
     have n11_ : Aside0 (Below w.heap.size w w79):=⟨h11_⟩
     clear BK246
     clear BK247
     clear HB
     clear h0_ h1_ h2_ h3_ h4_ h5_ h6_ h7_ h8_ h9_ h10_ h11_
     have HO252:=n0_
     have HO256:=n1_
     have BK246:=n2_
     have BK247:=n3_
     have BK257:=n4_
     have GW257:=n5_
     have GE257:=n6_
     have NB246_257:=n7_
     have NB257_246:=n8_
     have NB247_257:=n9_
     have NB257_247:=n10_
     have HB:=n11_
     clear n0_ n1_ n2_ n3_ n4_ n5_ n6_ n7_ n8_ n9_ n10_ n11_
     have hHeld : w79.cell? ⟨gb246,0,none⟩ = some (.slice (some ad249) l0_0.length c0_0)∧w79.cell? ⟨gb246,1,none⟩ = some (.int .i64 a0_1)∧w79.cell? ⟨gb246,2,none⟩ = some (.bool a0_2)∧w79.cell? ⟨gb246,3,none⟩ = some (.int .i64 a0_3):=hS_
     obtain ⟨Ao80,co80,eo80⟩:=Kd.R_slice HO256.out
     (first|subst eo80|(injection eo80 with f1_ f2_ f3_;have f4_:=f1_.symm;have f5_:=f3_.symm;clear f1_ f2_ f3_;subst f4_;subst f5_))
     obtain ⟨Ao81,co81,eo81⟩:=Kd.S_slice HO252.out
     (first|subst eo81|(injection eo81 with f1_ f2_ f3_;have f4_:=f1_.symm;have f5_:=f3_.symm;clear f1_ f2_ f3_;subst f4_;subst f5_))
     refine norm_ (a':=?_) ?_ ?_
     rotate_left
     ·simp only [putAll,Act.put,List.setIfInBounds_toArray,List.set_cons_zero,List.set_cons_succ]
      rfl
     refine one_ (i:=8) (N:=none) #[true,true,true,true,true,true,true,true,true] rfl rfl (one_of HT_.out (by kernel_rfl)) (by decide) (fun K hK=>?_)
     have hs82 : w79.cell? ⟨gb257,0,none⟩ = some (.slice none 0 0):=(blk_cell BK257.out 0).trans rfl
     have hfs82:=blk_frozen BK257.out 0
     have hns82_0:=NB246_257.out
     have hns82_1:=NB247_257.out
     have hms82_0:=NB257_246.out
     have hms82_1:=NB257_247.out
     have hs83 : w79.cell? ⟨gb257,1,none⟩ = some (.slice none 0 0):=(blk_cell BK257.out 1).trans rfl
     have hfs83:=blk_frozen BK257.out 1
     have hns83_0:=NB246_257.out
     have hns83_1:=NB247_257.out
     have hms83_0:=NB257_246.out
     have hms83_1:=NB257_247.out
     have hs84 : w79.cell? ⟨gb257,2,none⟩ = some (.slice none 0 0):=(blk_cell BK257.out 2).trans rfl
     have hfs84:=blk_frozen BK257.out 2
     have hns84_0:=NB246_257.out
     have hns84_1:=NB247_257.out
     have hms84_0:=NB257_246.out
     have hms84_1:=NB257_247.out
     have hs85 : w79.cell? ⟨gb257,3,none⟩ = some (.slice none 0 0):=(blk_cell BK257.out 3).trans rfl
     have hfs85:=blk_frozen BK257.out 3
     have hns85_0:=NB246_257.out
     have hns85_1:=NB247_257.out
     have hms85_0:=NB257_246.out
     have hms85_1:=NB257_247.out
     refine skip_ (w1:=?_) (by rfl) rfl ?_ ?_
     rotate_left
     ·go_simp
      rfl
     refine hK.out _ _ ⟨((cell_far (p:=⟨gb257,_,none⟩) NB246_257.out _).trans (((cell_far (p:=⟨gb257,_,none⟩) NB246_257.out _).trans (((cell_far (p:=⟨gb257,_,none⟩) NB246_257.out _).trans (((cell_far (p:=⟨gb257,_,none⟩) NB246_257.out _).trans (hHeld.1)))))))),((cell_far (p:=⟨gb257,_,none⟩) NB246_257.out _).trans (((cell_far (p:=⟨gb257,_,none⟩) NB246_257.out _).trans (((cell_far (p:=⟨gb257,_,none⟩) NB246_257.out _).trans (((cell_far (p:=⟨gb257,_,none⟩) NB246_257.out _).trans (hHeld.2.1)))))))),((cell_far (p:=⟨gb257,_,none⟩) NB246_257.out _).trans (((cell_far (p:=⟨gb257,_,none⟩) NB246_257.out _).trans (((cell_far (p:=⟨gb257,_,none⟩) NB246_257.out _).trans (((cell_far (p:=⟨gb257,_,none⟩) NB246_257.out _).trans (hHeld.2.2.1)))))))),((cell_far (p:=⟨gb257,_,none⟩) NB246_257.out _).trans (((cell_far (p:=⟨gb257,_,none⟩) NB246_257.out _).trans (((cell_far (p:=⟨gb257,_,none⟩) NB246_257.out _).trans (((cell_far (p:=⟨gb257,_,none⟩) NB246_257.out _).trans (hHeld.2.2.2))))))))⟩ (fun hHeld=>?_)
     clear hK K
     refine done_ (done_of HT_.out (by kernel_rfl)) ?_
     have hnb86:=NB257_246.out
     have hnc86:=NB246_257.out
     have hnb87:=NB257_247.out
     have hnc87:=NB247_257.out
     have hcz88_0 : w79.cell? ⟨gb257,0,none⟩ = some (.slice none 0 0):=(blk_cell BK257.out 0).trans rfl
     have hcz88_1 : w79.cell? ⟨gb257,1,none⟩ = some (.slice none 0 0):=(blk_cell BK257.out 1).trans rfl
     have hcz88_2 : w79.cell? ⟨gb257,2,none⟩ = some (.slice none 0 0):=(blk_cell BK257.out 2).trans rfl
     have hcz88_3 : w79.cell? ⟨gb257,3,none⟩ = some (.slice none 0 0):=(blk_cell BK257.out 3).trans rfl
     have hfz88_0:=blk_frozen BK257.out 0
     have hfz88_1:=blk_frozen BK257.out 1
     have hfz88_2:=blk_frozen BK257.out 2
     have hfz88_3:=blk_frozen BK257.out 3
     try go_wp2_with (first|((with_reducible refine gate_callee (f:=13) rfl ?_);refine goesL_ (some 22) rfl rfl Try.func13 (by kernel_rfl) rfl #[.agg #[.slice Ao81 t250.length co81,.slice Ao80 t254.length co80,.slice none 0 0,.slice none 0 0]] rfl (by (try simp only [List.map_toArray,List.map_cons,List.map_nil]);first|done|rfl|(simp only [List.length_drop,List.length_take];rfl)) ?_;(refine (impl_GoodSpace.calls k _ _ t250 _ _ t254 _ _ ([] : List Int) _ _ ([] : List Int) false _ ?side1 ?side2 ?side3 ?side4 ?side5 ?side6 ?side7 ?side8 A8.out).mono ?_);(case side1=>refine (Kd.S_reads' (e:=23) (base:=w.heap.size) (ok:=fun k_=>some k_ ≠ (.slice Ao80 t254.length co80 : Value).ownBlock) (n:=t250.length) (c:=co81) ?_).2.2;exact (by (with_reducible repeat (first|apply Kd.S_alloc|apply Kd.S_drewN|apply Kd.S_drew));exact (Kd.S_mono (Kd.S_far (p:=⟨gb257,3,none⟩) (Kd.S_far (p:=⟨gb257,2,none⟩) (Kd.S_far (p:=⟨gb257,1,none⟩) (Kd.S_far (p:=⟨gb257,0,none⟩) (Kd.S_types HO252.out BK257.out (by decide)) (fun _ hk=>hk.2) (.slice Ao81 t250.length co81)) (fun _ hk=>hk.2) (.slice Ao80 t254.length co80)) (fun _ hk=>hk.2) (.slice none 0 0)) (fun _ hk=>hk.2) (.slice none 0 0)) (fun _ h_=>h_.1))));(case side2=>exact (Kd.S_reads' HO252.out).2.1);(case side3=>refine (Kd.R_reads' (e:=5) (base:=w.heap.size) (ok:=fun k_=>True) (n:=t254.length) (c:=co80) ?_).2.2;exact (by (with_reducible repeat (first|apply Kd.R_alloc|apply Kd.R_drewN|apply Kd.R_drew));exact (Kd.R_mono (Kd.R_far (p:=⟨gb257,3,none⟩) (Kd.R_far (p:=⟨gb257,2,none⟩) (Kd.R_far (p:=⟨gb257,1,none⟩) (Kd.R_far (p:=⟨gb257,0,none⟩) (Kd.R_types HO256.out BK257.out (by decide)) (fun _ hk=>hk.2) (.slice Ao81 t250.length co81)) (fun _ hk=>hk.2) (.slice Ao80 t254.length co80)) (fun _ hk=>hk.2) (.slice none 0 0)) (fun _ hk=>hk.2) (.slice none 0 0)) (fun _ h_=>h_.1))));(case side4=>exact (Kd.R_reads' HO256.out).2.1);(case side5=>exact Kd.C_nil _ _);(case side6=>exact Nat.le_refl _);(case side7=>exact Kd.C_nil _ _);(case side8=>exact Nat.le_refl _);rintro e w89 ⟨rfl,hb⟩;refine ⟨_,rfl,?_⟩;have n0_:=Aside0.mk (Kd.S_below (by (with_reducible repeat (first|apply Kd.S_alloc|apply Kd.S_drewN|apply Kd.S_drew));exact (Kd.S_mono (Kd.S_far (p:=⟨gb257,3,none⟩) (Kd.S_far (p:=⟨gb257,2,none⟩) (Kd.S_far (p:=⟨gb257,1,none⟩) (Kd.S_far (p:=⟨gb257,0,none⟩) (Kd.S_types HO252.out BK257.out (by decide)) (fun _ hk=>hk.2) (.slice Ao81 t250.length co81)) (fun _ hk=>hk.2) (.slice Ao80 t254.length co80)) (fun _ hk=>hk.2) (.slice none 0 0)) (fun _ hk=>hk.2) (.slice none 0 0)) (fun _ h_=>h_.1))) hb);have n1_:=Aside0.mk (Kd.R_below (by (with_reducible repeat (first|apply Kd.R_alloc|apply Kd.R_drewN|apply Kd.R_drew));exact (Kd.R_mono (Kd.R_far (p:=⟨gb257,3,none⟩) (Kd.R_far (p:=⟨gb257,2,none⟩) (Kd.R_far (p:=⟨gb257,1,none⟩) (Kd.R_far (p:=⟨gb257,0,none⟩) (Kd.R_types HO256.out BK257.out (by decide)) (fun _ hk=>hk.2) (.slice Ao81 t250.length co81)) (fun _ hk=>hk.2) (.slice Ao80 t254.length co80)) (fun _ hk=>hk.2) (.slice none 0 0)) (fun _ hk=>hk.2) (.slice none 0 0)) (fun _ h_=>h_.1))) hb);have n2_:=Aside0.mk (blk_below (g:=gb246) (o:=.cells #[.slice (some ad249) l0_0.length c0_0,.int .i64 a0_1,.bool a0_2,.int .i64 a0_3] 45 (0,0)) (by (with_reducible repeat first|apply blk_drewN|apply blk_drew|apply blk_alloc);refine blk_far ?_ NB246_257.out _;(with_reducible repeat first|apply blk_drewN|apply blk_drew|apply blk_alloc);refine blk_far ?_ NB246_257.out _;(with_reducible repeat first|apply blk_drewN|apply blk_drew|apply blk_alloc);refine blk_far ?_ NB246_257.out _;(with_reducible repeat first|apply blk_drewN|apply blk_drew|apply blk_alloc);refine blk_far ?_ NB246_257.out _;(with_reducible repeat first|apply blk_drewN|apply blk_drew|apply blk_alloc);exact BK246.out) hb);have n3_:=Aside0.mk (blk_below (g:=gb247) (o:=.cells #[.slice none 0 0,.slice none 0 0,.slice none 0 0,.slice none 0 0] 29 (0,0)) (by (with_reducible repeat first|apply blk_drewN|apply blk_drew|apply blk_alloc);refine blk_far ?_ NB247_257.out _;(with_reducible repeat first|apply blk_drewN|apply blk_drew|apply blk_alloc);refine blk_far ?_ NB247_257.out _;(with_reducible repeat first|apply blk_drewN|apply blk_drew|apply blk_alloc);refine blk_far ?_ NB247_257.out _;(with_reducible repeat first|apply blk_drewN|apply blk_drew|apply blk_alloc);refine blk_far ?_ NB247_257.out _;(with_reducible repeat first|apply blk_drewN|apply blk_drew|apply blk_alloc);exact BK247.out) hb);have n4_:=Aside0.mk (blk_below (g:=gb257) (o:=.cells #[.slice Ao81 t250.length co81,.slice Ao80 t254.length co80,.slice none 0 0,.slice none 0 0] 29 (0,0)) (by (with_reducible repeat first|apply blk_drewN|apply blk_drew|apply blk_alloc);refine blk_put (cs:=#[.slice Ao81 t250.length co81,.slice Ao80 t254.length co80,.slice none 0 0,.slice none 0 0]) ?_ 3 _ rfl;(with_reducible repeat first|apply blk_drewN|apply blk_drew|apply blk_alloc);refine blk_put (cs:=#[.slice Ao81 t250.length co81,.slice Ao80 t254.length co80,.slice none 0 0,.slice none 0 0]) ?_ 2 _ rfl;(with_reducible repeat first|apply blk_drewN|apply blk_drew|apply blk_alloc);refine blk_put (cs:=#[.slice Ao81 t250.length co81,.slice none 0 0,.slice none 0 0,.slice none 0 0]) ?_ 1 _ rfl;(with_reducible repeat first|apply blk_drewN|apply blk_drew|apply blk_alloc);refine blk_put (cs:=#[.slice none 0 0,.slice none 0 0,.slice none 0 0,.slice none 0 0]) ?_ 0 _ rfl;(with_reducible repeat first|apply blk_drewN|apply blk_drew|apply blk_alloc);exact BK257.out) hb);have n5_:=Aside0.mk (below_step (by repeat (first|(with_reducible first|exact HB.out|apply below_alloc|apply pw_below_drewN|apply below_drew1|refine below_set ?_ GE246.out|refine below_set ?_ GE247.out|refine below_set ?_ GE257.out)|exact HB.out)) hb);clear HO252;clear HO256;clear BK246;clear BK247;clear BK257;clear HB;have HO252:=n0_;have HO256:=n1_;have BK246:=n2_;have BK247:=n3_;have BK257:=n4_;have HB:=n5_;clear n0_ n1_ n2_ n3_ n4_ n5_;(try clear hb);(try clear hb2);(try clear hk);(try clear hi);have hcz90_0 : w89.cell? ⟨gb247,0,none⟩ = some (.slice none 0 0):=(blk_cell BK247.out 0).trans rfl;have hcz90_1 : w89.cell? ⟨gb247,1,none⟩ = some (.slice none 0 0):=(blk_cell BK247.out 1).trans rfl;have hcz90_2 : w89.cell? ⟨gb247,2,none⟩ = some (.slice none 0 0):=(blk_cell BK247.out 2).trans rfl;have hcz90_3 : w89.cell? ⟨gb247,3,none⟩ = some (.slice none 0 0):=(blk_cell BK247.out 3).trans rfl;have hfz90_0:=blk_frozen BK247.out 0;have hfz90_1:=blk_frozen BK247.out 1;have hfz90_2:=blk_frozen BK247.out 2;have hfz90_3:=blk_frozen BK247.out 3))
     refine bodyPost_ret (results_ct rfl _ _ gb247 29 #[.slice none 0 0,.slice none 0 0,.slice none 0 0,.slice none 0 0] (0,0) _ rfl (by (with_reducible repeat first|apply blk_drewN|apply blk_drew|apply blk_alloc);refine blk_put (cs:=#[.slice none 0 0,.slice none 0 0,.slice none 0 0,.slice none 0 0]) ?_ 3 _ rfl;(with_reducible repeat first|apply blk_drewN|apply blk_drew|apply blk_alloc);refine blk_put (cs:=#[.slice none 0 0,.slice none 0 0,.slice none 0 0,.slice none 0 0]) ?_ 2 _ rfl;(with_reducible repeat first|apply blk_drewN|apply blk_drew|apply blk_alloc);refine blk_put (cs:=#[.slice none 0 0,.slice none 0 0,.slice none 0 0,.slice none 0 0]) ?_ 1 _ rfl;(with_reducible repeat first|apply blk_drewN|apply blk_drew|apply blk_alloc);refine blk_put (cs:=#[.slice none 0 0,.slice none 0 0,.slice none 0 0,.slice none 0 0]) ?_ 0 _ rfl;(with_reducible repeat first|apply blk_drewN|apply blk_drew|apply blk_alloc);exact BK247.out) Try.underlying29 rfl (by kernel_rfl)) rfl ?_
     exact ⟨_,_,_,_,by first|rfl|(simp [*,errW_none,errW_some] <;> rfl),by first|exact Kd.S_nil _ _ _ _ _|exact Kd.N_nil _ _ _ _ _|exact Kd.V_nil _ _ _ _ _|exact Kd.Q_nil _ _ _ _ _|exact Kd.R_nil _ _ _ _ _,by first|exact Kd.R_nil _ _ _ _ _|exact Kd.N_nil _ _ _ _ _|exact Kd.V_nil _ _ _ _ _|exact Kd.Q_nil _ _ _ _ _|exact Kd.S_nil _ _ _ _ _,by first|exact Kd.R_nil _ _ _ _ _|exact Kd.N_nil _ _ _ _ _|exact Kd.V_nil _ _ _ _ _|exact Kd.Q_nil _ _ _ _ _|exact Kd.S_nil _ _ _ _ _,by first|exact Kd.R_nil _ _ _ _ _|exact Kd.N_nil _ _ _ _ _|exact Kd.V_nil _ _ _ _ _|exact Kd.Q_nil _ _ _ _ _|exact Kd.S_nil _ _ _ _ _,by repeat (first|(with_reducible first|exact HB.out|apply below_alloc|apply pw_below_drewN|apply below_drew1|refine below_set ?_ GE246.out|refine below_set ?_ GE247.out|refine below_set ?_ GE257.out)|exact HB.out)⟩
   ·rw [if_neg c6] at H
    exact absurd H (by simp)
  ·rw [if_neg c4] at H
   exact absurd H (by simp)
 ·replace c3:=Bool.eq_false_iff.mpr c3
  subst c3
  have H1 : (some (([] : List (List Int)),([] : List Int),([] : List Int),([] : List Int),false)) = some (r1,r2,r3,r4,r5):=by rw [if_neg (show ¬ (false = true) by decide)] at H;exact H
  clear H
  have H:=H1
  clear H1
  simp only [Option.some.injEq,Prod.mk.injEq] at H
  obtain ⟨rfl,rfl,rfl,rfl,rfl⟩:=H
  go_enter Try.func26,Try.ntmps26
  go_wp2_with (first|((with_reducible refine gate_dst (N:=1) rfl ?_);refine box_event ?hg (N:=1) ?hd (cs:=#[.slice A0_0 l0_0.length c0_0,.int .i64 a0_1,.bool a0_2,.int .i64 a0_3]) (t:=45) ?hr ?_;(case hd=>rfl);(case hg=>rfl);(case hr=>first|(go_simp;done)|(go_simp;rfl));intro gb246 hg w91 hbox hb;have n0_:=Aside0.mk (below_step (by repeat (first|exact HB.out|apply below_alloc|apply pw_below_drewN|apply below_drew1)) hb);have n1_:=Aside0.mk (hbox);have n2_:=Aside0.mk ((by rw [hg];exact (below_size (by repeat (first|exact HB.out|apply below_alloc|apply pw_below_drewN|apply below_drew1))) : w.heap.size ≤ gb246));have n3_:=Aside0.mk ((by rw [hg];exact (below_size (by repeat (first|exact HB.out|apply below_alloc|apply pw_below_drewN|apply below_drew1))) : w.heap.size ≤ gb246));clear HB;have HB:=n0_;have BK246:=n1_;have GW246:=n2_;have GE246:=n3_;clear n0_ n1_ n2_ n3_;clear hb hbox hg)|((with_reducible refine gate_dst (N:=2) rfl ?_);refine box_event ?hg (N:=2) ?hd (cs:=#[.slice none 0 0,.slice none 0 0,.slice none 0 0,.slice none 0 0]) (t:=29) ?hr ?_;(case hd=>rfl);(case hg=>rfl);(case hr=>first|(go_simp;done)|(go_simp;rfl));intro gb247 hg w92 hbox hb;have n0_:=Aside0.mk (blk_below (g:=gb246) (o:=.cells #[.slice A0_0 l0_0.length c0_0,.int .i64 a0_1,.bool a0_2,.int .i64 a0_3] 45 (0,0)) (by (with_reducible repeat first|apply blk_drewN|apply blk_drew|apply blk_alloc);exact BK246.out) hb);have n1_:=Aside0.mk (below_step (by repeat (first|(with_reducible first|exact HB.out|apply below_alloc|apply pw_below_drewN|apply below_drew1|refine below_set ?_ GE246.out)|exact HB.out)) hb);have n2_:=Aside0.mk (hbox);have n3_:=Aside0.mk ((by rw [hg];exact (below_size (by repeat (first|(with_reducible first|exact HB.out|apply below_alloc|apply pw_below_drewN|apply below_drew1|refine below_set ?_ GE246.out)|exact HB.out))) : w.heap.size ≤ gb247));have n4_:=Aside0.mk ((by rw [hg];exact (below_size (by repeat (first|(with_reducible first|exact HB.out|apply below_alloc|apply pw_below_drewN|apply below_drew1|refine below_set ?_ GE246.out)|exact HB.out))) : w.heap.size ≤ gb247));have n5_:=Aside0.mk ((by rw [hg];exact Nat.ne_of_lt (blk_lt (g:=gb246) (o:=.cells #[.slice A0_0 l0_0.length c0_0,.int .i64 a0_1,.bool a0_2,.int .i64 a0_3] 45 (0,0)) (by (with_reducible repeat first|apply blk_drewN|apply blk_drew|apply blk_alloc);exact BK246.out)) : gb246 ≠ gb247));have n6_:=Aside0.mk ((by rw [hg];exact Nat.ne_of_gt (blk_lt (g:=gb246) (o:=.cells #[.slice A0_0 l0_0.length c0_0,.int .i64 a0_1,.bool a0_2,.int .i64 a0_3] 45 (0,0)) (by (with_reducible repeat first|apply blk_drewN|apply blk_drew|apply blk_alloc);exact BK246.out)) : gb247 ≠ gb246));clear BK246;clear HB;have BK246:=n0_;have HB:=n1_;have BK247:=n2_;have GW247:=n3_;have GE247:=n4_;have NB246_247:=n5_;have NB247_246:=n6_;clear n0_ n1_ n2_ n3_ n4_ n5_ n6_;clear hb hbox hg;have hnb93:=NB246_247.out;have hnc93:=NB247_246.out;have hcz94_0 : w92.cell? ⟨gb246,0,none⟩ = some (.slice A0_0 l0_0.length c0_0):=(blk_cell BK246.out 0).trans rfl;have hcz94_1 : w92.cell? ⟨gb246,1,none⟩ = some (.int .i64 a0_1):=(blk_cell BK246.out 1).trans rfl;have hcz94_2 : w92.cell? ⟨gb246,2,none⟩ = some (.bool a0_2):=(blk_cell BK246.out 2).trans rfl;have hcz94_3 : w92.cell? ⟨gb246,3,none⟩ = some (.int .i64 a0_3):=(blk_cell BK246.out 3).trans rfl;have hfz94_0:=blk_frozen BK246.out 0;have hfz94_1:=blk_frozen BK246.out 1;have hfz94_2:=blk_frozen BK246.out 2;have hfz94_3:=blk_frozen BK246.out 3)|((with_reducible refine gate_callee (f:=58) rfl ?_);refine goesL_ (some 7) rfl rfl Try.func58 (by kernel_rfl) rfl #[.agg #[.slice A0_0 l0_0.length c0_0,.int .i64 a0_1,.bool a0_2,.int .i64 a0_3]] rfl (by (try simp only [List.map_toArray,List.map_cons,List.map_nil]);first|done|rfl|(simp only [List.length_drop,List.length_take];rfl)) ?_;(with_reducible refine (impl_GoodDisk.calls k _ _ l0_0 a0_1 a0_2 a0_3 false _ ?side1 ?side2 A2.out).mono ?_);(case side1=>repeat (first|exact (Kd.C_below HR0_0.out HB.out)|(with_reducible first|apply Kd.C_alloc|apply Kd.C_drewN|apply Kd.C_drew)));(case side2=>exact HC0_0.out);rintro e w95 ⟨rfl,hb⟩;refine ⟨_,rfl,?_⟩;have n0_:=Aside0.mk (blk_below (g:=gb246) (o:=.cells #[.slice A0_0 l0_0.length c0_0,.int .i64 a0_1,.bool a0_2,.int .i64 a0_3] 45 (0,0)) (by (with_reducible repeat first|apply blk_drewN|apply blk_drew|apply blk_alloc);exact BK246.out) hb);have n1_:=Aside0.mk (blk_below (g:=gb247) (o:=.cells #[.slice none 0 0,.slice none 0 0,.slice none 0 0,.slice none 0 0] 29 (0,0)) (by (with_reducible repeat first|apply blk_drewN|apply blk_drew|apply blk_alloc);exact BK247.out) hb);have n2_:=Aside0.mk (below_step (by repeat (first|(with_reducible first|exact HB.out|apply below_alloc|apply pw_below_drewN|apply below_drew1|refine below_set ?_ GE246.out|refine below_set ?_ GE247.out)|exact HB.out)) hb);clear BK246;clear BK247;clear HB;have BK246:=n0_;have BK247:=n1_;have HB:=n2_;clear n0_ n1_ n2_;(try clear hb);(try clear hb2);(try clear hk);(try clear hi);have hcz96_0 : w95.cell? ⟨gb247,0,none⟩ = some (.slice none 0 0):=(blk_cell BK247.out 0).trans rfl;have hcz96_1 : w95.cell? ⟨gb247,1,none⟩ = some (.slice none 0 0):=(blk_cell BK247.out 1).trans rfl;have hcz96_2 : w95.cell? ⟨gb247,2,none⟩ = some (.slice none 0 0):=(blk_cell BK247.out 2).trans rfl;have hcz96_3 : w95.cell? ⟨gb247,3,none⟩ = some (.slice none 0 0):=(blk_cell BK247.out 3).trans rfl;have hfz96_0:=blk_frozen BK247.out 0;have hfz96_1:=blk_frozen BK247.out 1;have hfz96_2:=blk_frozen BK247.out 2;have hfz96_3:=blk_frozen BK247.out 3))
  refine bodyPost_ret (results_ct rfl _ _ gb247 29 #[.slice none 0 0,.slice none 0 0,.slice none 0 0,.slice none 0 0] (0,0) _ rfl (by (with_reducible repeat first|apply blk_drewN|apply blk_drew|apply blk_alloc);refine blk_put (cs:=#[.slice none 0 0,.slice none 0 0,.slice none 0 0,.slice none 0 0]) ?_ 3 _ rfl;(with_reducible repeat first|apply blk_drewN|apply blk_drew|apply blk_alloc);refine blk_put (cs:=#[.slice none 0 0,.slice none 0 0,.slice none 0 0,.slice none 0 0]) ?_ 2 _ rfl;(with_reducible repeat first|apply blk_drewN|apply blk_drew|apply blk_alloc);refine blk_put (cs:=#[.slice none 0 0,.slice none 0 0,.slice none 0 0,.slice none 0 0]) ?_ 1 _ rfl;(with_reducible repeat first|apply blk_drewN|apply blk_drew|apply blk_alloc);refine blk_put (cs:=#[.slice none 0 0,.slice none 0 0,.slice none 0 0,.slice none 0 0]) ?_ 0 _ rfl;(with_reducible repeat first|apply blk_drewN|apply blk_drew|apply blk_alloc);exact BK247.out) Try.underlying29 rfl (by kernel_rfl)) rfl ?_
  exact ⟨_,_,_,_,by first|rfl|(simp [*,errW_none,errW_some] <;> rfl),by first|exact Kd.S_nil _ _ _ _ _|exact Kd.N_nil _ _ _ _ _|exact Kd.V_nil _ _ _ _ _|exact Kd.Q_nil _ _ _ _ _|exact Kd.R_nil _ _ _ _ _,by first|exact Kd.R_nil _ _ _ _ _|exact Kd.N_nil _ _ _ _ _|exact Kd.V_nil _ _ _ _ _|exact Kd.Q_nil _ _ _ _ _|exact Kd.S_nil _ _ _ _ _,by first|exact Kd.R_nil _ _ _ _ _|exact Kd.N_nil _ _ _ _ _|exact Kd.V_nil _ _ _ _ _|exact Kd.Q_nil _ _ _ _ _|exact Kd.S_nil _ _ _ _ _,by first|exact Kd.R_nil _ _ _ _ _|exact Kd.N_nil _ _ _ _ _|exact Kd.V_nil _ _ _ _ _|exact Kd.Q_nil _ _ _ _ _|exact Kd.S_nil _ _ _ _ _,by repeat (first|(with_reducible first|exact HB.out|apply below_alloc|apply pw_below_drewN|apply below_drew1|refine below_set ?_ GE246.out|refine below_set ?_ GE247.out)|exact HB.out)⟩

end Go.Proofs.Ytlphbpaojcdjaaa.PFnExactOpenSpace
