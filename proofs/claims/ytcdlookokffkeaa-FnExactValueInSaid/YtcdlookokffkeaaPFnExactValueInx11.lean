-- Written by a program of this session over the print of the kit (wip/t/patch_print.py).
import Derived.Test.YtcdlookokffkeaaPFnExactValueInx0
import Derived.Test.YtcdlookokffkeaaPFnExactValueInx9
import Derived.Test.YtcdlookokffkeaaPFnExactValueInx10
namespace Go.Proofs.Ytcdlookokffkeaa.PFnExactValueIn
open Go.RowKit Go.Proofs.YtcdlookokffkeaaW.PrintWords Go.Proofs.YtcdlookokffkeaaW.PrintLast Go.Proofs.YtcdlookokffkeaaW.PrintMore
attribute [local go_sem] max2_int min2_int max_two min_two max_three min_three max_four min_four   -- for this text's walks alone
set_option linter.unusedVariables false
set_option linter.unusedSimpArgs false

/-! ### impl_Space_tree: function 46 -/
mutual
def impl_Space_tree.l0 : Nat → Int → Int → Int → List (List Int) → List Int → List Int → List Int → Int → List Int → List (List Int) → Option (Int × List Int × (List (List Int)) × Bool)
 | 0,_,_,_,_,_,_,_,_,_,_=>none
 | k + 1,x1,x20,x21,x1000,x1001,x1002,x1003,x295000,x295001,x295002=>if x21 < x20 then (if 32 ≤ 35184372088832 then (if 0 ≤ x21 then (if x21 < (x295002.length : Int) then (impl_Space_tree.l0 k x1 x20 (wrap64 (x21 + 1)) x1000 x1001 x1002 x1003 x295000 x295001 (x295002.set (x21 : Int).toNat (List.replicate 32 0))) else (none)) else (none)) else (none)) else (if x1 = 0 then (some (x295000,x295001,x295002,true)) else ((impl_Space_page.f k x1000 x1001 x1002 x1003 x1 80).bind fun bt299=>(if bt299.2 = true then ((impl_isEmpty.f k bt299.1).bind fun t303=>(impl_Space_tree.j1 k bt299.1 t303 x1000 x1001 x1002 x1003 x295000 x295001 x295002)) else (impl_Space_tree.j1 k bt299.1 true x1000 x1001 x1002 x1003 x295000 x295001 x295002))))
def impl_Space_tree.j1 : Nat → List Int → Bool → List (List Int) → List Int → List Int → List Int → Int → List Int → List (List Int) → Option (Int × List Int × (List (List Int)) × Bool)
 | 0,_,_,_,_,_,_,_,_,_=>none
 | k + 1,x8,x44,x1000,x1001,x1002,x1003,x295000,x295001,x295002=>if x44 = true then (some (0,([] : List Int),([] : List (List Int)),false)) else (impl_Space_tree.l1 k x8 x8 (x8.length : Int) 0 x1000 x1001 x1002 x1003 x295000 x295001 x295002)
def impl_Space_tree.l1 : Nat → List Int → List Int → Int → Int → List (List Int) → List Int → List Int → List Int → Int → List Int → List (List Int) → Option (Int × List Int × (List (List Int)) × Bool)
 | 0,_,_,_,_,_,_,_,_,_,_,_=>none
 | k + 1,x8,x46,x47,x48,x1000,x1001,x1002,x1003,x295000,x295001,x295002=>if x48 < x47 then (if 0 ≤ x48 then (if x48 < (x46.length : Int) then (if (rd x46 x48) = 0 then (impl_Space_tree.l1 k x8 x46 x47 (wrap64 (x48 + 1)) x1000 x1001 x1002 x1003 x295000 x295001 x295002) else ((impl_Space_page.f k x1000 x1001 x1002 x1003 (rd x46 x48) 81).bind fun bt305=>(if bt305.2 = true then ((impl_isEmpty.f k bt305.1).bind fun t309=>(if t309 = true then (some (0,([] : List Int),([] : List (List Int)),false)) else (if x48 ≤ (x8.length : Int) then ((slices_Contains_int_int.f k (x8.take (x48 : Int).toNat) (rd x46 x48)).bind fun t314=>(if t314 = true then (some (0,([] : List Int),([] : List (List Int)),false)) else ((slices_ContainsFunc_int_int_71.f k bt305.1 x1000 x1001 x1002 x1003).bind fun t315=>(if t315 = true then (some (0,([] : List Int),([] : List (List Int)),false)) else (if x48 < (x295001.length : Int) then (if x48 < (x295002.length : Int) then (impl_Space_tree.l1 k x8 x46 x47 (wrap64 (x48 + 1)) x1000 x1001 x1002 x1003 x295000 (x295001.set (x48 : Int).toNat (rd x46 x48)) (x295002.set (x48 : Int).toNat bt305.1)) else (none)) else (none)))))) else (none)))) else (some (0,([] : List Int),([] : List (List Int)),false))))) else (none)) else (none)) else (some (x295000,x295001,x295002,true))
end
def impl_Space_tree.f (k : Nat) (l0_0 : List (List Int)) (l0_1 : List Int) (l0_2 : List Int) (l0_3 : List Int) (a1 : Int) : Option (Int × List Int × (List (List Int)) × Bool):=if 32 ≤ 35184372088832 then (if 32 ≤ 11728124029610 then ((some (List.replicate 32 [] : List (List Int))).bind fun y291=>(impl_Space_tree.l0 k a1 (y291.length : Int) 0 l0_0 l0_1 l0_2 l0_3 a1 (List.replicate 32 0) y291)) else (none)) else (none)
theorem impl_Space_tree.mono_l : ∀ k,(∀ y0 y1 y2 y3 y4 y5 y6 y7 y8 y9,LeO (impl_Space_tree.l0 k y0 y1 y2 y3 y4 y5 y6 y7 y8 y9) (impl_Space_tree.l0 (k + 1) y0 y1 y2 y3 y4 y5 y6 y7 y8 y9))∧(∀ y0 y1 y2 y3 y4 y5 y6 y7 y8,LeO (impl_Space_tree.j1 k y0 y1 y2 y3 y4 y5 y6 y7 y8) (impl_Space_tree.j1 (k + 1) y0 y1 y2 y3 y4 y5 y6 y7 y8))∧(∀ y0 y1 y2 y3 y4 y5 y6 y7 y8 y9 y10,LeO (impl_Space_tree.l1 k y0 y1 y2 y3 y4 y5 y6 y7 y8 y9 y10) (impl_Space_tree.l1 (k + 1) y0 y1 y2 y3 y4 y5 y6 y7 y8 y9 y10))
 | 0=>⟨fun _ _ _ _ _ _ _ _ _ _ r h=>by simp [impl_Space_tree.l0] at h,fun _ _ _ _ _ _ _ _ _ r h=>by simp [impl_Space_tree.j1] at h,fun _ _ _ _ _ _ _ _ _ _ _ r h=>by simp [impl_Space_tree.l1] at h⟩
 | k + 1=>by
  obtain ⟨ih0,ih1,ih2⟩:=impl_Space_tree.mono_l k
  refine ⟨?_,?_,?_⟩
  ·intro y0 y1 y2 y3 y4 y5 y6 y7 y8 y9
   unfold impl_Space_tree.l0
   repeat' first
   | (with_reducible exact ih0 _ _ _ _ _ _ _ _ _ _)
   | (with_reducible exact ih1 _ _ _ _ _ _ _ _ _)
   | (with_reducible exact ih2 _ _ _ _ _ _ _ _ _ _ _)
   | (with_reducible exact impl_Space_page.mono _ _ _ _ _ _ _)
   | (with_reducible exact impl_isEmpty.mono _ _)
   | (with_reducible exact slices_ContainsFunc_int_int_71.mono _ _ _ _ _ _)
   | (with_reducible exact slices_Contains_int_int.mono _ _ _)
   | (with_reducible exact LeO.refl _)
   | (with_reducible exact LeO.none _)
   | (with_reducible refine LeO.ite ?_ ?_)
   | (with_reducible refine LeO.bind ?_ (fun _=>?_))
   | exact ih0 _ _ _ _ _ _ _ _ _ _
   | exact ih1 _ _ _ _ _ _ _ _ _
   | exact ih2 _ _ _ _ _ _ _ _ _ _ _
   | exact impl_Space_page.mono _ _ _ _ _ _ _
   | exact impl_isEmpty.mono _ _
   | exact slices_ContainsFunc_int_int_71.mono _ _ _ _ _ _
   | exact slices_Contains_int_int.mono _ _ _
   | exact LeO.none _
   | refine LeO.ite ?_ ?_
   | refine LeO.bind ?_ (fun _=>?_)
  ·intro y0 y1 y2 y3 y4 y5 y6 y7 y8
   unfold impl_Space_tree.j1
   repeat' first
   | (with_reducible exact ih0 _ _ _ _ _ _ _ _ _ _)
   | (with_reducible exact ih1 _ _ _ _ _ _ _ _ _)
   | (with_reducible exact ih2 _ _ _ _ _ _ _ _ _ _ _)
   | (with_reducible exact impl_Space_page.mono _ _ _ _ _ _ _)
   | (with_reducible exact impl_isEmpty.mono _ _)
   | (with_reducible exact slices_ContainsFunc_int_int_71.mono _ _ _ _ _ _)
   | (with_reducible exact slices_Contains_int_int.mono _ _ _)
   | (with_reducible exact LeO.refl _)
   | (with_reducible exact LeO.none _)
   | (with_reducible refine LeO.ite ?_ ?_)
   | (with_reducible refine LeO.bind ?_ (fun _=>?_))
   | exact ih0 _ _ _ _ _ _ _ _ _ _
   | exact ih1 _ _ _ _ _ _ _ _ _
   | exact ih2 _ _ _ _ _ _ _ _ _ _ _
   | exact impl_Space_page.mono _ _ _ _ _ _ _
   | exact impl_isEmpty.mono _ _
   | exact slices_ContainsFunc_int_int_71.mono _ _ _ _ _ _
   | exact slices_Contains_int_int.mono _ _ _
   | exact LeO.none _
   | refine LeO.ite ?_ ?_
   | refine LeO.bind ?_ (fun _=>?_)
  ·intro y0 y1 y2 y3 y4 y5 y6 y7 y8 y9 y10
   unfold impl_Space_tree.l1
   repeat' first
   | (with_reducible exact ih0 _ _ _ _ _ _ _ _ _ _)
   | (with_reducible exact ih1 _ _ _ _ _ _ _ _ _)
   | (with_reducible exact ih2 _ _ _ _ _ _ _ _ _ _ _)
   | (with_reducible exact impl_Space_page.mono _ _ _ _ _ _ _)
   | (with_reducible exact impl_isEmpty.mono _ _)
   | (with_reducible exact slices_ContainsFunc_int_int_71.mono _ _ _ _ _ _)
   | (with_reducible exact slices_Contains_int_int.mono _ _ _)
   | (with_reducible exact LeO.refl _)
   | (with_reducible exact LeO.none _)
   | (with_reducible refine LeO.ite ?_ ?_)
   | (with_reducible refine LeO.bind ?_ (fun _=>?_))
   | exact ih0 _ _ _ _ _ _ _ _ _ _
   | exact ih1 _ _ _ _ _ _ _ _ _
   | exact ih2 _ _ _ _ _ _ _ _ _ _ _
   | exact impl_Space_page.mono _ _ _ _ _ _ _
   | exact impl_isEmpty.mono _ _
   | exact slices_ContainsFunc_int_int_71.mono _ _ _ _ _ _
   | exact slices_Contains_int_int.mono _ _ _
   | exact LeO.none _
   | refine LeO.ite ?_ ?_
   | refine LeO.bind ?_ (fun _=>?_)
theorem impl_Space_tree.mono : ∀ a0 a1 a2 a3 a4 k,LeO (impl_Space_tree.f k a0 a1 a2 a3 a4) (impl_Space_tree.f (k + 1) a0 a1 a2 a3 a4):=by
 intro a0 a1 a2 a3 a4 k
 obtain ⟨ih0,ih1,ih2⟩:=impl_Space_tree.mono_l k
 unfold impl_Space_tree.f
 repeat' first
   | (with_reducible exact ih0 _ _ _ _ _ _ _ _ _ _)
   | (with_reducible exact ih1 _ _ _ _ _ _ _ _ _)
   | (with_reducible exact ih2 _ _ _ _ _ _ _ _ _ _ _)
   | (with_reducible exact impl_Space_page.mono _ _ _ _ _ _ _)
   | (with_reducible exact impl_isEmpty.mono _ _)
   | (with_reducible exact slices_ContainsFunc_int_int_71.mono _ _ _ _ _ _)
   | (with_reducible exact slices_Contains_int_int.mono _ _ _)
   | (with_reducible exact LeO.refl _)
   | (with_reducible exact LeO.none _)
   | (with_reducible refine LeO.ite ?_ ?_)
   | (with_reducible refine LeO.bind ?_ (fun _=>?_))
   | exact ih0 _ _ _ _ _ _ _ _ _ _
   | exact ih1 _ _ _ _ _ _ _ _ _
   | exact ih2 _ _ _ _ _ _ _ _ _ _ _
   | exact impl_Space_page.mono _ _ _ _ _ _ _
   | exact impl_isEmpty.mono _ _
   | exact slices_ContainsFunc_int_int_71.mono _ _ _ _ _ _
   | exact slices_Contains_int_int.mono _ _ _
   | exact LeO.none _
   | refine LeO.ite ?_ ?_
   | refine LeO.bind ?_ (fun _=>?_)
def impl_Space_tree.T19 : Bool × List (List Nat × List Nat):=(true,[([],[]),([0],[0]),([],[]),([],[]),([3],[3]),([],[]),([],[]),([],[]),([1,2,0,1,2,6],[1,2]),([8,6,0,1,2,6],[6,8]),([4,5,0,1,2,3,4,5,6,7,8,9],[4,5]),([10,7,9,0,1,2,3,4,5,6,7,8,9],[7,10])])
def impl_Space_tree.B19 : List Nat:=[0,1,0,0,8,0,0,0,71,327,1023,2047]
theorem impl_Space_tree.tab19 : rtab .any (opsOf Try.f46 19) = impl_Space_tree.T19:=by kernel_rfl
theorem impl_Space_tree.bits19 : waitsOk impl_Space_tree.T19.2 impl_Space_tree.B19 = true:=by kernel_rfl
set_option maxHeartbeats 8000000 in
set_option maxRecDepth 100000 in
theorem impl_Space_tree.calls (k : Nat) (g0_ : Nat) (A0_0 : Option Addr) (c0_0 : Nat) (l0_0 : List (List Int)) (A0_1 : Option Addr) (c0_1 : Nat) (l0_1 : List Int) (A0_2 : Option Addr) (c0_2 : Nat) (l0_2 : List Int) (A0_3 : Option Addr) (c0_3 : Nat) (l0_3 : List Int) (a1 : Int) (r1 : Int) (r2 : List Int) (r3 : List (List Int)) (r4 : Bool) (w : World) (hg0_ : w.heap[g0_]? = some (.cells #[.slice A0_0 l0_0.length c0_0,.slice A0_1 l0_1.length c0_1,.slice A0_2 l0_2.length c0_2,.slice A0_3 l0_3.length c0_3] 30 (0,0))) (hr0_0 : Kd.C (Kd.slice 5 (Kd.int .u8)) w A0_0 l0_0.length l0_0) (hc0_0 : l0_0.length ≤ c0_0) (hr0_1 : Kd.C (Kd.int .u8) w A0_1 l0_1.length l0_1) (hc0_1 : l0_1.length ≤ c0_1) (hr0_2 : Kd.C (Kd.int .i64) w A0_2 l0_2.length l0_2) (hc0_2 : l0_2.length ≤ c0_2) (hr0_3 : Kd.C (Kd.int .i64) w A0_3 l0_3.length l0_3) (hc0_3 : l0_3.length ≤ c0_3) (h : impl_Space_tree.f k l0_0 l0_1 l0_2 l0_3 a1 = some (r1,r2,r3,r4)) :
  Calls Try.prog 46 #[.pointer (some ⟨g0_,0,none⟩),.int .i64 a1] w fun e w'=>∃ v1_ v2_ : Value,e = .returned (.tuple #[.agg #[.int .i64 r1,v1_,v2_],.bool r4])∧Kd.R (Kd.int .i64) 3 w' w.heap.size (fun _=>True) v1_ r2∧Kd.S (Kd.slice 3 (Kd.int .i64)) 24 w' w.heap.size (fun k_=>some k_ ≠ (v1_ : Value).ownBlock) v2_ r3∧Below w.heap.size w w':=by
 have hu61:=Try.underlying61
 have hu87:=Try.underlying87
 have hmf : ∀ (fn : Fn) (first cap : Array Value) (W : World),(Instr.makeFunc fn first cap).run Try.prog W = .ok (.func fn first cap) W:=fun _ _ _ _=>rfl
 have HR0_0:=Aside0.mk hr0_0
 have HC0_0:=Aside0.mk hc0_0
 clear hr0_0 hc0_0
 have HR0_1:=Aside0.mk hr0_1
 have HC0_1:=Aside0.mk hc0_1
 clear hr0_1 hc0_1
 have HR0_2:=Aside0.mk hr0_2
 have HC0_2:=Aside0.mk hc0_2
 clear hr0_2 hc0_2
 have HR0_3:=Aside0.mk hr0_3
 have HC0_3:=Aside0.mk hc0_3
 clear hr0_3 hc0_3
 have BK0:=Aside0.mk hg0_
 clear hg0_
 have HB:=Aside0.mk (Below.refl w.heap.size w)
 have H : (if 32 ≤ 35184372088832 then (if 32 ≤ 11728124029610 then ((some (List.replicate 32 [] : List (List Int))).bind fun y291=>(impl_Space_tree.l0 k a1 (y291.length : Int) 0 l0_0 l0_1 l0_2 l0_3 a1 (List.replicate 32 0) y291)) else (none)) else (none)) = some (r1,r2,r3,r4):=h
 clear h
 by_cases c3 : 32 ≤ 35184372088832
 ·rw [if_pos c3] at H
  have c3b0:=eq_true c3
  have c3b1 : decide (32 ≤ 35184372088832) = true:=decide_eq_true c3
  clear c3
  obtain ⟨y288,hy288⟩ : ∃ y_ : List Int,y_ = (List.replicate 32 0):=⟨_,rfl⟩
  replace H : (if 32 ≤ 11728124029610 then ((some (List.replicate 32 [] : List (List Int))).bind fun y291=>(impl_Space_tree.l0 k a1 (y291.length : Int) 0 l0_0 l0_1 l0_2 l0_3 a1 y288 y291)) else (none)) = some (r1,r2,r3,r4):=by first|(rw [hy288];with_reducible exact H)|(have H2_:=(Option.bind_some _ _).symm.trans H;rw [hy288];with_reducible exact H2_)|(have H2_:=(Option.bind_some _ _).symm.trans H;with_reducible exact H2_)|with_reducible exact H|(rw [hy288];exact H)|exact H
  have Ny288:=Aside0.mk hy288
  clear hy288
  by_cases c4 : 32 ≤ 11728124029610
  ·rw [if_pos c4] at H
   have c4b0:=eq_true c4
   have c4b1 : decide (32 ≤ 11728124029610) = true:=decide_eq_true c4
   clear c4
   obtain ⟨y291,hy291⟩ : ∃ y_ : List (List Int),y_ = (List.replicate 32 []):=⟨_,rfl⟩
   replace H : (impl_Space_tree.l0 k a1 (y291.length : Int) 0 l0_0 l0_1 l0_2 l0_3 a1 y288 y291) = some (r1,r2,r3,r4):=by first|(rw [hy291];with_reducible exact H)|(have H2_:=(Option.bind_some _ _).symm.trans H;rw [hy291];with_reducible exact H2_)|(have H2_:=(Option.bind_some _ _).symm.trans H;with_reducible exact H2_)|with_reducible exact H|(rw [hy291];exact H)|exact H
   have Ny291:=Aside0.mk hy291
   clear hy291
   have H':=Aside0.mk H
   clear H
   go_enter Try.func46,Try.ntmps46
   try go_wp2_with (first|((with_reducible refine gate_dst (N:=2) rfl ?_);refine box_event ?hg (N:=2) ?hd (cs:=#[.pointer (some ⟨g0_,0,none⟩)]) (t:=87) ?hr ?_;(case hd=>rfl);(case hg=>rfl);(case hr=>first|(go_simp;done)|(go_simp;rfl));intro gb286 hg w5 hbox hb;have n0_:=Aside0.mk (blk_below (g:=g0_) (o:=.cells #[.slice A0_0 l0_0.length c0_0,.slice A0_1 l0_1.length c0_1,.slice A0_2 l0_2.length c0_2,.slice A0_3 l0_3.length c0_3] 30 (0,0)) (by (with_reducible repeat first|apply blk_drewN|apply blk_drew|apply blk_alloc);exact BK0.out) hb);have n1_:=Aside0.mk (below_step (by repeat (first|(with_reducible first|exact HB.out|apply below_alloc|apply pw_below_drewN|apply below_drew1|refine below_set ?_ GE0.out)|exact HB.out)) hb);have n2_:=Aside0.mk (hbox);have n3_:=Aside0.mk ((by rw [hg];exact (below_size (by repeat (first|(with_reducible first|exact HB.out|apply below_alloc|apply pw_below_drewN|apply below_drew1|refine below_set ?_ GE0.out)|exact HB.out))) : w.heap.size ≤ gb286));have n4_:=Aside0.mk ((by rw [hg];exact (below_size (by repeat (first|(with_reducible first|exact HB.out|apply below_alloc|apply pw_below_drewN|apply below_drew1|refine below_set ?_ GE0.out)|exact HB.out))) : w.heap.size ≤ gb286));have n5_:=Aside0.mk ((by rw [hg];exact Nat.ne_of_lt (blk_lt (g:=g0_) (o:=.cells #[.slice A0_0 l0_0.length c0_0,.slice A0_1 l0_1.length c0_1,.slice A0_2 l0_2.length c0_2,.slice A0_3 l0_3.length c0_3] 30 (0,0)) (by (with_reducible repeat first|apply blk_drewN|apply blk_drew|apply blk_alloc);exact BK0.out)) : g0_ ≠ gb286));have n6_:=Aside0.mk ((by rw [hg];exact Nat.ne_of_gt (blk_lt (g:=g0_) (o:=.cells #[.slice A0_0 l0_0.length c0_0,.slice A0_1 l0_1.length c0_1,.slice A0_2 l0_2.length c0_2,.slice A0_3 l0_3.length c0_3] 30 (0,0)) (by (with_reducible repeat first|apply blk_drewN|apply blk_drew|apply blk_alloc);exact BK0.out)) : gb286 ≠ g0_));clear BK0;clear HB;have BK0:=n0_;have HB:=n1_;have BK286:=n2_;have GW286:=n3_;have GE286:=n4_;have NB0_286:=n5_;have NB286_0:=n6_;clear n0_ n1_ n2_ n3_ n4_ n5_ n6_;clear hb hbox hg)|((with_reducible refine gate_dst (N:=4) rfl ?_);refine box_event ?hg (N:=4) ?hd (cs:=#[.int .i64 0,.slice none 0 0,.slice none 0 0]) (t:=61) ?hr ?_;(case hd=>rfl);(case hg=>rfl);(case hr=>first|(go_simp;done)|(go_simp;rfl));intro gb287 hg w6 hbox hb;have n0_:=Aside0.mk (blk_below (g:=g0_) (o:=.cells #[.slice A0_0 l0_0.length c0_0,.slice A0_1 l0_1.length c0_1,.slice A0_2 l0_2.length c0_2,.slice A0_3 l0_3.length c0_3] 30 (0,0)) (by (with_reducible repeat first|apply blk_drewN|apply blk_drew|apply blk_alloc);exact BK0.out) hb);have n1_:=Aside0.mk (blk_below (g:=gb286) (o:=.cells #[.pointer (some ⟨g0_,0,none⟩)] 87 (0,0)) (by (with_reducible repeat first|apply blk_drewN|apply blk_drew|apply blk_alloc);exact BK286.out) hb);have n2_:=Aside0.mk (below_step (by repeat (first|(with_reducible first|exact HB.out|apply below_alloc|apply pw_below_drewN|apply below_drew1|refine below_set ?_ GE0.out|refine below_set ?_ GE286.out)|exact HB.out)) hb);have n3_:=Aside0.mk (hbox);have n4_:=Aside0.mk ((by rw [hg];exact (below_size (by repeat (first|(with_reducible first|exact HB.out|apply below_alloc|apply pw_below_drewN|apply below_drew1|refine below_set ?_ GE0.out|refine below_set ?_ GE286.out)|exact HB.out))) : w.heap.size ≤ gb287));have n5_:=Aside0.mk ((by rw [hg];exact (below_size (by repeat (first|(with_reducible first|exact HB.out|apply below_alloc|apply pw_below_drewN|apply below_drew1|refine below_set ?_ GE0.out|refine below_set ?_ GE286.out)|exact HB.out))) : w.heap.size ≤ gb287));have n6_:=Aside0.mk ((by rw [hg];exact Nat.ne_of_lt (blk_lt (g:=g0_) (o:=.cells #[.slice A0_0 l0_0.length c0_0,.slice A0_1 l0_1.length c0_1,.slice A0_2 l0_2.length c0_2,.slice A0_3 l0_3.length c0_3] 30 (0,0)) (by (with_reducible repeat first|apply blk_drewN|apply blk_drew|apply blk_alloc);exact BK0.out)) : g0_ ≠ gb287));have n7_:=Aside0.mk ((by rw [hg];exact Nat.ne_of_gt (blk_lt (g:=g0_) (o:=.cells #[.slice A0_0 l0_0.length c0_0,.slice A0_1 l0_1.length c0_1,.slice A0_2 l0_2.length c0_2,.slice A0_3 l0_3.length c0_3] 30 (0,0)) (by (with_reducible repeat first|apply blk_drewN|apply blk_drew|apply blk_alloc);exact BK0.out)) : gb287 ≠ g0_));have n8_:=Aside0.mk ((by rw [hg];exact Nat.ne_of_lt (blk_lt (g:=gb286) (o:=.cells #[.pointer (some ⟨g0_,0,none⟩)] 87 (0,0)) (by (with_reducible repeat first|apply blk_drewN|apply blk_drew|apply blk_alloc);exact BK286.out)) : gb286 ≠ gb287));have n9_:=Aside0.mk ((by rw [hg];exact Nat.ne_of_gt (blk_lt (g:=gb286) (o:=.cells #[.pointer (some ⟨g0_,0,none⟩)] 87 (0,0)) (by (with_reducible repeat first|apply blk_drewN|apply blk_drew|apply blk_alloc);exact BK286.out)) : gb287 ≠ gb286));clear BK0;clear BK286;clear HB;have BK0:=n0_;have BK286:=n1_;have HB:=n2_;have BK287:=n3_;have GW287:=n4_;have GE287:=n5_;have NB0_287:=n6_;have NB287_0:=n7_;have NB286_287:=n8_;have NB287_286:=n9_;clear n0_ n1_ n2_ n3_ n4_ n5_ n6_ n7_ n8_ n9_;clear hb hbox hg))
   have n0_:=Aside0.mk (blk_drew BK0.out)
   have n1_:=Aside0.mk (blk_drew BK286.out)
   have n2_:=Aside0.mk (blk_drew BK287.out)
   have n3_:=Aside0.mk (below_drew1 HB.out)
   clear BK0
   clear BK286
   clear BK287
   clear HB
   have BK0:=n0_
   have BK286:=n1_
   have BK287:=n2_
   have HB:=n3_
   clear n0_ n1_ n2_ n3_
   refine start_ (n:=6) (S:=fun w'=>True) (ds:=[]) #[false,false,false,false,false,false] (by kernel_rfl) rfl rfl trivial (fun hHeld=>?_)
   generalize w6.drew = w7 at BK0 BK286 BK287 HB hHeld ⊢
   refine pure_ (i:=0) (N:=some 14) (v:=?_) (a':=?_) #[true,false,false,false,false,false] rfl rfl (by kernel_rfl) (fun _ _ _ h=>h) (Or.inl ⟨by rfl,?_⟩) ?_ ?_
   rotate_left
   ·intro w'
    go_simp
    with_reducible rfl
   rotate_left
   ·simp only [Act.put,List.setIfInBounds_toArray,List.set_cons_zero,List.set_cons_succ,i64_w,i32_w]
    rfl
   refine join_ (σ:=Value × Value × Nat) 1 #[true,true,true,true,true,false] (fun s_=>[(15,s_.1),(16,s_.2.1),(6,.pointer (some ⟨s_.2.2,0,none⟩)),(17,.agg #[.int .i64 a1,s_.1,s_.2.1])]) (fun s_ w'=>(Kd.R (Kd.int .i64) 3 w' w.heap.size (fun _=>True) s_.1 y288)∧(Kd.S (Kd.slice 3 (Kd.int .i64)) 24 w' w.heap.size (fun k_=>some k_ ≠ (s_.1 : Value).ownBlock) s_.2.1 y291)∧(w'.heap[g0_]? = some (.cells #[.slice A0_0 l0_0.length c0_0,.slice A0_1 l0_1.length c0_1,.slice A0_2 l0_2.length c0_2,.slice A0_3 l0_3.length c0_3] 30 (0,0)))∧(w'.heap[gb286]? = some (.cells #[.pointer (some ⟨g0_,0,none⟩)] 87 (0,0)))∧(w'.heap[gb287]? = some (.cells #[.int .i64 0,.slice none 0 0,.slice none 0 0] 61 (0,0)))∧(w'.heap[s_.2.2]? = some (.cells #[.int .i64 0,.slice none 0 0,.slice none 0 0] 61 (0,0)))∧(w.heap.size ≤ s_.2.2)∧(w.heap.size ≤ s_.2.2)∧(g0_ ≠ s_.2.2)∧(s_.2.2 ≠ g0_)∧(gb286 ≠ s_.2.2)∧(s_.2.2 ≠ gb286)∧(gb287 ≠ s_.2.2)∧(s_.2.2 ≠ gb287)∧(Below w.heap.size w w')) ?_ ?_
   rotate_left
   ·intro hJ1_2_4
    refine join_ (σ:=Value × Value) 2 #[true,true,true,true,false,false] (fun s_=>[(15,s_.1),(16,s_.2),(17,.agg #[.int .i64 a1,s_.1,s_.2])]) (fun s_ w'=>(Kd.R (Kd.int .i64) 3 w' w.heap.size (fun _=>True) s_.1 y288)∧(Kd.S (Kd.slice 3 (Kd.int .i64)) 24 w' w.heap.size (fun k_=>some k_ ≠ (s_.1 : Value).ownBlock) s_.2 y291)∧(w'.heap[g0_]? = some (.cells #[.slice A0_0 l0_0.length c0_0,.slice A0_1 l0_1.length c0_1,.slice A0_2 l0_2.length c0_2,.slice A0_3 l0_3.length c0_3] 30 (0,0)))∧(w'.heap[gb286]? = some (.cells #[.pointer (some ⟨g0_,0,none⟩)] 87 (0,0)))∧(w'.heap[gb287]? = some (.cells #[.int .i64 0,.slice none 0 0,.slice none 0 0] 61 (0,0)))∧(Below w.heap.size w w')) ?_ ?_
    rotate_left
    ·intro hJ1_2
     refine join_ (σ:=Value × Nat) 3 #[true,true,false,false,true,false] (fun s_=>[(15,s_.1),(6,.pointer (some ⟨s_.2,0,none⟩))]) (fun s_ w'=>(Kd.R (Kd.int .i64) 3 w' w.heap.size (fun _=>True) s_.1 y288)∧(w'.heap[g0_]? = some (.cells #[.slice A0_0 l0_0.length c0_0,.slice A0_1 l0_1.length c0_1,.slice A0_2 l0_2.length c0_2,.slice A0_3 l0_3.length c0_3] 30 (0,0)))∧(w'.heap[gb286]? = some (.cells #[.pointer (some ⟨g0_,0,none⟩)] 87 (0,0)))∧(w'.heap[gb287]? = some (.cells #[.int .i64 0,.slice none 0 0,.slice none 0 0] 61 (0,0)))∧(w'.heap[s_.2]? = some (.cells #[.int .i64 0,.slice none 0 0,.slice none 0 0] 61 (0,0)))∧(w.heap.size ≤ s_.2)∧(w.heap.size ≤ s_.2)∧(g0_ ≠ s_.2)∧(s_.2 ≠ g0_)∧(gb286 ≠ s_.2)∧(s_.2 ≠ gb286)∧(gb287 ≠ s_.2)∧(s_.2 ≠ gb287)∧(Below w.heap.size w w')) ?_ ?_
     rotate_left
     ·intro hJ1_4
      refine join_ (σ:=Value × Nat) 3 #[true,false,true,false,true,false] (fun s_=>[(16,s_.1),(6,.pointer (some ⟨s_.2,0,none⟩))]) (fun s_ w'=>(Kd.S (Kd.slice 3 (Kd.int .i64)) 24 w' w.heap.size (fun _=>True) s_.1 y291)∧(w'.heap[g0_]? = some (.cells #[.slice A0_0 l0_0.length c0_0,.slice A0_1 l0_1.length c0_1,.slice A0_2 l0_2.length c0_2,.slice A0_3 l0_3.length c0_3] 30 (0,0)))∧(w'.heap[gb286]? = some (.cells #[.pointer (some ⟨g0_,0,none⟩)] 87 (0,0)))∧(w'.heap[gb287]? = some (.cells #[.int .i64 0,.slice none 0 0,.slice none 0 0] 61 (0,0)))∧(w'.heap[s_.2]? = some (.cells #[.int .i64 0,.slice none 0 0,.slice none 0 0] 61 (0,0)))∧(w.heap.size ≤ s_.2)∧(w.heap.size ≤ s_.2)∧(g0_ ≠ s_.2)∧(s_.2 ≠ g0_)∧(gb286 ≠ s_.2)∧(s_.2 ≠ gb286)∧(gb287 ≠ s_.2)∧(s_.2 ≠ gb287)∧(Below w.heap.size w w')) ?_ ?_
      rotate_left
      ·intro hJ2_4
       refine join_ (σ:=Value) 4 #[true,true,false,false,false,false] (fun s_=>[(15,s_)]) (fun s_ w'=>(Kd.R (Kd.int .i64) 3 w' w.heap.size (fun _=>True) s_ y288)∧(w'.heap[g0_]? = some (.cells #[.slice A0_0 l0_0.length c0_0,.slice A0_1 l0_1.length c0_1,.slice A0_2 l0_2.length c0_2,.slice A0_3 l0_3.length c0_3] 30 (0,0)))∧(w'.heap[gb286]? = some (.cells #[.pointer (some ⟨g0_,0,none⟩)] 87 (0,0)))∧(w'.heap[gb287]? = some (.cells #[.int .i64 0,.slice none 0 0,.slice none 0 0] 61 (0,0)))∧(Below w.heap.size w w')) ?_ ?_
       rotate_left
       ·intro hJ1
        refine join_ (σ:=Value) 4 #[true,false,true,false,false,false] (fun s_=>[(16,s_)]) (fun s_ w'=>(Kd.S (Kd.slice 3 (Kd.int .i64)) 24 w' w.heap.size (fun _=>True) s_ y291)∧(w'.heap[g0_]? = some (.cells #[.slice A0_0 l0_0.length c0_0,.slice A0_1 l0_1.length c0_1,.slice A0_2 l0_2.length c0_2,.slice A0_3 l0_3.length c0_3] 30 (0,0)))∧(w'.heap[gb286]? = some (.cells #[.pointer (some ⟨g0_,0,none⟩)] 87 (0,0)))∧(w'.heap[gb287]? = some (.cells #[.int .i64 0,.slice none 0 0,.slice none 0 0] 61 (0,0)))∧(Below w.heap.size w w')) ?_ ?_
        rotate_left
        ·intro hJ2
         refine join_ (σ:=Nat) 4 #[true,false,false,false,true,false] (fun s_=>[(6,.pointer (some ⟨s_,0,none⟩))]) (fun s_ w'=>(w'.heap[g0_]? = some (.cells #[.slice A0_0 l0_0.length c0_0,.slice A0_1 l0_1.length c0_1,.slice A0_2 l0_2.length c0_2,.slice A0_3 l0_3.length c0_3] 30 (0,0)))∧(w'.heap[gb286]? = some (.cells #[.pointer (some ⟨g0_,0,none⟩)] 87 (0,0)))∧(w'.heap[gb287]? = some (.cells #[.int .i64 0,.slice none 0 0,.slice none 0 0] 61 (0,0)))∧(w'.heap[s_]? = some (.cells #[.int .i64 0,.slice none 0 0,.slice none 0 0] 61 (0,0)))∧(w.heap.size ≤ s_)∧(w.heap.size ≤ s_)∧(g0_ ≠ s_)∧(s_ ≠ g0_)∧(gb286 ≠ s_)∧(s_ ≠ gb286)∧(gb287 ≠ s_)∧(s_ ≠ gb287)∧(Below w.heap.size w w')) ?_ ?_
         rotate_left
         ·intro hJ4
          refine three_ (i:=1) (j:=2) (k:=4) (Ni:=some 15) (Nj:=some 16) (Nk:=some 6) #[true,true,false,false,false,false] #[true,false,true,false,false,false] #[true,false,false,false,true,false] rfl rfl rfl rfl rfl rfl (by kernel_rfl) (by decide) (by decide) (by decide) (fun K hK=>?_) (fun K hK=>?_) (fun K hK=>?_)
          ·skip
           refine Kd.R_make_step (Kd.int .i64) _ 3 (by rfl) (N:=15) rfl 24 _ _ rfl 32 rfl rfl Try.underlying24 (.int .i64 0) 8 info3 rfl (by decide) (by omega) 0 (ok:=fun _=>True) (okp:=fun _=>True) rfl (fun _ hk=>hk) trivial (by omega) (by omega) (Below.refl _ _) (Nat.le_refl _) ?_
           intro v289 w8 ho9 hb hg_ hnew_
           clear hg_ hnew_
           (first|rw [← Ny288.out] at ho9|(simp only [Int.reduceToNat] at ho9;rw [← Ny288.out] at ho9))
           have n0_:=Aside0.mk (Kd.R_lower ho9 (below_size (by repeat (first|(with_reducible first|exact HB.out|apply below_alloc|apply pw_below_drewN|apply below_drew1|refine below_set ?_ GE0.out|refine below_set ?_ GE286.out|refine below_set ?_ GE287.out)|exact HB.out))))
           have n1_:=Aside0.mk (blk_below (g:=g0_) (o:=.cells #[.slice A0_0 l0_0.length c0_0,.slice A0_1 l0_1.length c0_1,.slice A0_2 l0_2.length c0_2,.slice A0_3 l0_3.length c0_3] 30 (0,0)) (by (with_reducible repeat first|apply blk_drewN|apply blk_drew|apply blk_alloc);exact BK0.out) hb)
           have n2_:=Aside0.mk (blk_below (g:=gb286) (o:=.cells #[.pointer (some ⟨g0_,0,none⟩)] 87 (0,0)) (by (with_reducible repeat first|apply blk_drewN|apply blk_drew|apply blk_alloc);exact BK286.out) hb)
           have n3_:=Aside0.mk (blk_below (g:=gb287) (o:=.cells #[.int .i64 0,.slice none 0 0,.slice none 0 0] 61 (0,0)) (by (with_reducible repeat first|apply blk_drewN|apply blk_drew|apply blk_alloc);exact BK287.out) hb)
           have n4_:=Aside0.mk (below_step (by repeat (first|(with_reducible first|exact HB.out|apply below_alloc|apply pw_below_drewN|apply below_drew1|refine below_set ?_ GE0.out|refine below_set ?_ GE286.out|refine below_set ?_ GE287.out)|exact HB.out)) hb)
           clear BK0
           clear BK286
           clear BK287
           clear HB
           have HO290:=n0_
           have BK0:=n1_
           have BK286:=n2_
           have BK287:=n3_
           have HB:=n4_
           clear n0_ n1_ n2_ n3_ n4_
           clear hb ho9
           refine hK.out _ _ trivial (fun hHeld=>?_)
           clear hK K
           refine norm_ (a':=?_) ?_ ?_
           rotate_left
           ·show Act.put _ (some 15) _ = _
            simp only [Act.put,List.setIfInBounds_toArray,List.set_cons_zero,List.set_cons_succ,i64_w,i32_w]
            rfl
           exact norm_ (by first|(simp only [putAll,Act.put,List.setIfInBounds_toArray,List.set_cons_zero,List.set_cons_succ];done)|(simp only [putAll,Act.put,List.setIfInBounds_toArray,List.set_cons_zero,List.set_cons_succ];rfl)) (hJ1 (v289) _ ⟨(by (with_reducible repeat (first|apply Kd.R_alloc|apply Kd.R_drewN|apply Kd.R_drew));exact HO290.out),(by (with_reducible repeat first|apply blk_drewN|apply blk_drew|apply blk_alloc);exact BK0.out),(by (with_reducible repeat first|apply blk_drewN|apply blk_drew|apply blk_alloc);exact BK286.out),(by (with_reducible repeat first|apply blk_drewN|apply blk_drew|apply blk_alloc);exact BK287.out),(by repeat (first|(with_reducible first|exact HB.out|apply below_alloc|apply pw_below_drewN|apply below_drew1|refine below_set ?_ GE0.out|refine below_set ?_ GE286.out|refine below_set ?_ GE287.out)|exact HB.out))⟩)
          ·skip
           refine Kd.S_make_step (Kd.slice 3 (Kd.int .i64)) _ 24 (by rfl) (N:=16) rfl 53 _ _ rfl 32 rfl rfl Try.underlying53 (.slice none 0 0) 24 info24 rfl (by decide) (by omega) [] (ok:=fun _=>True) (okp:=fun _=>True) ⟨_,rfl,Kd.R_nil _ _ _ _ _⟩ (fun _ hk=>hk) trivial (by omega) (by omega) (Below.refl _ _) (Nat.le_refl _) ?_
           intro v292 w8 ho9 hb hg_ hnew_
           clear hg_ hnew_
           (first|rw [← Ny291.out] at ho9|(simp only [Int.reduceToNat] at ho9;rw [← Ny291.out] at ho9))
           have n0_:=Aside0.mk (Kd.S_lower ho9 (below_size (by repeat (first|(with_reducible first|exact HB.out|apply below_alloc|apply pw_below_drewN|apply below_drew1|refine below_set ?_ GE0.out|refine below_set ?_ GE286.out|refine below_set ?_ GE287.out)|exact HB.out))))
           have n1_:=Aside0.mk (blk_below (g:=g0_) (o:=.cells #[.slice A0_0 l0_0.length c0_0,.slice A0_1 l0_1.length c0_1,.slice A0_2 l0_2.length c0_2,.slice A0_3 l0_3.length c0_3] 30 (0,0)) (by (with_reducible repeat first|apply blk_drewN|apply blk_drew|apply blk_alloc);exact BK0.out) hb)
           have n2_:=Aside0.mk (blk_below (g:=gb286) (o:=.cells #[.pointer (some ⟨g0_,0,none⟩)] 87 (0,0)) (by (with_reducible repeat first|apply blk_drewN|apply blk_drew|apply blk_alloc);exact BK286.out) hb)
           have n3_:=Aside0.mk (blk_below (g:=gb287) (o:=.cells #[.int .i64 0,.slice none 0 0,.slice none 0 0] 61 (0,0)) (by (with_reducible repeat first|apply blk_drewN|apply blk_drew|apply blk_alloc);exact BK287.out) hb)
           have n4_:=Aside0.mk (below_step (by repeat (first|(with_reducible first|exact HB.out|apply below_alloc|apply pw_below_drewN|apply below_drew1|refine below_set ?_ GE0.out|refine below_set ?_ GE286.out|refine below_set ?_ GE287.out)|exact HB.out)) hb)
           clear BK0
           clear BK286
           clear BK287
           clear HB
           have HO293:=n0_
           have BK0:=n1_
           have BK286:=n2_
           have BK287:=n3_
           have HB:=n4_
           clear n0_ n1_ n2_ n3_ n4_
           clear hb ho9
           refine hK.out _ _ trivial (fun hHeld=>?_)
           clear hK K
           refine norm_ (a':=?_) ?_ ?_
           rotate_left
           ·show Act.put _ (some 16) _ = _
            simp only [Act.put,List.setIfInBounds_toArray,List.set_cons_zero,List.set_cons_succ,i64_w,i32_w]
            rfl
           exact norm_ (by first|(simp only [putAll,Act.put,List.setIfInBounds_toArray,List.set_cons_zero,List.set_cons_succ];done)|(simp only [putAll,Act.put,List.setIfInBounds_toArray,List.set_cons_zero,List.set_cons_succ];rfl)) (hJ2 (v292) _ ⟨(by (with_reducible repeat (first|apply Kd.S_alloc|apply Kd.S_drewN|apply Kd.S_drew));exact HO293.out),(by (with_reducible repeat first|apply blk_drewN|apply blk_drew|apply blk_alloc);exact BK0.out),(by (with_reducible repeat first|apply blk_drewN|apply blk_drew|apply blk_alloc);exact BK286.out),(by (with_reducible repeat first|apply blk_drewN|apply blk_drew|apply blk_alloc);exact BK287.out),(by repeat (first|(with_reducible first|exact HB.out|apply below_alloc|apply pw_below_drewN|apply below_drew1|refine below_set ?_ GE0.out|refine below_set ?_ GE286.out|refine below_set ?_ GE287.out)|exact HB.out))⟩)
          ·skip
           refine box_step ?hg (N:=6) ?hd (cs:=#[.int .i64 0,.slice none 0 0,.slice none 0 0]) (t:=61) ?hr ?_;(case hd=>rfl);(case hg=>rfl);(case hr=>first|(go_simp;done)|(go_simp;rfl))
           intro gb294 hg w8 hbox hb
           have n0_:=Aside0.mk (blk_below (g:=g0_) (o:=.cells #[.slice A0_0 l0_0.length c0_0,.slice A0_1 l0_1.length c0_1,.slice A0_2 l0_2.length c0_2,.slice A0_3 l0_3.length c0_3] 30 (0,0)) (by (with_reducible repeat first|apply blk_drewN|apply blk_drew|apply blk_alloc);exact BK0.out) hb)
           have n1_:=Aside0.mk (blk_below (g:=gb286) (o:=.cells #[.pointer (some ⟨g0_,0,none⟩)] 87 (0,0)) (by (with_reducible repeat first|apply blk_drewN|apply blk_drew|apply blk_alloc);exact BK286.out) hb)
           have n2_:=Aside0.mk (blk_below (g:=gb287) (o:=.cells #[.int .i64 0,.slice none 0 0,.slice none 0 0] 61 (0,0)) (by (with_reducible repeat first|apply blk_drewN|apply blk_drew|apply blk_alloc);exact BK287.out) hb)
           have n3_:=Aside0.mk (below_step (by repeat (first|(with_reducible first|exact HB.out|apply below_alloc|apply pw_below_drewN|apply below_drew1|refine below_set ?_ GE0.out|refine below_set ?_ GE286.out|refine below_set ?_ GE287.out)|exact HB.out)) hb)
           have n4_:=Aside0.mk (hbox)
           have n5_:=Aside0.mk ((by rw [hg];exact (below_size (by repeat (first|(with_reducible first|exact HB.out|apply below_alloc|apply pw_below_drewN|apply below_drew1|refine below_set ?_ GE0.out|refine below_set ?_ GE286.out|refine below_set ?_ GE287.out)|exact HB.out))) : w.heap.size ≤ gb294))
           have n6_:=Aside0.mk ((by rw [hg];exact (below_size (by repeat (first|(with_reducible first|exact HB.out|apply below_alloc|apply pw_below_drewN|apply below_drew1|refine below_set ?_ GE0.out|refine below_set ?_ GE286.out|refine below_set ?_ GE287.out)|exact HB.out))) : w.heap.size ≤ gb294))
           have n7_:=Aside0.mk ((by rw [hg];exact Nat.ne_of_lt (blk_lt (g:=g0_) (o:=.cells #[.slice A0_0 l0_0.length c0_0,.slice A0_1 l0_1.length c0_1,.slice A0_2 l0_2.length c0_2,.slice A0_3 l0_3.length c0_3] 30 (0,0)) (by (with_reducible repeat first|apply blk_drewN|apply blk_drew|apply blk_alloc);exact BK0.out)) : g0_ ≠ gb294))
           have n8_:=Aside0.mk ((by rw [hg];exact Nat.ne_of_gt (blk_lt (g:=g0_) (o:=.cells #[.slice A0_0 l0_0.length c0_0,.slice A0_1 l0_1.length c0_1,.slice A0_2 l0_2.length c0_2,.slice A0_3 l0_3.length c0_3] 30 (0,0)) (by (with_reducible repeat first|apply blk_drewN|apply blk_drew|apply blk_alloc);exact BK0.out)) : gb294 ≠ g0_))
           have n9_:=Aside0.mk ((by rw [hg];exact Nat.ne_of_lt (blk_lt (g:=gb286) (o:=.cells #[.pointer (some ⟨g0_,0,none⟩)] 87 (0,0)) (by (with_reducible repeat first|apply blk_drewN|apply blk_drew|apply blk_alloc);exact BK286.out)) : gb286 ≠ gb294))
           have n10_:=Aside0.mk ((by rw [hg];exact Nat.ne_of_gt (blk_lt (g:=gb286) (o:=.cells #[.pointer (some ⟨g0_,0,none⟩)] 87 (0,0)) (by (with_reducible repeat first|apply blk_drewN|apply blk_drew|apply blk_alloc);exact BK286.out)) : gb294 ≠ gb286))
           have n11_:=Aside0.mk ((by rw [hg];exact Nat.ne_of_lt (blk_lt (g:=gb287) (o:=.cells #[.int .i64 0,.slice none 0 0,.slice none 0 0] 61 (0,0)) (by (with_reducible repeat first|apply blk_drewN|apply blk_drew|apply blk_alloc);exact BK287.out)) : gb287 ≠ gb294))
           have n12_:=Aside0.mk ((by rw [hg];exact Nat.ne_of_gt (blk_lt (g:=gb287) (o:=.cells #[.int .i64 0,.slice none 0 0,.slice none 0 0] 61 (0,0)) (by (with_reducible repeat first|apply blk_drewN|apply blk_drew|apply blk_alloc);exact BK287.out)) : gb294 ≠ gb287))
           clear BK0
           clear BK286
           clear BK287
           clear HB
           have BK0:=n0_
           have BK286:=n1_
           have BK287:=n2_
           have HB:=n3_
           have BK294:=n4_
           have GW294:=n5_
           have GE294:=n6_
           have NB0_294:=n7_
           have NB294_0:=n8_
           have NB286_294:=n9_
           have NB294_286:=n10_
           have NB287_294:=n11_
           have NB294_287:=n12_
           clear n0_ n1_ n2_ n3_ n4_ n5_ n6_ n7_ n8_ n9_ n10_ n11_ n12_
           clear hb hbox hg
           refine hK.out _ _ trivial (fun hHeld=>?_)
           clear hK K
           refine norm_ (a':=?_) ?_ ?_
           rotate_left
           ·show Act.put _ (some 6) _ = _
            simp only [Act.put,List.setIfInBounds_toArray,List.set_cons_zero,List.set_cons_succ,i64_w,i32_w]
            rfl
           exact norm_ (by first|(simp only [putAll,Act.put,List.setIfInBounds_toArray,List.set_cons_zero,List.set_cons_succ];done)|(simp only [putAll,Act.put,List.setIfInBounds_toArray,List.set_cons_zero,List.set_cons_succ];rfl)) (hJ4 (gb294) _ ⟨(by (with_reducible repeat first|apply blk_drewN|apply blk_drew|apply blk_alloc);exact BK0.out),(by (with_reducible repeat first|apply blk_drewN|apply blk_drew|apply blk_alloc);exact BK286.out),(by (with_reducible repeat first|apply blk_drewN|apply blk_drew|apply blk_alloc);exact BK287.out),(by (with_reducible repeat first|apply blk_drewN|apply blk_drew|apply blk_alloc);exact BK294.out),GW294.out,GE294.out,NB0_294.out,NB294_0.out,NB286_294.out,NB294_286.out,NB287_294.out,NB294_287.out,(by repeat (first|(with_reducible first|exact HB.out|apply below_alloc|apply pw_below_drewN|apply below_drew1|refine below_set ?_ GE0.out|refine below_set ?_ GE286.out|refine below_set ?_ GE287.out|refine below_set ?_ GE294.out)|exact HB.out))⟩)
         ·skip
          rintro gb294 w9 ⟨h0_,h1_,h2_,h3_,h4_,h5_,h6_,h7_,h8_,h9_,h10_,h11_,h12_⟩
          have n0_ : Aside0 (w9.heap[g0_]? = some (.cells #[.slice A0_0 l0_0.length c0_0,.slice A0_1 l0_1.length c0_1,.slice A0_2 l0_2.length c0_2,.slice A0_3 l0_3.length c0_3] 30 (0,0))):=⟨h0_⟩
          have n1_ : Aside0 (w9.heap[gb286]? = some (.cells #[.pointer (some ⟨g0_,0,none⟩)] 87 (0,0))):=⟨h1_⟩
          have n2_ : Aside0 (w9.heap[gb287]? = some (.cells #[.int .i64 0,.slice none 0 0,.slice none 0 0] 61 (0,0))):=⟨h2_⟩
          have n3_ : Aside0 (w9.heap[gb294]? = some (.cells #[.int .i64 0,.slice none 0 0,.slice none 0 0] 61 (0,0))):=⟨h3_⟩
          have n4_ : Aside0 (w.heap.size ≤ gb294):=⟨h4_⟩
          have n5_ : Aside0 (w.heap.size ≤ gb294):=⟨h5_⟩
          have n6_ : Aside0 (g0_ ≠ gb294):=⟨h6_⟩
          have n7_ : Aside0 (gb294 ≠ g0_):=⟨h7_⟩
          have n8_ : Aside0 (gb286 ≠ gb294):=⟨h8_⟩
          have n9_ : Aside0 (gb294 ≠ gb286):=⟨h9_⟩
          have n10_ : Aside0 (gb287 ≠ gb294):=⟨h10_⟩
          have n11_ : Aside0 (gb294 ≠ gb287):=⟨h11_⟩
          have n12_ : Aside0 (Below w.heap.size w w9):=⟨h12_⟩
          clear BK0
          clear BK286
          clear BK287
          clear HB
          clear h0_ h1_ h2_ h3_ h4_ h5_ h6_ h7_ h8_ h9_ h10_ h11_ h12_
          have BK0:=n0_
          have BK286:=n1_
          have BK287:=n2_
          have BK294:=n3_
          have GW294:=n4_
          have GE294:=n5_
          have NB0_294:=n6_
          have NB294_0:=n7_
          have NB286_294:=n8_
          have NB294_286:=n9_
          have NB287_294:=n10_
          have NB294_287:=n11_
          have HB:=n12_
          clear n0_ n1_ n2_ n3_ n4_ n5_ n6_ n7_ n8_ n9_ n10_ n11_ n12_
          have hHeld:=trivial
          refine norm_ (a':=?_) ?_ ?_
          rotate_left
          ·simp only [putAll,Act.put,List.setIfInBounds_toArray,List.set_cons_zero,List.set_cons_succ]
           rfl
          refine two_ (i:=1) (j:=2) (Ni:=some 15) (Nj:=some 16) #[true,true,false,false,true,false] #[true,false,true,false,true,false] rfl rfl rfl rfl (by kernel_rfl) (by decide) (by decide) (fun K hK=>?_) (fun K hK=>?_)
          ·skip
           refine Kd.R_make_step (Kd.int .i64) _ 3 (by rfl) (N:=15) rfl 24 _ _ rfl 32 rfl rfl Try.underlying24 (.int .i64 0) 8 info3 rfl (by decide) (by omega) 0 (ok:=fun _=>True) (okp:=fun _=>True) rfl (fun _ hk=>hk) trivial (by omega) (by omega) (Below.refl _ _) (Nat.le_refl _) ?_
           intro v289 w10 ho11 hb hg_ hnew_
           clear hg_ hnew_
           (first|rw [← Ny288.out] at ho11|(simp only [Int.reduceToNat] at ho11;rw [← Ny288.out] at ho11))
           have n0_:=Aside0.mk (Kd.R_lower ho11 (below_size (by repeat (first|(with_reducible first|exact HB.out|apply below_alloc|apply pw_below_drewN|apply below_drew1|refine below_set ?_ GE0.out|refine below_set ?_ GE286.out|refine below_set ?_ GE287.out|refine below_set ?_ GE294.out)|exact HB.out))))
           have n1_:=Aside0.mk (blk_below (g:=g0_) (o:=.cells #[.slice A0_0 l0_0.length c0_0,.slice A0_1 l0_1.length c0_1,.slice A0_2 l0_2.length c0_2,.slice A0_3 l0_3.length c0_3] 30 (0,0)) (by (with_reducible repeat first|apply blk_drewN|apply blk_drew|apply blk_alloc);exact BK0.out) hb)
           have n2_:=Aside0.mk (blk_below (g:=gb286) (o:=.cells #[.pointer (some ⟨g0_,0,none⟩)] 87 (0,0)) (by (with_reducible repeat first|apply blk_drewN|apply blk_drew|apply blk_alloc);exact BK286.out) hb)
           have n3_:=Aside0.mk (blk_below (g:=gb287) (o:=.cells #[.int .i64 0,.slice none 0 0,.slice none 0 0] 61 (0,0)) (by (with_reducible repeat first|apply blk_drewN|apply blk_drew|apply blk_alloc);exact BK287.out) hb)
           have n4_:=Aside0.mk (blk_below (g:=gb294) (o:=.cells #[.int .i64 0,.slice none 0 0,.slice none 0 0] 61 (0,0)) (by (with_reducible repeat first|apply blk_drewN|apply blk_drew|apply blk_alloc);exact BK294.out) hb)
           have n5_:=Aside0.mk (below_step (by repeat (first|(with_reducible first|exact HB.out|apply below_alloc|apply pw_below_drewN|apply below_drew1|refine below_set ?_ GE0.out|refine below_set ?_ GE286.out|refine below_set ?_ GE287.out|refine below_set ?_ GE294.out)|exact HB.out)) hb)
           clear BK0
           clear BK286
           clear BK287
           clear BK294
           clear HB
           have HO290:=n0_
           have BK0:=n1_
           have BK286:=n2_
           have BK287:=n3_
           have BK294:=n4_
           have HB:=n5_
           clear n0_ n1_ n2_ n3_ n4_ n5_
           clear hb ho11
           refine hK.out _ _ trivial (fun hHeld=>?_)
           clear hK K
           refine norm_ (a':=?_) ?_ ?_
           rotate_left
           ·show Act.put _ (some 15) _ = _
            simp only [Act.put,List.setIfInBounds_toArray,List.set_cons_zero,List.set_cons_succ,i64_w,i32_w]
            rfl
           exact norm_ (by first|(simp only [putAll,Act.put,List.setIfInBounds_toArray,List.set_cons_zero,List.set_cons_succ];done)|(simp only [putAll,Act.put,List.setIfInBounds_toArray,List.set_cons_zero,List.set_cons_succ];rfl)) (hJ1_4 (v289,gb294) _ ⟨(by (with_reducible repeat (first|apply Kd.R_alloc|apply Kd.R_drewN|apply Kd.R_drew));exact HO290.out),(by (with_reducible repeat first|apply blk_drewN|apply blk_drew|apply blk_alloc);exact BK0.out),(by (with_reducible repeat first|apply blk_drewN|apply blk_drew|apply blk_alloc);exact BK286.out),(by (with_reducible repeat first|apply blk_drewN|apply blk_drew|apply blk_alloc);exact BK287.out),(by (with_reducible repeat first|apply blk_drewN|apply blk_drew|apply blk_alloc);exact BK294.out),GW294.out,GE294.out,NB0_294.out,NB294_0.out,NB286_294.out,NB294_286.out,NB287_294.out,NB294_287.out,(by repeat (first|(with_reducible first|exact HB.out|apply below_alloc|apply pw_below_drewN|apply below_drew1|refine below_set ?_ GE0.out|refine below_set ?_ GE286.out|refine below_set ?_ GE287.out|refine below_set ?_ GE294.out)|exact HB.out))⟩)
          ·skip
           refine Kd.S_make_step (Kd.slice 3 (Kd.int .i64)) _ 24 (by rfl) (N:=16) rfl 53 _ _ rfl 32 rfl rfl Try.underlying53 (.slice none 0 0) 24 info24 rfl (by decide) (by omega) [] (ok:=fun _=>True) (okp:=fun _=>True) ⟨_,rfl,Kd.R_nil _ _ _ _ _⟩ (fun _ hk=>hk) trivial (by omega) (by omega) (Below.refl _ _) (Nat.le_refl _) ?_
           intro v292 w10 ho11 hb hg_ hnew_
           clear hg_ hnew_
           (first|rw [← Ny291.out] at ho11|(simp only [Int.reduceToNat] at ho11;rw [← Ny291.out] at ho11))
           have n0_:=Aside0.mk (Kd.S_lower ho11 (below_size (by repeat (first|(with_reducible first|exact HB.out|apply below_alloc|apply pw_below_drewN|apply below_drew1|refine below_set ?_ GE0.out|refine below_set ?_ GE286.out|refine below_set ?_ GE287.out|refine below_set ?_ GE294.out)|exact HB.out))))
           have n1_:=Aside0.mk (blk_below (g:=g0_) (o:=.cells #[.slice A0_0 l0_0.length c0_0,.slice A0_1 l0_1.length c0_1,.slice A0_2 l0_2.length c0_2,.slice A0_3 l0_3.length c0_3] 30 (0,0)) (by (with_reducible repeat first|apply blk_drewN|apply blk_drew|apply blk_alloc);exact BK0.out) hb)
           have n2_:=Aside0.mk (blk_below (g:=gb286) (o:=.cells #[.pointer (some ⟨g0_,0,none⟩)] 87 (0,0)) (by (with_reducible repeat first|apply blk_drewN|apply blk_drew|apply blk_alloc);exact BK286.out) hb)
           have n3_:=Aside0.mk (blk_below (g:=gb287) (o:=.cells #[.int .i64 0,.slice none 0 0,.slice none 0 0] 61 (0,0)) (by (with_reducible repeat first|apply blk_drewN|apply blk_drew|apply blk_alloc);exact BK287.out) hb)
           have n4_:=Aside0.mk (blk_below (g:=gb294) (o:=.cells #[.int .i64 0,.slice none 0 0,.slice none 0 0] 61 (0,0)) (by (with_reducible repeat first|apply blk_drewN|apply blk_drew|apply blk_alloc);exact BK294.out) hb)
           have n5_:=Aside0.mk (below_step (by repeat (first|(with_reducible first|exact HB.out|apply below_alloc|apply pw_below_drewN|apply below_drew1|refine below_set ?_ GE0.out|refine below_set ?_ GE286.out|refine below_set ?_ GE287.out|refine below_set ?_ GE294.out)|exact HB.out)) hb)
           clear BK0
           clear BK286
           clear BK287
           clear BK294
           clear HB
           have HO293:=n0_
           have BK0:=n1_
           have BK286:=n2_
           have BK287:=n3_
           have BK294:=n4_
           have HB:=n5_
           clear n0_ n1_ n2_ n3_ n4_ n5_
           clear hb ho11
           refine hK.out _ _ trivial (fun hHeld=>?_)
           clear hK K
           refine norm_ (a':=?_) ?_ ?_
           rotate_left
           ·show Act.put _ (some 16) _ = _
            simp only [Act.put,List.setIfInBounds_toArray,List.set_cons_zero,List.set_cons_succ,i64_w,i32_w]
            rfl
           exact norm_ (by first|(simp only [putAll,Act.put,List.setIfInBounds_toArray,List.set_cons_zero,List.set_cons_succ];done)|(simp only [putAll,Act.put,List.setIfInBounds_toArray,List.set_cons_zero,List.set_cons_succ];rfl)) (hJ2_4 (v292,gb294) _ ⟨(by (with_reducible repeat (first|apply Kd.S_alloc|apply Kd.S_drewN|apply Kd.S_drew));exact HO293.out),(by (with_reducible repeat first|apply blk_drewN|apply blk_drew|apply blk_alloc);exact BK0.out),(by (with_reducible repeat first|apply blk_drewN|apply blk_drew|apply blk_alloc);exact BK286.out),(by (with_reducible repeat first|apply blk_drewN|apply blk_drew|apply blk_alloc);exact BK287.out),(by (with_reducible repeat first|apply blk_drewN|apply blk_drew|apply blk_alloc);exact BK294.out),GW294.out,GE294.out,NB0_294.out,NB294_0.out,NB286_294.out,NB294_286.out,NB287_294.out,NB294_287.out,(by repeat (first|(with_reducible first|exact HB.out|apply below_alloc|apply pw_below_drewN|apply below_drew1|refine below_set ?_ GE0.out|refine below_set ?_ GE286.out|refine below_set ?_ GE287.out|refine below_set ?_ GE294.out)|exact HB.out))⟩)
        ·skip
         rintro v292 w10 ⟨h0_,h1_,h2_,h3_,h4_⟩
         have n0_ : Aside0 (Kd.S (Kd.slice 3 (Kd.int .i64)) 24 w10 w.heap.size (fun _=>True) v292 y291):=⟨h0_⟩
         have n1_ : Aside0 (w10.heap[g0_]? = some (.cells #[.slice A0_0 l0_0.length c0_0,.slice A0_1 l0_1.length c0_1,.slice A0_2 l0_2.length c0_2,.slice A0_3 l0_3.length c0_3] 30 (0,0))):=⟨h1_⟩
         have n2_ : Aside0 (w10.heap[gb286]? = some (.cells #[.pointer (some ⟨g0_,0,none⟩)] 87 (0,0))):=⟨h2_⟩
         have n3_ : Aside0 (w10.heap[gb287]? = some (.cells #[.int .i64 0,.slice none 0 0,.slice none 0 0] 61 (0,0))):=⟨h3_⟩
         have n4_ : Aside0 (Below w.heap.size w w10):=⟨h4_⟩
         clear BK0
         clear BK286
         clear BK287
         clear HB
         clear h0_ h1_ h2_ h3_ h4_
         have HO293:=n0_
         have BK0:=n1_
         have BK286:=n2_
         have BK287:=n3_
         have HB:=n4_
         clear n0_ n1_ n2_ n3_ n4_
         have hHeld:=trivial
         refine norm_ (a':=?_) ?_ ?_
         rotate_left
         ·simp only [putAll,Act.put,List.setIfInBounds_toArray,List.set_cons_zero,List.set_cons_succ]
          rfl
         refine two_ (i:=1) (j:=4) (Ni:=some 15) (Nj:=some 6) #[true,true,true,false,false,false] #[true,false,true,false,true,false] rfl rfl rfl rfl (by kernel_rfl) (by decide) (by decide) (fun K hK=>?_) (fun K hK=>?_)
         ·skip
          refine Kd.R_make_step (Kd.int .i64) _ 3 (by rfl) (N:=15) rfl 24 _ _ rfl 32 rfl rfl Try.underlying24 (.int .i64 0) 8 info3 rfl (by decide) (by omega) 0 (ok:=fun _=>True) (okp:=fun _=>True) rfl (fun _ hk=>hk) trivial (by omega) (by omega) (Below.refl _ _) (Nat.le_refl _) ?_
          intro v289 w11 ho12 hb hg_ hnew_
          clear hg_ hnew_
          (first|rw [← Ny288.out] at ho12|(simp only [Int.reduceToNat] at ho12;rw [← Ny288.out] at ho12))
          have n0_:=Aside0.mk (Kd.S_elder' (by (with_reducible repeat (first|apply Kd.S_alloc|apply Kd.S_drewN|apply Kd.S_drew));exact HO293.out) (Kd.R_base ho12) hb)
          have n1_:=Aside0.mk (Kd.R_lower ho12 (below_size (by repeat (first|(with_reducible first|exact HB.out|apply below_alloc|apply pw_below_drewN|apply below_drew1|refine below_set ?_ GE0.out|refine below_set ?_ GE286.out|refine below_set ?_ GE287.out)|exact HB.out))))
          have n2_:=Aside0.mk (blk_below (g:=g0_) (o:=.cells #[.slice A0_0 l0_0.length c0_0,.slice A0_1 l0_1.length c0_1,.slice A0_2 l0_2.length c0_2,.slice A0_3 l0_3.length c0_3] 30 (0,0)) (by (with_reducible repeat first|apply blk_drewN|apply blk_drew|apply blk_alloc);exact BK0.out) hb)
          have n3_:=Aside0.mk (blk_below (g:=gb286) (o:=.cells #[.pointer (some ⟨g0_,0,none⟩)] 87 (0,0)) (by (with_reducible repeat first|apply blk_drewN|apply blk_drew|apply blk_alloc);exact BK286.out) hb)
          have n4_:=Aside0.mk (blk_below (g:=gb287) (o:=.cells #[.int .i64 0,.slice none 0 0,.slice none 0 0] 61 (0,0)) (by (with_reducible repeat first|apply blk_drewN|apply blk_drew|apply blk_alloc);exact BK287.out) hb)
          have n5_:=Aside0.mk (below_step (by repeat (first|(with_reducible first|exact HB.out|apply below_alloc|apply pw_below_drewN|apply below_drew1|refine below_set ?_ GE0.out|refine below_set ?_ GE286.out|refine below_set ?_ GE287.out)|exact HB.out)) hb)
          clear HO293
          clear BK0
          clear BK286
          clear BK287
          clear HB
          have HO293:=n0_
          have HO290:=n1_
          have BK0:=n2_
          have BK286:=n3_
          have BK287:=n4_
          have HB:=n5_
          clear n0_ n1_ n2_ n3_ n4_ n5_
          clear hb ho12
          obtain ⟨Ao13,co13,eo13⟩:=Kd.S_slice HO293.out
          (first|subst eo13|(injection eo13 with f1_ f2_ f3_;have f4_:=f1_.symm;have f5_:=f3_.symm;clear f1_ f2_ f3_;subst f4_;subst f5_))
          obtain ⟨Ao14,co14,eo14⟩:=Kd.R_slice HO290.out
          (first|subst eo14|(injection eo14 with f1_ f2_ f3_;have f4_:=f1_.symm;have f5_:=f3_.symm;clear f1_ f2_ f3_;subst f4_;subst f5_))
          refine hK.out _ _ trivial (fun hHeld=>?_)
          clear hK K
          refine norm_ (a':=?_) ?_ ?_
          rotate_left
          ·show Act.put _ (some 15) _ = _
           simp only [Act.put,List.setIfInBounds_toArray,List.set_cons_zero,List.set_cons_succ,i64_w,i32_w]
           rfl
          refine pure_ (i:=3) (N:=some 17) (v:=?_) (a':=?_) #[true,true,true,true,false,false] rfl rfl (by kernel_rfl) (fun _ _ _ h=>h) (Or.inl ⟨by rfl,?_⟩) ?_ ?_
          rotate_left
          ·intro w'
           go_simp
           with_reducible rfl
          rotate_left
          ·simp only [Act.put,List.setIfInBounds_toArray,List.set_cons_zero,List.set_cons_succ,i64_w,i32_w]
           rfl
          exact norm_ (by first|(simp only [putAll,Act.put,List.setIfInBounds_toArray,List.set_cons_zero,List.set_cons_succ];done)|(simp only [putAll,Act.put,List.setIfInBounds_toArray,List.set_cons_zero,List.set_cons_succ];rfl)) (hJ1_2 (.slice Ao14 y288.length co14,.slice Ao13 y291.length co13) _ ⟨(by (with_reducible repeat (first|apply Kd.R_alloc|apply Kd.R_drewN|apply Kd.R_drew));exact HO290.out),(by (with_reducible repeat (first|apply Kd.S_alloc|apply Kd.S_drewN|apply Kd.S_drew));exact Kd.S_mono HO293.out (fun _ hk=>hk.2)),(by (with_reducible repeat first|apply blk_drewN|apply blk_drew|apply blk_alloc);exact BK0.out),(by (with_reducible repeat first|apply blk_drewN|apply blk_drew|apply blk_alloc);exact BK286.out),(by (with_reducible repeat first|apply blk_drewN|apply blk_drew|apply blk_alloc);exact BK287.out),(by repeat (first|(with_reducible first|exact HB.out|apply below_alloc|apply pw_below_drewN|apply below_drew1|refine below_set ?_ GE0.out|refine below_set ?_ GE286.out|refine below_set ?_ GE287.out)|exact HB.out))⟩)
         ·skip
          refine box_step ?hg (N:=6) ?hd (cs:=#[.int .i64 0,.slice none 0 0,.slice none 0 0]) (t:=61) ?hr ?_;(case hd=>rfl);(case hg=>rfl);(case hr=>first|(go_simp;done)|(go_simp;rfl))
          intro gb294 hg w11 hbox hb
          have n0_:=Aside0.mk (Kd.S_below (by (with_reducible repeat (first|apply Kd.S_alloc|apply Kd.S_drewN|apply Kd.S_drew));exact HO293.out) hb)
          have n1_:=Aside0.mk (blk_below (g:=g0_) (o:=.cells #[.slice A0_0 l0_0.length c0_0,.slice A0_1 l0_1.length c0_1,.slice A0_2 l0_2.length c0_2,.slice A0_3 l0_3.length c0_3] 30 (0,0)) (by (with_reducible repeat first|apply blk_drewN|apply blk_drew|apply blk_alloc);exact BK0.out) hb)
          have n2_:=Aside0.mk (blk_below (g:=gb286) (o:=.cells #[.pointer (some ⟨g0_,0,none⟩)] 87 (0,0)) (by (with_reducible repeat first|apply blk_drewN|apply blk_drew|apply blk_alloc);exact BK286.out) hb)
          have n3_:=Aside0.mk (blk_below (g:=gb287) (o:=.cells #[.int .i64 0,.slice none 0 0,.slice none 0 0] 61 (0,0)) (by (with_reducible repeat first|apply blk_drewN|apply blk_drew|apply blk_alloc);exact BK287.out) hb)
          have n4_:=Aside0.mk (below_step (by repeat (first|(with_reducible first|exact HB.out|apply below_alloc|apply pw_below_drewN|apply below_drew1|refine below_set ?_ GE0.out|refine below_set ?_ GE286.out|refine below_set ?_ GE287.out)|exact HB.out)) hb)
          have n5_:=Aside0.mk (hbox)
          have n6_:=Aside0.mk ((by rw [hg];exact (below_size (by repeat (first|(with_reducible first|exact HB.out|apply below_alloc|apply pw_below_drewN|apply below_drew1|refine below_set ?_ GE0.out|refine below_set ?_ GE286.out|refine below_set ?_ GE287.out)|exact HB.out))) : w.heap.size ≤ gb294))
          have n7_:=Aside0.mk ((by rw [hg];exact (below_size (by repeat (first|(with_reducible first|exact HB.out|apply below_alloc|apply pw_below_drewN|apply below_drew1|refine below_set ?_ GE0.out|refine below_set ?_ GE286.out|refine below_set ?_ GE287.out)|exact HB.out))) : w.heap.size ≤ gb294))
          have n8_:=Aside0.mk ((by rw [hg];exact Nat.ne_of_lt (blk_lt (g:=g0_) (o:=.cells #[.slice A0_0 l0_0.length c0_0,.slice A0_1 l0_1.length c0_1,.slice A0_2 l0_2.length c0_2,.slice A0_3 l0_3.length c0_3] 30 (0,0)) (by (with_reducible repeat first|apply blk_drewN|apply blk_drew|apply blk_alloc);exact BK0.out)) : g0_ ≠ gb294))
          have n9_:=Aside0.mk ((by rw [hg];exact Nat.ne_of_gt (blk_lt (g:=g0_) (o:=.cells #[.slice A0_0 l0_0.length c0_0,.slice A0_1 l0_1.length c0_1,.slice A0_2 l0_2.length c0_2,.slice A0_3 l0_3.length c0_3] 30 (0,0)) (by (with_reducible repeat first|apply blk_drewN|apply blk_drew|apply blk_alloc);exact BK0.out)) : gb294 ≠ g0_))
          have n10_:=Aside0.mk ((by rw [hg];exact Nat.ne_of_lt (blk_lt (g:=gb286) (o:=.cells #[.pointer (some ⟨g0_,0,none⟩)] 87 (0,0)) (by (with_reducible repeat first|apply blk_drewN|apply blk_drew|apply blk_alloc);exact BK286.out)) : gb286 ≠ gb294))
          have n11_:=Aside0.mk ((by rw [hg];exact Nat.ne_of_gt (blk_lt (g:=gb286) (o:=.cells #[.pointer (some ⟨g0_,0,none⟩)] 87 (0,0)) (by (with_reducible repeat first|apply blk_drewN|apply blk_drew|apply blk_alloc);exact BK286.out)) : gb294 ≠ gb286))
          have n12_:=Aside0.mk ((by rw [hg];exact Nat.ne_of_lt (blk_lt (g:=gb287) (o:=.cells #[.int .i64 0,.slice none 0 0,.slice none 0 0] 61 (0,0)) (by (with_reducible repeat first|apply blk_drewN|apply blk_drew|apply blk_alloc);exact BK287.out)) : gb287 ≠ gb294))
          have n13_:=Aside0.mk ((by rw [hg];exact Nat.ne_of_gt (blk_lt (g:=gb287) (o:=.cells #[.int .i64 0,.slice none 0 0,.slice none 0 0] 61 (0,0)) (by (with_reducible repeat first|apply blk_drewN|apply blk_drew|apply blk_alloc);exact BK287.out)) : gb294 ≠ gb287))
          clear HO293
          clear BK0
          clear BK286
          clear BK287
          clear HB
          have HO293:=n0_
          have BK0:=n1_
          have BK286:=n2_
          have BK287:=n3_
          have HB:=n4_
          have BK294:=n5_
          have GW294:=n6_
          have GE294:=n7_
          have NB0_294:=n8_
          have NB294_0:=n9_
          have NB286_294:=n10_
          have NB294_286:=n11_
          have NB287_294:=n12_
          have NB294_287:=n13_
          clear n0_ n1_ n2_ n3_ n4_ n5_ n6_ n7_ n8_ n9_ n10_ n11_ n12_ n13_
          clear hb hbox hg
          refine hK.out _ _ trivial (fun hHeld=>?_)
          clear hK K
          refine norm_ (a':=?_) ?_ ?_
          rotate_left
          ·show Act.put _ (some 6) _ = _
           simp only [Act.put,List.setIfInBounds_toArray,List.set_cons_zero,List.set_cons_succ,i64_w,i32_w]
           rfl
          exact norm_ (by first|(simp only [putAll,Act.put,List.setIfInBounds_toArray,List.set_cons_zero,List.set_cons_succ];done)|(simp only [putAll,Act.put,List.setIfInBounds_toArray,List.set_cons_zero,List.set_cons_succ];rfl)) (hJ2_4 (v292,gb294) _ ⟨(by (with_reducible repeat (first|apply Kd.S_alloc|apply Kd.S_drewN|apply Kd.S_drew));exact HO293.out),(by (with_reducible repeat first|apply blk_drewN|apply blk_drew|apply blk_alloc);exact BK0.out),(by (with_reducible repeat first|apply blk_drewN|apply blk_drew|apply blk_alloc);exact BK286.out),(by (with_reducible repeat first|apply blk_drewN|apply blk_drew|apply blk_alloc);exact BK287.out),(by (with_reducible repeat first|apply blk_drewN|apply blk_drew|apply blk_alloc);exact BK294.out),GW294.out,GE294.out,NB0_294.out,NB294_0.out,NB286_294.out,NB294_286.out,NB287_294.out,NB294_287.out,(by repeat (first|(with_reducible first|exact HB.out|apply below_alloc|apply pw_below_drewN|apply below_drew1|refine below_set ?_ GE0.out|refine below_set ?_ GE286.out|refine below_set ?_ GE287.out|refine below_set ?_ GE294.out)|exact HB.out))⟩)
       ·skip
        rintro v289 w10 ⟨h0_,h1_,h2_,h3_,h4_⟩
        have n0_ : Aside0 (Kd.R (Kd.int .i64) 3 w10 w.heap.size (fun _=>True) v289 y288):=⟨h0_⟩
        have n1_ : Aside0 (w10.heap[g0_]? = some (.cells #[.slice A0_0 l0_0.length c0_0,.slice A0_1 l0_1.length c0_1,.slice A0_2 l0_2.length c0_2,.slice A0_3 l0_3.length c0_3] 30 (0,0))):=⟨h1_⟩
        have n2_ : Aside0 (w10.heap[gb286]? = some (.cells #[.pointer (some ⟨g0_,0,none⟩)] 87 (0,0))):=⟨h2_⟩
        have n3_ : Aside0 (w10.heap[gb287]? = some (.cells #[.int .i64 0,.slice none 0 0,.slice none 0 0] 61 (0,0))):=⟨h3_⟩
        have n4_ : Aside0 (Below w.heap.size w w10):=⟨h4_⟩
        clear BK0
        clear BK286
        clear BK287
        clear HB
        clear h0_ h1_ h2_ h3_ h4_
        have HO290:=n0_
        have BK0:=n1_
        have BK286:=n2_
        have BK287:=n3_
        have HB:=n4_
        clear n0_ n1_ n2_ n3_ n4_
        have hHeld:=trivial
        refine norm_ (a':=?_) ?_ ?_
        rotate_left
        ·simp only [putAll,Act.put,List.setIfInBounds_toArray,List.set_cons_zero,List.set_cons_succ]
         rfl
        refine two_ (i:=2) (j:=4) (Ni:=some 16) (Nj:=some 6) #[true,true,true,false,false,false] #[true,true,false,false,true,false] rfl rfl rfl rfl (by kernel_rfl) (by decide) (by decide) (fun K hK=>?_) (fun K hK=>?_)
        ·skip
         refine Kd.S_make_step (Kd.slice 3 (Kd.int .i64)) _ 24 (by rfl) (N:=16) rfl 53 _ _ rfl 32 rfl rfl Try.underlying53 (.slice none 0 0) 24 info24 rfl (by decide) (by omega) [] (ok:=fun _=>True) (okp:=fun _=>True) ⟨_,rfl,Kd.R_nil _ _ _ _ _⟩ (fun _ hk=>hk) trivial (by omega) (by omega) (Below.refl _ _) (Nat.le_refl _) ?_
         intro v292 w11 ho12 hb hg_ hnew_
         clear hg_ hnew_
         (first|rw [← Ny291.out] at ho12|(simp only [Int.reduceToNat] at ho12;rw [← Ny291.out] at ho12))
         have n0_:=Aside0.mk (Kd.R_below (by (with_reducible repeat (first|apply Kd.R_alloc|apply Kd.R_drewN|apply Kd.R_drew));exact HO290.out) hb)
         have n1_:=Aside0.mk (Kd.S_lower (Kd.S_new' ho12 (Kd.R_lt (by (with_reducible repeat (first|apply Kd.R_alloc|apply Kd.R_drewN|apply Kd.R_drew));exact HO290.out))) (below_size (by repeat (first|(with_reducible first|exact HB.out|apply below_alloc|apply pw_below_drewN|apply below_drew1|refine below_set ?_ GE0.out|refine below_set ?_ GE286.out|refine below_set ?_ GE287.out)|exact HB.out))))
         have n2_:=Aside0.mk (blk_below (g:=g0_) (o:=.cells #[.slice A0_0 l0_0.length c0_0,.slice A0_1 l0_1.length c0_1,.slice A0_2 l0_2.length c0_2,.slice A0_3 l0_3.length c0_3] 30 (0,0)) (by (with_reducible repeat first|apply blk_drewN|apply blk_drew|apply blk_alloc);exact BK0.out) hb)
         have n3_:=Aside0.mk (blk_below (g:=gb286) (o:=.cells #[.pointer (some ⟨g0_,0,none⟩)] 87 (0,0)) (by (with_reducible repeat first|apply blk_drewN|apply blk_drew|apply blk_alloc);exact BK286.out) hb)
         have n4_:=Aside0.mk (blk_below (g:=gb287) (o:=.cells #[.int .i64 0,.slice none 0 0,.slice none 0 0] 61 (0,0)) (by (with_reducible repeat first|apply blk_drewN|apply blk_drew|apply blk_alloc);exact BK287.out) hb)
         have n5_:=Aside0.mk (below_step (by repeat (first|(with_reducible first|exact HB.out|apply below_alloc|apply pw_below_drewN|apply below_drew1|refine below_set ?_ GE0.out|refine below_set ?_ GE286.out|refine below_set ?_ GE287.out)|exact HB.out)) hb)
         clear HO290
         clear BK0
         clear BK286
         clear BK287
         clear HB
         have HO290:=n0_
         have HO293:=n1_
         have BK0:=n2_
         have BK286:=n3_
         have BK287:=n4_
         have HB:=n5_
         clear n0_ n1_ n2_ n3_ n4_ n5_
         clear hb ho12
         obtain ⟨Ao13,co13,eo13⟩:=Kd.S_slice HO293.out
         (first|subst eo13|(injection eo13 with f1_ f2_ f3_;have f4_:=f1_.symm;have f5_:=f3_.symm;clear f1_ f2_ f3_;subst f4_;subst f5_))
         obtain ⟨Ao14,co14,eo14⟩:=Kd.R_slice HO290.out
         (first|subst eo14|(injection eo14 with f1_ f2_ f3_;have f4_:=f1_.symm;have f5_:=f3_.symm;clear f1_ f2_ f3_;subst f4_;subst f5_))
         refine hK.out _ _ trivial (fun hHeld=>?_)
         clear hK K
         refine norm_ (a':=?_) ?_ ?_
         rotate_left
         ·show Act.put _ (some 16) _ = _
          simp only [Act.put,List.setIfInBounds_toArray,List.set_cons_zero,List.set_cons_succ,i64_w,i32_w]
          rfl
         refine pure_ (i:=3) (N:=some 17) (v:=?_) (a':=?_) #[true,true,true,true,false,false] rfl rfl (by kernel_rfl) (fun _ _ _ h=>h) (Or.inl ⟨by rfl,?_⟩) ?_ ?_
         rotate_left
         ·intro w'
          go_simp
          with_reducible rfl
         rotate_left
         ·simp only [Act.put,List.setIfInBounds_toArray,List.set_cons_zero,List.set_cons_succ,i64_w,i32_w]
          rfl
         exact norm_ (by first|(simp only [putAll,Act.put,List.setIfInBounds_toArray,List.set_cons_zero,List.set_cons_succ];done)|(simp only [putAll,Act.put,List.setIfInBounds_toArray,List.set_cons_zero,List.set_cons_succ];rfl)) (hJ1_2 (.slice Ao14 y288.length co14,.slice Ao13 y291.length co13) _ ⟨(by (with_reducible repeat (first|apply Kd.R_alloc|apply Kd.R_drewN|apply Kd.R_drew));exact HO290.out),(by (with_reducible repeat (first|apply Kd.S_alloc|apply Kd.S_drewN|apply Kd.S_drew));exact Kd.S_mono HO293.out (fun _ hk=>hk.2)),(by (with_reducible repeat first|apply blk_drewN|apply blk_drew|apply blk_alloc);exact BK0.out),(by (with_reducible repeat first|apply blk_drewN|apply blk_drew|apply blk_alloc);exact BK286.out),(by (with_reducible repeat first|apply blk_drewN|apply blk_drew|apply blk_alloc);exact BK287.out),(by repeat (first|(with_reducible first|exact HB.out|apply below_alloc|apply pw_below_drewN|apply below_drew1|refine below_set ?_ GE0.out|refine below_set ?_ GE286.out|refine below_set ?_ GE287.out)|exact HB.out))⟩)
        ·skip
         refine box_step ?hg (N:=6) ?hd (cs:=#[.int .i64 0,.slice none 0 0,.slice none 0 0]) (t:=61) ?hr ?_;(case hd=>rfl);(case hg=>rfl);(case hr=>first|(go_simp;done)|(go_simp;rfl))
         intro gb294 hg w11 hbox hb
         have n0_:=Aside0.mk (Kd.R_below (by (with_reducible repeat (first|apply Kd.R_alloc|apply Kd.R_drewN|apply Kd.R_drew));exact HO290.out) hb)
         have n1_:=Aside0.mk (blk_below (g:=g0_) (o:=.cells #[.slice A0_0 l0_0.length c0_0,.slice A0_1 l0_1.length c0_1,.slice A0_2 l0_2.length c0_2,.slice A0_3 l0_3.length c0_3] 30 (0,0)) (by (with_reducible repeat first|apply blk_drewN|apply blk_drew|apply blk_alloc);exact BK0.out) hb)
         have n2_:=Aside0.mk (blk_below (g:=gb286) (o:=.cells #[.pointer (some ⟨g0_,0,none⟩)] 87 (0,0)) (by (with_reducible repeat first|apply blk_drewN|apply blk_drew|apply blk_alloc);exact BK286.out) hb)
         have n3_:=Aside0.mk (blk_below (g:=gb287) (o:=.cells #[.int .i64 0,.slice none 0 0,.slice none 0 0] 61 (0,0)) (by (with_reducible repeat first|apply blk_drewN|apply blk_drew|apply blk_alloc);exact BK287.out) hb)
         have n4_:=Aside0.mk (below_step (by repeat (first|(with_reducible first|exact HB.out|apply below_alloc|apply pw_below_drewN|apply below_drew1|refine below_set ?_ GE0.out|refine below_set ?_ GE286.out|refine below_set ?_ GE287.out)|exact HB.out)) hb)
         have n5_:=Aside0.mk (hbox)
         have n6_:=Aside0.mk ((by rw [hg];exact (below_size (by repeat (first|(with_reducible first|exact HB.out|apply below_alloc|apply pw_below_drewN|apply below_drew1|refine below_set ?_ GE0.out|refine below_set ?_ GE286.out|refine below_set ?_ GE287.out)|exact HB.out))) : w.heap.size ≤ gb294))
         have n7_:=Aside0.mk ((by rw [hg];exact (below_size (by repeat (first|(with_reducible first|exact HB.out|apply below_alloc|apply pw_below_drewN|apply below_drew1|refine below_set ?_ GE0.out|refine below_set ?_ GE286.out|refine below_set ?_ GE287.out)|exact HB.out))) : w.heap.size ≤ gb294))
         have n8_:=Aside0.mk ((by rw [hg];exact Nat.ne_of_lt (blk_lt (g:=g0_) (o:=.cells #[.slice A0_0 l0_0.length c0_0,.slice A0_1 l0_1.length c0_1,.slice A0_2 l0_2.length c0_2,.slice A0_3 l0_3.length c0_3] 30 (0,0)) (by (with_reducible repeat first|apply blk_drewN|apply blk_drew|apply blk_alloc);exact BK0.out)) : g0_ ≠ gb294))
         have n9_:=Aside0.mk ((by rw [hg];exact Nat.ne_of_gt (blk_lt (g:=g0_) (o:=.cells #[.slice A0_0 l0_0.length c0_0,.slice A0_1 l0_1.length c0_1,.slice A0_2 l0_2.length c0_2,.slice A0_3 l0_3.length c0_3] 30 (0,0)) (by (with_reducible repeat first|apply blk_drewN|apply blk_drew|apply blk_alloc);exact BK0.out)) : gb294 ≠ g0_))
         have n10_:=Aside0.mk ((by rw [hg];exact Nat.ne_of_lt (blk_lt (g:=gb286) (o:=.cells #[.pointer (some ⟨g0_,0,none⟩)] 87 (0,0)) (by (with_reducible repeat first|apply blk_drewN|apply blk_drew|apply blk_alloc);exact BK286.out)) : gb286 ≠ gb294))
         have n11_:=Aside0.mk ((by rw [hg];exact Nat.ne_of_gt (blk_lt (g:=gb286) (o:=.cells #[.pointer (some ⟨g0_,0,none⟩)] 87 (0,0)) (by (with_reducible repeat first|apply blk_drewN|apply blk_drew|apply blk_alloc);exact BK286.out)) : gb294 ≠ gb286))
         have n12_:=Aside0.mk ((by rw [hg];exact Nat.ne_of_lt (blk_lt (g:=gb287) (o:=.cells #[.int .i64 0,.slice none 0 0,.slice none 0 0] 61 (0,0)) (by (with_reducible repeat first|apply blk_drewN|apply blk_drew|apply blk_alloc);exact BK287.out)) : gb287 ≠ gb294))
         have n13_:=Aside0.mk ((by rw [hg];exact Nat.ne_of_gt (blk_lt (g:=gb287) (o:=.cells #[.int .i64 0,.slice none 0 0,.slice none 0 0] 61 (0,0)) (by (with_reducible repeat first|apply blk_drewN|apply blk_drew|apply blk_alloc);exact BK287.out)) : gb294 ≠ gb287))
         clear HO290
         clear BK0
         clear BK286
         clear BK287
         clear HB
         have HO290:=n0_
         have BK0:=n1_
         have BK286:=n2_
         have BK287:=n3_
         have HB:=n4_
         have BK294:=n5_
         have GW294:=n6_
         have GE294:=n7_
         have NB0_294:=n8_
         have NB294_0:=n9_
         have NB286_294:=n10_
         have NB294_286:=n11_
         have NB287_294:=n12_
         have NB294_287:=n13_
         clear n0_ n1_ n2_ n3_ n4_ n5_ n6_ n7_ n8_ n9_ n10_ n11_ n12_ n13_
         clear hb hbox hg
         refine hK.out _ _ trivial (fun hHeld=>?_)
         clear hK K
         refine norm_ (a':=?_) ?_ ?_
         rotate_left
         ·show Act.put _ (some 6) _ = _
          simp only [Act.put,List.setIfInBounds_toArray,List.set_cons_zero,List.set_cons_succ,i64_w,i32_w]
          rfl
         exact norm_ (by first|(simp only [putAll,Act.put,List.setIfInBounds_toArray,List.set_cons_zero,List.set_cons_succ];done)|(simp only [putAll,Act.put,List.setIfInBounds_toArray,List.set_cons_zero,List.set_cons_succ];rfl)) (hJ1_4 (v289,gb294) _ ⟨(by (with_reducible repeat (first|apply Kd.R_alloc|apply Kd.R_drewN|apply Kd.R_drew));exact HO290.out),(by (with_reducible repeat first|apply blk_drewN|apply blk_drew|apply blk_alloc);exact BK0.out),(by (with_reducible repeat first|apply blk_drewN|apply blk_drew|apply blk_alloc);exact BK286.out),(by (with_reducible repeat first|apply blk_drewN|apply blk_drew|apply blk_alloc);exact BK287.out),(by (with_reducible repeat first|apply blk_drewN|apply blk_drew|apply blk_alloc);exact BK294.out),GW294.out,GE294.out,NB0_294.out,NB294_0.out,NB286_294.out,NB294_286.out,NB287_294.out,NB294_287.out,(by repeat (first|(with_reducible first|exact HB.out|apply below_alloc|apply pw_below_drewN|apply below_drew1|refine below_set ?_ GE0.out|refine below_set ?_ GE286.out|refine below_set ?_ GE287.out|refine below_set ?_ GE294.out)|exact HB.out))⟩)
      ·skip
       rintro ⟨v292,gb294⟩ w11 ⟨h0_,h1_,h2_,h3_,h4_,h5_,h6_,h7_,h8_,h9_,h10_,h11_,h12_,h13_⟩
       have n0_ : Aside0 (Kd.S (Kd.slice 3 (Kd.int .i64)) 24 w11 w.heap.size (fun _=>True) v292 y291):=⟨h0_⟩
       have n1_ : Aside0 (w11.heap[g0_]? = some (.cells #[.slice A0_0 l0_0.length c0_0,.slice A0_1 l0_1.length c0_1,.slice A0_2 l0_2.length c0_2,.slice A0_3 l0_3.length c0_3] 30 (0,0))):=⟨h1_⟩
       have n2_ : Aside0 (w11.heap[gb286]? = some (.cells #[.pointer (some ⟨g0_,0,none⟩)] 87 (0,0))):=⟨h2_⟩
       have n3_ : Aside0 (w11.heap[gb287]? = some (.cells #[.int .i64 0,.slice none 0 0,.slice none 0 0] 61 (0,0))):=⟨h3_⟩
       have n4_ : Aside0 (w11.heap[gb294]? = some (.cells #[.int .i64 0,.slice none 0 0,.slice none 0 0] 61 (0,0))):=⟨h4_⟩
       have n5_ : Aside0 (w.heap.size ≤ gb294):=⟨h5_⟩
       have n6_ : Aside0 (w.heap.size ≤ gb294):=⟨h6_⟩
       have n7_ : Aside0 (g0_ ≠ gb294):=⟨h7_⟩
       have n8_ : Aside0 (gb294 ≠ g0_):=⟨h8_⟩
       have n9_ : Aside0 (gb286 ≠ gb294):=⟨h9_⟩
       have n10_ : Aside0 (gb294 ≠ gb286):=⟨h10_⟩
       have n11_ : Aside0 (gb287 ≠ gb294):=⟨h11_⟩
       have n12_ : Aside0 (gb294 ≠ gb287):=⟨h12_⟩
       have n13_ : Aside0 (Below w.heap.size w w11):=⟨h13_⟩
       clear BK0
       clear BK286
       clear BK287
       clear HB
       clear h0_ h1_ h2_ h3_ h4_ h5_ h6_ h7_ h8_ h9_ h10_ h11_ h12_ h13_
       have HO293:=n0_
       have BK0:=n1_
       have BK286:=n2_
       have BK287:=n3_
       have BK294:=n4_
       have GW294:=n5_
       have GE294:=n6_
       have NB0_294:=n7_
       have NB294_0:=n8_
       have NB286_294:=n9_
       have NB294_286:=n10_
       have NB287_294:=n11_
       have NB294_287:=n12_
       have HB:=n13_
       clear n0_ n1_ n2_ n3_ n4_ n5_ n6_ n7_ n8_ n9_ n10_ n11_ n12_ n13_
       have hHeld:=trivial
       refine norm_ (a':=?_) ?_ ?_
       rotate_left
       ·simp only [putAll,Act.put,List.setIfInBounds_toArray,List.set_cons_zero,List.set_cons_succ]
        rfl
       refine one_ (i:=1) (N:=some 15) #[true,true,true,false,true,false] rfl rfl (by kernel_rfl) (by decide) (fun K hK=>?_)
       refine Kd.R_make_step (Kd.int .i64) _ 3 (by rfl) (N:=15) rfl 24 _ _ rfl 32 rfl rfl Try.underlying24 (.int .i64 0) 8 info3 rfl (by decide) (by omega) 0 (ok:=fun _=>True) (okp:=fun _=>True) rfl (fun _ hk=>hk) trivial (by omega) (by omega) (Below.refl _ _) (Nat.le_refl _) ?_
       intro v289 w12 ho13 hb hg_ hnew_
       clear hg_ hnew_
       (first|rw [← Ny288.out] at ho13|(simp only [Int.reduceToNat] at ho13;rw [← Ny288.out] at ho13))
       have n0_:=Aside0.mk (Kd.S_elder' (by (with_reducible repeat (first|apply Kd.S_alloc|apply Kd.S_drewN|apply Kd.S_drew));exact HO293.out) (Kd.R_base ho13) hb)
       have n1_:=Aside0.mk (Kd.R_lower ho13 (below_size (by repeat (first|(with_reducible first|exact HB.out|apply below_alloc|apply pw_below_drewN|apply below_drew1|refine below_set ?_ GE0.out|refine below_set ?_ GE286.out|refine below_set ?_ GE287.out|refine below_set ?_ GE294.out)|exact HB.out))))
       have n2_:=Aside0.mk (blk_below (g:=g0_) (o:=.cells #[.slice A0_0 l0_0.length c0_0,.slice A0_1 l0_1.length c0_1,.slice A0_2 l0_2.length c0_2,.slice A0_3 l0_3.length c0_3] 30 (0,0)) (by (with_reducible repeat first|apply blk_drewN|apply blk_drew|apply blk_alloc);exact BK0.out) hb)
       have n3_:=Aside0.mk (blk_below (g:=gb286) (o:=.cells #[.pointer (some ⟨g0_,0,none⟩)] 87 (0,0)) (by (with_reducible repeat first|apply blk_drewN|apply blk_drew|apply blk_alloc);exact BK286.out) hb)
       have n4_:=Aside0.mk (blk_below (g:=gb287) (o:=.cells #[.int .i64 0,.slice none 0 0,.slice none 0 0] 61 (0,0)) (by (with_reducible repeat first|apply blk_drewN|apply blk_drew|apply blk_alloc);exact BK287.out) hb)
       have n5_:=Aside0.mk (blk_below (g:=gb294) (o:=.cells #[.int .i64 0,.slice none 0 0,.slice none 0 0] 61 (0,0)) (by (with_reducible repeat first|apply blk_drewN|apply blk_drew|apply blk_alloc);exact BK294.out) hb)
       have n6_:=Aside0.mk (below_step (by repeat (first|(with_reducible first|exact HB.out|apply below_alloc|apply pw_below_drewN|apply below_drew1|refine below_set ?_ GE0.out|refine below_set ?_ GE286.out|refine below_set ?_ GE287.out|refine below_set ?_ GE294.out)|exact HB.out)) hb)
       clear HO293
       clear BK0
       clear BK286
       clear BK287
       clear BK294
       clear HB
       have HO293:=n0_
       have HO290:=n1_
       have BK0:=n2_
       have BK286:=n3_
       have BK287:=n4_
       have BK294:=n5_
       have HB:=n6_
       clear n0_ n1_ n2_ n3_ n4_ n5_ n6_
       clear hb ho13
       obtain ⟨Ao14,co14,eo14⟩:=Kd.S_slice HO293.out
       (first|subst eo14|(injection eo14 with f1_ f2_ f3_;have f4_:=f1_.symm;have f5_:=f3_.symm;clear f1_ f2_ f3_;subst f4_;subst f5_))
       obtain ⟨Ao15,co15,eo15⟩:=Kd.R_slice HO290.out
       (first|subst eo15|(injection eo15 with f1_ f2_ f3_;have f4_:=f1_.symm;have f5_:=f3_.symm;clear f1_ f2_ f3_;subst f4_;subst f5_))
       refine hK.out _ _ trivial (fun hHeld=>?_)
       clear hK K
       refine norm_ (a':=?_) ?_ ?_
       rotate_left
       ·show Act.put _ (some 15) _ = _
        simp only [Act.put,List.setIfInBounds_toArray,List.set_cons_zero,List.set_cons_succ,i64_w,i32_w]
        rfl
       refine pure_ (i:=3) (N:=some 17) (v:=?_) (a':=?_) #[true,true,true,true,true,false] rfl rfl (by kernel_rfl) (fun _ _ _ h=>h) (Or.inl ⟨by rfl,?_⟩) ?_ ?_
       rotate_left
       ·intro w'
        go_simp
        with_reducible rfl
       rotate_left
       ·simp only [Act.put,List.setIfInBounds_toArray,List.set_cons_zero,List.set_cons_succ,i64_w,i32_w]
        rfl
       exact norm_ (by first|(simp only [putAll,Act.put,List.setIfInBounds_toArray,List.set_cons_zero,List.set_cons_succ];done)|(simp only [putAll,Act.put,List.setIfInBounds_toArray,List.set_cons_zero,List.set_cons_succ];rfl)) (hJ1_2_4 (.slice Ao15 y288.length co15,.slice Ao14 y291.length co14,gb294) _ ⟨(by (with_reducible repeat (first|apply Kd.R_alloc|apply Kd.R_drewN|apply Kd.R_drew));exact HO290.out),(by (with_reducible repeat (first|apply Kd.S_alloc|apply Kd.S_drewN|apply Kd.S_drew));exact Kd.S_mono HO293.out (fun _ hk=>hk.2)),(by (with_reducible repeat first|apply blk_drewN|apply blk_drew|apply blk_alloc);exact BK0.out),(by (with_reducible repeat first|apply blk_drewN|apply blk_drew|apply blk_alloc);exact BK286.out),(by (with_reducible repeat first|apply blk_drewN|apply blk_drew|apply blk_alloc);exact BK287.out),(by (with_reducible repeat first|apply blk_drewN|apply blk_drew|apply blk_alloc);exact BK294.out),GW294.out,GE294.out,NB0_294.out,NB294_0.out,NB286_294.out,NB294_286.out,NB287_294.out,NB294_287.out,(by repeat (first|(with_reducible first|exact HB.out|apply below_alloc|apply pw_below_drewN|apply below_drew1|refine below_set ?_ GE0.out|refine below_set ?_ GE286.out|refine below_set ?_ GE287.out|refine below_set ?_ GE294.out)|exact HB.out))⟩)
     ·skip
      rintro ⟨v289,gb294⟩ w11 ⟨h0_,h1_,h2_,h3_,h4_,h5_,h6_,h7_,h8_,h9_,h10_,h11_,h12_,h13_⟩
      have n0_ : Aside0 (Kd.R (Kd.int .i64) 3 w11 w.heap.size (fun _=>True) v289 y288):=⟨h0_⟩
      have n1_ : Aside0 (w11.heap[g0_]? = some (.cells #[.slice A0_0 l0_0.length c0_0,.slice A0_1 l0_1.length c0_1,.slice A0_2 l0_2.length c0_2,.slice A0_3 l0_3.length c0_3] 30 (0,0))):=⟨h1_⟩
      have n2_ : Aside0 (w11.heap[gb286]? = some (.cells #[.pointer (some ⟨g0_,0,none⟩)] 87 (0,0))):=⟨h2_⟩
      have n3_ : Aside0 (w11.heap[gb287]? = some (.cells #[.int .i64 0,.slice none 0 0,.slice none 0 0] 61 (0,0))):=⟨h3_⟩
      have n4_ : Aside0 (w11.heap[gb294]? = some (.cells #[.int .i64 0,.slice none 0 0,.slice none 0 0] 61 (0,0))):=⟨h4_⟩
      have n5_ : Aside0 (w.heap.size ≤ gb294):=⟨h5_⟩
      have n6_ : Aside0 (w.heap.size ≤ gb294):=⟨h6_⟩
      have n7_ : Aside0 (g0_ ≠ gb294):=⟨h7_⟩
      have n8_ : Aside0 (gb294 ≠ g0_):=⟨h8_⟩
      have n9_ : Aside0 (gb286 ≠ gb294):=⟨h9_⟩
      have n10_ : Aside0 (gb294 ≠ gb286):=⟨h10_⟩
      have n11_ : Aside0 (gb287 ≠ gb294):=⟨h11_⟩
      have n12_ : Aside0 (gb294 ≠ gb287):=⟨h12_⟩
      have n13_ : Aside0 (Below w.heap.size w w11):=⟨h13_⟩
      clear BK0
      clear BK286
      clear BK287
      clear HB
      clear h0_ h1_ h2_ h3_ h4_ h5_ h6_ h7_ h8_ h9_ h10_ h11_ h12_ h13_
      have HO290:=n0_
      have BK0:=n1_
      have BK286:=n2_
      have BK287:=n3_
      have BK294:=n4_
      have GW294:=n5_
      have GE294:=n6_
      have NB0_294:=n7_
      have NB294_0:=n8_
      have NB286_294:=n9_
      have NB294_286:=n10_
      have NB287_294:=n11_
      have NB294_287:=n12_
      have HB:=n13_
      clear n0_ n1_ n2_ n3_ n4_ n5_ n6_ n7_ n8_ n9_ n10_ n11_ n12_ n13_
      have hHeld:=trivial
      refine norm_ (a':=?_) ?_ ?_
      rotate_left
      ·simp only [putAll,Act.put,List.setIfInBounds_toArray,List.set_cons_zero,List.set_cons_succ]
       rfl
      refine one_ (i:=2) (N:=some 16) #[true,true,true,false,true,false] rfl rfl (by kernel_rfl) (by decide) (fun K hK=>?_)
      refine Kd.S_make_step (Kd.slice 3 (Kd.int .i64)) _ 24 (by rfl) (N:=16) rfl 53 _ _ rfl 32 rfl rfl Try.underlying53 (.slice none 0 0) 24 info24 rfl (by decide) (by omega) [] (ok:=fun _=>True) (okp:=fun _=>True) ⟨_,rfl,Kd.R_nil _ _ _ _ _⟩ (fun _ hk=>hk) trivial (by omega) (by omega) (Below.refl _ _) (Nat.le_refl _) ?_
      intro v292 w12 ho13 hb hg_ hnew_
      clear hg_ hnew_
      (first|rw [← Ny291.out] at ho13|(simp only [Int.reduceToNat] at ho13;rw [← Ny291.out] at ho13))
      have n0_:=Aside0.mk (Kd.R_below (by (with_reducible repeat (first|apply Kd.R_alloc|apply Kd.R_drewN|apply Kd.R_drew));exact HO290.out) hb)
      have n1_:=Aside0.mk (Kd.S_lower (Kd.S_new' ho13 (Kd.R_lt (by (with_reducible repeat (first|apply Kd.R_alloc|apply Kd.R_drewN|apply Kd.R_drew));exact HO290.out))) (below_size (by repeat (first|(with_reducible first|exact HB.out|apply below_alloc|apply pw_below_drewN|apply below_drew1|refine below_set ?_ GE0.out|refine below_set ?_ GE286.out|refine below_set ?_ GE287.out|refine below_set ?_ GE294.out)|exact HB.out))))
      have n2_:=Aside0.mk (blk_below (g:=g0_) (o:=.cells #[.slice A0_0 l0_0.length c0_0,.slice A0_1 l0_1.length c0_1,.slice A0_2 l0_2.length c0_2,.slice A0_3 l0_3.length c0_3] 30 (0,0)) (by (with_reducible repeat first|apply blk_drewN|apply blk_drew|apply blk_alloc);exact BK0.out) hb)
      have n3_:=Aside0.mk (blk_below (g:=gb286) (o:=.cells #[.pointer (some ⟨g0_,0,none⟩)] 87 (0,0)) (by (with_reducible repeat first|apply blk_drewN|apply blk_drew|apply blk_alloc);exact BK286.out) hb)
      have n4_:=Aside0.mk (blk_below (g:=gb287) (o:=.cells #[.int .i64 0,.slice none 0 0,.slice none 0 0] 61 (0,0)) (by (with_reducible repeat first|apply blk_drewN|apply blk_drew|apply blk_alloc);exact BK287.out) hb)
      have n5_:=Aside0.mk (blk_below (g:=gb294) (o:=.cells #[.int .i64 0,.slice none 0 0,.slice none 0 0] 61 (0,0)) (by (with_reducible repeat first|apply blk_drewN|apply blk_drew|apply blk_alloc);exact BK294.out) hb)
      have n6_:=Aside0.mk (below_step (by repeat (first|(with_reducible first|exact HB.out|apply below_alloc|apply pw_below_drewN|apply below_drew1|refine below_set ?_ GE0.out|refine below_set ?_ GE286.out|refine below_set ?_ GE287.out|refine below_set ?_ GE294.out)|exact HB.out)) hb)
      clear HO290
      clear BK0
      clear BK286
      clear BK287
      clear BK294
      clear HB
      have HO290:=n0_
      have HO293:=n1_
      have BK0:=n2_
      have BK286:=n3_
      have BK287:=n4_
      have BK294:=n5_
      have HB:=n6_
      clear n0_ n1_ n2_ n3_ n4_ n5_ n6_
      clear hb ho13
      obtain ⟨Ao14,co14,eo14⟩:=Kd.S_slice HO293.out
      (first|subst eo14|(injection eo14 with f1_ f2_ f3_;have f4_:=f1_.symm;have f5_:=f3_.symm;clear f1_ f2_ f3_;subst f4_;subst f5_))
      obtain ⟨Ao15,co15,eo15⟩:=Kd.R_slice HO290.out
      (first|subst eo15|(injection eo15 with f1_ f2_ f3_;have f4_:=f1_.symm;have f5_:=f3_.symm;clear f1_ f2_ f3_;subst f4_;subst f5_))
      refine hK.out _ _ trivial (fun hHeld=>?_)
      clear hK K
      refine norm_ (a':=?_) ?_ ?_
      rotate_left
      ·show Act.put _ (some 16) _ = _
       simp only [Act.put,List.setIfInBounds_toArray,List.set_cons_zero,List.set_cons_succ,i64_w,i32_w]
       rfl
      refine pure_ (i:=3) (N:=some 17) (v:=?_) (a':=?_) #[true,true,true,true,true,false] rfl rfl (by kernel_rfl) (fun _ _ _ h=>h) (Or.inl ⟨by rfl,?_⟩) ?_ ?_
      rotate_left
      ·intro w'
       go_simp
       with_reducible rfl
      rotate_left
      ·simp only [Act.put,List.setIfInBounds_toArray,List.set_cons_zero,List.set_cons_succ,i64_w,i32_w]
       rfl
      exact norm_ (by first|(simp only [putAll,Act.put,List.setIfInBounds_toArray,List.set_cons_zero,List.set_cons_succ];done)|(simp only [putAll,Act.put,List.setIfInBounds_toArray,List.set_cons_zero,List.set_cons_succ];rfl)) (hJ1_2_4 (.slice Ao15 y288.length co15,.slice Ao14 y291.length co14,gb294) _ ⟨(by (with_reducible repeat (first|apply Kd.R_alloc|apply Kd.R_drewN|apply Kd.R_drew));exact HO290.out),(by (with_reducible repeat (first|apply Kd.S_alloc|apply Kd.S_drewN|apply Kd.S_drew));exact Kd.S_mono HO293.out (fun _ hk=>hk.2)),(by (with_reducible repeat first|apply blk_drewN|apply blk_drew|apply blk_alloc);exact BK0.out),(by (with_reducible repeat first|apply blk_drewN|apply blk_drew|apply blk_alloc);exact BK286.out),(by (with_reducible repeat first|apply blk_drewN|apply blk_drew|apply blk_alloc);exact BK287.out),(by (with_reducible repeat first|apply blk_drewN|apply blk_drew|apply blk_alloc);exact BK294.out),GW294.out,GE294.out,NB0_294.out,NB294_0.out,NB286_294.out,NB294_286.out,NB287_294.out,NB294_287.out,(by repeat (first|(with_reducible first|exact HB.out|apply below_alloc|apply pw_below_drewN|apply below_drew1|refine below_set ?_ GE0.out|refine below_set ?_ GE286.out|refine below_set ?_ GE287.out|refine below_set ?_ GE294.out)|exact HB.out))⟩)
    ·skip
     rintro ⟨v289,v292⟩ w14 ⟨h0_,h1_,h2_,h3_,h4_,h5_⟩
     have n0_ : Aside0 (Kd.R (Kd.int .i64) 3 w14 w.heap.size (fun _=>True) v289 y288):=⟨h0_⟩
     have n1_ : Aside0 (Kd.S (Kd.slice 3 (Kd.int .i64)) 24 w14 w.heap.size (fun k_=>some k_ ≠ (v289 : Value).ownBlock) v292 y291):=⟨h1_⟩
     have n2_ : Aside0 (w14.heap[g0_]? = some (.cells #[.slice A0_0 l0_0.length c0_0,.slice A0_1 l0_1.length c0_1,.slice A0_2 l0_2.length c0_2,.slice A0_3 l0_3.length c0_3] 30 (0,0))):=⟨h2_⟩
     have n3_ : Aside0 (w14.heap[gb286]? = some (.cells #[.pointer (some ⟨g0_,0,none⟩)] 87 (0,0))):=⟨h3_⟩
     have n4_ : Aside0 (w14.heap[gb287]? = some (.cells #[.int .i64 0,.slice none 0 0,.slice none 0 0] 61 (0,0))):=⟨h4_⟩
     have n5_ : Aside0 (Below w.heap.size w w14):=⟨h5_⟩
     clear BK0
     clear BK286
     clear BK287
     clear HB
     clear h0_ h1_ h2_ h3_ h4_ h5_
     have HO290:=n0_
     have HO293:=n1_
     have BK0:=n2_
     have BK286:=n3_
     have BK287:=n4_
     have HB:=n5_
     clear n0_ n1_ n2_ n3_ n4_ n5_
     have hHeld:=trivial
     obtain ⟨Ao15,co15,eo15⟩:=Kd.S_slice HO293.out
     (first|subst eo15|(injection eo15 with f1_ f2_ f3_;have f4_:=f1_.symm;have f5_:=f3_.symm;clear f1_ f2_ f3_;subst f4_;subst f5_))
     obtain ⟨Ao16,co16,eo16⟩:=Kd.R_slice HO290.out
     (first|subst eo16|(injection eo16 with f1_ f2_ f3_;have f4_:=f1_.symm;have f5_:=f3_.symm;clear f1_ f2_ f3_;subst f4_;subst f5_))
     refine norm_ (a':=?_) ?_ ?_
     rotate_left
     ·simp only [putAll,Act.put,List.setIfInBounds_toArray,List.set_cons_zero,List.set_cons_succ]
      rfl
     refine one_ (i:=4) (N:=some 6) #[true,true,true,true,true,false] rfl rfl (by kernel_rfl) (by decide) (fun K hK=>?_)
     refine box_step ?hg (N:=6) ?hd (cs:=#[.int .i64 0,.slice none 0 0,.slice none 0 0]) (t:=61) ?hr ?_;(case hd=>rfl);(case hg=>rfl);(case hr=>first|(go_simp;done)|(go_simp;rfl))
     intro gb294 hg w17 hbox hb
     have n0_:=Aside0.mk (Kd.R_below (by (with_reducible repeat (first|apply Kd.R_alloc|apply Kd.R_drewN|apply Kd.R_drew));exact HO290.out) hb)
     have n1_:=Aside0.mk (Kd.S_below (by (with_reducible repeat (first|apply Kd.S_alloc|apply Kd.S_drewN|apply Kd.S_drew));exact HO293.out) hb)
     have n2_:=Aside0.mk (blk_below (g:=g0_) (o:=.cells #[.slice A0_0 l0_0.length c0_0,.slice A0_1 l0_1.length c0_1,.slice A0_2 l0_2.length c0_2,.slice A0_3 l0_3.length c0_3] 30 (0,0)) (by (with_reducible repeat first|apply blk_drewN|apply blk_drew|apply blk_alloc);exact BK0.out) hb)
     have n3_:=Aside0.mk (blk_below (g:=gb286) (o:=.cells #[.pointer (some ⟨g0_,0,none⟩)] 87 (0,0)) (by (with_reducible repeat first|apply blk_drewN|apply blk_drew|apply blk_alloc);exact BK286.out) hb)
     have n4_:=Aside0.mk (blk_below (g:=gb287) (o:=.cells #[.int .i64 0,.slice none 0 0,.slice none 0 0] 61 (0,0)) (by (with_reducible repeat first|apply blk_drewN|apply blk_drew|apply blk_alloc);exact BK287.out) hb)
     have n5_:=Aside0.mk (below_step (by repeat (first|(with_reducible first|exact HB.out|apply below_alloc|apply pw_below_drewN|apply below_drew1|refine below_set ?_ GE0.out|refine below_set ?_ GE286.out|refine below_set ?_ GE287.out)|exact HB.out)) hb)
     have n6_:=Aside0.mk (hbox)
     have n7_:=Aside0.mk ((by rw [hg];exact (below_size (by repeat (first|(with_reducible first|exact HB.out|apply below_alloc|apply pw_below_drewN|apply below_drew1|refine below_set ?_ GE0.out|refine below_set ?_ GE286.out|refine below_set ?_ GE287.out)|exact HB.out))) : w.heap.size ≤ gb294))
     have n8_:=Aside0.mk ((by rw [hg];exact (below_size (by repeat (first|(with_reducible first|exact HB.out|apply below_alloc|apply pw_below_drewN|apply below_drew1|refine below_set ?_ GE0.out|refine below_set ?_ GE286.out|refine below_set ?_ GE287.out)|exact HB.out))) : w.heap.size ≤ gb294))
     have n9_:=Aside0.mk ((by rw [hg];exact Nat.ne_of_lt (blk_lt (g:=g0_) (o:=.cells #[.slice A0_0 l0_0.length c0_0,.slice A0_1 l0_1.length c0_1,.slice A0_2 l0_2.length c0_2,.slice A0_3 l0_3.length c0_3] 30 (0,0)) (by (with_reducible repeat first|apply blk_drewN|apply blk_drew|apply blk_alloc);exact BK0.out)) : g0_ ≠ gb294))
     have n10_:=Aside0.mk ((by rw [hg];exact Nat.ne_of_gt (blk_lt (g:=g0_) (o:=.cells #[.slice A0_0 l0_0.length c0_0,.slice A0_1 l0_1.length c0_1,.slice A0_2 l0_2.length c0_2,.slice A0_3 l0_3.length c0_3] 30 (0,0)) (by (with_reducible repeat first|apply blk_drewN|apply blk_drew|apply blk_alloc);exact BK0.out)) : gb294 ≠ g0_))
     have n11_:=Aside0.mk ((by rw [hg];exact Nat.ne_of_lt (blk_lt (g:=gb286) (o:=.cells #[.pointer (some ⟨g0_,0,none⟩)] 87 (0,0)) (by (with_reducible repeat first|apply blk_drewN|apply blk_drew|apply blk_alloc);exact BK286.out)) : gb286 ≠ gb294))
     have n12_:=Aside0.mk ((by rw [hg];exact Nat.ne_of_gt (blk_lt (g:=gb286) (o:=.cells #[.pointer (some ⟨g0_,0,none⟩)] 87 (0,0)) (by (with_reducible repeat first|apply blk_drewN|apply blk_drew|apply blk_alloc);exact BK286.out)) : gb294 ≠ gb286))
     have n13_:=Aside0.mk ((by rw [hg];exact Nat.ne_of_lt (blk_lt (g:=gb287) (o:=.cells #[.int .i64 0,.slice none 0 0,.slice none 0 0] 61 (0,0)) (by (with_reducible repeat first|apply blk_drewN|apply blk_drew|apply blk_alloc);exact BK287.out)) : gb287 ≠ gb294))
     have n14_:=Aside0.mk ((by rw [hg];exact Nat.ne_of_gt (blk_lt (g:=gb287) (o:=.cells #[.int .i64 0,.slice none 0 0,.slice none 0 0] 61 (0,0)) (by (with_reducible repeat first|apply blk_drewN|apply blk_drew|apply blk_alloc);exact BK287.out)) : gb294 ≠ gb287))
     clear HO290
     clear HO293
     clear BK0
     clear BK286
     clear BK287
     clear HB
     have HO290:=n0_
     have HO293:=n1_
     have BK0:=n2_
     have BK286:=n3_
     have BK287:=n4_
     have HB:=n5_
     have BK294:=n6_
     have GW294:=n7_
     have GE294:=n8_
     have NB0_294:=n9_
     have NB294_0:=n10_
     have NB286_294:=n11_
     have NB294_286:=n12_
     have NB287_294:=n13_
     have NB294_287:=n14_
     clear n0_ n1_ n2_ n3_ n4_ n5_ n6_ n7_ n8_ n9_ n10_ n11_ n12_ n13_ n14_
     clear hb hbox hg
     refine hK.out _ _ trivial (fun hHeld=>?_)
     clear hK K
     refine norm_ (a':=?_) ?_ ?_
     rotate_left
     ·show Act.put _ (some 6) _ = _
      simp only [Act.put,List.setIfInBounds_toArray,List.set_cons_zero,List.set_cons_succ,i64_w,i32_w]
      rfl
     exact norm_ (by first|(simp only [putAll,Act.put,List.setIfInBounds_toArray,List.set_cons_zero,List.set_cons_succ];done)|(simp only [putAll,Act.put,List.setIfInBounds_toArray,List.set_cons_zero,List.set_cons_succ];rfl)) (hJ1_2_4 (.slice Ao16 y288.length co16,.slice Ao15 y291.length co15,gb294) _ ⟨(by (with_reducible repeat (first|apply Kd.R_alloc|apply Kd.R_drewN|apply Kd.R_drew));exact HO290.out),(by (with_reducible repeat (first|apply Kd.S_alloc|apply Kd.S_drewN|apply Kd.S_drew));exact HO293.out),(by (with_reducible repeat first|apply blk_drewN|apply blk_drew|apply blk_alloc);exact BK0.out),(by (with_reducible repeat first|apply blk_drewN|apply blk_drew|apply blk_alloc);exact BK286.out),(by (with_reducible repeat first|apply blk_drewN|apply blk_drew|apply blk_alloc);exact BK287.out),(by (with_reducible repeat first|apply blk_drewN|apply blk_drew|apply blk_alloc);exact BK294.out),GW294.out,GE294.out,NB0_294.out,NB294_0.out,NB286_294.out,NB294_286.out,NB287_294.out,NB294_287.out,(by repeat (first|(with_reducible first|exact HB.out|apply below_alloc|apply pw_below_drewN|apply below_drew1|refine below_set ?_ GE0.out|refine below_set ?_ GE286.out|refine below_set ?_ GE287.out|refine below_set ?_ GE294.out)|exact HB.out))⟩)
   rintro ⟨v289,v292,gb294⟩ w15 ⟨h0_,h1_,h2_,h3_,h4_,h5_,h6_,h7_,h8_,h9_,h10_,h11_,h12_,h13_,h14_⟩
   have n0_ : Aside0 (Kd.R (Kd.int .i64) 3 w15 w.heap.size (fun _=>True) v289 y288):=⟨h0_⟩
   have n1_ : Aside0 (Kd.S (Kd.slice 3 (Kd.int .i64)) 24 w15 w.heap.size (fun k_=>some k_ ≠ (v289 : Value).ownBlock) v292 y291):=⟨h1_⟩
   have n2_ : Aside0 (w15.heap[g0_]? = some (.cells #[.slice A0_0 l0_0.length c0_0,.slice A0_1 l0_1.length c0_1,.slice A0_2 l0_2.length c0_2,.slice A0_3 l0_3.length c0_3] 30 (0,0))):=⟨h2_⟩
   have n3_ : Aside0 (w15.heap[gb286]? = some (.cells #[.pointer (some ⟨g0_,0,none⟩)] 87 (0,0))):=⟨h3_⟩
   have n4_ : Aside0 (w15.heap[gb287]? = some (.cells #[.int .i64 0,.slice none 0 0,.slice none 0 0] 61 (0,0))):=⟨h4_⟩
   have n5_ : Aside0 (w15.heap[gb294]? = some (.cells #[.int .i64 0,.slice none 0 0,.slice none 0 0] 61 (0,0))):=⟨h5_⟩
   have n6_ : Aside0 (w.heap.size ≤ gb294):=⟨h6_⟩
   have n7_ : Aside0 (w.heap.size ≤ gb294):=⟨h7_⟩
   have n8_ : Aside0 (g0_ ≠ gb294):=⟨h8_⟩
   have n9_ : Aside0 (gb294 ≠ g0_):=⟨h9_⟩
   have n10_ : Aside0 (gb286 ≠ gb294):=⟨h10_⟩
   have n11_ : Aside0 (gb294 ≠ gb286):=⟨h11_⟩
   have n12_ : Aside0 (gb287 ≠ gb294):=⟨h12_⟩
   have n13_ : Aside0 (gb294 ≠ gb287):=⟨h13_⟩
   have n14_ : Aside0 (Below w.heap.size w w15):=⟨h14_⟩
   clear BK0
   clear BK286
   clear BK287
   clear HB
   clear h0_ h1_ h2_ h3_ h4_ h5_ h6_ h7_ h8_ h9_ h10_ h11_ h12_ h13_ h14_
   have HO290:=n0_
   have HO293:=n1_
   have BK0:=n2_
   have BK286:=n3_
   have BK287:=n4_
   have BK294:=n5_
   have GW294:=n6_
   have GE294:=n7_
   have NB0_294:=n8_
   have NB294_0:=n9_
   have NB286_294:=n10_
   have NB294_286:=n11_
   have NB287_294:=n12_
   have NB294_287:=n13_
   have HB:=n14_
   clear n0_ n1_ n2_ n3_ n4_ n5_ n6_ n7_ n8_ n9_ n10_ n11_ n12_ n13_ n14_
   have hHeld:=trivial
   obtain ⟨Ao16,co16,eo16⟩:=Kd.S_slice HO293.out
   (first|subst eo16|(injection eo16 with f1_ f2_ f3_;have f4_:=f1_.symm;have f5_:=f3_.symm;clear f1_ f2_ f3_;subst f4_;subst f5_))
   obtain ⟨Ao17,co17,eo17⟩:=Kd.R_slice HO290.out
   (first|subst eo17|(injection eo17 with f1_ f2_ f3_;have f4_:=f1_.symm;have f5_:=f3_.symm;clear f1_ f2_ f3_;subst f4_;subst f5_))
   refine norm_ (a':=?_) ?_ ?_
   rotate_left
   ·simp only [putAll,Act.put,List.setIfInBounds_toArray,List.set_cons_zero,List.set_cons_succ]
    rfl
   refine one_ (i:=5) (N:=none) #[true,true,true,true,true,true] rfl rfl (by kernel_rfl) (by decide) (fun K hK=>?_)
   have hs18 : w15.cell? ⟨gb294,0,none⟩ = some (.int .i64 0):=(blk_cell BK294.out 0).trans rfl
   have hfs18:=blk_frozen BK294.out 0
   have hns18_0:=NB0_294.out
   have hns18_1:=NB286_294.out
   have hns18_2:=NB287_294.out
   have hms18_0:=NB294_0.out
   have hms18_1:=NB294_286.out
   have hms18_2:=NB294_287.out
   have hs19 : w15.cell? ⟨gb294,1,none⟩ = some (.slice none 0 0):=(blk_cell BK294.out 1).trans rfl
   have hfs19:=blk_frozen BK294.out 1
   have hns19_0:=NB0_294.out
   have hns19_1:=NB286_294.out
   have hns19_2:=NB287_294.out
   have hms19_0:=NB294_0.out
   have hms19_1:=NB294_286.out
   have hms19_2:=NB294_287.out
   have hs20 : w15.cell? ⟨gb294,2,none⟩ = some (.slice none 0 0):=(blk_cell BK294.out 2).trans rfl
   have hfs20:=blk_frozen BK294.out 2
   have hns20_0:=NB0_294.out
   have hns20_1:=NB286_294.out
   have hns20_2:=NB287_294.out
   have hms20_0:=NB294_0.out
   have hms20_1:=NB294_286.out
   have hms20_2:=NB294_287.out
   refine skip_ (w1:=?_) (by rfl) rfl ?_ ?_
   rotate_left
   ·go_simp
    rfl
   refine hK.out _ _ trivial (fun hHeld=>?_)
   clear hK K
   refine done_ (by kernel_rfl) ?_
   have hnb21:=NB294_0.out
   have hnc21:=NB0_294.out
   have hnb22:=NB294_286.out
   have hnc22:=NB286_294.out
   have hnb23:=NB294_287.out
   have hnc23:=NB287_294.out
   have hcz24_0 : w15.cell? ⟨gb294,0,none⟩ = some (.int .i64 0):=(blk_cell BK294.out 0).trans rfl
   have hcz24_1 : w15.cell? ⟨gb294,1,none⟩ = some (.slice none 0 0):=(blk_cell BK294.out 1).trans rfl
   have hcz24_2 : w15.cell? ⟨gb294,2,none⟩ = some (.slice none 0 0):=(blk_cell BK294.out 2).trans rfl
   have hfz24_0:=blk_frozen BK294.out 0
   have hfz24_1:=blk_frozen BK294.out 1
   have hfz24_2:=blk_frozen BK294.out 2
   try go_wp2
   go_loopg [21] k (fun kq v21 w'=>∃ (x21_1 : Int) (x295002_1 : List (List Int)) (u295002 : Value),v21 = .int .i64 x21_1∧Aside0 (impl_Space_tree.l0 kq a1 (y291.length : Int) x21_1 l0_0 l0_1 l0_2 l0_3 a1 y288 x295002_1 = some (r1,r2,r3,r4))∧Aside0 (kq ≤ k)∧Aside0 (Kd.R (Kd.int .i64) 3 w' w.heap.size (fun _=>True) (.slice Ao17 y288.length co17) y288)∧Aside0 (Kd.S (Kd.slice 3 (Kd.int .i64)) 24 w' w.heap.size (fun k_=>some k_ ≠ ((.slice Ao17 y288.length co17) : Value).ownBlock) u295002 x295002_1)∧Aside0 (w'.heap[g0_]? = some (.cells #[(.slice A0_0 l0_0.length c0_0),(.slice A0_1 l0_1.length c0_1),(.slice A0_2 l0_2.length c0_2),(.slice A0_3 l0_3.length c0_3)] 30 (0,0)))∧Aside0 (w'.heap[gb286]? = some (.cells #[.pointer (some ⟨g0_,0,none⟩)] 87 (0,0)))∧Aside0 (w'.heap[gb287]? = some (.cells #[.int .i64 0,(.slice none 0 0),(.slice none 0 0)] 61 (0,0)))∧Aside0 (w'.heap[gb294]? = some (.cells #[.int .i64 a1,(.slice Ao17 y288.length co17),u295002] 61 (0,0)))∧Aside0 (Below w.heap.size w w'))
   case atStart=>exact ⟨(0),(y291),(.slice Ao16 y291.length co16),(by first|rfl|(simp;done)|(simp [*];done)),H',⟨Nat.le_refl _⟩,⟨by (with_reducible repeat (first|apply Kd.R_alloc|apply Kd.R_drewN|apply Kd.R_drew));exact Kd.R_mono (Kd.R_far (p:=⟨gb294,2,none⟩) (Kd.R_far (p:=⟨gb294,1,none⟩) (Kd.R_far (p:=⟨gb294,0,none⟩) (Kd.R_types HO290.out BK294.out (by decide)) (fun _ hk=>hk.2) (.int .i64 a1)) (fun _ hk=>hk.2) (.slice Ao17 y288.length co17)) (fun _ hk=>hk.2) (.slice Ao16 y291.length co16)) (fun _ hk=>trivial)⟩,⟨by (with_reducible repeat (first|apply Kd.S_alloc|apply Kd.S_drewN|apply Kd.S_drew));exact Kd.S_mono (Kd.S_far (p:=⟨gb294,2,none⟩) (Kd.S_far (p:=⟨gb294,1,none⟩) (Kd.S_far (p:=⟨gb294,0,none⟩) (Kd.S_types HO293.out BK294.out (by decide)) (fun _ hk=>hk.2) (.int .i64 a1)) (fun _ hk=>hk.2) (.slice Ao17 y288.length co17)) (fun _ hk=>hk.2) (.slice Ao16 y291.length co16)) (fun _ hk=>hk.1)⟩,⟨by (with_reducible repeat first|apply blk_drewN|apply blk_drew|apply blk_alloc);refine blk_far ?_ NB0_294.out _;(with_reducible repeat first|apply blk_drewN|apply blk_drew|apply blk_alloc);refine blk_far ?_ NB0_294.out _;(with_reducible repeat first|apply blk_drewN|apply blk_drew|apply blk_alloc);refine blk_far ?_ NB0_294.out _;(with_reducible repeat first|apply blk_drewN|apply blk_drew|apply blk_alloc);exact BK0.out⟩,⟨by (with_reducible repeat first|apply blk_drewN|apply blk_drew|apply blk_alloc);refine blk_far ?_ NB286_294.out _;(with_reducible repeat first|apply blk_drewN|apply blk_drew|apply blk_alloc);refine blk_far ?_ NB286_294.out _;(with_reducible repeat first|apply blk_drewN|apply blk_drew|apply blk_alloc);refine blk_far ?_ NB286_294.out _;(with_reducible repeat first|apply blk_drewN|apply blk_drew|apply blk_alloc);exact BK286.out⟩,⟨by (with_reducible repeat first|apply blk_drewN|apply blk_drew|apply blk_alloc);refine blk_far ?_ NB287_294.out _;(with_reducible repeat first|apply blk_drewN|apply blk_drew|apply blk_alloc);refine blk_far ?_ NB287_294.out _;(with_reducible repeat first|apply blk_drewN|apply blk_drew|apply blk_alloc);refine blk_far ?_ NB287_294.out _;(with_reducible repeat first|apply blk_drewN|apply blk_drew|apply blk_alloc);exact BK287.out⟩,⟨by (with_reducible repeat first|apply blk_drewN|apply blk_drew|apply blk_alloc);refine blk_put (cs:=#[.int .i64 a1,.slice Ao17 y288.length co17,.slice none 0 0]) ?_ 2 _ rfl;(with_reducible repeat first|apply blk_drewN|apply blk_drew|apply blk_alloc);refine blk_put (cs:=#[.int .i64 a1,.slice none 0 0,.slice none 0 0]) ?_ 1 _ rfl;(with_reducible repeat first|apply blk_drewN|apply blk_drew|apply blk_alloc);refine blk_put (cs:=#[.int .i64 0,.slice none 0 0,.slice none 0 0]) ?_ 0 _ rfl;(with_reducible repeat first|apply blk_drewN|apply blk_drew|apply blk_alloc);exact BK294.out⟩,⟨by repeat (first|(with_reducible first|exact HB.out|apply below_alloc|apply pw_below_drewN|apply below_drew1|refine below_set ?_ GE0.out|refine below_set ?_ GE286.out|refine below_set ?_ GE287.out|refine below_set ?_ GE294.out)|exact HB.out)⟩⟩
   case round =>
    clear H'
    try clear c2;try clear p2;try clear c21;try clear c22;try clear c23;try clear hcz24_0;try clear hcz24_1;try clear hcz24_2;try clear hfz24_0;try clear hfz24_1;try clear hfz24_2
    obtain ⟨x21_1,x295002_1,u295002,rfl,HA,HK1,HO_295001,HO_295002,BK0,BK286,BK287,BK294,HB⟩:=hrel
    cases gk with
    | zero=>exact absurd HA.out (by simp [impl_Space_tree.l0])
    | succ k1 =>
     have H:=HA.out
     clear HA
     simp only [impl_Space_tree.l0] at H
     by_cases c25 : x21_1 < (y291.length : Int)
     ·rw [if_pos c25] at H
      have c25b0 : decide (x21_1 < (y291.length : Int)) = true:=decide_eq_true c25
      clear c25
      by_cases c26 : 32 ≤ 35184372088832
      ·rw [if_pos c26] at H
       have c26b0:=eq_true c26
       have c26b1 : decide (32 ≤ 35184372088832) = true:=decide_eq_true c26
       clear c26
       obtain ⟨y295,hy295⟩ : ∃ y_ : List Int,y_ = (List.replicate 32 0):=⟨_,rfl⟩
       replace H : (if 0 ≤ x21_1 then (if x21_1 < (x295002_1.length : Int) then (impl_Space_tree.l0 k1 a1 (y291.length : Int) (wrap64 (x21_1 + 1)) l0_0 l0_1 l0_2 l0_3 a1 y288 (x295002_1.set (x21_1 : Int).toNat y295)) else (none)) else (none)) = some (r1,r2,r3,r4):=by first|(rw [hy295];with_reducible exact H)|(have H2_:=(Option.bind_some _ _).symm.trans H;rw [hy295];with_reducible exact H2_)|(have H2_:=(Option.bind_some _ _).symm.trans H;with_reducible exact H2_)|with_reducible exact H|(rw [hy295];exact H)|exact H
       have Ny295:=Aside0.mk hy295
       clear hy295
       by_cases c27 : 0 ≤ x21_1
       ·rw [if_pos c27] at H
        have c27b0 : decide (0 ≤ x21_1) = true:=decide_eq_true c27
        clear c27
        by_cases c28 : x21_1 < (x295002_1.length : Int)
        ·rw [if_pos c28] at H
         have c28b0 : decide (x21_1 < (x295002_1.length : Int)) = true:=decide_eq_true c28
         clear c28
         obtain ⟨y298,hy298⟩ : ∃ y_ : List (List Int),y_ = (x295002_1.set (x21_1 : Int).toNat y295):=⟨_,rfl⟩
         replace H : (impl_Space_tree.l0 k1 a1 (y291.length : Int) (wrap64 (x21_1 + 1)) l0_0 l0_1 l0_2 l0_3 a1 y288 y298) = some (r1,r2,r3,r4):=by first|(rw [hy298];with_reducible exact H)|(have H2_:=(Option.bind_some _ _).symm.trans H;rw [hy298];with_reducible exact H2_)|(have H2_:=(Option.bind_some _ _).symm.trans H;with_reducible exact H2_)|with_reducible exact H|(rw [hy298];exact H)|exact H
         have Ny298:=Aside0.mk hy298
         clear hy298
         have H':=Aside0.mk H
         clear H
         try go_wp2
         have n0_:=Aside0.mk (Kd.R_drew HO_295001.out)
         have n1_:=Aside0.mk (Kd.S_drew HO_295002.out)
         have n2_:=Aside0.mk (blk_drew BK0.out)
         have n3_:=Aside0.mk (blk_drew BK286.out)
         have n4_:=Aside0.mk (blk_drew BK287.out)
         have n5_:=Aside0.mk (blk_drew BK294.out)
         have n6_:=Aside0.mk (below_drew1 HB.out)
         clear HO_295001
         clear HO_295002
         clear BK0
         clear BK286
         clear BK287
         clear BK294
         clear HB
         have HO_295001:=n0_
         have HO_295002:=n1_
         have BK0:=n2_
         have BK286:=n3_
         have BK287:=n4_
         have BK294:=n5_
         have HB:=n6_
         clear n0_ n1_ n2_ n3_ n4_ n5_ n6_
         refine start_ (n:=6) (S:=fun w'=>w'.cell? ⟨gb294,0,none⟩ = some (.int .i64 a1)∧w'.cell? ⟨gb294,1,none⟩ = some (.slice Ao17 y288.length co17)∧w'.cell? ⟨gb294,2,none⟩ = some (u295002)) (ds:=[5]) #[false,false,false,false,false,false] (by kernel_rfl) rfl rfl ⟨(blk_cell BK294.out 0).trans rfl,(blk_cell BK294.out 1).trans rfl,(blk_cell BK294.out 2).trans rfl⟩ (fun hHeld=>?_)
         generalize wr.drew = w30 at HO_295001 HO_295002 BK0 BK286 BK287 BK294 HB hHeld ⊢
         refine pure_ (i:=0) (N:=some 24) (v:=?_) (a':=?_) #[true,false,false,false,false,false] rfl rfl (by kernel_rfl) (fun _ _ _ h=>h) (Or.inl ⟨by rfl,?_⟩) ?_ ?_
         rotate_left
         ·intro w'
          go_simp
          with_reducible rfl
         rotate_left
         ·simp only [Act.put,List.setIfInBounds_toArray,List.set_cons_zero,List.set_cons_succ,i64_w,i32_w]
          rfl
         refine pure_ (i:=2) (N:=some 26) (v:=?_) (a':=?_) #[true,false,true,false,false,false] rfl rfl (by kernel_rfl) (fun _ _ _ h=>h) (Or.inl ⟨by rfl,?_⟩) ?_ ?_
         rotate_left
         ·intro w'
          go_simp
          with_reducible rfl
         rotate_left
         ·simp only [Act.put,List.setIfInBounds_toArray,List.set_cons_zero,List.set_cons_succ,i64_w,i32_w]
          rfl
         refine take_ (i:=1) (N:=some 25) (v:=?_) (a':=?_) #[true,true,true,false,false,false] rfl rfl (by kernel_rfl) (fun _ _ _ h=>h) (Or.inl ⟨by rfl,?_⟩) hHeld ?_ ?_
         rotate_left
         ·rintro w' ⟨s0,s1,s2⟩
          go_simp
          with_reducible rfl
         rotate_left
         ·simp only [Act.put,List.setIfInBounds_toArray,List.set_cons_zero,List.set_cons_succ,i64_w,i32_w]
          rfl
         refine one_ (i:=3) (N:=some 27) #[true,true,true,true,false,false] rfl rfl (by kernel_rfl) (by decide) (fun K hK=>?_)
         refine Kd.R_make_step (Kd.int .i64) _ 3 (by rfl) (N:=27) rfl 24 _ _ rfl 32 rfl rfl Try.underlying24 (.int .i64 0) 8 info3 rfl (by decide) (by omega) 0 (ok:=fun _=>True) (okp:=fun _=>True) rfl (fun _ hk=>hk) trivial (by omega) (by omega) (Below.refl _ _) (Nat.le_refl _) ?_
         intro v296 w31 ho32 hb hg_ hnew_
         clear hg_ hnew_
         (first|rw [← Ny295.out] at ho32|(simp only [Int.reduceToNat] at ho32;rw [← Ny295.out] at ho32))
         have n0_:=Aside0.mk (Kd.R_elder' (by (with_reducible repeat (first|apply Kd.R_alloc|apply Kd.R_drewN|apply Kd.R_drew));exact HO_295001.out) (Kd.R_base ho32) hb)
         have n1_:=Aside0.mk (Kd.S_elder' (by (with_reducible repeat (first|apply Kd.S_alloc|apply Kd.S_drewN|apply Kd.S_drew));exact HO_295002.out) (Kd.R_base ho32) hb)
         have n2_:=Aside0.mk (Kd.R_lower (Kd.R_new' ho32 (Kd.R_lt (by (with_reducible repeat (first|apply Kd.R_alloc|apply Kd.R_drewN|apply Kd.R_drew));exact HO_295001.out))) (below_size (by repeat (first|(with_reducible first|exact HB.out|apply below_alloc|apply pw_below_drewN|apply below_drew1|refine below_set ?_ GE0.out|refine below_set ?_ GE286.out|refine below_set ?_ GE287.out|refine below_set ?_ GE294.out)|exact HB.out))))
         have n3_:=Aside0.mk (blk_below (g:=g0_) (o:=.cells #[.slice A0_0 l0_0.length c0_0,.slice A0_1 l0_1.length c0_1,.slice A0_2 l0_2.length c0_2,.slice A0_3 l0_3.length c0_3] 30 (0,0)) (by (with_reducible repeat first|apply blk_drewN|apply blk_drew|apply blk_alloc);exact BK0.out) hb)
         have n4_:=Aside0.mk (blk_below (g:=gb286) (o:=.cells #[.pointer (some ⟨g0_,0,none⟩)] 87 (0,0)) (by (with_reducible repeat first|apply blk_drewN|apply blk_drew|apply blk_alloc);exact BK286.out) hb)
         have n5_:=Aside0.mk (blk_below (g:=gb287) (o:=.cells #[.int .i64 0,.slice none 0 0,.slice none 0 0] 61 (0,0)) (by (with_reducible repeat first|apply blk_drewN|apply blk_drew|apply blk_alloc);exact BK287.out) hb)
         have n6_:=Aside0.mk (blk_below (g:=gb294) (o:=.cells #[.int .i64 a1,.slice Ao17 y288.length co17,u295002] 61 (0,0)) (by (with_reducible repeat first|apply blk_drewN|apply blk_drew|apply blk_alloc);exact BK294.out) hb)
         have n7_:=Aside0.mk (below_step (by repeat (first|(with_reducible first|exact HB.out|apply below_alloc|apply pw_below_drewN|apply below_drew1|refine below_set ?_ GE0.out|refine below_set ?_ GE286.out|refine below_set ?_ GE287.out|refine below_set ?_ GE294.out)|exact HB.out)) hb)
         clear HO_295001
         clear HO_295002
         clear BK0
         clear BK286
         clear BK287
         clear BK294
         clear HB
         have HO_295001:=n0_
         have HO_295002:=n1_
         have HO297:=n2_
         have BK0:=n3_
         have BK286:=n4_
         have BK287:=n5_
         have BK294:=n6_
         have HB:=n7_
         clear n0_ n1_ n2_ n3_ n4_ n5_ n6_ n7_
         clear hb ho32
         have p29 : 0 ≤ (x21_1 : Int):=of_decide_eq_true (by assumption)
         have q29 : (x21_1 : Int) < ((x295002_1.length : Int) : Int):=of_decide_eq_true (by assumption)
         obtain ⟨go29,co29,eo29,gb29,gl29,cl29,HG29⟩:=Kd.S_form HO_295002.out (by omega)
         (first|cases eo29|(injection eo29 with ea_ en_ ec_;(first|subst ea_|(injection ea_ with ea_;subst ea_));subst ec_;clear en_))
         have GB29:=Aside0.mk gb29
         have GG29:=Aside0.mk HG29
         clear gb29 gl29 HG29
         obtain ⟨_,ce29,hcl29,hM29,hcc29,hfr29,_,_⟩:=Kd.S_elem HO_295002.out [] (x21_1 : Int) p29 q29
         obtain ⟨ve29_0,rfl,ge29_0⟩:=hM29
         have hx29_0:=hcc29 0 _ rfl
         have hf29_0:=hfr29 0
         (try simp only [show ((Kd.slice 3 (Kd.int .i64))).sz = 1 from rfl,Nat.mul_one,Nat.add_zero] at hx29_0)
         (try simp only [show ((Kd.slice 3 (Kd.int .i64))).sz = 1 from rfl,Nat.mul_one,Nat.add_zero] at hf29_0)
         (try clear hM29);clear hcl29 hcc29 hfr29
         replace p29:=eq_true p29
         replace q29:=eq_true q29
         obtain ⟨Ao33,co33,eo33⟩:=Kd.R_slice HO297.out
         (first|subst eo33|(injection eo33 with f1_ f2_ f3_;have f4_:=f1_.symm;have f5_:=f3_.symm;clear f1_ f2_ f3_;subst f4_;subst f5_))
         have HX34:=Aside0.mk (show Kd.S (Kd.slice 3 (Kd.int .i64)) 24 _ w.heap.size (fun k_=>((fun k_=>some k_ ≠ (.slice Ao17 y288.length co17 : Value).ownBlock)) k_∧¬ ((fun k_=>some k_ = (.slice Ao33 y295.length co33 : Value).ownBlock)) k_) (.slice (some ⟨go29,0,none⟩) x295002_1.length co29) x295002_1 from (Kd.S_mono HO_295002.out (fun k_ hk=>⟨hk.1,fun e_=>hk.2 e_⟩)))
         obtain ⟨oki34,ce34,hcl34,hM34,hcc34,hfr34,hoki34,hH34⟩:=Kd.S_elem HX34.out [] (x21_1 : Int) (of_decide_eq_true (by assumption)) (by have h_ : (x21_1 : Int) < ((x295002_1.length : Int) : Int):=of_decide_eq_true (by assumption);first|exact h_|(have e_:=(Kd.S_reads' HO_295002.out).1;omega)|simpa using h_)
         obtain ⟨ve34_0,rfl,ge34_0⟩:=hM34
         have HP34:=(Kd.S_seg hH34 (of_decide_eq_true (by assumption)) (by have h_ : (x21_1 : Int) < ((x295002_1.length : Int) : Int):=of_decide_eq_true (by assumption);first|exact h_|(have e_:=(Kd.S_reads' HO_295002.out).1;omega)|simpa using h_) (seg:=[.slice Ao33 y295.length co33]) (j:=0) (show 1 ≤ 1 from by decide) (x':=y295) (Kd.M_row (Kd.R_mono (Kd.R_tight rfl (Kd.R_mono (ok':=fun k_=>((fun k_=>some k_ ≠ (.slice Ao17 y288.length co17 : Value).ownBlock)) k_∧k_ ≠ go29) (Kd.R_apart' (HO297.out) (Kd.S_typed (HO_295002.out)) (by decide)) (fun k_ hk=>⟨hk.1.2,fun e_=>(hk.2) (by rw [e_];rfl)⟩))) (fun _ h_=>Or.inr (h_)))) (fun _ hk=>hk) (fun k_ hk_=>((Kd.R_mono (ok':=fun k_=>((fun k_=>some k_ ≠ (.slice Ao17 y288.length co17 : Value).ownBlock)) k_∧k_ ≠ go29) (Kd.R_apart' (HO297.out) (Kd.S_typed (HO_295002.out)) (by decide)) (fun k_ hk=>⟨hk.1.2,fun e_=>(hk.2) (by rw [e_];rfl)⟩))).1 k_ hk_.symm)).1
         (try simp only [show ((Kd.slice 3 (Kd.int .i64))).sz = 1 from rfl,Nat.mul_one,Nat.add_zero] at HP34)
         rw [← Ny298.out] at HP34
         have HQ34:=Aside0.mk HP34
         (try clear hM34);clear hcl34 hcc34 hfr34 HP34
         refine hK.out _ _ ⟨(blk_cell BK294.out 0).trans rfl,(blk_cell BK294.out 1).trans rfl,(blk_cell BK294.out 2).trans rfl⟩ (fun hHeld=>?_)
         clear hK K
         refine norm_ (a':=?_) ?_ ?_
         rotate_left
         ·show Act.put _ (some 27) _ = _
          simp only [Act.put,List.setIfInBounds_toArray,List.set_cons_zero,List.set_cons_succ,i64_w,i32_w]
          rfl
         refine pure_ (i:=4) (N:=some 28) (v:=?_) (a':=?_) #[true,true,true,true,true,false] rfl rfl (by kernel_rfl) (fun _ _ _ h=>h) (Or.inl ⟨by rfl,?_⟩) ?_ ?_
         rotate_left
         ·intro w'
          go_simp
          with_reducible rfl
         rotate_left
         ·simp only [Act.put,List.setIfInBounds_toArray,List.set_cons_zero,List.set_cons_succ,i64_w,i32_w]
          rfl
         refine last_ (i:=5) (N:=none) #[true,true,true,true,true,true] rfl rfl (by kernel_rfl) (by decide) (fun K hK=>?_)
         refine skip_ (w1:=?_) (by rfl) rfl ?_ ?_
         rotate_left
         ·go_simp
          rfl
         refine hK.out _ _ ?_
         clear hK K
         refine done_ (by kernel_rfl) ?_
         try go_wp2
         go_roundg k1
         case measure=>have:=HK1.out;omega
         case rel=>exact ⟨(wrap64 (x21_1 + 1)),(y298),(.slice (some ⟨go29,0,none⟩) x295002_1.length co29),(by first|rfl|(simp;done)|(simp [*];done)),H',⟨by have:=HK1.out;omega⟩,⟨by (with_reducible repeat (first|apply Kd.R_alloc|apply Kd.R_drewN|apply Kd.R_drew));exact Kd.R_mono (Kd.R_far (p:=⟨go29,(x21_1 : Int).toNat,none⟩) (Kd.R_types HO_295001.out GG29.out (by decide)) (fun _ hk=>hk.2) (.slice Ao33 y295.length co33)) (fun _ hk=>trivial)⟩,⟨by (with_reducible repeat (first|apply Kd.S_alloc|apply Kd.S_drewN|apply Kd.S_drew));exact HQ34.out⟩,⟨by (with_reducible repeat first|apply blk_drewN|apply blk_drew|apply blk_alloc);refine blk_far ?_ (by have h_:=Kd.S_ne HO_295002.out BK0.out (by decide);intro e_;exact h_ (by rw [e_];rfl)) _;(with_reducible repeat first|apply blk_drewN|apply blk_drew|apply blk_alloc);exact BK0.out⟩,⟨by (with_reducible repeat first|apply blk_drewN|apply blk_drew|apply blk_alloc);refine blk_far ?_ (by have h_:=Kd.S_ne HO_295002.out BK286.out (by decide);intro e_;exact h_ (by rw [e_];rfl)) _;(with_reducible repeat first|apply blk_drewN|apply blk_drew|apply blk_alloc);exact BK286.out⟩,⟨by (with_reducible repeat first|apply blk_drewN|apply blk_drew|apply blk_alloc);refine blk_far ?_ (by have h_:=Kd.S_ne HO_295002.out BK287.out (by decide);intro e_;exact h_ (by rw [e_];rfl)) _;(with_reducible repeat first|apply blk_drewN|apply blk_drew|apply blk_alloc);exact BK287.out⟩,⟨by (with_reducible repeat first|apply blk_drewN|apply blk_drew|apply blk_alloc);refine blk_far ?_ (by have h_:=Kd.S_ne HO_295002.out BK294.out (by decide);intro e_;exact h_ (by rw [e_];rfl)) _;(with_reducible repeat first|apply blk_drewN|apply blk_drew|apply blk_alloc);exact BK294.out⟩,⟨by repeat (first|(with_reducible first|exact HB.out|apply below_alloc|apply pw_below_drewN|apply below_drew1|refine below_set ?_ GB29.out|refine below_set ?_ GE0.out|refine below_set ?_ GE286.out|refine below_set ?_ GE287.out|refine below_set ?_ GE294.out)|exact HB.out)⟩⟩
        ·rw [if_neg c28] at H
         exact absurd H (by simp)
       ·rw [if_neg c27] at H
        exact absurd H (by simp)
      ·rw [if_neg c26] at H
       exact absurd H (by simp)
     ·rw [if_neg c25] at H
      have c25b0 : decide (x21_1 < (y291.length : Int)) = false:=decide_eq_false c25
      clear c25
      by_cases c35 : a1 = 0
      ·rw [if_pos c35] at H
       have c35b0 : (a1 == 0) = true:=beq_iff_eq.mpr c35
       have c35b1 : (a1 != 0) = false:=bne_eq_false_iff_eq.mpr c35
       clear c35
       simp only [Option.some.injEq,Prod.mk.injEq] at H
       obtain ⟨rfl,rfl,rfl,rfl⟩:=H
       have hnb36:=NB294_0.out
       have hnc36:=NB0_294.out
       have hnb37:=NB294_286.out
       have hnc37:=NB286_294.out
       have hnb38:=NB294_287.out
       have hnc38:=NB287_294.out
       have hcz39_0 : wr.cell? ⟨gb294,0,none⟩ = some (.int .i64 a1):=(blk_cell BK294.out 0).trans rfl
       have hcz39_1 : wr.cell? ⟨gb294,1,none⟩ = some (.slice Ao17 y288.length co17):=(blk_cell BK294.out 1).trans rfl
       have hcz39_2 : wr.cell? ⟨gb294,2,none⟩ = some (u295002):=(blk_cell BK294.out 2).trans rfl
       have hfz39_0:=blk_frozen BK294.out 0
       have hfz39_1:=blk_frozen BK294.out 1
       have hfz39_2:=blk_frozen BK294.out 2
       have hnb40:=NB287_0.out
       have hnc40:=NB0_287.out
       have hnb41:=NB287_286.out
       have hnc41:=NB286_287.out
       have hcz42_0 : wr.cell? ⟨gb287,0,none⟩ = some (.int .i64 0):=(blk_cell BK287.out 0).trans rfl
       have hcz42_1 : wr.cell? ⟨gb287,1,none⟩ = some (.slice none 0 0):=(blk_cell BK287.out 1).trans rfl
       have hcz42_2 : wr.cell? ⟨gb287,2,none⟩ = some (.slice none 0 0):=(blk_cell BK287.out 2).trans rfl
       have hfz42_0:=blk_frozen BK287.out 0
       have hfz42_1:=blk_frozen BK287.out 1
       have hfz42_2:=blk_frozen BK287.out 2
       obtain ⟨Ao43,co43,eo43⟩:=Kd.S_slice HO_295002.out
       subst eo43
       go_wp2
       refine bodyPost_ret (results_ct rfl _ _ gb287 61 #[.int .i64 a1,.slice Ao17 y288.length co17,.slice Ao43 x295002_1.length co43] (0,0) _ rfl (by (with_reducible repeat first|apply blk_drewN|apply blk_drew|apply blk_alloc);refine blk_put (cs:=#[.int .i64 a1,.slice Ao17 y288.length co17,.slice none 0 0]) ?_ 2 _ rfl;(with_reducible repeat first|apply blk_drewN|apply blk_drew|apply blk_alloc);refine blk_put (cs:=#[.int .i64 a1,.slice none 0 0,.slice none 0 0]) ?_ 1 _ rfl;(with_reducible repeat first|apply blk_drewN|apply blk_drew|apply blk_alloc);refine blk_put (cs:=#[.int .i64 0,.slice none 0 0,.slice none 0 0]) ?_ 0 _ rfl;(with_reducible repeat first|apply blk_drewN|apply blk_drew|apply blk_alloc);exact BK287.out) Try.underlying61 rfl (by kernel_rfl)) rfl ?_
       exact ⟨_,_,by first|rfl|(simp [*,errW_none,errW_some] <;> rfl),by (with_reducible repeat (first|apply Kd.R_alloc|apply Kd.R_drewN|apply Kd.R_drew));exact Kd.R_mono (Kd.R_far (p:=⟨gb287,2,none⟩) (Kd.R_far (p:=⟨gb287,1,none⟩) (Kd.R_far (p:=⟨gb287,0,none⟩) (Kd.R_types HO_295001.out BK287.out (by decide)) (fun _ hk=>hk.2) (.int .i64 a1)) (fun _ hk=>hk.2) (.slice Ao17 y288.length co17)) (fun _ hk=>hk.2) (.slice Ao43 x295002_1.length co43)) (fun _ hk=>trivial),by (with_reducible repeat (first|apply Kd.S_alloc|apply Kd.S_drewN|apply Kd.S_drew));exact Kd.S_mono (Kd.S_far (p:=⟨gb287,2,none⟩) (Kd.S_far (p:=⟨gb287,1,none⟩) (Kd.S_far (p:=⟨gb287,0,none⟩) (Kd.S_types HO_295002.out BK287.out (by decide)) (fun _ hk=>hk.2) (.int .i64 a1)) (fun _ hk=>hk.2) (.slice Ao17 y288.length co17)) (fun _ hk=>hk.2) (.slice Ao43 x295002_1.length co43)) (fun _ hk=>hk.1),by repeat (first|(with_reducible first|exact HB.out|apply below_alloc|apply pw_below_drewN|apply below_drew1|refine below_set ?_ GE0.out|refine below_set ?_ GE286.out|refine below_set ?_ GE287.out|refine below_set ?_ GE294.out)|exact HB.out)⟩
      ·rw [if_neg c35] at H
       have c35b0 : (a1 == 0) = false:=beq_eq_false_iff_ne.mpr c35
       have c35b1 : (a1 != 0) = true:=bne_iff_ne.mpr c35
       replace H:=Option.bind_eq_some_iff.mp H
       obtain ⟨⟨t299,t302⟩,A440,H⟩:=H
       replace H : (if t302 = true then ((impl_isEmpty.f k1 t299).bind fun t303=>(impl_Space_tree.j1 k1 t299 t303 l0_0 l0_1 l0_2 l0_3 a1 y288 x295002_1)) else (impl_Space_tree.j1 k1 t299 true l0_0 l0_1 l0_2 l0_3 a1 y288 x295002_1)) = some (r1,r2,r3,r4):=H
       have A44:=Aside0.mk A440
       clear A440
       have HC45:=Aside0.mk H
       clear H
       have hnb46:=NB286_0.out
       have hnc46:=NB0_286.out
       have hnb47:=NB286_287.out
       have hnc47:=NB287_286.out
       have hnb48:=NB286_294.out
       have hnc48:=NB294_286.out
       have hcz49_0 : wr.cell? ⟨gb286,0,none⟩ = some (.pointer (some ⟨g0_,0,none⟩)):=(blk_cell BK286.out 0).trans rfl
       have hfz49_0:=blk_frozen BK286.out 0
       go_upto_region 10 with (first|((with_reducible refine gate_callee (f:=67) rfl ?_);refine goesL_ (some 36) rfl rfl Try.func67 (by kernel_rfl) rfl #[.pointer (some ⟨g0_,0,none⟩),.int .i64 a1,.int .u8 80] rfl (by (try simp only [List.map_toArray,List.map_cons,List.map_nil]);first|done|rfl|(simp only [List.length_drop,List.length_take];rfl)) ?_;(with_reducible refine (impl_Space_page.calls k1 g0_ A0_0 c0_0 l0_0 A0_1 c0_1 l0_1 A0_2 c0_2 l0_2 A0_3 c0_3 l0_3 a1 80 t299 t302 _ ?side1 ?side2 ?side3 ?side4 ?side5 ?side6 ?side7 ?side8 ?side9 A44.out).mono ?_);(case side1=>exact by (with_reducible repeat first|apply blk_drewN|apply blk_drew|apply blk_alloc);exact BK0.out);(case side2=>repeat (first|exact (Kd.C_below HR0_0.out HB.out)|(with_reducible first|apply Kd.C_alloc|apply Kd.C_drewN|apply Kd.C_drew)));(case side3=>exact HC0_0.out);(case side4=>repeat (first|exact (Kd.C_below HR0_1.out HB.out)|(with_reducible first|apply Kd.C_alloc|apply Kd.C_drewN|apply Kd.C_drew)));(case side5=>exact HC0_1.out);(case side6=>repeat (first|exact (Kd.C_below HR0_2.out HB.out)|(with_reducible first|apply Kd.C_alloc|apply Kd.C_drewN|apply Kd.C_drew)));(case side7=>exact HC0_2.out);(case side8=>repeat (first|exact (Kd.C_below HR0_3.out HB.out)|(with_reducible first|apply Kd.C_alloc|apply Kd.C_drewN|apply Kd.C_drew)));(case side9=>exact HC0_3.out);rintro e w50 ⟨v300,rfl,ho0,hb⟩;refine ⟨_,rfl,?_⟩;have n0_:=Aside0.mk (Kd.R_elder' (by (with_reducible repeat (first|apply Kd.R_alloc|apply Kd.R_drewN|apply Kd.R_drew));exact HO_295001.out) (Kd.R_base ho0) hb);have n1_:=Aside0.mk (Kd.S_elder' (by (with_reducible repeat (first|apply Kd.S_alloc|apply Kd.S_drewN|apply Kd.S_drew));exact HO_295002.out) (Kd.R_base ho0) hb);have n2_:=Aside0.mk (Kd.R_lower (Kd.R_new' ho0 (Kd.R_lt (by (with_reducible repeat (first|apply Kd.R_alloc|apply Kd.R_drewN|apply Kd.R_drew));exact HO_295001.out))) (below_size (by repeat (first|(with_reducible first|exact HB.out|apply below_alloc|apply pw_below_drewN|apply below_drew1|refine below_set ?_ GE0.out|refine below_set ?_ GE286.out|refine below_set ?_ GE287.out|refine below_set ?_ GE294.out)|exact HB.out))));have n3_:=Aside0.mk (blk_below (g:=g0_) (o:=.cells #[.slice A0_0 l0_0.length c0_0,.slice A0_1 l0_1.length c0_1,.slice A0_2 l0_2.length c0_2,.slice A0_3 l0_3.length c0_3] 30 (0,0)) (by (with_reducible repeat first|apply blk_drewN|apply blk_drew|apply blk_alloc);exact BK0.out) hb);have n4_:=Aside0.mk (blk_below (g:=gb286) (o:=.cells #[.pointer (some ⟨g0_,0,none⟩)] 87 (0,0)) (by (with_reducible repeat first|apply blk_drewN|apply blk_drew|apply blk_alloc);exact BK286.out) hb);have n5_:=Aside0.mk (blk_below (g:=gb287) (o:=.cells #[.int .i64 0,.slice none 0 0,.slice none 0 0] 61 (0,0)) (by (with_reducible repeat first|apply blk_drewN|apply blk_drew|apply blk_alloc);exact BK287.out) hb);have n6_:=Aside0.mk (blk_below (g:=gb294) (o:=.cells #[.int .i64 a1,.slice Ao17 y288.length co17,u295002] 61 (0,0)) (by (with_reducible repeat first|apply blk_drewN|apply blk_drew|apply blk_alloc);exact BK294.out) hb);have n7_:=Aside0.mk (below_step (by repeat (first|(with_reducible first|exact HB.out|apply below_alloc|apply pw_below_drewN|apply below_drew1|refine below_set ?_ GE0.out|refine below_set ?_ GE286.out|refine below_set ?_ GE287.out|refine below_set ?_ GE294.out)|exact HB.out)) hb);clear HO_295001;clear HO_295002;clear BK0;clear BK286;clear BK287;clear BK294;clear HB;have HO_295001:=n0_;have HO_295002:=n1_;have HO301:=n2_;have BK0:=n3_;have BK286:=n4_;have BK287:=n5_;have BK294:=n6_;have HB:=n7_;clear n0_ n1_ n2_ n3_ n4_ n5_ n6_ n7_;(try clear hb);(try clear hb2);(try clear hk);(try clear hi);(try clear ho0)))
       (try simp only [Act.put,List.setIfInBounds_toArray,List.set_cons_zero,List.set_cons_succ])
       go_cut [44] (fun v44 wc=>∃ (kq : Nat) (x44_44 : Bool),v44 = .bool x44_44∧Aside0 (impl_Space_tree.j1 kq t299 x44_44 l0_0 l0_1 l0_2 l0_3 a1 y288 x295002_1 = some (r1,r2,r3,r4))∧Aside0 (kq ≤ k1)∧Aside0 (Kd.R (Kd.int .i64) 3 wc w.heap.size (fun k_=>some k_ ≠ ((.slice Ao17 y288.length co17) : Value).ownBlock) v300 t299)∧Aside0 (Kd.R (Kd.int .i64) 3 wc w.heap.size (fun k_=>some k_ ≠ (v300 : Value).ownBlock) (.slice Ao17 y288.length co17) y288)∧Aside0 (Kd.S (Kd.slice 3 (Kd.int .i64)) 24 wc w.heap.size (fun k_=>some k_ ≠ (v300 : Value).ownBlock∧some k_ ≠ ((.slice Ao17 y288.length co17) : Value).ownBlock) u295002 x295002_1)∧Aside0 (wc.heap[g0_]? = some (.cells #[(.slice A0_0 l0_0.length c0_0),(.slice A0_1 l0_1.length c0_1),(.slice A0_2 l0_2.length c0_2),(.slice A0_3 l0_3.length c0_3)] 30 (0,0)))∧Aside0 (wc.heap[gb286]? = some (.cells #[.pointer (some ⟨g0_,0,none⟩)] 87 (0,0)))∧Aside0 (wc.heap[gb287]? = some (.cells #[.int .i64 0,(.slice none 0 0),(.slice none 0 0)] 61 (0,0)))∧Aside0 (wc.heap[gb294]? = some (.cells #[.int .i64 a1,(.slice Ao17 y288.length co17),u295002] 61 (0,0)))∧Aside0 (Below w.heap.size w wc))
       case first =>
        have H:=HC45.out
        clear HC45
        by_cases c51 : t302 = true
        ·subst c51
         have H1 : ((impl_isEmpty.f k1 t299).bind fun t303=>(impl_Space_tree.j1 k1 t299 t303 l0_0 l0_1 l0_2 l0_3 a1 y288 x295002_1)) = some (r1,r2,r3,r4):=by rw [if_pos rfl] at H;exact H
         clear H
         have H:=H1
         clear H1
         replace H:=Option.bind_eq_some_iff.mp H
         obtain ⟨t303,A520,H⟩:=H
         replace H : (impl_Space_tree.j1 k1 t299 t303 l0_0 l0_1 l0_2 l0_3 a1 y288 x295002_1) = some (r1,r2,r3,r4):=H
         have A52:=Aside0.mk A520
         clear A520
         have H':=Aside0.mk H
         clear H
         obtain ⟨Ao53,co53,eo53⟩:=Kd.R_slice HO301.out
         subst eo53
         go_wp2_with (first|(go_at_call 68;(with_reducible refine (impl_isEmpty.calls k1 _ _ t299 t303 _ ?side1 ?side2 A52.out).mono ?_);(case side1=>repeat (first|exact (Kd.R_reads' HO301.out).2.2|(with_reducible first|apply Kd.C_alloc|apply Kd.C_drewN|apply Kd.C_drew)));(case side2=>exact (Kd.R_reads' HO301.out).2.1);rintro e w' ⟨rfl,⟨nd,rfl⟩⟩))
         go_meet
         case rel=>exact ⟨_,(t303),(by first|rfl|(simp;done)|(simp [*];done)),H',⟨by have:=HK1.out;first|omega|exact Nat.le_refl _⟩,⟨by (with_reducible repeat (first|apply Kd.R_alloc|apply Kd.R_drewN|apply Kd.R_drew));exact Kd.R_mono HO301.out (fun _ hk=>hk.2)⟩,⟨by (with_reducible repeat (first|apply Kd.R_alloc|apply Kd.R_drewN|apply Kd.R_drew));exact Kd.R_mono HO_295001.out (fun _ hk=>hk.2)⟩,⟨by (with_reducible repeat (first|apply Kd.S_alloc|apply Kd.S_drewN|apply Kd.S_drew));exact Kd.S_mono HO_295002.out (fun _ hk=>⟨hk.2,hk.1⟩)⟩,⟨by (with_reducible repeat first|apply blk_drewN|apply blk_drew|apply blk_alloc);exact BK0.out⟩,⟨by (with_reducible repeat first|apply blk_drewN|apply blk_drew|apply blk_alloc);exact BK286.out⟩,⟨by (with_reducible repeat first|apply blk_drewN|apply blk_drew|apply blk_alloc);exact BK287.out⟩,⟨by (with_reducible repeat first|apply blk_drewN|apply blk_drew|apply blk_alloc);exact BK294.out⟩,⟨by repeat (first|(with_reducible first|exact HB.out|apply below_alloc|apply pw_below_drewN|apply below_drew1|refine below_set ?_ GE0.out|refine below_set ?_ GE286.out|refine below_set ?_ GE287.out|refine below_set ?_ GE294.out)|exact HB.out)⟩⟩
        ·replace c51:=Bool.eq_false_iff.mpr c51
         subst c51
         have H1 : (impl_Space_tree.j1 k1 t299 true l0_0 l0_1 l0_2 l0_3 a1 y288 x295002_1) = some (r1,r2,r3,r4):=by rw [if_neg (show ¬ (false = true) by decide)] at H;exact H
         clear H
         have H:=H1
         clear H1
         have H':=Aside0.mk H
         clear H
         go_wp2
         go_meet
         case rel=>exact ⟨_,(true),(by first|rfl|(simp;done)|(simp [*];done)),H',⟨by have:=HK1.out;first|omega|exact Nat.le_refl _⟩,⟨by (with_reducible repeat (first|apply Kd.R_alloc|apply Kd.R_drewN|apply Kd.R_drew));exact Kd.R_mono HO301.out (fun _ hk=>hk.2)⟩,⟨by (with_reducible repeat (first|apply Kd.R_alloc|apply Kd.R_drewN|apply Kd.R_drew));exact Kd.R_mono HO_295001.out (fun _ hk=>hk.2)⟩,⟨by (with_reducible repeat (first|apply Kd.S_alloc|apply Kd.S_drewN|apply Kd.S_drew));exact Kd.S_mono HO_295002.out (fun _ hk=>⟨hk.2,hk.1⟩)⟩,⟨by (with_reducible repeat first|apply blk_drewN|apply blk_drew|apply blk_alloc);exact BK0.out⟩,⟨by (with_reducible repeat first|apply blk_drewN|apply blk_drew|apply blk_alloc);exact BK286.out⟩,⟨by (with_reducible repeat first|apply blk_drewN|apply blk_drew|apply blk_alloc);exact BK287.out⟩,⟨by (with_reducible repeat first|apply blk_drewN|apply blk_drew|apply blk_alloc);exact BK294.out⟩,⟨by repeat (first|(with_reducible first|exact HB.out|apply below_alloc|apply pw_below_drewN|apply below_drew1|refine below_set ?_ GE0.out|refine below_set ?_ GE286.out|refine below_set ?_ GE287.out|refine below_set ?_ GE294.out)|exact HB.out)⟩⟩
       case rest =>
        clear HC45
        try clear c2;try clear p2;try clear q2;try clear hx2;try clear hf2;try clear c3;try clear c4;try clear c5;try clear c6;try clear p6;try clear c21;try clear c22;try clear c23;try clear c25;try clear c25b0;try clear c26;try clear c26b0;try clear c26b1;try clear c27;try clear c27b0;try clear c28;try clear c28b0;try clear c29;try clear p29;try clear q29;try clear hx29;try clear hf29;try clear c34;try clear c35;try clear c35b0;try clear c35b1;try clear c36;try clear c37;try clear c38;try clear c40;try clear c41;try clear c46;try clear c47;try clear c48;try clear c51;try clear hcz24_0;try clear hcz24_1;try clear hcz24_2;try clear hcz39_0;try clear hcz39_1;try clear hcz39_2;try clear hcz42_0;try clear hcz42_1;try clear hcz42_2;try clear hcz49_0;try clear hfz24_0;try clear hfz24_1;try clear hfz24_2;try clear hfz39_0;try clear hfz39_1;try clear hfz39_2;try clear hfz42_0;try clear hfz42_1;try clear hfz42_2;try clear hfz49_0;try clear hx29_0;try clear p2;try clear p29;try clear q29
        obtain ⟨kq,x44_44,rfl,HA,HJ44,HO_8,HO_295001,HO_295002,BK0,BK286,BK287,BK294,HB⟩:=hcut
        cases kq with
        | zero=>exact absurd HA.out (by simp [impl_Space_tree.j1])
        | succ kj44 =>
         have H:=HA.out
         clear HA
         simp only [impl_Space_tree.j1] at H
         by_cases c54 : x44_44 = true
         ·subst c54
          have H1 : (some (0,([] : List Int),([] : List (List Int)),false)) = some (r1,r2,r3,r4):=by rw [if_pos rfl] at H;exact H
          clear H
          have H:=H1
          clear H1
          simp only [Option.some.injEq,Prod.mk.injEq] at H
          obtain ⟨rfl,rfl,rfl,rfl⟩:=H
          have hnb55:=NB287_0.out
          have hnc55:=NB0_287.out
          have hnb56:=NB287_286.out
          have hnc56:=NB286_287.out
          have hnb57:=NB287_294.out
          have hnc57:=NB294_287.out
          have hcz58_0 : wc.cell? ⟨gb287,0,none⟩ = some (.int .i64 0):=(blk_cell BK287.out 0).trans rfl
          have hcz58_1 : wc.cell? ⟨gb287,1,none⟩ = some (.slice none 0 0):=(blk_cell BK287.out 1).trans rfl
          have hcz58_2 : wc.cell? ⟨gb287,2,none⟩ = some (.slice none 0 0):=(blk_cell BK287.out 2).trans rfl
          have hfz58_0:=blk_frozen BK287.out 0
          have hfz58_1:=blk_frozen BK287.out 1
          have hfz58_2:=blk_frozen BK287.out 2
          go_wp2
          refine bodyPost_ret (results_ct rfl _ _ gb287 61 #[.int .i64 0,.slice none 0 0,.slice none 0 0] (0,0) _ rfl (by (with_reducible repeat first|apply blk_drewN|apply blk_drew|apply blk_alloc);refine blk_put (cs:=#[.int .i64 0,.slice none 0 0,.slice none 0 0]) ?_ 2 _ rfl;(with_reducible repeat first|apply blk_drewN|apply blk_drew|apply blk_alloc);refine blk_put (cs:=#[.int .i64 0,.slice none 0 0,.slice none 0 0]) ?_ 1 _ rfl;(with_reducible repeat first|apply blk_drewN|apply blk_drew|apply blk_alloc);refine blk_put (cs:=#[.int .i64 0,.slice none 0 0,.slice none 0 0]) ?_ 0 _ rfl;(with_reducible repeat first|apply blk_drewN|apply blk_drew|apply blk_alloc);exact BK287.out) Try.underlying61 rfl (by kernel_rfl)) rfl ?_
          exact ⟨_,_,by first|rfl|(simp [*,errW_none,errW_some] <;> rfl),by first|exact Kd.R_nil _ _ _ _ _|exact Kd.N_nil _ _ _ _ _|exact Kd.V_nil _ _ _ _ _|exact Kd.Q_nil _ _ _ _ _|exact Kd.S_nil _ _ _ _ _,by first|exact Kd.S_nil _ _ _ _ _|exact Kd.N_nil _ _ _ _ _|exact Kd.V_nil _ _ _ _ _|exact Kd.Q_nil _ _ _ _ _|exact Kd.R_nil _ _ _ _ _,by repeat (first|(with_reducible first|exact HB.out|apply below_alloc|apply pw_below_drewN|apply below_drew1|refine below_set ?_ GE0.out|refine below_set ?_ GE286.out|refine below_set ?_ GE287.out|refine below_set ?_ GE294.out)|exact HB.out)⟩
         ·replace c54:=Bool.eq_false_iff.mpr c54
          subst c54
          have H1 : (impl_Space_tree.l1 kj44 t299 t299 (t299.length : Int) 0 l0_0 l0_1 l0_2 l0_3 a1 y288 x295002_1) = some (r1,r2,r3,r4):=by rw [if_neg (show ¬ (false = true) by decide)] at H;exact H
          clear H
          have H:=H1
          clear H1
          have H':=Aside0.mk H
          clear H
          obtain ⟨Ao59,co59,eo59⟩:=Kd.R_slice HO_8.out
          subst eo59
          go_wp2
          go_loopg [48] kj44 (fun kq v48 w'=>∃ (x48_3 : Int) (x288000_3 : Int) (x295001_3 : List Int) (x295002_3 : List (List Int)) (u295001 : Value) (u295002 : Value),v48 = .int .i64 x48_3∧Aside0 (impl_Space_tree.l1 kq t299 t299 (t299.length : Int) x48_3 l0_0 l0_1 l0_2 l0_3 a1 x295001_3 x295002_3 = some (r1,r2,r3,r4))∧Aside0 (kq ≤ kj44)∧Aside0 (Kd.R (Kd.int .i64) 3 w' w.heap.size (fun k_=>some k_ ≠ (u295001 : Value).ownBlock) (.slice Ao59 t299.length co59) t299)∧Aside0 (Kd.R (Kd.int .i64) 3 w' w.heap.size (fun k_=>some k_ ≠ (u295001 : Value).ownBlock) (.slice Ao59 t299.length co59) t299)∧Aside0 (Kd.R (Kd.int .i64) 3 w' w.heap.size (fun k_=>some k_ ≠ ((.slice Ao59 t299.length co59) : Value).ownBlock∧some k_ ≠ ((.slice Ao59 t299.length co59) : Value).ownBlock) u295001 x295001_3)∧Aside0 (Kd.S (Kd.slice 3 (Kd.int .i64)) 24 w' w.heap.size (fun k_=>some k_ ≠ ((.slice Ao59 t299.length co59) : Value).ownBlock∧some k_ ≠ ((.slice Ao59 t299.length co59) : Value).ownBlock∧some k_ ≠ (u295001 : Value).ownBlock) u295002 x295002_3)∧Aside0 (w'.heap[g0_]? = some (.cells #[(.slice A0_0 l0_0.length c0_0),(.slice A0_1 l0_1.length c0_1),(.slice A0_2 l0_2.length c0_2),(.slice A0_3 l0_3.length c0_3)] 30 (0,0)))∧Aside0 (w'.heap[gb286]? = some (.cells #[.pointer (some ⟨g0_,0,none⟩)] 87 (0,0)))∧Aside0 (w'.heap[gb287]? = some (.cells #[.int .i64 x288000_3,(.slice none 0 0),(.slice none 0 0)] 61 (0,0)))∧Aside0 (w'.heap[gb294]? = some (.cells #[.int .i64 a1,u295001,u295002] 61 (0,0)))∧Aside0 (Below w.heap.size w w'))
          case atStart=>exact ⟨(0),(0),(y288),(x295002_1),(.slice Ao17 y288.length co17),(u295002),(by first|rfl|(simp;done)|(simp [*];done)),H',⟨Nat.le_refl _⟩,⟨by (with_reducible repeat (first|apply Kd.R_alloc|apply Kd.R_drewN|apply Kd.R_drew));exact HO_8.out⟩,⟨by (with_reducible repeat (first|apply Kd.R_alloc|apply Kd.R_drewN|apply Kd.R_drew));exact HO_8.out⟩,⟨by (with_reducible repeat (first|apply Kd.R_alloc|apply Kd.R_drewN|apply Kd.R_drew));exact Kd.R_mono HO_295001.out (fun _ hk=>⟨hk,hk⟩)⟩,⟨by (with_reducible repeat (first|apply Kd.S_alloc|apply Kd.S_drewN|apply Kd.S_drew));exact Kd.S_mono HO_295002.out (fun _ hk=>⟨hk.1,⟨hk.1,hk.2⟩⟩)⟩,⟨by (with_reducible repeat first|apply blk_drewN|apply blk_drew|apply blk_alloc);exact BK0.out⟩,⟨by (with_reducible repeat first|apply blk_drewN|apply blk_drew|apply blk_alloc);exact BK286.out⟩,⟨by (with_reducible repeat first|apply blk_drewN|apply blk_drew|apply blk_alloc);exact BK287.out⟩,⟨by (with_reducible repeat first|apply blk_drewN|apply blk_drew|apply blk_alloc);exact BK294.out⟩,⟨by repeat (first|(with_reducible first|exact HB.out|apply below_alloc|apply pw_below_drewN|apply below_drew1|refine below_set ?_ GE0.out|refine below_set ?_ GE286.out|refine below_set ?_ GE287.out|refine below_set ?_ GE294.out)|exact HB.out)⟩⟩
          case round =>
           clear H'
           try clear c2;try clear p2;try clear q2;try clear hx2;try clear hf2;try clear c3;try clear c4;try clear c5;try clear c6;try clear p6;try clear c21;try clear c22;try clear c23;try clear c25;try clear c25b0;try clear c26;try clear c26b0;try clear c26b1;try clear c27;try clear c27b0;try clear c28;try clear c28b0;try clear c29;try clear p29;try clear q29;try clear hx29;try clear hf29;try clear c34;try clear c35;try clear c35b0;try clear c35b1;try clear c36;try clear c37;try clear c38;try clear c40;try clear c41;try clear c46;try clear c47;try clear c48;try clear c51;try clear c54;try clear c55;try clear c56;try clear c57;try clear hcz24_0;try clear hcz24_1;try clear hcz24_2;try clear hcz39_0;try clear hcz39_1;try clear hcz39_2;try clear hcz42_0;try clear hcz42_1;try clear hcz42_2;try clear hcz49_0;try clear hcz58_0;try clear hcz58_1;try clear hcz58_2;try clear hfz24_0;try clear hfz24_1;try clear hfz24_2;try clear hfz39_0;try clear hfz39_1;try clear hfz39_2;try clear hfz42_0;try clear hfz42_1;try clear hfz42_2;try clear hfz49_0;try clear hfz58_0;try clear hfz58_1;try clear hfz58_2;try clear hx29_0;try clear p2;try clear p29;try clear p6;try clear q2;try clear q29
           obtain ⟨x48_3,x288000_3,x295001_3,x295002_3,u295001,u295002,rfl,HA,HK3,HO_8,HO_46,HO_295001,HO_295002,BK0,BK286,BK287,BK294,HB⟩:=hrel
           cases gk with
           | zero=>exact absurd HA.out (by simp [impl_Space_tree.l1])
           | succ k3 =>
            have H:=HA.out
            clear HA
            simp only [impl_Space_tree.l1] at H
            by_cases c60 : x48_3 < (t299.length : Int)
            ·rw [if_pos c60] at H
             have c60b0 : decide (x48_3 < (t299.length : Int)) = true:=decide_eq_true c60
             clear c60
             by_cases c61 : 0 ≤ x48_3
             ·rw [if_pos c61] at H
              have c61b0 : decide (0 ≤ x48_3) = true:=decide_eq_true c61
              clear c61
              by_cases c62 : x48_3 < (t299.length : Int)
              ·rw [if_pos c62] at H
               have c62b0 : decide (x48_3 < (t299.length : Int)) = true:=decide_eq_true c62
               clear c62
               by_cases c63 : (rd t299 x48_3) = 0
               ·rw [if_pos c63] at H
                have c63b0 : ((rd t299 x48_3) == 0) = true:=beq_iff_eq.mpr c63
                have c63b1 : ((rd t299 x48_3) != 0) = false:=bne_eq_false_iff_eq.mpr c63
                clear c63
                have H':=Aside0.mk H
                clear H
                have p304 : 0 ≤ (x48_3 : Int):=of_decide_eq_true (by assumption)
                have q304 : x48_3 < (t299.length : Int):=of_decide_eq_true (by assumption)
                obtain ⟨ad304,e304,hx304_0⟩:=Kd.at_int (Kd.R_reads' HO_46.out).2.2 x48_3 p304 q304
                cases e304
                replace p304:=eq_true p304
                replace q304:=eq_true q304
                go_wp2
                go_roundg k3
                case measure=>have:=HK1.out;have:=HJ44.out;have:=HK3.out;omega
                case rel=>exact ⟨(wrap64 (x48_3 + 1)),(x288000_3),(x295001_3),(x295002_3),(u295001),(u295002),(by first|rfl|(simp;done)|(simp [*];done)),H',⟨by have:=HK1.out;have:=HJ44.out;have:=HK3.out;omega⟩,⟨by (with_reducible repeat (first|apply Kd.R_alloc|apply Kd.R_drewN|apply Kd.R_drew));exact HO_8.out⟩,⟨by (with_reducible repeat (first|apply Kd.R_alloc|apply Kd.R_drewN|apply Kd.R_drew));exact HO_46.out⟩,⟨by (with_reducible repeat (first|apply Kd.R_alloc|apply Kd.R_drewN|apply Kd.R_drew));exact HO_295001.out⟩,⟨by (with_reducible repeat (first|apply Kd.S_alloc|apply Kd.S_drewN|apply Kd.S_drew));exact HO_295002.out⟩,⟨by (with_reducible repeat first|apply blk_drewN|apply blk_drew|apply blk_alloc);exact BK0.out⟩,⟨by (with_reducible repeat first|apply blk_drewN|apply blk_drew|apply blk_alloc);exact BK286.out⟩,⟨by (with_reducible repeat first|apply blk_drewN|apply blk_drew|apply blk_alloc);exact BK287.out⟩,⟨by (with_reducible repeat first|apply blk_drewN|apply blk_drew|apply blk_alloc);exact BK294.out⟩,⟨by repeat (first|(with_reducible first|exact HB.out|apply below_alloc|apply pw_below_drewN|apply below_drew1|refine below_set ?_ GE0.out|refine below_set ?_ GE286.out|refine below_set ?_ GE287.out|refine below_set ?_ GE294.out)|exact HB.out)⟩⟩
               ·rw [if_neg c63] at H
                have c63b0 : ((rd t299 x48_3) == 0) = false:=beq_eq_false_iff_ne.mpr c63
                have c63b1 : ((rd t299 x48_3) != 0) = true:=bne_iff_ne.mpr c63
                replace H:=Option.bind_eq_some_iff.mp H
                obtain ⟨⟨t305,t308⟩,A640,H⟩:=H
                replace H : (if t308 = true then ((impl_isEmpty.f k3 t305).bind fun t309=>(if t309 = true then (some (0,([] : List Int),([] : List (List Int)),false)) else (if x48_3 ≤ (t299.length : Int) then ((slices_Contains_int_int.f k3 (t299.take (x48_3 : Int).toNat) (rd t299 x48_3)).bind fun t314=>(if t314 = true then (some (0,([] : List Int),([] : List (List Int)),false)) else ((slices_ContainsFunc_int_int_71.f k3 t305 l0_0 l0_1 l0_2 l0_3).bind fun t315=>(if t315 = true then (some (0,([] : List Int),([] : List (List Int)),false)) else (if x48_3 < (x295001_3.length : Int) then (if x48_3 < (x295002_3.length : Int) then (impl_Space_tree.l1 k3 t299 t299 (t299.length : Int) (wrap64 (x48_3 + 1)) l0_0 l0_1 l0_2 l0_3 a1 (x295001_3.set (x48_3 : Int).toNat (rd t299 x48_3)) (x295002_3.set (x48_3 : Int).toNat t305)) else (none)) else (none)))))) else (none)))) else (some (0,([] : List Int),([] : List (List Int)),false))) = some (r1,r2,r3,r4):=H
                have A64:=Aside0.mk A640
                clear A640
                by_cases c65 : t308 = true
                ·subst c65
                 have H1 : ((impl_isEmpty.f k3 t305).bind fun t309=>(if t309 = true then (some (0,([] : List Int),([] : List (List Int)),false)) else (if x48_3 ≤ (t299.length : Int) then ((slices_Contains_int_int.f k3 (t299.take (x48_3 : Int).toNat) (rd t299 x48_3)).bind fun t314=>(if t314 = true then (some (0,([] : List Int),([] : List (List Int)),false)) else ((slices_ContainsFunc_int_int_71.f k3 t305 l0_0 l0_1 l0_2 l0_3).bind fun t315=>(if t315 = true then (some (0,([] : List Int),([] : List (List Int)),false)) else (if x48_3 < (x295001_3.length : Int) then (if x48_3 < (x295002_3.length : Int) then (impl_Space_tree.l1 k3 t299 t299 (t299.length : Int) (wrap64 (x48_3 + 1)) l0_0 l0_1 l0_2 l0_3 a1 (x295001_3.set (x48_3 : Int).toNat (rd t299 x48_3)) (x295002_3.set (x48_3 : Int).toNat t305)) else (none)) else (none)))))) else (none)))) = some (r1,r2,r3,r4):=by rw [if_pos rfl] at H;exact H
                 clear H
                 have H:=H1
                 clear H1
                 replace H:=Option.bind_eq_some_iff.mp H
                 obtain ⟨t309,A660,H⟩:=H
                 replace H : (if t309 = true then (some (0,([] : List Int),([] : List (List Int)),false)) else (if x48_3 ≤ (t299.length : Int) then ((slices_Contains_int_int.f k3 (t299.take (x48_3 : Int).toNat) (rd t299 x48_3)).bind fun t314=>(if t314 = true then (some (0,([] : List Int),([] : List (List Int)),false)) else ((slices_ContainsFunc_int_int_71.f k3 t305 l0_0 l0_1 l0_2 l0_3).bind fun t315=>(if t315 = true then (some (0,([] : List Int),([] : List (List Int)),false)) else (if x48_3 < (x295001_3.length : Int) then (if x48_3 < (x295002_3.length : Int) then (impl_Space_tree.l1 k3 t299 t299 (t299.length : Int) (wrap64 (x48_3 + 1)) l0_0 l0_1 l0_2 l0_3 a1 (x295001_3.set (x48_3 : Int).toNat (rd t299 x48_3)) (x295002_3.set (x48_3 : Int).toNat t305)) else (none)) else (none)))))) else (none))) = some (r1,r2,r3,r4):=H
                 have A66:=Aside0.mk A660
                 clear A660
                 by_cases c67 : t309 = true
                 ·subst c67
                  have H1 : (some (0,([] : List Int),([] : List (List Int)),false)) = some (r1,r2,r3,r4):=by rw [if_pos rfl] at H;exact H
                  clear H
                  have H:=H1
                  clear H1
                  simp only [Option.some.injEq,Prod.mk.injEq] at H
                  obtain ⟨rfl,rfl,rfl,rfl⟩:=H
                  have p304 : 0 ≤ (x48_3 : Int):=of_decide_eq_true (by assumption)
                  have q304 : x48_3 < (t299.length : Int):=of_decide_eq_true (by assumption)
                  obtain ⟨ad304,e304,hx304_0⟩:=Kd.at_int (Kd.R_reads' HO_46.out).2.2 x48_3 p304 q304
                  cases e304
                  replace p304:=eq_true p304
                  replace q304:=eq_true q304
                  have hnb68:=NB286_0.out
                  have hnc68:=NB0_286.out
                  have hnb69:=NB286_287.out
                  have hnc69:=NB287_286.out
                  have hnb70:=NB286_294.out
                  have hnc70:=NB294_286.out
                  have hcz71_0 : wr.cell? ⟨gb286,0,none⟩ = some (.pointer (some ⟨g0_,0,none⟩)):=(blk_cell BK286.out 0).trans rfl
                  have hfz71_0:=blk_frozen BK286.out 0
                  go_wp2_with (first|((with_reducible refine gate_callee (f:=67) rfl ?_);refine goesL_ (some 58) rfl rfl Try.func67 (by kernel_rfl) rfl #[.pointer (some ⟨g0_,0,none⟩),.int .i64 (rd t299 x48_3),.int .u8 81] rfl (by (try simp only [List.map_toArray,List.map_cons,List.map_nil]);first|done|rfl|(simp only [List.length_drop,List.length_take];rfl)) ?_;(with_reducible refine (impl_Space_page.calls k3 g0_ A0_0 c0_0 l0_0 A0_1 c0_1 l0_1 A0_2 c0_2 l0_2 A0_3 c0_3 l0_3 (rd t299 x48_3) 81 t305 true _ ?side1 ?side2 ?side3 ?side4 ?side5 ?side6 ?side7 ?side8 ?side9 A64.out).mono ?_);(case side1=>exact by (with_reducible repeat first|apply blk_drewN|apply blk_drew|apply blk_alloc);exact BK0.out);(case side2=>repeat (first|exact (Kd.C_below HR0_0.out HB.out)|(with_reducible first|apply Kd.C_alloc|apply Kd.C_drewN|apply Kd.C_drew)));(case side3=>exact HC0_0.out);(case side4=>repeat (first|exact (Kd.C_below HR0_1.out HB.out)|(with_reducible first|apply Kd.C_alloc|apply Kd.C_drewN|apply Kd.C_drew)));(case side5=>exact HC0_1.out);(case side6=>repeat (first|exact (Kd.C_below HR0_2.out HB.out)|(with_reducible first|apply Kd.C_alloc|apply Kd.C_drewN|apply Kd.C_drew)));(case side7=>exact HC0_2.out);(case side8=>repeat (first|exact (Kd.C_below HR0_3.out HB.out)|(with_reducible first|apply Kd.C_alloc|apply Kd.C_drewN|apply Kd.C_drew)));(case side9=>exact HC0_3.out);rintro e w72 ⟨v306,rfl,ho0,hb⟩;refine ⟨_,rfl,?_⟩;have n0_:=Aside0.mk (Kd.R_elder' (by (with_reducible repeat (first|apply Kd.R_alloc|apply Kd.R_drewN|apply Kd.R_drew));exact HO_8.out) (Kd.R_base ho0) hb);have n1_:=Aside0.mk (Kd.R_elder' (by (with_reducible repeat (first|apply Kd.R_alloc|apply Kd.R_drewN|apply Kd.R_drew));exact HO_46.out) (Kd.R_base ho0) hb);have n2_:=Aside0.mk (Kd.R_elder' (by (with_reducible repeat (first|apply Kd.R_alloc|apply Kd.R_drewN|apply Kd.R_drew));exact HO_295001.out) (Kd.R_base ho0) hb);have n3_:=Aside0.mk (Kd.S_elder' (by (with_reducible repeat (first|apply Kd.S_alloc|apply Kd.S_drewN|apply Kd.S_drew));exact HO_295002.out) (Kd.R_base ho0) hb);have n4_:=Aside0.mk (Kd.R_lower (Kd.R_new' (Kd.R_new' (Kd.R_new' ho0 (Kd.R_lt (by (with_reducible repeat (first|apply Kd.R_alloc|apply Kd.R_drewN|apply Kd.R_drew));exact HO_8.out))) (Kd.R_lt (by (with_reducible repeat (first|apply Kd.R_alloc|apply Kd.R_drewN|apply Kd.R_drew));exact HO_46.out))) (Kd.R_lt (by (with_reducible repeat (first|apply Kd.R_alloc|apply Kd.R_drewN|apply Kd.R_drew));exact HO_295001.out))) (below_size (by repeat (first|(with_reducible first|exact HB.out|apply below_alloc|apply pw_below_drewN|apply below_drew1|refine below_set ?_ GE0.out|refine below_set ?_ GE286.out|refine below_set ?_ GE287.out|refine below_set ?_ GE294.out)|exact HB.out))));have n5_:=Aside0.mk (blk_below (g:=g0_) (o:=.cells #[.slice A0_0 l0_0.length c0_0,.slice A0_1 l0_1.length c0_1,.slice A0_2 l0_2.length c0_2,.slice A0_3 l0_3.length c0_3] 30 (0,0)) (by (with_reducible repeat first|apply blk_drewN|apply blk_drew|apply blk_alloc);exact BK0.out) hb);have n6_:=Aside0.mk (blk_below (g:=gb286) (o:=.cells #[.pointer (some ⟨g0_,0,none⟩)] 87 (0,0)) (by (with_reducible repeat first|apply blk_drewN|apply blk_drew|apply blk_alloc);exact BK286.out) hb);have n7_:=Aside0.mk (blk_below (g:=gb287) (o:=.cells #[.int .i64 x288000_3,.slice none 0 0,.slice none 0 0] 61 (0,0)) (by (with_reducible repeat first|apply blk_drewN|apply blk_drew|apply blk_alloc);exact BK287.out) hb);have n8_:=Aside0.mk (blk_below (g:=gb294) (o:=.cells #[.int .i64 a1,u295001,u295002] 61 (0,0)) (by (with_reducible repeat first|apply blk_drewN|apply blk_drew|apply blk_alloc);exact BK294.out) hb);have n9_:=Aside0.mk (below_step (by repeat (first|(with_reducible first|exact HB.out|apply below_alloc|apply pw_below_drewN|apply below_drew1|refine below_set ?_ GE0.out|refine below_set ?_ GE286.out|refine below_set ?_ GE287.out|refine below_set ?_ GE294.out)|exact HB.out)) hb);clear HO_8;clear HO_46;clear HO_295001;clear HO_295002;clear BK0;clear BK286;clear BK287;clear BK294;clear HB;have HO_8:=n0_;have HO_46:=n1_;have HO_295001:=n2_;have HO_295002:=n3_;have HO307:=n4_;have BK0:=n5_;have BK286:=n6_;have BK287:=n7_;have BK294:=n8_;have HB:=n9_;clear n0_ n1_ n2_ n3_ n4_ n5_ n6_ n7_ n8_ n9_;(try clear hb);(try clear hb2);(try clear hk);(try clear hi);(try clear ho0);obtain ⟨Ao73,co73,eo73⟩:=Kd.R_slice HO307.out;subst eo73)|(go_at_call 68;(with_reducible refine (impl_isEmpty.calls k3 _ _ t305 true _ ?side1 ?side2 A66.out).mono ?_);(case side1=>repeat (first|exact (Kd.R_reads' HO307.out).2.2|(with_reducible first|apply Kd.C_alloc|apply Kd.C_drewN|apply Kd.C_drew)));(case side2=>exact (Kd.R_reads' HO307.out).2.1);rintro e w' ⟨rfl,⟨nd,rfl⟩⟩;(try (have n0_:=Aside0.mk (Kd.R_drewN HO_8.out nd);have n1_:=Aside0.mk (Kd.R_drewN HO_46.out nd);have n2_:=Aside0.mk (Kd.R_drewN HO_295001.out nd);have n3_:=Aside0.mk (Kd.S_drewN HO_295002.out nd);have n4_:=Aside0.mk (Kd.R_drewN HO307.out nd);have n5_:=Aside0.mk (blk_drewN BK0.out nd);have n6_:=Aside0.mk (blk_drewN BK286.out nd);have n7_:=Aside0.mk (blk_drewN BK287.out nd);have n8_:=Aside0.mk (blk_drewN BK294.out nd);have n9_:=Aside0.mk (pw_below_drewN HB.out nd);generalize World.drewN w72 nd = w72 at n0_ n1_ n2_ n3_ n4_ n5_ n6_ n7_ n8_ n9_ ⊢;clear HO_8 HO_46 HO_295001 HO_295002 HO307 BK0 BK286 BK287 BK294 HB;have HO_8:=n0_;have HO_46:=n1_;have HO_295001:=n2_;have HO_295002:=n3_;have HO307:=n4_;have BK0:=n5_;have BK286:=n6_;have BK287:=n7_;have BK294:=n8_;have HB:=n9_;clear n0_ n1_ n2_ n3_ n4_ n5_ n6_ n7_ n8_ n9_));have hnb74:=NB287_0.out;have hnc74:=NB0_287.out;have hnb75:=NB287_294.out;have hnc75:=NB294_287.out;have hcz76_0 : w72.cell? ⟨gb287,0,none⟩ = some (.int .i64 x288000_3):=(blk_cell BK287.out 0).trans rfl;have hcz76_1 : w72.cell? ⟨gb287,1,none⟩ = some (.slice none 0 0):=(blk_cell BK287.out 1).trans rfl;have hcz76_2 : w72.cell? ⟨gb287,2,none⟩ = some (.slice none 0 0):=(blk_cell BK287.out 2).trans rfl;have hfz76_0:=blk_frozen BK287.out 0;have hfz76_1:=blk_frozen BK287.out 1;have hfz76_2:=blk_frozen BK287.out 2))
                  refine bodyPost_ret (results_ct rfl _ _ gb287 61 #[.int .i64 0,.slice none 0 0,.slice none 0 0] (0,0) _ rfl (by (with_reducible repeat first|apply blk_drewN|apply blk_drew|apply blk_alloc);refine blk_put (cs:=#[.int .i64 0,.slice none 0 0,.slice none 0 0]) ?_ 2 _ rfl;(with_reducible repeat first|apply blk_drewN|apply blk_drew|apply blk_alloc);refine blk_put (cs:=#[.int .i64 0,.slice none 0 0,.slice none 0 0]) ?_ 1 _ rfl;(with_reducible repeat first|apply blk_drewN|apply blk_drew|apply blk_alloc);refine blk_put (cs:=#[.int .i64 x288000_3,.slice none 0 0,.slice none 0 0]) ?_ 0 _ rfl;(with_reducible repeat first|apply blk_drewN|apply blk_drew|apply blk_alloc);exact BK287.out) Try.underlying61 rfl (by kernel_rfl)) rfl ?_
                  exact ⟨_,_,by first|rfl|(simp [*,errW_none,errW_some] <;> rfl),by first|exact Kd.R_nil _ _ _ _ _|exact Kd.N_nil _ _ _ _ _|exact Kd.V_nil _ _ _ _ _|exact Kd.Q_nil _ _ _ _ _|exact Kd.S_nil _ _ _ _ _,by first|exact Kd.S_nil _ _ _ _ _|exact Kd.N_nil _ _ _ _ _|exact Kd.V_nil _ _ _ _ _|exact Kd.Q_nil _ _ _ _ _|exact Kd.R_nil _ _ _ _ _,by repeat (first|(with_reducible first|exact HB.out|apply below_alloc|apply pw_below_drewN|apply below_drew1|refine below_set ?_ GE0.out|refine below_set ?_ GE286.out|refine below_set ?_ GE287.out|refine below_set ?_ GE294.out)|exact HB.out)⟩
                 ·replace c67:=Bool.eq_false_iff.mpr c67
                  subst c67
                  have H1 : (if x48_3 ≤ (t299.length : Int) then ((slices_Contains_int_int.f k3 (t299.take (x48_3 : Int).toNat) (rd t299 x48_3)).bind fun t314=>(if t314 = true then (some (0,([] : List Int),([] : List (List Int)),false)) else ((slices_ContainsFunc_int_int_71.f k3 t305 l0_0 l0_1 l0_2 l0_3).bind fun t315=>(if t315 = true then (some (0,([] : List Int),([] : List (List Int)),false)) else (if x48_3 < (x295001_3.length : Int) then (if x48_3 < (x295002_3.length : Int) then (impl_Space_tree.l1 k3 t299 t299 (t299.length : Int) (wrap64 (x48_3 + 1)) l0_0 l0_1 l0_2 l0_3 a1 (x295001_3.set (x48_3 : Int).toNat (rd t299 x48_3)) (x295002_3.set (x48_3 : Int).toNat t305)) else (none)) else (none)))))) else (none)) = some (r1,r2,r3,r4):=by rw [if_neg (show ¬ (false = true) by decide)] at H;exact H
                  clear H
                  have H:=H1
                  clear H1
                  have c77b0:=eq_true (of_decide_eq_true (by assumption) : 0 ≤ x48_3)
                  by_cases c78 : x48_3 ≤ (t299.length : Int)
                  ·rw [if_pos c78] at H
                   have c78b0:=eq_true c78
                   have c78b1 : decide (x48_3 ≤ (t299.length : Int)) = true:=decide_eq_true c78
                   clear c78
                   obtain ⟨y310,hy310⟩ : ∃ y_ : List Int,y_ = (t299.take (x48_3 : Int).toNat):=⟨_,rfl⟩
                   replace H : ((slices_Contains_int_int.f k3 y310 (rd t299 x48_3)).bind fun t314=>(if t314 = true then (some (0,([] : List Int),([] : List (List Int)),false)) else ((slices_ContainsFunc_int_int_71.f k3 t305 l0_0 l0_1 l0_2 l0_3).bind fun t315=>(if t315 = true then (some (0,([] : List Int),([] : List (List Int)),false)) else (if x48_3 < (x295001_3.length : Int) then (if x48_3 < (x295002_3.length : Int) then (impl_Space_tree.l1 k3 t299 t299 (t299.length : Int) (wrap64 (x48_3 + 1)) l0_0 l0_1 l0_2 l0_3 a1 (x295001_3.set (x48_3 : Int).toNat (rd t299 x48_3)) (x295002_3.set (x48_3 : Int).toNat t305)) else (none)) else (none)))))) = some (r1,r2,r3,r4):=by first|(rw [hy310];with_reducible exact H)|(have H2_:=(Option.bind_some _ _).symm.trans H;rw [hy310];with_reducible exact H2_)|(have H2_:=(Option.bind_some _ _).symm.trans H;with_reducible exact H2_)|with_reducible exact H|(rw [hy310];exact H)|exact H
                   have Ny310:=Aside0.mk hy310
                   clear hy310
                   replace H:=Option.bind_eq_some_iff.mp H
                   obtain ⟨t314,A790,H⟩:=H
                   replace H : (if t314 = true then (some (0,([] : List Int),([] : List (List Int)),false)) else ((slices_ContainsFunc_int_int_71.f k3 t305 l0_0 l0_1 l0_2 l0_3).bind fun t315=>(if t315 = true then (some (0,([] : List Int),([] : List (List Int)),false)) else (if x48_3 < (x295001_3.length : Int) then (if x48_3 < (x295002_3.length : Int) then (impl_Space_tree.l1 k3 t299 t299 (t299.length : Int) (wrap64 (x48_3 + 1)) l0_0 l0_1 l0_2 l0_3 a1 (x295001_3.set (x48_3 : Int).toNat (rd t299 x48_3)) (x295002_3.set (x48_3 : Int).toNat t305)) else (none)) else (none))))) = some (r1,r2,r3,r4):=H
                   have A79:=Aside0.mk A790
                   clear A790
                   by_cases c80 : t314 = true
                   ·subst c80
                    have H1 : (some (0,([] : List Int),([] : List (List Int)),false)) = some (r1,r2,r3,r4):=by rw [if_pos rfl] at H;exact H
                    clear H
                    have H:=H1
                    clear H1
                    simp only [Option.some.injEq,Prod.mk.injEq] at H
                    obtain ⟨rfl,rfl,rfl,rfl⟩:=H
                    have p304 : 0 ≤ (x48_3 : Int):=of_decide_eq_true (by assumption)
                    have q304 : x48_3 < (t299.length : Int):=of_decide_eq_true (by assumption)
                    obtain ⟨ad304,e304,hx304_0⟩:=Kd.at_int (Kd.R_reads' HO_46.out).2.2 x48_3 p304 q304
                    cases e304
                    replace p304:=eq_true p304
                    replace q304:=eq_true q304
                    have hnb81:=NB286_0.out
                    have hnc81:=NB0_286.out
                    have hnb82:=NB286_287.out
                    have hnc82:=NB287_286.out
                    have hnb83:=NB286_294.out
                    have hnc83:=NB294_286.out
                    have hcz84_0 : wr.cell? ⟨gb286,0,none⟩ = some (.pointer (some ⟨g0_,0,none⟩)):=(blk_cell BK286.out 0).trans rfl
                    have hfz84_0:=blk_frozen BK286.out 0
                    go_wp2_with (first|((with_reducible refine gate_callee (f:=67) rfl ?_);refine goesL_ (some 58) rfl rfl Try.func67 (by kernel_rfl) rfl #[.pointer (some ⟨g0_,0,none⟩),.int .i64 (rd t299 x48_3),.int .u8 81] rfl (by (try simp only [List.map_toArray,List.map_cons,List.map_nil]);first|done|rfl|(simp only [List.length_drop,List.length_take];rfl)) ?_;(with_reducible refine (impl_Space_page.calls k3 g0_ A0_0 c0_0 l0_0 A0_1 c0_1 l0_1 A0_2 c0_2 l0_2 A0_3 c0_3 l0_3 (rd t299 x48_3) 81 t305 true _ ?side1 ?side2 ?side3 ?side4 ?side5 ?side6 ?side7 ?side8 ?side9 A64.out).mono ?_);(case side1=>exact by (with_reducible repeat first|apply blk_drewN|apply blk_drew|apply blk_alloc);exact BK0.out);(case side2=>repeat (first|exact (Kd.C_below HR0_0.out HB.out)|(with_reducible first|apply Kd.C_alloc|apply Kd.C_drewN|apply Kd.C_drew)));(case side3=>exact HC0_0.out);(case side4=>repeat (first|exact (Kd.C_below HR0_1.out HB.out)|(with_reducible first|apply Kd.C_alloc|apply Kd.C_drewN|apply Kd.C_drew)));(case side5=>exact HC0_1.out);(case side6=>repeat (first|exact (Kd.C_below HR0_2.out HB.out)|(with_reducible first|apply Kd.C_alloc|apply Kd.C_drewN|apply Kd.C_drew)));(case side7=>exact HC0_2.out);(case side8=>repeat (first|exact (Kd.C_below HR0_3.out HB.out)|(with_reducible first|apply Kd.C_alloc|apply Kd.C_drewN|apply Kd.C_drew)));(case side9=>exact HC0_3.out);rintro e w85 ⟨v306,rfl,ho0,hb⟩;refine ⟨_,rfl,?_⟩;have n0_:=Aside0.mk (Kd.R_elder' (by (with_reducible repeat (first|apply Kd.R_alloc|apply Kd.R_drewN|apply Kd.R_drew));exact HO_8.out) (Kd.R_base ho0) hb);have n1_:=Aside0.mk (Kd.R_elder' (by (with_reducible repeat (first|apply Kd.R_alloc|apply Kd.R_drewN|apply Kd.R_drew));exact HO_46.out) (Kd.R_base ho0) hb);have n2_:=Aside0.mk (Kd.R_elder' (by (with_reducible repeat (first|apply Kd.R_alloc|apply Kd.R_drewN|apply Kd.R_drew));exact HO_295001.out) (Kd.R_base ho0) hb);have n3_:=Aside0.mk (Kd.S_elder' (by (with_reducible repeat (first|apply Kd.S_alloc|apply Kd.S_drewN|apply Kd.S_drew));exact HO_295002.out) (Kd.R_base ho0) hb);have n4_:=Aside0.mk (Kd.R_lower (Kd.R_new' (Kd.R_new' (Kd.R_new' ho0 (Kd.R_lt (by (with_reducible repeat (first|apply Kd.R_alloc|apply Kd.R_drewN|apply Kd.R_drew));exact HO_8.out))) (Kd.R_lt (by (with_reducible repeat (first|apply Kd.R_alloc|apply Kd.R_drewN|apply Kd.R_drew));exact HO_46.out))) (Kd.R_lt (by (with_reducible repeat (first|apply Kd.R_alloc|apply Kd.R_drewN|apply Kd.R_drew));exact HO_295001.out))) (below_size (by repeat (first|(with_reducible first|exact HB.out|apply below_alloc|apply pw_below_drewN|apply below_drew1|refine below_set ?_ GE0.out|refine below_set ?_ GE286.out|refine below_set ?_ GE287.out|refine below_set ?_ GE294.out)|exact HB.out))));have n5_:=Aside0.mk (blk_below (g:=g0_) (o:=.cells #[.slice A0_0 l0_0.length c0_0,.slice A0_1 l0_1.length c0_1,.slice A0_2 l0_2.length c0_2,.slice A0_3 l0_3.length c0_3] 30 (0,0)) (by (with_reducible repeat first|apply blk_drewN|apply blk_drew|apply blk_alloc);exact BK0.out) hb);have n6_:=Aside0.mk (blk_below (g:=gb286) (o:=.cells #[.pointer (some ⟨g0_,0,none⟩)] 87 (0,0)) (by (with_reducible repeat first|apply blk_drewN|apply blk_drew|apply blk_alloc);exact BK286.out) hb);have n7_:=Aside0.mk (blk_below (g:=gb287) (o:=.cells #[.int .i64 x288000_3,.slice none 0 0,.slice none 0 0] 61 (0,0)) (by (with_reducible repeat first|apply blk_drewN|apply blk_drew|apply blk_alloc);exact BK287.out) hb);have n8_:=Aside0.mk (blk_below (g:=gb294) (o:=.cells #[.int .i64 a1,u295001,u295002] 61 (0,0)) (by (with_reducible repeat first|apply blk_drewN|apply blk_drew|apply blk_alloc);exact BK294.out) hb);have n9_:=Aside0.mk (below_step (by repeat (first|(with_reducible first|exact HB.out|apply below_alloc|apply pw_below_drewN|apply below_drew1|refine below_set ?_ GE0.out|refine below_set ?_ GE286.out|refine below_set ?_ GE287.out|refine below_set ?_ GE294.out)|exact HB.out)) hb);clear HO_8;clear HO_46;clear HO_295001;clear HO_295002;clear BK0;clear BK286;clear BK287;clear BK294;clear HB;have HO_8:=n0_;have HO_46:=n1_;have HO_295001:=n2_;have HO_295002:=n3_;have HO307:=n4_;have BK0:=n5_;have BK286:=n6_;have BK287:=n7_;have BK294:=n8_;have HB:=n9_;clear n0_ n1_ n2_ n3_ n4_ n5_ n6_ n7_ n8_ n9_;(try clear hb);(try clear hb2);(try clear hk);(try clear hi);(try clear ho0);obtain ⟨Ao86,co86,eo86⟩:=Kd.R_slice HO307.out;subst eo86)|(go_at_call 68;(with_reducible refine (impl_isEmpty.calls k3 _ _ t305 false _ ?side1 ?side2 A66.out).mono ?_);(case side1=>repeat (first|exact (Kd.R_reads' HO307.out).2.2|(with_reducible first|apply Kd.C_alloc|apply Kd.C_drewN|apply Kd.C_drew)));(case side2=>exact (Kd.R_reads' HO307.out).2.1);rintro e w' ⟨rfl,⟨nd,rfl⟩⟩;(try (have n0_:=Aside0.mk (Kd.R_drewN HO_8.out nd);have n1_:=Aside0.mk (Kd.R_drewN HO_46.out nd);have n2_:=Aside0.mk (Kd.R_drewN HO_295001.out nd);have n3_:=Aside0.mk (Kd.S_drewN HO_295002.out nd);have n4_:=Aside0.mk (Kd.R_drewN HO307.out nd);have n5_:=Aside0.mk (blk_drewN BK0.out nd);have n6_:=Aside0.mk (blk_drewN BK286.out nd);have n7_:=Aside0.mk (blk_drewN BK287.out nd);have n8_:=Aside0.mk (blk_drewN BK294.out nd);have n9_:=Aside0.mk (pw_below_drewN HB.out nd);generalize World.drewN w85 nd = w85 at n0_ n1_ n2_ n3_ n4_ n5_ n6_ n7_ n8_ n9_ ⊢;clear HO_8 HO_46 HO_295001 HO_295002 HO307 BK0 BK286 BK287 BK294 HB;have HO_8:=n0_;have HO_46:=n1_;have HO_295001:=n2_;have HO_295002:=n3_;have HO307:=n4_;have BK0:=n5_;have BK286:=n6_;have BK287:=n7_;have BK294:=n8_;have HB:=n9_;clear n0_ n1_ n2_ n3_ n4_ n5_ n6_ n7_ n8_ n9_));have q87 : (x48_3 : Int) ≤ ((t299.length : Int) : Int):=of_decide_eq_true (by assumption);obtain ⟨i087,hi087,_,hsz87,_⟩:=info_parts info3;have hroom87 : t299.length ≤ co59:=(Kd.R_reads' HO_8.out).2.1;have hC87 : Kd.C (Kd.int .i64) _ (some ad304) t299.length t299:=(Kd.R_reads' HO_8.out).2.2;have hcut87:=cut_to (P:=Try.prog) 24 3 .i64 Try.underlying24 hi087 (some ad304) t299.length co59 x48_3 (of_decide_eq_true (by assumption)) q87 hroom87;have hr87:=Kd.C_take (m:=(x48_3 : Int).toNat) hC87 (by omega);have hy87 : y310.length = (x48_3 : Int).toNat:=(by rw [Ny310.out,List.length_take];omega);rw [← Ny310.out] at hr87;rw [← hy87] at hcut87;have HR313:=Aside0.mk hr87;have HC313:=Aside0.mk (show y310.length ≤ co59 from by omega);clear hr87 hC87 hroom87 hi087 hsz87;have KY87:=Aside0.mk hy87;clear hy87;have KL87:=Aside0.mk (show (x48_3 : Int).toNat ≤ t299.length from by omega);replace q87:=eq_true q87)|(go_at_call 69;(with_reducible refine (slices_Contains_int_int.calls k3 _ _ y310 (rd t299 x48_3) true _ ?side1 ?side2 A79.out).mono ?_);(case side1=>repeat (first|exact (by repeat (first|(with_reducible exact HR313.out)|(with_reducible first|apply Kd.C_alloc|apply Kd.C_drewN|apply Kd.C_drew)|exact HR313.out))|(with_reducible first|apply Kd.C_alloc|apply Kd.C_drewN|apply Kd.C_drew)));(case side2=>exact HC313.out);rintro e w' ⟨rfl,⟨nd,rfl⟩⟩;(try (have n0_:=Aside0.mk (Kd.R_drewN HO_8.out nd);have n1_:=Aside0.mk (Kd.R_drewN HO_46.out nd);have n2_:=Aside0.mk (Kd.R_drewN HO_295001.out nd);have n3_:=Aside0.mk (Kd.S_drewN HO_295002.out nd);have n4_:=Aside0.mk (Kd.R_drewN HO307.out nd);have n5_:=Aside0.mk (blk_drewN BK0.out nd);have n6_:=Aside0.mk (blk_drewN BK286.out nd);have n7_:=Aside0.mk (blk_drewN BK287.out nd);have n8_:=Aside0.mk (blk_drewN BK294.out nd);have n9_:=Aside0.mk (Kd.C_drewN HR313.out nd);have n10_:=Aside0.mk (pw_below_drewN HB.out nd);generalize World.drewN w85 nd = w85 at n0_ n1_ n2_ n3_ n4_ n5_ n6_ n7_ n8_ n9_ n10_ ⊢;clear HO_8 HO_46 HO_295001 HO_295002 HO307 BK0 BK286 BK287 BK294 HR313 HB;have HO_8:=n0_;have HO_46:=n1_;have HO_295001:=n2_;have HO_295002:=n3_;have HO307:=n4_;have BK0:=n5_;have BK286:=n6_;have BK287:=n7_;have BK294:=n8_;have HR313:=n9_;have HB:=n10_;clear n0_ n1_ n2_ n3_ n4_ n5_ n6_ n7_ n8_ n9_ n10_));have hnb88:=NB287_0.out;have hnc88:=NB0_287.out;have hnb89:=NB287_294.out;have hnc89:=NB294_287.out;have hcz90_0 : w85.cell? ⟨gb287,0,none⟩ = some (.int .i64 x288000_3):=(blk_cell BK287.out 0).trans rfl;have hcz90_1 : w85.cell? ⟨gb287,1,none⟩ = some (.slice none 0 0):=(blk_cell BK287.out 1).trans rfl;have hcz90_2 : w85.cell? ⟨gb287,2,none⟩ = some (.slice none 0 0):=(blk_cell BK287.out 2).trans rfl;have hfz90_0:=blk_frozen BK287.out 0;have hfz90_1:=blk_frozen BK287.out 1;have hfz90_2:=blk_frozen BK287.out 2))
                    refine bodyPost_ret (results_ct rfl _ _ gb287 61 #[.int .i64 0,.slice none 0 0,.slice none 0 0] (0,0) _ rfl (by (with_reducible repeat first|apply blk_drewN|apply blk_drew|apply blk_alloc);refine blk_put (cs:=#[.int .i64 0,.slice none 0 0,.slice none 0 0]) ?_ 2 _ rfl;(with_reducible repeat first|apply blk_drewN|apply blk_drew|apply blk_alloc);refine blk_put (cs:=#[.int .i64 0,.slice none 0 0,.slice none 0 0]) ?_ 1 _ rfl;(with_reducible repeat first|apply blk_drewN|apply blk_drew|apply blk_alloc);refine blk_put (cs:=#[.int .i64 x288000_3,.slice none 0 0,.slice none 0 0]) ?_ 0 _ rfl;(with_reducible repeat first|apply blk_drewN|apply blk_drew|apply blk_alloc);exact BK287.out) Try.underlying61 rfl (by kernel_rfl)) rfl ?_
                    exact ⟨_,_,by first|rfl|(simp [*,errW_none,errW_some] <;> rfl),by first|exact Kd.R_nil _ _ _ _ _|exact Kd.N_nil _ _ _ _ _|exact Kd.V_nil _ _ _ _ _|exact Kd.Q_nil _ _ _ _ _|exact Kd.S_nil _ _ _ _ _,by first|exact Kd.S_nil _ _ _ _ _|exact Kd.N_nil _ _ _ _ _|exact Kd.V_nil _ _ _ _ _|exact Kd.Q_nil _ _ _ _ _|exact Kd.R_nil _ _ _ _ _,by repeat (first|(with_reducible first|exact HB.out|apply below_alloc|apply pw_below_drewN|apply below_drew1|refine below_set ?_ GE0.out|refine below_set ?_ GE286.out|refine below_set ?_ GE287.out|refine below_set ?_ GE294.out)|exact HB.out)⟩
                   ·replace c80:=Bool.eq_false_iff.mpr c80
                    subst c80
                    have H1 : ((slices_ContainsFunc_int_int_71.f k3 t305 l0_0 l0_1 l0_2 l0_3).bind fun t315=>(if t315 = true then (some (0,([] : List Int),([] : List (List Int)),false)) else (if x48_3 < (x295001_3.length : Int) then (if x48_3 < (x295002_3.length : Int) then (impl_Space_tree.l1 k3 t299 t299 (t299.length : Int) (wrap64 (x48_3 + 1)) l0_0 l0_1 l0_2 l0_3 a1 (x295001_3.set (x48_3 : Int).toNat (rd t299 x48_3)) (x295002_3.set (x48_3 : Int).toNat t305)) else (none)) else (none)))) = some (r1,r2,r3,r4):=by rw [if_neg (show ¬ (false = true) by decide)] at H;exact H
                    clear H
                    have H:=H1
                    clear H1
                    replace H:=Option.bind_eq_some_iff.mp H
                    obtain ⟨t315,A910,H⟩:=H
                    replace H : (if t315 = true then (some (0,([] : List Int),([] : List (List Int)),false)) else (if x48_3 < (x295001_3.length : Int) then (if x48_3 < (x295002_3.length : Int) then (impl_Space_tree.l1 k3 t299 t299 (t299.length : Int) (wrap64 (x48_3 + 1)) l0_0 l0_1 l0_2 l0_3 a1 (x295001_3.set (x48_3 : Int).toNat (rd t299 x48_3)) (x295002_3.set (x48_3 : Int).toNat t305)) else (none)) else (none))) = some (r1,r2,r3,r4):=H
                    have A91:=Aside0.mk A910
                    clear A910
                    by_cases c92 : t315 = true
                    ·subst c92
                     have H1 : (some (0,([] : List Int),([] : List (List Int)),false)) = some (r1,r2,r3,r4):=by rw [if_pos rfl] at H;exact H
                     clear H
                     have H:=H1
                     clear H1
                     simp only [Option.some.injEq,Prod.mk.injEq] at H
                     obtain ⟨rfl,rfl,rfl,rfl⟩:=H
                     have p304 : 0 ≤ (x48_3 : Int):=of_decide_eq_true (by assumption)
                     have q304 : x48_3 < (t299.length : Int):=of_decide_eq_true (by assumption)
                     obtain ⟨ad304,e304,hx304_0⟩:=Kd.at_int (Kd.R_reads' HO_46.out).2.2 x48_3 p304 q304
                     cases e304
                     replace p304:=eq_true p304
                     replace q304:=eq_true q304
                     have hnb93:=NB286_0.out
                     have hnc93:=NB0_286.out
                     have hnb94:=NB286_287.out
                     have hnc94:=NB287_286.out
                     have hnb95:=NB286_294.out
                     have hnc95:=NB294_286.out
                     have hcz96_0 : wr.cell? ⟨gb286,0,none⟩ = some (.pointer (some ⟨g0_,0,none⟩)):=(blk_cell BK286.out 0).trans rfl
                     have hfz96_0:=blk_frozen BK286.out 0
                     go_wp2_with (first|((with_reducible refine gate_callee (f:=67) rfl ?_);refine goesL_ (some 58) rfl rfl Try.func67 (by kernel_rfl) rfl #[.pointer (some ⟨g0_,0,none⟩),.int .i64 (rd t299 x48_3),.int .u8 81] rfl (by (try simp only [List.map_toArray,List.map_cons,List.map_nil]);first|done|rfl|(simp only [List.length_drop,List.length_take];rfl)) ?_;(with_reducible refine (impl_Space_page.calls k3 g0_ A0_0 c0_0 l0_0 A0_1 c0_1 l0_1 A0_2 c0_2 l0_2 A0_3 c0_3 l0_3 (rd t299 x48_3) 81 t305 true _ ?side1 ?side2 ?side3 ?side4 ?side5 ?side6 ?side7 ?side8 ?side9 A64.out).mono ?_);(case side1=>exact by (with_reducible repeat first|apply blk_drewN|apply blk_drew|apply blk_alloc);exact BK0.out);(case side2=>repeat (first|exact (Kd.C_below HR0_0.out HB.out)|(with_reducible first|apply Kd.C_alloc|apply Kd.C_drewN|apply Kd.C_drew)));(case side3=>exact HC0_0.out);(case side4=>repeat (first|exact (Kd.C_below HR0_1.out HB.out)|(with_reducible first|apply Kd.C_alloc|apply Kd.C_drewN|apply Kd.C_drew)));(case side5=>exact HC0_1.out);(case side6=>repeat (first|exact (Kd.C_below HR0_2.out HB.out)|(with_reducible first|apply Kd.C_alloc|apply Kd.C_drewN|apply Kd.C_drew)));(case side7=>exact HC0_2.out);(case side8=>repeat (first|exact (Kd.C_below HR0_3.out HB.out)|(with_reducible first|apply Kd.C_alloc|apply Kd.C_drewN|apply Kd.C_drew)));(case side9=>exact HC0_3.out);rintro e w97 ⟨v306,rfl,ho0,hb⟩;refine ⟨_,rfl,?_⟩;have n0_:=Aside0.mk (Kd.R_elder' (by (with_reducible repeat (first|apply Kd.R_alloc|apply Kd.R_drewN|apply Kd.R_drew));exact HO_8.out) (Kd.R_base ho0) hb);have n1_:=Aside0.mk (Kd.R_elder' (by (with_reducible repeat (first|apply Kd.R_alloc|apply Kd.R_drewN|apply Kd.R_drew));exact HO_46.out) (Kd.R_base ho0) hb);have n2_:=Aside0.mk (Kd.R_elder' (by (with_reducible repeat (first|apply Kd.R_alloc|apply Kd.R_drewN|apply Kd.R_drew));exact HO_295001.out) (Kd.R_base ho0) hb);have n3_:=Aside0.mk (Kd.S_elder' (by (with_reducible repeat (first|apply Kd.S_alloc|apply Kd.S_drewN|apply Kd.S_drew));exact HO_295002.out) (Kd.R_base ho0) hb);have n4_:=Aside0.mk (Kd.R_lower (Kd.R_new' (Kd.R_new' (Kd.R_new' ho0 (Kd.R_lt (by (with_reducible repeat (first|apply Kd.R_alloc|apply Kd.R_drewN|apply Kd.R_drew));exact HO_8.out))) (Kd.R_lt (by (with_reducible repeat (first|apply Kd.R_alloc|apply Kd.R_drewN|apply Kd.R_drew));exact HO_46.out))) (Kd.R_lt (by (with_reducible repeat (first|apply Kd.R_alloc|apply Kd.R_drewN|apply Kd.R_drew));exact HO_295001.out))) (below_size (by repeat (first|(with_reducible first|exact HB.out|apply below_alloc|apply pw_below_drewN|apply below_drew1|refine below_set ?_ GE0.out|refine below_set ?_ GE286.out|refine below_set ?_ GE287.out|refine below_set ?_ GE294.out)|exact HB.out))));have n5_:=Aside0.mk (blk_below (g:=g0_) (o:=.cells #[.slice A0_0 l0_0.length c0_0,.slice A0_1 l0_1.length c0_1,.slice A0_2 l0_2.length c0_2,.slice A0_3 l0_3.length c0_3] 30 (0,0)) (by (with_reducible repeat first|apply blk_drewN|apply blk_drew|apply blk_alloc);exact BK0.out) hb);have n6_:=Aside0.mk (blk_below (g:=gb286) (o:=.cells #[.pointer (some ⟨g0_,0,none⟩)] 87 (0,0)) (by (with_reducible repeat first|apply blk_drewN|apply blk_drew|apply blk_alloc);exact BK286.out) hb);have n7_:=Aside0.mk (blk_below (g:=gb287) (o:=.cells #[.int .i64 x288000_3,.slice none 0 0,.slice none 0 0] 61 (0,0)) (by (with_reducible repeat first|apply blk_drewN|apply blk_drew|apply blk_alloc);exact BK287.out) hb);have n8_:=Aside0.mk (blk_below (g:=gb294) (o:=.cells #[.int .i64 a1,u295001,u295002] 61 (0,0)) (by (with_reducible repeat first|apply blk_drewN|apply blk_drew|apply blk_alloc);exact BK294.out) hb);have n9_:=Aside0.mk (below_step (by repeat (first|(with_reducible first|exact HB.out|apply below_alloc|apply pw_below_drewN|apply below_drew1|refine below_set ?_ GE0.out|refine below_set ?_ GE286.out|refine below_set ?_ GE287.out|refine below_set ?_ GE294.out)|exact HB.out)) hb);clear HO_8;clear HO_46;clear HO_295001;clear HO_295002;clear BK0;clear BK286;clear BK287;clear BK294;clear HB;have HO_8:=n0_;have HO_46:=n1_;have HO_295001:=n2_;have HO_295002:=n3_;have HO307:=n4_;have BK0:=n5_;have BK286:=n6_;have BK287:=n7_;have BK294:=n8_;have HB:=n9_;clear n0_ n1_ n2_ n3_ n4_ n5_ n6_ n7_ n8_ n9_;(try clear hb);(try clear hb2);(try clear hk);(try clear hi);(try clear ho0);obtain ⟨Ao98,co98,eo98⟩:=Kd.R_slice HO307.out;subst eo98)|(go_at_call 68;(with_reducible refine (impl_isEmpty.calls k3 _ _ t305 false _ ?side1 ?side2 A66.out).mono ?_);(case side1=>repeat (first|exact (Kd.R_reads' HO307.out).2.2|(with_reducible first|apply Kd.C_alloc|apply Kd.C_drewN|apply Kd.C_drew)));(case side2=>exact (Kd.R_reads' HO307.out).2.1);rintro e w' ⟨rfl,⟨nd,rfl⟩⟩;(try (have n0_:=Aside0.mk (Kd.R_drewN HO_8.out nd);have n1_:=Aside0.mk (Kd.R_drewN HO_46.out nd);have n2_:=Aside0.mk (Kd.R_drewN HO_295001.out nd);have n3_:=Aside0.mk (Kd.S_drewN HO_295002.out nd);have n4_:=Aside0.mk (Kd.R_drewN HO307.out nd);have n5_:=Aside0.mk (blk_drewN BK0.out nd);have n6_:=Aside0.mk (blk_drewN BK286.out nd);have n7_:=Aside0.mk (blk_drewN BK287.out nd);have n8_:=Aside0.mk (blk_drewN BK294.out nd);have n9_:=Aside0.mk (pw_below_drewN HB.out nd);generalize World.drewN w97 nd = w97 at n0_ n1_ n2_ n3_ n4_ n5_ n6_ n7_ n8_ n9_ ⊢;clear HO_8 HO_46 HO_295001 HO_295002 HO307 BK0 BK286 BK287 BK294 HB;have HO_8:=n0_;have HO_46:=n1_;have HO_295001:=n2_;have HO_295002:=n3_;have HO307:=n4_;have BK0:=n5_;have BK286:=n6_;have BK287:=n7_;have BK294:=n8_;have HB:=n9_;clear n0_ n1_ n2_ n3_ n4_ n5_ n6_ n7_ n8_ n9_));have q99 : (x48_3 : Int) ≤ ((t299.length : Int) : Int):=of_decide_eq_true (by assumption);obtain ⟨i099,hi099,_,hsz99,_⟩:=info_parts info3;have hroom99 : t299.length ≤ co59:=(Kd.R_reads' HO_8.out).2.1;have hC99 : Kd.C (Kd.int .i64) _ (some ad304) t299.length t299:=(Kd.R_reads' HO_8.out).2.2;have hcut99:=cut_to (P:=Try.prog) 24 3 .i64 Try.underlying24 hi099 (some ad304) t299.length co59 x48_3 (of_decide_eq_true (by assumption)) q99 hroom99;have hr99:=Kd.C_take (m:=(x48_3 : Int).toNat) hC99 (by omega);have hy99 : y310.length = (x48_3 : Int).toNat:=(by rw [Ny310.out,List.length_take];omega);rw [← Ny310.out] at hr99;rw [← hy99] at hcut99;have HR313:=Aside0.mk hr99;have HC313:=Aside0.mk (show y310.length ≤ co59 from by omega);clear hr99 hC99 hroom99 hi099 hsz99;have KY99:=Aside0.mk hy99;clear hy99;have KL99:=Aside0.mk (show (x48_3 : Int).toNat ≤ t299.length from by omega);replace q99:=eq_true q99)|(go_at_call 69;(with_reducible refine (slices_Contains_int_int.calls k3 _ _ y310 (rd t299 x48_3) false _ ?side1 ?side2 A79.out).mono ?_);(case side1=>repeat (first|exact (by repeat (first|(with_reducible exact HR313.out)|(with_reducible first|apply Kd.C_alloc|apply Kd.C_drewN|apply Kd.C_drew)|exact HR313.out))|(with_reducible first|apply Kd.C_alloc|apply Kd.C_drewN|apply Kd.C_drew)));(case side2=>exact HC313.out);rintro e w' ⟨rfl,⟨nd,rfl⟩⟩;(try (have n0_:=Aside0.mk (Kd.R_drewN HO_8.out nd);have n1_:=Aside0.mk (Kd.R_drewN HO_46.out nd);have n2_:=Aside0.mk (Kd.R_drewN HO_295001.out nd);have n3_:=Aside0.mk (Kd.S_drewN HO_295002.out nd);have n4_:=Aside0.mk (Kd.R_drewN HO307.out nd);have n5_:=Aside0.mk (blk_drewN BK0.out nd);have n6_:=Aside0.mk (blk_drewN BK286.out nd);have n7_:=Aside0.mk (blk_drewN BK287.out nd);have n8_:=Aside0.mk (blk_drewN BK294.out nd);have n9_:=Aside0.mk (Kd.C_drewN HR313.out nd);have n10_:=Aside0.mk (pw_below_drewN HB.out nd);generalize World.drewN w97 nd = w97 at n0_ n1_ n2_ n3_ n4_ n5_ n6_ n7_ n8_ n9_ n10_ ⊢;clear HO_8 HO_46 HO_295001 HO_295002 HO307 BK0 BK286 BK287 BK294 HR313 HB;have HO_8:=n0_;have HO_46:=n1_;have HO_295001:=n2_;have HO_295002:=n3_;have HO307:=n4_;have BK0:=n5_;have BK286:=n6_;have BK287:=n7_;have BK294:=n8_;have HR313:=n9_;have HB:=n10_;clear n0_ n1_ n2_ n3_ n4_ n5_ n6_ n7_ n8_ n9_ n10_)))|(go_at_call 70;(with_reducible refine (slices_ContainsFunc_int_int_71.calls k3 _ _ t305 gb286 g0_ A0_0 c0_0 l0_0 A0_1 c0_1 l0_1 A0_2 c0_2 l0_2 A0_3 c0_3 l0_3 true _ ?side1 ?side2 ?side3 ?side4 ?side5 ?side6 ?side7 ?side8 ?side9 ?side10 ?side11 ?side12 A91.out).mono ?_);(case side1=>repeat (first|exact (Kd.R_reads' HO307.out).2.2|(with_reducible first|apply Kd.C_alloc|apply Kd.C_drewN|apply Kd.C_drew)));(case side2=>exact (Kd.R_reads' HO307.out).2.1);(case side3=>exact by (with_reducible repeat first|apply blk_drewN|apply blk_drew|apply blk_alloc);exact BK286.out);(case side4=>exact by (with_reducible repeat first|apply blk_drewN|apply blk_drew|apply blk_alloc);exact BK0.out);(case side5=>repeat (first|exact (Kd.C_below HR0_0.out HB.out)|(with_reducible first|apply Kd.C_alloc|apply Kd.C_drewN|apply Kd.C_drew)));(case side6=>exact HC0_0.out);(case side7=>repeat (first|exact (Kd.C_below HR0_1.out HB.out)|(with_reducible first|apply Kd.C_alloc|apply Kd.C_drewN|apply Kd.C_drew)));(case side8=>exact HC0_1.out);(case side9=>repeat (first|exact (Kd.C_below HR0_2.out HB.out)|(with_reducible first|apply Kd.C_alloc|apply Kd.C_drewN|apply Kd.C_drew)));(case side10=>exact HC0_2.out);(case side11=>repeat (first|exact (Kd.C_below HR0_3.out HB.out)|(with_reducible first|apply Kd.C_alloc|apply Kd.C_drewN|apply Kd.C_drew)));(case side12=>exact HC0_3.out);rintro e w100 ⟨rfl,hb⟩;have n0_:=Aside0.mk (Kd.R_below (by (with_reducible repeat (first|apply Kd.R_alloc|apply Kd.R_drewN|apply Kd.R_drew));exact HO_8.out) hb);have n1_:=Aside0.mk (Kd.R_below (by (with_reducible repeat (first|apply Kd.R_alloc|apply Kd.R_drewN|apply Kd.R_drew));exact HO_46.out) hb);have n2_:=Aside0.mk (Kd.R_below (by (with_reducible repeat (first|apply Kd.R_alloc|apply Kd.R_drewN|apply Kd.R_drew));exact HO_295001.out) hb);have n3_:=Aside0.mk (Kd.S_below (by (with_reducible repeat (first|apply Kd.S_alloc|apply Kd.S_drewN|apply Kd.S_drew));exact HO_295002.out) hb);have n4_:=Aside0.mk (Kd.R_below (by (with_reducible repeat (first|apply Kd.R_alloc|apply Kd.R_drewN|apply Kd.R_drew));exact HO307.out) hb);have n5_:=Aside0.mk (blk_below (g:=g0_) (o:=.cells #[.slice A0_0 l0_0.length c0_0,.slice A0_1 l0_1.length c0_1,.slice A0_2 l0_2.length c0_2,.slice A0_3 l0_3.length c0_3] 30 (0,0)) (by (with_reducible repeat first|apply blk_drewN|apply blk_drew|apply blk_alloc);exact BK0.out) hb);have n6_:=Aside0.mk (blk_below (g:=gb286) (o:=.cells #[.pointer (some ⟨g0_,0,none⟩)] 87 (0,0)) (by (with_reducible repeat first|apply blk_drewN|apply blk_drew|apply blk_alloc);exact BK286.out) hb);have n7_:=Aside0.mk (blk_below (g:=gb287) (o:=.cells #[.int .i64 x288000_3,.slice none 0 0,.slice none 0 0] 61 (0,0)) (by (with_reducible repeat first|apply blk_drewN|apply blk_drew|apply blk_alloc);exact BK287.out) hb);have n8_:=Aside0.mk (blk_below (g:=gb294) (o:=.cells #[.int .i64 a1,u295001,u295002] 61 (0,0)) (by (with_reducible repeat first|apply blk_drewN|apply blk_drew|apply blk_alloc);exact BK294.out) hb);have n9_:=Aside0.mk (below_step (by repeat (first|(with_reducible first|exact HB.out|apply below_alloc|apply pw_below_drewN|apply below_drew1|refine below_set ?_ GE0.out|refine below_set ?_ GE286.out|refine below_set ?_ GE287.out|refine below_set ?_ GE294.out)|exact HB.out)) hb);clear HO_8;clear HO_46;clear HO_295001;clear HO_295002;clear HO307;clear BK0;clear BK286;clear BK287;clear BK294;clear HB;have HO_8:=n0_;have HO_46:=n1_;have HO_295001:=n2_;have HO_295002:=n3_;have HO307:=n4_;have BK0:=n5_;have BK286:=n6_;have BK287:=n7_;have BK294:=n8_;have HB:=n9_;clear n0_ n1_ n2_ n3_ n4_ n5_ n6_ n7_ n8_ n9_;(try clear hb);(try clear hb2);(try clear hk);(try clear hi);have hnb101:=NB287_0.out;have hnc101:=NB0_287.out;have hnb102:=NB287_294.out;have hnc102:=NB294_287.out;have hcz103_0 : w100.cell? ⟨gb287,0,none⟩ = some (.int .i64 x288000_3):=(blk_cell BK287.out 0).trans rfl;have hcz103_1 : w100.cell? ⟨gb287,1,none⟩ = some (.slice none 0 0):=(blk_cell BK287.out 1).trans rfl;have hcz103_2 : w100.cell? ⟨gb287,2,none⟩ = some (.slice none 0 0):=(blk_cell BK287.out 2).trans rfl;have hfz103_0:=blk_frozen BK287.out 0;have hfz103_1:=blk_frozen BK287.out 1;have hfz103_2:=blk_frozen BK287.out 2))
                     refine bodyPost_ret (results_ct rfl _ _ gb287 61 #[.int .i64 0,.slice none 0 0,.slice none 0 0] (0,0) _ rfl (by (with_reducible repeat first|apply blk_drewN|apply blk_drew|apply blk_alloc);refine blk_put (cs:=#[.int .i64 0,.slice none 0 0,.slice none 0 0]) ?_ 2 _ rfl;(with_reducible repeat first|apply blk_drewN|apply blk_drew|apply blk_alloc);refine blk_put (cs:=#[.int .i64 0,.slice none 0 0,.slice none 0 0]) ?_ 1 _ rfl;(with_reducible repeat first|apply blk_drewN|apply blk_drew|apply blk_alloc);refine blk_put (cs:=#[.int .i64 x288000_3,.slice none 0 0,.slice none 0 0]) ?_ 0 _ rfl;(with_reducible repeat first|apply blk_drewN|apply blk_drew|apply blk_alloc);exact BK287.out) Try.underlying61 rfl (by kernel_rfl)) rfl ?_
                     exact ⟨_,_,by first|rfl|(simp [*,errW_none,errW_some] <;> rfl),by first|exact Kd.R_nil _ _ _ _ _|exact Kd.N_nil _ _ _ _ _|exact Kd.V_nil _ _ _ _ _|exact Kd.Q_nil _ _ _ _ _|exact Kd.S_nil _ _ _ _ _,by first|exact Kd.S_nil _ _ _ _ _|exact Kd.N_nil _ _ _ _ _|exact Kd.V_nil _ _ _ _ _|exact Kd.Q_nil _ _ _ _ _|exact Kd.R_nil _ _ _ _ _,by repeat (first|(with_reducible first|exact HB.out|apply below_alloc|apply pw_below_drewN|apply below_drew1|refine below_set ?_ GE0.out|refine below_set ?_ GE286.out|refine below_set ?_ GE287.out|refine below_set ?_ GE294.out)|exact HB.out)⟩
                    ·replace c92:=Bool.eq_false_iff.mpr c92
                     subst c92
                     have H1 : (if x48_3 < (x295001_3.length : Int) then (if x48_3 < (x295002_3.length : Int) then (impl_Space_tree.l1 k3 t299 t299 (t299.length : Int) (wrap64 (x48_3 + 1)) l0_0 l0_1 l0_2 l0_3 a1 (x295001_3.set (x48_3 : Int).toNat (rd t299 x48_3)) (x295002_3.set (x48_3 : Int).toNat t305)) else (none)) else (none)) = some (r1,r2,r3,r4):=by rw [if_neg (show ¬ (false = true) by decide)] at H;exact H
                     clear H
                     have H:=H1
                     clear H1
                     by_cases c104 : x48_3 < (x295001_3.length : Int)
                     ·rw [if_pos c104] at H
                      have c104b0 : decide (x48_3 < (x295001_3.length : Int)) = true:=decide_eq_true c104
                      clear c104
                      obtain ⟨y316,hy316⟩ : ∃ y_ : List Int,y_ = (x295001_3.set (x48_3 : Int).toNat (rd t299 x48_3)):=⟨_,rfl⟩
                      replace H : (if x48_3 < (x295002_3.length : Int) then (impl_Space_tree.l1 k3 t299 t299 (t299.length : Int) (wrap64 (x48_3 + 1)) l0_0 l0_1 l0_2 l0_3 a1 y316 (x295002_3.set (x48_3 : Int).toNat t305)) else (none)) = some (r1,r2,r3,r4):=by first|(rw [hy316];with_reducible exact H)|(have H2_:=(Option.bind_some _ _).symm.trans H;rw [hy316];with_reducible exact H2_)|(have H2_:=(Option.bind_some _ _).symm.trans H;with_reducible exact H2_)|with_reducible exact H|(rw [hy316];exact H)|exact H
                      have Ny316:=Aside0.mk hy316
                      clear hy316
                      by_cases c106 : x48_3 < (x295002_3.length : Int)
                      ·rw [if_pos c106] at H
                       have c106b0 : decide (x48_3 < (x295002_3.length : Int)) = true:=decide_eq_true c106
                       clear c106
                       obtain ⟨y317,hy317⟩ : ∃ y_ : List (List Int),y_ = (x295002_3.set (x48_3 : Int).toNat t305):=⟨_,rfl⟩
                       replace H : (impl_Space_tree.l1 k3 t299 t299 (t299.length : Int) (wrap64 (x48_3 + 1)) l0_0 l0_1 l0_2 l0_3 a1 y316 y317) = some (r1,r2,r3,r4):=by first|(rw [hy317];with_reducible exact H)|(have H2_:=(Option.bind_some _ _).symm.trans H;rw [hy317];with_reducible exact H2_)|(have H2_:=(Option.bind_some _ _).symm.trans H;with_reducible exact H2_)|with_reducible exact H|(rw [hy317];exact H)|exact H
                       have Ny317:=Aside0.mk hy317
                       clear hy317
                       have H':=Aside0.mk H
                       clear H
                       have p304 : 0 ≤ (x48_3 : Int):=of_decide_eq_true (by assumption)
                       have q304 : x48_3 < (t299.length : Int):=of_decide_eq_true (by assumption)
                       obtain ⟨ad304,e304,hx304_0⟩:=Kd.at_int (Kd.R_reads' HO_46.out).2.2 x48_3 p304 q304
                       cases e304
                       replace p304:=eq_true p304
                       replace q304:=eq_true q304
                       have hnb108:=NB286_0.out
                       have hnc108:=NB0_286.out
                       have hnb109:=NB286_287.out
                       have hnc109:=NB287_286.out
                       have hnb110:=NB286_294.out
                       have hnc110:=NB294_286.out
                       have hcz111_0 : wr.cell? ⟨gb286,0,none⟩ = some (.pointer (some ⟨g0_,0,none⟩)):=(blk_cell BK286.out 0).trans rfl
                       have hfz111_0:=blk_frozen BK286.out 0
                       try go_wp2_with (first|((with_reducible refine gate_callee (f:=67) rfl ?_);refine goesL_ (some 58) rfl rfl Try.func67 (by kernel_rfl) rfl #[.pointer (some ⟨g0_,0,none⟩),.int .i64 (rd t299 x48_3),.int .u8 81] rfl (by (try simp only [List.map_toArray,List.map_cons,List.map_nil]);first|done|rfl|(simp only [List.length_drop,List.length_take];rfl)) ?_;(with_reducible refine (impl_Space_page.calls k3 g0_ A0_0 c0_0 l0_0 A0_1 c0_1 l0_1 A0_2 c0_2 l0_2 A0_3 c0_3 l0_3 (rd t299 x48_3) 81 t305 true _ ?side1 ?side2 ?side3 ?side4 ?side5 ?side6 ?side7 ?side8 ?side9 A64.out).mono ?_);(case side1=>exact by (with_reducible repeat first|apply blk_drewN|apply blk_drew|apply blk_alloc);exact BK0.out);(case side2=>repeat (first|exact (Kd.C_below HR0_0.out HB.out)|(with_reducible first|apply Kd.C_alloc|apply Kd.C_drewN|apply Kd.C_drew)));(case side3=>exact HC0_0.out);(case side4=>repeat (first|exact (Kd.C_below HR0_1.out HB.out)|(with_reducible first|apply Kd.C_alloc|apply Kd.C_drewN|apply Kd.C_drew)));(case side5=>exact HC0_1.out);(case side6=>repeat (first|exact (Kd.C_below HR0_2.out HB.out)|(with_reducible first|apply Kd.C_alloc|apply Kd.C_drewN|apply Kd.C_drew)));(case side7=>exact HC0_2.out);(case side8=>repeat (first|exact (Kd.C_below HR0_3.out HB.out)|(with_reducible first|apply Kd.C_alloc|apply Kd.C_drewN|apply Kd.C_drew)));(case side9=>exact HC0_3.out);rintro e w112 ⟨v306,rfl,ho0,hb⟩;refine ⟨_,rfl,?_⟩;have n0_:=Aside0.mk (Kd.R_elder' (by (with_reducible repeat (first|apply Kd.R_alloc|apply Kd.R_drewN|apply Kd.R_drew));exact HO_8.out) (Kd.R_base ho0) hb);have n1_:=Aside0.mk (Kd.R_elder' (by (with_reducible repeat (first|apply Kd.R_alloc|apply Kd.R_drewN|apply Kd.R_drew));exact HO_46.out) (Kd.R_base ho0) hb);have n2_:=Aside0.mk (Kd.R_elder' (by (with_reducible repeat (first|apply Kd.R_alloc|apply Kd.R_drewN|apply Kd.R_drew));exact HO_295001.out) (Kd.R_base ho0) hb);have n3_:=Aside0.mk (Kd.S_elder' (by (with_reducible repeat (first|apply Kd.S_alloc|apply Kd.S_drewN|apply Kd.S_drew));exact HO_295002.out) (Kd.R_base ho0) hb);have n4_:=Aside0.mk (Kd.R_lower (Kd.R_new' (Kd.R_new' (Kd.R_new' ho0 (Kd.R_lt (by (with_reducible repeat (first|apply Kd.R_alloc|apply Kd.R_drewN|apply Kd.R_drew));exact HO_8.out))) (Kd.R_lt (by (with_reducible repeat (first|apply Kd.R_alloc|apply Kd.R_drewN|apply Kd.R_drew));exact HO_46.out))) (Kd.R_lt (by (with_reducible repeat (first|apply Kd.R_alloc|apply Kd.R_drewN|apply Kd.R_drew));exact HO_295001.out))) (below_size (by repeat (first|(with_reducible first|exact HB.out|apply below_alloc|apply pw_below_drewN|apply below_drew1|refine below_set ?_ GE0.out|refine below_set ?_ GE286.out|refine below_set ?_ GE287.out|refine below_set ?_ GE294.out)|exact HB.out))));have n5_:=Aside0.mk (blk_below (g:=g0_) (o:=.cells #[.slice A0_0 l0_0.length c0_0,.slice A0_1 l0_1.length c0_1,.slice A0_2 l0_2.length c0_2,.slice A0_3 l0_3.length c0_3] 30 (0,0)) (by (with_reducible repeat first|apply blk_drewN|apply blk_drew|apply blk_alloc);exact BK0.out) hb);have n6_:=Aside0.mk (blk_below (g:=gb286) (o:=.cells #[.pointer (some ⟨g0_,0,none⟩)] 87 (0,0)) (by (with_reducible repeat first|apply blk_drewN|apply blk_drew|apply blk_alloc);exact BK286.out) hb);have n7_:=Aside0.mk (blk_below (g:=gb287) (o:=.cells #[.int .i64 x288000_3,.slice none 0 0,.slice none 0 0] 61 (0,0)) (by (with_reducible repeat first|apply blk_drewN|apply blk_drew|apply blk_alloc);exact BK287.out) hb);have n8_:=Aside0.mk (blk_below (g:=gb294) (o:=.cells #[.int .i64 a1,u295001,u295002] 61 (0,0)) (by (with_reducible repeat first|apply blk_drewN|apply blk_drew|apply blk_alloc);exact BK294.out) hb);have n9_:=Aside0.mk (below_step (by repeat (first|(with_reducible first|exact HB.out|apply below_alloc|apply pw_below_drewN|apply below_drew1|refine below_set ?_ GE0.out|refine below_set ?_ GE286.out|refine below_set ?_ GE287.out|refine below_set ?_ GE294.out)|exact HB.out)) hb);clear HO_8;clear HO_46;clear HO_295001;clear HO_295002;clear BK0;clear BK286;clear BK287;clear BK294;clear HB;have HO_8:=n0_;have HO_46:=n1_;have HO_295001:=n2_;have HO_295002:=n3_;have HO307:=n4_;have BK0:=n5_;have BK286:=n6_;have BK287:=n7_;have BK294:=n8_;have HB:=n9_;clear n0_ n1_ n2_ n3_ n4_ n5_ n6_ n7_ n8_ n9_;(try clear hb);(try clear hb2);(try clear hk);(try clear hi);(try clear ho0);obtain ⟨Ao113,co113,eo113⟩:=Kd.R_slice HO307.out;subst eo113)|(go_at_call 68;(with_reducible refine (impl_isEmpty.calls k3 _ _ t305 false _ ?side1 ?side2 A66.out).mono ?_);(case side1=>repeat (first|exact (Kd.R_reads' HO307.out).2.2|(with_reducible first|apply Kd.C_alloc|apply Kd.C_drewN|apply Kd.C_drew)));(case side2=>exact (Kd.R_reads' HO307.out).2.1);rintro e w' ⟨rfl,⟨nd,rfl⟩⟩;(try (have n0_:=Aside0.mk (Kd.R_drewN HO_8.out nd);have n1_:=Aside0.mk (Kd.R_drewN HO_46.out nd);have n2_:=Aside0.mk (Kd.R_drewN HO_295001.out nd);have n3_:=Aside0.mk (Kd.S_drewN HO_295002.out nd);have n4_:=Aside0.mk (Kd.R_drewN HO307.out nd);have n5_:=Aside0.mk (blk_drewN BK0.out nd);have n6_:=Aside0.mk (blk_drewN BK286.out nd);have n7_:=Aside0.mk (blk_drewN BK287.out nd);have n8_:=Aside0.mk (blk_drewN BK294.out nd);have n9_:=Aside0.mk (pw_below_drewN HB.out nd);generalize World.drewN w112 nd = w112 at n0_ n1_ n2_ n3_ n4_ n5_ n6_ n7_ n8_ n9_ ⊢;clear HO_8 HO_46 HO_295001 HO_295002 HO307 BK0 BK286 BK287 BK294 HB;have HO_8:=n0_;have HO_46:=n1_;have HO_295001:=n2_;have HO_295002:=n3_;have HO307:=n4_;have BK0:=n5_;have BK286:=n6_;have BK287:=n7_;have BK294:=n8_;have HB:=n9_;clear n0_ n1_ n2_ n3_ n4_ n5_ n6_ n7_ n8_ n9_));have q114 : (x48_3 : Int) ≤ ((t299.length : Int) : Int):=of_decide_eq_true (by assumption);obtain ⟨i0114,hi0114,_,hsz114,_⟩:=info_parts info3;have hroom114 : t299.length ≤ co59:=(Kd.R_reads' HO_8.out).2.1;have hC114 : Kd.C (Kd.int .i64) _ (some ad304) t299.length t299:=(Kd.R_reads' HO_8.out).2.2;have hcut114:=cut_to (P:=Try.prog) 24 3 .i64 Try.underlying24 hi0114 (some ad304) t299.length co59 x48_3 (of_decide_eq_true (by assumption)) q114 hroom114;have hr114:=Kd.C_take (m:=(x48_3 : Int).toNat) hC114 (by omega);have hy114 : y310.length = (x48_3 : Int).toNat:=(by rw [Ny310.out,List.length_take];omega);rw [← Ny310.out] at hr114;rw [← hy114] at hcut114;have HR313:=Aside0.mk hr114;have HC313:=Aside0.mk (show y310.length ≤ co59 from by omega);clear hr114 hC114 hroom114 hi0114 hsz114;have KY114:=Aside0.mk hy114;clear hy114;have KL114:=Aside0.mk (show (x48_3 : Int).toNat ≤ t299.length from by omega);replace q114:=eq_true q114)|(go_at_call 69;(with_reducible refine (slices_Contains_int_int.calls k3 _ _ y310 (rd t299 x48_3) false _ ?side1 ?side2 A79.out).mono ?_);(case side1=>repeat (first|exact (by repeat (first|(with_reducible exact HR313.out)|(with_reducible first|apply Kd.C_alloc|apply Kd.C_drewN|apply Kd.C_drew)|exact HR313.out))|(with_reducible first|apply Kd.C_alloc|apply Kd.C_drewN|apply Kd.C_drew)));(case side2=>exact HC313.out);rintro e w' ⟨rfl,⟨nd,rfl⟩⟩;(try (have n0_:=Aside0.mk (Kd.R_drewN HO_8.out nd);have n1_:=Aside0.mk (Kd.R_drewN HO_46.out nd);have n2_:=Aside0.mk (Kd.R_drewN HO_295001.out nd);have n3_:=Aside0.mk (Kd.S_drewN HO_295002.out nd);have n4_:=Aside0.mk (Kd.R_drewN HO307.out nd);have n5_:=Aside0.mk (blk_drewN BK0.out nd);have n6_:=Aside0.mk (blk_drewN BK286.out nd);have n7_:=Aside0.mk (blk_drewN BK287.out nd);have n8_:=Aside0.mk (blk_drewN BK294.out nd);have n9_:=Aside0.mk (Kd.C_drewN HR313.out nd);have n10_:=Aside0.mk (pw_below_drewN HB.out nd);generalize World.drewN w112 nd = w112 at n0_ n1_ n2_ n3_ n4_ n5_ n6_ n7_ n8_ n9_ n10_ ⊢;clear HO_8 HO_46 HO_295001 HO_295002 HO307 BK0 BK286 BK287 BK294 HR313 HB;have HO_8:=n0_;have HO_46:=n1_;have HO_295001:=n2_;have HO_295002:=n3_;have HO307:=n4_;have BK0:=n5_;have BK286:=n6_;have BK287:=n7_;have BK294:=n8_;have HR313:=n9_;have HB:=n10_;clear n0_ n1_ n2_ n3_ n4_ n5_ n6_ n7_ n8_ n9_ n10_)))|(go_at_call 70;(with_reducible refine (slices_ContainsFunc_int_int_71.calls k3 _ _ t305 gb286 g0_ A0_0 c0_0 l0_0 A0_1 c0_1 l0_1 A0_2 c0_2 l0_2 A0_3 c0_3 l0_3 false _ ?side1 ?side2 ?side3 ?side4 ?side5 ?side6 ?side7 ?side8 ?side9 ?side10 ?side11 ?side12 A91.out).mono ?_);(case side1=>repeat (first|exact (Kd.R_reads' HO307.out).2.2|(with_reducible first|apply Kd.C_alloc|apply Kd.C_drewN|apply Kd.C_drew)));(case side2=>exact (Kd.R_reads' HO307.out).2.1);(case side3=>exact by (with_reducible repeat first|apply blk_drewN|apply blk_drew|apply blk_alloc);exact BK286.out);(case side4=>exact by (with_reducible repeat first|apply blk_drewN|apply blk_drew|apply blk_alloc);exact BK0.out);(case side5=>repeat (first|exact (Kd.C_below HR0_0.out HB.out)|(with_reducible first|apply Kd.C_alloc|apply Kd.C_drewN|apply Kd.C_drew)));(case side6=>exact HC0_0.out);(case side7=>repeat (first|exact (Kd.C_below HR0_1.out HB.out)|(with_reducible first|apply Kd.C_alloc|apply Kd.C_drewN|apply Kd.C_drew)));(case side8=>exact HC0_1.out);(case side9=>repeat (first|exact (Kd.C_below HR0_2.out HB.out)|(with_reducible first|apply Kd.C_alloc|apply Kd.C_drewN|apply Kd.C_drew)));(case side10=>exact HC0_2.out);(case side11=>repeat (first|exact (Kd.C_below HR0_3.out HB.out)|(with_reducible first|apply Kd.C_alloc|apply Kd.C_drewN|apply Kd.C_drew)));(case side12=>exact HC0_3.out);rintro e w115 ⟨rfl,hb⟩;have n0_:=Aside0.mk (Kd.R_below (by (with_reducible repeat (first|apply Kd.R_alloc|apply Kd.R_drewN|apply Kd.R_drew));exact HO_8.out) hb);have n1_:=Aside0.mk (Kd.R_below (by (with_reducible repeat (first|apply Kd.R_alloc|apply Kd.R_drewN|apply Kd.R_drew));exact HO_46.out) hb);have n2_:=Aside0.mk (Kd.R_below (by (with_reducible repeat (first|apply Kd.R_alloc|apply Kd.R_drewN|apply Kd.R_drew));exact HO_295001.out) hb);have n3_:=Aside0.mk (Kd.S_below (by (with_reducible repeat (first|apply Kd.S_alloc|apply Kd.S_drewN|apply Kd.S_drew));exact HO_295002.out) hb);have n4_:=Aside0.mk (Kd.R_below (by (with_reducible repeat (first|apply Kd.R_alloc|apply Kd.R_drewN|apply Kd.R_drew));exact HO307.out) hb);have n5_:=Aside0.mk (blk_below (g:=g0_) (o:=.cells #[.slice A0_0 l0_0.length c0_0,.slice A0_1 l0_1.length c0_1,.slice A0_2 l0_2.length c0_2,.slice A0_3 l0_3.length c0_3] 30 (0,0)) (by (with_reducible repeat first|apply blk_drewN|apply blk_drew|apply blk_alloc);exact BK0.out) hb);have n6_:=Aside0.mk (blk_below (g:=gb286) (o:=.cells #[.pointer (some ⟨g0_,0,none⟩)] 87 (0,0)) (by (with_reducible repeat first|apply blk_drewN|apply blk_drew|apply blk_alloc);exact BK286.out) hb);have n7_:=Aside0.mk (blk_below (g:=gb287) (o:=.cells #[.int .i64 x288000_3,.slice none 0 0,.slice none 0 0] 61 (0,0)) (by (with_reducible repeat first|apply blk_drewN|apply blk_drew|apply blk_alloc);exact BK287.out) hb);have n8_:=Aside0.mk (blk_below (g:=gb294) (o:=.cells #[.int .i64 a1,u295001,u295002] 61 (0,0)) (by (with_reducible repeat first|apply blk_drewN|apply blk_drew|apply blk_alloc);exact BK294.out) hb);have n9_:=Aside0.mk (below_step (by repeat (first|(with_reducible first|exact HB.out|apply below_alloc|apply pw_below_drewN|apply below_drew1|refine below_set ?_ GE0.out|refine below_set ?_ GE286.out|refine below_set ?_ GE287.out|refine below_set ?_ GE294.out)|exact HB.out)) hb);clear HO_8;clear HO_46;clear HO_295001;clear HO_295002;clear HO307;clear BK0;clear BK286;clear BK287;clear BK294;clear HB;have HO_8:=n0_;have HO_46:=n1_;have HO_295001:=n2_;have HO_295002:=n3_;have HO307:=n4_;have BK0:=n5_;have BK286:=n6_;have BK287:=n7_;have BK294:=n8_;have HB:=n9_;clear n0_ n1_ n2_ n3_ n4_ n5_ n6_ n7_ n8_ n9_;(try clear hb);(try clear hb2);(try clear hk);(try clear hi)))
                       have n0_:=Aside0.mk (Kd.R_drew HO_8.out)
                       have n1_:=Aside0.mk (Kd.R_drew HO_46.out)
                       have n2_:=Aside0.mk (Kd.R_drew HO_295001.out)
                       have n3_:=Aside0.mk (Kd.S_drew HO_295002.out)
                       have n4_:=Aside0.mk (Kd.R_drew HO307.out)
                       have n5_:=Aside0.mk (blk_drew BK0.out)
                       have n6_:=Aside0.mk (blk_drew BK286.out)
                       have n7_:=Aside0.mk (blk_drew BK287.out)
                       have n8_:=Aside0.mk (blk_drew BK294.out)
                       have n9_:=Aside0.mk (below_drew1 HB.out)
                       clear HO_8
                       clear HO_46
                       clear HO_295001
                       clear HO_295002
                       clear HO307
                       clear BK0
                       clear BK286
                       clear BK287
                       clear BK294
                       clear HB
                       have HO_8:=n0_
                       have HO_46:=n1_
                       have HO_295001:=n2_
                       have HO_295002:=n3_
                       have HO307:=n4_
                       have BK0:=n5_
                       have BK286:=n6_
                       have BK287:=n7_
                       have BK294:=n8_
                       have HB:=n9_
                       clear n0_ n1_ n2_ n3_ n4_ n5_ n6_ n7_ n8_ n9_
                       have p105 : 0 ≤ (x48_3 : Int):=of_decide_eq_true (by assumption)
                       have q105 : (x48_3 : Int) < ((x295001_3.length : Int) : Int):=of_decide_eq_true (by assumption)
                       obtain ⟨go105,co105,eo105,gb105,gl105,cl105,HG105⟩:=Kd.R_form HO_295001.out (by omega)
                       (first|cases eo105|(injection eo105 with ea_ en_ ec_;(first|subst ea_|(injection ea_ with ea_;subst ea_));subst ec_;clear en_))
                       have GB105:=Aside0.mk gb105
                       have GG105:=Aside0.mk HG105
                       clear gb105 gl105 HG105
                       obtain ⟨hx105_0,hf105_0⟩:=Kd.R_celln 0 HO_295001.out (x48_3 : Int) p105 q105
                       replace p105:=eq_true p105
                       replace q105:=eq_true q105
                       have HP117:=Kd.R_putn HO_295001.out (x48_3 : Int) (rd t299 x48_3)
                       rw [← Ny316.out] at HP117
                       have HQ117:=Aside0.mk HP117
                       clear HP117
                       have p107 : 0 ≤ (x48_3 : Int):=of_decide_eq_true (by assumption)
                       have q107 : (x48_3 : Int) < ((x295002_3.length : Int) : Int):=of_decide_eq_true (by assumption)
                       obtain ⟨go107,co107,eo107,gb107,gl107,cl107,HG107⟩:=Kd.S_form HO_295002.out (by omega)
                       (first|cases eo107|(injection eo107 with ea_ en_ ec_;(first|subst ea_|(injection ea_ with ea_;subst ea_));subst ec_;clear en_))
                       have GB107:=Aside0.mk gb107
                       have GG107:=Aside0.mk HG107
                       clear gb107 gl107 HG107
                       obtain ⟨_,ce107,hcl107,hM107,hcc107,hfr107,_,_⟩:=Kd.S_elem (Kd.S_far (p:=⟨go105,(x48_3 : Int).toNat,none⟩) (Kd.S_mono HO_295002.out (fun k_ hk=>(⟨hk,fun e_=>hk.1.2.2 (by rw [e_];rfl)⟩ : _∧k_ ≠ go105))) (fun _ hk=>hk.2) (.int .i64 (rd t299 x48_3))) [] (x48_3 : Int) p107 q107
                       obtain ⟨ve107_0,rfl,ge107_0⟩:=hM107
                       have hx107_0:=hcc107 0 _ rfl
                       have hf107_0:=hfr107 0
                       (try simp only [show ((Kd.slice 3 (Kd.int .i64))).sz = 1 from rfl,Nat.mul_one,Nat.add_zero] at hx107_0)
                       (try simp only [show ((Kd.slice 3 (Kd.int .i64))).sz = 1 from rfl,Nat.mul_one,Nat.add_zero] at hf107_0)
                       (try clear hM107);clear hcl107 hcc107 hfr107
                       replace p107:=eq_true p107
                       replace q107:=eq_true q107
                       have HX118:=Aside0.mk (show Kd.S (Kd.slice 3 (Kd.int .i64)) 24 _ w.heap.size (fun k_=>((fun k_=>some k_ ≠ (.slice (some ad304) t299.length co59 : Value).ownBlock∧some k_ ≠ (.slice (some ad304) t299.length co59 : Value).ownBlock∧some k_ ≠ (.slice (some ⟨go105,0,none⟩) x295001_3.length co105 : Value).ownBlock)) k_∧¬ ((fun k_=>some k_ = (.slice Ao113 t305.length co113 : Value).ownBlock)) k_) (.slice (some ⟨go107,0,none⟩) x295002_3.length co107) x295002_3 from (Kd.S_mono (Kd.S_far (p:=⟨go105,(x48_3 : Int).toNat,none⟩) (Kd.S_mono HO_295002.out (fun k_ hk=>(⟨hk,fun e_=>hk.1.2.2 (by rw [e_];rfl)⟩ : _∧k_ ≠ go105))) (fun _ hk=>hk.2) (.int .i64 (rd t299 x48_3))) (fun k_ hk=>⟨⟨hk.1.1.1,⟨hk.1.1.2.1,hk.1.1.2.2⟩⟩,fun e_=>hk.1.2 e_⟩)))
                       obtain ⟨oki118,ce118,hcl118,hM118,hcc118,hfr118,hoki118,hH118⟩:=Kd.S_elem HX118.out [] (x48_3 : Int) (of_decide_eq_true (by assumption)) (by have h_ : (x48_3 : Int) < ((x295002_3.length : Int) : Int):=of_decide_eq_true (by assumption);first|exact h_|(have e_:=(Kd.S_reads' HO_295002.out).1;omega)|simpa using h_)
                       obtain ⟨ve118_0,rfl,ge118_0⟩:=hM118
                       have HP118:=(Kd.S_seg hH118 (of_decide_eq_true (by assumption)) (by have h_ : (x48_3 : Int) < ((x295002_3.length : Int) : Int):=of_decide_eq_true (by assumption);first|exact h_|(have e_:=(Kd.S_reads' HO_295002.out).1;omega)|simpa using h_) (seg:=[.slice Ao113 t305.length co113]) (j:=0) (show 1 ≤ 1 from by decide) (x':=t305) (Kd.M_row (Kd.R_mono (Kd.R_tight rfl (Kd.R_mono (ok':=fun k_=>((fun k_=>some k_ ≠ (.slice (some ad304) t299.length co59 : Value).ownBlock∧some k_ ≠ (.slice (some ad304) t299.length co59 : Value).ownBlock∧some k_ ≠ (.slice (some ⟨go105,0,none⟩) x295001_3.length co105 : Value).ownBlock)) k_∧k_ ≠ go107) (Kd.R_apart' ((Kd.R_far (p:=⟨go105,(x48_3 : Int).toNat,none⟩) (Kd.R_mono HO307.out (fun k_ hk=>(⟨hk,fun e_=>hk.2 (by rw [e_];rfl)⟩ : _∧k_ ≠ go105))) (fun _ hk=>hk.2) (.int .i64 (rd t299 x48_3)))) (Kd.S_typed ((Kd.S_far (p:=⟨go105,(x48_3 : Int).toNat,none⟩) (Kd.S_mono HO_295002.out (fun k_ hk=>(⟨hk,fun e_=>hk.1.2.2 (by rw [e_];rfl)⟩ : _∧k_ ≠ go105))) (fun _ hk=>hk.2) (.int .i64 (rd t299 x48_3))))) (by decide)) (fun k_ hk=>⟨⟨hk.1.1.1.1.2,⟨hk.1.1.1.2,hk.1.1.2⟩⟩,fun e_=>(hk.2) (by rw [e_];rfl)⟩))) (fun _ h_=>Or.inr (h_)))) (fun _ hk=>hk) (fun k_ hk_=>((Kd.R_mono (ok':=fun k_=>((fun k_=>some k_ ≠ (.slice (some ad304) t299.length co59 : Value).ownBlock∧some k_ ≠ (.slice (some ad304) t299.length co59 : Value).ownBlock∧some k_ ≠ (.slice (some ⟨go105,0,none⟩) x295001_3.length co105 : Value).ownBlock)) k_∧k_ ≠ go107) (Kd.R_apart' ((Kd.R_far (p:=⟨go105,(x48_3 : Int).toNat,none⟩) (Kd.R_mono HO307.out (fun k_ hk=>(⟨hk,fun e_=>hk.2 (by rw [e_];rfl)⟩ : _∧k_ ≠ go105))) (fun _ hk=>hk.2) (.int .i64 (rd t299 x48_3)))) (Kd.S_typed ((Kd.S_far (p:=⟨go105,(x48_3 : Int).toNat,none⟩) (Kd.S_mono HO_295002.out (fun k_ hk=>(⟨hk,fun e_=>hk.1.2.2 (by rw [e_];rfl)⟩ : _∧k_ ≠ go105))) (fun _ hk=>hk.2) (.int .i64 (rd t299 x48_3))))) (by decide)) (fun k_ hk=>⟨⟨hk.1.1.1.1.2,⟨hk.1.1.1.2,hk.1.1.2⟩⟩,fun e_=>(hk.2) (by rw [e_];rfl)⟩))).1 k_ hk_.symm)).1
                       (try simp only [show ((Kd.slice 3 (Kd.int .i64))).sz = 1 from rfl,Nat.mul_one,Nat.add_zero] at HP118)
                       rw [← Ny317.out] at HP118
                       have HQ118:=Aside0.mk HP118
                       (try clear hM118);clear hcl118 hcc118 hfr118 HP118
                       refine start_ (n:=12) (S:=fun w'=>w'.cell? ⟨gb294,0,none⟩ = some (.int .i64 a1)∧w'.cell? ⟨gb294,1,none⟩ = some (.slice (some ⟨go105,0,none⟩) x295001_3.length co105)∧w'.cell? ⟨gb294,2,none⟩ = some (.slice (some ⟨go107,0,none⟩) x295002_3.length co107)) (ds:=[11]) #[false,false,false,false,false,false,false,false,false,false,false,false] (by kernel_rfl) rfl rfl ⟨(blk_cell BK294.out 0).trans rfl,(blk_cell BK294.out 1).trans rfl,(blk_cell BK294.out 2).trans rfl⟩ (fun hHeld=>?_);refine with_tabW impl_Space_tree.tab19 impl_Space_tree.bits19 (fun HT_ HW_=>?_)
                       generalize w115.drew = w116 at HO_8 HO_46 HO_295001 HO_295002 HO307 BK0 BK286 BK287 BK294 HB GG105 GG107 HQ117 HQ118 hf105_0 hf107_0 hx105_0 hx107_0 hHeld ⊢
                       refine pure_ (i:=0) (N:=some 80) (v:=?_) (a':=?_) #[true,false,false,false,false,false,false,false,false,false,false,false] rfl rfl (any_of HT_.out (by kernel_rfl)) (fun _ _ _ h=>h) (Or.inl ⟨by rfl,?_⟩) ?_ ?_
                       rotate_left
                       ·intro w'
                        go_simp
                        with_reducible rfl
                       rotate_left
                       ·simp only [Act.put,List.setIfInBounds_toArray,List.set_cons_zero,List.set_cons_succ,i64_w,i32_w]
                        rfl
                       refine pure_ (i:=2) (N:=some 82) (v:=?_) (a':=?_) #[true,false,true,false,false,false,false,false,false,false,false,false] rfl rfl (any_of HT_.out (by kernel_rfl)) (fun _ _ _ h=>h) (Or.inl ⟨by rfl,?_⟩) ?_ ?_
                       rotate_left
                       ·intro w'
                        go_simp
                        with_reducible rfl
                       rotate_left
                       ·simp only [Act.put,List.setIfInBounds_toArray,List.set_cons_zero,List.set_cons_succ,i64_w,i32_w]
                        rfl
                       refine pure_ (i:=3) (N:=some 83) (v:=?_) (a':=?_) #[true,false,true,true,false,false,false,false,false,false,false,false] rfl rfl (any_of HT_.out (by kernel_rfl)) (fun _ _ _ h=>h) (Or.inl ⟨by rfl,?_⟩) ?_ ?_
                       rotate_left
                       ·intro w'
                        go_simp
                        with_reducible rfl
                       rotate_left
                       ·simp only [Act.put,List.setIfInBounds_toArray,List.set_cons_zero,List.set_cons_succ,i64_w,i32_w]
                        rfl
                       refine pure_ (i:=5) (N:=some 85) (v:=?_) (a':=?_) #[true,false,true,true,false,true,false,false,false,false,false,false] rfl rfl (any_of HT_.out (by kernel_rfl)) (fun _ _ _ h=>h) (Or.inl ⟨by rfl,?_⟩) ?_ ?_
                       rotate_left
                       ·intro w'
                        go_simp
                        with_reducible rfl
                       rotate_left
                       ·simp only [Act.put,List.setIfInBounds_toArray,List.set_cons_zero,List.set_cons_succ,i64_w,i32_w]
                        rfl
                       refine pure_ (i:=6) (N:=some 86) (v:=?_) (a':=?_) #[true,false,true,true,false,true,true,false,false,false,false,false] rfl rfl (any_of HT_.out (by kernel_rfl)) (fun _ _ _ h=>h) (Or.inl ⟨by rfl,?_⟩) ?_ ?_
                       rotate_left
                       ·intro w'
                        go_simp
                        with_reducible rfl
                       rotate_left
                       ·simp only [Act.put,List.setIfInBounds_toArray,List.set_cons_zero,List.set_cons_succ,i64_w,i32_w]
                        rfl
                       refine pure_ (i:=7) (N:=some 87) (v:=?_) (a':=?_) #[true,false,true,true,false,true,true,true,false,false,false,false] rfl rfl (any_of HT_.out (by kernel_rfl)) (fun _ _ _ h=>h) (Or.inl ⟨by rfl,?_⟩) ?_ ?_
                       rotate_left
                       ·intro w'
                        go_simp
                        with_reducible rfl
                       rotate_left
                       ·simp only [Act.put,List.setIfInBounds_toArray,List.set_cons_zero,List.set_cons_succ,i64_w,i32_w]
                        rfl
                       refine take_ (i:=1) (N:=some 81) (v:=?_) (a':=?_) #[true,true,true,true,false,true,true,true,false,false,false,false] rfl rfl (take_ofW HT_.out HW_.out (by kernel_rfl)) (fun _ _ _ h=>h) (Or.inl ⟨by rfl,?_⟩) hHeld ?_ ?_
                       rotate_left
                       ·rintro w' ⟨s0,s1,s2⟩
                        go_simp
                        with_reducible rfl
                       rotate_left
                       ·simp only [Act.put,List.setIfInBounds_toArray,List.set_cons_zero,List.set_cons_succ,i64_w,i32_w]
                        rfl
                       refine pure_ (i:=8) (N:=some 88) (v:=?_) (a':=?_) #[true,true,true,true,false,true,true,true,true,false,false,false] rfl rfl (any_of HT_.out (by kernel_rfl)) (fun _ _ _ h=>h) (Or.inl ⟨by rfl,?_⟩) ?_ ?_
                       rotate_left
                       ·intro w'
                        go_simp
                        with_reducible rfl
                       rotate_left
                       ·simp only [Act.put,List.setIfInBounds_toArray,List.set_cons_zero,List.set_cons_succ,i64_w,i32_w]
                        rfl
                       refine take_ (i:=4) (N:=some 84) (v:=?_) (a':=?_) #[true,true,true,true,true,true,true,true,true,false,false,false] rfl rfl (take_ofW HT_.out HW_.out (by kernel_rfl)) (fun _ _ _ h=>h) (Or.inl ⟨by rfl,?_⟩) hHeld ?_ ?_
                       rotate_left
                       ·rintro w' ⟨s0,s1,s2⟩
                        go_simp
                        with_reducible rfl
                       rotate_left
                       ·simp only [Act.put,List.setIfInBounds_toArray,List.set_cons_zero,List.set_cons_succ,i64_w,i32_w]
                        rfl
                       refine one_ (i:=9) (N:=none) #[true,true,true,true,true,true,true,true,true,true,false,false] rfl rfl (one_of HT_.out (by kernel_rfl)) (by decide) (fun K hK=>?_)
                       refine skip_ (w1:=?_) (by rfl) rfl ?_ ?_
                       rotate_left
                       ·go_simp
                        rfl
                       refine hK.out _ _ ⟨((cell_far (p:=⟨go105,_,none⟩) (fun e_=>(Kd.R_ne HO_295001.out BK294.out (by decide)) (by exact congrArg some e_)) _).trans (hHeld.1)),((cell_far (p:=⟨go105,_,none⟩) (fun e_=>(Kd.R_ne HO_295001.out BK294.out (by decide)) (by exact congrArg some e_)) _).trans (hHeld.2.1)),((cell_far (p:=⟨go105,_,none⟩) (fun e_=>(Kd.R_ne HO_295001.out BK294.out (by decide)) (by exact congrArg some e_)) _).trans (hHeld.2.2))⟩ (fun hHeld=>?_)
                       clear hK K
                       refine pure_ (i:=10) (N:=some 89) (v:=?_) (a':=?_) #[true,true,true,true,true,true,true,true,true,true,true,false] rfl rfl (any_of HT_.out (by kernel_rfl)) (fun _ _ _ h=>h) (Or.inl ⟨by rfl,?_⟩) ?_ ?_
                       rotate_left
                       ·intro w'
                        go_simp
                        with_reducible rfl
                       rotate_left
                       ·simp only [Act.put,List.setIfInBounds_toArray,List.set_cons_zero,List.set_cons_succ,i64_w,i32_w]
                        rfl
                       refine last_ (i:=11) (N:=none) #[true,true,true,true,true,true,true,true,true,true,true,true] rfl rfl (one_of HT_.out (by kernel_rfl)) (by decide) (fun K hK=>?_)
                       refine skip_ (w1:=?_) (by rfl) rfl ?_ ?_
                       rotate_left
                       ·go_simp
                        rfl
                       refine hK.out _ _ ?_
                       clear hK K
                       refine done_ (done_of HT_.out (by kernel_rfl)) ?_
                       try go_wp2
                       go_roundg k3
                       case measure=>have:=HK1.out;have:=HJ44.out;have:=HK3.out;omega
                       case rel=>exact ⟨(wrap64 (x48_3 + 1)),(x288000_3),(y316),(y317),(.slice (some ⟨go105,0,none⟩) x295001_3.length co105),(.slice (some ⟨go107,0,none⟩) x295002_3.length co107),(by first|rfl|(simp;done)|(simp [*];done)),H',⟨by have:=HK1.out;have:=HJ44.out;have:=HK3.out;omega⟩,⟨by (with_reducible repeat (first|apply Kd.R_alloc|apply Kd.R_drewN|apply Kd.R_drew));exact Kd.R_mono (Kd.R_far (p:=⟨go107,(x48_3 : Int).toNat,none⟩) (Kd.R_far (p:=⟨go105,(x48_3 : Int).toNat,none⟩) (Kd.R_types (Kd.R_mono HO_8.out (fun k_ hk=>(⟨hk,fun e_=>hk.1 (by rw [e_];rfl)⟩ : _∧k_ ≠ go105))) GG107.out (by decide)) (fun _ hk=>hk.1.2) (.int .i64 (rd t299 x48_3))) (fun _ hk=>hk.2) (.slice Ao113 t305.length co113)) (fun _ hk=>hk.1.1.1)⟩,⟨by (with_reducible repeat (first|apply Kd.R_alloc|apply Kd.R_drewN|apply Kd.R_drew));exact Kd.R_mono (Kd.R_far (p:=⟨go107,(x48_3 : Int).toNat,none⟩) (Kd.R_far (p:=⟨go105,(x48_3 : Int).toNat,none⟩) (Kd.R_types (Kd.R_mono HO_46.out (fun k_ hk=>(⟨hk,fun e_=>hk.1 (by rw [e_];rfl)⟩ : _∧k_ ≠ go105))) GG107.out (by decide)) (fun _ hk=>hk.1.2) (.int .i64 (rd t299 x48_3))) (fun _ hk=>hk.2) (.slice Ao113 t305.length co113)) (fun _ hk=>hk.1.1.1)⟩,⟨by (with_reducible repeat (first|apply Kd.R_alloc|apply Kd.R_drewN|apply Kd.R_drew));exact Kd.R_mono (Kd.R_far (p:=⟨go107,(x48_3 : Int).toNat,none⟩) (Kd.R_types (g:=go107) HQ117.out (blk_far GG107.out (fun e_=>by have h1_:=GG107.out;rw [show go107 = go105 from e_] at h1_;exact absurd (h1_.symm.trans GG105.out) (by simp)) _) (by decide)) (fun _ hk=>hk.2) (.slice Ao113 t305.length co113)) (fun _ hk=>⟨hk.1.1.1,hk.1.1.2⟩)⟩,⟨by (with_reducible repeat (first|apply Kd.S_alloc|apply Kd.S_drewN|apply Kd.S_drew));exact HQ118.out⟩,⟨by (with_reducible repeat first|apply blk_drewN|apply blk_drew|apply blk_alloc);refine blk_far ?_ (by have h_:=Kd.S_ne HO_295002.out BK0.out (by decide);intro e_;exact h_ (by rw [e_];rfl)) _;(with_reducible repeat first|apply blk_drewN|apply blk_drew|apply blk_alloc);refine blk_far ?_ (by have h_:=Kd.R_ne HO_295001.out BK0.out (by decide);intro e_;exact h_ (by rw [e_];rfl)) _;(with_reducible repeat first|apply blk_drewN|apply blk_drew|apply blk_alloc);exact BK0.out⟩,⟨by (with_reducible repeat first|apply blk_drewN|apply blk_drew|apply blk_alloc);refine blk_far ?_ (by have h_:=Kd.S_ne HO_295002.out BK286.out (by decide);intro e_;exact h_ (by rw [e_];rfl)) _;(with_reducible repeat first|apply blk_drewN|apply blk_drew|apply blk_alloc);refine blk_far ?_ (by have h_:=Kd.R_ne HO_295001.out BK286.out (by decide);intro e_;exact h_ (by rw [e_];rfl)) _;(with_reducible repeat first|apply blk_drewN|apply blk_drew|apply blk_alloc);exact BK286.out⟩,⟨by (with_reducible repeat first|apply blk_drewN|apply blk_drew|apply blk_alloc);refine blk_far ?_ (by have h_:=Kd.S_ne HO_295002.out BK287.out (by decide);intro e_;exact h_ (by rw [e_];rfl)) _;(with_reducible repeat first|apply blk_drewN|apply blk_drew|apply blk_alloc);refine blk_far ?_ (by have h_:=Kd.R_ne HO_295001.out BK287.out (by decide);intro e_;exact h_ (by rw [e_];rfl)) _;(with_reducible repeat first|apply blk_drewN|apply blk_drew|apply blk_alloc);exact BK287.out⟩,⟨by (with_reducible repeat first|apply blk_drewN|apply blk_drew|apply blk_alloc);refine blk_far ?_ (by have h_:=Kd.S_ne HO_295002.out BK294.out (by decide);intro e_;exact h_ (by rw [e_];rfl)) _;(with_reducible repeat first|apply blk_drewN|apply blk_drew|apply blk_alloc);refine blk_far ?_ (by have h_:=Kd.R_ne HO_295001.out BK294.out (by decide);intro e_;exact h_ (by rw [e_];rfl)) _;(with_reducible repeat first|apply blk_drewN|apply blk_drew|apply blk_alloc);exact BK294.out⟩,⟨by repeat (first|(with_reducible first|exact HB.out|apply below_alloc|apply pw_below_drewN|apply below_drew1|refine below_set ?_ GB105.out|refine below_set ?_ GB107.out|refine below_set ?_ GE0.out|refine below_set ?_ GE286.out|refine below_set ?_ GE287.out|refine below_set ?_ GE294.out)|exact HB.out)⟩⟩
                      ·rw [if_neg c106] at H
                       exact absurd H (by simp)
                     ·rw [if_neg c104] at H
                      exact absurd H (by simp)
                  ·rw [if_neg c78] at H
                   exact absurd H (by simp)
                ·replace c65:=Bool.eq_false_iff.mpr c65
                 subst c65
                 have H1 : (some (0,([] : List Int),([] : List (List Int)),false)) = some (r1,r2,r3,r4):=by rw [if_neg (show ¬ (false = true) by decide)] at H;exact H
                 clear H
                 have H:=H1
                 clear H1
                 simp only [Option.some.injEq,Prod.mk.injEq] at H
                 obtain ⟨rfl,rfl,rfl,rfl⟩:=H
                 have p304 : 0 ≤ (x48_3 : Int):=of_decide_eq_true (by assumption)
                 have q304 : x48_3 < (t299.length : Int):=of_decide_eq_true (by assumption)
                 obtain ⟨ad304,e304,hx304_0⟩:=Kd.at_int (Kd.R_reads' HO_46.out).2.2 x48_3 p304 q304
                 cases e304
                 replace p304:=eq_true p304
                 replace q304:=eq_true q304
                 have hnb119:=NB286_0.out
                 have hnc119:=NB0_286.out
                 have hnb120:=NB286_287.out
                 have hnc120:=NB287_286.out
                 have hnb121:=NB286_294.out
                 have hnc121:=NB294_286.out
                 have hcz122_0 : wr.cell? ⟨gb286,0,none⟩ = some (.pointer (some ⟨g0_,0,none⟩)):=(blk_cell BK286.out 0).trans rfl
                 have hfz122_0:=blk_frozen BK286.out 0
                 go_wp2_with (first|((with_reducible refine gate_callee (f:=67) rfl ?_);refine goesL_ (some 58) rfl rfl Try.func67 (by kernel_rfl) rfl #[.pointer (some ⟨g0_,0,none⟩),.int .i64 (rd t299 x48_3),.int .u8 81] rfl (by (try simp only [List.map_toArray,List.map_cons,List.map_nil]);first|done|rfl|(simp only [List.length_drop,List.length_take];rfl)) ?_;(with_reducible refine (impl_Space_page.calls k3 g0_ A0_0 c0_0 l0_0 A0_1 c0_1 l0_1 A0_2 c0_2 l0_2 A0_3 c0_3 l0_3 (rd t299 x48_3) 81 t305 false _ ?side1 ?side2 ?side3 ?side4 ?side5 ?side6 ?side7 ?side8 ?side9 A64.out).mono ?_);(case side1=>exact by (with_reducible repeat first|apply blk_drewN|apply blk_drew|apply blk_alloc);exact BK0.out);(case side2=>repeat (first|exact (Kd.C_below HR0_0.out HB.out)|(with_reducible first|apply Kd.C_alloc|apply Kd.C_drewN|apply Kd.C_drew)));(case side3=>exact HC0_0.out);(case side4=>repeat (first|exact (Kd.C_below HR0_1.out HB.out)|(with_reducible first|apply Kd.C_alloc|apply Kd.C_drewN|apply Kd.C_drew)));(case side5=>exact HC0_1.out);(case side6=>repeat (first|exact (Kd.C_below HR0_2.out HB.out)|(with_reducible first|apply Kd.C_alloc|apply Kd.C_drewN|apply Kd.C_drew)));(case side7=>exact HC0_2.out);(case side8=>repeat (first|exact (Kd.C_below HR0_3.out HB.out)|(with_reducible first|apply Kd.C_alloc|apply Kd.C_drewN|apply Kd.C_drew)));(case side9=>exact HC0_3.out);rintro e w123 ⟨v306,rfl,ho0,hb⟩;refine ⟨_,rfl,?_⟩;have n0_:=Aside0.mk (Kd.R_elder' (by (with_reducible repeat (first|apply Kd.R_alloc|apply Kd.R_drewN|apply Kd.R_drew));exact HO_8.out) (Kd.R_base ho0) hb);have n1_:=Aside0.mk (Kd.R_elder' (by (with_reducible repeat (first|apply Kd.R_alloc|apply Kd.R_drewN|apply Kd.R_drew));exact HO_46.out) (Kd.R_base ho0) hb);have n2_:=Aside0.mk (Kd.R_elder' (by (with_reducible repeat (first|apply Kd.R_alloc|apply Kd.R_drewN|apply Kd.R_drew));exact HO_295001.out) (Kd.R_base ho0) hb);have n3_:=Aside0.mk (Kd.S_elder' (by (with_reducible repeat (first|apply Kd.S_alloc|apply Kd.S_drewN|apply Kd.S_drew));exact HO_295002.out) (Kd.R_base ho0) hb);have n4_:=Aside0.mk (Kd.R_lower (Kd.R_new' (Kd.R_new' (Kd.R_new' ho0 (Kd.R_lt (by (with_reducible repeat (first|apply Kd.R_alloc|apply Kd.R_drewN|apply Kd.R_drew));exact HO_8.out))) (Kd.R_lt (by (with_reducible repeat (first|apply Kd.R_alloc|apply Kd.R_drewN|apply Kd.R_drew));exact HO_46.out))) (Kd.R_lt (by (with_reducible repeat (first|apply Kd.R_alloc|apply Kd.R_drewN|apply Kd.R_drew));exact HO_295001.out))) (below_size (by repeat (first|(with_reducible first|exact HB.out|apply below_alloc|apply pw_below_drewN|apply below_drew1|refine below_set ?_ GE0.out|refine below_set ?_ GE286.out|refine below_set ?_ GE287.out|refine below_set ?_ GE294.out)|exact HB.out))));have n5_:=Aside0.mk (blk_below (g:=g0_) (o:=.cells #[.slice A0_0 l0_0.length c0_0,.slice A0_1 l0_1.length c0_1,.slice A0_2 l0_2.length c0_2,.slice A0_3 l0_3.length c0_3] 30 (0,0)) (by (with_reducible repeat first|apply blk_drewN|apply blk_drew|apply blk_alloc);exact BK0.out) hb);have n6_:=Aside0.mk (blk_below (g:=gb286) (o:=.cells #[.pointer (some ⟨g0_,0,none⟩)] 87 (0,0)) (by (with_reducible repeat first|apply blk_drewN|apply blk_drew|apply blk_alloc);exact BK286.out) hb);have n7_:=Aside0.mk (blk_below (g:=gb287) (o:=.cells #[.int .i64 x288000_3,.slice none 0 0,.slice none 0 0] 61 (0,0)) (by (with_reducible repeat first|apply blk_drewN|apply blk_drew|apply blk_alloc);exact BK287.out) hb);have n8_:=Aside0.mk (blk_below (g:=gb294) (o:=.cells #[.int .i64 a1,u295001,u295002] 61 (0,0)) (by (with_reducible repeat first|apply blk_drewN|apply blk_drew|apply blk_alloc);exact BK294.out) hb);have n9_:=Aside0.mk (below_step (by repeat (first|(with_reducible first|exact HB.out|apply below_alloc|apply pw_below_drewN|apply below_drew1|refine below_set ?_ GE0.out|refine below_set ?_ GE286.out|refine below_set ?_ GE287.out|refine below_set ?_ GE294.out)|exact HB.out)) hb);clear HO_8;clear HO_46;clear HO_295001;clear HO_295002;clear BK0;clear BK286;clear BK287;clear BK294;clear HB;have HO_8:=n0_;have HO_46:=n1_;have HO_295001:=n2_;have HO_295002:=n3_;have HO307:=n4_;have BK0:=n5_;have BK286:=n6_;have BK287:=n7_;have BK294:=n8_;have HB:=n9_;clear n0_ n1_ n2_ n3_ n4_ n5_ n6_ n7_ n8_ n9_;(try clear hb);(try clear hb2);(try clear hk);(try clear hi);(try clear ho0);have hnb124:=NB287_0.out;have hnc124:=NB0_287.out;have hnb125:=NB287_294.out;have hnc125:=NB294_287.out;have hcz126_0 : w123.cell? ⟨gb287,0,none⟩ = some (.int .i64 x288000_3):=(blk_cell BK287.out 0).trans rfl;have hcz126_1 : w123.cell? ⟨gb287,1,none⟩ = some (.slice none 0 0):=(blk_cell BK287.out 1).trans rfl;have hcz126_2 : w123.cell? ⟨gb287,2,none⟩ = some (.slice none 0 0):=(blk_cell BK287.out 2).trans rfl;have hfz126_0:=blk_frozen BK287.out 0;have hfz126_1:=blk_frozen BK287.out 1;have hfz126_2:=blk_frozen BK287.out 2))
                 refine bodyPost_ret (results_ct rfl _ _ gb287 61 #[.int .i64 0,.slice none 0 0,.slice none 0 0] (0,0) _ rfl (by (with_reducible repeat first|apply blk_drewN|apply blk_drew|apply blk_alloc);refine blk_put (cs:=#[.int .i64 0,.slice none 0 0,.slice none 0 0]) ?_ 2 _ rfl;(with_reducible repeat first|apply blk_drewN|apply blk_drew|apply blk_alloc);refine blk_put (cs:=#[.int .i64 0,.slice none 0 0,.slice none 0 0]) ?_ 1 _ rfl;(with_reducible repeat first|apply blk_drewN|apply blk_drew|apply blk_alloc);refine blk_put (cs:=#[.int .i64 x288000_3,.slice none 0 0,.slice none 0 0]) ?_ 0 _ rfl;(with_reducible repeat first|apply blk_drewN|apply blk_drew|apply blk_alloc);exact BK287.out) Try.underlying61 rfl (by kernel_rfl)) rfl ?_
                 exact ⟨_,_,by first|rfl|(simp [*,errW_none,errW_some] <;> rfl),by first|exact Kd.R_nil _ _ _ _ _|exact Kd.N_nil _ _ _ _ _|exact Kd.V_nil _ _ _ _ _|exact Kd.Q_nil _ _ _ _ _|exact Kd.S_nil _ _ _ _ _,by first|exact Kd.S_nil _ _ _ _ _|exact Kd.N_nil _ _ _ _ _|exact Kd.V_nil _ _ _ _ _|exact Kd.Q_nil _ _ _ _ _|exact Kd.R_nil _ _ _ _ _,by repeat (first|(with_reducible first|exact HB.out|apply below_alloc|apply pw_below_drewN|apply below_drew1|refine below_set ?_ GE0.out|refine below_set ?_ GE286.out|refine below_set ?_ GE287.out|refine below_set ?_ GE294.out)|exact HB.out)⟩
              ·rw [if_neg c62] at H
               exact absurd H (by simp)
             ·rw [if_neg c61] at H
              exact absurd H (by simp)
            ·rw [if_neg c60] at H
             have c60b0 : decide (x48_3 < (t299.length : Int)) = false:=decide_eq_false c60
             clear c60
             simp only [Option.some.injEq,Prod.mk.injEq] at H
             obtain ⟨rfl,rfl,rfl,rfl⟩:=H
             have hnb127:=NB294_0.out
             have hnc127:=NB0_294.out
             have hnb128:=NB294_286.out
             have hnc128:=NB286_294.out
             have hnb129:=NB294_287.out
             have hnc129:=NB287_294.out
             have hcz130_0 : wr.cell? ⟨gb294,0,none⟩ = some (.int .i64 a1):=(blk_cell BK294.out 0).trans rfl
             have hcz130_1 : wr.cell? ⟨gb294,1,none⟩ = some (u295001):=(blk_cell BK294.out 1).trans rfl
             have hcz130_2 : wr.cell? ⟨gb294,2,none⟩ = some (u295002):=(blk_cell BK294.out 2).trans rfl
             have hfz130_0:=blk_frozen BK294.out 0
             have hfz130_1:=blk_frozen BK294.out 1
             have hfz130_2:=blk_frozen BK294.out 2
             have hnb131:=NB287_0.out
             have hnc131:=NB0_287.out
             have hnb132:=NB287_286.out
             have hnc132:=NB286_287.out
             have hcz133_0 : wr.cell? ⟨gb287,0,none⟩ = some (.int .i64 x288000_3):=(blk_cell BK287.out 0).trans rfl
             have hcz133_1 : wr.cell? ⟨gb287,1,none⟩ = some (.slice none 0 0):=(blk_cell BK287.out 1).trans rfl
             have hcz133_2 : wr.cell? ⟨gb287,2,none⟩ = some (.slice none 0 0):=(blk_cell BK287.out 2).trans rfl
             have hfz133_0:=blk_frozen BK287.out 0
             have hfz133_1:=blk_frozen BK287.out 1
             have hfz133_2:=blk_frozen BK287.out 2
             obtain ⟨Ao134,co134,eo134⟩:=Kd.R_slice HO_295001.out
             subst eo134
             obtain ⟨Ao135,co135,eo135⟩:=Kd.S_slice HO_295002.out
             subst eo135
             go_wp2
             refine bodyPost_ret (results_ct rfl _ _ gb287 61 #[.int .i64 a1,.slice Ao134 x295001_3.length co134,.slice Ao135 x295002_3.length co135] (0,0) _ rfl (by (with_reducible repeat first|apply blk_drewN|apply blk_drew|apply blk_alloc);refine blk_put (cs:=#[.int .i64 a1,.slice Ao134 x295001_3.length co134,.slice none 0 0]) ?_ 2 _ rfl;(with_reducible repeat first|apply blk_drewN|apply blk_drew|apply blk_alloc);refine blk_put (cs:=#[.int .i64 a1,.slice none 0 0,.slice none 0 0]) ?_ 1 _ rfl;(with_reducible repeat first|apply blk_drewN|apply blk_drew|apply blk_alloc);refine blk_put (cs:=#[.int .i64 x288000_3,.slice none 0 0,.slice none 0 0]) ?_ 0 _ rfl;(with_reducible repeat first|apply blk_drewN|apply blk_drew|apply blk_alloc);exact BK287.out) Try.underlying61 rfl (by kernel_rfl)) rfl ?_
             exact ⟨_,_,by first|rfl|(simp [*,errW_none,errW_some] <;> rfl),by (with_reducible repeat (first|apply Kd.R_alloc|apply Kd.R_drewN|apply Kd.R_drew));exact Kd.R_mono (Kd.R_far (p:=⟨gb287,2,none⟩) (Kd.R_far (p:=⟨gb287,1,none⟩) (Kd.R_far (p:=⟨gb287,0,none⟩) (Kd.R_types HO_295001.out BK287.out (by decide)) (fun _ hk=>hk.2) (.int .i64 a1)) (fun _ hk=>hk.2) (.slice Ao134 x295001_3.length co134)) (fun _ hk=>hk.2) (.slice Ao135 x295002_3.length co135)) (fun _ hk=>trivial),by (with_reducible repeat (first|apply Kd.S_alloc|apply Kd.S_drewN|apply Kd.S_drew));exact Kd.S_mono (Kd.S_far (p:=⟨gb287,2,none⟩) (Kd.S_far (p:=⟨gb287,1,none⟩) (Kd.S_far (p:=⟨gb287,0,none⟩) (Kd.S_types HO_295002.out BK287.out (by decide)) (fun _ hk=>hk.2) (.int .i64 a1)) (fun _ hk=>hk.2) (.slice Ao134 x295001_3.length co134)) (fun _ hk=>hk.2) (.slice Ao135 x295002_3.length co135)) (fun _ hk=>hk.1.2.2),by repeat (first|(with_reducible first|exact HB.out|apply below_alloc|apply pw_below_drewN|apply below_drew1|refine below_set ?_ GE0.out|refine below_set ?_ GE286.out|refine below_set ?_ GE287.out|refine below_set ?_ GE294.out)|exact HB.out)⟩
  ·rw [if_neg c4] at H
   exact absurd H (by simp)
 ·rw [if_neg c3] at H
  exact absurd H (by simp)

end Go.Proofs.Ytcdlookokffkeaa.PFnExactValueIn
