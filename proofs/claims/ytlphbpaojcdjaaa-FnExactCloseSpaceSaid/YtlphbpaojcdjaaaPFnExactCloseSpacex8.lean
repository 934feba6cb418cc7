-- Written by a program of this session over the print of the kit (wip/t/patch_print.py).
import Derived.Test.YtlphbpaojcdjaaaPFnExactCloseSpacex0
import Derived.Test.YtlphbpaojcdjaaaPFnExactCloseSpacex2
import Derived.Test.YtlphbpaojcdjaaaPFnExactCloseSpacex7
namespace Go.Proofs.Ytlphbpaojcdjaaa.PFnExactCloseSpace
open Go.RowKit Go.Proofs.YtlphbpaojcdjaaaW.PrintWords Go.Proofs.YtlphbpaojcdjaaaW.PrintLast Go.Proofs.YtlphbpaojcdjaaaW.PrintMore
attribute [local go_sem] max2_int min2_int max_two min_two max_three min_three max_four min_four   -- for this text's walks alone
set_option linter.unusedVariables false
set_option linter.unusedSimpArgs false

/-! ### impl_Space_close: function 74 -/
mutual
def impl_Space_close.l0 : Nat → List Int → List Int → List Int → Int → Int → List (List Int) → List Int → List Int → List Int → Option ((List (S91)) × Bool)
 | 0,_,_,_,_,_,_,_,_,_=>none
 | k + 1,x1,x6,x20,x21,x22,x1000,x1001,x1002,x1003=>if x22 < x21 then (if 0 ≤ x22 then (if x22 < (x20.length : Int) then (if 0 ≤ (wrap64 (Int.tdiv (rd x20 x22) 8)) then (if (wrap64 (Int.tdiv (rd x20 x22) 8)) < (x6.length : Int) then (if 0 ≤ (Int.tmod (rd x20 x22) 8) then (impl_Space_close.l0 k x1 (x6.set ((wrap64 (Int.tdiv (rd x20 x22) 8)) : Int).toNat (Go.bits .andNot .u8 (rd x6 (wrap64 (Int.tdiv (rd x20 x22) 8))) (shl .u8 1 (Int.tmod (rd x20 x22) 8)))) x20 x21 (wrap64 (x22 + 1)) x1000 x1001 x1002 x1003) else (none)) else (none)) else (none)) else (none)) else (none)) else ((slices_Clone_byte_byte.f x1).bind fun t249=>((impl_padded.f x6 128).bind fun t252=>(impl_Space_close.l1 k (([(⟨0,t249⟩ : S91),(⟨1,t252⟩ : S91)] : List (S91))) x1003 (x1003.length : Int) 0 x1000 x1001 x1002 x1003)))
def impl_Space_close.l1 : Nat → List (S91) → List Int → Int → Int → List (List Int) → List Int → List Int → List Int → Option ((List (S91)) × Bool)
 | 0,_,_,_,_,_,_,_,_=>none
 | k + 1,x9,x47,x48,x49,x1000,x1001,x1002,x1003=>if x49 < x48 then (if 0 ≤ x49 then (if x49 < (x47.length : Int) then ((slices_Contains_int_int.f k x1002 (rd x47 x49)).bind fun t259=>(if t259 = true then (impl_Space_close.l1 k x9 x47 x48 (wrap64 (x49 + 1)) x1000 x1001 x1002 x1003) else (if 0 ≤ (rd x47 x49) then (if (rd x47 x49) < (x1000.length : Int) then ((slices_Clone_byte_byte.f (rd_L1 x1000 (rd x47 x49))).bind fun t261=>(if x9.length < 4398046511104 then (impl_Space_close.l1 k (x9 ++ [(⟨rd x47 x49,t261⟩ : S91)]) x47 x48 (wrap64 (x49 + 1)) x1000 x1001 x1002 x1003) else (none))) else (none)) else (none)))) else (none)) else (none)) else (some (x9,decide ((x9.length : Int) ≤ 30)))
end
def impl_Space_close.f (k : Nat) (l0_0 : List (List Int)) (l0_1 : List Int) (l0_2 : List Int) (l0_3 : List Int) (l1 : List Int) : Option ((List (S91)) × Bool):=(slices_Clone_byte_byte.f l0_1).bind fun t243=>(impl_Space_close.l0 k l1 t243 l0_2 (l0_2.length : Int) 0 l0_0 l0_1 l0_2 l0_3)
theorem impl_Space_close.mono_l : ∀ k,(∀ y0 y1 y2 y3 y4 y5 y6 y7 y8,LeO (impl_Space_close.l0 k y0 y1 y2 y3 y4 y5 y6 y7 y8) (impl_Space_close.l0 (k + 1) y0 y1 y2 y3 y4 y5 y6 y7 y8))∧(∀ y0 y1 y2 y3 y4 y5 y6 y7,LeO (impl_Space_close.l1 k y0 y1 y2 y3 y4 y5 y6 y7) (impl_Space_close.l1 (k + 1) y0 y1 y2 y3 y4 y5 y6 y7))
 | 0=>⟨fun _ _ _ _ _ _ _ _ _ r h=>by simp [impl_Space_close.l0] at h,fun _ _ _ _ _ _ _ _ r h=>by simp [impl_Space_close.l1] at h⟩
 | k + 1=>by
  obtain ⟨ih0,ih1⟩:=impl_Space_close.mono_l k
  refine ⟨?_,?_⟩
  ·intro y0 y1 y2 y3 y4 y5 y6 y7 y8
   unfold impl_Space_close.l0
   repeat' first
   | (with_reducible exact ih0 _ _ _ _ _ _ _ _ _)
   | (with_reducible exact ih1 _ _ _ _ _ _ _ _)
   | (with_reducible exact slices_Contains_int_int.mono _ _ _)
   | (with_reducible exact LeO.refl _)
   | (with_reducible exact LeO.none _)
   | (with_reducible refine LeO.ite ?_ ?_)
   | (with_reducible refine LeO.bind ?_ (fun _=>?_))
   | exact ih0 _ _ _ _ _ _ _ _ _
   | exact ih1 _ _ _ _ _ _ _ _
   | exact slices_Contains_int_int.mono _ _ _
   | exact LeO.none _
   | refine LeO.ite ?_ ?_
   | refine LeO.bind ?_ (fun _=>?_)
  ·intro y0 y1 y2 y3 y4 y5 y6 y7
   unfold impl_Space_close.l1
   repeat' first
   | (with_reducible exact ih0 _ _ _ _ _ _ _ _ _)
   | (with_reducible exact ih1 _ _ _ _ _ _ _ _)
   | (with_reducible exact slices_Contains_int_int.mono _ _ _)
   | (with_reducible exact LeO.refl _)
   | (with_reducible exact LeO.none _)
   | (with_reducible refine LeO.ite ?_ ?_)
   | (with_reducible refine LeO.bind ?_ (fun _=>?_))
   | exact ih0 _ _ _ _ _ _ _ _ _
   | exact ih1 _ _ _ _ _ _ _ _
   | exact slices_Contains_int_int.mono _ _ _
   | exact LeO.none _
   | refine LeO.ite ?_ ?_
   | refine LeO.bind ?_ (fun _=>?_)
theorem impl_Space_close.mono : ∀ a0 a1 a2 a3 a4 k,LeO (impl_Space_close.f k a0 a1 a2 a3 a4) (impl_Space_close.f (k + 1) a0 a1 a2 a3 a4):=by
 intro a0 a1 a2 a3 a4 k
 obtain ⟨ih0,ih1⟩:=impl_Space_close.mono_l k
 unfold impl_Space_close.f
 repeat' first
   | (with_reducible exact ih0 _ _ _ _ _ _ _ _ _)
   | (with_reducible exact ih1 _ _ _ _ _ _ _ _)
   | (with_reducible exact slices_Contains_int_int.mono _ _ _)
   | (with_reducible exact LeO.refl _)
   | (with_reducible exact LeO.none _)
   | (with_reducible refine LeO.ite ?_ ?_)
   | (with_reducible refine LeO.bind ?_ (fun _=>?_))
   | exact ih0 _ _ _ _ _ _ _ _ _
   | exact ih1 _ _ _ _ _ _ _ _
   | exact slices_Contains_int_int.mono _ _ _
   | exact LeO.none _
   | refine LeO.ite ?_ ?_
   | refine LeO.bind ?_ (fun _=>?_)
def impl_Space_close.T5 : Bool × List (List Nat × List Nat):=(true,[([],[]),([],[]),([1],[1]),([0,2],[0,2]),([3],[3]),([],[]),([5],[5]),([6],[6]),([4,7],[4,7]),([0,2,0,1,2,3,4,5,6,7,8],[0,2]),([9,8,0,1,2,3,4,5,6,7,8],[8,9])])
def impl_Space_close.B5 : List Nat:=[0,0,2,7,15,0,32,96,255,511,1023]
theorem impl_Space_close.tab5 : rtab .any (opsOf Try.f74 5) = impl_Space_close.T5:=by kernel_rfl
theorem impl_Space_close.bits5 : waitsOk impl_Space_close.T5.2 impl_Space_close.B5 = true:=by kernel_rfl
set_option maxHeartbeats 8000000 in
set_option maxRecDepth 100000 in
theorem impl_Space_close.calls (k : Nat) (g0_ : Nat) (A0_0 : Option Addr) (c0_0 : Nat) (l0_0 : List (List Int)) (A0_1 : Option Addr) (c0_1 : Nat) (l0_1 : List Int) (A0_2 : Option Addr) (c0_2 : Nat) (l0_2 : List Int) (A0_3 : Option Addr) (c0_3 : Nat) (l0_3 : List Int) (A1 : Option Addr) (c1 : Nat) (l1 : List Int) (r1 : List (S91)) (r2 : Bool) (w : World) (hg0_ : w.heap[g0_]? = some (.cells #[.slice A0_0 l0_0.length c0_0,.slice A0_1 l0_1.length c0_1,.slice A0_2 l0_2.length c0_2,.slice A0_3 l0_3.length c0_3] 29 (0,0))) (hr0_0 : Kd.C (Kd.slice 5 (Kd.int .u8)) w A0_0 l0_0.length l0_0) (hc0_0 : l0_0.length ≤ c0_0) (hr0_1 : Kd.C (Kd.int .u8) w A0_1 l0_1.length l0_1) (hc0_1 : l0_1.length ≤ c0_1) (hr0_2 : Kd.C (Kd.int .i64) w A0_2 l0_2.length l0_2) (hc0_2 : l0_2.length ≤ c0_2) (hr0_3 : Kd.C (Kd.int .i64) w A0_3 l0_3.length l0_3) (hc0_3 : l0_3.length ≤ c0_3) (hr1 : Kd.C (Kd.int .u8) w A1 l1.length l1) (hc1 : l1.length ≤ c1) (h : impl_Space_close.f k l0_0 l0_1 l0_2 l0_3 l1 = some (r1,r2)) :
  Calls Try.prog 74 #[.pointer (some ⟨g0_,0,none⟩),.slice A1 l1.length c1] w fun e w'=>∃ v0_ : Value,e = .returned (.tuple #[v0_,.bool r2])∧Kd.S k91 91 w' w.heap.size (fun _=>True) v0_ r1∧Below w.heap.size w w':=by
 have hu91:=Try.underlying91
 have HR0_0:=Aside0.mk hr0_0
 have HC0_0:=Aside0.mk hc0_0
 clear hr0_0 hc0_0
 have HR0_1:=Aside0.mk hr0_1
 have HC0_1:=Aside0.mk hc0_1
 clear hr0_1 hc0_1
 have HR0_2:=Aside0.mk hr0_2
 have HC0_2:=Aside0.mk hc0_2
 clear hr0_2 hc0_2
 have HR0_3:=Aside0.mk hr0_3
 have HC0_3:=Aside0.mk hc0_3
 clear hr0_3 hc0_3
 have HR1:=Aside0.mk hr1
 have HC1:=Aside0.mk hc1
 clear hr1 hc1
 have BK0:=Aside0.mk hg0_
 clear hg0_
 have HB:=Aside0.mk (Below.refl w.heap.size w)
 have H : ((slices_Clone_byte_byte.f l0_1).bind fun t243=>(impl_Space_close.l0 k l1 t243 l0_2 (l0_2.length : Int) 0 l0_0 l0_1 l0_2 l0_3)) = some (r1,r2):=h
 clear h
 replace H:=Option.bind_eq_some_iff.mp H
 obtain ⟨t243,A30,H⟩:=H
 replace H : (impl_Space_close.l0 k l1 t243 l0_2 (l0_2.length : Int) 0 l0_0 l0_1 l0_2 l0_3) = some (r1,r2):=H
 have A3:=Aside0.mk A30
 clear A30
 have H':=Aside0.mk H
 clear H
 have hcz4_0 : w.cell? ⟨g0_,0,none⟩ = some (.slice A0_0 l0_0.length c0_0):=(blk_cell BK0.out 0).trans rfl
 have hcz4_1 : w.cell? ⟨g0_,1,none⟩ = some (.slice A0_1 l0_1.length c0_1):=(blk_cell BK0.out 1).trans rfl
 have hcz4_2 : w.cell? ⟨g0_,2,none⟩ = some (.slice A0_2 l0_2.length c0_2):=(blk_cell BK0.out 2).trans rfl
 have hcz4_3 : w.cell? ⟨g0_,3,none⟩ = some (.slice A0_3 l0_3.length c0_3):=(blk_cell BK0.out 3).trans rfl
 have hfz4_0:=blk_frozen BK0.out 0
 have hfz4_1:=blk_frozen BK0.out 1
 have hfz4_2:=blk_frozen BK0.out 2
 have hfz4_3:=blk_frozen BK0.out 3
 go_enter Try.func74,Try.ntmps74
 go_wp2_with (first|((with_reducible refine gate_callee (f:=60) rfl ?_);refine goesL_ (some 16) rfl rfl Try.func60 (by kernel_rfl) rfl #[.slice A0_1 l0_1.length c0_1] rfl (by (try simp only [List.map_toArray,List.map_cons,List.map_nil]);first|done|rfl|(simp only [List.length_drop,List.length_take];rfl)) ?_;(with_reducible refine (slices_Clone_byte_byte.calls _ _ l0_1 t243 _ ?side1 ?side2 A3.out).mono ?_);(case side1=>repeat (first|exact HR0_1.out|(with_reducible first|apply Kd.C_alloc|apply Kd.C_drewN|apply Kd.C_drew)));(case side2=>exact HC0_1.out);rintro e w5 ⟨v244,rfl,ho0,hb⟩;refine ⟨_,rfl,?_⟩;have n0_:=Aside0.mk (Kd.R_lower ho0 (below_size (by repeat (first|(with_reducible first|exact HB.out|apply below_alloc|apply pw_below_drewN|apply below_drew1|refine below_set ?_ GE0.out)|exact HB.out))));have n1_:=Aside0.mk (blk_below (g:=g0_) (o:=.cells #[.slice A0_0 l0_0.length c0_0,.slice A0_1 l0_1.length c0_1,.slice A0_2 l0_2.length c0_2,.slice A0_3 l0_3.length c0_3] 29 (0,0)) (by (with_reducible repeat first|apply blk_drewN|apply blk_drew|apply blk_alloc);exact BK0.out) hb);have n2_:=Aside0.mk (below_step (by repeat (first|(with_reducible first|exact HB.out|apply below_alloc|apply pw_below_drewN|apply below_drew1|refine below_set ?_ GE0.out)|exact HB.out)) hb);clear BK0;clear HB;have HO245:=n0_;have BK0:=n1_;have HB:=n2_;clear n0_ n1_ n2_;(try clear hb);(try clear hb2);(try clear hk);(try clear hi);(try clear ho0);have hcz6_0 : w5.cell? ⟨g0_,0,none⟩ = some (.slice A0_0 l0_0.length c0_0):=(blk_cell BK0.out 0).trans rfl;have hcz6_1 : w5.cell? ⟨g0_,1,none⟩ = some (.slice A0_1 l0_1.length c0_1):=(blk_cell BK0.out 1).trans rfl;have hcz6_2 : w5.cell? ⟨g0_,2,none⟩ = some (.slice A0_2 l0_2.length c0_2):=(blk_cell BK0.out 2).trans rfl;have hcz6_3 : w5.cell? ⟨g0_,3,none⟩ = some (.slice A0_3 l0_3.length c0_3):=(blk_cell BK0.out 3).trans rfl;have hfz6_0:=blk_frozen BK0.out 0;have hfz6_1:=blk_frozen BK0.out 1;have hfz6_2:=blk_frozen BK0.out 2;have hfz6_3:=blk_frozen BK0.out 3))
 go_loopg [22] k (fun kq v22 w'=>∃ (x6_1 : List Int) (x22_1 : Int),v22 = .int .i64 x22_1∧Aside0 (impl_Space_close.l0 kq l1 x6_1 l0_2 (l0_2.length : Int) x22_1 l0_0 l0_1 l0_2 l0_3 = some (r1,r2))∧Aside0 (kq ≤ k)∧Aside0 (Kd.R (Kd.int .u8) 5 w' w.heap.size (fun _=>True) v244 x6_1)∧Aside0 (w'.heap[g0_]? = some (.cells #[(.slice A0_0 l0_0.length c0_0),(.slice A0_1 l0_1.length c0_1),(.slice A0_2 l0_2.length c0_2),(.slice A0_3 l0_3.length c0_3)] 29 (0,0)))∧Aside0 (Below w.heap.size w w'))
 case atStart=>exact ⟨(t243),(0),(by first|rfl|(simp;done)|(simp [*];done)),H',⟨Nat.le_refl _⟩,⟨by (with_reducible repeat (first|apply Kd.R_alloc|apply Kd.R_drewN|apply Kd.R_drew));exact HO245.out⟩,⟨by (with_reducible repeat first|apply blk_drewN|apply blk_drew|apply blk_alloc);exact BK0.out⟩,⟨by repeat (first|(with_reducible first|exact HB.out|apply below_alloc|apply pw_below_drewN|apply below_drew1|refine below_set ?_ GE0.out)|exact HB.out)⟩⟩
 case round =>
  clear H'
  try clear c1;try clear p2;try clear c6;try clear hcz4_0;try clear hcz4_1;try clear hcz4_2;try clear hcz4_3;try clear hcz6_0;try clear hcz6_1;try clear hcz6_2;try clear hcz6_3;try clear hfz4_0;try clear hfz4_1;try clear hfz4_2;try clear hfz4_3;try clear hfz6_0;try clear hfz6_1;try clear hfz6_2;try clear hfz6_3
  obtain ⟨x6_1,x22_1,rfl,HA,HK1,HO_6,BK0,HB⟩:=hrel
  cases gk with
  | zero=>exact absurd HA.out (by simp [impl_Space_close.l0])
  | succ k1 =>
   have H:=HA.out
   clear HA
   simp only [impl_Space_close.l0] at H
   by_cases c7 : x22_1 < (l0_2.length : Int)
   ·rw [if_pos c7] at H
    have c7b0 : decide (x22_1 < (l0_2.length : Int)) = true:=decide_eq_true c7
    clear c7
    by_cases c8 : 0 ≤ x22_1
    ·rw [if_pos c8] at H
     have c8b0 : decide (0 ≤ x22_1) = true:=decide_eq_true c8
     clear c8
     by_cases c9 : x22_1 < (l0_2.length : Int)
     ·rw [if_pos c9] at H
      have c9b0 : decide (x22_1 < (l0_2.length : Int)) = true:=decide_eq_true c9
      clear c9
      obtain ⟨ji10,hji10⟩ : ∃ j_ : Int,(wrap64 (Int.tdiv (rd l0_2 x22_1) 8)) = j_:=⟨_,rfl⟩
      replace H : (if 0 ≤ (ji10) then (if (ji10) < (x6_1.length : Int) then (if 0 ≤ (Int.tmod (rd l0_2 x22_1) 8) then (impl_Space_close.l0 k1 l1 (x6_1.set ((ji10) : Int).toNat (Go.bits .andNot .u8 (rd x6_1 (ji10)) (shl .u8 1 (Int.tmod (rd l0_2 x22_1) 8)))) l0_2 (l0_2.length : Int) (wrap64 (x22_1 + 1)) l0_0 l0_1 l0_2 l0_3) else (none)) else (none)) else (none)) = some (r1,r2):=by first|(rw [hji10] at H;exact H)|(simp only [hji10] at H ⊢;exact H)
      have hji10w : (IntKind.i64.wrap (Int.tdiv (rd l0_2 x22_1) 8)) = ji10:=(i64_w _).trans hji10
      by_cases c11 : 0 ≤ (ji10)
      ·rw [if_pos c11] at H
       have c11b0 : decide (0 ≤ (ji10)) = true:=decide_eq_true c11
       clear c11
       by_cases c12 : (ji10) < (x6_1.length : Int)
       ·rw [if_pos c12] at H
        have c12b0 : decide ((ji10) < (x6_1.length : Int)) = true:=decide_eq_true c12
        clear c12
        obtain ⟨ji13,hji13⟩ : ∃ j_ : Int,(Int.tmod (rd l0_2 x22_1) 8) = j_:=⟨_,rfl⟩
        replace H : (if 0 ≤ (ji13) then (impl_Space_close.l0 k1 l1 (x6_1.set ((ji10) : Int).toNat (Go.bits .andNot .u8 (rd x6_1 (ji10)) (shl .u8 1 (ji13)))) l0_2 (l0_2.length : Int) (wrap64 (x22_1 + 1)) l0_0 l0_1 l0_2 l0_3) else (none)) = some (r1,r2):=by first|(rw [hji13] at H;exact H)|(simp only [hji13] at H ⊢;exact H)
        by_cases c14 : 0 ≤ (ji13)
        ·rw [if_pos c14] at H
         have c14b0:=eq_true c14
         have c14b1 : decide (0 ≤ (ji13)) = true:=decide_eq_true c14
         clear c14
         obtain ⟨ji15,hji15⟩ : ∃ j_ : Int,(shl .u8 1 (ji13)) = j_:=⟨_,rfl⟩
         replace H : (impl_Space_close.l0 k1 l1 (x6_1.set ((ji10) : Int).toNat (Go.bits .andNot .u8 (rd x6_1 (ji10)) (ji15))) l0_2 (l0_2.length : Int) (wrap64 (x22_1 + 1)) l0_0 l0_1 l0_2 l0_3) = some (r1,r2):=by first|(rw [hji15] at H;exact H)|(simp only [hji15] at H ⊢;exact H)
         have hji15_ : (IntKind.u8.wrap (1 * 2 ^ min (ji13).toNat 8)) = ji15:=hji15
         have hji15z : (ji13) ≤ 8 → (IntKind.u8.wrap (1 * 2 ^ (ji13).toNat)) = ji15:=shl_small hji15
         have hji15u : (IntKind.u8.wrap (2 ^ min (ji13).toNat 8)) = ji15:=by have h_:=hji15_;rw [Int.one_mul] at h_;exact h_
         have hji15v : (ji13) ≤ 8 → (IntKind.u8.wrap (2 ^ (ji13).toNat)) = ji15:=fun hle_=>by have h_:=hji15z hle_;rw [Int.one_mul] at h_;exact h_
         obtain ⟨y248,hy248⟩ : ∃ y_ : List Int,y_ = (x6_1.set ((ji10) : Int).toNat (Go.bits .andNot .u8 (rd x6_1 (ji10)) (ji15))):=⟨_,rfl⟩
         replace H : (impl_Space_close.l0 k1 l1 y248 l0_2 (l0_2.length : Int) (wrap64 (x22_1 + 1)) l0_0 l0_1 l0_2 l0_3) = some (r1,r2):=by first|(rw [hy248];with_reducible exact H)|(have H2_:=(Option.bind_some _ _).symm.trans H;rw [hy248];with_reducible exact H2_)|(have H2_:=(Option.bind_some _ _).symm.trans H;with_reducible exact H2_)|with_reducible exact H|(rw [hy248];exact H)|exact H
         have Ny248:=Aside0.mk hy248
         clear hy248
         have H':=Aside0.mk H
         clear H
         have p246 : 0 ≤ (x22_1 : Int):=of_decide_eq_true (by assumption)
         have q246 : x22_1 < (l0_2.length : Int):=of_decide_eq_true (by assumption)
         obtain ⟨ad246,e246,hx246_0⟩:=Kd.at_int HR0_2.out x22_1 p246 q246
         cases e246
         (try replace hx246_0:=(HB.out.cell (World.block_lt_of_cell? w _ hx246_0)).trans hx246_0)
         replace p246:=eq_true p246
         replace q246:=eq_true q246
         try go_wp2
         have n0_:=Aside0.mk (Kd.R_drew HO_6.out)
         have n1_:=Aside0.mk (blk_drew BK0.out)
         have n2_:=Aside0.mk (below_drew1 HB.out)
         clear HO_6
         clear BK0
         clear HB
         have HO_6:=n0_
         have BK0:=n1_
         have HB:=n2_
         clear n0_ n1_ n2_
         obtain ⟨Ao18,co18,eo18⟩:=Kd.R_slice HO_6.out
         (first|subst eo18|(injection eo18 with f1_ f2_ f3_;have f4_:=f1_.symm;have f5_:=f3_.symm;clear f1_ f2_ f3_;subst f4_;subst f5_))
         have p247 : 0 ≤ ((ji10) : Int):=of_decide_eq_true (by assumption)
         have q247 : (ji10) < (x6_1.length : Int):=of_decide_eq_true (by assumption)
         obtain ⟨ad247,e247,hx247_0⟩:=Kd.at_int (Kd.R_reads' HO_6.out).2.2 (ji10) p247 q247
         cases e247
         replace p247:=eq_true p247
         replace q247:=eq_true q247
         have p16 : 0 ≤ ((ji10) : Int):=of_decide_eq_true (by assumption)
         have q16 : ((ji10) : Int) < ((x6_1.length : Int) : Int):=of_decide_eq_true (by assumption)
         obtain ⟨go16,co16,eo16,gb16,gl16,cl16,HG16⟩:=Kd.R_form HO_6.out (by omega)
         (first|cases eo16|(injection eo16 with ea_ en_ ec_;(first|subst ea_|(injection ea_ with ea_;subst ea_));subst ec_;clear en_))
         have GB16:=Aside0.mk gb16
         have GG16:=Aside0.mk HG16
         clear gb16 gl16 HG16
         (first|simp only [add_plain] at hx247_0|skip)
         obtain ⟨hx16_0,hf16_0⟩:=Kd.R_celln 0 HO_6.out ((ji10) : Int) p16 q16
         replace p16:=eq_true p16
         replace q16:=eq_true q16
         have HP19:=Kd.R_putn HO_6.out ((ji10) : Int) (Go.bits .andNot .u8 (rd x6_1 (ji10)) (ji15))
         rw [← Ny248.out] at HP19
         have HQ19:=Aside0.mk HP19
         clear HP19
         refine start_ (n:=11) (S:=fun w'=>w'.cell? ⟨go16,((ji10)).toNat,none⟩ = some (.int .u8 (rd x6_1 (ji10)))) (ds:=[10]) #[false,false,false,false,false,false,false,false,false,false,false] (by kernel_rfl) rfl rfl (hx247_0) (fun hHeld=>?_);refine with_tabW impl_Space_close.tab5 impl_Space_close.bits5 (fun HT_ HW_=>?_)
         generalize wr.drew = w17 at HO_6 BK0 HB GG16 HQ19 hf16_0 hx16_0 hx247_0 hHeld ⊢
         refine pure_ (i:=0) (N:=some 26) (v:=?_) (a':=?_) #[true,false,false,false,false,false,false,false,false,false,false] rfl rfl (any_of HT_.out (by kernel_rfl)) (fun _ _ _ h=>h) (Or.inl ⟨by rfl,?_⟩) ?_ ?_
         rotate_left
         ·intro w'
          go_simp
          with_reducible rfl
         rotate_left
         ·simp only [Act.put,List.setIfInBounds_toArray,List.set_cons_zero,List.set_cons_succ,i64_w,i32_w]
          rfl
         refine pure_ (i:=1) (N:=some 27) (v:=?_) (a':=?_) #[true,true,false,false,false,false,false,false,false,false,false] rfl rfl (any_of HT_.out (by kernel_rfl)) (fun _ _ _ h=>h) (Or.inl ⟨by rfl,?_⟩) ?_ ?_
         rotate_left
         ·intro w'
          go_simp
          with_reducible rfl
         rotate_left
         ·simp only [Act.put,List.setIfInBounds_toArray,List.set_cons_zero,List.set_cons_succ,i64_w,i32_w]
          rfl
         refine pure_ (i:=2) (N:=some 28) (v:=?_) (a':=?_) #[true,true,true,false,false,false,false,false,false,false,false] rfl rfl (any_of HT_.out (by kernel_rfl)) (fun _ _ _ h=>h) (Or.inl ⟨by rfl,?_⟩) ?_ ?_
         rotate_left
         ·intro w'
          go_simp
          with_reducible rfl
         rotate_left
         ·simp only [Act.put,List.setIfInBounds_toArray,List.set_cons_zero,List.set_cons_succ,i64_w,i32_w]
          rfl
         refine pure_ (i:=3) (N:=some 29) (v:=?_) (a':=?_) #[true,true,true,true,false,false,false,false,false,false,false] rfl rfl (any_of HT_.out (by kernel_rfl)) (fun _ _ _ h=>h) (Or.inl ⟨by rfl,?_⟩) ?_ ?_
         rotate_left
         ·intro w'
          go_simp
          with_reducible rfl
         rotate_left
         ·simp only [Act.put,List.setIfInBounds_toArray,List.set_cons_zero,List.set_cons_succ,i64_w,i32_w]
          rfl
         refine pure_ (i:=5) (N:=some 31) (v:=?_) (a':=?_) #[true,true,true,true,false,true,false,false,false,false,false] rfl rfl (any_of HT_.out (by kernel_rfl)) (fun _ _ _ h=>h) (Or.inl ⟨by rfl,?_⟩) ?_ ?_
         rotate_left
         ·intro w'
          go_simp
          with_reducible rfl
         rotate_left
         ·simp only [Act.put,List.setIfInBounds_toArray,List.set_cons_zero,List.set_cons_succ,i64_w,i32_w]
          rfl
         refine pure_ (i:=6) (N:=some 32) (v:=?_) (a':=?_) #[true,true,true,true,false,true,true,false,false,false,false] rfl rfl (any_of HT_.out (by kernel_rfl)) (fun _ _ _ h=>h) (Or.inl ⟨by rfl,?_⟩) ?_ ?_
         rotate_left
         ·intro w'
          go_simp
          with_reducible rfl
         rotate_left
         ·simp only [Act.put,List.setIfInBounds_toArray,List.set_cons_zero,List.set_cons_succ,i64_w,i32_w]
          rfl
         refine pure_ (i:=7) (N:=some 33) (v:=?_) (a':=?_) #[true,true,true,true,false,true,true,true,false,false,false] rfl rfl (any_of HT_.out (by kernel_rfl)) (fun _ _ _ h=>h) (Or.inl ⟨by rfl,?_⟩) ?_ ?_
         rotate_left
         ·intro w'
          go_simp
          with_reducible rfl
         rotate_left
         ·simp only [Act.put,List.setIfInBounds_toArray,List.set_cons_zero,List.set_cons_succ,i64_w,i32_w]
          rfl
         refine take_ (i:=4) (N:=some 30) (v:=?_) (a':=?_) #[true,true,true,true,true,true,true,true,false,false,false] rfl rfl (take_ofW HT_.out HW_.out (by kernel_rfl)) (fun _ _ _ h=>h) (Or.inl ⟨by rfl,?_⟩) hHeld ?_ ?_
         rotate_left
         ·intro w' s0
          go_simp
          with_reducible rfl
         rotate_left
         ·simp only [Act.put,List.setIfInBounds_toArray,List.set_cons_zero,List.set_cons_succ,i64_w,i32_w]
          rfl
         refine pure_ (i:=8) (N:=some 34) (v:=?_) (a':=?_) #[true,true,true,true,true,true,true,true,true,false,false] rfl rfl (any_of HT_.out (by kernel_rfl)) (fun _ _ _ h=>h) (Or.inl ⟨by rfl,?_⟩) ?_ ?_
         rotate_left
         ·intro w'
          go_simp
          with_reducible rfl
         rotate_left
         ·simp only [Act.put,List.setIfInBounds_toArray,List.set_cons_zero,List.set_cons_succ,i64_w,i32_w]
          rfl
         refine pure_ (i:=9) (N:=some 35) (v:=?_) (a':=?_) #[true,true,true,true,true,true,true,true,true,true,false] rfl rfl (any_of HT_.out (by kernel_rfl)) (fun _ _ _ h=>h) (Or.inl ⟨by rfl,?_⟩) ?_ ?_
         rotate_left
         ·intro w'
          go_simp
          with_reducible rfl
         rotate_left
         ·simp only [Act.put,List.setIfInBounds_toArray,List.set_cons_zero,List.set_cons_succ,i64_w,i32_w]
          rfl
         refine last_ (i:=10) (N:=none) #[true,true,true,true,true,true,true,true,true,true,true] rfl rfl (one_of HT_.out (by kernel_rfl)) (by decide) (fun K hK=>?_)
         refine skip_ (w1:=?_) (by rfl) rfl ?_ ?_
         rotate_left
         ·go_simp
          rfl
         refine hK.out _ _ ?_
         clear hK K
         refine done_ (done_of HT_.out (by kernel_rfl)) ?_
         try go_wp2
         go_roundg k1
         case measure=>have:=HK1.out;omega
         case rel=>exact ⟨(y248),(wrap64 (x22_1 + 1)),(by first|rfl|(simp;done)|(simp [*];done)),H',⟨by have:=HK1.out;omega⟩,⟨by (with_reducible repeat (first|apply Kd.R_alloc|apply Kd.R_drewN|apply Kd.R_drew));exact HQ19.out⟩,⟨by (with_reducible repeat first|apply blk_drewN|apply blk_drew|apply blk_alloc);refine blk_far ?_ (by have h_:=Kd.R_ne HO_6.out BK0.out (by decide);intro e_;exact h_ (by rw [e_];rfl)) _;(with_reducible repeat first|apply blk_drewN|apply blk_drew|apply blk_alloc);exact BK0.out⟩,⟨by repeat (first|(with_reducible first|exact HB.out|apply below_alloc|apply pw_below_drewN|apply below_drew1|refine below_set ?_ GB16.out|refine below_set ?_ GE0.out)|exact HB.out)⟩⟩
        ·rw [if_neg c14] at H
         exact absurd H (by simp)
       ·rw [if_neg c12] at H
        exact absurd H (by simp)
      ·rw [if_neg c11] at H
       exact absurd H (by simp)
     ·rw [if_neg c9] at H
      exact absurd H (by simp)
    ·rw [if_neg c8] at H
     exact absurd H (by simp)
   ·rw [if_neg c7] at H
    have c7b0 : decide (x22_1 < (l0_2.length : Int)) = false:=decide_eq_false c7
    clear c7
    replace H:=Option.bind_eq_some_iff.mp H
    obtain ⟨t249,A200,H⟩:=H
    replace H : ((impl_padded.f x6_1 128).bind fun t252=>(impl_Space_close.l1 k1 (([(⟨0,t249⟩ : S91),(⟨1,t252⟩ : S91)] : List (S91))) l0_3 (l0_3.length : Int) 0 l0_0 l0_1 l0_2 l0_3)) = some (r1,r2):=H
    have A20:=Aside0.mk A200
    clear A200
    replace H:=Option.bind_eq_some_iff.mp H
    obtain ⟨t252,A210,H⟩:=H
    replace H : (impl_Space_close.l1 k1 (([(⟨0,t249⟩ : S91),(⟨1,t252⟩ : S91)] : List (S91))) l0_3 (l0_3.length : Int) 0 l0_0 l0_1 l0_2 l0_3) = some (r1,r2):=H
    have A21:=Aside0.mk A210
    clear A210
    obtain ⟨y255,hy255⟩ : ∃ y_ : List (S91),y_ = (([(⟨0,t249⟩ : S91),(⟨1,t252⟩ : S91)] : List (S91))):=⟨_,rfl⟩
    replace H : (impl_Space_close.l1 k1 y255 l0_3 (l0_3.length : Int) 0 l0_0 l0_1 l0_2 l0_3) = some (r1,r2):=by first|(rw [hy255];with_reducible exact H)|(have H2_:=(Option.bind_some _ _).symm.trans H;rw [hy255];with_reducible exact H2_)|(have H2_:=(Option.bind_some _ _).symm.trans H;with_reducible exact H2_)|with_reducible exact H|(rw [hy255];exact H)|exact H
    have Ny255:=Aside0.mk hy255
    clear hy255
    have H':=Aside0.mk H
    clear H
    go_wp2_with (first|((with_reducible refine gate_callee (f:=60) rfl ?_);refine goesL_ (some 38) rfl rfl Try.func60 (by kernel_rfl) rfl #[.slice A1 l1.length c1] rfl (by (try simp only [List.map_toArray,List.map_cons,List.map_nil]);first|done|rfl|(simp only [List.length_drop,List.length_take];rfl)) ?_;(with_reducible refine (slices_Clone_byte_byte.calls _ _ l1 t249 _ ?side1 ?side2 A20.out).mono ?_);(case side1=>repeat (first|exact (Kd.C_below HR1.out HB.out)|(with_reducible first|apply Kd.C_alloc|apply Kd.C_drewN|apply Kd.C_drew)));(case side2=>exact HC1.out);rintro e w22 ⟨v250,rfl,ho0,hb⟩;refine ⟨_,rfl,?_⟩;have n0_:=Aside0.mk (Kd.R_elder' (by (with_reducible repeat (first|apply Kd.R_alloc|apply Kd.R_drewN|apply Kd.R_drew));exact HO_6.out) (Kd.R_base ho0) hb);have n1_:=Aside0.mk (Kd.R_lower (Kd.R_new' ho0 (Kd.R_lt (by (with_reducible repeat (first|apply Kd.R_alloc|apply Kd.R_drewN|apply Kd.R_drew));exact HO_6.out))) (below_size (by repeat (first|(with_reducible first|exact HB.out|apply below_alloc|apply pw_below_drewN|apply below_drew1|refine below_set ?_ GE0.out)|exact HB.out))));have n2_:=Aside0.mk (blk_below (g:=g0_) (o:=.cells #[.slice A0_0 l0_0.length c0_0,.slice A0_1 l0_1.length c0_1,.slice A0_2 l0_2.length c0_2,.slice A0_3 l0_3.length c0_3] 29 (0,0)) (by (with_reducible repeat first|apply blk_drewN|apply blk_drew|apply blk_alloc);exact BK0.out) hb);have n3_:=Aside0.mk (below_step (by repeat (first|(with_reducible first|exact HB.out|apply below_alloc|apply pw_below_drewN|apply below_drew1|refine below_set ?_ GE0.out)|exact HB.out)) hb);clear HO_6;clear BK0;clear HB;have HO_6:=n0_;have HO251:=n1_;have BK0:=n2_;have HB:=n3_;clear n0_ n1_ n2_ n3_;(try clear hb);(try clear hb2);(try clear hk);(try clear hi);(try clear ho0);obtain ⟨Ao23,co23,eo23⟩:=Kd.R_slice HO251.out;subst eo23;obtain ⟨Ao24,co24,eo24⟩:=Kd.R_slice HO_6.out;subst eo24)|((with_reducible refine gate_callee (f:=86) rfl ?_);refine goesL_ (some 41) rfl rfl Try.func86 (by kernel_rfl) rfl #[.slice Ao24 x6_1.length co24,.int .i64 128] rfl (by (try simp only [List.map_toArray,List.map_cons,List.map_nil]);first|done|rfl|(simp only [List.length_drop,List.length_take];rfl)) ?_;(with_reducible refine (impl_padded.calls (fun k_=>some k_ = (.slice Ao24 x6_1.length co24 : Value).ownBlock) (.slice Ao24 x6_1.length co24) x6_1 128 t252 w _ ?side1 ?side2 A21.out).mono ?_);(case side1=>repeat (first|(with_reducible first|exact HB.out|apply below_alloc|apply pw_below_drewN|apply below_drew1|refine below_set ?_ GE0.out)|exact HB.out));(case side2=>exact Kd.R_tight rfl HO_6.out);rintro e w25 ⟨v253,rfl,ho0,hb,hkp⟩;refine ⟨_,rfl,?_⟩;have n0_:=Aside0.mk (blk_kept (g:=g0_) (o:=.cells #[.slice A0_0 l0_0.length c0_0,.slice A0_1 l0_1.length c0_1,.slice A0_2 l0_2.length c0_2,.slice A0_3 l0_3.length c0_3] 29 (0,0)) (by (with_reducible repeat first|apply blk_drewN|apply blk_drew|apply blk_alloc);exact BK0.out) hkp (fun hs_=>(fun e_=>(Kd.R_ne HO_6.out BK0.out (by decide)) e_) hs_));have n1_:=Aside0.mk (Kd.R_mono (ok':=fun k_=>some k_ ≠ (v253 : Value).ownBlock) (Kd.R_keptB (HO251.out) hkp (fun k_ hk_ hs_=>(hk_.2) hs_)) (fun k_ hk_=>fun e_=>Or.elim (ho0.1 k_ e_.symm) (fun hs_=>hk_.2.1 hs_) (fun hn_=>Nat.not_le.2 hk_.2.2 hn_)));have n2_:=Aside0.mk (Kd.R_mono (ok':=fun k_=>some k_ ≠ (.slice Ao23 t249.length co23 : Value).ownBlock) ho0 (fun k_ hk_=>Or.elim hk_ (fun hs_=>fun e_=>((HO251.out.1 k_ e_.symm).2) hs_) (fun hn_=>(Kd.fresh' (Kd.R_lt (by (with_reducible repeat (first|apply Kd.R_alloc|apply Kd.R_drewN|apply Kd.R_drew));exact HO251.out)) k_ hn_))));have n3_:=Aside0.mk (hb);clear BK0;clear HO251;clear HB;clear HO_6;have BK0:=n0_;have HO251:=n1_;have HO254:=n2_;have HB:=n3_;clear n0_ n1_ n2_ n3_;(try clear hb);(try clear hkp);(try clear hbx);(try clear ho0);obtain ⟨Ao26,co26,eo26⟩:=Kd.R_slice HO254.out;subst eo26)|((with_reducible refine gate_dst (N:=43) rfl ?_);refine S_lit2 k91 w.heap.size 91 ?hg (N:=43) ?hd (xs:=([(⟨0,t249⟩ : S91),(⟨1,t252⟩ : S91)] : List (S91))) (inner:=[.int .i64 0,.slice Ao23 t249.length co23,.int .i64 1,.slice Ao26 t252.length co26]) (x0:=(⟨0,t249⟩ : S91)) (x1:=(⟨1,t252⟩ : S91)) (c0:=[.int .i64 0,.slice Ao23 t249.length co23]) (c1:=[.int .i64 1,.slice Ao26 t252.length co26]) (ok:=(fun _=>True)) (ok0:=(fun k_=>some k_ = (.slice Ao23 t249.length co23 : Value).ownBlock)) (ok1:=(fun k_=>some k_ = (.slice Ao26 t252.length co26 : Value).ownBlock)) rfl rfl ?hr ?h0 ?h1 rfl rfl (fun k_ ha_ hb_=>((HO251.out.1 k_ ha_.symm)) hb_) (fun k_ hk_=>((Kd.R_mono (ok':=(fun _=>True)) (HO251.out) (fun k_ hk=>trivial))).1 k_ hk_.symm) (fun k_ hk_=>((Kd.R_mono (ok':=(fun _=>True)) (HO254.out) (fun k_ hk=>trivial))).1 k_ hk_.symm) ?hf ?hb ?_;(case hd=>rfl);(case hg=>rfl);(case hr=>first|(go_simp;done)|(go_simp;rfl));(case h0=>exact k91_mkM _ _ _ (⟨0,t249⟩ : S91) (Kd.R_tight rfl (Kd.R_mono (ok':=(fun _=>True)) (HO251.out) (fun k_ hk=>trivial))));(case h1=>exact k91_mkM _ _ _ (⟨1,t252⟩ : S91) (Kd.R_tight rfl (Kd.R_mono (ok':=(fun _=>True)) (HO254.out) (fun k_ hk=>trivial))));(case hf=>exact trivial);(case hb=>exact (below_size (by repeat (first|(with_reducible first|exact HB.out|apply below_alloc|apply pw_below_drewN|apply below_drew1|refine below_set ?_ GE0.out)|exact HB.out))));intro v256 w27 ho28 hb hg_ hnew_;clear hg_ hnew_;(first|rw [← Ny255.out] at ho28|(simp only [Int.reduceToNat] at ho28;rw [← Ny255.out] at ho28));have n0_:=Aside0.mk (ho28);have n1_:=Aside0.mk (blk_below (g:=g0_) (o:=.cells #[.slice A0_0 l0_0.length c0_0,.slice A0_1 l0_1.length c0_1,.slice A0_2 l0_2.length c0_2,.slice A0_3 l0_3.length c0_3] 29 (0,0)) (by (with_reducible repeat first|apply blk_drewN|apply blk_drew|apply blk_alloc);exact BK0.out) hb);have n2_:=Aside0.mk (below_step (by repeat (first|(with_reducible first|exact HB.out|apply below_alloc|apply pw_below_drewN|apply below_drew1|refine below_set ?_ GE0.out)|exact HB.out)) hb);clear BK0;clear HB;clear HO251;clear HO254;have HO257:=n0_;have BK0:=n1_;have HB:=n2_;clear n0_ n1_ n2_;clear hb ho28;have hcz29_0 : w27.cell? ⟨g0_,0,none⟩ = some (.slice A0_0 l0_0.length c0_0):=(blk_cell BK0.out 0).trans rfl;have hcz29_1 : w27.cell? ⟨g0_,1,none⟩ = some (.slice A0_1 l0_1.length c0_1):=(blk_cell BK0.out 1).trans rfl;have hcz29_2 : w27.cell? ⟨g0_,2,none⟩ = some (.slice A0_2 l0_2.length c0_2):=(blk_cell BK0.out 2).trans rfl;have hcz29_3 : w27.cell? ⟨g0_,3,none⟩ = some (.slice A0_3 l0_3.length c0_3):=(blk_cell BK0.out 3).trans rfl;have hfz29_0:=blk_frozen BK0.out 0;have hfz29_1:=blk_frozen BK0.out 1;have hfz29_2:=blk_frozen BK0.out 2;have hfz29_3:=blk_frozen BK0.out 3))
    go_loopg [9,49] k1 (fun kq v9 v49 w'=>∃ (x9_2 : List (S91)) (x49_2 : Int),v49 = .int .i64 x49_2∧Aside0 (impl_Space_close.l1 kq x9_2 l0_3 (l0_3.length : Int) x49_2 l0_0 l0_1 l0_2 l0_3 = some (r1,r2))∧Aside0 (kq ≤ k1)∧Aside0 (Kd.S k91 91 w' w.heap.size (fun _=>True) v9 x9_2)∧Aside0 (w'.heap[g0_]? = some (.cells #[(.slice A0_0 l0_0.length c0_0),(.slice A0_1 l0_1.length c0_1),(.slice A0_2 l0_2.length c0_2),(.slice A0_3 l0_3.length c0_3)] 29 (0,0)))∧Aside0 (Below w.heap.size w w'))
    case atStart=>exact ⟨(y255),(0),(by first|rfl|(simp;done)|(simp [*];done)),H',⟨Nat.le_refl _⟩,⟨by (with_reducible repeat (first|apply Kd.S_alloc|apply Kd.S_drewN|apply Kd.S_drew));exact HO257.out⟩,⟨by (with_reducible repeat first|apply blk_drewN|apply blk_drew|apply blk_alloc);exact BK0.out⟩,⟨by repeat (first|(with_reducible first|exact HB.out|apply below_alloc|apply pw_below_drewN|apply below_drew1|refine below_set ?_ GE0.out)|exact HB.out)⟩⟩
    case round =>
     clear H'
     try clear c1;try clear p1;try clear q1;try clear hx1;try clear p2;try clear q2;try clear hx2;try clear c6;try clear p6;try clear c7;try clear c7b0;try clear c8;try clear c8b0;try clear c9;try clear c9b0;try clear c11;try clear c11b0;try clear c12;try clear c12b0;try clear c14;try clear c14b0;try clear c14b1;try clear p16;try clear q16;try clear hx16;try clear hf16;try clear p24;try clear q24;try clear hx24;try clear hcz29_0;try clear hcz29_1;try clear hcz29_2;try clear hcz29_3;try clear hcz4_0;try clear hcz4_1;try clear hcz4_2;try clear hcz4_3;try clear hcz6_0;try clear hcz6_1;try clear hcz6_2;try clear hcz6_3;try clear hfz29_0;try clear hfz29_1;try clear hfz29_2;try clear hfz29_3;try clear hfz4_0;try clear hfz4_1;try clear hfz4_2;try clear hfz4_3;try clear hfz6_0;try clear hfz6_1;try clear hfz6_2;try clear hfz6_3;try clear hx16_0;try clear hx246_0;try clear hx247_0;try clear p16;try clear p2;try clear p246;try clear p247;try clear q16;try clear q246;try clear q247
     obtain ⟨x9_2,x49_2,rfl,HA,HK2,HO_9,BK0,HB⟩:=hrel
     cases gk with
     | zero=>exact absurd HA.out (by simp [impl_Space_close.l1])
     | succ k2 =>
      have H:=HA.out
      clear HA
      simp only [impl_Space_close.l1] at H
      by_cases c30 : x49_2 < (l0_3.length : Int)
      ·rw [if_pos c30] at H
       have c30b0 : decide (x49_2 < (l0_3.length : Int)) = true:=decide_eq_true c30
       clear c30
       by_cases c31 : 0 ≤ x49_2
       ·rw [if_pos c31] at H
        have c31b0 : decide (0 ≤ x49_2) = true:=decide_eq_true c31
        clear c31
        by_cases c32 : x49_2 < (l0_3.length : Int)
        ·rw [if_pos c32] at H
         have c32b0 : decide (x49_2 < (l0_3.length : Int)) = true:=decide_eq_true c32
         clear c32
         replace H:=Option.bind_eq_some_iff.mp H
         obtain ⟨t259,A330,H⟩:=H
         replace H : (if t259 = true then (impl_Space_close.l1 k2 x9_2 l0_3 (l0_3.length : Int) (wrap64 (x49_2 + 1)) l0_0 l0_1 l0_2 l0_3) else (if 0 ≤ (rd l0_3 x49_2) then (if (rd l0_3 x49_2) < (l0_0.length : Int) then ((slices_Clone_byte_byte.f (rd_L1 l0_0 (rd l0_3 x49_2))).bind fun t261=>(if x9_2.length < 4398046511104 then (impl_Space_close.l1 k2 (x9_2 ++ [(⟨rd l0_3 x49_2,t261⟩ : S91)]) l0_3 (l0_3.length : Int) (wrap64 (x49_2 + 1)) l0_0 l0_1 l0_2 l0_3) else (none))) else (none)) else (none))) = some (r1,r2):=H
         have A33:=Aside0.mk A330
         clear A330
         by_cases c34 : t259 = true
         ·subst c34
          have H1 : (impl_Space_close.l1 k2 x9_2 l0_3 (l0_3.length : Int) (wrap64 (x49_2 + 1)) l0_0 l0_1 l0_2 l0_3) = some (r1,r2):=by rw [if_pos rfl] at H;exact H
          clear H
          have H:=H1
          clear H1
          have H':=Aside0.mk H
          clear H
          have p258 : 0 ≤ (x49_2 : Int):=of_decide_eq_true (by assumption)
          have q258 : x49_2 < (l0_3.length : Int):=of_decide_eq_true (by assumption)
          obtain ⟨ad258,e258,hx258_0⟩:=Kd.at_int HR0_3.out x49_2 p258 q258
          cases e258
          (try replace hx258_0:=(HB.out.cell (World.block_lt_of_cell? w _ hx258_0)).trans hx258_0)
          replace p258:=eq_true p258
          replace q258:=eq_true q258
          have hcz35_0 : wr.cell? ⟨g0_,0,none⟩ = some (.slice A0_0 l0_0.length c0_0):=(blk_cell BK0.out 0).trans rfl
          have hcz35_1 : wr.cell? ⟨g0_,1,none⟩ = some (.slice A0_1 l0_1.length c0_1):=(blk_cell BK0.out 1).trans rfl
          have hcz35_2 : wr.cell? ⟨g0_,2,none⟩ = some (.slice A0_2 l0_2.length c0_2):=(blk_cell BK0.out 2).trans rfl
          have hcz35_3 : wr.cell? ⟨g0_,3,none⟩ = some (.slice (some ad258) l0_3.length c0_3):=(blk_cell BK0.out 3).trans rfl
          have hfz35_0:=blk_frozen BK0.out 0
          have hfz35_1:=blk_frozen BK0.out 1
          have hfz35_2:=blk_frozen BK0.out 2
          have hfz35_3:=blk_frozen BK0.out 3
          go_wp2_with (first|((with_reducible refine gate_callee (f:=82) rfl ?_);refine goesL_ (some 58) rfl rfl Try.func82 (by kernel_rfl) rfl #[.slice A0_2 l0_2.length c0_2,.int .i64 (rd l0_3 x49_2)] rfl (by (try simp only [List.map_toArray,List.map_cons,List.map_nil]);first|done|rfl|(simp only [List.length_drop,List.length_take];rfl)) ?_;(with_reducible refine (slices_Contains_int_int.calls k2 _ _ l0_2 (rd l0_3 x49_2) true _ ?side1 ?side2 A33.out).mono ?_);(case side1=>repeat (first|exact (Kd.C_below HR0_2.out HB.out)|(with_reducible first|apply Kd.C_alloc|apply Kd.C_drewN|apply Kd.C_drew)));(case side2=>exact HC0_2.out);rintro e w' ⟨rfl,⟨nd,rfl⟩⟩;refine ⟨_,rfl,?_⟩))
          go_roundg k2
          case measure=>have:=HK1.out;have:=HK2.out;omega
          case rel=>exact ⟨(x9_2),(wrap64 (x49_2 + 1)),(by first|rfl|(simp;done)|(simp [*];done)),H',⟨by have:=HK1.out;have:=HK2.out;omega⟩,⟨by (with_reducible repeat (first|apply Kd.S_alloc|apply Kd.S_drewN|apply Kd.S_drew));exact HO_9.out⟩,⟨by (with_reducible repeat first|apply blk_drewN|apply blk_drew|apply blk_alloc);exact BK0.out⟩,⟨by repeat (first|(with_reducible first|exact HB.out|apply below_alloc|apply pw_below_drewN|apply below_drew1|refine below_set ?_ GE0.out)|exact HB.out)⟩⟩
         ·replace c34:=Bool.eq_false_iff.mpr c34
          subst c34
          have H1 : (if 0 ≤ (rd l0_3 x49_2) then (if (rd l0_3 x49_2) < (l0_0.length : Int) then ((slices_Clone_byte_byte.f (rd_L1 l0_0 (rd l0_3 x49_2))).bind fun t261=>(if x9_2.length < 4398046511104 then (impl_Space_close.l1 k2 (x9_2 ++ [(⟨rd l0_3 x49_2,t261⟩ : S91)]) l0_3 (l0_3.length : Int) (wrap64 (x49_2 + 1)) l0_0 l0_1 l0_2 l0_3) else (none))) else (none)) else (none)) = some (r1,r2):=by rw [if_neg (show ¬ (false = true) by decide)] at H;exact H
          clear H
          have H:=H1
          clear H1
          by_cases c36 : 0 ≤ (rd l0_3 x49_2)
          ·rw [if_pos c36] at H
           have c36b0 : decide (0 ≤ (rd l0_3 x49_2)) = true:=decide_eq_true c36
           clear c36
           by_cases c37 : (rd l0_3 x49_2) < (l0_0.length : Int)
           ·rw [if_pos c37] at H
            have c37b0 : decide ((rd l0_3 x49_2) < (l0_0.length : Int)) = true:=decide_eq_true c37
            clear c37
            replace H:=Option.bind_eq_some_iff.mp H
            obtain ⟨t261,A380,H⟩:=H
            replace H : (if x9_2.length < 4398046511104 then (impl_Space_close.l1 k2 (x9_2 ++ [(⟨rd l0_3 x49_2,t261⟩ : S91)]) l0_3 (l0_3.length : Int) (wrap64 (x49_2 + 1)) l0_0 l0_1 l0_2 l0_3) else (none)) = some (r1,r2):=H
            have A38:=Aside0.mk A380
            clear A380
            by_cases c39 : x9_2.length < 4398046511104
            ·rw [if_pos c39] at H
             have LMc39:=Aside0.mk c39
             clear c39
             obtain ⟨y264,hy264⟩ : ∃ y_ : List (S91),y_ = (x9_2 ++ [(⟨rd l0_3 x49_2,t261⟩ : S91)]):=⟨_,rfl⟩
             replace H : (impl_Space_close.l1 k2 y264 l0_3 (l0_3.length : Int) (wrap64 (x49_2 + 1)) l0_0 l0_1 l0_2 l0_3) = some (r1,r2):=by first|(rw [hy264];with_reducible exact H)|(have H2_:=(Option.bind_some _ _).symm.trans H;rw [hy264];with_reducible exact H2_)|(have H2_:=(Option.bind_some _ _).symm.trans H;with_reducible exact H2_)|with_reducible exact H|(rw [hy264];exact H)|exact H
             have Ny264:=Aside0.mk hy264
             clear hy264
             have H':=Aside0.mk H
             clear H
             have p258 : 0 ≤ (x49_2 : Int):=of_decide_eq_true (by assumption)
             have q258 : x49_2 < (l0_3.length : Int):=of_decide_eq_true (by assumption)
             obtain ⟨ad258,e258,hx258_0⟩:=Kd.at_int HR0_3.out x49_2 p258 q258
             cases e258
             (try replace hx258_0:=(HB.out.cell (World.block_lt_of_cell? w _ hx258_0)).trans hx258_0)
             replace p258:=eq_true p258
             replace q258:=eq_true q258
             have hcz40_0 : wr.cell? ⟨g0_,0,none⟩ = some (.slice A0_0 l0_0.length c0_0):=(blk_cell BK0.out 0).trans rfl
             have hcz40_1 : wr.cell? ⟨g0_,1,none⟩ = some (.slice A0_1 l0_1.length c0_1):=(blk_cell BK0.out 1).trans rfl
             have hcz40_2 : wr.cell? ⟨g0_,2,none⟩ = some (.slice A0_2 l0_2.length c0_2):=(blk_cell BK0.out 2).trans rfl
             have hcz40_3 : wr.cell? ⟨g0_,3,none⟩ = some (.slice (some ad258) l0_3.length c0_3):=(blk_cell BK0.out 3).trans rfl
             have hfz40_0:=blk_frozen BK0.out 0
             have hfz40_1:=blk_frozen BK0.out 1
             have hfz40_2:=blk_frozen BK0.out 2
             have hfz40_3:=blk_frozen BK0.out 3
             go_wp2_with (first|((with_reducible refine gate_callee (f:=82) rfl ?_);refine goesL_ (some 58) rfl rfl Try.func82 (by kernel_rfl) rfl #[.slice A0_2 l0_2.length c0_2,.int .i64 (rd l0_3 x49_2)] rfl (by (try simp only [List.map_toArray,List.map_cons,List.map_nil]);first|done|rfl|(simp only [List.length_drop,List.length_take];rfl)) ?_;(with_reducible refine (slices_Contains_int_int.calls k2 _ _ l0_2 (rd l0_3 x49_2) false _ ?side1 ?side2 A33.out).mono ?_);(case side1=>repeat (first|exact (Kd.C_below HR0_2.out HB.out)|(with_reducible first|apply Kd.C_alloc|apply Kd.C_drewN|apply Kd.C_drew)));(case side2=>exact HC0_2.out);rintro e w' ⟨rfl,⟨nd,rfl⟩⟩;refine ⟨_,rfl,?_⟩;have p260 : 0 ≤ ((rd l0_3 x49_2) : Int):=of_decide_eq_true (by assumption);have q260 : (rd l0_3 x49_2) < (l0_0.length : Int):=of_decide_eq_true (by assumption);obtain ⟨ad260,A260_0,c260_0,e260,hx260_0,hl260_0,hi260_0⟩:=at_L1 HR0_0.out (rd l0_3 x49_2) p260 q260;cases e260;(try replace hx260_0:=(HB.out.cell (World.block_lt_of_cell? w _ hx260_0)).trans hx260_0);have HR260_0:=Aside0.mk hi260_0;have HC260_0:=Aside0.mk hl260_0;clear hi260_0 hl260_0;replace p260:=eq_true p260;replace q260:=eq_true q260)|((with_reducible refine gate_callee (f:=60) rfl ?_);refine goesL_ (some 69) rfl rfl Try.func60 (by kernel_rfl) rfl #[.slice A260_0 (rd_L1 l0_0 (rd l0_3 x49_2)).length c260_0] rfl (by (try simp only [List.map_toArray,List.map_cons,List.map_nil]);first|done|rfl|(simp only [List.length_drop,List.length_take];rfl)) ?_;(with_reducible refine (slices_Clone_byte_byte.calls _ _ (rd_L1 l0_0 (rd l0_3 x49_2)) t261 _ ?side1 ?side2 A38.out).mono ?_);(case side1=>repeat (first|exact (Kd.C_below HR260_0.out (by repeat (first|(with_reducible first|exact HB.out|apply below_alloc|apply pw_below_drewN|apply below_drew1|refine below_set ?_ GE0.out)|exact HB.out)))|(with_reducible first|apply Kd.C_alloc|apply Kd.C_drewN|apply Kd.C_drew)));(case side2=>exact HC260_0.out);rintro e w41 ⟨v262,rfl,ho0,hb⟩;refine ⟨_,rfl,?_⟩;have n0_:=Aside0.mk (Kd.S_elder' (by (with_reducible repeat (first|apply Kd.S_alloc|apply Kd.S_drewN|apply Kd.S_drew));exact HO_9.out) (Kd.R_base ho0) hb);have n1_:=Aside0.mk (Kd.R_lower ho0 (below_size (by repeat (first|(with_reducible first|exact HB.out|apply below_alloc|apply pw_below_drewN|apply below_drew1|refine below_set ?_ GE0.out)|exact HB.out))));have n2_:=Aside0.mk (blk_below (g:=g0_) (o:=.cells #[.slice (some ad260) l0_0.length c0_0,.slice A0_1 l0_1.length c0_1,.slice A0_2 l0_2.length c0_2,.slice (some ad258) l0_3.length c0_3] 29 (0,0)) (by (with_reducible repeat first|apply blk_drewN|apply blk_drew|apply blk_alloc);exact BK0.out) hb);have n3_:=Aside0.mk (below_step (by repeat (first|(with_reducible first|exact HB.out|apply below_alloc|apply pw_below_drewN|apply below_drew1|refine below_set ?_ GE0.out)|exact HB.out)) hb);clear HO_9;clear BK0;clear HB;have HO_9:=n0_;have HO263:=n1_;have BK0:=n2_;have HB:=n3_;clear n0_ n1_ n2_ n3_;(try clear hb);(try clear hb2);(try clear hk);(try clear hi);(try clear ho0);obtain ⟨Ao42,co42,eo42⟩:=Kd.R_slice HO263.out;subst eo42)|((with_reducible refine gate_builtin (b:=.append) (xs:=#[.tmp 60,.tmp 71]) rfl ?_);at_builtin;refine Kd.S_append k91 (w0:=w) w.heap.size rfl (.tmp 60) (.tmp 71) 57 91 (.agg #[(.int .i64 0),(.slice none 0 0)]) 32 rfl Try.underlying57 info91 rfl (by decide) (by omega) u9 x9_2 (⟨rd l0_3 x49_2,t261⟩ : S91) [.int .i64 (rd l0_3 x49_2),.slice Ao42 t261.length co42] (fun _=>True) (fun k_=>some k_ = (.slice Ao42 t261.length co42 : Value).ownBlock) rfl rfl ?aP (fun k_ hk_=>((Kd.R_mono (ok':=fun k_=>((fun _=>True)) k_∧some k_ ≠ (u9 : Value).ownBlock) (Kd.R_apart' (HO263.out) (Kd.S_typed HO_9.out) (by decide)) (fun k_ hk=>⟨trivial,hk.2⟩))).1 k_ hk_.symm) ?aF ?aO ?aB ?aS ?aL ?_;(case aP=>exact k91_mkM _ _ _ (⟨rd l0_3 x49_2,t261⟩ : S91) (Kd.R_mono (Kd.R_tight rfl (Kd.R_mono (ok':=fun k_=>((fun _=>True)) k_∧some k_ ≠ (u9 : Value).ownBlock) (Kd.R_apart' (HO263.out) (Kd.S_typed HO_9.out) (by decide)) (fun k_ hk=>⟨trivial,hk.2⟩))) (fun _ h_=>h_)));(case aB=>exact (by repeat (first|(with_reducible first|exact HB.out|apply below_alloc|apply pw_below_drewN|apply below_drew1|refine below_set ?_ GE0.out)|exact HB.out)));(case aF=>exact (fun _ _=>trivial));(case aO=>exact (by (with_reducible repeat (first|apply Kd.S_alloc|apply Kd.S_drewN|apply Kd.S_drew));exact Kd.S_mono HO_9.out (fun k_ hk=>⟨trivial,fun e_=>hk.2 e_⟩)));(case aS=>exact (below_size (by repeat (first|(with_reducible first|exact HB.out|apply below_alloc|apply pw_below_drewN|apply below_drew1|refine below_set ?_ GE0.out)|exact HB.out))));(case aL=>have:=LMc39.out;omega);intro v265 w43 ho hb hg hat;rw [← Ny264.out] at ho;have n0_:=Aside0.mk (blk_grown (g:=g0_) (o:=.cells #[.slice (some ad260) l0_0.length c0_0,.slice A0_1 l0_1.length c0_1,.slice A0_2 l0_2.length c0_2,.slice (some ad258) l0_3.length c0_3] 29 (0,0)) (by (with_reducible repeat first|apply blk_drewN|apply blk_drew|apply blk_alloc);exact BK0.out) hg (Kd.S_ne HO_9.out BK0.out (by decide)));have n1_:=Aside0.mk (hb);have n2_:=Aside0.mk (ho);clear BK0;clear HB;clear HO_9;clear HO263;have BK0:=n0_;have HB:=n1_;have HO266:=n2_;clear n0_ n1_ n2_;clear ho hb hg hat))
             go_roundg k2
             case measure=>have:=HK1.out;have:=HK2.out;omega
             case rel=>exact ⟨(y264),(wrap64 (x49_2 + 1)),(by first|rfl|(simp;done)|(simp [*];done)),H',⟨by have:=HK1.out;have:=HK2.out;omega⟩,⟨by (with_reducible repeat (first|apply Kd.S_alloc|apply Kd.S_drewN|apply Kd.S_drew));exact HO266.out⟩,⟨by (with_reducible repeat first|apply blk_drewN|apply blk_drew|apply blk_alloc);exact BK0.out⟩,⟨by repeat (first|(with_reducible first|exact HB.out|apply below_alloc|apply pw_below_drewN|apply below_drew1|refine below_set ?_ GE0.out)|exact HB.out)⟩⟩
            ·rw [if_neg c39] at H
             exact absurd H (by simp)
           ·rw [if_neg c37] at H
            exact absurd H (by simp)
          ·rw [if_neg c36] at H
           exact absurd H (by simp)
        ·rw [if_neg c32] at H
         exact absurd H (by simp)
       ·rw [if_neg c31] at H
        exact absurd H (by simp)
      ·rw [if_neg c30] at H
       have c30b0 : decide (x49_2 < (l0_3.length : Int)) = false:=decide_eq_false c30
       clear c30
       simp only [Option.some.injEq,Prod.mk.injEq] at H
       obtain ⟨rfl,rfl⟩:=H
       obtain ⟨Ao44,co44,eo44⟩:=Kd.S_slice HO_9.out
       subst eo44
       go_wp2
       go_ret2
       exact ⟨_,by first|rfl|(simp [*,errW_none,errW_some] <;> rfl),by (with_reducible repeat (first|apply Kd.S_alloc|apply Kd.S_drewN|apply Kd.S_drew));exact HO_9.out,by repeat (first|(with_reducible first|exact HB.out|apply below_alloc|apply pw_below_drewN|apply below_drew1|refine below_set ?_ GE0.out)|exact HB.out)⟩

/-! ### impl_CloseSpace: function 38 -/
def impl_CloseSpace.j0 : Nat → List Int → Bool → List (List Int) → List Int → List Int → List Int → Option ((List (S91)) × Bool)
 | 0,_,_,_,_,_,_=>none
 | k + 1,x1,x15,x268000,x268001,x268002,x268003=>if x15 = true then (some (([] : List (S91)),false)) else ((impl_Space_close.f k x268000 x268001 x268002 x268003 x1).bind fun bt269=>(if bt269.2 = true then (some (bt269.1,true)) else (some (([] : List (S91)),false))))
def impl_CloseSpace.f (k : Nat) (l0_0 : List (List Int)) (l0_1 : List Int) (l0_2 : List Int) (l0_3 : List Int) (l1 : List Int) : Option ((List (S91)) × Bool):=(impl_GoodSpace.f k l0_0 l0_1 l0_2 l0_3).bind fun t268=>(if t268 = true then (impl_CloseSpace.j0 k l1 ((l1.length : Int) != 128) l0_0 l0_1 l0_2 l0_3) else (impl_CloseSpace.j0 k l1 true l0_0 l0_1 l0_2 l0_3))
theorem impl_CloseSpace.mono_l : ∀ k,(∀ y0 y1 y2 y3 y4 y5,LeO (impl_CloseSpace.j0 k y0 y1 y2 y3 y4 y5) (impl_CloseSpace.j0 (k + 1) y0 y1 y2 y3 y4 y5))
 | 0=>fun _ _ _ _ _ _ r h=>by simp [impl_CloseSpace.j0] at h
 | k + 1=>by
  have ih0:=impl_CloseSpace.mono_l k
  ·intro y0 y1 y2 y3 y4 y5
   unfold impl_CloseSpace.j0
   repeat' first
   | (with_reducible exact ih0 _ _ _ _ _ _)
   | (with_reducible exact impl_GoodSpace.mono _ _ _ _ _)
   | (with_reducible exact impl_Space_close.mono _ _ _ _ _ _)
   | (with_reducible exact LeO.refl _)
   | (with_reducible exact LeO.none _)
   | (with_reducible refine LeO.ite ?_ ?_)
   | (with_reducible refine LeO.bind ?_ (fun _=>?_))
   | exact ih0 _ _ _ _ _ _
   | exact impl_GoodSpace.mono _ _ _ _ _
   | exact impl_Space_close.mono _ _ _ _ _ _
   | exact LeO.none _
   | refine LeO.ite ?_ ?_
   | refine LeO.bind ?_ (fun _=>?_)
theorem impl_CloseSpace.mono : ∀ a0 a1 a2 a3 a4 k,LeO (impl_CloseSpace.f k a0 a1 a2 a3 a4) (impl_CloseSpace.f (k + 1) a0 a1 a2 a3 a4):=by
 intro a0 a1 a2 a3 a4 k
 have ih0:=impl_CloseSpace.mono_l k
 unfold impl_CloseSpace.f
 repeat' first
   | (with_reducible exact ih0 _ _ _ _ _ _)
   | (with_reducible exact impl_GoodSpace.mono _ _ _ _ _)
   | (with_reducible exact impl_Space_close.mono _ _ _ _ _ _)
   | (with_reducible exact LeO.refl _)
   | (with_reducible exact LeO.none _)
   | (with_reducible refine LeO.ite ?_ ?_)
   | (with_reducible refine LeO.bind ?_ (fun _=>?_))
   | exact ih0 _ _ _ _ _ _
   | exact impl_GoodSpace.mono _ _ _ _ _
   | exact impl_Space_close.mono _ _ _ _ _ _
   | exact LeO.none _
   | refine LeO.ite ?_ ?_
   | refine LeO.bind ?_ (fun _=>?_)
set_option maxHeartbeats 8000000 in
set_option maxRecDepth 100000 in
theorem impl_CloseSpace.calls (k : Nat) (A0_0 : Option Addr) (c0_0 : Nat) (l0_0 : List (List Int)) (A0_1 : Option Addr) (c0_1 : Nat) (l0_1 : List Int) (A0_2 : Option Addr) (c0_2 : Nat) (l0_2 : List Int) (A0_3 : Option Addr) (c0_3 : Nat) (l0_3 : List Int) (A1 : Option Addr) (c1 : Nat) (l1 : List Int) (r1 : List (S91)) (r2 : Bool) (w : World) (hr0_0 : Kd.C (Kd.slice 5 (Kd.int .u8)) w A0_0 l0_0.length l0_0) (hc0_0 : l0_0.length ≤ c0_0) (hr0_1 : Kd.C (Kd.int .u8) w A0_1 l0_1.length l0_1) (hc0_1 : l0_1.length ≤ c0_1) (hr0_2 : Kd.C (Kd.int .i64) w A0_2 l0_2.length l0_2) (hc0_2 : l0_2.length ≤ c0_2) (hr0_3 : Kd.C (Kd.int .i64) w A0_3 l0_3.length l0_3) (hc0_3 : l0_3.length ≤ c0_3) (hr1 : Kd.C (Kd.int .u8) w A1 l1.length l1) (hc1 : l1.length ≤ c1) (h : impl_CloseSpace.f k l0_0 l0_1 l0_2 l0_3 l1 = some (r1,r2)) :
  Calls Try.prog 38 #[.agg #[.slice A0_0 l0_0.length c0_0,.slice A0_1 l0_1.length c0_1,.slice A0_2 l0_2.length c0_2,.slice A0_3 l0_3.length c0_3],.slice A1 l1.length c1] w fun e w'=>∃ v0_ : Value,e = .returned (.tuple #[v0_,.bool r2])∧Kd.S k91 91 w' w.heap.size (fun _=>True) v0_ r1∧Below w.heap.size w w':=by
 have hu29:=Try.underlying29
 have HR0_0:=Aside0.mk hr0_0
 have HC0_0:=Aside0.mk hc0_0
 clear hr0_0 hc0_0
 have HR0_1:=Aside0.mk hr0_1
 have HC0_1:=Aside0.mk hc0_1
 clear hr0_1 hc0_1
 have HR0_2:=Aside0.mk hr0_2
 have HC0_2:=Aside0.mk hc0_2
 clear hr0_2 hc0_2
 have HR0_3:=Aside0.mk hr0_3
 have HC0_3:=Aside0.mk hc0_3
 clear hr0_3 hc0_3
 have HR1:=Aside0.mk hr1
 have HC1:=Aside0.mk hc1
 clear hr1 hc1
 have HB:=Aside0.mk (Below.refl w.heap.size w)
 have H : ((impl_GoodSpace.f k l0_0 l0_1 l0_2 l0_3).bind fun t268=>(if t268 = true then (impl_CloseSpace.j0 k l1 ((l1.length : Int) != 128) l0_0 l0_1 l0_2 l0_3) else (impl_CloseSpace.j0 k l1 true l0_0 l0_1 l0_2 l0_3))) = some (r1,r2):=h
 clear h
 have HC3:=Aside0.mk H
 clear H
 go_enter Try.func38,Try.ntmps38
 go_upto_region 1 with (first|((with_reducible refine gate_dst (N:=2) rfl ?_);(try (refine gate_guard (by rfl) ?_;dsimp only));refine box_event ?hg (N:=2) ?hd (cs:=#[.slice A0_0 l0_0.length c0_0,.slice A0_1 l0_1.length c0_1,.slice A0_2 l0_2.length c0_2,.slice A0_3 l0_3.length c0_3]) (t:=29) ?hr ?_;(case hd=>rfl);(case hg=>rfl);(case hr=>first|(go_simp;done)|(go_simp;rfl));intro gb267 hg w4 hbox hb;have n0_:=Aside0.mk (below_step (by repeat (first|exact HB.out|apply below_alloc|apply pw_below_drewN|apply below_drew1)) hb);have n1_:=Aside0.mk (hbox);have n2_:=Aside0.mk ((by rw [hg];exact (below_size (by repeat (first|exact HB.out|apply below_alloc|apply pw_below_drewN|apply below_drew1))) : w.heap.size ≤ gb267));have n3_:=Aside0.mk ((by rw [hg];exact (below_size (by repeat (first|exact HB.out|apply below_alloc|apply pw_below_drewN|apply below_drew1))) : w.heap.size ≤ gb267));clear HB;have HB:=n0_;have BK267:=n1_;have GW267:=n2_;have GE267:=n3_;clear n0_ n1_ n2_ n3_;clear hb hbox hg))
 (try simp only [Act.put,List.setIfInBounds_toArray,List.set_cons_zero,List.set_cons_succ])
 go_cut [15] (fun v15 wc=>∃ (kq : Nat) (x15_2 : Bool),v15 = .bool x15_2∧Aside0 (impl_CloseSpace.j0 kq l1 x15_2 l0_0 l0_1 l0_2 l0_3 = some (r1,r2))∧Aside0 (kq ≤ k)∧Aside0 (wc.heap[gb267]? = some (.cells #[(.slice A0_0 l0_0.length c0_0),(.slice A0_1 l0_1.length c0_1),(.slice A0_2 l0_2.length c0_2),(.slice A0_3 l0_3.length c0_3)] 29 (0,0)))∧Aside0 (Below w.heap.size w wc))
 case first =>
  have H:=HC3.out
  clear HC3
  replace H:=Option.bind_eq_some_iff.mp H
  obtain ⟨t268,A50,H⟩:=H
  replace H : (if t268 = true then (impl_CloseSpace.j0 k l1 ((l1.length : Int) != 128) l0_0 l0_1 l0_2 l0_3) else (impl_CloseSpace.j0 k l1 true l0_0 l0_1 l0_2 l0_3)) = some (r1,r2):=H
  have A5:=Aside0.mk A50
  clear A50
  by_cases c6 : t268 = true
  ·subst c6
   have H1 : (impl_CloseSpace.j0 k l1 ((l1.length : Int) != 128) l0_0 l0_1 l0_2 l0_3) = some (r1,r2):=by rw [if_pos rfl] at H;exact H
   clear H
   have H:=H1
   clear H1
   have H':=Aside0.mk H
   clear H
   have hcz7_0 : w4.cell? ⟨gb267,0,none⟩ = some (.slice A0_0 l0_0.length c0_0):=(blk_cell BK267.out 0).trans rfl
   have hcz7_1 : w4.cell? ⟨gb267,1,none⟩ = some (.slice A0_1 l0_1.length c0_1):=(blk_cell BK267.out 1).trans rfl
   have hcz7_2 : w4.cell? ⟨gb267,2,none⟩ = some (.slice A0_2 l0_2.length c0_2):=(blk_cell BK267.out 2).trans rfl
   have hcz7_3 : w4.cell? ⟨gb267,3,none⟩ = some (.slice A0_3 l0_3.length c0_3):=(blk_cell BK267.out 3).trans rfl
   have hfz7_0:=blk_frozen BK267.out 0
   have hfz7_1:=blk_frozen BK267.out 1
   have hfz7_2:=blk_frozen BK267.out 2
   have hfz7_3:=blk_frozen BK267.out 3
   go_wp2_with (first|((with_reducible refine gate_callee (f:=13) rfl ?_);refine goesL_ (some 9) rfl rfl Try.func13 (by kernel_rfl) rfl #[.agg #[.slice A0_0 l0_0.length c0_0,.slice A0_1 l0_1.length c0_1,.slice A0_2 l0_2.length c0_2,.slice A0_3 l0_3.length c0_3]] rfl (by (try simp only [List.map_toArray,List.map_cons,List.map_nil]);first|done|rfl|(simp only [List.length_drop,List.length_take];rfl)) ?_;(with_reducible refine (impl_GoodSpace.calls k _ _ l0_0 _ _ l0_1 _ _ l0_2 _ _ l0_3 true _ ?side1 ?side2 ?side3 ?side4 ?side5 ?side6 ?side7 ?side8 A5.out).mono ?_);(case side1=>repeat (first|exact (Kd.C_below HR0_0.out HB.out)|(with_reducible first|apply Kd.C_alloc|apply Kd.C_drewN|apply Kd.C_drew)));(case side2=>exact HC0_0.out);(case side3=>repeat (first|exact (Kd.C_below HR0_1.out HB.out)|(with_reducible first|apply Kd.C_alloc|apply Kd.C_drewN|apply Kd.C_drew)));(case side4=>exact HC0_1.out);(case side5=>repeat (first|exact (Kd.C_below HR0_2.out HB.out)|(with_reducible first|apply Kd.C_alloc|apply Kd.C_drewN|apply Kd.C_drew)));(case side6=>exact HC0_2.out);(case side7=>repeat (first|exact (Kd.C_below HR0_3.out HB.out)|(with_reducible first|apply Kd.C_alloc|apply Kd.C_drewN|apply Kd.C_drew)));(case side8=>exact HC0_3.out);rintro e w8 ⟨rfl,hb⟩;refine ⟨_,rfl,?_⟩;have n0_:=Aside0.mk (blk_below (g:=gb267) (o:=.cells #[.slice A0_0 l0_0.length c0_0,.slice A0_1 l0_1.length c0_1,.slice A0_2 l0_2.length c0_2,.slice A0_3 l0_3.length c0_3] 29 (0,0)) (by (with_reducible repeat first|apply blk_drewN|apply blk_drew|apply blk_alloc);exact BK267.out) hb);have n1_:=Aside0.mk (below_step (by repeat (first|(with_reducible first|exact HB.out|apply below_alloc|apply pw_below_drewN|apply below_drew1|refine below_set ?_ GE267.out)|exact HB.out)) hb);clear BK267;clear HB;have BK267:=n0_;have HB:=n1_;clear n0_ n1_;(try clear hb);(try clear hb2);(try clear hk);(try clear hi)))
   go_meet
   case rel=>exact ⟨_,(((l1.length : Int) != 128)),(by first|rfl|(simp;done)|(simp [*];done)),H',⟨by first|omega|exact Nat.le_refl _⟩,⟨by (with_reducible repeat first|apply blk_drewN|apply blk_drew|apply blk_alloc);exact BK267.out⟩,⟨by repeat (first|(with_reducible first|exact HB.out|apply below_alloc|apply pw_below_drewN|apply below_drew1|refine below_set ?_ GE267.out)|exact HB.out)⟩⟩
  ·replace c6:=Bool.eq_false_iff.mpr c6
   subst c6
   have H1 : (impl_CloseSpace.j0 k l1 true l0_0 l0_1 l0_2 l0_3) = some (r1,r2):=by rw [if_neg (show ¬ (false = true) by decide)] at H;exact H
   clear H
   have H:=H1
   clear H1
   have H':=Aside0.mk H
   clear H
   have hcz9_0 : w4.cell? ⟨gb267,0,none⟩ = some (.slice A0_0 l0_0.length c0_0):=(blk_cell BK267.out 0).trans rfl
   have hcz9_1 : w4.cell? ⟨gb267,1,none⟩ = some (.slice A0_1 l0_1.length c0_1):=(blk_cell BK267.out 1).trans rfl
   have hcz9_2 : w4.cell? ⟨gb267,2,none⟩ = some (.slice A0_2 l0_2.length c0_2):=(blk_cell BK267.out 2).trans rfl
   have hcz9_3 : w4.cell? ⟨gb267,3,none⟩ = some (.slice A0_3 l0_3.length c0_3):=(blk_cell BK267.out 3).trans rfl
   have hfz9_0:=blk_frozen BK267.out 0
   have hfz9_1:=blk_frozen BK267.out 1
   have hfz9_2:=blk_frozen BK267.out 2
   have hfz9_3:=blk_frozen BK267.out 3
   go_wp2_with (first|((with_reducible refine gate_callee (f:=13) rfl ?_);refine goesL_ (some 9) rfl rfl Try.func13 (by kernel_rfl) rfl #[.agg #[.slice A0_0 l0_0.length c0_0,.slice A0_1 l0_1.length c0_1,.slice A0_2 l0_2.length c0_2,.slice A0_3 l0_3.length c0_3]] rfl (by (try simp only [List.map_toArray,List.map_cons,List.map_nil]);first|done|rfl|(simp only [List.length_drop,List.length_take];rfl)) ?_;(with_reducible refine (impl_GoodSpace.calls k _ _ l0_0 _ _ l0_1 _ _ l0_2 _ _ l0_3 false _ ?side1 ?side2 ?side3 ?side4 ?side5 ?side6 ?side7 ?side8 A5.out).mono ?_);(case side1=>repeat (first|exact (Kd.C_below HR0_0.out HB.out)|(with_reducible first|apply Kd.C_alloc|apply Kd.C_drewN|apply Kd.C_drew)));(case side2=>exact HC0_0.out);(case side3=>repeat (first|exact (Kd.C_below HR0_1.out HB.out)|(with_reducible first|apply Kd.C_alloc|apply Kd.C_drewN|apply Kd.C_drew)));(case side4=>exact HC0_1.out);(case side5=>repeat (first|exact (Kd.C_below HR0_2.out HB.out)|(with_reducible first|apply Kd.C_alloc|apply Kd.C_drewN|apply Kd.C_drew)));(case side6=>exact HC0_2.out);(case side7=>repeat (first|exact (Kd.C_below HR0_3.out HB.out)|(with_reducible first|apply Kd.C_alloc|apply Kd.C_drewN|apply Kd.C_drew)));(case side8=>exact HC0_3.out);rintro e w10 ⟨rfl,hb⟩;refine ⟨_,rfl,?_⟩;have n0_:=Aside0.mk (blk_below (g:=gb267) (o:=.cells #[.slice A0_0 l0_0.length c0_0,.slice A0_1 l0_1.length c0_1,.slice A0_2 l0_2.length c0_2,.slice A0_3 l0_3.length c0_3] 29 (0,0)) (by (with_reducible repeat first|apply blk_drewN|apply blk_drew|apply blk_alloc);exact BK267.out) hb);have n1_:=Aside0.mk (below_step (by repeat (first|(with_reducible first|exact HB.out|apply below_alloc|apply pw_below_drewN|apply below_drew1|refine below_set ?_ GE267.out)|exact HB.out)) hb);clear BK267;clear HB;have BK267:=n0_;have HB:=n1_;clear n0_ n1_;(try clear hb);(try clear hb2);(try clear hk);(try clear hi)))
   go_meet
   case rel=>exact ⟨_,(true),(by first|rfl|(simp;done)|(simp [*];done)),H',⟨by first|omega|exact Nat.le_refl _⟩,⟨by (with_reducible repeat first|apply blk_drewN|apply blk_drew|apply blk_alloc);exact BK267.out⟩,⟨by repeat (first|(with_reducible first|exact HB.out|apply below_alloc|apply pw_below_drewN|apply below_drew1|refine below_set ?_ GE267.out)|exact HB.out)⟩⟩
 case rest =>
  clear HC3
  try clear c1;try clear p2;try clear c3;try clear c6;try clear hcz7_0;try clear hcz7_1;try clear hcz7_2;try clear hcz7_3;try clear hcz9_0;try clear hcz9_1;try clear hcz9_2;try clear hcz9_3;try clear hfz7_0;try clear hfz7_1;try clear hfz7_2;try clear hfz7_3;try clear hfz9_0;try clear hfz9_1;try clear hfz9_2;try clear hfz9_3
  obtain ⟨kq,x15_2,rfl,HA,HJ2,BK267,HB⟩:=hcut
  cases kq with
  | zero=>exact absurd HA.out (by simp [impl_CloseSpace.j0])
  | succ kj2 =>
   have H:=HA.out
   clear HA
   simp only [impl_CloseSpace.j0] at H
   by_cases c11 : x15_2 = true
   ·subst c11
    have H1 : (some (([] : List (S91)),false)) = some (r1,r2):=by rw [if_pos rfl] at H;exact H
    clear H
    have H:=H1
    clear H1
    simp only [Option.some.injEq,Prod.mk.injEq] at H
    obtain ⟨rfl,rfl⟩:=H
    go_wp2
    go_ret2
    exact ⟨_,by first|rfl|(simp [*,errW_none,errW_some] <;> rfl),by first|exact Kd.S_nil _ _ _ _ _|exact Kd.N_nil _ _ _ _ _|exact Kd.V_nil _ _ _ _ _|exact Kd.Q_nil _ _ _ _ _|exact Kd.R_nil _ _ _ _ _,by repeat (first|(with_reducible first|exact HB.out|apply below_alloc|apply pw_below_drewN|apply below_drew1|refine below_set ?_ GE267.out)|exact HB.out)⟩
   ·replace c11:=Bool.eq_false_iff.mpr c11
    subst c11
    have H1 : ((impl_Space_close.f kj2 l0_0 l0_1 l0_2 l0_3 l1).bind fun bt269=>(if bt269.2 = true then (some (bt269.1,true)) else (some (([] : List (S91)),false)))) = some (r1,r2):=by rw [if_neg (show ¬ (false = true) by decide)] at H;exact H
    clear H
    have H:=H1
    clear H1
    replace H:=Option.bind_eq_some_iff.mp H
    obtain ⟨⟨t269,t272⟩,A120,H⟩:=H
    replace H : (if t272 = true then (some (t269,true)) else (some (([] : List (S91)),false))) = some (r1,r2):=H
    have A12:=Aside0.mk A120
    clear A120
    by_cases c13 : t272 = true
    ·subst c13
     have H1 : (some (t269,true)) = some (r1,r2):=by rw [if_pos rfl] at H;exact H
     clear H
     have H:=H1
     clear H1
     simp only [Option.some.injEq,Prod.mk.injEq] at H
     obtain ⟨rfl,rfl⟩:=H
     go_wp2_with (first|((with_reducible refine gate_callee (f:=74) rfl ?_);refine goesL_ (some 18) rfl rfl Try.func74 (by kernel_rfl) rfl #[.pointer (some ⟨gb267,0,none⟩),.slice A1 l1.length c1] rfl (by (try simp only [List.map_toArray,List.map_cons,List.map_nil]);first|done|rfl|(simp only [List.length_drop,List.length_take];rfl)) ?_;(with_reducible refine (impl_Space_close.calls kj2 gb267 A0_0 c0_0 l0_0 A0_1 c0_1 l0_1 A0_2 c0_2 l0_2 A0_3 c0_3 l0_3 _ _ l1 t269 true _ ?side1 ?side2 ?side3 ?side4 ?side5 ?side6 ?side7 ?side8 ?side9 ?side10 ?side11 A12.out).mono ?_);(case side1=>exact by (with_reducible repeat first|apply blk_drewN|apply blk_drew|apply blk_alloc);exact BK267.out);(case side2=>repeat (first|exact (Kd.C_below HR0_0.out HB.out)|(with_reducible first|apply Kd.C_alloc|apply Kd.C_drewN|apply Kd.C_drew)));(case side3=>exact HC0_0.out);(case side4=>repeat (first|exact (Kd.C_below HR0_1.out HB.out)|(with_reducible first|apply Kd.C_alloc|apply Kd.C_drewN|apply Kd.C_drew)));(case side5=>exact HC0_1.out);(case side6=>repeat (first|exact (Kd.C_below HR0_2.out HB.out)|(with_reducible first|apply Kd.C_alloc|apply Kd.C_drewN|apply Kd.C_drew)));(case side7=>exact HC0_2.out);(case side8=>repeat (first|exact (Kd.C_below HR0_3.out HB.out)|(with_reducible first|apply Kd.C_alloc|apply Kd.C_drewN|apply Kd.C_drew)));(case side9=>exact HC0_3.out);(case side10=>repeat (first|exact (Kd.C_below HR1.out HB.out)|(with_reducible first|apply Kd.C_alloc|apply Kd.C_drewN|apply Kd.C_drew)));(case side11=>exact HC1.out);rintro e w14 ⟨v270,rfl,ho0,hb⟩;refine ⟨_,rfl,?_⟩;have n0_:=Aside0.mk (Kd.S_lower ho0 (below_size (by repeat (first|(with_reducible first|exact HB.out|apply below_alloc|apply pw_below_drewN|apply below_drew1|refine below_set ?_ GE267.out)|exact HB.out))));have n1_:=Aside0.mk (blk_below (g:=gb267) (o:=.cells #[.slice A0_0 l0_0.length c0_0,.slice A0_1 l0_1.length c0_1,.slice A0_2 l0_2.length c0_2,.slice A0_3 l0_3.length c0_3] 29 (0,0)) (by (with_reducible repeat first|apply blk_drewN|apply blk_drew|apply blk_alloc);exact BK267.out) hb);have n2_:=Aside0.mk (below_step (by repeat (first|(with_reducible first|exact HB.out|apply below_alloc|apply pw_below_drewN|apply below_drew1|refine below_set ?_ GE267.out)|exact HB.out)) hb);clear BK267;clear HB;have HO271:=n0_;have BK267:=n1_;have HB:=n2_;clear n0_ n1_ n2_;(try clear hb);(try clear hb2);(try clear hk);(try clear hi);(try clear ho0)))
     go_ret2
     exact ⟨_,by first|rfl|(simp [*,errW_none,errW_some] <;> rfl),by (with_reducible repeat (first|apply Kd.S_alloc|apply Kd.S_drewN|apply Kd.S_drew));exact HO271.out,by repeat (first|(with_reducible first|exact HB.out|apply below_alloc|apply pw_below_drewN|apply below_drew1|refine below_set ?_ GE267.out)|exact HB.out)⟩
    ·replace c13:=Bool.eq_false_iff.mpr c13
     subst c13
     have H1 : (some (([] : List (S91)),false)) = some (r1,r2):=by rw [if_neg (show ¬ (false = true) by decide)] at H;exact H
     clear H
     have H:=H1
     clear H1
     simp only [Option.some.injEq,Prod.mk.injEq] at H
     obtain ⟨rfl,rfl⟩:=H
     go_wp2_with (first|((with_reducible refine gate_callee (f:=74) rfl ?_);refine goesL_ (some 18) rfl rfl Try.func74 (by kernel_rfl) rfl #[.pointer (some ⟨gb267,0,none⟩),.slice A1 l1.length c1] rfl (by (try simp only [List.map_toArray,List.map_cons,List.map_nil]);first|done|rfl|(simp only [List.length_drop,List.length_take];rfl)) ?_;(with_reducible refine (impl_Space_close.calls kj2 gb267 A0_0 c0_0 l0_0 A0_1 c0_1 l0_1 A0_2 c0_2 l0_2 A0_3 c0_3 l0_3 _ _ l1 t269 false _ ?side1 ?side2 ?side3 ?side4 ?side5 ?side6 ?side7 ?side8 ?side9 ?side10 ?side11 A12.out).mono ?_);(case side1=>exact by (with_reducible repeat first|apply blk_drewN|apply blk_drew|apply blk_alloc);exact BK267.out);(case side2=>repeat (first|exact (Kd.C_below HR0_0.out HB.out)|(with_reducible first|apply Kd.C_alloc|apply Kd.C_drewN|apply Kd.C_drew)));(case side3=>exact HC0_0.out);(case side4=>repeat (first|exact (Kd.C_below HR0_1.out HB.out)|(with_reducible first|apply Kd.C_alloc|apply Kd.C_drewN|apply Kd.C_drew)));(case side5=>exact HC0_1.out);(case side6=>repeat (first|exact (Kd.C_below HR0_2.out HB.out)|(with_reducible first|apply Kd.C_alloc|apply Kd.C_drewN|apply Kd.C_drew)));(case side7=>exact HC0_2.out);(case side8=>repeat (first|exact (Kd.C_below HR0_3.out HB.out)|(with_reducible first|apply Kd.C_alloc|apply Kd.C_drewN|apply Kd.C_drew)));(case side9=>exact HC0_3.out);(case side10=>repeat (first|exact (Kd.C_below HR1.out HB.out)|(with_reducible first|apply Kd.C_alloc|apply Kd.C_drewN|apply Kd.C_drew)));(case side11=>exact HC1.out);rintro e w15 ⟨v270,rfl,ho0,hb⟩;refine ⟨_,rfl,?_⟩;have n0_:=Aside0.mk (Kd.S_lower ho0 (below_size (by repeat (first|(with_reducible first|exact HB.out|apply below_alloc|apply pw_below_drewN|apply below_drew1|refine below_set ?_ GE267.out)|exact HB.out))));have n1_:=Aside0.mk (blk_below (g:=gb267) (o:=.cells #[.slice A0_0 l0_0.length c0_0,.slice A0_1 l0_1.length c0_1,.slice A0_2 l0_2.length c0_2,.slice A0_3 l0_3.length c0_3] 29 (0,0)) (by (with_reducible repeat first|apply blk_drewN|apply blk_drew|apply blk_alloc);exact BK267.out) hb);have n2_:=Aside0.mk (below_step (by repeat (first|(with_reducible first|exact HB.out|apply below_alloc|apply pw_below_drewN|apply below_drew1|refine below_set ?_ GE267.out)|exact HB.out)) hb);clear BK267;clear HB;have HO271:=n0_;have BK267:=n1_;have HB:=n2_;clear n0_ n1_ n2_;(try clear hb);(try clear hb2);(try clear hk);(try clear hi);(try clear ho0)))
     go_ret2
     exact ⟨_,by first|rfl|(simp [*,errW_none,errW_some] <;> rfl),by first|exact Kd.S_nil _ _ _ _ _|exact Kd.N_nil _ _ _ _ _|exact Kd.V_nil _ _ _ _ _|exact Kd.Q_nil _ _ _ _ _|exact Kd.R_nil _ _ _ _ _,by repeat (first|(with_reducible first|exact HB.out|apply below_alloc|apply pw_below_drewN|apply below_drew1|refine below_set ?_ GE267.out)|exact HB.out)⟩

/-! ### laws_eqWrite: function 75 -/
def laws_eqWrite.f (k : Nat) (a0_0 : Int) (l0_1 : List Int) (a1_0 : Int) (l1_1 : List Int) : Option (Bool):=if a0_0 = a1_0 then ((laws_eqByteS.f k l0_1 l1_1).bind fun t275=>(if t275 = true then (some true) else (some false))) else (some false)
theorem laws_eqWrite.mono : ∀ a0 a1 a2 a3 k,LeO (laws_eqWrite.f k a0 a1 a2 a3) (laws_eqWrite.f (k + 1) a0 a1 a2 a3):=by
 intro a0 a1 a2 a3 k
 unfold laws_eqWrite.f
 repeat' first
   | (with_reducible exact laws_eqByteS.mono _ _ _)
   | (with_reducible exact LeO.refl _)
   | (with_reducible exact LeO.none _)
   | (with_reducible refine LeO.ite ?_ ?_)
   | (with_reducible refine LeO.bind ?_ (fun _=>?_))
   | exact laws_eqByteS.mono _ _ _
   | exact LeO.none _
   | refine LeO.ite ?_ ?_
   | refine LeO.bind ?_ (fun _=>?_)
set_option maxHeartbeats 8000000 in
set_option maxRecDepth 100000 in
theorem laws_eqWrite.calls (k : Nat) (a0_0 : Int) (A0_1 : Option Addr) (c0_1 : Nat) (l0_1 : List Int) (a1_0 : Int) (A1_1 : Option Addr) (c1_1 : Nat) (l1_1 : List Int) (r : Bool) (w : World) (hr0_1 : Kd.C (Kd.int .u8) w A0_1 l0_1.length l0_1) (hc0_1 : l0_1.length ≤ c0_1) (hr1_1 : Kd.C (Kd.int .u8) w A1_1 l1_1.length l1_1) (hc1_1 : l1_1.length ≤ c1_1) (h : laws_eqWrite.f k a0_0 l0_1 a1_0 l1_1 = some r) :
  Calls Try.prog 75 #[.agg #[.int .i64 a0_0,.slice A0_1 l0_1.length c0_1],.agg #[.int .i64 a1_0,.slice A1_1 l1_1.length c1_1]] w fun e w'=>e = .returned (.bool r)∧Below w.heap.size w w':=by
 have hu91:=Try.underlying91
 have HR0_1:=Aside0.mk hr0_1
 have HC0_1:=Aside0.mk hc0_1
 clear hr0_1 hc0_1
 have HR1_1:=Aside0.mk hr1_1
 have HC1_1:=Aside0.mk hc1_1
 clear hr1_1 hc1_1
 have HB:=Aside0.mk (Below.refl w.heap.size w)
 have H : (if a0_0 = a1_0 then ((laws_eqByteS.f k l0_1 l1_1).bind fun t275=>(if t275 = true then (some true) else (some false))) else (some false)) = some r:=h
 clear h
 by_cases c3 : a0_0 = a1_0
 ·rw [if_pos c3] at H
  have c3b0 : (a0_0 == a1_0) = true:=beq_iff_eq.mpr c3
  have c3b1 : (a0_0 != a1_0) = false:=bne_eq_false_iff_eq.mpr c3
  clear c3
  replace H:=Option.bind_eq_some_iff.mp H
  obtain ⟨t275,A40,H⟩:=H
  replace H : (if t275 = true then (some true) else (some false)) = some r:=H
  have A4:=Aside0.mk A40
  clear A40
  by_cases c5 : t275 = true
  ·subst c5
   have H1 : (some true) = some r:=by rw [if_pos rfl] at H;exact H
   clear H
   have H:=H1
   clear H1
   obtain rfl:=Option.some.inj H
   go_enter Try.func75,Try.ntmps75
   go_wp2_with (first|((with_reducible refine gate_dst (N:=2) rfl ?_);refine box_event ?hg (N:=2) ?hd (cs:=#[.int .i64 a0_0,.slice A0_1 l0_1.length c0_1]) (t:=91) ?hr ?_;(case hd=>rfl);(case hg=>rfl);(case hr=>first|(go_simp;done)|(go_simp;rfl));intro gb273 hg w6 hbox hb;have n0_:=Aside0.mk (below_step (by repeat (first|exact HB.out|apply below_alloc|apply pw_below_drewN|apply below_drew1)) hb);have n1_:=Aside0.mk (hbox);have n2_:=Aside0.mk ((by rw [hg];exact (below_size (by repeat (first|exact HB.out|apply below_alloc|apply pw_below_drewN|apply below_drew1))) : w.heap.size ≤ gb273));have n3_:=Aside0.mk ((by rw [hg];exact (below_size (by repeat (first|exact HB.out|apply below_alloc|apply pw_below_drewN|apply below_drew1))) : w.heap.size ≤ gb273));clear HB;have HB:=n0_;have BK273:=n1_;have GW273:=n2_;have GE273:=n3_;clear n0_ n1_ n2_ n3_;clear hb hbox hg)|((with_reducible refine gate_dst (N:=3) rfl ?_);refine box_event ?hg (N:=3) ?hd (cs:=#[.int .i64 a1_0,.slice A1_1 l1_1.length c1_1]) (t:=91) ?hr ?_;(case hd=>rfl);(case hg=>rfl);(case hr=>first|(go_simp;done)|(go_simp;rfl));intro gb274 hg w7 hbox hb;have n0_:=Aside0.mk (blk_below (g:=gb273) (o:=.cells #[.int .i64 a0_0,.slice A0_1 l0_1.length c0_1] 91 (0,0)) (by (with_reducible repeat first|apply blk_drewN|apply blk_drew|apply blk_alloc);exact BK273.out) hb);have n1_:=Aside0.mk (below_step (by repeat (first|(with_reducible first|exact HB.out|apply below_alloc|apply pw_below_drewN|apply below_drew1|refine below_set ?_ GE273.out)|exact HB.out)) hb);have n2_:=Aside0.mk (hbox);have n3_:=Aside0.mk ((by rw [hg];exact (below_size (by repeat (first|(with_reducible first|exact HB.out|apply below_alloc|apply pw_below_drewN|apply below_drew1|refine below_set ?_ GE273.out)|exact HB.out))) : w.heap.size ≤ gb274));have n4_:=Aside0.mk ((by rw [hg];exact (below_size (by repeat (first|(with_reducible first|exact HB.out|apply below_alloc|apply pw_below_drewN|apply below_drew1|refine below_set ?_ GE273.out)|exact HB.out))) : w.heap.size ≤ gb274));have n5_:=Aside0.mk ((by rw [hg];exact Nat.ne_of_lt (blk_lt (g:=gb273) (o:=.cells #[.int .i64 a0_0,.slice A0_1 l0_1.length c0_1] 91 (0,0)) (by (with_reducible repeat first|apply blk_drewN|apply blk_drew|apply blk_alloc);exact BK273.out)) : gb273 ≠ gb274));have n6_:=Aside0.mk ((by rw [hg];exact Nat.ne_of_gt (blk_lt (g:=gb273) (o:=.cells #[.int .i64 a0_0,.slice A0_1 l0_1.length c0_1] 91 (0,0)) (by (with_reducible repeat first|apply blk_drewN|apply blk_drew|apply blk_alloc);exact BK273.out)) : gb274 ≠ gb273));clear BK273;clear HB;have BK273:=n0_;have HB:=n1_;have BK274:=n2_;have GW274:=n3_;have GE274:=n4_;have NB273_274:=n5_;have NB274_273:=n6_;clear n0_ n1_ n2_ n3_ n4_ n5_ n6_;clear hb hbox hg;have hnb8:=NB273_274.out;have hnc8:=NB274_273.out;have hcz9_0 : w7.cell? ⟨gb273,0,none⟩ = some (.int .i64 a0_0):=(blk_cell BK273.out 0).trans rfl;have hcz9_1 : w7.cell? ⟨gb273,1,none⟩ = some (.slice A0_1 l0_1.length c0_1):=(blk_cell BK273.out 1).trans rfl;have hfz9_0:=blk_frozen BK273.out 0;have hfz9_1:=blk_frozen BK273.out 1;have hcz10_0 : w7.cell? ⟨gb274,0,none⟩ = some (.int .i64 a1_0):=(blk_cell BK274.out 0).trans rfl;have hcz10_1 : w7.cell? ⟨gb274,1,none⟩ = some (.slice A1_1 l1_1.length c1_1):=(blk_cell BK274.out 1).trans rfl;have hfz10_0:=blk_frozen BK274.out 0;have hfz10_1:=blk_frozen BK274.out 1)|((with_reducible refine gate_callee (f:=33) rfl ?_);refine goesL_ (some 14) rfl rfl Try.func33 (by kernel_rfl) rfl #[.slice A0_1 l0_1.length c0_1,.slice A1_1 l1_1.length c1_1] rfl (by (try simp only [List.map_toArray,List.map_cons,List.map_nil]);first|done|rfl|(simp only [List.length_drop,List.length_take];rfl)) ?_;(with_reducible refine (laws_eqByteS.calls k _ _ l0_1 _ _ l1_1 true _ ?side1 ?side2 ?side3 ?side4 A4.out).mono ?_);(case side1=>repeat (first|exact (Kd.C_below HR0_1.out HB.out)|(with_reducible first|apply Kd.C_alloc|apply Kd.C_drewN|apply Kd.C_drew)));(case side2=>exact HC0_1.out);(case side3=>repeat (first|exact (Kd.C_below HR1_1.out HB.out)|(with_reducible first|apply Kd.C_alloc|apply Kd.C_drewN|apply Kd.C_drew)));(case side4=>exact HC1_1.out);rintro e w' ⟨rfl,⟨nd,rfl⟩⟩;refine ⟨_,rfl,?_⟩))
   go_ret
   exact ⟨by first|rfl|(simp [*,errW_none,errW_some] <;> rfl),by repeat (first|(with_reducible first|exact HB.out|apply below_alloc|apply pw_below_drewN|apply below_drew1|refine below_set ?_ GE273.out|refine below_set ?_ GE274.out)|exact HB.out)⟩
  ·replace c5:=Bool.eq_false_iff.mpr c5
   subst c5
   have H1 : (some false) = some r:=by rw [if_neg (show ¬ (false = true) by decide)] at H;exact H
   clear H
   have H:=H1
   clear H1
   obtain rfl:=Option.some.inj H
   go_enter Try.func75,Try.ntmps75
   go_wp2_with (first|((with_reducible refine gate_dst (N:=2) rfl ?_);refine box_event ?hg (N:=2) ?hd (cs:=#[.int .i64 a0_0,.slice A0_1 l0_1.length c0_1]) (t:=91) ?hr ?_;(case hd=>rfl);(case hg=>rfl);(case hr=>first|(go_simp;done)|(go_simp;rfl));intro gb273 hg w11 hbox hb;have n0_:=Aside0.mk (below_step (by repeat (first|exact HB.out|apply below_alloc|apply pw_below_drewN|apply below_drew1)) hb);have n1_:=Aside0.mk (hbox);have n2_:=Aside0.mk ((by rw [hg];exact (below_size (by repeat (first|exact HB.out|apply below_alloc|apply pw_below_drewN|apply below_drew1))) : w.heap.size ≤ gb273));have n3_:=Aside0.mk ((by rw [hg];exact (below_size (by repeat (first|exact HB.out|apply below_alloc|apply pw_below_drewN|apply below_drew1))) : w.heap.size ≤ gb273));clear HB;have HB:=n0_;have BK273:=n1_;have GW273:=n2_;have GE273:=n3_;clear n0_ n1_ n2_ n3_;clear hb hbox hg)|((with_reducible refine gate_dst (N:=3) rfl ?_);refine box_event ?hg (N:=3) ?hd (cs:=#[.int .i64 a1_0,.slice A1_1 l1_1.length c1_1]) (t:=91) ?hr ?_;(case hd=>rfl);(case hg=>rfl);(case hr=>first|(go_simp;done)|(go_simp;rfl));intro gb274 hg w12 hbox hb;have n0_:=Aside0.mk (blk_below (g:=gb273) (o:=.cells #[.int .i64 a0_0,.slice A0_1 l0_1.length c0_1] 91 (0,0)) (by (with_reducible repeat first|apply blk_drewN|apply blk_drew|apply blk_alloc);exact BK273.out) hb);have n1_:=Aside0.mk (below_step (by repeat (first|(with_reducible first|exact HB.out|apply below_alloc|apply pw_below_drewN|apply below_drew1|refine below_set ?_ GE273.out)|exact HB.out)) hb);have n2_:=Aside0.mk (hbox);have n3_:=Aside0.mk ((by rw [hg];exact (below_size (by repeat (first|(with_reducible first|exact HB.out|apply below_alloc|apply pw_below_drewN|apply below_drew1|refine below_set ?_ GE273.out)|exact HB.out))) : w.heap.size ≤ gb274));have n4_:=Aside0.mk ((by rw [hg];exact (below_size (by repeat (first|(with_reducible first|exact HB.out|apply below_alloc|apply pw_below_drewN|apply below_drew1|refine below_set ?_ GE273.out)|exact HB.out))) : w.heap.size ≤ gb274));have n5_:=Aside0.mk ((by rw [hg];exact Nat.ne_of_lt (blk_lt (g:=gb273) (o:=.cells #[.int .i64 a0_0,.slice A0_1 l0_1.length c0_1] 91 (0,0)) (by (with_reducible repeat first|apply blk_drewN|apply blk_drew|apply blk_alloc);exact BK273.out)) : gb273 ≠ gb274));have n6_:=Aside0.mk ((by rw [hg];exact Nat.ne_of_gt (blk_lt (g:=gb273) (o:=.cells #[.int .i64 a0_0,.slice A0_1 l0_1.length c0_1] 91 (0,0)) (by (with_reducible repeat first|apply blk_drewN|apply blk_drew|apply blk_alloc);exact BK273.out)) : gb274 ≠ gb273));clear BK273;clear HB;have BK273:=n0_;have HB:=n1_;have BK274:=n2_;have GW274:=n3_;have GE274:=n4_;have NB273_274:=n5_;have NB274_273:=n6_;clear n0_ n1_ n2_ n3_ n4_ n5_ n6_;clear hb hbox hg;have hnb13:=NB273_274.out;have hnc13:=NB274_273.out;have hcz14_0 : w12.cell? ⟨gb273,0,none⟩ = some (.int .i64 a0_0):=(blk_cell BK273.out 0).trans rfl;have hcz14_1 : w12.cell? ⟨gb273,1,none⟩ = some (.slice A0_1 l0_1.length c0_1):=(blk_cell BK273.out 1).trans rfl;have hfz14_0:=blk_frozen BK273.out 0;have hfz14_1:=blk_frozen BK273.out 1;have hcz15_0 : w12.cell? ⟨gb274,0,none⟩ = some (.int .i64 a1_0):=(blk_cell BK274.out 0).trans rfl;have hcz15_1 : w12.cell? ⟨gb274,1,none⟩ = some (.slice A1_1 l1_1.length c1_1):=(blk_cell BK274.out 1).trans rfl;have hfz15_0:=blk_frozen BK274.out 0;have hfz15_1:=blk_frozen BK274.out 1)|((with_reducible refine gate_callee (f:=33) rfl ?_);refine goesL_ (some 14) rfl rfl Try.func33 (by kernel_rfl) rfl #[.slice A0_1 l0_1.length c0_1,.slice A1_1 l1_1.length c1_1] rfl (by (try simp only [List.map_toArray,List.map_cons,List.map_nil]);first|done|rfl|(simp only [List.length_drop,List.length_take];rfl)) ?_;(with_reducible refine (laws_eqByteS.calls k _ _ l0_1 _ _ l1_1 false _ ?side1 ?side2 ?side3 ?side4 A4.out).mono ?_);(case side1=>repeat (first|exact (Kd.C_below HR0_1.out HB.out)|(with_reducible first|apply Kd.C_alloc|apply Kd.C_drewN|apply Kd.C_drew)));(case side2=>exact HC0_1.out);(case side3=>repeat (first|exact (Kd.C_below HR1_1.out HB.out)|(with_reducible first|apply Kd.C_alloc|apply Kd.C_drewN|apply Kd.C_drew)));(case side4=>exact HC1_1.out);rintro e w' ⟨rfl,⟨nd,rfl⟩⟩;refine ⟨_,rfl,?_⟩))
   go_ret
   exact ⟨by first|rfl|(simp [*,errW_none,errW_some] <;> rfl),by repeat (first|(with_reducible first|exact HB.out|apply below_alloc|apply pw_below_drewN|apply below_drew1|refine below_set ?_ GE273.out|refine below_set ?_ GE274.out)|exact HB.out)⟩
 ·rw [if_neg c3] at H
  have c3b0 : (a0_0 == a1_0) = false:=beq_eq_false_iff_ne.mpr c3
  have c3b1 : (a0_0 != a1_0) = true:=bne_iff_ne.mpr c3
  obtain rfl:=Option.some.inj H
  go_enter Try.func75,Try.ntmps75
  go_wp2_with (first|((with_reducible refine gate_dst (N:=2) rfl ?_);refine box_event ?hg (N:=2) ?hd (cs:=#[.int .i64 a0_0,.slice A0_1 l0_1.length c0_1]) (t:=91) ?hr ?_;(case hd=>rfl);(case hg=>rfl);(case hr=>first|(go_simp;done)|(go_simp;rfl));intro gb273 hg w16 hbox hb;have n0_:=Aside0.mk (below_step (by repeat (first|exact HB.out|apply below_alloc|apply pw_below_drewN|apply below_drew1)) hb);have n1_:=Aside0.mk (hbox);have n2_:=Aside0.mk ((by rw [hg];exact (below_size (by repeat (first|exact HB.out|apply below_alloc|apply pw_below_drewN|apply below_drew1))) : w.heap.size ≤ gb273));have n3_:=Aside0.mk ((by rw [hg];exact (below_size (by repeat (first|exact HB.out|apply below_alloc|apply pw_below_drewN|apply below_drew1))) : w.heap.size ≤ gb273));clear HB;have HB:=n0_;have BK273:=n1_;have GW273:=n2_;have GE273:=n3_;clear n0_ n1_ n2_ n3_;clear hb hbox hg)|((with_reducible refine gate_dst (N:=3) rfl ?_);refine box_event ?hg (N:=3) ?hd (cs:=#[.int .i64 a1_0,.slice A1_1 l1_1.length c1_1]) (t:=91) ?hr ?_;(case hd=>rfl);(case hg=>rfl);(case hr=>first|(go_simp;done)|(go_simp;rfl));intro gb274 hg w17 hbox hb;have n0_:=Aside0.mk (blk_below (g:=gb273) (o:=.cells #[.int .i64 a0_0,.slice A0_1 l0_1.length c0_1] 91 (0,0)) (by (with_reducible repeat first|apply blk_drewN|apply blk_drew|apply blk_alloc);exact BK273.out) hb);have n1_:=Aside0.mk (below_step (by repeat (first|(with_reducible first|exact HB.out|apply below_alloc|apply pw_below_drewN|apply below_drew1|refine below_set ?_ GE273.out)|exact HB.out)) hb);have n2_:=Aside0.mk (hbox);have n3_:=Aside0.mk ((by rw [hg];exact (below_size (by repeat (first|(with_reducible first|exact HB.out|apply below_alloc|apply pw_below_drewN|apply below_drew1|refine below_set ?_ GE273.out)|exact HB.out))) : w.heap.size ≤ gb274));have n4_:=Aside0.mk ((by rw [hg];exact (below_size (by repeat (first|(with_reducible first|exact HB.out|apply below_alloc|apply pw_below_drewN|apply below_drew1|refine below_set ?_ GE273.out)|exact HB.out))) : w.heap.size ≤ gb274));have n5_:=Aside0.mk ((by rw [hg];exact Nat.ne_of_lt (blk_lt (g:=gb273) (o:=.cells #[.int .i64 a0_0,.slice A0_1 l0_1.length c0_1] 91 (0,0)) (by (with_reducible repeat first|apply blk_drewN|apply blk_drew|apply blk_alloc);exact BK273.out)) : gb273 ≠ gb274));have n6_:=Aside0.mk ((by rw [hg];exact Nat.ne_of_gt (blk_lt (g:=gb273) (o:=.cells #[.int .i64 a0_0,.slice A0_1 l0_1.length c0_1] 91 (0,0)) (by (with_reducible repeat first|apply blk_drewN|apply blk_drew|apply blk_alloc);exact BK273.out)) : gb274 ≠ gb273));clear BK273;clear HB;have BK273:=n0_;have HB:=n1_;have BK274:=n2_;have GW274:=n3_;have GE274:=n4_;have NB273_274:=n5_;have NB274_273:=n6_;clear n0_ n1_ n2_ n3_ n4_ n5_ n6_;clear hb hbox hg;have hnb18:=NB273_274.out;have hnc18:=NB274_273.out;have hcz19_0 : w17.cell? ⟨gb273,0,none⟩ = some (.int .i64 a0_0):=(blk_cell BK273.out 0).trans rfl;have hcz19_1 : w17.cell? ⟨gb273,1,none⟩ = some (.slice A0_1 l0_1.length c0_1):=(blk_cell BK273.out 1).trans rfl;have hfz19_0:=blk_frozen BK273.out 0;have hfz19_1:=blk_frozen BK273.out 1;have hcz20_0 : w17.cell? ⟨gb274,0,none⟩ = some (.int .i64 a1_0):=(blk_cell BK274.out 0).trans rfl;have hcz20_1 : w17.cell? ⟨gb274,1,none⟩ = some (.slice A1_1 l1_1.length c1_1):=(blk_cell BK274.out 1).trans rfl;have hfz20_0:=blk_frozen BK274.out 0;have hfz20_1:=blk_frozen BK274.out 1))
  go_ret
  exact ⟨by first|rfl|(simp [*,errW_none,errW_some] <;> rfl),by repeat (first|(with_reducible first|exact HB.out|apply below_alloc|apply pw_below_drewN|apply below_drew1|refine below_set ?_ GE273.out|refine below_set ?_ GE274.out)|exact HB.out)⟩

end Go.Proofs.Ytlphbpaojcdjaaa.PFnExactCloseSpace
