-- Written by a program of this session over the print of the kit (wip/t/patch_print.py).
import Derived.Test.YtggnbbbhlnjleaaPFnExactRecordAtx0
import Derived.Test.YtggnbbbhlnjleaaPFnExactRecordAtx8
namespace Go.Proofs.Ytggnbbbhlnjleaa.PFnExactRecordAt
open Go.RowKit Go.Proofs.YtggnbbbhlnjleaaW.PrintWords Go.Proofs.YtggnbbbhlnjleaaW.PrintLast Go.Proofs.YtggnbbbhlnjleaaW.PrintMore
attribute [local go_sem] max2_int min2_int max_two min_two max_three min_three max_four min_four   -- for this text's walks alone
set_option linter.unusedVariables false
set_option linter.unusedSimpArgs false

/-! ### impl_Space_record: function 42 -/
mutual
def impl_Space_record.l0 : Nat → Int → List Int → List Int → List (List Int) → List Int → List Int → List Int → Option (List Int × List Int × Bool)
 | 0,_,_,_,_,_,_,_=>none
 | k + 1,x1,x7,x8,x1000,x1001,x1002,x1003=>(impl_Space_isHere.f k x1000 x1001 x1002 x1003 x1).bind fun t244=>(if t244 = true then ((slices_Contains_int_int.f k x8 x1).bind fun t245=>(if t245 = true then (impl_Space_record.j1 k x1 x7 x8 true x1000 x1001 x1002 x1003) else (impl_Space_record.j1 k x1 x7 x8 ((x8.length : Int) == 9) x1000 x1001 x1002 x1003))) else (impl_Space_record.j1 k x1 x7 x8 true x1000 x1001 x1002 x1003))
def impl_Space_record.j1 : Nat → Int → List Int → List Int → Bool → List (List Int) → List Int → List Int → List Int → Option (List Int × List Int × Bool)
 | 0,_,_,_,_,_,_,_,_=>none
 | k + 1,x1,x7,x8,x28,x1000,x1001,x1002,x1003=>if x28 = true then (some (([] : List Int),([] : List Int),false)) else (if 0 ≤ x1 then (if x1 < (x1000.length : Int) then ((impl_numberAt.f (rd_L1 x1000 x1) 1).bind fun t247=>(if 3 < ((rd_L1 x1000 x1).length : Int) then (if 0 < ((rd_L1 x1000 x1).length : Int) then (if (rd (rd_L1 x1000 x1) 0) = 82 then (if (wrap64 (rd (rd_L1 x1000 x1) 3)) > 124 then (impl_Space_record.j2 k x1 x7 x8 (rd_L1 x1000 x1) t247 (wrap64 (rd (rd_L1 x1000 x1) 3)) true x1000 x1001 x1002 x1003) else (if t247 = 0 then (if (wrap64 (rd (rd_L1 x1000 x1) 3)) = 0 then (if ((x8.length : Int) = 0) then (if 0 ≤ (wrap64 (4 + (wrap64 (rd (rd_L1 x1000 x1) 3)))) then (if (wrap64 (4 + (wrap64 (rd (rd_L1 x1000 x1) 3)))) ≤ ((rd_L1 x1000 x1).length : Int) then ((slices_ContainsFunc_byte_byte_64.f k ((rd_L1 x1000 x1).drop ((wrap64 (4 + (wrap64 (rd (rd_L1 x1000 x1) 3)))) : Int).toNat) ()).bind fun t251=>(impl_Space_record.j2 k x1 x7 x8 (rd_L1 x1000 x1) t247 (wrap64 (rd (rd_L1 x1000 x1) 3)) t251 x1000 x1001 x1002 x1003)) else (none)) else (none)) else (impl_Space_record.j2 k x1 x7 x8 (rd_L1 x1000 x1) t247 (wrap64 (rd (rd_L1 x1000 x1) 3)) true x1000 x1001 x1002 x1003)) else (if 0 ≤ (wrap64 (4 + (wrap64 (rd (rd_L1 x1000 x1) 3)))) then (if (wrap64 (4 + (wrap64 (rd (rd_L1 x1000 x1) 3)))) ≤ ((rd_L1 x1000 x1).length : Int) then ((slices_ContainsFunc_byte_byte_64.f k ((rd_L1 x1000 x1).drop ((wrap64 (4 + (wrap64 (rd (rd_L1 x1000 x1) 3)))) : Int).toNat) ()).bind fun t253=>(impl_Space_record.j2 k x1 x7 x8 (rd_L1 x1000 x1) t247 (wrap64 (rd (rd_L1 x1000 x1) 3)) t253 x1000 x1001 x1002 x1003)) else (none)) else (none))) else (if (wrap64 (rd (rd_L1 x1000 x1) 3)) < 124 then (impl_Space_record.j2 k x1 x7 x8 (rd_L1 x1000 x1) t247 (wrap64 (rd (rd_L1 x1000 x1) 3)) true x1000 x1001 x1002 x1003) else (if (wrap64 (rd (rd_L1 x1000 x1) 3)) = 0 then (if ((x8.length : Int) = 0) then (if 0 ≤ (wrap64 (4 + (wrap64 (rd (rd_L1 x1000 x1) 3)))) then (if (wrap64 (4 + (wrap64 (rd (rd_L1 x1000 x1) 3)))) ≤ ((rd_L1 x1000 x1).length : Int) then ((slices_ContainsFunc_byte_byte_64.f k ((rd_L1 x1000 x1).drop ((wrap64 (4 + (wrap64 (rd (rd_L1 x1000 x1) 3)))) : Int).toNat) ()).bind fun t255=>(impl_Space_record.j2 k x1 x7 x8 (rd_L1 x1000 x1) t247 (wrap64 (rd (rd_L1 x1000 x1) 3)) t255 x1000 x1001 x1002 x1003)) else (none)) else (none)) else (impl_Space_record.j2 k x1 x7 x8 (rd_L1 x1000 x1) t247 (wrap64 (rd (rd_L1 x1000 x1) 3)) true x1000 x1001 x1002 x1003)) else (if 0 ≤ (wrap64 (4 + (wrap64 (rd (rd_L1 x1000 x1) 3)))) then (if (wrap64 (4 + (wrap64 (rd (rd_L1 x1000 x1) 3)))) ≤ ((rd_L1 x1000 x1).length : Int) then ((slices_ContainsFunc_byte_byte_64.f k ((rd_L1 x1000 x1).drop ((wrap64 (4 + (wrap64 (rd (rd_L1 x1000 x1) 3)))) : Int).toNat) ()).bind fun t257=>(impl_Space_record.j2 k x1 x7 x8 (rd_L1 x1000 x1) t247 (wrap64 (rd (rd_L1 x1000 x1) 3)) t257 x1000 x1001 x1002 x1003)) else (none)) else (none)))))) else (impl_Space_record.j2 k x1 x7 x8 (rd_L1 x1000 x1) t247 (wrap64 (rd (rd_L1 x1000 x1) 3)) true x1000 x1001 x1002 x1003)) else (none)) else (none))) else (none)) else (none))
def impl_Space_record.j2 : Nat → Int → List Int → List Int → List Int → Int → Int → Bool → List (List Int) → List Int → List Int → List Int → Option (List Int × List Int × Bool)
 | 0,_,_,_,_,_,_,_,_,_,_,_=>none
 | k + 1,x1,x7,x8,x9,x10,x11,x75,x1000,x1001,x1002,x1003=>if x75 = true then (some (([] : List Int),([] : List Int),false)) else (if 4 ≤ (wrap64 (4 + x11)) then (if (wrap64 (4 + x11)) ≤ (x9.length : Int) then (if x7.length + ((x9.take ((wrap64 (4 + x11)) : Int).toNat).drop 4).length < 140737488355328 then ((some (x7 ++ ((x9.take ((wrap64 (4 + x11)) : Int).toNat).drop 4) : List Int)).bind fun y259=>(if x8.length < 17592186044416 then ((some (x8 ++ [x1] : List Int)).bind fun y262=>(if x10 = 0 then (some (y259,y262,true)) else (impl_Space_record.l0 k x10 y259 y262 x1000 x1001 x1002 x1003))) else (none))) else (none)) else (none)) else (none))
end
def impl_Space_record.f (k : Nat) (l0_0 : List (List Int)) (l0_1 : List Int) (l0_2 : List Int) (l0_3 : List Int) (a1 : Int) : Option (List Int × List Int × Bool):=impl_Space_record.l0 k a1 (([] : List Int)) (([] : List Int)) l0_0 l0_1 l0_2 l0_3
theorem impl_Space_record.mono_l : ∀ k,(∀ y0 y1 y2 y3 y4 y5 y6,LeO (impl_Space_record.l0 k y0 y1 y2 y3 y4 y5 y6) (impl_Space_record.l0 (k + 1) y0 y1 y2 y3 y4 y5 y6))∧(∀ y0 y1 y2 y3 y4 y5 y6 y7,LeO (impl_Space_record.j1 k y0 y1 y2 y3 y4 y5 y6 y7) (impl_Space_record.j1 (k + 1) y0 y1 y2 y3 y4 y5 y6 y7))∧(∀ y0 y1 y2 y3 y4 y5 y6 y7 y8 y9 y10,LeO (impl_Space_record.j2 k y0 y1 y2 y3 y4 y5 y6 y7 y8 y9 y10) (impl_Space_record.j2 (k + 1) y0 y1 y2 y3 y4 y5 y6 y7 y8 y9 y10))
 | 0=>⟨fun _ _ _ _ _ _ _ r h=>by simp [impl_Space_record.l0] at h,fun _ _ _ _ _ _ _ _ r h=>by simp [impl_Space_record.j1] at h,fun _ _ _ _ _ _ _ _ _ _ _ r h=>by simp [impl_Space_record.j2] at h⟩
 | k + 1=>by
  obtain ⟨ih0,ih1,ih2⟩:=impl_Space_record.mono_l k
  refine ⟨?_,?_,?_⟩
  ·intro y0 y1 y2 y3 y4 y5 y6
   unfold impl_Space_record.l0
   repeat' first
   | (with_reducible exact ih0 _ _ _ _ _ _ _)
   | (with_reducible exact ih1 _ _ _ _ _ _ _ _)
   | (with_reducible exact ih2 _ _ _ _ _ _ _ _ _ _ _)
   | (with_reducible exact impl_Space_isHere.mono _ _ _ _ _ _)
   | (with_reducible exact slices_ContainsFunc_byte_byte_64.mono _ _ _)
   | (with_reducible exact slices_Contains_int_int.mono _ _ _)
   | (with_reducible exact LeO.refl _)
   | (with_reducible exact LeO.none _)
   | (with_reducible refine LeO.ite ?_ ?_)
   | (with_reducible refine LeO.bind ?_ (fun _=>?_))
   | exact ih0 _ _ _ _ _ _ _
   | exact ih1 _ _ _ _ _ _ _ _
   | exact ih2 _ _ _ _ _ _ _ _ _ _ _
   | exact impl_Space_isHere.mono _ _ _ _ _ _
   | exact slices_ContainsFunc_byte_byte_64.mono _ _ _
   | exact slices_Contains_int_int.mono _ _ _
   | exact LeO.none _
   | refine LeO.ite ?_ ?_
   | refine LeO.bind ?_ (fun _=>?_)
  ·intro y0 y1 y2 y3 y4 y5 y6 y7
   unfold impl_Space_record.j1
   repeat' first
   | (with_reducible exact ih0 _ _ _ _ _ _ _)
   | (with_reducible exact ih1 _ _ _ _ _ _ _ _)
   | (with_reducible exact ih2 _ _ _ _ _ _ _ _ _ _ _)
   | (with_reducible exact impl_Space_isHere.mono _ _ _ _ _ _)
   | (with_reducible exact slices_ContainsFunc_byte_byte_64.mono _ _ _)
   | (with_reducible exact slices_Contains_int_int.mono _ _ _)
   | (with_reducible exact LeO.refl _)
   | (with_reducible exact LeO.none _)
   | (with_reducible refine LeO.ite ?_ ?_)
   | (with_reducible refine LeO.bind ?_ (fun _=>?_))
   | exact ih0 _ _ _ _ _ _ _
   | exact ih1 _ _ _ _ _ _ _ _
   | exact ih2 _ _ _ _ _ _ _ _ _ _ _
   | exact impl_Space_isHere.mono _ _ _ _ _ _
   | exact slices_ContainsFunc_byte_byte_64.mono _ _ _
   | exact slices_Contains_int_int.mono _ _ _
   | exact LeO.none _
   | refine LeO.ite ?_ ?_
   | refine LeO.bind ?_ (fun _=>?_)
  ·intro y0 y1 y2 y3 y4 y5 y6 y7 y8 y9 y10
   unfold impl_Space_record.j2
   repeat' first
   | (with_reducible exact ih0 _ _ _ _ _ _ _)
   | (with_reducible exact ih1 _ _ _ _ _ _ _ _)
   | (with_reducible exact ih2 _ _ _ _ _ _ _ _ _ _ _)
   | (with_reducible exact impl_Space_isHere.mono _ _ _ _ _ _)
   | (with_reducible exact slices_ContainsFunc_byte_byte_64.mono _ _ _)
   | (with_reducible exact slices_Contains_int_int.mono _ _ _)
   | (with_reducible exact LeO.refl _)
   | (with_reducible exact LeO.none _)
   | (with_reducible refine LeO.ite ?_ ?_)
   | (with_reducible refine LeO.bind ?_ (fun _=>?_))
   | exact ih0 _ _ _ _ _ _ _
   | exact ih1 _ _ _ _ _ _ _ _
   | exact ih2 _ _ _ _ _ _ _ _ _ _ _
   | exact impl_Space_isHere.mono _ _ _ _ _ _
   | exact slices_ContainsFunc_byte_byte_64.mono _ _ _
   | exact slices_Contains_int_int.mono _ _ _
   | exact LeO.none _
   | refine LeO.ite ?_ ?_
   | refine LeO.bind ?_ (fun _=>?_)
theorem impl_Space_record.mono : ∀ a0 a1 a2 a3 a4 k,LeO (impl_Space_record.f k a0 a1 a2 a3 a4) (impl_Space_record.f (k + 1) a0 a1 a2 a3 a4):=by
 intro a0 a1 a2 a3 a4 k
 obtain ⟨ih0,ih1,ih2⟩:=impl_Space_record.mono_l k
 unfold impl_Space_record.f
 repeat' first
   | (with_reducible exact ih0 _ _ _ _ _ _ _)
   | (with_reducible exact ih1 _ _ _ _ _ _ _ _)
   | (with_reducible exact ih2 _ _ _ _ _ _ _ _ _ _ _)
   | (with_reducible exact impl_Space_isHere.mono _ _ _ _ _ _)
   | (with_reducible exact slices_ContainsFunc_byte_byte_64.mono _ _ _)
   | (with_reducible exact slices_Contains_int_int.mono _ _ _)
   | (with_reducible exact LeO.refl _)
   | (with_reducible exact LeO.none _)
   | (with_reducible refine LeO.ite ?_ ?_)
   | (with_reducible refine LeO.bind ?_ (fun _=>?_))
   | exact ih0 _ _ _ _ _ _ _
   | exact ih1 _ _ _ _ _ _ _ _
   | exact ih2 _ _ _ _ _ _ _ _ _ _ _
   | exact impl_Space_isHere.mono _ _ _ _ _ _
   | exact slices_ContainsFunc_byte_byte_64.mono _ _ _
   | exact slices_Contains_int_int.mono _ _ _
   | exact LeO.none _
   | refine LeO.ite ?_ ?_
   | refine LeO.bind ?_ (fun _=>?_)
set_option maxHeartbeats 8000000 in
set_option maxRecDepth 100000 in
theorem impl_Space_record.calls (k : Nat) (g0_ : Nat) (A0_0 : Option Addr) (c0_0 : Nat) (l0_0 : List (List Int)) (A0_1 : Option Addr) (c0_1 : Nat) (l0_1 : List Int) (A0_2 : Option Addr) (c0_2 : Nat) (l0_2 : List Int) (A0_3 : Option Addr) (c0_3 : Nat) (l0_3 : List Int) (a1 : Int) (r1 : List Int) (r2 : List Int) (r3 : Bool) (w : World) (hg0_ : w.heap[g0_]? = some (.cells #[.slice A0_0 l0_0.length c0_0,.slice A0_1 l0_1.length c0_1,.slice A0_2 l0_2.length c0_2,.slice A0_3 l0_3.length c0_3] 28 (0,0))) (hr0_0 : Kd.C (Kd.slice 5 (Kd.int .u8)) w A0_0 l0_0.length l0_0) (hc0_0 : l0_0.length ≤ c0_0) (hr0_1 : Kd.C (Kd.int .u8) w A0_1 l0_1.length l0_1) (hc0_1 : l0_1.length ≤ c0_1) (hr0_2 : Kd.C (Kd.int .i64) w A0_2 l0_2.length l0_2) (hc0_2 : l0_2.length ≤ c0_2) (hr0_3 : Kd.C (Kd.int .i64) w A0_3 l0_3.length l0_3) (hc0_3 : l0_3.length ≤ c0_3) (h : impl_Space_record.f k l0_0 l0_1 l0_2 l0_3 a1 = some (r1,r2,r3)) :
  Calls Try.prog 42 #[.pointer (some ⟨g0_,0,none⟩),.int .i64 a1] w fun e w'=>∃ v0_ v1_ : Value,e = .returned (.tuple #[v0_,v1_,.bool r3])∧Kd.R (Kd.int .u8) 5 w' w.heap.size (fun _=>True) v0_ r1∧Kd.R (Kd.int .i64) 3 w' w.heap.size (fun _=>True) v1_ r2∧Below w.heap.size w w':=by
 have HR0_0:=Aside0.mk hr0_0
 have HC0_0:=Aside0.mk hc0_0
 clear hr0_0 hc0_0
 have HR0_1:=Aside0.mk hr0_1
 have HC0_1:=Aside0.mk hc0_1
 clear hr0_1 hc0_1
 have HR0_2:=Aside0.mk hr0_2
 have HC0_2:=Aside0.mk hc0_2
 clear hr0_2 hc0_2
 have HR0_3:=Aside0.mk hr0_3
 have HC0_3:=Aside0.mk hc0_3
 clear hr0_3 hc0_3
 have BK0:=Aside0.mk hg0_
 clear hg0_
 have HB:=Aside0.mk (Below.refl w.heap.size w)
 have H : (impl_Space_record.l0 k a1 (([] : List Int)) (([] : List Int)) l0_0 l0_1 l0_2 l0_3) = some (r1,r2,r3):=h
 clear h
 obtain ⟨y238,hy238⟩ : ∃ y_ : List Int,y_ = (([] : List Int)):=⟨_,rfl⟩
 replace H : (impl_Space_record.l0 k a1 y238 (([] : List Int)) l0_0 l0_1 l0_2 l0_3) = some (r1,r2,r3):=by first|(rw [hy238];with_reducible exact H)|(have H2_:=(Option.bind_some _ _).symm.trans H;rw [hy238];with_reducible exact H2_)|(have H2_:=(Option.bind_some _ _).symm.trans H;with_reducible exact H2_)|with_reducible exact H|(rw [hy238];exact H)|exact H
 have Ny238:=Aside0.mk hy238
 clear hy238
 obtain ⟨y241,hy241⟩ : ∃ y_ : List Int,y_ = (([] : List Int)):=⟨_,rfl⟩
 replace H : (impl_Space_record.l0 k a1 y238 y241 l0_0 l0_1 l0_2 l0_3) = some (r1,r2,r3):=by first|(rw [hy241];with_reducible exact H)|(have H2_:=(Option.bind_some _ _).symm.trans H;rw [hy241];with_reducible exact H2_)|(have H2_:=(Option.bind_some _ _).symm.trans H;with_reducible exact H2_)|with_reducible exact H|(rw [hy241];exact H)|exact H
 have Ny241:=Aside0.mk hy241
 clear hy241
 have H':=Aside0.mk H
 clear H
 go_enter Try.func42,Try.ntmps42
 go_wp2_with (first|((with_reducible refine gate_dst (N:=13) rfl ?_);(try (refine gate_guard (by rfl) ?_;dsimp only));refine Kd.R_lit (Kd.int .u8) _ 5 ?hg (N:=13) ?hd (xs:=([] : List Int)) (inner:=[]) (ok:=fun _=>True) (okp:=fun _=>True) ?hr ?hp (fun _ hk=>hk) trivial (Below.refl _ _) (Nat.le_refl _) (by simp) ?_;(case hd=>rfl);(case hg=>rfl);(case hr=>first|(go_simp;done)|(go_simp;rfl));(case hp=>exact (Reps.none _ _));intro v239 w3 ho4 hb hg_ hnew_;clear hg_ hnew_;(first|rw [← Ny238.out] at ho4|(simp only [Int.reduceToNat] at ho4;rw [← Ny238.out] at ho4));have n0_:=Aside0.mk (Kd.R_lower ho4 (below_size (by repeat (first|(with_reducible first|exact HB.out|apply below_alloc|apply pw_below_drewN|apply below_drew1|refine below_set ?_ GE0.out)|exact HB.out))));have n1_:=Aside0.mk (blk_below (g:=g0_) (o:=.cells #[.slice A0_0 l0_0.length c0_0,.slice A0_1 l0_1.length c0_1,.slice A0_2 l0_2.length c0_2,.slice A0_3 l0_3.length c0_3] 28 (0,0)) (by (with_reducible repeat first|apply blk_drewN|apply blk_drew|apply blk_alloc);exact BK0.out) hb);have n2_:=Aside0.mk (below_step (by repeat (first|(with_reducible first|exact HB.out|apply below_alloc|apply pw_below_drewN|apply below_drew1|refine below_set ?_ GE0.out)|exact HB.out)) hb);clear BK0;clear HB;have HO240:=n0_;have BK0:=n1_;have HB:=n2_;clear n0_ n1_ n2_;clear hb ho4)|((with_reducible refine gate_dst (N:=14) rfl ?_);(try (refine gate_guard (by rfl) ?_;dsimp only));refine Kd.R_lit (Kd.int .i64) _ 3 ?hg (N:=14) ?hd (xs:=([] : List Int)) (inner:=[]) (ok:=fun _=>True) (okp:=fun _=>True) ?hr ?hp (fun _ hk=>hk) trivial (Below.refl _ _) (Nat.le_refl _) (by simp) ?_;(case hd=>rfl);(case hg=>rfl);(case hr=>first|(go_simp;done)|(go_simp;rfl));(case hp=>exact (Reps.none _ _));intro v242 w5 ho6 hb hg_ hnew_;clear hg_ hnew_;(first|rw [← Ny241.out] at ho6|(simp only [Int.reduceToNat] at ho6;rw [← Ny241.out] at ho6));have n0_:=Aside0.mk (Kd.R_below (by (with_reducible repeat (first|apply Kd.R_alloc|apply Kd.R_drewN|apply Kd.R_drew));exact HO240.out) hb);have n1_:=Aside0.mk (Kd.R_lower ho6 (below_size (by repeat (first|(with_reducible first|exact HB.out|apply below_alloc|apply pw_below_drewN|apply below_drew1|refine below_set ?_ GE0.out)|exact HB.out))));have n2_:=Aside0.mk (blk_below (g:=g0_) (o:=.cells #[.slice A0_0 l0_0.length c0_0,.slice A0_1 l0_1.length c0_1,.slice A0_2 l0_2.length c0_2,.slice A0_3 l0_3.length c0_3] 28 (0,0)) (by (with_reducible repeat first|apply blk_drewN|apply blk_drew|apply blk_alloc);exact BK0.out) hb);have n3_:=Aside0.mk (below_step (by repeat (first|(with_reducible first|exact HB.out|apply below_alloc|apply pw_below_drewN|apply below_drew1|refine below_set ?_ GE0.out)|exact HB.out)) hb);clear HO240;clear BK0;clear HB;have HO240:=n0_;have HO243:=n1_;have BK0:=n2_;have HB:=n3_;clear n0_ n1_ n2_ n3_;clear hb ho6))
 repeat (go_quiet (first|((with_reducible refine gate_dst (N:=13) rfl ?_);(try (refine gate_guard (by rfl) ?_;dsimp only));refine Kd.R_lit (Kd.int .u8) _ 5 ?hg (N:=13) ?hd (xs:=([] : List Int)) (inner:=[]) (ok:=fun _=>True) (okp:=fun _=>True) ?hr ?hp (fun _ hk=>hk) trivial (Below.refl _ _) (Nat.le_refl _) (by simp) ?_;(case hd=>rfl);(case hg=>rfl);(case hr=>first|(go_simp;done)|(go_simp;rfl));(case hp=>exact (Reps.none _ _));intro v239 w3 ho4 hb hg_ hnew_;clear hg_ hnew_;(first|rw [← Ny238.out] at ho4|(simp only [Int.reduceToNat] at ho4;rw [← Ny238.out] at ho4));have n0_:=Aside0.mk (Kd.R_lower ho4 (below_size (by repeat (first|(with_reducible first|exact HB.out|apply below_alloc|apply pw_below_drewN|apply below_drew1|refine below_set ?_ GE0.out)|exact HB.out))));have n1_:=Aside0.mk (blk_below (g:=g0_) (o:=.cells #[.slice A0_0 l0_0.length c0_0,.slice A0_1 l0_1.length c0_1,.slice A0_2 l0_2.length c0_2,.slice A0_3 l0_3.length c0_3] 28 (0,0)) (by (with_reducible repeat first|apply blk_drewN|apply blk_drew|apply blk_alloc);exact BK0.out) hb);have n2_:=Aside0.mk (below_step (by repeat (first|(with_reducible first|exact HB.out|apply below_alloc|apply pw_below_drewN|apply below_drew1|refine below_set ?_ GE0.out)|exact HB.out)) hb);clear BK0;clear HB;have HO240:=n0_;have BK0:=n1_;have HB:=n2_;clear n0_ n1_ n2_;clear hb ho4)|((with_reducible refine gate_dst (N:=14) rfl ?_);(try (refine gate_guard (by rfl) ?_;dsimp only));refine Kd.R_lit (Kd.int .i64) _ 3 ?hg (N:=14) ?hd (xs:=([] : List Int)) (inner:=[]) (ok:=fun _=>True) (okp:=fun _=>True) ?hr ?hp (fun _ hk=>hk) trivial (Below.refl _ _) (Nat.le_refl _) (by simp) ?_;(case hd=>rfl);(case hg=>rfl);(case hr=>first|(go_simp;done)|(go_simp;rfl));(case hp=>exact (Reps.none _ _));intro v242 w5 ho6 hb hg_ hnew_;clear hg_ hnew_;(first|rw [← Ny241.out] at ho6|(simp only [Int.reduceToNat] at ho6;rw [← Ny241.out] at ho6));have n0_:=Aside0.mk (Kd.R_below (by (with_reducible repeat (first|apply Kd.R_alloc|apply Kd.R_drewN|apply Kd.R_drew));exact HO240.out) hb);have n1_:=Aside0.mk (Kd.R_lower ho6 (below_size (by repeat (first|(with_reducible first|exact HB.out|apply below_alloc|apply pw_below_drewN|apply below_drew1|refine below_set ?_ GE0.out)|exact HB.out))));have n2_:=Aside0.mk (blk_below (g:=g0_) (o:=.cells #[.slice A0_0 l0_0.length c0_0,.slice A0_1 l0_1.length c0_1,.slice A0_2 l0_2.length c0_2,.slice A0_3 l0_3.length c0_3] 28 (0,0)) (by (with_reducible repeat first|apply blk_drewN|apply blk_drew|apply blk_alloc);exact BK0.out) hb);have n3_:=Aside0.mk (below_step (by repeat (first|(with_reducible first|exact HB.out|apply below_alloc|apply pw_below_drewN|apply below_drew1|refine below_set ?_ GE0.out)|exact HB.out)) hb);clear HO240;clear BK0;clear HB;have HO240:=n0_;have HO243:=n1_;have BK0:=n2_;have HB:=n3_;clear n0_ n1_ n2_ n3_;clear hb ho6));try go_wp2_with (first|((with_reducible refine gate_dst (N:=13) rfl ?_);(try (refine gate_guard (by rfl) ?_;dsimp only));refine Kd.R_lit (Kd.int .u8) _ 5 ?hg (N:=13) ?hd (xs:=([] : List Int)) (inner:=[]) (ok:=fun _=>True) (okp:=fun _=>True) ?hr ?hp (fun _ hk=>hk) trivial (Below.refl _ _) (Nat.le_refl _) (by simp) ?_;(case hd=>rfl);(case hg=>rfl);(case hr=>first|(go_simp;done)|(go_simp;rfl));(case hp=>exact (Reps.none _ _));intro v239 w3 ho4 hb hg_ hnew_;clear hg_ hnew_;(first|rw [← Ny238.out] at ho4|(simp only [Int.reduceToNat] at ho4;rw [← Ny238.out] at ho4));have n0_:=Aside0.mk (Kd.R_lower ho4 (below_size (by repeat (first|(with_reducible first|exact HB.out|apply below_alloc|apply pw_below_drewN|apply below_drew1|refine below_set ?_ GE0.out)|exact HB.out))));have n1_:=Aside0.mk (blk_below (g:=g0_) (o:=.cells #[.slice A0_0 l0_0.length c0_0,.slice A0_1 l0_1.length c0_1,.slice A0_2 l0_2.length c0_2,.slice A0_3 l0_3.length c0_3] 28 (0,0)) (by (with_reducible repeat first|apply blk_drewN|apply blk_drew|apply blk_alloc);exact BK0.out) hb);have n2_:=Aside0.mk (below_step (by repeat (first|(with_reducible first|exact HB.out|apply below_alloc|apply pw_below_drewN|apply below_drew1|refine below_set ?_ GE0.out)|exact HB.out)) hb);clear BK0;clear HB;have HO240:=n0_;have BK0:=n1_;have HB:=n2_;clear n0_ n1_ n2_;clear hb ho4)|((with_reducible refine gate_dst (N:=14) rfl ?_);(try (refine gate_guard (by rfl) ?_;dsimp only));refine Kd.R_lit (Kd.int .i64) _ 3 ?hg (N:=14) ?hd (xs:=([] : List Int)) (inner:=[]) (ok:=fun _=>True) (okp:=fun _=>True) ?hr ?hp (fun _ hk=>hk) trivial (Below.refl _ _) (Nat.le_refl _) (by simp) ?_;(case hd=>rfl);(case hg=>rfl);(case hr=>first|(go_simp;done)|(go_simp;rfl));(case hp=>exact (Reps.none _ _));intro v242 w5 ho6 hb hg_ hnew_;clear hg_ hnew_;(first|rw [← Ny241.out] at ho6|(simp only [Int.reduceToNat] at ho6;rw [← Ny241.out] at ho6));have n0_:=Aside0.mk (Kd.R_below (by (with_reducible repeat (first|apply Kd.R_alloc|apply Kd.R_drewN|apply Kd.R_drew));exact HO240.out) hb);have n1_:=Aside0.mk (Kd.R_lower ho6 (below_size (by repeat (first|(with_reducible first|exact HB.out|apply below_alloc|apply pw_below_drewN|apply below_drew1|refine below_set ?_ GE0.out)|exact HB.out))));have n2_:=Aside0.mk (blk_below (g:=g0_) (o:=.cells #[.slice A0_0 l0_0.length c0_0,.slice A0_1 l0_1.length c0_1,.slice A0_2 l0_2.length c0_2,.slice A0_3 l0_3.length c0_3] 28 (0,0)) (by (with_reducible repeat first|apply blk_drewN|apply blk_drew|apply blk_alloc);exact BK0.out) hb);have n3_:=Aside0.mk (below_step (by repeat (first|(with_reducible first|exact HB.out|apply below_alloc|apply pw_below_drewN|apply below_drew1|refine below_set ?_ GE0.out)|exact HB.out)) hb);clear HO240;clear BK0;clear HB;have HO240:=n0_;have HO243:=n1_;have BK0:=n2_;have HB:=n3_;clear n0_ n1_ n2_ n3_;clear hb ho6)))
 go_loopg [1,7,8] k (fun kq v1 v7 v8 w'=>∃ (x1_1 : Int) (x7_1 : List Int) (x8_1 : List Int),v1 = .int .i64 x1_1∧Aside0 (impl_Space_record.l0 kq x1_1 x7_1 x8_1 l0_0 l0_1 l0_2 l0_3 = some (r1,r2,r3))∧Aside0 (kq ≤ k)∧Aside0 (Kd.R (Kd.int .u8) 5 w' w.heap.size (fun _=>True) v7 x7_1)∧Aside0 (Kd.R (Kd.int .i64) 3 w' w.heap.size (fun _=>True) v8 x8_1)∧Aside0 (w'.heap[g0_]? = some (.cells #[(.slice A0_0 l0_0.length c0_0),(.slice A0_1 l0_1.length c0_1),(.slice A0_2 l0_2.length c0_2),(.slice A0_3 l0_3.length c0_3)] 28 (0,0)))∧Aside0 (Below w.heap.size w w'))
 case atStart=>exact ⟨(a1),(y238),(y241),(by first|rfl|(simp;done)|(simp [*];done)),H',⟨Nat.le_refl _⟩,⟨by (with_reducible repeat (first|apply Kd.R_alloc|apply Kd.R_drewN|apply Kd.R_drew));exact HO240.out⟩,⟨by (with_reducible repeat (first|apply Kd.R_alloc|apply Kd.R_drewN|apply Kd.R_drew));exact HO243.out⟩,⟨by (with_reducible repeat first|apply blk_drewN|apply blk_drew|apply blk_alloc);exact BK0.out⟩,⟨by repeat (first|(with_reducible first|exact HB.out|apply below_alloc|apply pw_below_drewN|apply below_drew1|refine below_set ?_ GE0.out)|exact HB.out)⟩⟩
 case round =>
  clear H'
  try clear p2;try clear c4
  obtain ⟨x1_1,x7_1,x8_1,rfl,HA,HK1,HO_7,HO_8,BK0,HB⟩:=hrel
  cases gk with
  | zero=>exact absurd HA.out (by simp [impl_Space_record.l0])
  | succ k1 =>
   have H:=HA.out
   clear HA
   simp only [impl_Space_record.l0] at H
   have HC7:=Aside0.mk H
   clear H
   go_upto_region 2 with (fail)
   repeat (go_quiet (fail);go_upto_region 2 with (fail))
   go_cut [28] (fun v28 wc=>∃ (kq : Nat) (x28_6 : Bool),v28 = .bool x28_6∧Aside0 (impl_Space_record.j1 kq x1_1 x7_1 x8_1 x28_6 l0_0 l0_1 l0_2 l0_3 = some (r1,r2,r3))∧Aside0 (kq ≤ k1)∧Aside0 (Kd.R (Kd.int .u8) 5 wc w.heap.size (fun _=>True) u7 x7_1)∧Aside0 (Kd.R (Kd.int .i64) 3 wc w.heap.size (fun _=>True) u8 x8_1)∧Aside0 (wc.heap[g0_]? = some (.cells #[(.slice A0_0 l0_0.length c0_0),(.slice A0_1 l0_1.length c0_1),(.slice A0_2 l0_2.length c0_2),(.slice A0_3 l0_3.length c0_3)] 28 (0,0)))∧Aside0 (Below w.heap.size w wc))
   case first =>
    have H:=HC7.out
    clear HC7
    replace H:=Option.bind_eq_some_iff.mp H
    obtain ⟨t244,A80,H⟩:=H
    have A8:=Aside0.mk A80
    clear A80
    by_cases c9 : t244 = true
    ·subst c9
     rw [if_pos rfl] at H
     replace H:=Option.bind_eq_some_iff.mp H
     obtain ⟨t245,A100,H⟩:=H
     have A10:=Aside0.mk A100
     clear A100
     by_cases c11 : t245 = true
     ·subst c11
      rw [if_pos rfl] at H
      have H':=Aside0.mk H
      clear H
      go_wp2_with (first|(go_at_call 61;(with_reducible refine (impl_Space_isHere.calls k1 g0_ A0_0 c0_0 l0_0 A0_1 c0_1 l0_1 A0_2 c0_2 l0_2 A0_3 c0_3 l0_3 x1_1 true _ ?side1 ?side2 ?side3 ?side4 ?side5 ?side6 ?side7 ?side8 ?side9 A8.out).mono ?_);(case side1=>exact by (with_reducible repeat first|apply blk_drewN|apply blk_drew|apply blk_alloc);exact BK0.out);(case side2=>repeat (first|exact (Kd.C_below HR0_0.out HB.out)|(with_reducible first|apply Kd.C_alloc|apply Kd.C_drewN|apply Kd.C_drew)));(case side3=>exact HC0_0.out);(case side4=>repeat (first|exact (Kd.C_below HR0_1.out HB.out)|(with_reducible first|apply Kd.C_alloc|apply Kd.C_drewN|apply Kd.C_drew)));(case side5=>exact HC0_1.out);(case side6=>repeat (first|exact (Kd.C_below HR0_2.out HB.out)|(with_reducible first|apply Kd.C_alloc|apply Kd.C_drewN|apply Kd.C_drew)));(case side7=>exact HC0_2.out);(case side8=>repeat (first|exact (Kd.C_below HR0_3.out HB.out)|(with_reducible first|apply Kd.C_alloc|apply Kd.C_drewN|apply Kd.C_drew)));(case side9=>exact HC0_3.out);rintro e w12 ⟨rfl,hb⟩;have n0_:=Aside0.mk (Kd.R_below (by (with_reducible repeat (first|apply Kd.R_alloc|apply Kd.R_drewN|apply Kd.R_drew));exact HO_7.out) hb);have n1_:=Aside0.mk (Kd.R_below (by (with_reducible repeat (first|apply Kd.R_alloc|apply Kd.R_drewN|apply Kd.R_drew));exact HO_8.out) hb);have n2_:=Aside0.mk (blk_below (g:=g0_) (o:=.cells #[.slice A0_0 l0_0.length c0_0,.slice A0_1 l0_1.length c0_1,.slice A0_2 l0_2.length c0_2,.slice A0_3 l0_3.length c0_3] 28 (0,0)) (by (with_reducible repeat first|apply blk_drewN|apply blk_drew|apply blk_alloc);exact BK0.out) hb);have n3_:=Aside0.mk (below_step (by repeat (first|(with_reducible first|exact HB.out|apply below_alloc|apply pw_below_drewN|apply below_drew1|refine below_set ?_ GE0.out)|exact HB.out)) hb);clear HO_7;clear HO_8;clear BK0;clear HB;have HO_7:=n0_;have HO_8:=n1_;have BK0:=n2_;have HB:=n3_;clear n0_ n1_ n2_ n3_;(try clear hb);(try clear hb2);(try clear hk);(try clear hi);obtain ⟨Ao13,co13,eo13⟩:=Kd.R_slice HO_8.out;subst eo13)|(go_at_call 62;(with_reducible refine (slices_Contains_int_int.calls k1 _ _ x8_1 x1_1 true _ ?side1 ?side2 A10.out).mono ?_);(case side1=>repeat (first|exact (Kd.R_reads' HO_8.out).2.2|(with_reducible first|apply Kd.C_alloc|apply Kd.C_drewN|apply Kd.C_drew)));(case side2=>exact (Kd.R_reads' HO_8.out).2.1);rintro e w' ⟨rfl,⟨nd,rfl⟩⟩;(try first|exact ⟨rfl,_,World.drewN_drewN _ _ _⟩|exact ⟨rfl,_,Eq.trans (World.drewN_drewN _ _ _) (congrArg (World.drewN _) (Nat.add_assoc _ _ _))⟩)))
      repeat (go_quiet (first|(go_at_call 61;(with_reducible refine (impl_Space_isHere.calls k1 g0_ A0_0 c0_0 l0_0 A0_1 c0_1 l0_1 A0_2 c0_2 l0_2 A0_3 c0_3 l0_3 x1_1 true _ ?side1 ?side2 ?side3 ?side4 ?side5 ?side6 ?side7 ?side8 ?side9 A8.out).mono ?_);(case side1=>exact by (with_reducible repeat first|apply blk_drewN|apply blk_drew|apply blk_alloc);exact BK0.out);(case side2=>repeat (first|exact (Kd.C_below HR0_0.out HB.out)|(with_reducible first|apply Kd.C_alloc|apply Kd.C_drewN|apply Kd.C_drew)));(case side3=>exact HC0_0.out);(case side4=>repeat (first|exact (Kd.C_below HR0_1.out HB.out)|(with_reducible first|apply Kd.C_alloc|apply Kd.C_drewN|apply Kd.C_drew)));(case side5=>exact HC0_1.out);(case side6=>repeat (first|exact (Kd.C_below HR0_2.out HB.out)|(with_reducible first|apply Kd.C_alloc|apply Kd.C_drewN|apply Kd.C_drew)));(case side7=>exact HC0_2.out);(case side8=>repeat (first|exact (Kd.C_below HR0_3.out HB.out)|(with_reducible first|apply Kd.C_alloc|apply Kd.C_drewN|apply Kd.C_drew)));(case side9=>exact HC0_3.out);rintro e w12 ⟨rfl,hb⟩;have n0_:=Aside0.mk (Kd.R_below (by (with_reducible repeat (first|apply Kd.R_alloc|apply Kd.R_drewN|apply Kd.R_drew));exact HO_7.out) hb);have n1_:=Aside0.mk (Kd.R_below (by (with_reducible repeat (first|apply Kd.R_alloc|apply Kd.R_drewN|apply Kd.R_drew));exact HO_8.out) hb);have n2_:=Aside0.mk (blk_below (g:=g0_) (o:=.cells #[.slice A0_0 l0_0.length c0_0,.slice A0_1 l0_1.length c0_1,.slice A0_2 l0_2.length c0_2,.slice A0_3 l0_3.length c0_3] 28 (0,0)) (by (with_reducible repeat first|apply blk_drewN|apply blk_drew|apply blk_alloc);exact BK0.out) hb);have n3_:=Aside0.mk (below_step (by repeat (first|(with_reducible first|exact HB.out|apply below_alloc|apply pw_below_drewN|apply below_drew1|refine below_set ?_ GE0.out)|exact HB.out)) hb);clear HO_7;clear HO_8;clear BK0;clear HB;have HO_7:=n0_;have HO_8:=n1_;have BK0:=n2_;have HB:=n3_;clear n0_ n1_ n2_ n3_;(try clear hb);(try clear hb2);(try clear hk);(try clear hi);obtain ⟨Ao13,co13,eo13⟩:=Kd.R_slice HO_8.out;subst eo13)|(go_at_call 62;(with_reducible refine (slices_Contains_int_int.calls k1 _ _ x8_1 x1_1 true _ ?side1 ?side2 A10.out).mono ?_);(case side1=>repeat (first|exact (Kd.R_reads' HO_8.out).2.2|(with_reducible first|apply Kd.C_alloc|apply Kd.C_drewN|apply Kd.C_drew)));(case side2=>exact (Kd.R_reads' HO_8.out).2.1);rintro e w' ⟨rfl,⟨nd,rfl⟩⟩;(try first|exact ⟨rfl,_,World.drewN_drewN _ _ _⟩|exact ⟨rfl,_,Eq.trans (World.drewN_drewN _ _ _) (congrArg (World.drewN _) (Nat.add_assoc _ _ _))⟩)));try go_wp2_with (first|(go_at_call 61;(with_reducible refine (impl_Space_isHere.calls k1 g0_ A0_0 c0_0 l0_0 A0_1 c0_1 l0_1 A0_2 c0_2 l0_2 A0_3 c0_3 l0_3 x1_1 true _ ?side1 ?side2 ?side3 ?side4 ?side5 ?side6 ?side7 ?side8 ?side9 A8.out).mono ?_);(case side1=>exact by (with_reducible repeat first|apply blk_drewN|apply blk_drew|apply blk_alloc);exact BK0.out);(case side2=>repeat (first|exact (Kd.C_below HR0_0.out HB.out)|(with_reducible first|apply Kd.C_alloc|apply Kd.C_drewN|apply Kd.C_drew)));(case side3=>exact HC0_0.out);(case side4=>repeat (first|exact (Kd.C_below HR0_1.out HB.out)|(with_reducible first|apply Kd.C_alloc|apply Kd.C_drewN|apply Kd.C_drew)));(case side5=>exact HC0_1.out);(case side6=>repeat (first|exact (Kd.C_below HR0_2.out HB.out)|(with_reducible first|apply Kd.C_alloc|apply Kd.C_drewN|apply Kd.C_drew)));(case side7=>exact HC0_2.out);(case side8=>repeat (first|exact (Kd.C_below HR0_3.out HB.out)|(with_reducible first|apply Kd.C_alloc|apply Kd.C_drewN|apply Kd.C_drew)));(case side9=>exact HC0_3.out);rintro e w12 ⟨rfl,hb⟩;have n0_:=Aside0.mk (Kd.R_below (by (with_reducible repeat (first|apply Kd.R_alloc|apply Kd.R_drewN|apply Kd.R_drew));exact HO_7.out) hb);have n1_:=Aside0.mk (Kd.R_below (by (with_reducible repeat (first|apply Kd.R_alloc|apply Kd.R_drewN|apply Kd.R_drew));exact HO_8.out) hb);have n2_:=Aside0.mk (blk_below (g:=g0_) (o:=.cells #[.slice A0_0 l0_0.length c0_0,.slice A0_1 l0_1.length c0_1,.slice A0_2 l0_2.length c0_2,.slice A0_3 l0_3.length c0_3] 28 (0,0)) (by (with_reducible repeat first|apply blk_drewN|apply blk_drew|apply blk_alloc);exact BK0.out) hb);have n3_:=Aside0.mk (below_step (by repeat (first|(with_reducible first|exact HB.out|apply below_alloc|apply pw_below_drewN|apply below_drew1|refine below_set ?_ GE0.out)|exact HB.out)) hb);clear HO_7;clear HO_8;clear BK0;clear HB;have HO_7:=n0_;have HO_8:=n1_;have BK0:=n2_;have HB:=n3_;clear n0_ n1_ n2_ n3_;(try clear hb);(try clear hb2);(try clear hk);(try clear hi);obtain ⟨Ao13,co13,eo13⟩:=Kd.R_slice HO_8.out;subst eo13)|(go_at_call 62;(with_reducible refine (slices_Contains_int_int.calls k1 _ _ x8_1 x1_1 true _ ?side1 ?side2 A10.out).mono ?_);(case side1=>repeat (first|exact (Kd.R_reads' HO_8.out).2.2|(with_reducible first|apply Kd.C_alloc|apply Kd.C_drewN|apply Kd.C_drew)));(case side2=>exact (Kd.R_reads' HO_8.out).2.1);rintro e w' ⟨rfl,⟨nd,rfl⟩⟩;(try first|exact ⟨rfl,_,World.drewN_drewN _ _ _⟩|exact ⟨rfl,_,Eq.trans (World.drewN_drewN _ _ _) (congrArg (World.drewN _) (Nat.add_assoc _ _ _))⟩))))
      go_meet
      case rel=>exact ⟨_,(true),(by first|rfl|(simp;done)|(simp [*];done)),H',⟨by have:=HK1.out;first|omega|exact Nat.le_refl _⟩,⟨by (with_reducible repeat (first|apply Kd.R_alloc|apply Kd.R_drewN|apply Kd.R_drew));exact HO_7.out⟩,⟨by (with_reducible repeat (first|apply Kd.R_alloc|apply Kd.R_drewN|apply Kd.R_drew));exact HO_8.out⟩,⟨by (with_reducible repeat first|apply blk_drewN|apply blk_drew|apply blk_alloc);exact BK0.out⟩,⟨by repeat (first|(with_reducible first|exact HB.out|apply below_alloc|apply pw_below_drewN|apply below_drew1|refine below_set ?_ GE0.out)|exact HB.out)⟩⟩
     ·replace c11:=Bool.eq_false_iff.mpr c11
      subst c11
      rw [if_neg (show ¬ (false = true) by decide)] at H
      have H':=Aside0.mk H
      clear H
      go_wp2_with (first|(go_at_call 61;(with_reducible refine (impl_Space_isHere.calls k1 g0_ A0_0 c0_0 l0_0 A0_1 c0_1 l0_1 A0_2 c0_2 l0_2 A0_3 c0_3 l0_3 x1_1 true _ ?side1 ?side2 ?side3 ?side4 ?side5 ?side6 ?side7 ?side8 ?side9 A8.out).mono ?_);(case side1=>exact by (with_reducible repeat first|apply blk_drewN|apply blk_drew|apply blk_alloc);exact BK0.out);(case side2=>repeat (first|exact (Kd.C_below HR0_0.out HB.out)|(with_reducible first|apply Kd.C_alloc|apply Kd.C_drewN|apply Kd.C_drew)));(case side3=>exact HC0_0.out);(case side4=>repeat (first|exact (Kd.C_below HR0_1.out HB.out)|(with_reducible first|apply Kd.C_alloc|apply Kd.C_drewN|apply Kd.C_drew)));(case side5=>exact HC0_1.out);(case side6=>repeat (first|exact (Kd.C_below HR0_2.out HB.out)|(with_reducible first|apply Kd.C_alloc|apply Kd.C_drewN|apply Kd.C_drew)));(case side7=>exact HC0_2.out);(case side8=>repeat (first|exact (Kd.C_below HR0_3.out HB.out)|(with_reducible first|apply Kd.C_alloc|apply Kd.C_drewN|apply Kd.C_drew)));(case side9=>exact HC0_3.out);rintro e w14 ⟨rfl,hb⟩;have n0_:=Aside0.mk (Kd.R_below (by (with_reducible repeat (first|apply Kd.R_alloc|apply Kd.R_drewN|apply Kd.R_drew));exact HO_7.out) hb);have n1_:=Aside0.mk (Kd.R_below (by (with_reducible repeat (first|apply Kd.R_alloc|apply Kd.R_drewN|apply Kd.R_drew));exact HO_8.out) hb);have n2_:=Aside0.mk (blk_below (g:=g0_) (o:=.cells #[.slice A0_0 l0_0.length c0_0,.slice A0_1 l0_1.length c0_1,.slice A0_2 l0_2.length c0_2,.slice A0_3 l0_3.length c0_3] 28 (0,0)) (by (with_reducible repeat first|apply blk_drewN|apply blk_drew|apply blk_alloc);exact BK0.out) hb);have n3_:=Aside0.mk (below_step (by repeat (first|(with_reducible first|exact HB.out|apply below_alloc|apply pw_below_drewN|apply below_drew1|refine below_set ?_ GE0.out)|exact HB.out)) hb);clear HO_7;clear HO_8;clear BK0;clear HB;have HO_7:=n0_;have HO_8:=n1_;have BK0:=n2_;have HB:=n3_;clear n0_ n1_ n2_ n3_;(try clear hb);(try clear hb2);(try clear hk);(try clear hi);obtain ⟨Ao15,co15,eo15⟩:=Kd.R_slice HO_8.out;subst eo15)|(go_at_call 62;(with_reducible refine (slices_Contains_int_int.calls k1 _ _ x8_1 x1_1 false _ ?side1 ?side2 A10.out).mono ?_);(case side1=>repeat (first|exact (Kd.R_reads' HO_8.out).2.2|(with_reducible first|apply Kd.C_alloc|apply Kd.C_drewN|apply Kd.C_drew)));(case side2=>exact (Kd.R_reads' HO_8.out).2.1);rintro e w' ⟨rfl,⟨nd,rfl⟩⟩;(try first|exact ⟨rfl,_,World.drewN_drewN _ _ _⟩|exact ⟨rfl,_,Eq.trans (World.drewN_drewN _ _ _) (congrArg (World.drewN _) (Nat.add_assoc _ _ _))⟩)))
      repeat (go_quiet (first|(go_at_call 61;(with_reducible refine (impl_Space_isHere.calls k1 g0_ A0_0 c0_0 l0_0 A0_1 c0_1 l0_1 A0_2 c0_2 l0_2 A0_3 c0_3 l0_3 x1_1 true _ ?side1 ?side2 ?side3 ?side4 ?side5 ?side6 ?side7 ?side8 ?side9 A8.out).mono ?_);(case side1=>exact by (with_reducible repeat first|apply blk_drewN|apply blk_drew|apply blk_alloc);exact BK0.out);(case side2=>repeat (first|exact (Kd.C_below HR0_0.out HB.out)|(with_reducible first|apply Kd.C_alloc|apply Kd.C_drewN|apply Kd.C_drew)));(case side3=>exact HC0_0.out);(case side4=>repeat (first|exact (Kd.C_below HR0_1.out HB.out)|(with_reducible first|apply Kd.C_alloc|apply Kd.C_drewN|apply Kd.C_drew)));(case side5=>exact HC0_1.out);(case side6=>repeat (first|exact (Kd.C_below HR0_2.out HB.out)|(with_reducible first|apply Kd.C_alloc|apply Kd.C_drewN|apply Kd.C_drew)));(case side7=>exact HC0_2.out);(case side8=>repeat (first|exact (Kd.C_below HR0_3.out HB.out)|(with_reducible first|apply Kd.C_alloc|apply Kd.C_drewN|apply Kd.C_drew)));(case side9=>exact HC0_3.out);rintro e w14 ⟨rfl,hb⟩;have n0_:=Aside0.mk (Kd.R_below (by (with_reducible repeat (first|apply Kd.R_alloc|apply Kd.R_drewN|apply Kd.R_drew));exact HO_7.out) hb);have n1_:=Aside0.mk (Kd.R_below (by (with_reducible repeat (first|apply Kd.R_alloc|apply Kd.R_drewN|apply Kd.R_drew));exact HO_8.out) hb);have n2_:=Aside0.mk (blk_below (g:=g0_) (o:=.cells #[.slice A0_0 l0_0.length c0_0,.slice A0_1 l0_1.length c0_1,.slice A0_2 l0_2.length c0_2,.slice A0_3 l0_3.length c0_3] 28 (0,0)) (by (with_reducible repeat first|apply blk_drewN|apply blk_drew|apply blk_alloc);exact BK0.out) hb);have n3_:=Aside0.mk (below_step (by repeat (first|(with_reducible first|exact HB.out|apply below_alloc|apply pw_below_drewN|apply below_drew1|refine below_set ?_ GE0.out)|exact HB.out)) hb);clear HO_7;clear HO_8;clear BK0;clear HB;have HO_7:=n0_;have HO_8:=n1_;have BK0:=n2_;have HB:=n3_;clear n0_ n1_ n2_ n3_;(try clear hb);(try clear hb2);(try clear hk);(try clear hi);obtain ⟨Ao15,co15,eo15⟩:=Kd.R_slice HO_8.out;subst eo15)|(go_at_call 62;(with_reducible refine (slices_Contains_int_int.calls k1 _ _ x8_1 x1_1 false _ ?side1 ?side2 A10.out).mono ?_);(case side1=>repeat (first|exact (Kd.R_reads' HO_8.out).2.2|(with_reducible first|apply Kd.C_alloc|apply Kd.C_drewN|apply Kd.C_drew)));(case side2=>exact (Kd.R_reads' HO_8.out).2.1);rintro e w' ⟨rfl,⟨nd,rfl⟩⟩;(try first|exact ⟨rfl,_,World.drewN_drewN _ _ _⟩|exact ⟨rfl,_,Eq.trans (World.drewN_drewN _ _ _) (congrArg (World.drewN _) (Nat.add_assoc _ _ _))⟩)));try go_wp2_with (first|(go_at_call 61;(with_reducible refine (impl_Space_isHere.calls k1 g0_ A0_0 c0_0 l0_0 A0_1 c0_1 l0_1 A0_2 c0_2 l0_2 A0_3 c0_3 l0_3 x1_1 true _ ?side1 ?side2 ?side3 ?side4 ?side5 ?side6 ?side7 ?side8 ?side9 A8.out).mono ?_);(case side1=>exact by (with_reducible repeat first|apply blk_drewN|apply blk_drew|apply blk_alloc);exact BK0.out);(case side2=>repeat (first|exact (Kd.C_below HR0_0.out HB.out)|(with_reducible first|apply Kd.C_alloc|apply Kd.C_drewN|apply Kd.C_drew)));(case side3=>exact HC0_0.out);(case side4=>repeat (first|exact (Kd.C_below HR0_1.out HB.out)|(with_reducible first|apply Kd.C_alloc|apply Kd.C_drewN|apply Kd.C_drew)));(case side5=>exact HC0_1.out);(case side6=>repeat (first|exact (Kd.C_below HR0_2.out HB.out)|(with_reducible first|apply Kd.C_alloc|apply Kd.C_drewN|apply Kd.C_drew)));(case side7=>exact HC0_2.out);(case side8=>repeat (first|exact (Kd.C_below HR0_3.out HB.out)|(with_reducible first|apply Kd.C_alloc|apply Kd.C_drewN|apply Kd.C_drew)));(case side9=>exact HC0_3.out);rintro e w14 ⟨rfl,hb⟩;have n0_:=Aside0.mk (Kd.R_below (by (with_reducible repeat (first|apply Kd.R_alloc|apply Kd.R_drewN|apply Kd.R_drew));exact HO_7.out) hb);have n1_:=Aside0.mk (Kd.R_below (by (with_reducible repeat (first|apply Kd.R_alloc|apply Kd.R_drewN|apply Kd.R_drew));exact HO_8.out) hb);have n2_:=Aside0.mk (blk_below (g:=g0_) (o:=.cells #[.slice A0_0 l0_0.length c0_0,.slice A0_1 l0_1.length c0_1,.slice A0_2 l0_2.length c0_2,.slice A0_3 l0_3.length c0_3] 28 (0,0)) (by (with_reducible repeat first|apply blk_drewN|apply blk_drew|apply blk_alloc);exact BK0.out) hb);have n3_:=Aside0.mk (below_step (by repeat (first|(with_reducible first|exact HB.out|apply below_alloc|apply pw_below_drewN|apply below_drew1|refine below_set ?_ GE0.out)|exact HB.out)) hb);clear HO_7;clear HO_8;clear BK0;clear HB;have HO_7:=n0_;have HO_8:=n1_;have BK0:=n2_;have HB:=n3_;clear n0_ n1_ n2_ n3_;(try clear hb);(try clear hb2);(try clear hk);(try clear hi);obtain ⟨Ao15,co15,eo15⟩:=Kd.R_slice HO_8.out;subst eo15)|(go_at_call 62;(with_reducible refine (slices_Contains_int_int.calls k1 _ _ x8_1 x1_1 false _ ?side1 ?side2 A10.out).mono ?_);(case side1=>repeat (first|exact (Kd.R_reads' HO_8.out).2.2|(with_reducible first|apply Kd.C_alloc|apply Kd.C_drewN|apply Kd.C_drew)));(case side2=>exact (Kd.R_reads' HO_8.out).2.1);rintro e w' ⟨rfl,⟨nd,rfl⟩⟩;(try first|exact ⟨rfl,_,World.drewN_drewN _ _ _⟩|exact ⟨rfl,_,Eq.trans (World.drewN_drewN _ _ _) (congrArg (World.drewN _) (Nat.add_assoc _ _ _))⟩))))
      go_meet
      case rel=>exact ⟨_,(((x8_1.length : Int) == 9)),(by first|rfl|(simp;done)|(simp [*];done)),H',⟨by have:=HK1.out;first|omega|exact Nat.le_refl _⟩,⟨by (with_reducible repeat (first|apply Kd.R_alloc|apply Kd.R_drewN|apply Kd.R_drew));exact HO_7.out⟩,⟨by (with_reducible repeat (first|apply Kd.R_alloc|apply Kd.R_drewN|apply Kd.R_drew));exact HO_8.out⟩,⟨by (with_reducible repeat first|apply blk_drewN|apply blk_drew|apply blk_alloc);exact BK0.out⟩,⟨by repeat (first|(with_reducible first|exact HB.out|apply below_alloc|apply pw_below_drewN|apply below_drew1|refine below_set ?_ GE0.out)|exact HB.out)⟩⟩
    ·replace c9:=Bool.eq_false_iff.mpr c9
     subst c9
     rw [if_neg (show ¬ (false = true) by decide)] at H
     have H':=Aside0.mk H
     clear H
     go_wp2_with (first|(go_at_call 61;(with_reducible refine (impl_Space_isHere.calls k1 g0_ A0_0 c0_0 l0_0 A0_1 c0_1 l0_1 A0_2 c0_2 l0_2 A0_3 c0_3 l0_3 x1_1 false _ ?side1 ?side2 ?side3 ?side4 ?side5 ?side6 ?side7 ?side8 ?side9 A8.out).mono ?_);(case side1=>exact by (with_reducible repeat first|apply blk_drewN|apply blk_drew|apply blk_alloc);exact BK0.out);(case side2=>repeat (first|exact (Kd.C_below HR0_0.out HB.out)|(with_reducible first|apply Kd.C_alloc|apply Kd.C_drewN|apply Kd.C_drew)));(case side3=>exact HC0_0.out);(case side4=>repeat (first|exact (Kd.C_below HR0_1.out HB.out)|(with_reducible first|apply Kd.C_alloc|apply Kd.C_drewN|apply Kd.C_drew)));(case side5=>exact HC0_1.out);(case side6=>repeat (first|exact (Kd.C_below HR0_2.out HB.out)|(with_reducible first|apply Kd.C_alloc|apply Kd.C_drewN|apply Kd.C_drew)));(case side7=>exact HC0_2.out);(case side8=>repeat (first|exact (Kd.C_below HR0_3.out HB.out)|(with_reducible first|apply Kd.C_alloc|apply Kd.C_drewN|apply Kd.C_drew)));(case side9=>exact HC0_3.out);rintro e w16 ⟨rfl,hb⟩;have n0_:=Aside0.mk (Kd.R_below (by (with_reducible repeat (first|apply Kd.R_alloc|apply Kd.R_drewN|apply Kd.R_drew));exact HO_7.out) hb);have n1_:=Aside0.mk (Kd.R_below (by (with_reducible repeat (first|apply Kd.R_alloc|apply Kd.R_drewN|apply Kd.R_drew));exact HO_8.out) hb);have n2_:=Aside0.mk (blk_below (g:=g0_) (o:=.cells #[.slice A0_0 l0_0.length c0_0,.slice A0_1 l0_1.length c0_1,.slice A0_2 l0_2.length c0_2,.slice A0_3 l0_3.length c0_3] 28 (0,0)) (by (with_reducible repeat first|apply blk_drewN|apply blk_drew|apply blk_alloc);exact BK0.out) hb);have n3_:=Aside0.mk (below_step (by repeat (first|(with_reducible first|exact HB.out|apply below_alloc|apply pw_below_drewN|apply below_drew1|refine below_set ?_ GE0.out)|exact HB.out)) hb);clear HO_7;clear HO_8;clear BK0;clear HB;have HO_7:=n0_;have HO_8:=n1_;have BK0:=n2_;have HB:=n3_;clear n0_ n1_ n2_ n3_;(try clear hb);(try clear hb2);(try clear hk);(try clear hi)))
     repeat (go_quiet (first|(go_at_call 61;(with_reducible refine (impl_Space_isHere.calls k1 g0_ A0_0 c0_0 l0_0 A0_1 c0_1 l0_1 A0_2 c0_2 l0_2 A0_3 c0_3 l0_3 x1_1 false _ ?side1 ?side2 ?side3 ?side4 ?side5 ?side6 ?side7 ?side8 ?side9 A8.out).mono ?_);(case side1=>exact by (with_reducible repeat first|apply blk_drewN|apply blk_drew|apply blk_alloc);exact BK0.out);(case side2=>repeat (first|exact (Kd.C_below HR0_0.out HB.out)|(with_reducible first|apply Kd.C_alloc|apply Kd.C_drewN|apply Kd.C_drew)));(case side3=>exact HC0_0.out);(case side4=>repeat (first|exact (Kd.C_below HR0_1.out HB.out)|(with_reducible first|apply Kd.C_alloc|apply Kd.C_drewN|apply Kd.C_drew)));(case side5=>exact HC0_1.out);(case side6=>repeat (first|exact (Kd.C_below HR0_2.out HB.out)|(with_reducible first|apply Kd.C_alloc|apply Kd.C_drewN|apply Kd.C_drew)));(case side7=>exact HC0_2.out);(case side8=>repeat (first|exact (Kd.C_below HR0_3.out HB.out)|(with_reducible first|apply Kd.C_alloc|apply Kd.C_drewN|apply Kd.C_drew)));(case side9=>exact HC0_3.out);rintro e w16 ⟨rfl,hb⟩;have n0_:=Aside0.mk (Kd.R_below (by (with_reducible repeat (first|apply Kd.R_alloc|apply Kd.R_drewN|apply Kd.R_drew));exact HO_7.out) hb);have n1_:=Aside0.mk (Kd.R_below (by (with_reducible repeat (first|apply Kd.R_alloc|apply Kd.R_drewN|apply Kd.R_drew));exact HO_8.out) hb);have n2_:=Aside0.mk (blk_below (g:=g0_) (o:=.cells #[.slice A0_0 l0_0.length c0_0,.slice A0_1 l0_1.length c0_1,.slice A0_2 l0_2.length c0_2,.slice A0_3 l0_3.length c0_3] 28 (0,0)) (by (with_reducible repeat first|apply blk_drewN|apply blk_drew|apply blk_alloc);exact BK0.out) hb);have n3_:=Aside0.mk (below_step (by repeat (first|(with_reducible first|exact HB.out|apply below_alloc|apply pw_below_drewN|apply below_drew1|refine below_set ?_ GE0.out)|exact HB.out)) hb);clear HO_7;clear HO_8;clear BK0;clear HB;have HO_7:=n0_;have HO_8:=n1_;have BK0:=n2_;have HB:=n3_;clear n0_ n1_ n2_ n3_;(try clear hb);(try clear hb2);(try clear hk);(try clear hi)));try go_wp2_with (first|(go_at_call 61;(with_reducible refine (impl_Space_isHere.calls k1 g0_ A0_0 c0_0 l0_0 A0_1 c0_1 l0_1 A0_2 c0_2 l0_2 A0_3 c0_3 l0_3 x1_1 false _ ?side1 ?side2 ?side3 ?side4 ?side5 ?side6 ?side7 ?side8 ?side9 A8.out).mono ?_);(case side1=>exact by (with_reducible repeat first|apply blk_drewN|apply blk_drew|apply blk_alloc);exact BK0.out);(case side2=>repeat (first|exact (Kd.C_below HR0_0.out HB.out)|(with_reducible first|apply Kd.C_alloc|apply Kd.C_drewN|apply Kd.C_drew)));(case side3=>exact HC0_0.out);(case side4=>repeat (first|exact (Kd.C_below HR0_1.out HB.out)|(with_reducible first|apply Kd.C_alloc|apply Kd.C_drewN|apply Kd.C_drew)));(case side5=>exact HC0_1.out);(case side6=>repeat (first|exact (Kd.C_below HR0_2.out HB.out)|(with_reducible first|apply Kd.C_alloc|apply Kd.C_drewN|apply Kd.C_drew)));(case side7=>exact HC0_2.out);(case side8=>repeat (first|exact (Kd.C_below HR0_3.out HB.out)|(with_reducible first|apply Kd.C_alloc|apply Kd.C_drewN|apply Kd.C_drew)));(case side9=>exact HC0_3.out);rintro e w16 ⟨rfl,hb⟩;have n0_:=Aside0.mk (Kd.R_below (by (with_reducible repeat (first|apply Kd.R_alloc|apply Kd.R_drewN|apply Kd.R_drew));exact HO_7.out) hb);have n1_:=Aside0.mk (Kd.R_below (by (with_reducible repeat (first|apply Kd.R_alloc|apply Kd.R_drewN|apply Kd.R_drew));exact HO_8.out) hb);have n2_:=Aside0.mk (blk_below (g:=g0_) (o:=.cells #[.slice A0_0 l0_0.length c0_0,.slice A0_1 l0_1.length c0_1,.slice A0_2 l0_2.length c0_2,.slice A0_3 l0_3.length c0_3] 28 (0,0)) (by (with_reducible repeat first|apply blk_drewN|apply blk_drew|apply blk_alloc);exact BK0.out) hb);have n3_:=Aside0.mk (below_step (by repeat (first|(with_reducible first|exact HB.out|apply below_alloc|apply pw_below_drewN|apply below_drew1|refine below_set ?_ GE0.out)|exact HB.out)) hb);clear HO_7;clear HO_8;clear BK0;clear HB;have HO_7:=n0_;have HO_8:=n1_;have BK0:=n2_;have HB:=n3_;clear n0_ n1_ n2_ n3_;(try clear hb);(try clear hb2);(try clear hk);(try clear hi))))
     go_meet
     case rel=>exact ⟨_,(true),(by first|rfl|(simp;done)|(simp [*];done)),H',⟨by have:=HK1.out;first|omega|exact Nat.le_refl _⟩,⟨by (with_reducible repeat (first|apply Kd.R_alloc|apply Kd.R_drewN|apply Kd.R_drew));exact HO_7.out⟩,⟨by (with_reducible repeat (first|apply Kd.R_alloc|apply Kd.R_drewN|apply Kd.R_drew));exact HO_8.out⟩,⟨by (with_reducible repeat first|apply blk_drewN|apply blk_drew|apply blk_alloc);exact BK0.out⟩,⟨by repeat (first|(with_reducible first|exact HB.out|apply below_alloc|apply pw_below_drewN|apply below_drew1|refine below_set ?_ GE0.out)|exact HB.out)⟩⟩
   case rest =>
    clear HC7
    try clear c1;try clear p2;try clear c4;try clear c9;try clear c11;try clear p2
    obtain ⟨kq,x28_6,rfl,HA,HJ6,HO_7,HO_8,BK0,HB⟩:=hcut
    cases kq with
    | zero=>exact absurd HA.out (by simp [impl_Space_record.j1])
    | succ kj6 =>
     have H:=HA.out
     clear HA
     simp only [impl_Space_record.j1] at H
     by_cases c17 : x28_6 = true
     ·subst c17
      rw [if_pos rfl] at H
      simp only [Option.some.injEq,Prod.mk.injEq] at H
      obtain ⟨rfl,rfl,rfl⟩:=H
      go_wp2
      repeat (go_quiet (fail);try go_wp2)
      go_ret3
      exact ⟨_,_,by first|rfl|(simp [*,errW_none,errW_some] <;> rfl),by first|exact Kd.R_nil _ _ _ _ _|exact Kd.N_nil _ _ _ _ _|exact Kd.V_nil _ _ _ _ _|exact Kd.Q_nil _ _ _ _ _|exact Kd.S_nil _ _ _ _ _,by first|exact Kd.R_nil _ _ _ _ _|exact Kd.N_nil _ _ _ _ _|exact Kd.V_nil _ _ _ _ _|exact Kd.Q_nil _ _ _ _ _|exact Kd.S_nil _ _ _ _ _,by repeat (first|(with_reducible first|exact HB.out|apply below_alloc|apply pw_below_drewN|apply below_drew1|refine below_set ?_ GE0.out)|exact HB.out)⟩
     ·replace c17:=Bool.eq_false_iff.mpr c17
      subst c17
      rw [if_neg (show ¬ (false = true) by decide)] at H
      by_cases c18 : 0 ≤ x1_1
      ·rw [if_pos c18] at H
       have c18b0 : decide (0 ≤ x1_1) = true:=decide_eq_true c18
       clear c18
       by_cases c19 : x1_1 < (l0_0.length : Int)
       ·rw [if_pos c19] at H
        have c19b0 : decide (x1_1 < (l0_0.length : Int)) = true:=decide_eq_true c19
        clear c19
        replace H:=Option.bind_eq_some_iff.mp H
        obtain ⟨t247,A200,H⟩:=H
        have A20:=Aside0.mk A200
        clear A200
        by_cases c21 : 3 < ((rd_L1 l0_0 x1_1).length : Int)
        ·rw [if_pos c21] at H
         have c21b0 : decide (3 < ((rd_L1 l0_0 x1_1).length : Int)) = true:=decide_eq_true c21
         have c21b1 : decide (3 < (rd_L1 l0_0 x1_1).length) = true:=decide_eq_true (by omega)
         clear c21
         have HC22:=Aside0.mk H
         clear H
         have hcz23_0 : wc.cell? ⟨g0_,0,none⟩ = some (.slice A0_0 l0_0.length c0_0):=(blk_cell BK0.out 0).trans rfl
         have hcz23_1 : wc.cell? ⟨g0_,1,none⟩ = some (.slice A0_1 l0_1.length c0_1):=(blk_cell BK0.out 1).trans rfl
         have hcz23_2 : wc.cell? ⟨g0_,2,none⟩ = some (.slice A0_2 l0_2.length c0_2):=(blk_cell BK0.out 2).trans rfl
         have hcz23_3 : wc.cell? ⟨g0_,3,none⟩ = some (.slice A0_3 l0_3.length c0_3):=(blk_cell BK0.out 3).trans rfl
         have hfz23_0:=blk_frozen BK0.out 0
         have hfz23_1:=blk_frozen BK0.out 1
         have hfz23_2:=blk_frozen BK0.out 2
         have hfz23_3:=blk_frozen BK0.out 3
         have p246 : 0 ≤ (x1_1 : Int):=of_decide_eq_true (by assumption)
         have q246 : x1_1 < (l0_0.length : Int):=of_decide_eq_true (by assumption)
         obtain ⟨ad246,A246_0,c246_0,e246,hx246_0,hl246_0,hi246_0⟩:=at_L1 HR0_0.out x1_1 p246 q246
         cases e246
         (try replace hx246_0:=(HB.out.cell (World.block_lt_of_cell? w _ hx246_0)).trans hx246_0)
         have HR246_0:=Aside0.mk hi246_0
         have HC246_0:=Aside0.mk hl246_0
         clear hi246_0 hl246_0
         replace p246:=eq_true p246
         replace q246:=eq_true q246
         go_upto_region 7 with (first|(go_at_call 63;(with_reducible refine (impl_numberAt.calls _ _ (rd_L1 l0_0 x1_1) 1 t247 _ ?side1 ?side2 A20.out).mono ?_);(case side1=>repeat (first|exact (Kd.C_below HR246_0.out HB.out)|(with_reducible first|apply Kd.C_alloc|apply Kd.C_drewN|apply Kd.C_drew)));(case side2=>exact HC246_0.out);rintro e w' ⟨rfl,⟨nd,rfl⟩⟩;(try first|exact ⟨rfl,_,World.drewN_drewN _ _ _⟩|exact ⟨rfl,_,Eq.trans (World.drewN_drewN _ _ _) (congrArg (World.drewN _) (Nat.add_assoc _ _ _))⟩);have p248 : 0 ≤ (3 : Int):=(by omega);have q248 : 3 < ((rd_L1 l0_0 x1_1).length : Int):=of_decide_eq_true (by assumption);obtain ⟨ad248,e248,hx248_0⟩:=Kd.at_int HR246_0.out 3 p248 q248;cases e248;(try simp only [show (3 : Int).toNat = 3 from rfl,Nat.reduceMul,Nat.reduceEqDiff,Go.Addr.add,↓reduceIte] at hx248_0);have qi248 : (3 < (rd_L1 l0_0 x1_1).length) = True:=eq_true (by omega);(try rw [show ((3 : Int)).toNat = 3 from rfl] at hx248_0);(try replace hx248_0:=(HB.out.cell (World.block_lt_of_cell? w _ hx248_0)).trans hx248_0);replace p248:=eq_true p248;replace q248:=eq_true q248;obtain ⟨Ao24,co24,eo24⟩:=Kd.R_slice HO_8.out;subst eo24))
         repeat (go_quiet (first|(go_at_call 63;(with_reducible refine (impl_numberAt.calls _ _ (rd_L1 l0_0 x1_1) 1 t247 _ ?side1 ?side2 A20.out).mono ?_);(case side1=>repeat (first|exact (Kd.C_below HR246_0.out HB.out)|(with_reducible first|apply Kd.C_alloc|apply Kd.C_drewN|apply Kd.C_drew)));(case side2=>exact HC246_0.out);rintro e w' ⟨rfl,⟨nd,rfl⟩⟩;(try first|exact ⟨rfl,_,World.drewN_drewN _ _ _⟩|exact ⟨rfl,_,Eq.trans (World.drewN_drewN _ _ _) (congrArg (World.drewN _) (Nat.add_assoc _ _ _))⟩);have p248 : 0 ≤ (3 : Int):=(by omega);have q248 : 3 < ((rd_L1 l0_0 x1_1).length : Int):=of_decide_eq_true (by assumption);obtain ⟨ad248,e248,hx248_0⟩:=Kd.at_int HR246_0.out 3 p248 q248;cases e248;(try simp only [show (3 : Int).toNat = 3 from rfl,Nat.reduceMul,Nat.reduceEqDiff,Go.Addr.add,↓reduceIte] at hx248_0);have qi248 : (3 < (rd_L1 l0_0 x1_1).length) = True:=eq_true (by omega);(try rw [show ((3 : Int)).toNat = 3 from rfl] at hx248_0);(try replace hx248_0:=(HB.out.cell (World.block_lt_of_cell? w _ hx248_0)).trans hx248_0);replace p248:=eq_true p248;replace q248:=eq_true q248;obtain ⟨Ao24,co24,eo24⟩:=Kd.R_slice HO_8.out;subst eo24));go_upto_region 7 with (first|(go_at_call 63;(with_reducible refine (impl_numberAt.calls _ _ (rd_L1 l0_0 x1_1) 1 t247 _ ?side1 ?side2 A20.out).mono ?_);(case side1=>repeat (first|exact (Kd.C_below HR246_0.out HB.out)|(with_reducible first|apply Kd.C_alloc|apply Kd.C_drewN|apply Kd.C_drew)));(case side2=>exact HC246_0.out);rintro e w' ⟨rfl,⟨nd,rfl⟩⟩;(try first|exact ⟨rfl,_,World.drewN_drewN _ _ _⟩|exact ⟨rfl,_,Eq.trans (World.drewN_drewN _ _ _) (congrArg (World.drewN _) (Nat.add_assoc _ _ _))⟩);have p248 : 0 ≤ (3 : Int):=(by omega);have q248 : 3 < ((rd_L1 l0_0 x1_1).length : Int):=of_decide_eq_true (by assumption);obtain ⟨ad248,e248,hx248_0⟩:=Kd.at_int HR246_0.out 3 p248 q248;cases e248;(try simp only [show (3 : Int).toNat = 3 from rfl,Nat.reduceMul,Nat.reduceEqDiff,Go.Addr.add,↓reduceIte] at hx248_0);have qi248 : (3 < (rd_L1 l0_0 x1_1).length) = True:=eq_true (by omega);(try rw [show ((3 : Int)).toNat = 3 from rfl] at hx248_0);(try replace hx248_0:=(HB.out.cell (World.block_lt_of_cell? w _ hx248_0)).trans hx248_0);replace p248:=eq_true p248;replace q248:=eq_true q248;obtain ⟨Ao24,co24,eo24⟩:=Kd.R_slice HO_8.out;subst eo24)))
         (try simp only [Act.put,List.setIfInBounds_toArray,List.set_cons_zero,List.set_cons_succ])
         go_cut [75] (fun v75 wc=>∃ (kq : Nat) (x75_21 : Bool),v75 = .bool x75_21∧Aside0 (impl_Space_record.j2 kq x1_1 x7_1 x8_1 (rd_L1 l0_0 x1_1) t247 (wrap64 (rd (rd_L1 l0_0 x1_1) 3)) x75_21 l0_0 l0_1 l0_2 l0_3 = some (r1,r2,r3))∧Aside0 (kq ≤ kj6)∧Aside0 (Kd.R (Kd.int .u8) 5 wc w.heap.size (fun _=>True) u7 x7_1)∧Aside0 (Kd.R (Kd.int .i64) 3 wc w.heap.size (fun _=>True) (.slice Ao24 x8_1.length co24) x8_1)∧Aside0 (wc.heap[g0_]? = some (.cells #[(.slice (some ad246) l0_0.length c0_0),(.slice A0_1 l0_1.length c0_1),(.slice A0_2 l0_2.length c0_2),(.slice A0_3 l0_3.length c0_3)] 28 (0,0)))∧Aside0 (Below w.heap.size w wc))
         case first =>
          have H:=HC22.out
          clear HC22
          by_cases c25 : 0 < ((rd_L1 l0_0 x1_1).length : Int)
          ·rw [if_pos c25] at H
           have c25b0 : decide (0 < ((rd_L1 l0_0 x1_1).length : Int)) = true:=decide_eq_true c25
           have c25b1 : decide (0 < (rd_L1 l0_0 x1_1).length) = true:=decide_eq_true (by omega)
           clear c25
           (first|rw [c25b0]|(simp only [i64_w,i32_w];rw [c25b0])|skip)
           by_cases c26 : (rd (rd_L1 l0_0 x1_1) 0) = 82
           ·rw [if_pos c26] at H
            have c26b0 : ((rd (rd_L1 l0_0 x1_1) 0) == 82) = true:=beq_iff_eq.mpr c26
            have c26b1 : ((rd (rd_L1 l0_0 x1_1) 0) != 82) = false:=bne_eq_false_iff_eq.mpr c26
            clear c26
            by_cases c27 : (wrap64 (rd (rd_L1 l0_0 x1_1) 3)) > 124
            ·rw [if_pos c27] at H
             have c27b0 : decide (124 < (wrap64 (rd (rd_L1 l0_0 x1_1) 3))) = true:=decide_eq_true c27
             clear c27
             have H':=Aside0.mk H
             clear H
             have p249 : 0 ≤ (0 : Int):=(by omega)
             have q249 : 0 < ((rd_L1 l0_0 x1_1).length : Int):=of_decide_eq_true (by assumption)
             obtain ⟨ad249,e249,hx249_0⟩:=Kd.at_int HR246_0.out 0 p249 q249
             obtain rfl : ad248 = ad249:=(by injection e249)
             have qi249 : (0 < (rd_L1 l0_0 x1_1).length) = True:=eq_true (by omega)
             (try rw [show ((0 : Int)).toNat = 0 from rfl] at hx249_0)
             (try rw [Addr.add_zero'] at hx249_0)
             (try replace hx249_0:=(HB.out.cell (World.block_lt_of_cell? w _ hx249_0)).trans hx249_0)
             replace p249:=eq_true p249
             replace q249:=eq_true q249
             go_wp2
             repeat (go_quiet (fail);try go_wp2)
             go_meet
             case rel=>exact ⟨_,(true),(by first|rfl|(simp;done)|(simp [*];done)),H',⟨by have:=HK1.out;have:=HJ6.out;first|omega|exact Nat.le_refl _⟩,⟨by (with_reducible repeat (first|apply Kd.R_alloc|apply Kd.R_drewN|apply Kd.R_drew));exact HO_7.out⟩,⟨by (with_reducible repeat (first|apply Kd.R_alloc|apply Kd.R_drewN|apply Kd.R_drew));exact HO_8.out⟩,⟨by (with_reducible repeat first|apply blk_drewN|apply blk_drew|apply blk_alloc);exact BK0.out⟩,⟨by repeat (first|(with_reducible first|exact HB.out|apply below_alloc|apply pw_below_drewN|apply below_drew1|refine below_set ?_ GE0.out)|exact HB.out)⟩⟩
            ·rw [if_neg c27] at H
             have c27b0 : decide (124 < (wrap64 (rd (rd_L1 l0_0 x1_1) 3))) = false:=decide_eq_false c27
             clear c27
             by_cases c28 : t247 = 0
             ·rw [if_pos c28] at H
              have c28b0 : (t247 == 0) = true:=beq_iff_eq.mpr c28
              have c28b1 : (t247 != 0) = false:=bne_eq_false_iff_eq.mpr c28
              clear c28
              by_cases c29 : (wrap64 (rd (rd_L1 l0_0 x1_1) 3)) = 0
              ·rw [if_pos c29] at H
               have c29b0 : ((wrap64 (rd (rd_L1 l0_0 x1_1) 3)) == 0) = true:=beq_iff_eq.mpr c29
               have c29b1 : ((wrap64 (rd (rd_L1 l0_0 x1_1) 3)) != 0) = false:=bne_eq_false_iff_eq.mpr c29
               clear c29
               by_cases c30 : ((x8_1.length : Int) = 0)
               ·rw [if_pos c30] at H
                have c30b0 : ((x8_1.length : Int) == 0) = true:=beq_iff_eq.mpr c30
                have c30b1 : ((x8_1.length : Int) != 0) = false:=bne_eq_false_iff_eq.mpr c30
                clear c30
                obtain ⟨ji31,hji31⟩ : ∃ j_ : Int,(wrap64 (4 + (wrap64 (rd (rd_L1 l0_0 x1_1) 3)))) = j_:=⟨_,rfl⟩
                replace H : (if 0 ≤ (ji31) then (if (ji31) ≤ ((rd_L1 l0_0 x1_1).length : Int) then ((slices_ContainsFunc_byte_byte_64.f kj6 ((rd_L1 l0_0 x1_1).drop ((ji31) : Int).toNat) ()).bind fun t251=>(impl_Space_record.j2 kj6 x1_1 x7_1 x8_1 (rd_L1 l0_0 x1_1) t247 (wrap64 (rd (rd_L1 l0_0 x1_1) 3)) t251 l0_0 l0_1 l0_2 l0_3)) else (none)) else (none)) = some (r1,r2,r3):=by first|(rw [hji31] at H;exact H)|(simp only [hji31] at H ⊢;exact H)
                have hji31w : (IntKind.i64.wrap (4 + (wrap64 (rd (rd_L1 l0_0 x1_1) 3)))) = ji31:=(i64_w _).trans hji31
                by_cases c32 : 0 ≤ (ji31)
                ·rw [if_pos c32] at H
                 have c32b0:=eq_true c32
                 have c32b1 : decide (0 ≤ (ji31)) = true:=decide_eq_true c32
                 clear c32
                 by_cases c33 : (ji31) ≤ ((rd_L1 l0_0 x1_1).length : Int)
                 ·rw [if_pos c33] at H
                  have c33b0:=eq_true c33
                  have c33b1 : decide ((ji31) ≤ ((rd_L1 l0_0 x1_1).length : Int)) = true:=decide_eq_true c33
                  clear c33
                  replace H:=Option.bind_eq_some_iff.mp H
                  obtain ⟨t251,A340,H⟩:=H
                  have A34:=Aside0.mk A340
                  clear A340
                  have H':=Aside0.mk H
                  clear H
                  have p249 : 0 ≤ (0 : Int):=(by omega)
                  have q249 : 0 < ((rd_L1 l0_0 x1_1).length : Int):=of_decide_eq_true (by assumption)
                  obtain ⟨ad249,e249,hx249_0⟩:=Kd.at_int HR246_0.out 0 p249 q249
                  obtain rfl : ad248 = ad249:=(by injection e249)
                  have qi249 : (0 < (rd_L1 l0_0 x1_1).length) = True:=eq_true (by omega)
                  (try rw [show ((0 : Int)).toNat = 0 from rfl] at hx249_0)
                  (try rw [Addr.add_zero'] at hx249_0)
                  (try replace hx249_0:=(HB.out.cell (World.block_lt_of_cell? w _ hx249_0)).trans hx249_0)
                  replace p249:=eq_true p249
                  replace q249:=eq_true q249
                  obtain ⟨i035,hi035,_,hsz35,_⟩:=info_parts info5
                  obtain ⟨A35,hcut35,hA35,hC35⟩:=print_drop_of (P:=Try.prog) (Value.int .u8) 0 23 5 .i64 Try.underlying23 hi035 hsz35 (some ad248) c246_0 (rd_L1 l0_0 x1_1) (ji31) (of_decide_eq_true (by assumption)) (of_decide_eq_true (by assumption)) HC246_0.out
                  have HR250:=Aside0.mk (Kd.C_of_reads (h1:=fun _=>rfl) (hA35 _ (Kd.reads_of_C HR246_0.out)))
                  have HC250:=Aside0.mk hC35
                  clear hA35 hC35 hi035 hsz35
                  go_wp2_with (first|(go_at_call 64;refine calls_of_args (args':=#[.slice A35 ((rd_L1 l0_0 x1_1).drop ((ji31) : Int).toNat).length (c246_0 - (ji31).toNat),.func (.func 65) #[] #[]]) (by first|rfl|(rw [show ((rd_L1 l0_0 x1_1).drop ((ji31) : Int).toNat).length = ((rd_L1 l0_0 x1_1).length - (ji31).toNat) from List.length_drop] <;> rfl)|(simp only [hji31];rfl)|(simp only [List.length_drop,List.length_take];done)|(simp only [List.length_drop,List.length_take];rfl)) ?_;(with_reducible refine (slices_ContainsFunc_byte_byte_64.calls kj6 _ _ ((rd_L1 l0_0 x1_1).drop ((ji31) : Int).toNat) () t251 _ ?side1 ?side2 A34.out).mono ?_);(case side1=>repeat (first|exact (Kd.C_below HR250.out HB.out)|(with_reducible first|apply Kd.C_alloc|apply Kd.C_drewN|apply Kd.C_drew)));(case side2=>exact HC250.out);rintro e w' ⟨rfl,⟨nd,rfl⟩⟩;(try first|exact ⟨rfl,_,World.drewN_drewN _ _ _⟩|exact ⟨rfl,_,Eq.trans (World.drewN_drewN _ _ _) (congrArg (World.drewN _) (Nat.add_assoc _ _ _))⟩)))
                  repeat (go_quiet (first|(go_at_call 64;refine calls_of_args (args':=#[.slice A35 ((rd_L1 l0_0 x1_1).drop ((ji31) : Int).toNat).length (c246_0 - (ji31).toNat),.func (.func 65) #[] #[]]) (by first|rfl|(rw [show ((rd_L1 l0_0 x1_1).drop ((ji31) : Int).toNat).length = ((rd_L1 l0_0 x1_1).length - (ji31).toNat) from List.length_drop] <;> rfl)|(simp only [hji31];rfl)|(simp only [List.length_drop,List.length_take];done)|(simp only [List.length_drop,List.length_take];rfl)) ?_;(with_reducible refine (slices_ContainsFunc_byte_byte_64.calls kj6 _ _ ((rd_L1 l0_0 x1_1).drop ((ji31) : Int).toNat) () t251 _ ?side1 ?side2 A34.out).mono ?_);(case side1=>repeat (first|exact (Kd.C_below HR250.out HB.out)|(with_reducible first|apply Kd.C_alloc|apply Kd.C_drewN|apply Kd.C_drew)));(case side2=>exact HC250.out);rintro e w' ⟨rfl,⟨nd,rfl⟩⟩;(try first|exact ⟨rfl,_,World.drewN_drewN _ _ _⟩|exact ⟨rfl,_,Eq.trans (World.drewN_drewN _ _ _) (congrArg (World.drewN _) (Nat.add_assoc _ _ _))⟩)));try go_wp2_with (first|(go_at_call 64;refine calls_of_args (args':=#[.slice A35 ((rd_L1 l0_0 x1_1).drop ((ji31) : Int).toNat).length (c246_0 - (ji31).toNat),.func (.func 65) #[] #[]]) (by first|rfl|(rw [show ((rd_L1 l0_0 x1_1).drop ((ji31) : Int).toNat).length = ((rd_L1 l0_0 x1_1).length - (ji31).toNat) from List.length_drop] <;> rfl)|(simp only [hji31];rfl)|(simp only [List.length_drop,List.length_take];done)|(simp only [List.length_drop,List.length_take];rfl)) ?_;(with_reducible refine (slices_ContainsFunc_byte_byte_64.calls kj6 _ _ ((rd_L1 l0_0 x1_1).drop ((ji31) : Int).toNat) () t251 _ ?side1 ?side2 A34.out).mono ?_);(case side1=>repeat (first|exact (Kd.C_below HR250.out HB.out)|(with_reducible first|apply Kd.C_alloc|apply Kd.C_drewN|apply Kd.C_drew)));(case side2=>exact HC250.out);rintro e w' ⟨rfl,⟨nd,rfl⟩⟩;(try first|exact ⟨rfl,_,World.drewN_drewN _ _ _⟩|exact ⟨rfl,_,Eq.trans (World.drewN_drewN _ _ _) (congrArg (World.drewN _) (Nat.add_assoc _ _ _))⟩))))
                  have hwr_ : wrap64 (rd (rd_L1 l0_0 x1_1) 3) = IntKind.i64.wrap (rd (rd_L1 l0_0 x1_1) 3):=by rw [IntKind.wrap_i64];unfold wrap64;first|rfl|omega
                  (try rw [hwr_])
                  (try rw [← c30b0])
                  go_meet
                  case rel=>exact ⟨_,(t251),(by first|rfl|(simp;done)|(simp [*];done)),H',⟨by have:=HK1.out;have:=HJ6.out;first|omega|exact Nat.le_refl _⟩,⟨by (with_reducible repeat (first|apply Kd.R_alloc|apply Kd.R_drewN|apply Kd.R_drew));exact HO_7.out⟩,⟨by (with_reducible repeat (first|apply Kd.R_alloc|apply Kd.R_drewN|apply Kd.R_drew));exact HO_8.out⟩,⟨by (with_reducible repeat first|apply blk_drewN|apply blk_drew|apply blk_alloc);exact BK0.out⟩,⟨by repeat (first|(with_reducible first|exact HB.out|apply below_alloc|apply pw_below_drewN|apply below_drew1|refine below_set ?_ GE0.out)|exact HB.out)⟩⟩
                 ·rw [if_neg c33] at H
                  exact absurd H (by simp)
                ·rw [if_neg c32] at H
                 exact absurd H (by simp)
               ·rw [if_neg c30] at H
                have c30b0 : ((x8_1.length : Int) == 0) = false:=beq_eq_false_iff_ne.mpr c30
                have c30b1 : ((x8_1.length : Int) != 0) = true:=bne_iff_ne.mpr c30
                have c30b2 : ¬ (x8_1 = []):=fun h_=>c30 (by rw [h_];rfl)
                have H':=Aside0.mk H
                clear H
                have p249 : 0 ≤ (0 : Int):=(by omega)
                have q249 : 0 < ((rd_L1 l0_0 x1_1).length : Int):=of_decide_eq_true (by assumption)
                obtain ⟨ad249,e249,hx249_0⟩:=Kd.at_int HR246_0.out 0 p249 q249
                obtain rfl : ad248 = ad249:=(by injection e249)
                have qi249 : (0 < (rd_L1 l0_0 x1_1).length) = True:=eq_true (by omega)
                (try rw [show ((0 : Int)).toNat = 0 from rfl] at hx249_0)
                (try rw [Addr.add_zero'] at hx249_0)
                (try replace hx249_0:=(HB.out.cell (World.block_lt_of_cell? w _ hx249_0)).trans hx249_0)
                replace p249:=eq_true p249
                replace q249:=eq_true q249
                go_wp2
                repeat (go_quiet (fail);try go_wp2)
                have hwr_ : wrap64 (rd (rd_L1 l0_0 x1_1) 3) = IntKind.i64.wrap (rd (rd_L1 l0_0 x1_1) 3):=by rw [IntKind.wrap_i64];unfold wrap64;first|rfl|omega
                (try rw [hwr_])
                (try rw [← c30b0])
                go_meet
                case rel=>exact ⟨_,(true),(by first|rfl|(simp;done)|(simp [*];done)),H',⟨by have:=HK1.out;have:=HJ6.out;first|omega|exact Nat.le_refl _⟩,⟨by (with_reducible repeat (first|apply Kd.R_alloc|apply Kd.R_drewN|apply Kd.R_drew));exact HO_7.out⟩,⟨by (with_reducible repeat (first|apply Kd.R_alloc|apply Kd.R_drewN|apply Kd.R_drew));exact HO_8.out⟩,⟨by (with_reducible repeat first|apply blk_drewN|apply blk_drew|apply blk_alloc);exact BK0.out⟩,⟨by repeat (first|(with_reducible first|exact HB.out|apply below_alloc|apply pw_below_drewN|apply below_drew1|refine below_set ?_ GE0.out)|exact HB.out)⟩⟩
              ·rw [if_neg c29] at H
               have c29b0 : ((wrap64 (rd (rd_L1 l0_0 x1_1) 3)) == 0) = false:=beq_eq_false_iff_ne.mpr c29
               have c29b1 : ((wrap64 (rd (rd_L1 l0_0 x1_1) 3)) != 0) = true:=bne_iff_ne.mpr c29
               obtain ⟨ji36,hji36⟩ : ∃ j_ : Int,(wrap64 (4 + (wrap64 (rd (rd_L1 l0_0 x1_1) 3)))) = j_:=⟨_,rfl⟩
               replace H : (if 0 ≤ (ji36) then (if (ji36) ≤ ((rd_L1 l0_0 x1_1).length : Int) then ((slices_ContainsFunc_byte_byte_64.f kj6 ((rd_L1 l0_0 x1_1).drop ((ji36) : Int).toNat) ()).bind fun t253=>(impl_Space_record.j2 kj6 x1_1 x7_1 x8_1 (rd_L1 l0_0 x1_1) t247 (wrap64 (rd (rd_L1 l0_0 x1_1) 3)) t253 l0_0 l0_1 l0_2 l0_3)) else (none)) else (none)) = some (r1,r2,r3):=by first|(rw [hji36] at H;exact H)|(simp only [hji36] at H ⊢;exact H)
               have hji36w : (IntKind.i64.wrap (4 + (wrap64 (rd (rd_L1 l0_0 x1_1) 3)))) = ji36:=(i64_w _).trans hji36
               by_cases c37 : 0 ≤ (ji36)
               ·rw [if_pos c37] at H
                have c37b0:=eq_true c37
                have c37b1 : decide (0 ≤ (ji36)) = true:=decide_eq_true c37
                clear c37
                by_cases c38 : (ji36) ≤ ((rd_L1 l0_0 x1_1).length : Int)
                ·rw [if_pos c38] at H
                 have c38b0:=eq_true c38
                 have c38b1 : decide ((ji36) ≤ ((rd_L1 l0_0 x1_1).length : Int)) = true:=decide_eq_true c38
                 clear c38
                 replace H:=Option.bind_eq_some_iff.mp H
                 obtain ⟨t253,A390,H⟩:=H
                 have A39:=Aside0.mk A390
                 clear A390
                 have H':=Aside0.mk H
                 clear H
                 have p249 : 0 ≤ (0 : Int):=(by omega)
                 have q249 : 0 < ((rd_L1 l0_0 x1_1).length : Int):=of_decide_eq_true (by assumption)
                 obtain ⟨ad249,e249,hx249_0⟩:=Kd.at_int HR246_0.out 0 p249 q249
                 obtain rfl : ad248 = ad249:=(by injection e249)
                 have qi249 : (0 < (rd_L1 l0_0 x1_1).length) = True:=eq_true (by omega)
                 (try rw [show ((0 : Int)).toNat = 0 from rfl] at hx249_0)
                 (try rw [Addr.add_zero'] at hx249_0)
                 (try replace hx249_0:=(HB.out.cell (World.block_lt_of_cell? w _ hx249_0)).trans hx249_0)
                 replace p249:=eq_true p249
                 replace q249:=eq_true q249
                 obtain ⟨i040,hi040,_,hsz40,_⟩:=info_parts info5
                 obtain ⟨A40,hcut40,hA40,hC40⟩:=print_drop_of (P:=Try.prog) (Value.int .u8) 0 23 5 .i64 Try.underlying23 hi040 hsz40 (some ad248) c246_0 (rd_L1 l0_0 x1_1) (ji36) (of_decide_eq_true (by assumption)) (of_decide_eq_true (by assumption)) HC246_0.out
                 have HR252:=Aside0.mk (Kd.C_of_reads (h1:=fun _=>rfl) (hA40 _ (Kd.reads_of_C HR246_0.out)))
                 have HC252:=Aside0.mk hC40
                 clear hA40 hC40 hi040 hsz40
                 go_wp2_with (first|(go_at_call 64;refine calls_of_args (args':=#[.slice A40 ((rd_L1 l0_0 x1_1).drop ((ji36) : Int).toNat).length (c246_0 - (ji36).toNat),.func (.func 65) #[] #[]]) (by first|rfl|(rw [show ((rd_L1 l0_0 x1_1).drop ((ji36) : Int).toNat).length = ((rd_L1 l0_0 x1_1).length - (ji36).toNat) from List.length_drop] <;> rfl)|(simp only [hji36];rfl)|(simp only [List.length_drop,List.length_take];done)|(simp only [List.length_drop,List.length_take];rfl)) ?_;(with_reducible refine (slices_ContainsFunc_byte_byte_64.calls kj6 _ _ ((rd_L1 l0_0 x1_1).drop ((ji36) : Int).toNat) () t253 _ ?side1 ?side2 A39.out).mono ?_);(case side1=>repeat (first|exact (Kd.C_below HR252.out HB.out)|(with_reducible first|apply Kd.C_alloc|apply Kd.C_drewN|apply Kd.C_drew)));(case side2=>exact HC252.out);rintro e w' ⟨rfl,⟨nd,rfl⟩⟩;(try first|exact ⟨rfl,_,World.drewN_drewN _ _ _⟩|exact ⟨rfl,_,Eq.trans (World.drewN_drewN _ _ _) (congrArg (World.drewN _) (Nat.add_assoc _ _ _))⟩)))
                 repeat (go_quiet (first|(go_at_call 64;refine calls_of_args (args':=#[.slice A40 ((rd_L1 l0_0 x1_1).drop ((ji36) : Int).toNat).length (c246_0 - (ji36).toNat),.func (.func 65) #[] #[]]) (by first|rfl|(rw [show ((rd_L1 l0_0 x1_1).drop ((ji36) : Int).toNat).length = ((rd_L1 l0_0 x1_1).length - (ji36).toNat) from List.length_drop] <;> rfl)|(simp only [hji36];rfl)|(simp only [List.length_drop,List.length_take];done)|(simp only [List.length_drop,List.length_take];rfl)) ?_;(with_reducible refine (slices_ContainsFunc_byte_byte_64.calls kj6 _ _ ((rd_L1 l0_0 x1_1).drop ((ji36) : Int).toNat) () t253 _ ?side1 ?side2 A39.out).mono ?_);(case side1=>repeat (first|exact (Kd.C_below HR252.out HB.out)|(with_reducible first|apply Kd.C_alloc|apply Kd.C_drewN|apply Kd.C_drew)));(case side2=>exact HC252.out);rintro e w' ⟨rfl,⟨nd,rfl⟩⟩;(try first|exact ⟨rfl,_,World.drewN_drewN _ _ _⟩|exact ⟨rfl,_,Eq.trans (World.drewN_drewN _ _ _) (congrArg (World.drewN _) (Nat.add_assoc _ _ _))⟩)));try go_wp2_with (first|(go_at_call 64;refine calls_of_args (args':=#[.slice A40 ((rd_L1 l0_0 x1_1).drop ((ji36) : Int).toNat).length (c246_0 - (ji36).toNat),.func (.func 65) #[] #[]]) (by first|rfl|(rw [show ((rd_L1 l0_0 x1_1).drop ((ji36) : Int).toNat).length = ((rd_L1 l0_0 x1_1).length - (ji36).toNat) from List.length_drop] <;> rfl)|(simp only [hji36];rfl)|(simp only [List.length_drop,List.length_take];done)|(simp only [List.length_drop,List.length_take];rfl)) ?_;(with_reducible refine (slices_ContainsFunc_byte_byte_64.calls kj6 _ _ ((rd_L1 l0_0 x1_1).drop ((ji36) : Int).toNat) () t253 _ ?side1 ?side2 A39.out).mono ?_);(case side1=>repeat (first|exact (Kd.C_below HR252.out HB.out)|(with_reducible first|apply Kd.C_alloc|apply Kd.C_drewN|apply Kd.C_drew)));(case side2=>exact HC252.out);rintro e w' ⟨rfl,⟨nd,rfl⟩⟩;(try first|exact ⟨rfl,_,World.drewN_drewN _ _ _⟩|exact ⟨rfl,_,Eq.trans (World.drewN_drewN _ _ _) (congrArg (World.drewN _) (Nat.add_assoc _ _ _))⟩))))
                 have hwr_ : wrap64 (rd (rd_L1 l0_0 x1_1) 3) = IntKind.i64.wrap (rd (rd_L1 l0_0 x1_1) 3):=by rw [IntKind.wrap_i64];unfold wrap64;first|rfl|omega
                 (try rw [hwr_])
                 go_meet
                 case rel=>exact ⟨_,(t253),(by first|rfl|(simp;done)|(simp [*];done)),H',⟨by have:=HK1.out;have:=HJ6.out;first|omega|exact Nat.le_refl _⟩,⟨by (with_reducible repeat (first|apply Kd.R_alloc|apply Kd.R_drewN|apply Kd.R_drew));exact HO_7.out⟩,⟨by (with_reducible repeat (first|apply Kd.R_alloc|apply Kd.R_drewN|apply Kd.R_drew));exact HO_8.out⟩,⟨by (with_reducible repeat first|apply blk_drewN|apply blk_drew|apply blk_alloc);exact BK0.out⟩,⟨by repeat (first|(with_reducible first|exact HB.out|apply below_alloc|apply pw_below_drewN|apply below_drew1|refine below_set ?_ GE0.out)|exact HB.out)⟩⟩
                ·rw [if_neg c38] at H
                 exact absurd H (by simp)
               ·rw [if_neg c37] at H
                exact absurd H (by simp)
             ·rw [if_neg c28] at H
              have c28b0 : (t247 == 0) = false:=beq_eq_false_iff_ne.mpr c28
              have c28b1 : (t247 != 0) = true:=bne_iff_ne.mpr c28
              by_cases c41 : (wrap64 (rd (rd_L1 l0_0 x1_1) 3)) < 124
              ·rw [if_pos c41] at H
               have c41b0 : decide ((wrap64 (rd (rd_L1 l0_0 x1_1) 3)) < 124) = true:=decide_eq_true c41
               clear c41
               have H':=Aside0.mk H
               clear H
               have p249 : 0 ≤ (0 : Int):=(by omega)
               have q249 : 0 < ((rd_L1 l0_0 x1_1).length : Int):=of_decide_eq_true (by assumption)
               obtain ⟨ad249,e249,hx249_0⟩:=Kd.at_int HR246_0.out 0 p249 q249
               obtain rfl : ad248 = ad249:=(by injection e249)
               have qi249 : (0 < (rd_L1 l0_0 x1_1).length) = True:=eq_true (by omega)
               (try rw [show ((0 : Int)).toNat = 0 from rfl] at hx249_0)
               (try rw [Addr.add_zero'] at hx249_0)
               (try replace hx249_0:=(HB.out.cell (World.block_lt_of_cell? w _ hx249_0)).trans hx249_0)
               replace p249:=eq_true p249
               replace q249:=eq_true q249
               go_wp2
               repeat (go_quiet (fail);try go_wp2)
               go_meet
               case rel=>exact ⟨_,(true),(by first|rfl|(simp;done)|(simp [*];done)),H',⟨by have:=HK1.out;have:=HJ6.out;first|omega|exact Nat.le_refl _⟩,⟨by (with_reducible repeat (first|apply Kd.R_alloc|apply Kd.R_drewN|apply Kd.R_drew));exact HO_7.out⟩,⟨by (with_reducible repeat (first|apply Kd.R_alloc|apply Kd.R_drewN|apply Kd.R_drew));exact HO_8.out⟩,⟨by (with_reducible repeat first|apply blk_drewN|apply blk_drew|apply blk_alloc);exact BK0.out⟩,⟨by repeat (first|(with_reducible first|exact HB.out|apply below_alloc|apply pw_below_drewN|apply below_drew1|refine below_set ?_ GE0.out)|exact HB.out)⟩⟩
              ·rw [if_neg c41] at H
               have c41b0 : decide ((wrap64 (rd (rd_L1 l0_0 x1_1) 3)) < 124) = false:=decide_eq_false c41
               clear c41
               by_cases c42 : (wrap64 (rd (rd_L1 l0_0 x1_1) 3)) = 0
               ·rw [if_pos c42] at H
                have c42b0 : ((wrap64 (rd (rd_L1 l0_0 x1_1) 3)) == 0) = true:=beq_iff_eq.mpr c42
                have c42b1 : ((wrap64 (rd (rd_L1 l0_0 x1_1) 3)) != 0) = false:=bne_eq_false_iff_eq.mpr c42
                clear c42
                by_cases c43 : ((x8_1.length : Int) = 0)
                ·rw [if_pos c43] at H
                 have c43b0 : ((x8_1.length : Int) == 0) = true:=beq_iff_eq.mpr c43
                 have c43b1 : ((x8_1.length : Int) != 0) = false:=bne_eq_false_iff_eq.mpr c43
                 clear c43
                 obtain ⟨ji44,hji44⟩ : ∃ j_ : Int,(wrap64 (4 + (wrap64 (rd (rd_L1 l0_0 x1_1) 3)))) = j_:=⟨_,rfl⟩
                 replace H : (if 0 ≤ (ji44) then (if (ji44) ≤ ((rd_L1 l0_0 x1_1).length : Int) then ((slices_ContainsFunc_byte_byte_64.f kj6 ((rd_L1 l0_0 x1_1).drop ((ji44) : Int).toNat) ()).bind fun t255=>(impl_Space_record.j2 kj6 x1_1 x7_1 x8_1 (rd_L1 l0_0 x1_1) t247 (wrap64 (rd (rd_L1 l0_0 x1_1) 3)) t255 l0_0 l0_1 l0_2 l0_3)) else (none)) else (none)) = some (r1,r2,r3):=by first|(rw [hji44] at H;exact H)|(simp only [hji44] at H ⊢;exact H)
                 have hji44w : (IntKind.i64.wrap (4 + (wrap64 (rd (rd_L1 l0_0 x1_1) 3)))) = ji44:=(i64_w _).trans hji44
                 by_cases c45 : 0 ≤ (ji44)
                 ·rw [if_pos c45] at H
                  have c45b0:=eq_true c45
                  have c45b1 : decide (0 ≤ (ji44)) = true:=decide_eq_true c45
                  clear c45
                  by_cases c46 : (ji44) ≤ ((rd_L1 l0_0 x1_1).length : Int)
                  ·rw [if_pos c46] at H
                   have c46b0:=eq_true c46
                   have c46b1 : decide ((ji44) ≤ ((rd_L1 l0_0 x1_1).length : Int)) = true:=decide_eq_true c46
                   clear c46
                   replace H:=Option.bind_eq_some_iff.mp H
                   obtain ⟨t255,A470,H⟩:=H
                   have A47:=Aside0.mk A470
                   clear A470
                   have H':=Aside0.mk H
                   clear H
                   have p249 : 0 ≤ (0 : Int):=(by omega)
                   have q249 : 0 < ((rd_L1 l0_0 x1_1).length : Int):=of_decide_eq_true (by assumption)
                   obtain ⟨ad249,e249,hx249_0⟩:=Kd.at_int HR246_0.out 0 p249 q249
                   obtain rfl : ad248 = ad249:=(by injection e249)
                   have qi249 : (0 < (rd_L1 l0_0 x1_1).length) = True:=eq_true (by omega)
                   (try rw [show ((0 : Int)).toNat = 0 from rfl] at hx249_0)
                   (try rw [Addr.add_zero'] at hx249_0)
                   (try replace hx249_0:=(HB.out.cell (World.block_lt_of_cell? w _ hx249_0)).trans hx249_0)
                   replace p249:=eq_true p249
                   replace q249:=eq_true q249
                   obtain ⟨i048,hi048,_,hsz48,_⟩:=info_parts info5
                   obtain ⟨A48,hcut48,hA48,hC48⟩:=print_drop_of (P:=Try.prog) (Value.int .u8) 0 23 5 .i64 Try.underlying23 hi048 hsz48 (some ad248) c246_0 (rd_L1 l0_0 x1_1) (ji44) (of_decide_eq_true (by assumption)) (of_decide_eq_true (by assumption)) HC246_0.out
                   have HR254:=Aside0.mk (Kd.C_of_reads (h1:=fun _=>rfl) (hA48 _ (Kd.reads_of_C HR246_0.out)))
                   have HC254:=Aside0.mk hC48
                   clear hA48 hC48 hi048 hsz48
                   go_wp2_with (first|(go_at_call 64;refine calls_of_args (args':=#[.slice A48 ((rd_L1 l0_0 x1_1).drop ((ji44) : Int).toNat).length (c246_0 - (ji44).toNat),.func (.func 65) #[] #[]]) (by first|rfl|(rw [show ((rd_L1 l0_0 x1_1).drop ((ji44) : Int).toNat).length = ((rd_L1 l0_0 x1_1).length - (ji44).toNat) from List.length_drop] <;> rfl)|(simp only [hji44];rfl)|(simp only [List.length_drop,List.length_take];done)|(simp only [List.length_drop,List.length_take];rfl)) ?_;(with_reducible refine (slices_ContainsFunc_byte_byte_64.calls kj6 _ _ ((rd_L1 l0_0 x1_1).drop ((ji44) : Int).toNat) () t255 _ ?side1 ?side2 A47.out).mono ?_);(case side1=>repeat (first|exact (Kd.C_below HR254.out HB.out)|(with_reducible first|apply Kd.C_alloc|apply Kd.C_drewN|apply Kd.C_drew)));(case side2=>exact HC254.out);rintro e w' ⟨rfl,⟨nd,rfl⟩⟩;(try first|exact ⟨rfl,_,World.drewN_drewN _ _ _⟩|exact ⟨rfl,_,Eq.trans (World.drewN_drewN _ _ _) (congrArg (World.drewN _) (Nat.add_assoc _ _ _))⟩)))
                   repeat (go_quiet (first|(go_at_call 64;refine calls_of_args (args':=#[.slice A48 ((rd_L1 l0_0 x1_1).drop ((ji44) : Int).toNat).length (c246_0 - (ji44).toNat),.func (.func 65) #[] #[]]) (by first|rfl|(rw [show ((rd_L1 l0_0 x1_1).drop ((ji44) : Int).toNat).length = ((rd_L1 l0_0 x1_1).length - (ji44).toNat) from List.length_drop] <;> rfl)|(simp only [hji44];rfl)|(simp only [List.length_drop,List.length_take];done)|(simp only [List.length_drop,List.length_take];rfl)) ?_;(with_reducible refine (slices_ContainsFunc_byte_byte_64.calls kj6 _ _ ((rd_L1 l0_0 x1_1).drop ((ji44) : Int).toNat) () t255 _ ?side1 ?side2 A47.out).mono ?_);(case side1=>repeat (first|exact (Kd.C_below HR254.out HB.out)|(with_reducible first|apply Kd.C_alloc|apply Kd.C_drewN|apply Kd.C_drew)));(case side2=>exact HC254.out);rintro e w' ⟨rfl,⟨nd,rfl⟩⟩;(try first|exact ⟨rfl,_,World.drewN_drewN _ _ _⟩|exact ⟨rfl,_,Eq.trans (World.drewN_drewN _ _ _) (congrArg (World.drewN _) (Nat.add_assoc _ _ _))⟩)));try go_wp2_with (first|(go_at_call 64;refine calls_of_args (args':=#[.slice A48 ((rd_L1 l0_0 x1_1).drop ((ji44) : Int).toNat).length (c246_0 - (ji44).toNat),.func (.func 65) #[] #[]]) (by first|rfl|(rw [show ((rd_L1 l0_0 x1_1).drop ((ji44) : Int).toNat).length = ((rd_L1 l0_0 x1_1).length - (ji44).toNat) from List.length_drop] <;> rfl)|(simp only [hji44];rfl)|(simp only [List.length_drop,List.length_take];done)|(simp only [List.length_drop,List.length_take];rfl)) ?_;(with_reducible refine (slices_ContainsFunc_byte_byte_64.calls kj6 _ _ ((rd_L1 l0_0 x1_1).drop ((ji44) : Int).toNat) () t255 _ ?side1 ?side2 A47.out).mono ?_);(case side1=>repeat (first|exact (Kd.C_below HR254.out HB.out)|(with_reducible first|apply Kd.C_alloc|apply Kd.C_drewN|apply Kd.C_drew)));(case side2=>exact HC254.out);rintro e w' ⟨rfl,⟨nd,rfl⟩⟩;(try first|exact ⟨rfl,_,World.drewN_drewN _ _ _⟩|exact ⟨rfl,_,Eq.trans (World.drewN_drewN _ _ _) (congrArg (World.drewN _) (Nat.add_assoc _ _ _))⟩))))
                   have hwr_ : wrap64 (rd (rd_L1 l0_0 x1_1) 3) = IntKind.i64.wrap (rd (rd_L1 l0_0 x1_1) 3):=by rw [IntKind.wrap_i64];unfold wrap64;first|rfl|omega
                   (try rw [hwr_])
                   (try rw [← c43b0])
                   go_meet
                   case rel=>exact ⟨_,(t255),(by first|rfl|(simp;done)|(simp [*];done)),H',⟨by have:=HK1.out;have:=HJ6.out;first|omega|exact Nat.le_refl _⟩,⟨by (with_reducible repeat (first|apply Kd.R_alloc|apply Kd.R_drewN|apply Kd.R_drew));exact HO_7.out⟩,⟨by (with_reducible repeat (first|apply Kd.R_alloc|apply Kd.R_drewN|apply Kd.R_drew));exact HO_8.out⟩,⟨by (with_reducible repeat first|apply blk_drewN|apply blk_drew|apply blk_alloc);exact BK0.out⟩,⟨by repeat (first|(with_reducible first|exact HB.out|apply below_alloc|apply pw_below_drewN|apply below_drew1|refine below_set ?_ GE0.out)|exact HB.out)⟩⟩
                  ·rw [if_neg c46] at H
                   exact absurd H (by simp)
                 ·rw [if_neg c45] at H
                  exact absurd H (by simp)
                ·rw [if_neg c43] at H
                 have c43b0 : ((x8_1.length : Int) == 0) = false:=beq_eq_false_iff_ne.mpr c43
                 have c43b1 : ((x8_1.length : Int) != 0) = true:=bne_iff_ne.mpr c43
                 have c43b2 : ¬ (x8_1 = []):=fun h_=>c43 (by rw [h_];rfl)
                 have H':=Aside0.mk H
                 clear H
                 have p249 : 0 ≤ (0 : Int):=(by omega)
                 have q249 : 0 < ((rd_L1 l0_0 x1_1).length : Int):=of_decide_eq_true (by assumption)
                 obtain ⟨ad249,e249,hx249_0⟩:=Kd.at_int HR246_0.out 0 p249 q249
                 obtain rfl : ad248 = ad249:=(by injection e249)
                 have qi249 : (0 < (rd_L1 l0_0 x1_1).length) = True:=eq_true (by omega)
                 (try rw [show ((0 : Int)).toNat = 0 from rfl] at hx249_0)
                 (try rw [Addr.add_zero'] at hx249_0)
                 (try replace hx249_0:=(HB.out.cell (World.block_lt_of_cell? w _ hx249_0)).trans hx249_0)
                 replace p249:=eq_true p249
                 replace q249:=eq_true q249
                 go_wp2
                 repeat (go_quiet (fail);try go_wp2)
                 have hwr_ : wrap64 (rd (rd_L1 l0_0 x1_1) 3) = IntKind.i64.wrap (rd (rd_L1 l0_0 x1_1) 3):=by rw [IntKind.wrap_i64];unfold wrap64;first|rfl|omega
                 (try rw [hwr_])
                 (try rw [← c43b0])
                 go_meet
                 case rel=>exact ⟨_,(true),(by first|rfl|(simp;done)|(simp [*];done)),H',⟨by have:=HK1.out;have:=HJ6.out;first|omega|exact Nat.le_refl _⟩,⟨by (with_reducible repeat (first|apply Kd.R_alloc|apply Kd.R_drewN|apply Kd.R_drew));exact HO_7.out⟩,⟨by (with_reducible repeat (first|apply Kd.R_alloc|apply Kd.R_drewN|apply Kd.R_drew));exact HO_8.out⟩,⟨by (with_reducible repeat first|apply blk_drewN|apply blk_drew|apply blk_alloc);exact BK0.out⟩,⟨by repeat (first|(with_reducible first|exact HB.out|apply below_alloc|apply pw_below_drewN|apply below_drew1|refine below_set ?_ GE0.out)|exact HB.out)⟩⟩
               ·rw [if_neg c42] at H
                have c42b0 : ((wrap64 (rd (rd_L1 l0_0 x1_1) 3)) == 0) = false:=beq_eq_false_iff_ne.mpr c42
                have c42b1 : ((wrap64 (rd (rd_L1 l0_0 x1_1) 3)) != 0) = true:=bne_iff_ne.mpr c42
                obtain ⟨ji49,hji49⟩ : ∃ j_ : Int,(wrap64 (4 + (wrap64 (rd (rd_L1 l0_0 x1_1) 3)))) = j_:=⟨_,rfl⟩
                replace H : (if 0 ≤ (ji49) then (if (ji49) ≤ ((rd_L1 l0_0 x1_1).length : Int) then ((slices_ContainsFunc_byte_byte_64.f kj6 ((rd_L1 l0_0 x1_1).drop ((ji49) : Int).toNat) ()).bind fun t257=>(impl_Space_record.j2 kj6 x1_1 x7_1 x8_1 (rd_L1 l0_0 x1_1) t247 (wrap64 (rd (rd_L1 l0_0 x1_1) 3)) t257 l0_0 l0_1 l0_2 l0_3)) else (none)) else (none)) = some (r1,r2,r3):=by first|(rw [hji49] at H;exact H)|(simp only [hji49] at H ⊢;exact H)
                have hji49w : (IntKind.i64.wrap (4 + (wrap64 (rd (rd_L1 l0_0 x1_1) 3)))) = ji49:=(i64_w _).trans hji49
                by_cases c50 : 0 ≤ (ji49)
                ·rw [if_pos c50] at H
                 have c50b0:=eq_true c50
                 have c50b1 : decide (0 ≤ (ji49)) = true:=decide_eq_true c50
                 clear c50
                 by_cases c51 : (ji49) ≤ ((rd_L1 l0_0 x1_1).length : Int)
                 ·rw [if_pos c51] at H
                  have c51b0:=eq_true c51
                  have c51b1 : decide ((ji49) ≤ ((rd_L1 l0_0 x1_1).length : Int)) = true:=decide_eq_true c51
                  clear c51
                  replace H:=Option.bind_eq_some_iff.mp H
                  obtain ⟨t257,A520,H⟩:=H
                  have A52:=Aside0.mk A520
                  clear A520
                  have H':=Aside0.mk H
                  clear H
                  have p249 : 0 ≤ (0 : Int):=(by omega)
                  have q249 : 0 < ((rd_L1 l0_0 x1_1).length : Int):=of_decide_eq_true (by assumption)
                  obtain ⟨ad249,e249,hx249_0⟩:=Kd.at_int HR246_0.out 0 p249 q249
                  obtain rfl : ad248 = ad249:=(by injection e249)
                  have qi249 : (0 < (rd_L1 l0_0 x1_1).length) = True:=eq_true (by omega)
                  (try rw [show ((0 : Int)).toNat = 0 from rfl] at hx249_0)
                  (try rw [Addr.add_zero'] at hx249_0)
                  (try replace hx249_0:=(HB.out.cell (World.block_lt_of_cell? w _ hx249_0)).trans hx249_0)
                  replace p249:=eq_true p249
                  replace q249:=eq_true q249
                  obtain ⟨i053,hi053,_,hsz53,_⟩:=info_parts info5
                  obtain ⟨A53,hcut53,hA53,hC53⟩:=print_drop_of (P:=Try.prog) (Value.int .u8) 0 23 5 .i64 Try.underlying23 hi053 hsz53 (some ad248) c246_0 (rd_L1 l0_0 x1_1) (ji49) (of_decide_eq_true (by assumption)) (of_decide_eq_true (by assumption)) HC246_0.out
                  have HR256:=Aside0.mk (Kd.C_of_reads (h1:=fun _=>rfl) (hA53 _ (Kd.reads_of_C HR246_0.out)))
                  have HC256:=Aside0.mk hC53
                  clear hA53 hC53 hi053 hsz53
                  go_wp2_with (first|(go_at_call 64;refine calls_of_args (args':=#[.slice A53 ((rd_L1 l0_0 x1_1).drop ((ji49) : Int).toNat).length (c246_0 - (ji49).toNat),.func (.func 65) #[] #[]]) (by first|rfl|(rw [show ((rd_L1 l0_0 x1_1).drop ((ji49) : Int).toNat).length = ((rd_L1 l0_0 x1_1).length - (ji49).toNat) from List.length_drop] <;> rfl)|(simp only [hji49];rfl)|(simp only [List.length_drop,List.length_take];done)|(simp only [List.length_drop,List.length_take];rfl)) ?_;(with_reducible refine (slices_ContainsFunc_byte_byte_64.calls kj6 _ _ ((rd_L1 l0_0 x1_1).drop ((ji49) : Int).toNat) () t257 _ ?side1 ?side2 A52.out).mono ?_);(case side1=>repeat (first|exact (Kd.C_below HR256.out HB.out)|(with_reducible first|apply Kd.C_alloc|apply Kd.C_drewN|apply Kd.C_drew)));(case side2=>exact HC256.out);rintro e w' ⟨rfl,⟨nd,rfl⟩⟩;(try first|exact ⟨rfl,_,World.drewN_drewN _ _ _⟩|exact ⟨rfl,_,Eq.trans (World.drewN_drewN _ _ _) (congrArg (World.drewN _) (Nat.add_assoc _ _ _))⟩)))
                  repeat (go_quiet (first|(go_at_call 64;refine calls_of_args (args':=#[.slice A53 ((rd_L1 l0_0 x1_1).drop ((ji49) : Int).toNat).length (c246_0 - (ji49).toNat),.func (.func 65) #[] #[]]) (by first|rfl|(rw [show ((rd_L1 l0_0 x1_1).drop ((ji49) : Int).toNat).length = ((rd_L1 l0_0 x1_1).length - (ji49).toNat) from List.length_drop] <;> rfl)|(simp only [hji49];rfl)|(simp only [List.length_drop,List.length_take];done)|(simp only [List.length_drop,List.length_take];rfl)) ?_;(with_reducible refine (slices_ContainsFunc_byte_byte_64.calls kj6 _ _ ((rd_L1 l0_0 x1_1).drop ((ji49) : Int).toNat) () t257 _ ?side1 ?side2 A52.out).mono ?_);(case side1=>repeat (first|exact (Kd.C_below HR256.out HB.out)|(with_reducible first|apply Kd.C_alloc|apply Kd.C_drewN|apply Kd.C_drew)));(case side2=>exact HC256.out);rintro e w' ⟨rfl,⟨nd,rfl⟩⟩;(try first|exact ⟨rfl,_,World.drewN_drewN _ _ _⟩|exact ⟨rfl,_,Eq.trans (World.drewN_drewN _ _ _) (congrArg (World.drewN _) (Nat.add_assoc _ _ _))⟩)));try go_wp2_with (first|(go_at_call 64;refine calls_of_args (args':=#[.slice A53 ((rd_L1 l0_0 x1_1).drop ((ji49) : Int).toNat).length (c246_0 - (ji49).toNat),.func (.func 65) #[] #[]]) (by first|rfl|(rw [show ((rd_L1 l0_0 x1_1).drop ((ji49) : Int).toNat).length = ((rd_L1 l0_0 x1_1).length - (ji49).toNat) from List.length_drop] <;> rfl)|(simp only [hji49];rfl)|(simp only [List.length_drop,List.length_take];done)|(simp only [List.length_drop,List.length_take];rfl)) ?_;(with_reducible refine (slices_ContainsFunc_byte_byte_64.calls kj6 _ _ ((rd_L1 l0_0 x1_1).drop ((ji49) : Int).toNat) () t257 _ ?side1 ?side2 A52.out).mono ?_);(case side1=>repeat (first|exact (Kd.C_below HR256.out HB.out)|(with_reducible first|apply Kd.C_alloc|apply Kd.C_drewN|apply Kd.C_drew)));(case side2=>exact HC256.out);rintro e w' ⟨rfl,⟨nd,rfl⟩⟩;(try first|exact ⟨rfl,_,World.drewN_drewN _ _ _⟩|exact ⟨rfl,_,Eq.trans (World.drewN_drewN _ _ _) (congrArg (World.drewN _) (Nat.add_assoc _ _ _))⟩))))
                  have hwr_ : wrap64 (rd (rd_L1 l0_0 x1_1) 3) = IntKind.i64.wrap (rd (rd_L1 l0_0 x1_1) 3):=by rw [IntKind.wrap_i64];unfold wrap64;first|rfl|omega
                  (try rw [hwr_])
                  go_meet
                  case rel=>exact ⟨_,(t257),(by first|rfl|(simp;done)|(simp [*];done)),H',⟨by have:=HK1.out;have:=HJ6.out;first|omega|exact Nat.le_refl _⟩,⟨by (with_reducible repeat (first|apply Kd.R_alloc|apply Kd.R_drewN|apply Kd.R_drew));exact HO_7.out⟩,⟨by (with_reducible repeat (first|apply Kd.R_alloc|apply Kd.R_drewN|apply Kd.R_drew));exact HO_8.out⟩,⟨by (with_reducible repeat first|apply blk_drewN|apply blk_drew|apply blk_alloc);exact BK0.out⟩,⟨by repeat (first|(with_reducible first|exact HB.out|apply below_alloc|apply pw_below_drewN|apply below_drew1|refine below_set ?_ GE0.out)|exact HB.out)⟩⟩
                 ·rw [if_neg c51] at H
                  exact absurd H (by simp)
                ·rw [if_neg c50] at H
                 exact absurd H (by simp)
           ·rw [if_neg c26] at H
            have c26b0 : ((rd (rd_L1 l0_0 x1_1) 0) == 82) = false:=beq_eq_false_iff_ne.mpr c26
            have c26b1 : ((rd (rd_L1 l0_0 x1_1) 0) != 82) = true:=bne_iff_ne.mpr c26
            have H':=Aside0.mk H
            clear H
            have p249 : 0 ≤ (0 : Int):=(by omega)
            have q249 : 0 < ((rd_L1 l0_0 x1_1).length : Int):=of_decide_eq_true (by assumption)
            obtain ⟨ad249,e249,hx249_0⟩:=Kd.at_int HR246_0.out 0 p249 q249
            obtain rfl : ad248 = ad249:=(by injection e249)
            have qi249 : (0 < (rd_L1 l0_0 x1_1).length) = True:=eq_true (by omega)
            (try rw [show ((0 : Int)).toNat = 0 from rfl] at hx249_0)
            (try rw [Addr.add_zero'] at hx249_0)
            (try replace hx249_0:=(HB.out.cell (World.block_lt_of_cell? w _ hx249_0)).trans hx249_0)
            replace p249:=eq_true p249
            replace q249:=eq_true q249
            go_wp2
            repeat (go_quiet (fail);try go_wp2)
            go_meet
            case rel=>exact ⟨_,(true),(by first|rfl|(simp;done)|(simp [*];done)),H',⟨by have:=HK1.out;have:=HJ6.out;first|omega|exact Nat.le_refl _⟩,⟨by (with_reducible repeat (first|apply Kd.R_alloc|apply Kd.R_drewN|apply Kd.R_drew));exact HO_7.out⟩,⟨by (with_reducible repeat (first|apply Kd.R_alloc|apply Kd.R_drewN|apply Kd.R_drew));exact HO_8.out⟩,⟨by (with_reducible repeat first|apply blk_drewN|apply blk_drew|apply blk_alloc);exact BK0.out⟩,⟨by repeat (first|(with_reducible first|exact HB.out|apply below_alloc|apply pw_below_drewN|apply below_drew1|refine below_set ?_ GE0.out)|exact HB.out)⟩⟩
          ·rw [if_neg c25] at H
           exact absurd H (by simp)
         case rest =>
          clear HC22
          try clear c1;try clear c2;try clear p2;try clear q2;try clear hx2;try clear qi2;try clear c3;try clear c4;try clear c5;try clear p6;try clear c9;try clear c11;try clear c17;try clear c18;try clear c18b0;try clear c19;try clear c19b0;try clear c21;try clear c21b0;try clear c21b1;try clear c24;try clear p24;try clear q24;try clear hx24;try clear qi24;try clear c25;try clear c25b0;try clear c25b1;try clear c26;try clear c26b0;try clear c26b1;try clear c27;try clear c27b0;try clear c28;try clear c28b0;try clear c28b1;try clear c29;try clear c29b0;try clear c29b1;try clear c30;try clear c30b0;try clear c30b1;try clear c30b2;try clear c32;try clear c32b0;try clear c32b1;try clear c33;try clear c33b0;try clear c33b1;try clear c37;try clear c37b0;try clear c37b1;try clear c38;try clear c38b0;try clear c38b1;try clear c41;try clear c41b0;try clear c42;try clear c42b0;try clear c42b1;try clear c43;try clear c43b0;try clear c43b1;try clear c43b2;try clear c45;try clear c45b0;try clear c45b1;try clear c46;try clear c46b0;try clear c46b1;try clear c50;try clear c50b0;try clear c50b1;try clear c51;try clear c51b0;try clear c51b1;try clear hcz23_0;try clear hcz23_1;try clear hcz23_2;try clear hcz23_3;try clear hfz23_0;try clear hfz23_1;try clear hfz23_2;try clear hfz23_3;try clear hx246_0;try clear hx248_0;try clear hx249_0;try clear p2;try clear p246;try clear p248;try clear p249;try clear q246;try clear q248;try clear q249
          obtain ⟨kq,x75_21,rfl,HA,HJ21,HO_7,HO_8,BK0,HB⟩:=hcut
          cases kq with
          | zero=>exact absurd HA.out (by simp [impl_Space_record.j2])
          | succ kj21 =>
           have H:=HA.out
           clear HA
           simp only [impl_Space_record.j2] at H
           by_cases c54 : x75_21 = true
           ·subst c54
            rw [if_pos rfl] at H
            simp only [Option.some.injEq,Prod.mk.injEq] at H
            obtain ⟨rfl,rfl,rfl⟩:=H
            go_wp2
            repeat (go_quiet (fail);try go_wp2)
            go_ret3
            exact ⟨_,_,by first|rfl|(simp [*,errW_none,errW_some] <;> rfl),by first|exact Kd.R_nil _ _ _ _ _|exact Kd.N_nil _ _ _ _ _|exact Kd.V_nil _ _ _ _ _|exact Kd.Q_nil _ _ _ _ _|exact Kd.S_nil _ _ _ _ _,by first|exact Kd.R_nil _ _ _ _ _|exact Kd.N_nil _ _ _ _ _|exact Kd.V_nil _ _ _ _ _|exact Kd.Q_nil _ _ _ _ _|exact Kd.S_nil _ _ _ _ _,by repeat (first|(with_reducible first|exact HB.out|apply below_alloc|apply pw_below_drewN|apply below_drew1|refine below_set ?_ GE0.out)|exact HB.out)⟩
           ·replace c54:=Bool.eq_false_iff.mpr c54
            subst c54
            rw [if_neg (show ¬ (false = true) by decide)] at H
            by_cases c55 : 4 ≤ (wrap64 (4 + (wrap64 (rd (rd_L1 l0_0 x1_1) 3))))
            ·rw [if_pos c55] at H
             have c55b0:=eq_true c55
             have c55b1 : decide (4 ≤ (wrap64 (4 + (wrap64 (rd (rd_L1 l0_0 x1_1) 3))))) = true:=decide_eq_true c55
             by_cases c56 : (wrap64 (4 + (wrap64 (rd (rd_L1 l0_0 x1_1) 3)))) ≤ ((rd_L1 l0_0 x1_1).length : Int)
             ·rw [if_pos c56] at H
              have c56b0:=eq_true c56
              have c56b1 : decide ((wrap64 (4 + (wrap64 (rd (rd_L1 l0_0 x1_1) 3)))) ≤ ((rd_L1 l0_0 x1_1).length : Int)) = true:=decide_eq_true c56
              by_cases c57 : x7_1.length + (((rd_L1 l0_0 x1_1).take ((wrap64 (4 + (wrap64 (rd (rd_L1 l0_0 x1_1) 3)))) : Int).toNat).drop 4).length < 140737488355328
              ·rw [if_pos c57] at H
               have LMc57:=Aside0.mk c57
               clear c57
               obtain ⟨y259,hy259⟩ : ∃ y_ : List Int,y_ = (x7_1 ++ (((rd_L1 l0_0 x1_1).take ((wrap64 (4 + (wrap64 (rd (rd_L1 l0_0 x1_1) 3)))) : Int).toNat).drop 4)):=⟨_,rfl⟩
               replace H : (if x8_1.length < 17592186044416 then ((some (x8_1 ++ [x1_1] : List Int)).bind fun y262=>(if t247 = 0 then (some (y259,y262,true)) else (impl_Space_record.l0 kj21 t247 y259 y262 l0_0 l0_1 l0_2 l0_3))) else (none)) = some (r1,r2,r3):=by first|(rw [hy259];with_reducible exact H)|(have H2_:=(Option.bind_some _ _).symm.trans H;rw [hy259];with_reducible exact H2_)|(have H2_:=(Option.bind_some _ _).symm.trans H;with_reducible exact H2_)|with_reducible exact H|(rw [hy259];exact H)|exact H
               have Ny259:=Aside0.mk hy259
               clear hy259
               by_cases c58 : x8_1.length < 17592186044416
               ·rw [if_pos c58] at H
                have LMc58:=Aside0.mk c58
                clear c58
                obtain ⟨y262,hy262⟩ : ∃ y_ : List Int,y_ = (x8_1 ++ [x1_1]):=⟨_,rfl⟩
                replace H : (if t247 = 0 then (some (y259,y262,true)) else (impl_Space_record.l0 kj21 t247 y259 y262 l0_0 l0_1 l0_2 l0_3)) = some (r1,r2,r3):=by first|(rw [hy262];with_reducible exact H)|(have H2_:=(Option.bind_some _ _).symm.trans H;rw [hy262];with_reducible exact H2_)|(have H2_:=(Option.bind_some _ _).symm.trans H;with_reducible exact H2_)|with_reducible exact H|(rw [hy262];exact H)|exact H
                have Ny262:=Aside0.mk hy262
                clear hy262
                by_cases c59 : t247 = 0
                ·rw [if_pos c59] at H
                 have c59b0 : (t247 == 0) = true:=beq_iff_eq.mpr c59
                 have c59b1 : (t247 != 0) = false:=bne_eq_false_iff_eq.mpr c59
                 clear c59
                 simp only [Option.some.injEq,Prod.mk.injEq] at H
                 obtain ⟨rfl,rfl,rfl⟩:=H
                 obtain ⟨i060,hi060,_,hsz60,_⟩:=info_parts info5
                 obtain ⟨A60,hcut60,hA60,hC60⟩:=print_mid_of (P:=Try.prog) (Value.int .u8) 0 23 5 .i64 .i64 Try.underlying23 hi060 hsz60 (some ad248) c246_0 (rd_L1 l0_0 x1_1) 4 (wrap64 (4 + (wrap64 (rd (rd_L1 l0_0 x1_1) 3)))) (by omega) (by first|omega|exact of_decide_eq_true (by assumption)) (of_decide_eq_true (by assumption)) HC246_0.out
                 have HR258:=Aside0.mk (Kd.C_of_reads (h1:=fun _=>rfl) (hA60 _ (Kd.reads_of_C HR246_0.out)))
                 have HC258:=Aside0.mk hC60
                 clear hA60 hC60 hi060 hsz60
                 go_wp2_with (first|((with_reducible refine gate_builtin (b:=.append) (xs:=#[.tmp 76,.tmp 80]) rfl ?_);(try (refine gate_guard (by rfl) ?_;dsimp only));at_builtin;refine Kd.R_append_rows (Kd.int .u8) (w0:=w) w.heap.size rfl (.tmp 76) (.tmp 80) 23 5 (.int .u8 0) 1 rfl Try.underlying23 info5 rfl (by decide) (by omega) u7 x7_1 (((rd_L1 l0_0 x1_1).take ((wrap64 (4 + (wrap64 (rd (rd_L1 l0_0 x1_1) 3)))) : Int).toNat).drop 4) _ _ _ (fun _=>True) (fun _=>False) rfl rfl ?aO ?aR (fun _ _ h=>h) (fun _ h=>h.elim) ?aF ?aB ?aS ?aL ?_;(case aR=>first|(rw [← show (((rd_L1 l0_0 x1_1).take ((wrap64 (4 + (wrap64 (rd (rd_L1 l0_0 x1_1) 3)))) : Int).toNat).drop 4).length = ((wrap64 (4 + (wrap64 (rd (rd_L1 l0_0 x1_1) 3)))).toNat - 4) from (by rw [List.length_drop,List.length_take];have h_ : ((wrap64 (4 + (wrap64 (rd (rd_L1 l0_0 x1_1) 3)))) : Int) ≤ ((rd_L1 l0_0 x1_1).length : Int):=of_decide_eq_true (by assumption);omega)];repeat (first|exact (Kd.C_below HR258.out HB.out)|(with_reducible first|apply Kd.C_alloc|apply Kd.C_drewN|apply Kd.C_drew)))|(repeat (first|exact (Kd.C_below HR258.out HB.out)|(with_reducible first|apply Kd.C_alloc|apply Kd.C_drewN|apply Kd.C_drew))));(case aB=>exact (by repeat (first|(with_reducible first|exact HB.out|apply below_alloc|apply pw_below_drewN|apply below_drew1|refine below_set ?_ GE0.out)|exact HB.out)));(case aF=>exact (fun _ _=>trivial));(case aO=>exact (by (with_reducible repeat (first|apply Kd.R_alloc|apply Kd.R_drewN|apply Kd.R_drew));exact HO_7.out));(case aS=>exact (below_size (by repeat (first|(with_reducible first|exact HB.out|apply below_alloc|apply pw_below_drewN|apply below_drew1|refine below_set ?_ GE0.out)|exact HB.out))));(case aL=>have:=LMc57.out;have hlx_:=(show (((rd_L1 l0_0 x1_1).take ((wrap64 (4 + (wrap64 (rd (rd_L1 l0_0 x1_1) 3)))) : Int).toNat).drop 4).length = ((wrap64 (4 + (wrap64 (rd (rd_L1 l0_0 x1_1) 3)))).toNat - 4) from (by rw [List.length_drop,List.length_take];have h_ : ((wrap64 (4 + (wrap64 (rd (rd_L1 l0_0 x1_1) 3)))) : Int) ≤ ((rd_L1 l0_0 x1_1).length : Int):=of_decide_eq_true (by assumption);omega));omega);intro v260 w61 ho hb hg hat;rw [← Ny259.out] at ho;have n0_:=Aside0.mk (Kd.R_over' (by (with_reducible repeat (first|apply Kd.R_alloc|apply Kd.R_drewN|apply Kd.R_drew));exact HO_8.out) (Kd.R_typed (by (with_reducible repeat (first|apply Kd.R_alloc|apply Kd.R_drewN|apply Kd.R_drew));exact HO_7.out)) (by decide) hg);have n1_:=Aside0.mk (blk_grown (g:=g0_) (o:=.cells #[.slice (some ad246) l0_0.length c0_0,.slice A0_1 l0_1.length c0_1,.slice A0_2 l0_2.length c0_2,.slice A0_3 l0_3.length c0_3] 28 (0,0)) (by (with_reducible repeat first|apply blk_drewN|apply blk_drew|apply blk_alloc);exact BK0.out) hg (Kd.R_ne HO_7.out BK0.out (by decide)));have n2_:=Aside0.mk (hb);have n3_:=Aside0.mk (ho);clear HO_8;clear BK0;clear HB;clear HO_7;have HO_8:=n0_;have BK0:=n1_;have HB:=n2_;have HO261:=n3_;clear n0_ n1_ n2_ n3_;clear ho hb hg hat)|((with_reducible refine gate_builtin (b:=.append) (xs:=#[.tmp 82,.tmp 84]) rfl ?_);(try (refine gate_guard (by rfl) ?_;dsimp only));at_builtin;refine Kd.R_append (Kd.int .i64) (w0:=w) w.heap.size rfl (.tmp 82) (.tmp 84) 24 3 (.int .i64 0) 8 rfl Try.underlying24 info3 rfl (by decide) (by omega) (.slice Ao24 x8_1.length co24) x8_1 x1_1 [.int .i64 x1_1] (fun _=>True) (fun _=>False) rfl rfl ?aP (fun _ hk=>hk.elim) ?aF ?aO ?aB ?aS ?aL ?_;(case aP=>exact rfl);(case aB=>exact (by repeat (first|(with_reducible first|exact HB.out|apply below_alloc|apply pw_below_drewN|apply below_drew1|refine below_set ?_ GE0.out)|exact HB.out)));(case aF=>exact (fun _ _=>trivial));(case aO=>exact (by (with_reducible repeat (first|apply Kd.R_alloc|apply Kd.R_drewN|apply Kd.R_drew));exact HO_8.out));(case aS=>exact (below_size (by repeat (first|(with_reducible first|exact HB.out|apply below_alloc|apply pw_below_drewN|apply below_drew1|refine below_set ?_ GE0.out)|exact HB.out))));(case aL=>have:=LMc58.out;omega);intro v263 w62 ho hb hg hat;rw [← Ny262.out] at ho;have n0_:=Aside0.mk (blk_grown (g:=g0_) (o:=.cells #[.slice (some ad246) l0_0.length c0_0,.slice A0_1 l0_1.length c0_1,.slice A0_2 l0_2.length c0_2,.slice A0_3 l0_3.length c0_3] 28 (0,0)) (by (with_reducible repeat first|apply blk_drewN|apply blk_drew|apply blk_alloc);exact BK0.out) hg (Kd.R_ne HO_8.out BK0.out (by decide)));have n1_:=Aside0.mk (Kd.R_over' (by (with_reducible repeat (first|apply Kd.R_alloc|apply Kd.R_drewN|apply Kd.R_drew));exact HO261.out) (Kd.R_typed (by (with_reducible repeat (first|apply Kd.R_alloc|apply Kd.R_drewN|apply Kd.R_drew));exact HO_8.out)) (by decide) hg);have n2_:=Aside0.mk (hb);have n3_:=Aside0.mk (ho);clear BK0;clear HO261;clear HB;clear HO_8;have BK0:=n0_;have HO261:=n1_;have HB:=n2_;have HO264:=n3_;clear n0_ n1_ n2_ n3_;clear ho hb hg hat))
                 have hwq : ∀ n,IntKind.i64.wrap n = wrap64 n:=fun n=>by rw [IntKind.wrap_i64];unfold wrap64;first|rfl|omega
                 repeat (go_quiet (first|((with_reducible refine gate_builtin (b:=.append) (xs:=#[.tmp 76,.tmp 80]) rfl ?_);(try (refine gate_guard (by rfl) ?_;dsimp only));at_builtin;refine Kd.R_append_rows (Kd.int .u8) (w0:=w) w.heap.size rfl (.tmp 76) (.tmp 80) 23 5 (.int .u8 0) 1 rfl Try.underlying23 info5 rfl (by decide) (by omega) u7 x7_1 (((rd_L1 l0_0 x1_1).take ((wrap64 (4 + (wrap64 (rd (rd_L1 l0_0 x1_1) 3)))) : Int).toNat).drop 4) _ _ _ (fun _=>True) (fun _=>False) rfl rfl ?aO ?aR (fun _ _ h=>h) (fun _ h=>h.elim) ?aF ?aB ?aS ?aL ?_;(case aR=>first|(rw [← show (((rd_L1 l0_0 x1_1).take ((wrap64 (4 + (wrap64 (rd (rd_L1 l0_0 x1_1) 3)))) : Int).toNat).drop 4).length = ((wrap64 (4 + (wrap64 (rd (rd_L1 l0_0 x1_1) 3)))).toNat - 4) from (by rw [List.length_drop,List.length_take];have h_ : ((wrap64 (4 + (wrap64 (rd (rd_L1 l0_0 x1_1) 3)))) : Int) ≤ ((rd_L1 l0_0 x1_1).length : Int):=of_decide_eq_true (by assumption);omega)];repeat (first|exact (Kd.C_below HR258.out HB.out)|(with_reducible first|apply Kd.C_alloc|apply Kd.C_drewN|apply Kd.C_drew)))|(repeat (first|exact (Kd.C_below HR258.out HB.out)|(with_reducible first|apply Kd.C_alloc|apply Kd.C_drewN|apply Kd.C_drew))));(case aB=>exact (by repeat (first|(with_reducible first|exact HB.out|apply below_alloc|apply pw_below_drewN|apply below_drew1|refine below_set ?_ GE0.out)|exact HB.out)));(case aF=>exact (fun _ _=>trivial));(case aO=>exact (by (with_reducible repeat (first|apply Kd.R_alloc|apply Kd.R_drewN|apply Kd.R_drew));exact HO_7.out));(case aS=>exact (below_size (by repeat (first|(with_reducible first|exact HB.out|apply below_alloc|apply pw_below_drewN|apply below_drew1|refine below_set ?_ GE0.out)|exact HB.out))));(case aL=>have:=LMc57.out;have hlx_:=(show (((rd_L1 l0_0 x1_1).take ((wrap64 (4 + (wrap64 (rd (rd_L1 l0_0 x1_1) 3)))) : Int).toNat).drop 4).length = ((wrap64 (4 + (wrap64 (rd (rd_L1 l0_0 x1_1) 3)))).toNat - 4) from (by rw [List.length_drop,List.length_take];have h_ : ((wrap64 (4 + (wrap64 (rd (rd_L1 l0_0 x1_1) 3)))) : Int) ≤ ((rd_L1 l0_0 x1_1).length : Int):=of_decide_eq_true (by assumption);omega));omega);intro v260 w61 ho hb hg hat;rw [← Ny259.out] at ho;have n0_:=Aside0.mk (Kd.R_over' (by (with_reducible repeat (first|apply Kd.R_alloc|apply Kd.R_drewN|apply Kd.R_drew));exact HO_8.out) (Kd.R_typed (by (with_reducible repeat (first|apply Kd.R_alloc|apply Kd.R_drewN|apply Kd.R_drew));exact HO_7.out)) (by decide) hg);have n1_:=Aside0.mk (blk_grown (g:=g0_) (o:=.cells #[.slice (some ad246) l0_0.length c0_0,.slice A0_1 l0_1.length c0_1,.slice A0_2 l0_2.length c0_2,.slice A0_3 l0_3.length c0_3] 28 (0,0)) (by (with_reducible repeat first|apply blk_drewN|apply blk_drew|apply blk_alloc);exact BK0.out) hg (Kd.R_ne HO_7.out BK0.out (by decide)));have n2_:=Aside0.mk (hb);have n3_:=Aside0.mk (ho);clear HO_8;clear BK0;clear HB;clear HO_7;have HO_8:=n0_;have BK0:=n1_;have HB:=n2_;have HO261:=n3_;clear n0_ n1_ n2_ n3_;clear ho hb hg hat)|((with_reducible refine gate_builtin (b:=.append) (xs:=#[.tmp 82,.tmp 84]) rfl ?_);(try (refine gate_guard (by rfl) ?_;dsimp only));at_builtin;refine Kd.R_append (Kd.int .i64) (w0:=w) w.heap.size rfl (.tmp 82) (.tmp 84) 24 3 (.int .i64 0) 8 rfl Try.underlying24 info3 rfl (by decide) (by omega) (.slice Ao24 x8_1.length co24) x8_1 x1_1 [.int .i64 x1_1] (fun _=>True) (fun _=>False) rfl rfl ?aP (fun _ hk=>hk.elim) ?aF ?aO ?aB ?aS ?aL ?_;(case aP=>exact rfl);(case aB=>exact (by repeat (first|(with_reducible first|exact HB.out|apply below_alloc|apply pw_below_drewN|apply below_drew1|refine below_set ?_ GE0.out)|exact HB.out)));(case aF=>exact (fun _ _=>trivial));(case aO=>exact (by (with_reducible repeat (first|apply Kd.R_alloc|apply Kd.R_drewN|apply Kd.R_drew));exact HO_8.out));(case aS=>exact (below_size (by repeat (first|(with_reducible first|exact HB.out|apply below_alloc|apply pw_below_drewN|apply below_drew1|refine below_set ?_ GE0.out)|exact HB.out))));(case aL=>have:=LMc58.out;omega);intro v263 w62 ho hb hg hat;rw [← Ny262.out] at ho;have n0_:=Aside0.mk (blk_grown (g:=g0_) (o:=.cells #[.slice (some ad246) l0_0.length c0_0,.slice A0_1 l0_1.length c0_1,.slice A0_2 l0_2.length c0_2,.slice A0_3 l0_3.length c0_3] 28 (0,0)) (by (with_reducible repeat first|apply blk_drewN|apply blk_drew|apply blk_alloc);exact BK0.out) hg (Kd.R_ne HO_8.out BK0.out (by decide)));have n1_:=Aside0.mk (Kd.R_over' (by (with_reducible repeat (first|apply Kd.R_alloc|apply Kd.R_drewN|apply Kd.R_drew));exact HO261.out) (Kd.R_typed (by (with_reducible repeat (first|apply Kd.R_alloc|apply Kd.R_drewN|apply Kd.R_drew));exact HO_8.out)) (by decide) hg);have n2_:=Aside0.mk (hb);have n3_:=Aside0.mk (ho);clear BK0;clear HO261;clear HB;clear HO_8;have BK0:=n0_;have HO261:=n1_;have HB:=n2_;have HO264:=n3_;clear n0_ n1_ n2_ n3_;clear ho hb hg hat));try go_wp2_with (first|((with_reducible refine gate_builtin (b:=.append) (xs:=#[.tmp 76,.tmp 80]) rfl ?_);(try (refine gate_guard (by rfl) ?_;dsimp only));at_builtin;refine Kd.R_append_rows (Kd.int .u8) (w0:=w) w.heap.size rfl (.tmp 76) (.tmp 80) 23 5 (.int .u8 0) 1 rfl Try.underlying23 info5 rfl (by decide) (by omega) u7 x7_1 (((rd_L1 l0_0 x1_1).take ((wrap64 (4 + (wrap64 (rd (rd_L1 l0_0 x1_1) 3)))) : Int).toNat).drop 4) _ _ _ (fun _=>True) (fun _=>False) rfl rfl ?aO ?aR (fun _ _ h=>h) (fun _ h=>h.elim) ?aF ?aB ?aS ?aL ?_;(case aR=>first|(rw [← show (((rd_L1 l0_0 x1_1).take ((wrap64 (4 + (wrap64 (rd (rd_L1 l0_0 x1_1) 3)))) : Int).toNat).drop 4).length = ((wrap64 (4 + (wrap64 (rd (rd_L1 l0_0 x1_1) 3)))).toNat - 4) from (by rw [List.length_drop,List.length_take];have h_ : ((wrap64 (4 + (wrap64 (rd (rd_L1 l0_0 x1_1) 3)))) : Int) ≤ ((rd_L1 l0_0 x1_1).length : Int):=of_decide_eq_true (by assumption);omega)];repeat (first|exact (Kd.C_below HR258.out HB.out)|(with_reducible first|apply Kd.C_alloc|apply Kd.C_drewN|apply Kd.C_drew)))|(repeat (first|exact (Kd.C_below HR258.out HB.out)|(with_reducible first|apply Kd.C_alloc|apply Kd.C_drewN|apply Kd.C_drew))));(case aB=>exact (by repeat (first|(with_reducible first|exact HB.out|apply below_alloc|apply pw_below_drewN|apply below_drew1|refine below_set ?_ GE0.out)|exact HB.out)));(case aF=>exact (fun _ _=>trivial));(case aO=>exact (by (with_reducible repeat (first|apply Kd.R_alloc|apply Kd.R_drewN|apply Kd.R_drew));exact HO_7.out));(case aS=>exact (below_size (by repeat (first|(with_reducible first|exact HB.out|apply below_alloc|apply pw_below_drewN|apply below_drew1|refine below_set ?_ GE0.out)|exact HB.out))));(case aL=>have:=LMc57.out;have hlx_:=(show (((rd_L1 l0_0 x1_1).take ((wrap64 (4 + (wrap64 (rd (rd_L1 l0_0 x1_1) 3)))) : Int).toNat).drop 4).length = ((wrap64 (4 + (wrap64 (rd (rd_L1 l0_0 x1_1) 3)))).toNat - 4) from (by rw [List.length_drop,List.length_take];have h_ : ((wrap64 (4 + (wrap64 (rd (rd_L1 l0_0 x1_1) 3)))) : Int) ≤ ((rd_L1 l0_0 x1_1).length : Int):=of_decide_eq_true (by assumption);omega));omega);intro v260 w61 ho hb hg hat;rw [← Ny259.out] at ho;have n0_:=Aside0.mk (Kd.R_over' (by (with_reducible repeat (first|apply Kd.R_alloc|apply Kd.R_drewN|apply Kd.R_drew));exact HO_8.out) (Kd.R_typed (by (with_reducible repeat (first|apply Kd.R_alloc|apply Kd.R_drewN|apply Kd.R_drew));exact HO_7.out)) (by decide) hg);have n1_:=Aside0.mk (blk_grown (g:=g0_) (o:=.cells #[.slice (some ad246) l0_0.length c0_0,.slice A0_1 l0_1.length c0_1,.slice A0_2 l0_2.length c0_2,.slice A0_3 l0_3.length c0_3] 28 (0,0)) (by (with_reducible repeat first|apply blk_drewN|apply blk_drew|apply blk_alloc);exact BK0.out) hg (Kd.R_ne HO_7.out BK0.out (by decide)));have n2_:=Aside0.mk (hb);have n3_:=Aside0.mk (ho);clear HO_8;clear BK0;clear HB;clear HO_7;have HO_8:=n0_;have BK0:=n1_;have HB:=n2_;have HO261:=n3_;clear n0_ n1_ n2_ n3_;clear ho hb hg hat)|((with_reducible refine gate_builtin (b:=.append) (xs:=#[.tmp 82,.tmp 84]) rfl ?_);(try (refine gate_guard (by rfl) ?_;dsimp only));at_builtin;refine Kd.R_append (Kd.int .i64) (w0:=w) w.heap.size rfl (.tmp 82) (.tmp 84) 24 3 (.int .i64 0) 8 rfl Try.underlying24 info3 rfl (by decide) (by omega) (.slice Ao24 x8_1.length co24) x8_1 x1_1 [.int .i64 x1_1] (fun _=>True) (fun _=>False) rfl rfl ?aP (fun _ hk=>hk.elim) ?aF ?aO ?aB ?aS ?aL ?_;(case aP=>exact rfl);(case aB=>exact (by repeat (first|(with_reducible first|exact HB.out|apply below_alloc|apply pw_below_drewN|apply below_drew1|refine below_set ?_ GE0.out)|exact HB.out)));(case aF=>exact (fun _ _=>trivial));(case aO=>exact (by (with_reducible repeat (first|apply Kd.R_alloc|apply Kd.R_drewN|apply Kd.R_drew));exact HO_8.out));(case aS=>exact (below_size (by repeat (first|(with_reducible first|exact HB.out|apply below_alloc|apply pw_below_drewN|apply below_drew1|refine below_set ?_ GE0.out)|exact HB.out))));(case aL=>have:=LMc58.out;omega);intro v263 w62 ho hb hg hat;rw [← Ny262.out] at ho;have n0_:=Aside0.mk (blk_grown (g:=g0_) (o:=.cells #[.slice (some ad246) l0_0.length c0_0,.slice A0_1 l0_1.length c0_1,.slice A0_2 l0_2.length c0_2,.slice A0_3 l0_3.length c0_3] 28 (0,0)) (by (with_reducible repeat first|apply blk_drewN|apply blk_drew|apply blk_alloc);exact BK0.out) hg (Kd.R_ne HO_8.out BK0.out (by decide)));have n1_:=Aside0.mk (Kd.R_over' (by (with_reducible repeat (first|apply Kd.R_alloc|apply Kd.R_drewN|apply Kd.R_drew));exact HO261.out) (Kd.R_typed (by (with_reducible repeat (first|apply Kd.R_alloc|apply Kd.R_drewN|apply Kd.R_drew));exact HO_8.out)) (by decide) hg);have n2_:=Aside0.mk (hb);have n3_:=Aside0.mk (ho);clear BK0;clear HO261;clear HB;clear HO_8;have BK0:=n0_;have HO261:=n1_;have HB:=n2_;have HO264:=n3_;clear n0_ n1_ n2_ n3_;clear ho hb hg hat)))
                 go_ret3
                 exact ⟨_,_,by first|rfl|(simp [*,errW_none,errW_some] <;> rfl),by (with_reducible repeat (first|apply Kd.R_alloc|apply Kd.R_drewN|apply Kd.R_drew));exact HO261.out,by (with_reducible repeat (first|apply Kd.R_alloc|apply Kd.R_drewN|apply Kd.R_drew));exact HO264.out,by repeat (first|(with_reducible first|exact HB.out|apply below_alloc|apply pw_below_drewN|apply below_drew1|refine below_set ?_ GE0.out)|exact HB.out)⟩
                ·rw [if_neg c59] at H
                 have c59b0 : (t247 == 0) = false:=beq_eq_false_iff_ne.mpr c59
                 have c59b1 : (t247 != 0) = true:=bne_iff_ne.mpr c59
                 have H':=Aside0.mk H
                 clear H
                 obtain ⟨i063,hi063,_,hsz63,_⟩:=info_parts info5
                 obtain ⟨A63,hcut63,hA63,hC63⟩:=print_mid_of (P:=Try.prog) (Value.int .u8) 0 23 5 .i64 .i64 Try.underlying23 hi063 hsz63 (some ad248) c246_0 (rd_L1 l0_0 x1_1) 4 (wrap64 (4 + (wrap64 (rd (rd_L1 l0_0 x1_1) 3)))) (by omega) (by first|omega|exact of_decide_eq_true (by assumption)) (of_decide_eq_true (by assumption)) HC246_0.out
                 have HR258:=Aside0.mk (Kd.C_of_reads (h1:=fun _=>rfl) (hA63 _ (Kd.reads_of_C HR246_0.out)))
                 have HC258:=Aside0.mk hC63
                 clear hA63 hC63 hi063 hsz63
                 go_wp2_with (first|((with_reducible refine gate_builtin (b:=.append) (xs:=#[.tmp 76,.tmp 80]) rfl ?_);(try (refine gate_guard (by rfl) ?_;dsimp only));at_builtin;refine Kd.R_append_rows (Kd.int .u8) (w0:=w) w.heap.size rfl (.tmp 76) (.tmp 80) 23 5 (.int .u8 0) 1 rfl Try.underlying23 info5 rfl (by decide) (by omega) u7 x7_1 (((rd_L1 l0_0 x1_1).take ((wrap64 (4 + (wrap64 (rd (rd_L1 l0_0 x1_1) 3)))) : Int).toNat).drop 4) _ _ _ (fun _=>True) (fun _=>False) rfl rfl ?aO ?aR (fun _ _ h=>h) (fun _ h=>h.elim) ?aF ?aB ?aS ?aL ?_;(case aR=>first|(rw [← show (((rd_L1 l0_0 x1_1).take ((wrap64 (4 + (wrap64 (rd (rd_L1 l0_0 x1_1) 3)))) : Int).toNat).drop 4).length = ((wrap64 (4 + (wrap64 (rd (rd_L1 l0_0 x1_1) 3)))).toNat - 4) from (by rw [List.length_drop,List.length_take];have h_ : ((wrap64 (4 + (wrap64 (rd (rd_L1 l0_0 x1_1) 3)))) : Int) ≤ ((rd_L1 l0_0 x1_1).length : Int):=of_decide_eq_true (by assumption);omega)];repeat (first|exact (Kd.C_below HR258.out HB.out)|(with_reducible first|apply Kd.C_alloc|apply Kd.C_drewN|apply Kd.C_drew)))|(repeat (first|exact (Kd.C_below HR258.out HB.out)|(with_reducible first|apply Kd.C_alloc|apply Kd.C_drewN|apply Kd.C_drew))));(case aB=>exact (by repeat (first|(with_reducible first|exact HB.out|apply below_alloc|apply pw_below_drewN|apply below_drew1|refine below_set ?_ GE0.out)|exact HB.out)));(case aF=>exact (fun _ _=>trivial));(case aO=>exact (by (with_reducible repeat (first|apply Kd.R_alloc|apply Kd.R_drewN|apply Kd.R_drew));exact HO_7.out));(case aS=>exact (below_size (by repeat (first|(with_reducible first|exact HB.out|apply below_alloc|apply pw_below_drewN|apply below_drew1|refine below_set ?_ GE0.out)|exact HB.out))));(case aL=>have:=LMc57.out;have hlx_:=(show (((rd_L1 l0_0 x1_1).take ((wrap64 (4 + (wrap64 (rd (rd_L1 l0_0 x1_1) 3)))) : Int).toNat).drop 4).length = ((wrap64 (4 + (wrap64 (rd (rd_L1 l0_0 x1_1) 3)))).toNat - 4) from (by rw [List.length_drop,List.length_take];have h_ : ((wrap64 (4 + (wrap64 (rd (rd_L1 l0_0 x1_1) 3)))) : Int) ≤ ((rd_L1 l0_0 x1_1).length : Int):=of_decide_eq_true (by assumption);omega));omega);intro v260 w64 ho hb hg hat;rw [← Ny259.out] at ho;have n0_:=Aside0.mk (Kd.R_over' (by (with_reducible repeat (first|apply Kd.R_alloc|apply Kd.R_drewN|apply Kd.R_drew));exact HO_8.out) (Kd.R_typed (by (with_reducible repeat (first|apply Kd.R_alloc|apply Kd.R_drewN|apply Kd.R_drew));exact HO_7.out)) (by decide) hg);have n1_:=Aside0.mk (blk_grown (g:=g0_) (o:=.cells #[.slice (some ad246) l0_0.length c0_0,.slice A0_1 l0_1.length c0_1,.slice A0_2 l0_2.length c0_2,.slice A0_3 l0_3.length c0_3] 28 (0,0)) (by (with_reducible repeat first|apply blk_drewN|apply blk_drew|apply blk_alloc);exact BK0.out) hg (Kd.R_ne HO_7.out BK0.out (by decide)));have n2_:=Aside0.mk (hb);have n3_:=Aside0.mk (ho);clear HO_8;clear BK0;clear HB;clear HO_7;have HO_8:=n0_;have BK0:=n1_;have HB:=n2_;have HO261:=n3_;clear n0_ n1_ n2_ n3_;clear ho hb hg hat)|((with_reducible refine gate_builtin (b:=.append) (xs:=#[.tmp 82,.tmp 84]) rfl ?_);(try (refine gate_guard (by rfl) ?_;dsimp only));at_builtin;refine Kd.R_append (Kd.int .i64) (w0:=w) w.heap.size rfl (.tmp 82) (.tmp 84) 24 3 (.int .i64 0) 8 rfl Try.underlying24 info3 rfl (by decide) (by omega) (.slice Ao24 x8_1.length co24) x8_1 x1_1 [.int .i64 x1_1] (fun _=>True) (fun _=>False) rfl rfl ?aP (fun _ hk=>hk.elim) ?aF ?aO ?aB ?aS ?aL ?_;(case aP=>exact rfl);(case aB=>exact (by repeat (first|(with_reducible first|exact HB.out|apply below_alloc|apply pw_below_drewN|apply below_drew1|refine below_set ?_ GE0.out)|exact HB.out)));(case aF=>exact (fun _ _=>trivial));(case aO=>exact (by (with_reducible repeat (first|apply Kd.R_alloc|apply Kd.R_drewN|apply Kd.R_drew));exact HO_8.out));(case aS=>exact (below_size (by repeat (first|(with_reducible first|exact HB.out|apply below_alloc|apply pw_below_drewN|apply below_drew1|refine below_set ?_ GE0.out)|exact HB.out))));(case aL=>have:=LMc58.out;omega);intro v263 w65 ho hb hg hat;rw [← Ny262.out] at ho;have n0_:=Aside0.mk (blk_grown (g:=g0_) (o:=.cells #[.slice (some ad246) l0_0.length c0_0,.slice A0_1 l0_1.length c0_1,.slice A0_2 l0_2.length c0_2,.slice A0_3 l0_3.length c0_3] 28 (0,0)) (by (with_reducible repeat first|apply blk_drewN|apply blk_drew|apply blk_alloc);exact BK0.out) hg (Kd.R_ne HO_8.out BK0.out (by decide)));have n1_:=Aside0.mk (Kd.R_over' (by (with_reducible repeat (first|apply Kd.R_alloc|apply Kd.R_drewN|apply Kd.R_drew));exact HO261.out) (Kd.R_typed (by (with_reducible repeat (first|apply Kd.R_alloc|apply Kd.R_drewN|apply Kd.R_drew));exact HO_8.out)) (by decide) hg);have n2_:=Aside0.mk (hb);have n3_:=Aside0.mk (ho);clear BK0;clear HO261;clear HB;clear HO_8;have BK0:=n0_;have HO261:=n1_;have HB:=n2_;have HO264:=n3_;clear n0_ n1_ n2_ n3_;clear ho hb hg hat))
                 have hwq : ∀ n,IntKind.i64.wrap n = wrap64 n:=fun n=>by rw [IntKind.wrap_i64];unfold wrap64;first|rfl|omega
                 repeat (go_quiet (first|((with_reducible refine gate_builtin (b:=.append) (xs:=#[.tmp 76,.tmp 80]) rfl ?_);(try (refine gate_guard (by rfl) ?_;dsimp only));at_builtin;refine Kd.R_append_rows (Kd.int .u8) (w0:=w) w.heap.size rfl (.tmp 76) (.tmp 80) 23 5 (.int .u8 0) 1 rfl Try.underlying23 info5 rfl (by decide) (by omega) u7 x7_1 (((rd_L1 l0_0 x1_1).take ((wrap64 (4 + (wrap64 (rd (rd_L1 l0_0 x1_1) 3)))) : Int).toNat).drop 4) _ _ _ (fun _=>True) (fun _=>False) rfl rfl ?aO ?aR (fun _ _ h=>h) (fun _ h=>h.elim) ?aF ?aB ?aS ?aL ?_;(case aR=>first|(rw [← show (((rd_L1 l0_0 x1_1).take ((wrap64 (4 + (wrap64 (rd (rd_L1 l0_0 x1_1) 3)))) : Int).toNat).drop 4).length = ((wrap64 (4 + (wrap64 (rd (rd_L1 l0_0 x1_1) 3)))).toNat - 4) from (by rw [List.length_drop,List.length_take];have h_ : ((wrap64 (4 + (wrap64 (rd (rd_L1 l0_0 x1_1) 3)))) : Int) ≤ ((rd_L1 l0_0 x1_1).length : Int):=of_decide_eq_true (by assumption);omega)];repeat (first|exact (Kd.C_below HR258.out HB.out)|(with_reducible first|apply Kd.C_alloc|apply Kd.C_drewN|apply Kd.C_drew)))|(repeat (first|exact (Kd.C_below HR258.out HB.out)|(with_reducible first|apply Kd.C_alloc|apply Kd.C_drewN|apply Kd.C_drew))));(case aB=>exact (by repeat (first|(with_reducible first|exact HB.out|apply below_alloc|apply pw_below_drewN|apply below_drew1|refine below_set ?_ GE0.out)|exact HB.out)));(case aF=>exact (fun _ _=>trivial));(case aO=>exact (by (with_reducible repeat (first|apply Kd.R_alloc|apply Kd.R_drewN|apply Kd.R_drew));exact HO_7.out));(case aS=>exact (below_size (by repeat (first|(with_reducible first|exact HB.out|apply below_alloc|apply pw_below_drewN|apply below_drew1|refine below_set ?_ GE0.out)|exact HB.out))));(case aL=>have:=LMc57.out;have hlx_:=(show (((rd_L1 l0_0 x1_1).take ((wrap64 (4 + (wrap64 (rd (rd_L1 l0_0 x1_1) 3)))) : Int).toNat).drop 4).length = ((wrap64 (4 + (wrap64 (rd (rd_L1 l0_0 x1_1) 3)))).toNat - 4) from (by rw [List.length_drop,List.length_take];have h_ : ((wrap64 (4 + (wrap64 (rd (rd_L1 l0_0 x1_1) 3)))) : Int) ≤ ((rd_L1 l0_0 x1_1).length : Int):=of_decide_eq_true (by assumption);omega));omega);intro v260 w64 ho hb hg hat;rw [← Ny259.out] at ho;have n0_:=Aside0.mk (Kd.R_over' (by (with_reducible repeat (first|apply Kd.R_alloc|apply Kd.R_drewN|apply Kd.R_drew));exact HO_8.out) (Kd.R_typed (by (with_reducible repeat (first|apply Kd.R_alloc|apply Kd.R_drewN|apply Kd.R_drew));exact HO_7.out)) (by decide) hg);have n1_:=Aside0.mk (blk_grown (g:=g0_) (o:=.cells #[.slice (some ad246) l0_0.length c0_0,.slice A0_1 l0_1.length c0_1,.slice A0_2 l0_2.length c0_2,.slice A0_3 l0_3.length c0_3] 28 (0,0)) (by (with_reducible repeat first|apply blk_drewN|apply blk_drew|apply blk_alloc);exact BK0.out) hg (Kd.R_ne HO_7.out BK0.out (by decide)));have n2_:=Aside0.mk (hb);have n3_:=Aside0.mk (ho);clear HO_8;clear BK0;clear HB;clear HO_7;have HO_8:=n0_;have BK0:=n1_;have HB:=n2_;have HO261:=n3_;clear n0_ n1_ n2_ n3_;clear ho hb hg hat)|((with_reducible refine gate_builtin (b:=.append) (xs:=#[.tmp 82,.tmp 84]) rfl ?_);(try (refine gate_guard (by rfl) ?_;dsimp only));at_builtin;refine Kd.R_append (Kd.int .i64) (w0:=w) w.heap.size rfl (.tmp 82) (.tmp 84) 24 3 (.int .i64 0) 8 rfl Try.underlying24 info3 rfl (by decide) (by omega) (.slice Ao24 x8_1.length co24) x8_1 x1_1 [.int .i64 x1_1] (fun _=>True) (fun _=>False) rfl rfl ?aP (fun _ hk=>hk.elim) ?aF ?aO ?aB ?aS ?aL ?_;(case aP=>exact rfl);(case aB=>exact (by repeat (first|(with_reducible first|exact HB.out|apply below_alloc|apply pw_below_drewN|apply below_drew1|refine below_set ?_ GE0.out)|exact HB.out)));(case aF=>exact (fun _ _=>trivial));(case aO=>exact (by (with_reducible repeat (first|apply Kd.R_alloc|apply Kd.R_drewN|apply Kd.R_drew));exact HO_8.out));(case aS=>exact (below_size (by repeat (first|(with_reducible first|exact HB.out|apply below_alloc|apply pw_below_drewN|apply below_drew1|refine below_set ?_ GE0.out)|exact HB.out))));(case aL=>have:=LMc58.out;omega);intro v263 w65 ho hb hg hat;rw [← Ny262.out] at ho;have n0_:=Aside0.mk (blk_grown (g:=g0_) (o:=.cells #[.slice (some ad246) l0_0.length c0_0,.slice A0_1 l0_1.length c0_1,.slice A0_2 l0_2.length c0_2,.slice A0_3 l0_3.length c0_3] 28 (0,0)) (by (with_reducible repeat first|apply blk_drewN|apply blk_drew|apply blk_alloc);exact BK0.out) hg (Kd.R_ne HO_8.out BK0.out (by decide)));have n1_:=Aside0.mk (Kd.R_over' (by (with_reducible repeat (first|apply Kd.R_alloc|apply Kd.R_drewN|apply Kd.R_drew));exact HO261.out) (Kd.R_typed (by (with_reducible repeat (first|apply Kd.R_alloc|apply Kd.R_drewN|apply Kd.R_drew));exact HO_8.out)) (by decide) hg);have n2_:=Aside0.mk (hb);have n3_:=Aside0.mk (ho);clear BK0;clear HO261;clear HB;clear HO_8;have BK0:=n0_;have HO261:=n1_;have HB:=n2_;have HO264:=n3_;clear n0_ n1_ n2_ n3_;clear ho hb hg hat));try go_wp2_with (first|((with_reducible refine gate_builtin (b:=.append) (xs:=#[.tmp 76,.tmp 80]) rfl ?_);(try (refine gate_guard (by rfl) ?_;dsimp only));at_builtin;refine Kd.R_append_rows (Kd.int .u8) (w0:=w) w.heap.size rfl (.tmp 76) (.tmp 80) 23 5 (.int .u8 0) 1 rfl Try.underlying23 info5 rfl (by decide) (by omega) u7 x7_1 (((rd_L1 l0_0 x1_1).take ((wrap64 (4 + (wrap64 (rd (rd_L1 l0_0 x1_1) 3)))) : Int).toNat).drop 4) _ _ _ (fun _=>True) (fun _=>False) rfl rfl ?aO ?aR (fun _ _ h=>h) (fun _ h=>h.elim) ?aF ?aB ?aS ?aL ?_;(case aR=>first|(rw [← show (((rd_L1 l0_0 x1_1).take ((wrap64 (4 + (wrap64 (rd (rd_L1 l0_0 x1_1) 3)))) : Int).toNat).drop 4).length = ((wrap64 (4 + (wrap64 (rd (rd_L1 l0_0 x1_1) 3)))).toNat - 4) from (by rw [List.length_drop,List.length_take];have h_ : ((wrap64 (4 + (wrap64 (rd (rd_L1 l0_0 x1_1) 3)))) : Int) ≤ ((rd_L1 l0_0 x1_1).length : Int):=of_decide_eq_true (by assumption);omega)];repeat (first|exact (Kd.C_below HR258.out HB.out)|(with_reducible first|apply Kd.C_alloc|apply Kd.C_drewN|apply Kd.C_drew)))|(repeat (first|exact (Kd.C_below HR258.out HB.out)|(with_reducible first|apply Kd.C_alloc|apply Kd.C_drewN|apply Kd.C_drew))));(case aB=>exact (by repeat (first|(with_reducible first|exact HB.out|apply below_alloc|apply pw_below_drewN|apply below_drew1|refine below_set ?_ GE0.out)|exact HB.out)));(case aF=>exact (fun _ _=>trivial));(case aO=>exact (by (with_reducible repeat (first|apply Kd.R_alloc|apply Kd.R_drewN|apply Kd.R_drew));exact HO_7.out));(case aS=>exact (below_size (by repeat (first|(with_reducible first|exact HB.out|apply below_alloc|apply pw_below_drewN|apply below_drew1|refine below_set ?_ GE0.out)|exact HB.out))));(case aL=>have:=LMc57.out;have hlx_:=(show (((rd_L1 l0_0 x1_1).take ((wrap64 (4 + (wrap64 (rd (rd_L1 l0_0 x1_1) 3)))) : Int).toNat).drop 4).length = ((wrap64 (4 + (wrap64 (rd (rd_L1 l0_0 x1_1) 3)))).toNat - 4) from (by rw [List.length_drop,List.length_take];have h_ : ((wrap64 (4 + (wrap64 (rd (rd_L1 l0_0 x1_1) 3)))) : Int) ≤ ((rd_L1 l0_0 x1_1).length : Int):=of_decide_eq_true (by assumption);omega));omega);intro v260 w64 ho hb hg hat;rw [← Ny259.out] at ho;have n0_:=Aside0.mk (Kd.R_over' (by (with_reducible repeat (first|apply Kd.R_alloc|apply Kd.R_drewN|apply Kd.R_drew));exact HO_8.out) (Kd.R_typed (by (with_reducible repeat (first|apply Kd.R_alloc|apply Kd.R_drewN|apply Kd.R_drew));exact HO_7.out)) (by decide) hg);have n1_:=Aside0.mk (blk_grown (g:=g0_) (o:=.cells #[.slice (some ad246) l0_0.length c0_0,.slice A0_1 l0_1.length c0_1,.slice A0_2 l0_2.length c0_2,.slice A0_3 l0_3.length c0_3] 28 (0,0)) (by (with_reducible repeat first|apply blk_drewN|apply blk_drew|apply blk_alloc);exact BK0.out) hg (Kd.R_ne HO_7.out BK0.out (by decide)));have n2_:=Aside0.mk (hb);have n3_:=Aside0.mk (ho);clear HO_8;clear BK0;clear HB;clear HO_7;have HO_8:=n0_;have BK0:=n1_;have HB:=n2_;have HO261:=n3_;clear n0_ n1_ n2_ n3_;clear ho hb hg hat)|((with_reducible refine gate_builtin (b:=.append) (xs:=#[.tmp 82,.tmp 84]) rfl ?_);(try (refine gate_guard (by rfl) ?_;dsimp only));at_builtin;refine Kd.R_append (Kd.int .i64) (w0:=w) w.heap.size rfl (.tmp 82) (.tmp 84) 24 3 (.int .i64 0) 8 rfl Try.underlying24 info3 rfl (by decide) (by omega) (.slice Ao24 x8_1.length co24) x8_1 x1_1 [.int .i64 x1_1] (fun _=>True) (fun _=>False) rfl rfl ?aP (fun _ hk=>hk.elim) ?aF ?aO ?aB ?aS ?aL ?_;(case aP=>exact rfl);(case aB=>exact (by repeat (first|(with_reducible first|exact HB.out|apply below_alloc|apply pw_below_drewN|apply below_drew1|refine below_set ?_ GE0.out)|exact HB.out)));(case aF=>exact (fun _ _=>trivial));(case aO=>exact (by (with_reducible repeat (first|apply Kd.R_alloc|apply Kd.R_drewN|apply Kd.R_drew));exact HO_8.out));(case aS=>exact (below_size (by repeat (first|(with_reducible first|exact HB.out|apply below_alloc|apply pw_below_drewN|apply below_drew1|refine below_set ?_ GE0.out)|exact HB.out))));(case aL=>have:=LMc58.out;omega);intro v263 w65 ho hb hg hat;rw [← Ny262.out] at ho;have n0_:=Aside0.mk (blk_grown (g:=g0_) (o:=.cells #[.slice (some ad246) l0_0.length c0_0,.slice A0_1 l0_1.length c0_1,.slice A0_2 l0_2.length c0_2,.slice A0_3 l0_3.length c0_3] 28 (0,0)) (by (with_reducible repeat first|apply blk_drewN|apply blk_drew|apply blk_alloc);exact BK0.out) hg (Kd.R_ne HO_8.out BK0.out (by decide)));have n1_:=Aside0.mk (Kd.R_over' (by (with_reducible repeat (first|apply Kd.R_alloc|apply Kd.R_drewN|apply Kd.R_drew));exact HO261.out) (Kd.R_typed (by (with_reducible repeat (first|apply Kd.R_alloc|apply Kd.R_drewN|apply Kd.R_drew));exact HO_8.out)) (by decide) hg);have n2_:=Aside0.mk (hb);have n3_:=Aside0.mk (ho);clear BK0;clear HO261;clear HB;clear HO_8;have BK0:=n0_;have HO261:=n1_;have HB:=n2_;have HO264:=n3_;clear n0_ n1_ n2_ n3_;clear ho hb hg hat)))
                 go_roundg kj21
                 case measure=>have:=HK1.out;have:=HJ6.out;have:=HJ21.out;omega
                 case rel=>exact ⟨(t247),(y259),(y262),(by first|rfl|(simp;done)|(simp [*];done)),H',⟨by have:=HK1.out;have:=HJ6.out;have:=HJ21.out;omega⟩,⟨by (with_reducible repeat (first|apply Kd.R_alloc|apply Kd.R_drewN|apply Kd.R_drew));exact HO261.out⟩,⟨by (with_reducible repeat (first|apply Kd.R_alloc|apply Kd.R_drewN|apply Kd.R_drew));exact HO264.out⟩,⟨by (with_reducible repeat first|apply blk_drewN|apply blk_drew|apply blk_alloc);exact BK0.out⟩,⟨by repeat (first|(with_reducible first|exact HB.out|apply below_alloc|apply pw_below_drewN|apply below_drew1|refine below_set ?_ GE0.out)|exact HB.out)⟩⟩
               ·rw [if_neg c58] at H
                exact absurd H (by simp)
              ·rw [if_neg c57] at H
               exact absurd H (by simp)
             ·rw [if_neg c56] at H
              exact absurd H (by simp)
            ·rw [if_neg c55] at H
             exact absurd H (by simp)
        ·rw [if_neg c21] at H
         exact absurd H (by simp)
       ·rw [if_neg c19] at H
        exact absurd H (by simp)
      ·rw [if_neg c18] at H
       exact absurd H (by simp)

/-! ### impl_RecordAt: function 15 -/
def impl_RecordAt.f (k : Nat) (l0_0 : List (List Int)) (l0_1 : List Int) (l0_2 : List Int) (l0_3 : List Int) (a1 : Int) : Option (List Int × List Int × Bool):=(impl_GoodSpace.f k l0_0 l0_1 l0_2 l0_3).bind fun t266=>(if t266 = true then ((impl_Space_record.f k l0_0 l0_1 l0_2 l0_3 a1).bind fun bt267=>(some (bt267.1,bt267.2.1,bt267.2.2))) else (some (([] : List Int),([] : List Int),false)))
theorem impl_RecordAt.mono : ∀ a0 a1 a2 a3 a4 k,LeO (impl_RecordAt.f k a0 a1 a2 a3 a4) (impl_RecordAt.f (k + 1) a0 a1 a2 a3 a4):=by
 intro a0 a1 a2 a3 a4 k
 unfold impl_RecordAt.f
 repeat' first
   | (with_reducible exact impl_GoodSpace.mono _ _ _ _ _)
   | (with_reducible exact impl_Space_record.mono _ _ _ _ _ _)
   | (with_reducible exact LeO.refl _)
   | (with_reducible exact LeO.none _)
   | (with_reducible refine LeO.ite ?_ ?_)
   | (with_reducible refine LeO.bind ?_ (fun _=>?_))
   | exact impl_GoodSpace.mono _ _ _ _ _
   | exact impl_Space_record.mono _ _ _ _ _ _
   | exact LeO.none _
   | refine LeO.ite ?_ ?_
   | refine LeO.bind ?_ (fun _=>?_)
set_option maxHeartbeats 8000000 in
set_option maxRecDepth 100000 in
theorem impl_RecordAt.calls (k : Nat) (A0_0 : Option Addr) (c0_0 : Nat) (l0_0 : List (List Int)) (A0_1 : Option Addr) (c0_1 : Nat) (l0_1 : List Int) (A0_2 : Option Addr) (c0_2 : Nat) (l0_2 : List Int) (A0_3 : Option Addr) (c0_3 : Nat) (l0_3 : List Int) (a1 : Int) (r1 : List Int) (r2 : List Int) (r3 : Bool) (w : World) (hr0_0 : Kd.C (Kd.slice 5 (Kd.int .u8)) w A0_0 l0_0.length l0_0) (hc0_0 : l0_0.length ≤ c0_0) (hr0_1 : Kd.C (Kd.int .u8) w A0_1 l0_1.length l0_1) (hc0_1 : l0_1.length ≤ c0_1) (hr0_2 : Kd.C (Kd.int .i64) w A0_2 l0_2.length l0_2) (hc0_2 : l0_2.length ≤ c0_2) (hr0_3 : Kd.C (Kd.int .i64) w A0_3 l0_3.length l0_3) (hc0_3 : l0_3.length ≤ c0_3) (h : impl_RecordAt.f k l0_0 l0_1 l0_2 l0_3 a1 = some (r1,r2,r3)) :
  Calls Try.prog 15 #[.agg #[.slice A0_0 l0_0.length c0_0,.slice A0_1 l0_1.length c0_1,.slice A0_2 l0_2.length c0_2,.slice A0_3 l0_3.length c0_3],.int .i64 a1] w fun e w'=>∃ v0_ v1_ : Value,e = .returned (.tuple #[v0_,v1_,.bool r3])∧Kd.R (Kd.int .u8) 5 w' w.heap.size (fun _=>True) v0_ r1∧Kd.R (Kd.int .i64) 3 w' w.heap.size (fun _=>True) v1_ r2∧Below w.heap.size w w':=by
 have hu28:=Try.underlying28
 have HR0_0:=Aside0.mk hr0_0
 have HC0_0:=Aside0.mk hc0_0
 clear hr0_0 hc0_0
 have HR0_1:=Aside0.mk hr0_1
 have HC0_1:=Aside0.mk hc0_1
 clear hr0_1 hc0_1
 have HR0_2:=Aside0.mk hr0_2
 have HC0_2:=Aside0.mk hc0_2
 clear hr0_2 hc0_2
 have HR0_3:=Aside0.mk hr0_3
 have HC0_3:=Aside0.mk hc0_3
 clear hr0_3 hc0_3
 have HB:=Aside0.mk (Below.refl w.heap.size w)
 have H : ((impl_GoodSpace.f k l0_0 l0_1 l0_2 l0_3).bind fun t266=>(if t266 = true then ((impl_Space_record.f k l0_0 l0_1 l0_2 l0_3 a1).bind fun bt267=>(some (bt267.1,bt267.2.1,bt267.2.2))) else (some (([] : List Int),([] : List Int),false)))) = some (r1,r2,r3):=h
 clear h
 replace H:=Option.bind_eq_some_iff.mp H
 obtain ⟨t266,A30,H⟩:=H
 have A3:=Aside0.mk A30
 clear A30
 by_cases c4 : t266 = true
 ·subst c4
  rw [if_pos rfl] at H
  replace H:=Option.bind_eq_some_iff.mp H
  obtain ⟨⟨t267,t270,t273⟩,A50,H⟩:=H
  replace H : (some (t267,t270,t273)) = some (r1,r2,r3):=H
  have A5:=Aside0.mk A50
  clear A50
  simp only [Option.some.injEq,Prod.mk.injEq] at H
  obtain ⟨rfl,rfl,rfl⟩:=H
  go_enter Try.func15,Try.ntmps15
  go_wp2_with (first|((with_reducible refine gate_dst (N:=2) rfl ?_);refine box_event ?hg (N:=2) ?hd (cs:=#[.slice A0_0 l0_0.length c0_0,.slice A0_1 l0_1.length c0_1,.slice A0_2 l0_2.length c0_2,.slice A0_3 l0_3.length c0_3]) (t:=28) ?hr ?_;(case hd=>rfl);(case hg=>rfl);(case hr=>first|(go_simp;done)|(go_simp;rfl));intro gb265 hg w6 hbox hb;have n0_:=Aside0.mk (below_step (by repeat (first|exact HB.out|apply below_alloc|apply pw_below_drewN|apply below_drew1)) hb);have n1_:=Aside0.mk (hbox);have n2_:=Aside0.mk ((by rw [hg];exact (below_size (by repeat (first|exact HB.out|apply below_alloc|apply pw_below_drewN|apply below_drew1))) : w.heap.size ≤ gb265));have n3_:=Aside0.mk ((by rw [hg];exact (below_size (by repeat (first|exact HB.out|apply below_alloc|apply pw_below_drewN|apply below_drew1))) : w.heap.size ≤ gb265));clear HB;have HB:=n0_;have BK265:=n1_;have GW265:=n2_;have GE265:=n3_;clear n0_ n1_ n2_ n3_;clear hb hbox hg;have hcz7_0 : w6.cell? ⟨gb265,0,none⟩ = some (.slice A0_0 l0_0.length c0_0):=(blk_cell BK265.out 0).trans rfl;have hcz7_1 : w6.cell? ⟨gb265,1,none⟩ = some (.slice A0_1 l0_1.length c0_1):=(blk_cell BK265.out 1).trans rfl;have hcz7_2 : w6.cell? ⟨gb265,2,none⟩ = some (.slice A0_2 l0_2.length c0_2):=(blk_cell BK265.out 2).trans rfl;have hcz7_3 : w6.cell? ⟨gb265,3,none⟩ = some (.slice A0_3 l0_3.length c0_3):=(blk_cell BK265.out 3).trans rfl;have hfz7_0:=blk_frozen BK265.out 0;have hfz7_1:=blk_frozen BK265.out 1;have hfz7_2:=blk_frozen BK265.out 2;have hfz7_3:=blk_frozen BK265.out 3)|((with_reducible refine gate_callee (f:=41) rfl ?_);refine goesL_ (some 8) rfl rfl Try.func41 (by kernel_rfl) rfl #[.agg #[.slice A0_0 l0_0.length c0_0,.slice A0_1 l0_1.length c0_1,.slice A0_2 l0_2.length c0_2,.slice A0_3 l0_3.length c0_3]] rfl (by (try simp only [List.map_toArray,List.map_cons,List.map_nil]);first|done|rfl|(simp only [List.length_drop,List.length_take];rfl)) ?_;(with_reducible refine (impl_GoodSpace.calls k _ _ l0_0 _ _ l0_1 _ _ l0_2 _ _ l0_3 true _ ?side1 ?side2 ?side3 ?side4 ?side5 ?side6 ?side7 ?side8 A3.out).mono ?_);(case side1=>repeat (first|exact (Kd.C_below HR0_0.out HB.out)|(with_reducible first|apply Kd.C_alloc|apply Kd.C_drewN|apply Kd.C_drew)));(case side2=>exact HC0_0.out);(case side3=>repeat (first|exact (Kd.C_below HR0_1.out HB.out)|(with_reducible first|apply Kd.C_alloc|apply Kd.C_drewN|apply Kd.C_drew)));(case side4=>exact HC0_1.out);(case side5=>repeat (first|exact (Kd.C_below HR0_2.out HB.out)|(with_reducible first|apply Kd.C_alloc|apply Kd.C_drewN|apply Kd.C_drew)));(case side6=>exact HC0_2.out);(case side7=>repeat (first|exact (Kd.C_below HR0_3.out HB.out)|(with_reducible first|apply Kd.C_alloc|apply Kd.C_drewN|apply Kd.C_drew)));(case side8=>exact HC0_3.out);rintro e w8 ⟨rfl,hb⟩;refine ⟨_,rfl,?_⟩;have n0_:=Aside0.mk (blk_below (g:=gb265) (o:=.cells #[.slice A0_0 l0_0.length c0_0,.slice A0_1 l0_1.length c0_1,.slice A0_2 l0_2.length c0_2,.slice A0_3 l0_3.length c0_3] 28 (0,0)) (by (with_reducible repeat first|apply blk_drewN|apply blk_drew|apply blk_alloc);exact BK265.out) hb);have n1_:=Aside0.mk (below_step (by repeat (first|(with_reducible first|exact HB.out|apply below_alloc|apply pw_below_drewN|apply below_drew1|refine below_set ?_ GE265.out)|exact HB.out)) hb);clear BK265;clear HB;have BK265:=n0_;have HB:=n1_;clear n0_ n1_;(try clear hb);(try clear hb2);(try clear hk);(try clear hi))|((with_reducible refine gate_callee (f:=42) rfl ?_);refine goesL_ (some 11) rfl rfl Try.func42 (by kernel_rfl) rfl #[.pointer (some ⟨gb265,0,none⟩),.int .i64 a1] rfl (by (try simp only [List.map_toArray,List.map_cons,List.map_nil]);first|done|rfl|(simp only [List.length_drop,List.length_take];rfl)) ?_;(with_reducible refine (impl_Space_record.calls k gb265 A0_0 c0_0 l0_0 A0_1 c0_1 l0_1 A0_2 c0_2 l0_2 A0_3 c0_3 l0_3 a1 t267 t270 t273 _ ?side1 ?side2 ?side3 ?side4 ?side5 ?side6 ?side7 ?side8 ?side9 A5.out).mono ?_);(case side1=>exact by (with_reducible repeat first|apply blk_drewN|apply blk_drew|apply blk_alloc);exact BK265.out);(case side2=>repeat (first|exact (Kd.C_below HR0_0.out HB.out)|(with_reducible first|apply Kd.C_alloc|apply Kd.C_drewN|apply Kd.C_drew)));(case side3=>exact HC0_0.out);(case side4=>repeat (first|exact (Kd.C_below HR0_1.out HB.out)|(with_reducible first|apply Kd.C_alloc|apply Kd.C_drewN|apply Kd.C_drew)));(case side5=>exact HC0_1.out);(case side6=>repeat (first|exact (Kd.C_below HR0_2.out HB.out)|(with_reducible first|apply Kd.C_alloc|apply Kd.C_drewN|apply Kd.C_drew)));(case side7=>exact HC0_2.out);(case side8=>repeat (first|exact (Kd.C_below HR0_3.out HB.out)|(with_reducible first|apply Kd.C_alloc|apply Kd.C_drewN|apply Kd.C_drew)));(case side9=>exact HC0_3.out);rintro e w9 ⟨v268,v271,rfl,ho0,ho1,hb⟩;refine ⟨_,rfl,?_⟩;have n0_:=Aside0.mk (Kd.R_lower ho0 (below_size (by repeat (first|(with_reducible first|exact HB.out|apply below_alloc|apply pw_below_drewN|apply below_drew1|refine below_set ?_ GE265.out)|exact HB.out))));have n1_:=Aside0.mk (Kd.R_lower ho1 (below_size (by repeat (first|(with_reducible first|exact HB.out|apply below_alloc|apply pw_below_drewN|apply below_drew1|refine below_set ?_ GE265.out)|exact HB.out))));have n2_:=Aside0.mk (blk_below (g:=gb265) (o:=.cells #[.slice A0_0 l0_0.length c0_0,.slice A0_1 l0_1.length c0_1,.slice A0_2 l0_2.length c0_2,.slice A0_3 l0_3.length c0_3] 28 (0,0)) (by (with_reducible repeat first|apply blk_drewN|apply blk_drew|apply blk_alloc);exact BK265.out) hb);have n3_:=Aside0.mk (below_step (by repeat (first|(with_reducible first|exact HB.out|apply below_alloc|apply pw_below_drewN|apply below_drew1|refine below_set ?_ GE265.out)|exact HB.out)) hb);clear BK265;clear HB;have HO269:=n0_;have HO272:=n1_;have BK265:=n2_;have HB:=n3_;clear n0_ n1_ n2_ n3_;(try clear hb);(try clear hb2);(try clear hk);(try clear hi);(try clear ho0);(try clear ho1)))
  go_ret3
  exact ⟨_,_,by first|rfl|(simp [*,errW_none,errW_some] <;> rfl),by (with_reducible repeat (first|apply Kd.R_alloc|apply Kd.R_drewN|apply Kd.R_drew));exact HO269.out,by (with_reducible repeat (first|apply Kd.R_alloc|apply Kd.R_drewN|apply Kd.R_drew));exact HO272.out,by repeat (first|(with_reducible first|exact HB.out|apply below_alloc|apply pw_below_drewN|apply below_drew1|refine below_set ?_ GE265.out)|exact HB.out)⟩
 ·replace c4:=Bool.eq_false_iff.mpr c4
  subst c4
  rw [if_neg (show ¬ (false = true) by decide)] at H
  simp only [Option.some.injEq,Prod.mk.injEq] at H
  obtain ⟨rfl,rfl,rfl⟩:=H
  go_enter Try.func15,Try.ntmps15
  go_wp2_with (first|((with_reducible refine gate_dst (N:=2) rfl ?_);refine box_event ?hg (N:=2) ?hd (cs:=#[.slice A0_0 l0_0.length c0_0,.slice A0_1 l0_1.length c0_1,.slice A0_2 l0_2.length c0_2,.slice A0_3 l0_3.length c0_3]) (t:=28) ?hr ?_;(case hd=>rfl);(case hg=>rfl);(case hr=>first|(go_simp;done)|(go_simp;rfl));intro gb265 hg w10 hbox hb;have n0_:=Aside0.mk (below_step (by repeat (first|exact HB.out|apply below_alloc|apply pw_below_drewN|apply below_drew1)) hb);have n1_:=Aside0.mk (hbox);have n2_:=Aside0.mk ((by rw [hg];exact (below_size (by repeat (first|exact HB.out|apply below_alloc|apply pw_below_drewN|apply below_drew1))) : w.heap.size ≤ gb265));have n3_:=Aside0.mk ((by rw [hg];exact (below_size (by repeat (first|exact HB.out|apply below_alloc|apply pw_below_drewN|apply below_drew1))) : w.heap.size ≤ gb265));clear HB;have HB:=n0_;have BK265:=n1_;have GW265:=n2_;have GE265:=n3_;clear n0_ n1_ n2_ n3_;clear hb hbox hg;have hcz11_0 : w10.cell? ⟨gb265,0,none⟩ = some (.slice A0_0 l0_0.length c0_0):=(blk_cell BK265.out 0).trans rfl;have hcz11_1 : w10.cell? ⟨gb265,1,none⟩ = some (.slice A0_1 l0_1.length c0_1):=(blk_cell BK265.out 1).trans rfl;have hcz11_2 : w10.cell? ⟨gb265,2,none⟩ = some (.slice A0_2 l0_2.length c0_2):=(blk_cell BK265.out 2).trans rfl;have hcz11_3 : w10.cell? ⟨gb265,3,none⟩ = some (.slice A0_3 l0_3.length c0_3):=(blk_cell BK265.out 3).trans rfl;have hfz11_0:=blk_frozen BK265.out 0;have hfz11_1:=blk_frozen BK265.out 1;have hfz11_2:=blk_frozen BK265.out 2;have hfz11_3:=blk_frozen BK265.out 3)|((with_reducible refine gate_callee (f:=41) rfl ?_);refine goesL_ (some 8) rfl rfl Try.func41 (by kernel_rfl) rfl #[.agg #[.slice A0_0 l0_0.length c0_0,.slice A0_1 l0_1.length c0_1,.slice A0_2 l0_2.length c0_2,.slice A0_3 l0_3.length c0_3]] rfl (by (try simp only [List.map_toArray,List.map_cons,List.map_nil]);first|done|rfl|(simp only [List.length_drop,List.length_take];rfl)) ?_;(with_reducible refine (impl_GoodSpace.calls k _ _ l0_0 _ _ l0_1 _ _ l0_2 _ _ l0_3 false _ ?side1 ?side2 ?side3 ?side4 ?side5 ?side6 ?side7 ?side8 A3.out).mono ?_);(case side1=>repeat (first|exact (Kd.C_below HR0_0.out HB.out)|(with_reducible first|apply Kd.C_alloc|apply Kd.C_drewN|apply Kd.C_drew)));(case side2=>exact HC0_0.out);(case side3=>repeat (first|exact (Kd.C_below HR0_1.out HB.out)|(with_reducible first|apply Kd.C_alloc|apply Kd.C_drewN|apply Kd.C_drew)));(case side4=>exact HC0_1.out);(case side5=>repeat (first|exact (Kd.C_below HR0_2.out HB.out)|(with_reducible first|apply Kd.C_alloc|apply Kd.C_drewN|apply Kd.C_drew)));(case side6=>exact HC0_2.out);(case side7=>repeat (first|exact (Kd.C_below HR0_3.out HB.out)|(with_reducible first|apply Kd.C_alloc|apply Kd.C_drewN|apply Kd.C_drew)));(case side8=>exact HC0_3.out);rintro e w12 ⟨rfl,hb⟩;refine ⟨_,rfl,?_⟩;have n0_:=Aside0.mk (blk_below (g:=gb265) (o:=.cells #[.slice A0_0 l0_0.length c0_0,.slice A0_1 l0_1.length c0_1,.slice A0_2 l0_2.length c0_2,.slice A0_3 l0_3.length c0_3] 28 (0,0)) (by (with_reducible repeat first|apply blk_drewN|apply blk_drew|apply blk_alloc);exact BK265.out) hb);have n1_:=Aside0.mk (below_step (by repeat (first|(with_reducible first|exact HB.out|apply below_alloc|apply pw_below_drewN|apply below_drew1|refine below_set ?_ GE265.out)|exact HB.out)) hb);clear BK265;clear HB;have BK265:=n0_;have HB:=n1_;clear n0_ n1_;(try clear hb);(try clear hb2);(try clear hk);(try clear hi)))
  go_ret3
  exact ⟨_,_,by first|rfl|(simp [*,errW_none,errW_some] <;> rfl),by first|exact Kd.R_nil _ _ _ _ _|exact Kd.N_nil _ _ _ _ _|exact Kd.V_nil _ _ _ _ _|exact Kd.Q_nil _ _ _ _ _|exact Kd.S_nil _ _ _ _ _,by first|exact Kd.R_nil _ _ _ _ _|exact Kd.N_nil _ _ _ _ _|exact Kd.V_nil _ _ _ _ _|exact Kd.Q_nil _ _ _ _ _|exact Kd.S_nil _ _ _ _ _,by repeat (first|(with_reducible first|exact HB.out|apply below_alloc|apply pw_below_drewN|apply below_drew1|refine below_set ?_ GE265.out)|exact HB.out)⟩

end Go.Proofs.Ytggnbbbhlnjleaa.PFnExactRecordAt
