-- Written by a program of this session over the print of the kit (wip/t/patch_print.py).
import Derived.Test.YtebmncdjlmnbnaaPFnExactComposeChangesx0
import Derived.Test.YtebmncdjlmnbnaaPFnExactComposeChangesx10
import Derived.Test.YtebmncdjlmnbnaaPFnExactComposeChangesx11
import Derived.Test.YtebmncdjlmnbnaaPFnExactComposeChangesx13
namespace Go.Proofs.Ytebmncdjlmnbnaa.PFnExactComposeChanges
open Go.RowKit Go.Proofs.YtebmncdjlmnbnaaW.PrintWords Go.Proofs.YtebmncdjlmnbnaaW.PrintLast Go.Proofs.YtebmncdjlmnbnaaW.PrintMore
attribute [local go_sem] max2_int min2_int max_two min_two max_three min_three max_four min_four   -- for this text's walks alone
set_option linter.unusedVariables false
set_option linter.unusedSimpArgs false

/-! ### impl_compose: function 77 -/
mutual
def impl_compose.l0 : Nat → Int → ByteArray → List ByteArray → Int → Int → List Bool → List ByteArray → List Bool → List ByteArray → List Bool → List ByteArray → Option ((List (S74)))
 | 0,_,_,_,_,_,_,_,_,_,_,_=>none
 | k + 1,x8,x9,x24,x25,x26,x314000,x314001,x315000,x315001,x316000,x316001=>if x26 < x25 then (if 0 ≤ x26 then (if x26 < (x24.length : Int) then (impl_compose.l1 k x8 x26 (rdOf ByteArray.empty x24 x26) x9 x24 x25 x26 ((rdOf ByteArray.empty x24 x26).size : Int) 0 x314000 x314001 x315000 x315001 x316000 x316001) else (none)) else (none)) else ((impl_told_parts.f k x316000 x316001).bind fun t317=>(some t317))
def impl_compose.l1 : Nat → Int → Int → ByteArray → ByteArray → List ByteArray → Int → Int → Int → Int → List Bool → List ByteArray → List Bool → List ByteArray → List Bool → List ByteArray → Option ((List (S74)))
 | 0,_,_,_,_,_,_,_,_,_,_,_,_,_,_,_=>none
 | k + 1,x8,x10,x11,x12,x24,x25,x26,x33,x34,x314000,x314001,x315000,x315001,x316000,x316001=>if x34 < x33 then (if 0 ≤ x8 then (if x8 < (x315000.length : Int) then (if rdOf false x315000 x8 = true then (if 0 ≤ x34 then (if x34 ≤ (wrap64 (x34 + 1)) then (if (wrap64 (x34 + 1)) ≤ (x11.size : Int) then (if x12.size + (x11.extract (x34 : Int).toNat ((wrap64 (x34 + 1)) : Int).toNat).size ≤ 9223372036854775807 then (if 0 ≤ (wrap64 (x8 + 1)) then (if (wrap64 (x8 + 1)) < (x315001.length : Int) then (if (x12 ++ (x11.extract (x34 : Int).toNat ((wrap64 (x34 + 1)) : Int).toNat)).size + (rdOf ByteArray.empty x315001 (wrap64 (x8 + 1))).size ≤ 9223372036854775807 then (impl_compose.l1 k (wrap64 (x8 + 1)) x10 x11 ((x12 ++ (x11.extract (x34 : Int).toNat ((wrap64 (x34 + 1)) : Int).toNat)) ++ (rdOf ByteArray.empty x315001 (wrap64 (x8 + 1)))) x24 x25 x26 x33 (wrap64 (x34 + 1)) x314000 x314001 x315000 x315001 x316000 x316001) else (none)) else (none)) else (none)) else (none)) else (none)) else (none)) else (none)) else (if 0 ≤ (wrap64 (x8 + 1)) then (if (wrap64 (x8 + 1)) < (x315001.length : Int) then (if x12.size + (rdOf ByteArray.empty x315001 (wrap64 (x8 + 1))).size ≤ 9223372036854775807 then (impl_compose.l1 k (wrap64 (x8 + 1)) x10 x11 (x12 ++ (rdOf ByteArray.empty x315001 (wrap64 (x8 + 1)))) x24 x25 x26 x33 (wrap64 (x34 + 1)) x314000 x314001 x315000 x315001 x316000 x316001) else (none)) else (none)) else (none))) else (none)) else (none)) else (if x316001.length < 8796093022208 then ((some (x316001 ++ [x12] : List ByteArray)).bind fun y324=>(if x10 = (x314000.length : Int) then ((impl_told_parts.f k x316000 y324).bind fun t327=>(some t327)) else (if 0 ≤ x10 then (if x10 < (x314000.length : Int) then (if rdOf false x314000 x10 = true then (if 0 ≤ x8 then (if x8 < (x315000.length : Int) then (if x316000.length < 140737488355328 then (if 0 ≤ (wrap64 (x8 + 1)) then (if (wrap64 (x8 + 1)) < (x315001.length : Int) then (impl_compose.l0 k (wrap64 (x8 + 1)) (rdOf ByteArray.empty x315001 (wrap64 (x8 + 1))) x24 x25 (wrap64 (x26 + 1)) x314000 x314001 x315000 x315001 (x316000 ++ [rdOf false x315000 x8]) y324) else (none)) else (none)) else (none)) else (none)) else (none)) else (if x316000.length < 140737488355328 then (impl_compose.l0 k x8 (⟨#[]⟩ : ByteArray) x24 x25 (wrap64 (x26 + 1)) x314000 x314001 x315000 x315001 (x316000 ++ [false]) y324) else (none))) else (none)) else (none)))) else (none))
end
def impl_compose.f (k : Nat) (l0 : List (S74)) (l1 : List (S74)) : Option ((List (S74))):=(impl_tell.f k l0).bind fun bt301=>((impl_tell.f k l1).bind fun bt307=>(if 0 < (bt307.2.length : Int) then (impl_compose.l0 k 0 (rdOf ByteArray.empty bt307.2 0) bt301.2 (bt301.2.length : Int) 0 bt301.1 bt301.2 bt307.1 bt307.2 ([] : List Bool) ([] : List ByteArray)) else (none)))
theorem impl_compose.mono_l : ∀ k,(∀ y0 y1 y2 y3 y4 y5 y6 y7 y8 y9 y10,LeO (impl_compose.l0 k y0 y1 y2 y3 y4 y5 y6 y7 y8 y9 y10) (impl_compose.l0 (k + 1) y0 y1 y2 y3 y4 y5 y6 y7 y8 y9 y10))∧(∀ y0 y1 y2 y3 y4 y5 y6 y7 y8 y9 y10 y11 y12 y13 y14,LeO (impl_compose.l1 k y0 y1 y2 y3 y4 y5 y6 y7 y8 y9 y10 y11 y12 y13 y14) (impl_compose.l1 (k + 1) y0 y1 y2 y3 y4 y5 y6 y7 y8 y9 y10 y11 y12 y13 y14))
 | 0=>⟨fun _ _ _ _ _ _ _ _ _ _ _ r h=>by simp [impl_compose.l0] at h,fun _ _ _ _ _ _ _ _ _ _ _ _ _ _ _ r h=>by simp [impl_compose.l1] at h⟩
 | k + 1=>by
  obtain ⟨ih0,ih1⟩:=impl_compose.mono_l k
  refine ⟨?_,?_⟩
  ·intro y0 y1 y2 y3 y4 y5 y6 y7 y8 y9 y10
   unfold impl_compose.l0
   repeat' first
   | (with_reducible exact ih0 _ _ _ _ _ _ _ _ _ _ _)
   | (with_reducible exact ih1 _ _ _ _ _ _ _ _ _ _ _ _ _ _ _)
   | (with_reducible exact impl_tell.mono _ _)
   | (with_reducible exact impl_told_parts.mono _ _ _)
   | (with_reducible exact LeO.refl _)
   | (with_reducible exact LeO.none _)
   | (with_reducible refine LeO.ite ?_ ?_)
   | (with_reducible refine LeO.bind ?_ (fun _=>?_))
   | exact ih0 _ _ _ _ _ _ _ _ _ _ _
   | exact ih1 _ _ _ _ _ _ _ _ _ _ _ _ _ _ _
   | exact impl_tell.mono _ _
   | exact impl_told_parts.mono _ _ _
   | exact LeO.none _
   | refine LeO.ite ?_ ?_
   | refine LeO.bind ?_ (fun _=>?_)
  ·intro y0 y1 y2 y3 y4 y5 y6 y7 y8 y9 y10 y11 y12 y13 y14
   unfold impl_compose.l1
   repeat' first
   | (with_reducible exact ih0 _ _ _ _ _ _ _ _ _ _ _)
   | (with_reducible exact ih1 _ _ _ _ _ _ _ _ _ _ _ _ _ _ _)
   | (with_reducible exact impl_tell.mono _ _)
   | (with_reducible exact impl_told_parts.mono _ _ _)
   | (with_reducible exact LeO.refl _)
   | (with_reducible exact LeO.none _)
   | (with_reducible refine LeO.ite ?_ ?_)
   | (with_reducible refine LeO.bind ?_ (fun _=>?_))
   | exact ih0 _ _ _ _ _ _ _ _ _ _ _
   | exact ih1 _ _ _ _ _ _ _ _ _ _ _ _ _ _ _
   | exact impl_tell.mono _ _
   | exact impl_told_parts.mono _ _ _
   | exact LeO.none _
   | refine LeO.ite ?_ ?_
   | refine LeO.bind ?_ (fun _=>?_)
theorem impl_compose.mono : ∀ a0 a1 k,LeO (impl_compose.f k a0 a1) (impl_compose.f (k + 1) a0 a1):=by
 intro a0 a1 k
 obtain ⟨ih0,ih1⟩:=impl_compose.mono_l k
 unfold impl_compose.f
 repeat' first
   | (with_reducible exact ih0 _ _ _ _ _ _ _ _ _ _ _)
   | (with_reducible exact ih1 _ _ _ _ _ _ _ _ _ _ _ _ _ _ _)
   | (with_reducible exact impl_tell.mono _ _)
   | (with_reducible exact impl_told_parts.mono _ _ _)
   | (with_reducible exact LeO.refl _)
   | (with_reducible exact LeO.none _)
   | (with_reducible refine LeO.ite ?_ ?_)
   | (with_reducible refine LeO.bind ?_ (fun _=>?_))
   | exact ih0 _ _ _ _ _ _ _ _ _ _ _
   | exact ih1 _ _ _ _ _ _ _ _ _ _ _ _ _ _ _
   | exact impl_tell.mono _ _
   | exact impl_told_parts.mono _ _ _
   | exact LeO.none _
   | refine LeO.ite ?_ ?_
   | refine LeO.bind ?_ (fun _=>?_)
def impl_compose.T22 : Bool × List (List Nat × List Nat):=(true,[([],[]),([0],[0]),([],[]),([2],[2]),([],[]),([3,4],[3,4]),([5],[5]),([6],[6]),([1,7],[1,7]),([0,1,2,3,4,5,6,7,8],[]),([9,8,8,0,1,2,3,4,5,6,7,8],[8,9])])
def impl_compose.B22 : List Nat:=[0,1,0,4,0,28,60,124,255,511,1023]
theorem impl_compose.tab22 : rtab .any (opsOf Try.f77 22) = impl_compose.T22:=by kernel_rfl
theorem impl_compose.bits22 : waitsOk impl_compose.T22.2 impl_compose.B22 = true:=by kernel_rfl
set_option maxHeartbeats 8000000 in
set_option maxRecDepth 100000 in
theorem impl_compose.calls (k : Nat) (A0 : Option Addr) (c0 : Nat) (l0 : List (S74)) (A1 : Option Addr) (c1 : Nat) (l1 : List (S74)) (r : List (S74)) (w : World) (hr0 : Kd.C k74 w A0 l0.length l0) (hc0 : l0.length ≤ c0) (hr1 : Kd.C k74 w A1 l1.length l1) (hc1 : l1.length ≤ c1) (h : impl_compose.f k l0 l1 = some r) :
  Calls Try.prog 77 #[.slice A0 l0.length c0,.slice A1 l1.length c1] w fun e w'=>∃ v0_ : Value,e = .returned (v0_)∧Kd.R k74 74 w' w.heap.size (fun _=>True) v0_ r∧Below w.heap.size w w':=by
 have hu86:=Try.underlying86
 have HR0:=Aside0.mk hr0
 have HC0:=Aside0.mk hc0
 clear hr0 hc0
 have HR1:=Aside0.mk hr1
 have HC1:=Aside0.mk hc1
 clear hr1 hc1
 have HB:=Aside0.mk (Below.refl w.heap.size w)
 have H : ((impl_tell.f k l0).bind fun bt301=>((impl_tell.f k l1).bind fun bt307=>(if 0 < (bt307.2.length : Int) then (impl_compose.l0 k 0 (rdOf ByteArray.empty bt307.2 0) bt301.2 (bt301.2.length : Int) 0 bt301.1 bt301.2 bt307.1 bt307.2 ([] : List Bool) ([] : List ByteArray)) else (none)))) = some r:=h
 clear h
 replace H:=Option.bind_eq_some_iff.mp H
 obtain ⟨⟨t301,t304⟩,A30,H⟩:=H
 replace H : ((impl_tell.f k l1).bind fun bt307=>(if 0 < (bt307.2.length : Int) then (impl_compose.l0 k 0 (rdOf ByteArray.empty bt307.2 0) t304 (t304.length : Int) 0 t301 t304 bt307.1 bt307.2 ([] : List Bool) ([] : List ByteArray)) else (none))) = some r:=H
 have A3:=Aside0.mk A30
 clear A30
 replace H:=Option.bind_eq_some_iff.mp H
 obtain ⟨⟨t307,t310⟩,A40,H⟩:=H
 replace H : (if 0 < (t310.length : Int) then (impl_compose.l0 k 0 (rdOf ByteArray.empty t310 0) t304 (t304.length : Int) 0 t301 t304 t307 t310 ([] : List Bool) ([] : List ByteArray)) else (none)) = some r:=H
 have A4:=Aside0.mk A40
 clear A40
 by_cases c5 : 0 < (t310.length : Int)
 ·rw [if_pos c5] at H
  have c5b0 : decide (0 < (t310.length : Int)) = true:=decide_eq_true c5
  have c5b1 : decide (0 < t310.length) = true:=decide_eq_true (by omega)
  clear c5
  have H':=Aside0.mk H
  clear H
  go_enter Try.func77,Try.ntmps77
  go_wp2_with (first|((with_reducible refine gate_callee (f:=68) rfl ?_);refine goesL_ (some 15) rfl rfl Try.func68 (by kernel_rfl) rfl #[.slice A0 l0.length c0] rfl (by (try simp only [List.map_toArray,List.map_cons,List.map_nil]);first|done|rfl|(simp only [List.length_drop,List.length_take];rfl)) ?_;(with_reducible refine (impl_tell.calls k _ _ l0 t301 t304 _ ?side1 ?side2 A3.out).mono ?_);(case side1=>repeat (first|exact HR0.out|(with_reducible first|apply Kd.C_alloc|apply Kd.C_drewN|apply Kd.C_drew)));(case side2=>exact HC0.out);rintro e w6 ⟨v302,v305,rfl,ho0,ho1,hb⟩;refine ⟨_,rfl,?_⟩;have n0_:=Aside0.mk (Kd.R_lower ho0 (below_size (by repeat (first|exact HB.out|apply below_alloc|apply pw_below_drewN|apply below_drew1))));have n1_:=Aside0.mk (Kd.R_lower ho1 (below_size (by repeat (first|exact HB.out|apply below_alloc|apply pw_below_drewN|apply below_drew1))));have n2_:=Aside0.mk (below_step (by repeat (first|exact HB.out|apply below_alloc|apply pw_below_drewN|apply below_drew1)) hb);clear HB;have HO303:=n0_;have HO306:=n1_;have HB:=n2_;clear n0_ n1_ n2_;(try clear hb);(try clear hb2);(try clear hk);(try clear hi);(try clear ho0);(try clear ho1))|((with_reducible refine gate_callee (f:=68) rfl ?_);refine goesL_ (some 17) rfl rfl Try.func68 (by kernel_rfl) rfl #[.slice A1 l1.length c1] rfl (by (try simp only [List.map_toArray,List.map_cons,List.map_nil]);first|done|rfl|(simp only [List.length_drop,List.length_take];rfl)) ?_;(with_reducible refine (impl_tell.calls k _ _ l1 t307 t310 _ ?side1 ?side2 A4.out).mono ?_);(case side1=>repeat (first|exact (Kd.C_below HR1.out HB.out)|(with_reducible first|apply Kd.C_alloc|apply Kd.C_drewN|apply Kd.C_drew)));(case side2=>exact HC1.out);rintro e w7 ⟨v308,v311,rfl,ho0,ho1,hb⟩;refine ⟨_,rfl,?_⟩;have n0_:=Aside0.mk (Kd.R_elder' (by (with_reducible repeat (first|apply Kd.R_alloc|apply Kd.R_drewN|apply Kd.R_drew));exact HO303.out) (Kd.R_base ho0) hb);have n1_:=Aside0.mk (Kd.R_elder' (by (with_reducible repeat (first|apply Kd.R_alloc|apply Kd.R_drewN|apply Kd.R_drew));exact HO306.out) (Kd.R_base ho1) hb);have n2_:=Aside0.mk (Kd.R_lower (Kd.R_new' ho0 (Kd.R_lt (by (with_reducible repeat (first|apply Kd.R_alloc|apply Kd.R_drewN|apply Kd.R_drew));exact HO303.out))) (below_size (by repeat (first|exact HB.out|apply below_alloc|apply pw_below_drewN|apply below_drew1))));have n3_:=Aside0.mk (Kd.R_lower (Kd.R_new' ho1 (Kd.R_lt (by (with_reducible repeat (first|apply Kd.R_alloc|apply Kd.R_drewN|apply Kd.R_drew));exact HO306.out))) (below_size (by repeat (first|exact HB.out|apply below_alloc|apply pw_below_drewN|apply below_drew1))));have n4_:=Aside0.mk (below_step (by repeat (first|exact HB.out|apply below_alloc|apply pw_below_drewN|apply below_drew1)) hb);clear HO303;clear HO306;clear HB;have HO303:=n0_;have HO306:=n1_;have HO309:=n2_;have HO312:=n3_;have HB:=n4_;clear n0_ n1_ n2_ n3_ n4_;(try clear hb);(try clear hb2);(try clear hk);(try clear hi);(try clear ho0);(try clear ho1))|((with_reducible refine gate_dst (N:=5) rfl ?_);refine box_event ?hg (N:=5) ?hd (cs:=#[.slice none 0 0,.slice none 0 0]) (t:=86) ?hr ?_;(case hd=>rfl);(case hg=>rfl);(case hr=>first|(go_simp;done)|(go_simp;rfl));intro gb313 hg w8 hbox hb;have n0_:=Aside0.mk (Kd.R_below (by (with_reducible repeat (first|apply Kd.R_alloc|apply Kd.R_drewN|apply Kd.R_drew));exact HO303.out) hb);have n1_:=Aside0.mk (Kd.R_below (by (with_reducible repeat (first|apply Kd.R_alloc|apply Kd.R_drewN|apply Kd.R_drew));exact HO306.out) hb);have n2_:=Aside0.mk (Kd.R_below (by (with_reducible repeat (first|apply Kd.R_alloc|apply Kd.R_drewN|apply Kd.R_drew));exact HO309.out) hb);have n3_:=Aside0.mk (Kd.R_below (by (with_reducible repeat (first|apply Kd.R_alloc|apply Kd.R_drewN|apply Kd.R_drew));exact HO312.out) hb);have n4_:=Aside0.mk (below_step (by repeat (first|exact HB.out|apply below_alloc|apply pw_below_drewN|apply below_drew1)) hb);have n5_:=Aside0.mk (hbox);have n6_:=Aside0.mk ((by rw [hg];exact (below_size (by repeat (first|exact HB.out|apply below_alloc|apply pw_below_drewN|apply below_drew1))) : w.heap.size ≤ gb313));have n7_:=Aside0.mk ((by rw [hg];exact (below_size (by repeat (first|exact HB.out|apply below_alloc|apply pw_below_drewN|apply below_drew1))) : w.heap.size ≤ gb313));clear HO303;clear HO306;clear HO309;clear HO312;clear HB;have HO303:=n0_;have HO306:=n1_;have HO309:=n2_;have HO312:=n3_;have HB:=n4_;have BK313:=n5_;have GW313:=n6_;have GE313:=n7_;clear n0_ n1_ n2_ n3_ n4_ n5_ n6_ n7_;clear hb hbox hg)|((with_reducible refine gate_dst (N:=6) rfl ?_);refine box_event ?hg (N:=6) ?hd (cs:=#[.slice none 0 0,.slice none 0 0]) (t:=86) ?hr ?_;(case hd=>rfl);(case hg=>rfl);(case hr=>first|(go_simp;done)|(go_simp;rfl));intro gb314 hg w9 hbox hb;have n0_:=Aside0.mk (Kd.R_below (by (with_reducible repeat (first|apply Kd.R_alloc|apply Kd.R_drewN|apply Kd.R_drew));exact HO303.out) hb);have n1_:=Aside0.mk (Kd.R_below (by (with_reducible repeat (first|apply Kd.R_alloc|apply Kd.R_drewN|apply Kd.R_drew));exact HO306.out) hb);have n2_:=Aside0.mk (Kd.R_below (by (with_reducible repeat (first|apply Kd.R_alloc|apply Kd.R_drewN|apply Kd.R_drew));exact HO309.out) hb);have n3_:=Aside0.mk (Kd.R_below (by (with_reducible repeat (first|apply Kd.R_alloc|apply Kd.R_drewN|apply Kd.R_drew));exact HO312.out) hb);have n4_:=Aside0.mk (blk_below (g:=gb313) (o:=.cells #[.slice none 0 0,.slice none 0 0] 86 (0,0)) (by (with_reducible repeat first|apply blk_drewN|apply blk_drew|apply blk_alloc);exact BK313.out) hb);have n5_:=Aside0.mk (below_step (by repeat (first|(with_reducible first|exact HB.out|apply below_alloc|apply pw_below_drewN|apply below_drew1|refine below_set ?_ GE313.out)|exact HB.out)) hb);have n6_:=Aside0.mk (hbox);have n7_:=Aside0.mk ((by rw [hg];exact (below_size (by repeat (first|(with_reducible first|exact HB.out|apply below_alloc|apply pw_below_drewN|apply below_drew1|refine below_set ?_ GE313.out)|exact HB.out))) : w.heap.size ≤ gb314));have n8_:=Aside0.mk ((by rw [hg];exact (below_size (by repeat (first|(with_reducible first|exact HB.out|apply below_alloc|apply pw_below_drewN|apply below_drew1|refine below_set ?_ GE313.out)|exact HB.out))) : w.heap.size ≤ gb314));have n9_:=Aside0.mk ((by rw [hg];exact Nat.ne_of_lt (blk_lt (g:=gb313) (o:=.cells #[.slice none 0 0,.slice none 0 0] 86 (0,0)) (by (with_reducible repeat first|apply blk_drewN|apply blk_drew|apply blk_alloc);exact BK313.out)) : gb313 ≠ gb314));have n10_:=Aside0.mk ((by rw [hg];exact Nat.ne_of_gt (blk_lt (g:=gb313) (o:=.cells #[.slice none 0 0,.slice none 0 0] 86 (0,0)) (by (with_reducible repeat first|apply blk_drewN|apply blk_drew|apply blk_alloc);exact BK313.out)) : gb314 ≠ gb313));clear HO303;clear HO306;clear HO309;clear HO312;clear BK313;clear HB;have HO303:=n0_;have HO306:=n1_;have HO309:=n2_;have HO312:=n3_;have BK313:=n4_;have HB:=n5_;have BK314:=n6_;have GW314:=n7_;have GE314:=n8_;have NB313_314:=n9_;have NB314_313:=n10_;clear n0_ n1_ n2_ n3_ n4_ n5_ n6_ n7_ n8_ n9_ n10_;clear hb hbox hg;obtain ⟨Ao10,co10,eo10⟩:=Kd.R_slice HO303.out;subst eo10;have hnb11:=NB313_314.out;have hnc11:=NB314_313.out;have hcz12_0 : w9.cell? ⟨gb313,0,none⟩ = some (.slice none 0 0):=(blk_cell BK313.out 0).trans rfl;have hcz12_1 : w9.cell? ⟨gb313,1,none⟩ = some (.slice none 0 0):=(blk_cell BK313.out 1).trans rfl;have hfz12_0:=blk_frozen BK313.out 0;have hfz12_1:=blk_frozen BK313.out 1;obtain ⟨Ao13,co13,eo13⟩:=Kd.R_slice HO306.out;subst eo13;obtain ⟨Ao14,co14,eo14⟩:=Kd.R_slice HO309.out;subst eo14;have hcz15_0 : w9.cell? ⟨gb314,0,none⟩ = some (.slice none 0 0):=(blk_cell BK314.out 0).trans rfl;have hcz15_1 : w9.cell? ⟨gb314,1,none⟩ = some (.slice none 0 0):=(blk_cell BK314.out 1).trans rfl;have hfz15_0:=blk_frozen BK314.out 0;have hfz15_1:=blk_frozen BK314.out 1;obtain ⟨Ao16,co16,eo16⟩:=Kd.R_slice HO312.out;subst eo16)|((with_reducible refine gate_dst (N:=7) rfl ?_);refine box_event ?hg (N:=7) ?hd (cs:=#[.slice none 0 0,.slice none 0 0]) (t:=86) ?hr ?_;(case hd=>rfl);(case hg=>rfl);(case hr=>first|(go_simp;done)|(go_simp;rfl));intro gb315 hg w17 hbox hb;have n0_:=Aside0.mk (Kd.R_below (by (with_reducible repeat (first|apply Kd.R_alloc|apply Kd.R_drewN|apply Kd.R_drew));exact (Kd.R_mono (Kd.R_mono (Kd.R_far (p:=⟨gb314,1,none⟩) (Kd.R_far (p:=⟨gb314,0,none⟩) (Kd.R_far (p:=⟨gb313,1,none⟩) (Kd.R_far (p:=⟨gb313,0,none⟩) (Kd.R_types (Kd.R_types HO303.out BK313.out (by decide)) BK314.out (by decide)) (fun _ hk=>hk.1.2) (.slice Ao10 t301.length co10)) (fun _ hk=>hk.1.2) (.slice Ao13 t304.length co13)) (fun _ hk=>hk.2) (.slice Ao14 t307.length co14)) (fun _ hk=>hk.2) (.slice Ao16 t310.length co16)) (fun _ h_=>h_.1)) (fun _ h_=>h_.1))) hb);have n1_:=Aside0.mk (Kd.R_below (by (with_reducible repeat (first|apply Kd.R_alloc|apply Kd.R_drewN|apply Kd.R_drew));exact (Kd.R_mono (Kd.R_mono (Kd.R_far (p:=⟨gb314,1,none⟩) (Kd.R_far (p:=⟨gb314,0,none⟩) (Kd.R_far (p:=⟨gb313,1,none⟩) (Kd.R_far (p:=⟨gb313,0,none⟩) (Kd.R_types (Kd.R_types HO306.out BK313.out (by decide)) BK314.out (by decide)) (fun _ hk=>hk.1.2) (.slice Ao10 t301.length co10)) (fun _ hk=>hk.1.2) (.slice Ao13 t304.length co13)) (fun _ hk=>hk.2) (.slice Ao14 t307.length co14)) (fun _ hk=>hk.2) (.slice Ao16 t310.length co16)) (fun _ h_=>h_.1)) (fun _ h_=>h_.1))) hb);have n2_:=Aside0.mk (Kd.R_below (by (with_reducible repeat (first|apply Kd.R_alloc|apply Kd.R_drewN|apply Kd.R_drew));exact (Kd.R_mono (Kd.R_mono (Kd.R_far (p:=⟨gb314,1,none⟩) (Kd.R_far (p:=⟨gb314,0,none⟩) (Kd.R_far (p:=⟨gb313,1,none⟩) (Kd.R_far (p:=⟨gb313,0,none⟩) (Kd.R_types (Kd.R_types HO309.out BK313.out (by decide)) BK314.out (by decide)) (fun _ hk=>hk.1.2) (.slice Ao10 t301.length co10)) (fun _ hk=>hk.1.2) (.slice Ao13 t304.length co13)) (fun _ hk=>hk.2) (.slice Ao14 t307.length co14)) (fun _ hk=>hk.2) (.slice Ao16 t310.length co16)) (fun _ h_=>h_.1)) (fun _ h_=>h_.1))) hb);have n3_:=Aside0.mk (Kd.R_below (by (with_reducible repeat (first|apply Kd.R_alloc|apply Kd.R_drewN|apply Kd.R_drew));exact (Kd.R_mono (Kd.R_mono (Kd.R_far (p:=⟨gb314,1,none⟩) (Kd.R_far (p:=⟨gb314,0,none⟩) (Kd.R_far (p:=⟨gb313,1,none⟩) (Kd.R_far (p:=⟨gb313,0,none⟩) (Kd.R_types (Kd.R_types HO312.out BK313.out (by decide)) BK314.out (by decide)) (fun _ hk=>hk.1.2) (.slice Ao10 t301.length co10)) (fun _ hk=>hk.1.2) (.slice Ao13 t304.length co13)) (fun _ hk=>hk.2) (.slice Ao14 t307.length co14)) (fun _ hk=>hk.2) (.slice Ao16 t310.length co16)) (fun _ h_=>h_.1)) (fun _ h_=>h_.1))) hb);have n4_:=Aside0.mk (blk_below (g:=gb313) (o:=.cells #[.slice Ao10 t301.length co10,.slice Ao13 t304.length co13] 86 (0,0)) (by (with_reducible repeat first|apply blk_drewN|apply blk_drew|apply blk_alloc);refine blk_far ?_ NB313_314.out _;(with_reducible repeat first|apply blk_drewN|apply blk_drew|apply blk_alloc);refine blk_far ?_ NB313_314.out _;(with_reducible repeat first|apply blk_drewN|apply blk_drew|apply blk_alloc);refine blk_put (cs:=#[.slice Ao10 t301.length co10,.slice none 0 0]) ?_ 1 _ rfl;(with_reducible repeat first|apply blk_drewN|apply blk_drew|apply blk_alloc);refine blk_put (cs:=#[.slice none 0 0,.slice none 0 0]) ?_ 0 _ rfl;(with_reducible repeat first|apply blk_drewN|apply blk_drew|apply blk_alloc);exact BK313.out) hb);have n5_:=Aside0.mk (blk_below (g:=gb314) (o:=.cells #[.slice Ao14 t307.length co14,.slice Ao16 t310.length co16] 86 (0,0)) (by (with_reducible repeat first|apply blk_drewN|apply blk_drew|apply blk_alloc);refine blk_put (cs:=#[.slice Ao14 t307.length co14,.slice none 0 0]) ?_ 1 _ rfl;(with_reducible repeat first|apply blk_drewN|apply blk_drew|apply blk_alloc);refine blk_put (cs:=#[.slice none 0 0,.slice none 0 0]) ?_ 0 _ rfl;(with_reducible repeat first|apply blk_drewN|apply blk_drew|apply blk_alloc);refine blk_far ?_ NB314_313.out _;(with_reducible repeat first|apply blk_drewN|apply blk_drew|apply blk_alloc);refine blk_far ?_ NB314_313.out _;(with_reducible repeat first|apply blk_drewN|apply blk_drew|apply blk_alloc);exact BK314.out) hb);have n6_:=Aside0.mk (below_step (by repeat (first|(with_reducible first|exact HB.out|apply below_alloc|apply pw_below_drewN|apply below_drew1|refine below_set ?_ GE313.out|refine below_set ?_ GE314.out)|exact HB.out)) hb);have n7_:=Aside0.mk (hbox);have n8_:=Aside0.mk ((by rw [hg];exact (below_size (by repeat (first|(with_reducible first|exact HB.out|apply below_alloc|apply pw_below_drewN|apply below_drew1|refine below_set ?_ GE313.out|refine below_set ?_ GE314.out)|exact HB.out))) : w.heap.size ≤ gb315));have n9_:=Aside0.mk ((by rw [hg];exact (below_size (by repeat (first|(with_reducible first|exact HB.out|apply below_alloc|apply pw_below_drewN|apply below_drew1|refine below_set ?_ GE313.out|refine below_set ?_ GE314.out)|exact HB.out))) : w.heap.size ≤ gb315));have n10_:=Aside0.mk ((by rw [hg];exact Nat.ne_of_lt (blk_lt (g:=gb313) (o:=.cells #[.slice Ao10 t301.length co10,.slice Ao13 t304.length co13] 86 (0,0)) (by (with_reducible repeat first|apply blk_drewN|apply blk_drew|apply blk_alloc);refine blk_far ?_ NB313_314.out _;(with_reducible repeat first|apply blk_drewN|apply blk_drew|apply blk_alloc);refine blk_far ?_ NB313_314.out _;(with_reducible repeat first|apply blk_drewN|apply blk_drew|apply blk_alloc);refine blk_put (cs:=#[.slice Ao10 t301.length co10,.slice none 0 0]) ?_ 1 _ rfl;(with_reducible repeat first|apply blk_drewN|apply blk_drew|apply blk_alloc);refine blk_put (cs:=#[.slice none 0 0,.slice none 0 0]) ?_ 0 _ rfl;(with_reducible repeat first|apply blk_drewN|apply blk_drew|apply blk_alloc);exact BK313.out)) : gb313 ≠ gb315));have n11_:=Aside0.mk ((by rw [hg];exact Nat.ne_of_gt (blk_lt (g:=gb313) (o:=.cells #[.slice Ao10 t301.length co10,.slice Ao13 t304.length co13] 86 (0,0)) (by (with_reducible repeat first|apply blk_drewN|apply blk_drew|apply blk_alloc);refine blk_far ?_ NB313_314.out _;(with_reducible repeat first|apply blk_drewN|apply blk_drew|apply blk_alloc);refine blk_far ?_ NB313_314.out _;(with_reducible repeat first|apply blk_drewN|apply blk_drew|apply blk_alloc);refine blk_put (cs:=#[.slice Ao10 t301.length co10,.slice none 0 0]) ?_ 1 _ rfl;(with_reducible repeat first|apply blk_drewN|apply blk_drew|apply blk_alloc);refine blk_put (cs:=#[.slice none 0 0,.slice none 0 0]) ?_ 0 _ rfl;(with_reducible repeat first|apply blk_drewN|apply blk_drew|apply blk_alloc);exact BK313.out)) : gb315 ≠ gb313));have n12_:=Aside0.mk ((by rw [hg];exact Nat.ne_of_lt (blk_lt (g:=gb314) (o:=.cells #[.slice Ao14 t307.length co14,.slice Ao16 t310.length co16] 86 (0,0)) (by (with_reducible repeat first|apply blk_drewN|apply blk_drew|apply blk_alloc);refine blk_put (cs:=#[.slice Ao14 t307.length co14,.slice none 0 0]) ?_ 1 _ rfl;(with_reducible repeat first|apply blk_drewN|apply blk_drew|apply blk_alloc);refine blk_put (cs:=#[.slice none 0 0,.slice none 0 0]) ?_ 0 _ rfl;(with_reducible repeat first|apply blk_drewN|apply blk_drew|apply blk_alloc);refine blk_far ?_ NB314_313.out _;(with_reducible repeat first|apply blk_drewN|apply blk_drew|apply blk_alloc);refine blk_far ?_ NB314_313.out _;(with_reducible repeat first|apply blk_drewN|apply blk_drew|apply blk_alloc);exact BK314.out)) : gb314 ≠ gb315));have n13_:=Aside0.mk ((by rw [hg];exact Nat.ne_of_gt (blk_lt (g:=gb314) (o:=.cells #[.slice Ao14 t307.length co14,.slice Ao16 t310.length co16] 86 (0,0)) (by (with_reducible repeat first|apply blk_drewN|apply blk_drew|apply blk_alloc);refine blk_put (cs:=#[.slice Ao14 t307.length co14,.slice none 0 0]) ?_ 1 _ rfl;(with_reducible repeat first|apply blk_drewN|apply blk_drew|apply blk_alloc);refine blk_put (cs:=#[.slice none 0 0,.slice none 0 0]) ?_ 0 _ rfl;(with_reducible repeat first|apply blk_drewN|apply blk_drew|apply blk_alloc);refine blk_far ?_ NB314_313.out _;(with_reducible repeat first|apply blk_drewN|apply blk_drew|apply blk_alloc);refine blk_far ?_ NB314_313.out _;(with_reducible repeat first|apply blk_drewN|apply blk_drew|apply blk_alloc);exact BK314.out)) : gb315 ≠ gb314));clear HO303;clear HO306;clear HO309;clear HO312;clear BK313;clear BK314;clear HB;have HO303:=n0_;have HO306:=n1_;have HO309:=n2_;have HO312:=n3_;have BK313:=n4_;have BK314:=n5_;have HB:=n6_;have BK315:=n7_;have GW315:=n8_;have GE315:=n9_;have NB313_315:=n10_;have NB315_313:=n11_;have NB314_315:=n12_;have NB315_314:=n13_;clear n0_ n1_ n2_ n3_ n4_ n5_ n6_ n7_ n8_ n9_ n10_ n11_ n12_ n13_;clear hb hbox hg;have hnb18:=NB315_313.out;have hnc18:=NB313_315.out;have hnb19:=NB315_314.out;have hnc19:=NB314_315.out;have hcz20_0 : w17.cell? ⟨gb315,0,none⟩ = some (.slice none 0 0):=(blk_cell BK315.out 0).trans rfl;have hcz20_1 : w17.cell? ⟨gb315,1,none⟩ = some (.slice none 0 0):=(blk_cell BK315.out 1).trans rfl;have hfz20_0:=blk_frozen BK315.out 0;have hfz20_1:=blk_frozen BK315.out 1;have hcz21_0 : w17.cell? ⟨gb314,0,none⟩ = some (.slice Ao14 t307.length co14):=(blk_cell BK314.out 0).trans rfl;have hcz21_1 : w17.cell? ⟨gb314,1,none⟩ = some (.slice Ao16 t310.length co16):=(blk_cell BK314.out 1).trans rfl;have hfz21_0:=blk_frozen BK314.out 0;have hfz21_1:=blk_frozen BK314.out 1;have p316 : 0 ≤ (0 : Int):=(by omega);have q316 : 0 < (t310.length : Int):=of_decide_eq_true (by assumption);obtain ⟨ad316,e316,hx316_0⟩:=Kd.at_string (Kd.R_reads' HO312.out).2.2 0 p316 q316;cases e316;have qi316 : (0 < t310.length) = True:=eq_true (by omega);(try rw [show ((0 : Int)).toNat = 0 from rfl] at hx316_0);(try rw [Addr.add_zero'] at hx316_0);have hn316_0 : ad316.block ≠ gb315:=Kd.own_blk (Kd.R_ne HO312.out BK315.out (by decide));have hn316_1 : ad316.block ≠ gb315:=Kd.own_blk (Kd.R_ne HO312.out BK315.out (by decide));replace hx316_0:=(cell_far (p:=⟨gb315,0,none⟩) (by first|(rw [add_block];exact hn316_0)|(show (Addr.add _ _).block ≠ _;rw [add_block];exact hn316_0)|exact hn316_0) (.slice none 0 0)).trans hx316_0;replace hx316_0:=(cell_far (p:=⟨gb315,1,none⟩) (by first|(rw [add_block];exact hn316_1)|(show (Addr.add _ _).block ≠ _;rw [add_block];exact hn316_1)|exact hn316_1) (.slice none 0 0)).trans hx316_0;clear hn316_0;clear hn316_1;replace p316:=eq_true p316;replace q316:=eq_true q316;have hcz22_0 : w17.cell? ⟨gb313,0,none⟩ = some (.slice Ao10 t301.length co10):=(blk_cell BK313.out 0).trans rfl;have hcz22_1 : w17.cell? ⟨gb313,1,none⟩ = some (.slice Ao13 t304.length co13):=(blk_cell BK313.out 1).trans rfl;have hfz22_0:=blk_frozen BK313.out 0;have hfz22_1:=blk_frozen BK313.out 1))
  go_loopg [8,9,26] k (fun kq v8 v9 v26 w'=>∃ (x8_1 : Int) (x9_1 : ByteArray) (x26_1 : Int) (x316000_1 : List Bool) (x316001_1 : List ByteArray) (u316000 : Value) (u316001 : Value),v8 = .int .i64 x8_1∧v9 = .string x9_1∧v26 = .int .i64 x26_1∧Aside0 (impl_compose.l0 kq x8_1 x9_1 t304 (t304.length : Int) x26_1 t301 t304 t307 t310 x316000_1 x316001_1 = some r)∧Aside0 (kq ≤ k)∧Aside0 (Kd.R Kd.string 9 w' w.heap.size (fun k_=>some k_ ≠ ((.slice (some ad316) t310.length co16) : Value).ownBlock∧some k_ ≠ (u316001 : Value).ownBlock) (.slice Ao13 t304.length co13) t304)∧Aside0 (Kd.R Kd.bool 4 w' w.heap.size (fun k_=>some k_ ≠ ((.slice Ao14 t307.length co14) : Value).ownBlock∧some k_ ≠ (u316000 : Value).ownBlock) (.slice Ao10 t301.length co10) t301)∧Aside0 (Kd.R Kd.string 9 w' w.heap.size (fun k_=>some k_ ≠ ((.slice (some ad316) t310.length co16) : Value).ownBlock∧some k_ ≠ (u316001 : Value).ownBlock) (.slice Ao13 t304.length co13) t304)∧Aside0 (Kd.R Kd.bool 4 w' w.heap.size (fun k_=>some k_ ≠ ((.slice Ao10 t301.length co10) : Value).ownBlock∧some k_ ≠ (u316000 : Value).ownBlock) (.slice Ao14 t307.length co14) t307)∧Aside0 (Kd.R Kd.string 9 w' w.heap.size (fun k_=>some k_ ≠ ((.slice Ao13 t304.length co13) : Value).ownBlock∧some k_ ≠ ((.slice Ao13 t304.length co13) : Value).ownBlock∧some k_ ≠ (u316001 : Value).ownBlock) (.slice (some ad316) t310.length co16) t310)∧Aside0 (Kd.R Kd.bool 4 w' w.heap.size (fun k_=>some k_ ≠ ((.slice Ao10 t301.length co10) : Value).ownBlock∧some k_ ≠ ((.slice Ao14 t307.length co14) : Value).ownBlock) u316000 x316000_1)∧Aside0 (Kd.R Kd.string 9 w' w.heap.size (fun k_=>some k_ ≠ ((.slice Ao13 t304.length co13) : Value).ownBlock∧some k_ ≠ ((.slice Ao13 t304.length co13) : Value).ownBlock∧some k_ ≠ ((.slice (some ad316) t310.length co16) : Value).ownBlock) u316001 x316001_1)∧Aside0 (w'.heap[gb313]? = some (.cells #[(.slice Ao10 t301.length co10),(.slice Ao13 t304.length co13)] 86 (0,0)))∧Aside0 (w'.heap[gb314]? = some (.cells #[(.slice Ao14 t307.length co14),(.slice (some ad316) t310.length co16)] 86 (0,0)))∧Aside0 (w'.heap[gb315]? = some (.cells #[u316000,u316001] 86 (0,0)))∧Aside0 (Below w.heap.size w w'))
  case atStart=>exact ⟨(0),(rdOf ByteArray.empty t310 0),(0),(([] : List Bool)),(([] : List ByteArray)),(.slice none 0 0),(.slice none 0 0),(by first|rfl|(simp;done)|(simp [*];done)),(by first|rfl|(simp;done)|(simp [*];done)),(by first|rfl|(simp;done)|(simp [*];done)),H',⟨Nat.le_refl _⟩,⟨by (with_reducible repeat (first|apply Kd.R_alloc|apply Kd.R_drewN|apply Kd.R_drew));exact Kd.R_mono (Kd.R_far (p:=⟨gb315,1,none⟩) (Kd.R_far (p:=⟨gb315,0,none⟩) (Kd.R_types HO306.out BK315.out (by decide)) (fun _ hk=>hk.2) (.slice none 0 0)) (fun _ hk=>hk.2) (.slice none 0 0)) (fun _ hk=>⟨hk.1.2,(by simp [Value.ownBlock])⟩)⟩,⟨by (with_reducible repeat (first|apply Kd.R_alloc|apply Kd.R_drewN|apply Kd.R_drew));exact Kd.R_mono (Kd.R_far (p:=⟨gb315,1,none⟩) (Kd.R_far (p:=⟨gb315,0,none⟩) (Kd.R_types HO303.out BK315.out (by decide)) (fun _ hk=>hk.2) (.slice none 0 0)) (fun _ hk=>hk.2) (.slice none 0 0)) (fun _ hk=>⟨hk.1.2,(by simp [Value.ownBlock])⟩)⟩,⟨by (with_reducible repeat (first|apply Kd.R_alloc|apply Kd.R_drewN|apply Kd.R_drew));exact Kd.R_mono (Kd.R_far (p:=⟨gb315,1,none⟩) (Kd.R_far (p:=⟨gb315,0,none⟩) (Kd.R_types HO306.out BK315.out (by decide)) (fun _ hk=>hk.2) (.slice none 0 0)) (fun _ hk=>hk.2) (.slice none 0 0)) (fun _ hk=>⟨hk.1.2,(by simp [Value.ownBlock])⟩)⟩,⟨by (with_reducible repeat (first|apply Kd.R_alloc|apply Kd.R_drewN|apply Kd.R_drew));exact Kd.R_mono (Kd.R_far (p:=⟨gb315,1,none⟩) (Kd.R_far (p:=⟨gb315,0,none⟩) (Kd.R_types HO309.out BK315.out (by decide)) (fun _ hk=>hk.2) (.slice none 0 0)) (fun _ hk=>hk.2) (.slice none 0 0)) (fun _ hk=>⟨hk.1.2,(by simp [Value.ownBlock])⟩)⟩,⟨by (with_reducible repeat (first|apply Kd.R_alloc|apply Kd.R_drewN|apply Kd.R_drew));exact Kd.R_mono (Kd.R_far (p:=⟨gb315,1,none⟩) (Kd.R_far (p:=⟨gb315,0,none⟩) (Kd.R_types HO312.out BK315.out (by decide)) (fun _ hk=>hk.2) (.slice none 0 0)) (fun _ hk=>hk.2) (.slice none 0 0)) (fun _ hk=>⟨hk.1.2,⟨hk.1.2,(by simp [Value.ownBlock])⟩⟩)⟩,⟨by first|exact Kd.R_nil _ _ _ _ _|exact Kd.N_nil _ _ _ _ _|exact Kd.V_nil _ _ _ _ _|exact Kd.Q_nil _ _ _ _ _|exact Kd.S_nil _ _ _ _ _⟩,⟨by first|exact Kd.R_nil _ _ _ _ _|exact Kd.N_nil _ _ _ _ _|exact Kd.V_nil _ _ _ _ _|exact Kd.Q_nil _ _ _ _ _|exact Kd.S_nil _ _ _ _ _⟩,⟨by (with_reducible repeat first|apply blk_drewN|apply blk_drew|apply blk_alloc);refine blk_far ?_ NB313_315.out _;(with_reducible repeat first|apply blk_drewN|apply blk_drew|apply blk_alloc);refine blk_far ?_ NB313_315.out _;(with_reducible repeat first|apply blk_drewN|apply blk_drew|apply blk_alloc);exact BK313.out⟩,⟨by (with_reducible repeat first|apply blk_drewN|apply blk_drew|apply blk_alloc);refine blk_far ?_ NB314_315.out _;(with_reducible repeat first|apply blk_drewN|apply blk_drew|apply blk_alloc);refine blk_far ?_ NB314_315.out _;(with_reducible repeat first|apply blk_drewN|apply blk_drew|apply blk_alloc);exact BK314.out⟩,⟨by (with_reducible repeat first|apply blk_drewN|apply blk_drew|apply blk_alloc);refine blk_put (cs:=#[.slice none 0 0,.slice none 0 0]) ?_ 1 _ rfl;(with_reducible repeat first|apply blk_drewN|apply blk_drew|apply blk_alloc);refine blk_put (cs:=#[.slice none 0 0,.slice none 0 0]) ?_ 0 _ rfl;(with_reducible repeat first|apply blk_drewN|apply blk_drew|apply blk_alloc);exact BK315.out⟩,⟨by repeat (first|(with_reducible first|exact HB.out|apply below_alloc|apply pw_below_drewN|apply below_drew1|refine below_set ?_ GE313.out|refine below_set ?_ GE314.out|refine below_set ?_ GE315.out)|exact HB.out)⟩⟩
  case round =>
   clear H'
   (try clear c1);(try clear p2);(try clear p3);(try clear q3);(try clear hx3);(try clear qi3);(try clear c5);(try clear c5b0);(try clear c5b1);(try clear c6);(try clear c7);(try clear c11);(try clear c18);(try clear c19);(try clear hcz12_0);(try clear hcz12_1);(try clear hcz15_0);(try clear hcz15_1);(try clear hcz20_0);(try clear hcz20_1);(try clear hcz21_0);(try clear hcz21_1);(try clear hcz22_0);(try clear hcz22_1);(try clear hfz12_0);(try clear hfz12_1);(try clear hfz15_0);(try clear hfz15_1);(try clear hfz20_0);(try clear hfz20_1);(try clear hfz21_0);(try clear hfz21_1);(try clear hfz22_0);(try clear hfz22_1);(try clear hx316_0);(try clear p316);(try clear q316);(try clear BK313);(try clear BK314);(try clear BK315)
   obtain ⟨x8_1,x9_1,x26_1,x316000_1,x316001_1,u316000,u316001,rfl,rfl,rfl,HA,HK1,HO_24,HO_314000,HO_314001,HO_315000,HO_315001,HO_316000,HO_316001,BK313,BK314,BK315,HB⟩:=hrel
   cases gk with
   | zero=>exact absurd HA.out (by simp [impl_compose.l0])
   | succ k1 =>
    have H:=HA.out
    clear HA
    simp only [impl_compose.l0] at H
    by_cases c23 : x26_1 < (t304.length : Int)
    ·rw [if_pos c23] at H
     have c23b0 : decide (x26_1 < (t304.length : Int)) = true:=decide_eq_true c23
     clear c23
     by_cases c24 : 0 ≤ x26_1
     ·rw [if_pos c24] at H
      have c24b0 : decide (0 ≤ x26_1) = true:=decide_eq_true c24
      clear c24
      by_cases c25 : x26_1 < (t304.length : Int)
      ·rw [if_pos c25] at H
       have c25b0 : decide (x26_1 < (t304.length : Int)) = true:=decide_eq_true c25
       clear c25
       have H':=Aside0.mk H
       clear H
       have p320 : 0 ≤ (x26_1 : Int):=of_decide_eq_true (by assumption)
       have q320 : x26_1 < (t304.length : Int):=of_decide_eq_true (by assumption)
       obtain ⟨ad320,e320,hx320_0⟩:=Kd.at_string (Kd.R_reads' HO_24.out).2.2 x26_1 p320 q320
       cases e320
       replace p320:=eq_true p320
       replace q320:=eq_true q320
       go_wp2
       go_loopg [8,12,34] k1 (fun kq v8 v12 v34 w'=>∃ (x8_2 : Int) (x12_2 : ByteArray) (x34_2 : Int),v8 = .int .i64 x8_2∧v12 = .string x12_2∧v34 = .int .i64 x34_2∧Aside0 (impl_compose.l1 kq x8_2 x26_1 (rdOf ByteArray.empty t304 x26_1) x12_2 t304 (t304.length : Int) x26_1 ((rdOf ByteArray.empty t304 x26_1).size : Int) x34_2 t301 t304 t307 t310 x316000_1 x316001_1 = some r)∧Aside0 (kq ≤ k1)∧Aside0 (Kd.R Kd.string 9 w' w.heap.size (fun k_=>some k_ ≠ ((.slice (some ad316) t310.length co16) : Value).ownBlock∧some k_ ≠ (u316001 : Value).ownBlock) (.slice (some ad320) t304.length co13) t304)∧Aside0 (Kd.R Kd.bool 4 w' w.heap.size (fun k_=>some k_ ≠ ((.slice Ao14 t307.length co14) : Value).ownBlock∧some k_ ≠ (u316000 : Value).ownBlock) (.slice Ao10 t301.length co10) t301)∧Aside0 (Kd.R Kd.string 9 w' w.heap.size (fun k_=>some k_ ≠ ((.slice (some ad316) t310.length co16) : Value).ownBlock∧some k_ ≠ (u316001 : Value).ownBlock) (.slice (some ad320) t304.length co13) t304)∧Aside0 (Kd.R Kd.bool 4 w' w.heap.size (fun k_=>some k_ ≠ ((.slice Ao10 t301.length co10) : Value).ownBlock∧some k_ ≠ (u316000 : Value).ownBlock) (.slice Ao14 t307.length co14) t307)∧Aside0 (Kd.R Kd.string 9 w' w.heap.size (fun k_=>some k_ ≠ ((.slice (some ad320) t304.length co13) : Value).ownBlock∧some k_ ≠ ((.slice (some ad320) t304.length co13) : Value).ownBlock∧some k_ ≠ (u316001 : Value).ownBlock) (.slice (some ad316) t310.length co16) t310)∧Aside0 (Kd.R Kd.bool 4 w' w.heap.size (fun k_=>some k_ ≠ ((.slice Ao10 t301.length co10) : Value).ownBlock∧some k_ ≠ ((.slice Ao14 t307.length co14) : Value).ownBlock) u316000 x316000_1)∧Aside0 (Kd.R Kd.string 9 w' w.heap.size (fun k_=>some k_ ≠ ((.slice (some ad320) t304.length co13) : Value).ownBlock∧some k_ ≠ ((.slice (some ad320) t304.length co13) : Value).ownBlock∧some k_ ≠ ((.slice (some ad316) t310.length co16) : Value).ownBlock) u316001 x316001_1)∧Aside0 (w'.heap[gb313]? = some (.cells #[(.slice Ao10 t301.length co10),(.slice (some ad320) t304.length co13)] 86 (0,0)))∧Aside0 (w'.heap[gb314]? = some (.cells #[(.slice Ao14 t307.length co14),(.slice (some ad316) t310.length co16)] 86 (0,0)))∧Aside0 (w'.heap[gb315]? = some (.cells #[u316000,u316001] 86 (0,0)))∧Aside0 (Below w.heap.size w w'))
       case atStart=>exact ⟨(x8_1),(x9_1),(0),(by first|rfl|(simp;done)|(simp [*];done)),(by first|rfl|(simp;done)|(simp [*];done)),(by first|rfl|(simp;done)|(simp [*];done)),H',⟨Nat.le_refl _⟩,⟨by (with_reducible repeat (first|apply Kd.R_alloc|apply Kd.R_drewN|apply Kd.R_drew));exact HO_24.out⟩,⟨by (with_reducible repeat (first|apply Kd.R_alloc|apply Kd.R_drewN|apply Kd.R_drew));exact HO_314000.out⟩,⟨by (with_reducible repeat (first|apply Kd.R_alloc|apply Kd.R_drewN|apply Kd.R_drew));exact HO_314001.out⟩,⟨by (with_reducible repeat (first|apply Kd.R_alloc|apply Kd.R_drewN|apply Kd.R_drew));exact HO_315000.out⟩,⟨by (with_reducible repeat (first|apply Kd.R_alloc|apply Kd.R_drewN|apply Kd.R_drew));exact HO_315001.out⟩,⟨by (with_reducible repeat (first|apply Kd.R_alloc|apply Kd.R_drewN|apply Kd.R_drew));exact HO_316000.out⟩,⟨by (with_reducible repeat (first|apply Kd.R_alloc|apply Kd.R_drewN|apply Kd.R_drew));exact HO_316001.out⟩,⟨by (with_reducible repeat first|apply blk_drewN|apply blk_drew|apply blk_alloc);exact BK313.out⟩,⟨by (with_reducible repeat first|apply blk_drewN|apply blk_drew|apply blk_alloc);exact BK314.out⟩,⟨by (with_reducible repeat first|apply blk_drewN|apply blk_drew|apply blk_alloc);exact BK315.out⟩,⟨by repeat (first|(with_reducible first|exact HB.out|apply below_alloc|apply pw_below_drewN|apply below_drew1|refine below_set ?_ GE313.out|refine below_set ?_ GE314.out|refine below_set ?_ GE315.out)|exact HB.out)⟩⟩
       case round =>
        clear H'
        (try clear c1);(try clear c2);(try clear p2);(try clear p3);(try clear q3);(try clear hx3);(try clear qi3);(try clear c5);(try clear c5b0);(try clear c5b1);(try clear c6);(try clear c7);(try clear c11);(try clear c18);(try clear c19);(try clear c23);(try clear c23b0);(try clear c24);(try clear c24b0);(try clear c25);(try clear c25b0);(try clear hcz12_0);(try clear hcz12_1);(try clear hcz15_0);(try clear hcz15_1);(try clear hcz20_0);(try clear hcz20_1);(try clear hcz21_0);(try clear hcz21_1);(try clear hcz22_0);(try clear hcz22_1);(try clear hfz12_0);(try clear hfz12_1);(try clear hfz15_0);(try clear hfz15_1);(try clear hfz20_0);(try clear hfz20_1);(try clear hfz21_0);(try clear hfz21_1);(try clear hfz22_0);(try clear hfz22_1);(try clear hx316_0);(try clear hx320_0);(try clear p2);(try clear p3);(try clear p316);(try clear p320);(try clear q3);(try clear q316);(try clear q320);(try clear BK313);(try clear BK314);(try clear BK315)
        obtain ⟨x8_2,x12_2,x34_2,rfl,rfl,rfl,HA,HK2,HO_24,HO_314000,HO_314001,HO_315000,HO_315001,HO_316000,HO_316001,BK313,BK314,BK315,HB⟩:=hrel
        cases gk with
        | zero=>exact absurd HA.out (by simp [impl_compose.l1])
        | succ k2 =>
         have H:=HA.out
         clear HA
         simp only [impl_compose.l1] at H
         by_cases c26 : x34_2 < ((rdOf ByteArray.empty t304 x26_1).size : Int)
         ·rw [if_pos c26] at H
          have c26b0 : decide (x34_2 < ((rdOf ByteArray.empty t304 x26_1).size : Int)) = true:=decide_eq_true c26
          clear c26
          by_cases c27 : 0 ≤ x8_2
          ·rw [if_pos c27] at H
           have c27b0 : decide (0 ≤ x8_2) = true:=decide_eq_true c27
           clear c27
           by_cases c28 : x8_2 < (t307.length : Int)
           ·rw [if_pos c28] at H
            have c28b0 : decide (x8_2 < (t307.length : Int)) = true:=decide_eq_true c28
            clear c28
            obtain ⟨bq29,hbq29⟩ : ∃ b_ : Bool,b_ = (rdOf false t307 x8_2):=⟨_,rfl⟩
            replace H : (if bq29 = true then (if 0 ≤ x34_2 then (if x34_2 ≤ (wrap64 (x34_2 + 1)) then (if (wrap64 (x34_2 + 1)) ≤ ((rdOf ByteArray.empty t304 x26_1).size : Int) then (if x12_2.size + ((rdOf ByteArray.empty t304 x26_1).extract (x34_2 : Int).toNat ((wrap64 (x34_2 + 1)) : Int).toNat).size ≤ 9223372036854775807 then (if 0 ≤ (wrap64 (x8_2 + 1)) then (if (wrap64 (x8_2 + 1)) < (t310.length : Int) then (if (x12_2 ++ ((rdOf ByteArray.empty t304 x26_1).extract (x34_2 : Int).toNat ((wrap64 (x34_2 + 1)) : Int).toNat)).size + (rdOf ByteArray.empty t310 (wrap64 (x8_2 + 1))).size ≤ 9223372036854775807 then (impl_compose.l1 k2 (wrap64 (x8_2 + 1)) x26_1 (rdOf ByteArray.empty t304 x26_1) ((x12_2 ++ ((rdOf ByteArray.empty t304 x26_1).extract (x34_2 : Int).toNat ((wrap64 (x34_2 + 1)) : Int).toNat)) ++ (rdOf ByteArray.empty t310 (wrap64 (x8_2 + 1)))) t304 (t304.length : Int) x26_1 ((rdOf ByteArray.empty t304 x26_1).size : Int) (wrap64 (x34_2 + 1)) t301 t304 t307 t310 x316000_1 x316001_1) else (none)) else (none)) else (none)) else (none)) else (none)) else (none)) else (none)) else (if 0 ≤ (wrap64 (x8_2 + 1)) then (if (wrap64 (x8_2 + 1)) < (t310.length : Int) then (if x12_2.size + (rdOf ByteArray.empty t310 (wrap64 (x8_2 + 1))).size ≤ 9223372036854775807 then (impl_compose.l1 k2 (wrap64 (x8_2 + 1)) x26_1 (rdOf ByteArray.empty t304 x26_1) (x12_2 ++ (rdOf ByteArray.empty t310 (wrap64 (x8_2 + 1)))) t304 (t304.length : Int) x26_1 ((rdOf ByteArray.empty t304 x26_1).size : Int) (wrap64 (x34_2 + 1)) t301 t304 t307 t310 x316000_1 x316001_1) else (none)) else (none)) else (none))) = some r:=by rw [← hbq29] at H;exact H
            have Nbq29:=Aside0.mk hbq29
            clear hbq29
            by_cases c30 : bq29 = true
            ·subst c30
             have H1 : (if 0 ≤ x34_2 then (if x34_2 ≤ (wrap64 (x34_2 + 1)) then (if (wrap64 (x34_2 + 1)) ≤ ((rdOf ByteArray.empty t304 x26_1).size : Int) then (if x12_2.size + ((rdOf ByteArray.empty t304 x26_1).extract (x34_2 : Int).toNat ((wrap64 (x34_2 + 1)) : Int).toNat).size ≤ 9223372036854775807 then (if 0 ≤ (wrap64 (x8_2 + 1)) then (if (wrap64 (x8_2 + 1)) < (t310.length : Int) then (if (x12_2 ++ ((rdOf ByteArray.empty t304 x26_1).extract (x34_2 : Int).toNat ((wrap64 (x34_2 + 1)) : Int).toNat)).size + (rdOf ByteArray.empty t310 (wrap64 (x8_2 + 1))).size ≤ 9223372036854775807 then (impl_compose.l1 k2 (wrap64 (x8_2 + 1)) x26_1 (rdOf ByteArray.empty t304 x26_1) ((x12_2 ++ ((rdOf ByteArray.empty t304 x26_1).extract (x34_2 : Int).toNat ((wrap64 (x34_2 + 1)) : Int).toNat)) ++ (rdOf ByteArray.empty t310 (wrap64 (x8_2 + 1)))) t304 (t304.length : Int) x26_1 ((rdOf ByteArray.empty t304 x26_1).size : Int) (wrap64 (x34_2 + 1)) t301 t304 t307 t310 x316000_1 x316001_1) else (none)) else (none)) else (none)) else (none)) else (none)) else (none)) else (none)) = some r:=by rw [if_pos rfl] at H;exact H
             clear H
             have H:=H1
             clear H1
             by_cases c31 : 0 ≤ x34_2
             ·rw [if_pos c31] at H
              have c31b0:=eq_true c31
              have c31b1 : decide (0 ≤ x34_2) = true:=decide_eq_true c31
              clear c31
              by_cases c32 : x34_2 ≤ (wrap64 (x34_2 + 1))
              ·rw [if_pos c32] at H
               have c32b0:=eq_true c32
               have c32b1 : decide (x34_2 ≤ (wrap64 (x34_2 + 1))) = true:=decide_eq_true c32
               by_cases c33 : (wrap64 (x34_2 + 1)) ≤ ((rdOf ByteArray.empty t304 x26_1).size : Int)
               ·rw [if_pos c33] at H
                have c33b0:=eq_true c33
                have c33b1 : decide ((wrap64 (x34_2 + 1)) ≤ ((rdOf ByteArray.empty t304 x26_1).size : Int)) = true:=decide_eq_true c33
                by_cases c34 : x12_2.size + ((rdOf ByteArray.empty t304 x26_1).extract (x34_2 : Int).toNat ((wrap64 (x34_2 + 1)) : Int).toNat).size ≤ 9223372036854775807
                ·rw [if_pos c34] at H
                 have c34b0:=eq_true c34
                 have c34b1 : decide (x12_2.size + ((rdOf ByteArray.empty t304 x26_1).extract (x34_2 : Int).toNat ((wrap64 (x34_2 + 1)) : Int).toNat).size ≤ 9223372036854775807) = true:=decide_eq_true c34
                 try have c34b2 : (9223372036854775807 < x12_2.size + ((rdOf ByteArray.empty t304 x26_1).extract (x34_2 : Int).toNat ((wrap64 (x34_2 + 1)) : Int).toNat).size) = False:=eq_false (Nat.not_lt.2 c34)
                 try have c34b3 : (9223372036854775807 < x12_2.size + (((wrap64 (x34_2 + 1)) : Int).toNat - (x34_2 : Int).toNat)) = False:=by have h_:=c34;rw [ByteArray.size_extract] at h_;simp only [eq_iff_iff,iff_false];omega
                 obtain ⟨ji35,hji35⟩ : ∃ j_ : Int,(wrap64 (x8_2 + 1)) = j_:=⟨_,rfl⟩
                 replace H : (if 0 ≤ (ji35) then (if (ji35) < (t310.length : Int) then (if (x12_2 ++ ((rdOf ByteArray.empty t304 x26_1).extract (x34_2 : Int).toNat ((wrap64 (x34_2 + 1)) : Int).toNat)).size + (rdOf ByteArray.empty t310 (ji35)).size ≤ 9223372036854775807 then (impl_compose.l1 k2 ji35 x26_1 (rdOf ByteArray.empty t304 x26_1) ((x12_2 ++ ((rdOf ByteArray.empty t304 x26_1).extract (x34_2 : Int).toNat ((wrap64 (x34_2 + 1)) : Int).toNat)) ++ (rdOf ByteArray.empty t310 (ji35))) t304 (t304.length : Int) x26_1 ((rdOf ByteArray.empty t304 x26_1).size : Int) (wrap64 (x34_2 + 1)) t301 t304 t307 t310 x316000_1 x316001_1) else (none)) else (none)) else (none)) = some r:=by first|(rw [hji35] at H;exact H)|(simp only [hji35] at H ⊢;exact H)
                 have hji35w : (IntKind.i64.wrap (x8_2 + 1)) = ji35:=(i64_w _).trans hji35
                 by_cases c36 : 0 ≤ (ji35)
                 ·rw [if_pos c36] at H
                  have c36b0 : decide (0 ≤ (ji35)) = true:=decide_eq_true c36
                  clear c36
                  by_cases c37 : (ji35) < (t310.length : Int)
                  ·rw [if_pos c37] at H
                   have c37b0 : decide ((ji35) < (t310.length : Int)) = true:=decide_eq_true c37
                   clear c37
                   by_cases c38 : (x12_2 ++ ((rdOf ByteArray.empty t304 x26_1).extract (x34_2 : Int).toNat ((wrap64 (x34_2 + 1)) : Int).toNat)).size + (rdOf ByteArray.empty t310 (ji35)).size ≤ 9223372036854775807
                   ·rw [if_pos c38] at H
                    have c38b0:=eq_true c38
                    have c38b1 : decide ((x12_2 ++ ((rdOf ByteArray.empty t304 x26_1).extract (x34_2 : Int).toNat ((wrap64 (x34_2 + 1)) : Int).toNat)).size + (rdOf ByteArray.empty t310 (ji35)).size ≤ 9223372036854775807) = true:=decide_eq_true c38
                    try have c38b2 : (9223372036854775807 < (x12_2 ++ ((rdOf ByteArray.empty t304 x26_1).extract (x34_2 : Int).toNat ((wrap64 (x34_2 + 1)) : Int).toNat)).size + (rdOf ByteArray.empty t310 (ji35)).size) = False:=eq_false (Nat.not_lt.2 c38)
                    have H':=Aside0.mk H
                    clear H
                    have hnb39:=NB314_313.out
                    have hnc39:=NB313_314.out
                    have hnb40:=NB314_315.out
                    have hnc40:=NB315_314.out
                    have hcz41_0 : wr.cell? ⟨gb314,0,none⟩ = some (.slice Ao14 t307.length co14):=(blk_cell BK314.out 0).trans rfl
                    have hcz41_1 : wr.cell? ⟨gb314,1,none⟩ = some (.slice (some ad316) t310.length co16):=(blk_cell BK314.out 1).trans rfl
                    have hfz41_0:=blk_frozen BK314.out 0
                    have hfz41_1:=blk_frozen BK314.out 1
                    have p321 : 0 ≤ (x8_2 : Int):=of_decide_eq_true (by assumption)
                    have q321 : x8_2 < (t307.length : Int):=of_decide_eq_true (by assumption)
                    obtain ⟨ad321,e321,hx321_0⟩:=Kd.at_bool (Kd.R_reads' HO_315000.out).2.2 x8_2 p321 q321
                    (try rw [← Nbq29.out] at hx321_0)
                    cases e321
                    replace p321:=eq_true p321
                    replace q321:=eq_true q321
                    have p322 : 0 ≤ ((ji35) : Int):=of_decide_eq_true (by assumption)
                    have q322 : (ji35) < (t310.length : Int):=of_decide_eq_true (by assumption)
                    obtain ⟨ad322,e322,hx322_0⟩:=Kd.at_string (Kd.R_reads' HO_315001.out).2.2 (ji35) p322 q322
                    obtain rfl : ad316 = ad322:=(by injection e322)
                    replace p322:=eq_true p322
                    replace q322:=eq_true q322
                    go_wp2
                    go_roundg k2
                    case measure=>have:=HK1.out;have:=HK2.out;omega
                    case rel=>exact ⟨(ji35),((x12_2 ++ ((rdOf ByteArray.empty t304 x26_1).extract (x34_2 : Int).toNat ((wrap64 (x34_2 + 1)) : Int).toNat)) ++ (rdOf ByteArray.empty t310 (ji35))),(wrap64 (x34_2 + 1)),(by first|rfl|(simp;done)|(simp only [← hji35] <;> (first|rfl|simp))|(simp [*];done)),(by first|rfl|(simp;done)|(simp only [← hji35] <;> (first|rfl|simp))|(simp [*];done)),(by first|rfl|(simp;done)|(simp [*];done)),H',⟨by have:=HK1.out;have:=HK2.out;omega⟩,⟨by (with_reducible repeat (first|apply Kd.R_alloc|apply Kd.R_drewN|apply Kd.R_drew));exact HO_24.out⟩,⟨by (with_reducible repeat (first|apply Kd.R_alloc|apply Kd.R_drewN|apply Kd.R_drew));exact HO_314000.out⟩,⟨by (with_reducible repeat (first|apply Kd.R_alloc|apply Kd.R_drewN|apply Kd.R_drew));exact HO_314001.out⟩,⟨by (with_reducible repeat (first|apply Kd.R_alloc|apply Kd.R_drewN|apply Kd.R_drew));exact HO_315000.out⟩,⟨by (with_reducible repeat (first|apply Kd.R_alloc|apply Kd.R_drewN|apply Kd.R_drew));exact HO_315001.out⟩,⟨by (with_reducible repeat (first|apply Kd.R_alloc|apply Kd.R_drewN|apply Kd.R_drew));exact HO_316000.out⟩,⟨by (with_reducible repeat (first|apply Kd.R_alloc|apply Kd.R_drewN|apply Kd.R_drew));exact HO_316001.out⟩,⟨by (with_reducible repeat first|apply blk_drewN|apply blk_drew|apply blk_alloc);exact BK313.out⟩,⟨by (with_reducible repeat first|apply blk_drewN|apply blk_drew|apply blk_alloc);exact BK314.out⟩,⟨by (with_reducible repeat first|apply blk_drewN|apply blk_drew|apply blk_alloc);exact BK315.out⟩,⟨by repeat (first|(with_reducible first|exact HB.out|apply below_alloc|apply pw_below_drewN|apply below_drew1|refine below_set ?_ GE313.out|refine below_set ?_ GE314.out|refine below_set ?_ GE315.out)|exact HB.out)⟩⟩
                   ·rw [if_neg c38] at H
                    exact absurd H (by simp)
                  ·rw [if_neg c37] at H
                   exact absurd H (by simp)
                 ·rw [if_neg c36] at H
                  exact absurd H (by simp)
                ·rw [if_neg c34] at H
                 exact absurd H (by simp)
               ·rw [if_neg c33] at H
                exact absurd H (by simp)
              ·rw [if_neg c32] at H
               exact absurd H (by simp)
             ·rw [if_neg c31] at H
              exact absurd H (by simp)
            ·replace c30:=Bool.eq_false_iff.mpr c30
             subst c30
             have H1 : (if 0 ≤ (wrap64 (x8_2 + 1)) then (if (wrap64 (x8_2 + 1)) < (t310.length : Int) then (if x12_2.size + (rdOf ByteArray.empty t310 (wrap64 (x8_2 + 1))).size ≤ 9223372036854775807 then (impl_compose.l1 k2 (wrap64 (x8_2 + 1)) x26_1 (rdOf ByteArray.empty t304 x26_1) (x12_2 ++ (rdOf ByteArray.empty t310 (wrap64 (x8_2 + 1)))) t304 (t304.length : Int) x26_1 ((rdOf ByteArray.empty t304 x26_1).size : Int) (wrap64 (x34_2 + 1)) t301 t304 t307 t310 x316000_1 x316001_1) else (none)) else (none)) else (none)) = some r:=by rw [if_neg (show ¬ (false = true) by decide)] at H;exact H
             clear H
             have H:=H1
             clear H1
             obtain ⟨ji42,hji42⟩ : ∃ j_ : Int,(wrap64 (x8_2 + 1)) = j_:=⟨_,rfl⟩
             replace H : (if 0 ≤ (ji42) then (if (ji42) < (t310.length : Int) then (if x12_2.size + (rdOf ByteArray.empty t310 (ji42)).size ≤ 9223372036854775807 then (impl_compose.l1 k2 ji42 x26_1 (rdOf ByteArray.empty t304 x26_1) (x12_2 ++ (rdOf ByteArray.empty t310 (ji42))) t304 (t304.length : Int) x26_1 ((rdOf ByteArray.empty t304 x26_1).size : Int) (wrap64 (x34_2 + 1)) t301 t304 t307 t310 x316000_1 x316001_1) else (none)) else (none)) else (none)) = some r:=by first|(rw [hji42] at H;exact H)|(simp only [hji42] at H ⊢;exact H)
             have hji42w : (IntKind.i64.wrap (x8_2 + 1)) = ji42:=(i64_w _).trans hji42
             by_cases c43 : 0 ≤ (ji42)
             ·rw [if_pos c43] at H
              have c43b0 : decide (0 ≤ (ji42)) = true:=decide_eq_true c43
              clear c43
              by_cases c44 : (ji42) < (t310.length : Int)
              ·rw [if_pos c44] at H
               have c44b0 : decide ((ji42) < (t310.length : Int)) = true:=decide_eq_true c44
               clear c44
               by_cases c45 : x12_2.size + (rdOf ByteArray.empty t310 (ji42)).size ≤ 9223372036854775807
               ·rw [if_pos c45] at H
                have c45b0:=eq_true c45
                have c45b1 : decide (x12_2.size + (rdOf ByteArray.empty t310 (ji42)).size ≤ 9223372036854775807) = true:=decide_eq_true c45
                try have c45b2 : (9223372036854775807 < x12_2.size + (rdOf ByteArray.empty t310 (ji42)).size) = False:=eq_false (Nat.not_lt.2 c45)
                have H':=Aside0.mk H
                clear H
                have hnb46:=NB314_313.out
                have hnc46:=NB313_314.out
                have hnb47:=NB314_315.out
                have hnc47:=NB315_314.out
                have hcz48_0 : wr.cell? ⟨gb314,0,none⟩ = some (.slice Ao14 t307.length co14):=(blk_cell BK314.out 0).trans rfl
                have hcz48_1 : wr.cell? ⟨gb314,1,none⟩ = some (.slice (some ad316) t310.length co16):=(blk_cell BK314.out 1).trans rfl
                have hfz48_0:=blk_frozen BK314.out 0
                have hfz48_1:=blk_frozen BK314.out 1
                have p321 : 0 ≤ (x8_2 : Int):=of_decide_eq_true (by assumption)
                have q321 : x8_2 < (t307.length : Int):=of_decide_eq_true (by assumption)
                obtain ⟨ad321,e321,hx321_0⟩:=Kd.at_bool (Kd.R_reads' HO_315000.out).2.2 x8_2 p321 q321
                (try rw [← Nbq29.out] at hx321_0)
                cases e321
                replace p321:=eq_true p321
                replace q321:=eq_true q321
                have p323 : 0 ≤ ((ji42) : Int):=of_decide_eq_true (by assumption)
                have q323 : (ji42) < (t310.length : Int):=of_decide_eq_true (by assumption)
                obtain ⟨ad323,e323,hx323_0⟩:=Kd.at_string (Kd.R_reads' HO_315001.out).2.2 (ji42) p323 q323
                obtain rfl : ad316 = ad323:=(by injection e323)
                replace p323:=eq_true p323
                replace q323:=eq_true q323
                go_wp2
                go_roundg k2
                case measure=>have:=HK1.out;have:=HK2.out;omega
                case rel=>exact ⟨(ji42),(x12_2 ++ (rdOf ByteArray.empty t310 (ji42))),(wrap64 (x34_2 + 1)),(by first|rfl|(simp;done)|(simp only [← hji42] <;> (first|rfl|simp))|(simp [*];done)),(by first|rfl|(simp;done)|(simp only [← hji42] <;> (first|rfl|simp))|(simp [*];done)),(by first|rfl|(simp;done)|(simp [*];done)),H',⟨by have:=HK1.out;have:=HK2.out;omega⟩,⟨by (with_reducible repeat (first|apply Kd.R_alloc|apply Kd.R_drewN|apply Kd.R_drew));exact HO_24.out⟩,⟨by (with_reducible repeat (first|apply Kd.R_alloc|apply Kd.R_drewN|apply Kd.R_drew));exact HO_314000.out⟩,⟨by (with_reducible repeat (first|apply Kd.R_alloc|apply Kd.R_drewN|apply Kd.R_drew));exact HO_314001.out⟩,⟨by (with_reducible repeat (first|apply Kd.R_alloc|apply Kd.R_drewN|apply Kd.R_drew));exact HO_315000.out⟩,⟨by (with_reducible repeat (first|apply Kd.R_alloc|apply Kd.R_drewN|apply Kd.R_drew));exact HO_315001.out⟩,⟨by (with_reducible repeat (first|apply Kd.R_alloc|apply Kd.R_drewN|apply Kd.R_drew));exact HO_316000.out⟩,⟨by (with_reducible repeat (first|apply Kd.R_alloc|apply Kd.R_drewN|apply Kd.R_drew));exact HO_316001.out⟩,⟨by (with_reducible repeat first|apply blk_drewN|apply blk_drew|apply blk_alloc);exact BK313.out⟩,⟨by (with_reducible repeat first|apply blk_drewN|apply blk_drew|apply blk_alloc);exact BK314.out⟩,⟨by (with_reducible repeat first|apply blk_drewN|apply blk_drew|apply blk_alloc);exact BK315.out⟩,⟨by repeat (first|(with_reducible first|exact HB.out|apply below_alloc|apply pw_below_drewN|apply below_drew1|refine below_set ?_ GE313.out|refine below_set ?_ GE314.out|refine below_set ?_ GE315.out)|exact HB.out)⟩⟩
               ·rw [if_neg c45] at H
                exact absurd H (by simp)
              ·rw [if_neg c44] at H
               exact absurd H (by simp)
             ·rw [if_neg c43] at H
              exact absurd H (by simp)
           ·rw [if_neg c28] at H
            exact absurd H (by simp)
          ·rw [if_neg c27] at H
           exact absurd H (by simp)
         ·rw [if_neg c26] at H
          have c26b0 : decide (x34_2 < ((rdOf ByteArray.empty t304 x26_1).size : Int)) = false:=decide_eq_false c26
          clear c26
          by_cases c49 : x316001_1.length < 8796093022208
          ·rw [if_pos c49] at H
           have LMc49:=Aside0.mk c49
           clear c49
           obtain ⟨y324,hy324⟩ : ∃ y_ : List ByteArray,y_ = (x316001_1 ++ [x12_2]):=⟨_,rfl⟩
           replace H : (if x26_1 = (t301.length : Int) then ((impl_told_parts.f k2 x316000_1 y324).bind fun t327=>(some t327)) else (if 0 ≤ x26_1 then (if x26_1 < (t301.length : Int) then (if rdOf false t301 x26_1 = true then (if 0 ≤ x8_2 then (if x8_2 < (t307.length : Int) then (if x316000_1.length < 140737488355328 then (if 0 ≤ (wrap64 (x8_2 + 1)) then (if (wrap64 (x8_2 + 1)) < (t310.length : Int) then (impl_compose.l0 k2 (wrap64 (x8_2 + 1)) (rdOf ByteArray.empty t310 (wrap64 (x8_2 + 1))) t304 (t304.length : Int) (wrap64 (x26_1 + 1)) t301 t304 t307 t310 (x316000_1 ++ [rdOf false t307 x8_2]) y324) else (none)) else (none)) else (none)) else (none)) else (none)) else (if x316000_1.length < 140737488355328 then (impl_compose.l0 k2 x8_2 (⟨#[]⟩ : ByteArray) t304 (t304.length : Int) (wrap64 (x26_1 + 1)) t301 t304 t307 t310 (x316000_1 ++ [false]) y324) else (none))) else (none)) else (none))) = some r:=by first|(rw [hy324];with_reducible exact H)|(have H2_:=(Option.bind_some _ _).symm.trans H;rw [hy324];with_reducible exact H2_)|(have H2_:=(Option.bind_some _ _).symm.trans H;with_reducible exact H2_)|with_reducible exact H|(rw [hy324];exact H)|exact H
           have Ny324:=Aside0.mk hy324
           clear hy324
           by_cases c50 : x26_1 = (t301.length : Int)
           ·rw [if_pos c50] at H
            have c50b0 : (x26_1 == (t301.length : Int)) = true:=beq_iff_eq.mpr c50
            have c50b1 : (x26_1 != (t301.length : Int)) = false:=bne_eq_false_iff_eq.mpr c50
            clear c50
            replace H:=Option.bind_eq_some_iff.mp H
            obtain ⟨t327,A510,H⟩:=H
            replace H : (some t327) = some r:=H
            have A51:=Aside0.mk A510
            clear A510
            obtain rfl:=Option.some.inj H
            have hnb52:=NB315_313.out
            have hnc52:=NB313_315.out
            have hnb53:=NB315_314.out
            have hnc53:=NB314_315.out
            have hcz54_0 : wr.cell? ⟨gb315,0,none⟩ = some (u316000):=(blk_cell BK315.out 0).trans rfl
            have hcz54_1 : wr.cell? ⟨gb315,1,none⟩ = some (u316001):=(blk_cell BK315.out 1).trans rfl
            have hfz54_0:=blk_frozen BK315.out 0
            have hfz54_1:=blk_frozen BK315.out 1
            go_wp2_with (first|((with_reducible refine gate_builtin (b:=.append) (xs:=#[.tmp 61,.tmp 63]) rfl ?_);at_builtin;refine Kd.R_append Kd.string (w0:=w) w.heap.size rfl (.tmp 61) (.tmp 63) 84 9 (.string ⟨#[]⟩) 16 rfl Try.underlying84 info9 rfl (by decide) (by omega) u316001 x316001_1 x12_2 [.string x12_2] (fun k_=>some k_ ≠ (.slice (some ad320) t304.length co13 : Value).ownBlock∧some k_ ≠ (.slice (some ad320) t304.length co13 : Value).ownBlock∧some k_ ≠ (.slice (some ad316) t310.length co16 : Value).ownBlock) (fun _=>False) rfl rfl ?aP (fun _ hk=>hk.elim) ?aF ?aO ?aB ?aS ?aL ?_;(case aP=>exact rfl);(case aB=>exact (by repeat (first|(with_reducible first|exact HB.out|apply below_alloc|apply pw_below_drewN|apply below_drew1|refine below_set ?_ GE313.out|refine below_set ?_ GE314.out|refine below_set ?_ GE315.out)|exact HB.out)));(case aF=>exact (fun k_ hk=>⟨Kd.fresh' (Kd.R_lt (by (with_reducible repeat (first|apply Kd.R_alloc|apply Kd.R_drewN|apply Kd.R_drew));exact HO_24.out)) k_ hk,Kd.fresh' (Kd.R_lt (by (with_reducible repeat (first|apply Kd.R_alloc|apply Kd.R_drewN|apply Kd.R_drew));exact HO_314001.out)) k_ hk,Kd.fresh' (Kd.R_lt (by (with_reducible repeat (first|apply Kd.R_alloc|apply Kd.R_drewN|apply Kd.R_drew));exact HO_315001.out)) k_ hk⟩));(case aO=>exact (by (with_reducible repeat (first|apply Kd.R_alloc|apply Kd.R_drewN|apply Kd.R_drew));exact HO_316001.out));(case aS=>exact (below_size (by repeat (first|(with_reducible first|exact HB.out|apply below_alloc|apply pw_below_drewN|apply below_drew1|refine below_set ?_ GE313.out|refine below_set ?_ GE314.out|refine below_set ?_ GE315.out)|exact HB.out))));(case aL=>have:=LMc49.out;omega);intro v325 w55 ho hb hg hat;rw [← Ny324.out] at ho;have n0_:=Aside0.mk (Kd.R_after (ok:=(fun k_=>some k_ ≠ (.slice (some ad316) t310.length co16 : Value).ownBlock)) (by (with_reducible repeat (first|apply Kd.R_alloc|apply Kd.R_drewN|apply Kd.R_drew));exact HO_24.out) hg hat);have n1_:=Aside0.mk (Kd.R_over' (by (with_reducible repeat (first|apply Kd.R_alloc|apply Kd.R_drewN|apply Kd.R_drew));exact HO_314000.out) (Kd.R_typed (by (with_reducible repeat (first|apply Kd.R_alloc|apply Kd.R_drewN|apply Kd.R_drew));exact HO_316001.out)) (by decide) hg);have n2_:=Aside0.mk (Kd.R_after (ok:=(fun k_=>some k_ ≠ (.slice (some ad316) t310.length co16 : Value).ownBlock)) (by (with_reducible repeat (first|apply Kd.R_alloc|apply Kd.R_drewN|apply Kd.R_drew));exact HO_314001.out) hg hat);have n3_:=Aside0.mk (Kd.R_over' (by (with_reducible repeat (first|apply Kd.R_alloc|apply Kd.R_drewN|apply Kd.R_drew));exact HO_315000.out) (Kd.R_typed (by (with_reducible repeat (first|apply Kd.R_alloc|apply Kd.R_drewN|apply Kd.R_drew));exact HO_316001.out)) (by decide) hg);have n4_:=Aside0.mk (Kd.R_after (ok:=(fun k_=>some k_ ≠ (.slice (some ad320) t304.length co13 : Value).ownBlock∧some k_ ≠ (.slice (some ad320) t304.length co13 : Value).ownBlock)) (by (with_reducible repeat (first|apply Kd.R_alloc|apply Kd.R_drewN|apply Kd.R_drew));exact Kd.R_mono HO_315001.out (fun _ hk=>⟨⟨hk.1,hk.2.1⟩,hk.2.2⟩)) hg hat);have n5_:=Aside0.mk (Kd.R_over' (by (with_reducible repeat (first|apply Kd.R_alloc|apply Kd.R_drewN|apply Kd.R_drew));exact HO_316000.out) (Kd.R_typed (by (with_reducible repeat (first|apply Kd.R_alloc|apply Kd.R_drewN|apply Kd.R_drew));exact HO_316001.out)) (by decide) hg);have n6_:=Aside0.mk (blk_grown (g:=gb313) (o:=.cells #[.slice Ao10 t301.length co10,.slice (some ad320) t304.length co13] 86 (0,0)) (by (with_reducible repeat first|apply blk_drewN|apply blk_drew|apply blk_alloc);exact BK313.out) hg (Kd.R_ne HO_316001.out BK313.out (by decide)));have n7_:=Aside0.mk (blk_grown (g:=gb314) (o:=.cells #[.slice Ao14 t307.length co14,.slice (some ad316) t310.length co16] 86 (0,0)) (by (with_reducible repeat first|apply blk_drewN|apply blk_drew|apply blk_alloc);exact BK314.out) hg (Kd.R_ne HO_316001.out BK314.out (by decide)));have n8_:=Aside0.mk (blk_grown (g:=gb315) (o:=.cells #[u316000,u316001] 86 (0,0)) (by (with_reducible repeat first|apply blk_drewN|apply blk_drew|apply blk_alloc);exact BK315.out) hg (Kd.R_ne HO_316001.out BK315.out (by decide)));have n9_:=Aside0.mk (hb);have n10_:=Aside0.mk (ho);clear HO_24;clear HO_314000;clear HO_314001;clear HO_315000;clear HO_315001;clear HO_316000;clear BK313;clear BK314;clear BK315;clear HB;clear HO_316001;have HO_24:=n0_;have HO_314000:=n1_;have HO_314001:=n2_;have HO_315000:=n3_;have HO_315001:=n4_;have HO_316000:=n5_;have BK313:=n6_;have BK314:=n7_;have BK315:=n8_;have HB:=n9_;have HO326:=n10_;clear n0_ n1_ n2_ n3_ n4_ n5_ n6_ n7_ n8_ n9_ n10_;clear ho hb hg hat;obtain ⟨Ao56,co56,eo56⟩:=Kd.R_slice HO326.out;subst eo56;have hcz57_0 : w55.cell? ⟨gb315,0,none⟩ = some (u316000):=(blk_cell BK315.out 0).trans rfl;have hcz57_1 : w55.cell? ⟨gb315,1,none⟩ = some (u316001):=(blk_cell BK315.out 1).trans rfl;have hfz57_0:=blk_frozen BK315.out 0;have hfz57_1:=blk_frozen BK315.out 1;have hnb58:=NB313_314.out;have hnc58:=NB314_313.out;have hcz59_0 : w55.cell? ⟨gb313,0,none⟩ = some (.slice Ao10 t301.length co10):=(blk_cell BK313.out 0).trans rfl;have hcz59_1 : w55.cell? ⟨gb313,1,none⟩ = some (.slice (some ad320) t304.length co13):=(blk_cell BK313.out 1).trans rfl;have hfz59_0:=blk_frozen BK313.out 0;have hfz59_1:=blk_frozen BK313.out 1;obtain ⟨Ao60,co60,eo60⟩:=Kd.R_slice HO_316000.out;subst eo60)|((with_reducible refine gate_callee (f:=90) rfl ?_);refine goesL_ (some 102) rfl rfl Try.func90 (by kernel_rfl) rfl #[.agg #[.slice Ao60 x316000_1.length co60,.slice Ao56 y324.length co56]] rfl (by (try simp only [List.map_toArray,List.map_cons,List.map_nil]);first|done|rfl|(simp only [List.length_drop,List.length_take];rfl)) ?_;(with_reducible refine (impl_told_parts.calls k2 _ _ x316000_1 _ _ y324 t327 _ ?side1 ?side2 ?side3 ?side4 A51.out).mono ?_);(case side1=>refine (Kd.R_reads' (e:=4) (base:=w.heap.size) (ok:=fun k_=>(some k_ ≠ (.slice Ao10 t301.length co10 : Value).ownBlock∧some k_ ≠ (.slice Ao14 t307.length co14 : Value).ownBlock)) (n:=x316000_1.length) (c:=co60) ?_).2.2;exact (by (with_reducible repeat (first|apply Kd.R_alloc|apply Kd.R_drewN|apply Kd.R_drew));exact (Kd.R_mono (Kd.R_far (p:=⟨gb315,1,none⟩) (Kd.R_types HO_316000.out BK315.out (by decide)) (fun _ hk=>hk.2) (.slice Ao56 y324.length co56)) (fun _ h_=>h_.1))));(case side2=>exact (Kd.R_reads' HO_316000.out).2.1);(case side3=>refine (Kd.R_reads' (e:=9) (base:=w.heap.size) (ok:=fun k_=>(some k_ ≠ (.slice (some ad320) t304.length co13 : Value).ownBlock∧(some k_ ≠ (.slice (some ad320) t304.length co13 : Value).ownBlock∧some k_ ≠ (.slice (some ad316) t310.length co16 : Value).ownBlock))) (n:=y324.length) (c:=co56) ?_).2.2;exact (by (with_reducible repeat (first|apply Kd.R_alloc|apply Kd.R_drewN|apply Kd.R_drew));exact (Kd.R_mono (Kd.R_far (p:=⟨gb315,1,none⟩) (Kd.R_types HO326.out BK315.out (by decide)) (fun _ hk=>hk.2) (.slice Ao56 y324.length co56)) (fun _ h_=>h_.1))));(case side4=>exact (Kd.R_reads' HO326.out).2.1);rintro e w61 ⟨v328,rfl,ho0,hb⟩;refine ⟨_,rfl,?_⟩;have n0_:=Aside0.mk (Kd.R_below (by (with_reducible repeat (first|apply Kd.R_alloc|apply Kd.R_drewN|apply Kd.R_drew));exact (Kd.R_mono (Kd.R_far (p:=⟨gb315,1,none⟩) (Kd.R_types HO_24.out BK315.out (by decide)) (fun _ hk=>hk.2) (.slice Ao56 y324.length co56)) (fun _ h_=>h_.1))) hb);have n1_:=Aside0.mk (Kd.R_below (by (with_reducible repeat (first|apply Kd.R_alloc|apply Kd.R_drewN|apply Kd.R_drew));exact (Kd.R_mono (Kd.R_far (p:=⟨gb315,1,none⟩) (Kd.R_types HO_314000.out BK315.out (by decide)) (fun _ hk=>hk.2) (.slice Ao56 y324.length co56)) (fun _ h_=>h_.1))) hb);have n2_:=Aside0.mk (Kd.R_below (by (with_reducible repeat (first|apply Kd.R_alloc|apply Kd.R_drewN|apply Kd.R_drew));exact (Kd.R_mono (Kd.R_far (p:=⟨gb315,1,none⟩) (Kd.R_types HO_314001.out BK315.out (by decide)) (fun _ hk=>hk.2) (.slice Ao56 y324.length co56)) (fun _ h_=>h_.1))) hb);have n3_:=Aside0.mk (Kd.R_below (by (with_reducible repeat (first|apply Kd.R_alloc|apply Kd.R_drewN|apply Kd.R_drew));exact (Kd.R_mono (Kd.R_far (p:=⟨gb315,1,none⟩) (Kd.R_types HO_315000.out BK315.out (by decide)) (fun _ hk=>hk.2) (.slice Ao56 y324.length co56)) (fun _ h_=>h_.1))) hb);have n4_:=Aside0.mk (Kd.R_below (by (with_reducible repeat (first|apply Kd.R_alloc|apply Kd.R_drewN|apply Kd.R_drew));exact (Kd.R_mono (Kd.R_far (p:=⟨gb315,1,none⟩) (Kd.R_types HO_315001.out BK315.out (by decide)) (fun _ hk=>hk.2) (.slice Ao56 y324.length co56)) (fun _ h_=>h_.1))) hb);have n5_:=Aside0.mk (Kd.R_below (by (with_reducible repeat (first|apply Kd.R_alloc|apply Kd.R_drewN|apply Kd.R_drew));exact (Kd.R_mono (Kd.R_far (p:=⟨gb315,1,none⟩) (Kd.R_types HO_316000.out BK315.out (by decide)) (fun _ hk=>hk.2) (.slice Ao56 y324.length co56)) (fun _ h_=>h_.1))) hb);have n6_:=Aside0.mk (Kd.R_below (by (with_reducible repeat (first|apply Kd.R_alloc|apply Kd.R_drewN|apply Kd.R_drew));exact (Kd.R_mono (Kd.R_far (p:=⟨gb315,1,none⟩) (Kd.R_types HO326.out BK315.out (by decide)) (fun _ hk=>hk.2) (.slice Ao56 y324.length co56)) (fun _ h_=>h_.1))) hb);have n7_:=Aside0.mk (Kd.R_lower ho0 (below_size (by repeat (first|(with_reducible first|exact HB.out|apply below_alloc|apply pw_below_drewN|apply below_drew1|refine below_set ?_ GE313.out|refine below_set ?_ GE314.out|refine below_set ?_ GE315.out)|exact HB.out))));have n8_:=Aside0.mk (blk_below (g:=gb313) (o:=.cells #[.slice Ao10 t301.length co10,.slice (some ad320) t304.length co13] 86 (0,0)) (by (with_reducible repeat first|apply blk_drewN|apply blk_drew|apply blk_alloc);refine blk_far ?_ NB313_315.out _;(with_reducible repeat first|apply blk_drewN|apply blk_drew|apply blk_alloc);exact BK313.out) hb);have n9_:=Aside0.mk (blk_below (g:=gb314) (o:=.cells #[.slice Ao14 t307.length co14,.slice (some ad316) t310.length co16] 86 (0,0)) (by (with_reducible repeat first|apply blk_drewN|apply blk_drew|apply blk_alloc);refine blk_far ?_ NB314_315.out _;(with_reducible repeat first|apply blk_drewN|apply blk_drew|apply blk_alloc);exact BK314.out) hb);have n10_:=Aside0.mk (blk_below (g:=gb315) (o:=.cells #[.slice Ao60 x316000_1.length co60,.slice Ao56 y324.length co56] 86 (0,0)) (by (with_reducible repeat first|apply blk_drewN|apply blk_drew|apply blk_alloc);refine blk_put (cs:=#[.slice Ao60 x316000_1.length co60,u316001]) ?_ 1 _ rfl;(with_reducible repeat first|apply blk_drewN|apply blk_drew|apply blk_alloc);exact BK315.out) hb);have n11_:=Aside0.mk (below_step (by repeat (first|(with_reducible first|exact HB.out|apply below_alloc|apply pw_below_drewN|apply below_drew1|refine below_set ?_ GE313.out|refine below_set ?_ GE314.out|refine below_set ?_ GE315.out)|exact HB.out)) hb);clear HO_24;clear HO_314000;clear HO_314001;clear HO_315000;clear HO_315001;clear HO_316000;clear HO326;clear BK313;clear BK314;clear BK315;clear HB;have HO_24:=n0_;have HO_314000:=n1_;have HO_314001:=n2_;have HO_315000:=n3_;have HO_315001:=n4_;have HO_316000:=n5_;have HO326:=n6_;have HO329:=n7_;have BK313:=n8_;have BK314:=n9_;have BK315:=n10_;have HB:=n11_;clear n0_ n1_ n2_ n3_ n4_ n5_ n6_ n7_ n8_ n9_ n10_ n11_;(try clear hb);(try clear hb2);(try clear hk);(try clear hi);(try clear ho0)))
            go_ret
            exact ⟨_,by first|rfl|(simp [*,errW_none,errW_some] <;> rfl),by (with_reducible repeat (first|apply Kd.R_alloc|apply Kd.R_drewN|apply Kd.R_drew));exact HO329.out,by repeat (first|(with_reducible first|exact HB.out|apply below_alloc|apply pw_below_drewN|apply below_drew1|refine below_set ?_ GE313.out|refine below_set ?_ GE314.out|refine below_set ?_ GE315.out)|exact HB.out)⟩
           ·rw [if_neg c50] at H
            have c50b0 : (x26_1 == (t301.length : Int)) = false:=beq_eq_false_iff_ne.mpr c50
            have c50b1 : (x26_1 != (t301.length : Int)) = true:=bne_iff_ne.mpr c50
            by_cases c62 : 0 ≤ x26_1
            ·rw [if_pos c62] at H
             have c62b0 : decide (0 ≤ x26_1) = true:=decide_eq_true c62
             clear c62
             by_cases c63 : x26_1 < (t301.length : Int)
             ·rw [if_pos c63] at H
              have c63b0 : decide (x26_1 < (t301.length : Int)) = true:=decide_eq_true c63
              clear c63
              obtain ⟨bq64,hbq64⟩ : ∃ b_ : Bool,b_ = (rdOf false t301 x26_1):=⟨_,rfl⟩
              replace H : (if bq64 = true then (if 0 ≤ x8_2 then (if x8_2 < (t307.length : Int) then (if x316000_1.length < 140737488355328 then (if 0 ≤ (wrap64 (x8_2 + 1)) then (if (wrap64 (x8_2 + 1)) < (t310.length : Int) then (impl_compose.l0 k2 (wrap64 (x8_2 + 1)) (rdOf ByteArray.empty t310 (wrap64 (x8_2 + 1))) t304 (t304.length : Int) (wrap64 (x26_1 + 1)) t301 t304 t307 t310 (x316000_1 ++ [rdOf false t307 x8_2]) y324) else (none)) else (none)) else (none)) else (none)) else (none)) else (if x316000_1.length < 140737488355328 then (impl_compose.l0 k2 x8_2 (⟨#[]⟩ : ByteArray) t304 (t304.length : Int) (wrap64 (x26_1 + 1)) t301 t304 t307 t310 (x316000_1 ++ [false]) y324) else (none))) = some r:=by rw [← hbq64] at H;exact H
              have Nbq64:=Aside0.mk hbq64
              clear hbq64
              by_cases c65 : bq64 = true
              ·subst c65
               have H1 : (if 0 ≤ x8_2 then (if x8_2 < (t307.length : Int) then (if x316000_1.length < 140737488355328 then (if 0 ≤ (wrap64 (x8_2 + 1)) then (if (wrap64 (x8_2 + 1)) < (t310.length : Int) then (impl_compose.l0 k2 (wrap64 (x8_2 + 1)) (rdOf ByteArray.empty t310 (wrap64 (x8_2 + 1))) t304 (t304.length : Int) (wrap64 (x26_1 + 1)) t301 t304 t307 t310 (x316000_1 ++ [rdOf false t307 x8_2]) y324) else (none)) else (none)) else (none)) else (none)) else (none)) = some r:=by rw [if_pos rfl] at H;exact H
               clear H
               have H:=H1
               clear H1
               by_cases c66 : 0 ≤ x8_2
               ·rw [if_pos c66] at H
                have c66b0 : decide (0 ≤ x8_2) = true:=decide_eq_true c66
                clear c66
                by_cases c67 : x8_2 < (t307.length : Int)
                ·rw [if_pos c67] at H
                 have c67b0 : decide (x8_2 < (t307.length : Int)) = true:=decide_eq_true c67
                 clear c67
                 by_cases c68 : x316000_1.length < 140737488355328
                 ·rw [if_pos c68] at H
                  have LMc68:=Aside0.mk c68
                  clear c68
                  obtain ⟨y332,hy332⟩ : ∃ y_ : List Bool,y_ = (x316000_1 ++ [rdOf false t307 x8_2]):=⟨_,rfl⟩
                  replace H : (if 0 ≤ (wrap64 (x8_2 + 1)) then (if (wrap64 (x8_2 + 1)) < (t310.length : Int) then (impl_compose.l0 k2 (wrap64 (x8_2 + 1)) (rdOf ByteArray.empty t310 (wrap64 (x8_2 + 1))) t304 (t304.length : Int) (wrap64 (x26_1 + 1)) t301 t304 t307 t310 y332 y324) else (none)) else (none)) = some r:=by first|(rw [hy332];with_reducible exact H)|(have H2_:=(Option.bind_some _ _).symm.trans H;rw [hy332];with_reducible exact H2_)|(have H2_:=(Option.bind_some _ _).symm.trans H;with_reducible exact H2_)|with_reducible exact H|(rw [hy332];exact H)|exact H
                  have Ny332:=Aside0.mk hy332
                  clear hy332
                  obtain ⟨ji69,hji69⟩ : ∃ j_ : Int,(wrap64 (x8_2 + 1)) = j_:=⟨_,rfl⟩
                  replace H : (if 0 ≤ (ji69) then (if (ji69) < (t310.length : Int) then (impl_compose.l0 k2 ji69 (rdOf ByteArray.empty t310 (ji69)) t304 (t304.length : Int) (wrap64 (x26_1 + 1)) t301 t304 t307 t310 y332 y324) else (none)) else (none)) = some r:=by first|(rw [hji69] at H;exact H)|(simp only [hji69] at H ⊢;exact H)
                  have hji69w : (IntKind.i64.wrap (x8_2 + 1)) = ji69:=(i64_w _).trans hji69
                  by_cases c70 : 0 ≤ (ji69)
                  ·rw [if_pos c70] at H
                   have c70b0 : decide (0 ≤ (ji69)) = true:=decide_eq_true c70
                   clear c70
                   by_cases c71 : (ji69) < (t310.length : Int)
                   ·rw [if_pos c71] at H
                    have c71b0 : decide ((ji69) < (t310.length : Int)) = true:=decide_eq_true c71
                    clear c71
                    have H':=Aside0.mk H
                    clear H
                    have hnb72:=NB315_313.out
                    have hnc72:=NB313_315.out
                    have hnb73:=NB315_314.out
                    have hnc73:=NB314_315.out
                    have hcz74_0 : wr.cell? ⟨gb315,0,none⟩ = some (u316000):=(blk_cell BK315.out 0).trans rfl
                    have hcz74_1 : wr.cell? ⟨gb315,1,none⟩ = some (u316001):=(blk_cell BK315.out 1).trans rfl
                    have hfz74_0:=blk_frozen BK315.out 0
                    have hfz74_1:=blk_frozen BK315.out 1
                    try go_wp2_with (first|((with_reducible refine gate_builtin (b:=.append) (xs:=#[.tmp 61,.tmp 63]) rfl ?_);at_builtin;refine Kd.R_append Kd.string (w0:=w) w.heap.size rfl (.tmp 61) (.tmp 63) 84 9 (.string ⟨#[]⟩) 16 rfl Try.underlying84 info9 rfl (by decide) (by omega) u316001 x316001_1 x12_2 [.string x12_2] (fun k_=>some k_ ≠ (.slice (some ad320) t304.length co13 : Value).ownBlock∧some k_ ≠ (.slice (some ad320) t304.length co13 : Value).ownBlock∧some k_ ≠ (.slice (some ad316) t310.length co16 : Value).ownBlock) (fun _=>False) rfl rfl ?aP (fun _ hk=>hk.elim) ?aF ?aO ?aB ?aS ?aL ?_;(case aP=>exact rfl);(case aB=>exact (by repeat (first|(with_reducible first|exact HB.out|apply below_alloc|apply pw_below_drewN|apply below_drew1|refine below_set ?_ GE313.out|refine below_set ?_ GE314.out|refine below_set ?_ GE315.out)|exact HB.out)));(case aF=>exact (fun k_ hk=>⟨Kd.fresh' (Kd.R_lt (by (with_reducible repeat (first|apply Kd.R_alloc|apply Kd.R_drewN|apply Kd.R_drew));exact HO_24.out)) k_ hk,Kd.fresh' (Kd.R_lt (by (with_reducible repeat (first|apply Kd.R_alloc|apply Kd.R_drewN|apply Kd.R_drew));exact HO_314001.out)) k_ hk,Kd.fresh' (Kd.R_lt (by (with_reducible repeat (first|apply Kd.R_alloc|apply Kd.R_drewN|apply Kd.R_drew));exact HO_315001.out)) k_ hk⟩));(case aO=>exact (by (with_reducible repeat (first|apply Kd.R_alloc|apply Kd.R_drewN|apply Kd.R_drew));exact HO_316001.out));(case aS=>exact (below_size (by repeat (first|(with_reducible first|exact HB.out|apply below_alloc|apply pw_below_drewN|apply below_drew1|refine below_set ?_ GE313.out|refine below_set ?_ GE314.out|refine below_set ?_ GE315.out)|exact HB.out))));(case aL=>have:=LMc49.out;omega);intro v325 w75 ho hb hg hat;rw [← Ny324.out] at ho;have n0_:=Aside0.mk (Kd.R_after (ok:=(fun k_=>some k_ ≠ (.slice (some ad316) t310.length co16 : Value).ownBlock)) (by (with_reducible repeat (first|apply Kd.R_alloc|apply Kd.R_drewN|apply Kd.R_drew));exact HO_24.out) hg hat);have n1_:=Aside0.mk (Kd.R_over' (by (with_reducible repeat (first|apply Kd.R_alloc|apply Kd.R_drewN|apply Kd.R_drew));exact HO_314000.out) (Kd.R_typed (by (with_reducible repeat (first|apply Kd.R_alloc|apply Kd.R_drewN|apply Kd.R_drew));exact HO_316001.out)) (by decide) hg);have n2_:=Aside0.mk (Kd.R_after (ok:=(fun k_=>some k_ ≠ (.slice (some ad316) t310.length co16 : Value).ownBlock)) (by (with_reducible repeat (first|apply Kd.R_alloc|apply Kd.R_drewN|apply Kd.R_drew));exact HO_314001.out) hg hat);have n3_:=Aside0.mk (Kd.R_over' (by (with_reducible repeat (first|apply Kd.R_alloc|apply Kd.R_drewN|apply Kd.R_drew));exact HO_315000.out) (Kd.R_typed (by (with_reducible repeat (first|apply Kd.R_alloc|apply Kd.R_drewN|apply Kd.R_drew));exact HO_316001.out)) (by decide) hg);have n4_:=Aside0.mk (Kd.R_after (ok:=(fun k_=>some k_ ≠ (.slice (some ad320) t304.length co13 : Value).ownBlock∧some k_ ≠ (.slice (some ad320) t304.length co13 : Value).ownBlock)) (by (with_reducible repeat (first|apply Kd.R_alloc|apply Kd.R_drewN|apply Kd.R_drew));exact Kd.R_mono HO_315001.out (fun _ hk=>⟨⟨hk.1,hk.2.1⟩,hk.2.2⟩)) hg hat);have n5_:=Aside0.mk (Kd.R_over' (by (with_reducible repeat (first|apply Kd.R_alloc|apply Kd.R_drewN|apply Kd.R_drew));exact HO_316000.out) (Kd.R_typed (by (with_reducible repeat (first|apply Kd.R_alloc|apply Kd.R_drewN|apply Kd.R_drew));exact HO_316001.out)) (by decide) hg);have n6_:=Aside0.mk (blk_grown (g:=gb313) (o:=.cells #[.slice Ao10 t301.length co10,.slice (some ad320) t304.length co13] 86 (0,0)) (by (with_reducible repeat first|apply blk_drewN|apply blk_drew|apply blk_alloc);exact BK313.out) hg (Kd.R_ne HO_316001.out BK313.out (by decide)));have n7_:=Aside0.mk (blk_grown (g:=gb314) (o:=.cells #[.slice Ao14 t307.length co14,.slice (some ad316) t310.length co16] 86 (0,0)) (by (with_reducible repeat first|apply blk_drewN|apply blk_drew|apply blk_alloc);exact BK314.out) hg (Kd.R_ne HO_316001.out BK314.out (by decide)));have n8_:=Aside0.mk (blk_grown (g:=gb315) (o:=.cells #[u316000,u316001] 86 (0,0)) (by (with_reducible repeat first|apply blk_drewN|apply blk_drew|apply blk_alloc);exact BK315.out) hg (Kd.R_ne HO_316001.out BK315.out (by decide)));have n9_:=Aside0.mk (hb);have n10_:=Aside0.mk (ho);clear HO_24;clear HO_314000;clear HO_314001;clear HO_315000;clear HO_315001;clear HO_316000;clear BK313;clear BK314;clear BK315;clear HB;clear HO_316001;have HO_24:=n0_;have HO_314000:=n1_;have HO_314001:=n2_;have HO_315000:=n3_;have HO_315001:=n4_;have HO_316000:=n5_;have BK313:=n6_;have BK314:=n7_;have BK315:=n8_;have HB:=n9_;have HO326:=n10_;clear n0_ n1_ n2_ n3_ n4_ n5_ n6_ n7_ n8_ n9_ n10_;clear ho hb hg hat;obtain ⟨Ao76,co76,eo76⟩:=Kd.R_slice HO326.out;subst eo76;have hcz77_0 : w75.cell? ⟨gb315,0,none⟩ = some (u316000):=(blk_cell BK315.out 0).trans rfl;have hcz77_1 : w75.cell? ⟨gb315,1,none⟩ = some (u316001):=(blk_cell BK315.out 1).trans rfl;have hfz77_0:=blk_frozen BK315.out 0;have hfz77_1:=blk_frozen BK315.out 1;have hnb78:=NB313_314.out;have hnc78:=NB314_313.out;have hcz79_0 : w75.cell? ⟨gb313,0,none⟩ = some (.slice Ao10 t301.length co10):=(blk_cell BK313.out 0).trans rfl;have hcz79_1 : w75.cell? ⟨gb313,1,none⟩ = some (.slice (some ad320) t304.length co13):=(blk_cell BK313.out 1).trans rfl;have hfz79_0:=blk_frozen BK313.out 0;have hfz79_1:=blk_frozen BK313.out 1;have p330 : 0 ≤ (x26_1 : Int):=of_decide_eq_true (by assumption);have q330 : x26_1 < (t301.length : Int):=of_decide_eq_true (by assumption);obtain ⟨ad330,e330,hx330_0⟩:=Kd.at_bool (Kd.R_reads' HO_314000.out).2.2 x26_1 p330 q330;(try rw [← Nbq64.out] at hx330_0);cases e330;have hn330_0 : ad330.block ≠ gb315:=Kd.own_blk (Kd.R_ne HO_314000.out BK315.out (by decide));replace hx330_0:=(cell_far (p:=⟨gb315,1,none⟩) (by first|(rw [add_block];exact hn330_0)|(show (Addr.add _ _).block ≠ _;rw [add_block];exact hn330_0)|exact hn330_0) (.slice Ao76 y324.length co76)).trans hx330_0;clear hn330_0;replace p330:=eq_true p330;replace q330:=eq_true q330))
                    have n0_ : Aside0 (Kd.R Kd.string 9 (w75.setCell ⟨gb315,1,none⟩ (.slice Ao76 y324.length co76)) w.heap.size (fun k_=>some k_ ≠ (.slice (some ad316) t310.length co16 : Value).ownBlock∧some k_ ≠ (.slice Ao76 y324.length co76 : Value).ownBlock) (.slice (some ad320) t304.length co13) t304):=⟨by (with_reducible repeat (first|apply Kd.R_alloc|apply Kd.R_drewN|apply Kd.R_drew));exact Kd.R_mono (Kd.R_far (p:=⟨gb315,1,none⟩) (Kd.R_types HO_24.out BK315.out (by decide)) (fun _ hk=>hk.2) (.slice Ao76 y324.length co76)) (fun _ hk=>⟨hk.1.1,hk.1.2⟩)⟩
                    have n1_ : Aside0 (Kd.R Kd.bool 4 (w75.setCell ⟨gb315,1,none⟩ (.slice Ao76 y324.length co76)) w.heap.size (fun k_=>some k_ ≠ (.slice Ao14 t307.length co14 : Value).ownBlock∧some k_ ≠ (u316000 : Value).ownBlock) (.slice (some ad330) t301.length co10) t301):=⟨by (with_reducible repeat (first|apply Kd.R_alloc|apply Kd.R_drewN|apply Kd.R_drew));exact Kd.R_mono (Kd.R_far (p:=⟨gb315,1,none⟩) (Kd.R_types HO_314000.out BK315.out (by decide)) (fun _ hk=>hk.2) (.slice Ao76 y324.length co76)) (fun _ hk=>⟨hk.1.1,hk.1.2⟩)⟩
                    have n2_ : Aside0 (Kd.R Kd.string 9 (w75.setCell ⟨gb315,1,none⟩ (.slice Ao76 y324.length co76)) w.heap.size (fun k_=>some k_ ≠ (.slice (some ad316) t310.length co16 : Value).ownBlock∧some k_ ≠ (.slice Ao76 y324.length co76 : Value).ownBlock) (.slice (some ad320) t304.length co13) t304):=⟨by (with_reducible repeat (first|apply Kd.R_alloc|apply Kd.R_drewN|apply Kd.R_drew));exact Kd.R_mono (Kd.R_far (p:=⟨gb315,1,none⟩) (Kd.R_types HO_314001.out BK315.out (by decide)) (fun _ hk=>hk.2) (.slice Ao76 y324.length co76)) (fun _ hk=>⟨hk.1.1,hk.1.2⟩)⟩
                    have n3_ : Aside0 (Kd.R Kd.bool 4 (w75.setCell ⟨gb315,1,none⟩ (.slice Ao76 y324.length co76)) w.heap.size (fun k_=>some k_ ≠ (.slice (some ad330) t301.length co10 : Value).ownBlock∧some k_ ≠ (u316000 : Value).ownBlock) (.slice Ao14 t307.length co14) t307):=⟨by (with_reducible repeat (first|apply Kd.R_alloc|apply Kd.R_drewN|apply Kd.R_drew));exact Kd.R_mono (Kd.R_far (p:=⟨gb315,1,none⟩) (Kd.R_types HO_315000.out BK315.out (by decide)) (fun _ hk=>hk.2) (.slice Ao76 y324.length co76)) (fun _ hk=>⟨hk.1.1,hk.1.2⟩)⟩
                    have n4_ : Aside0 (Kd.R Kd.string 9 (w75.setCell ⟨gb315,1,none⟩ (.slice Ao76 y324.length co76)) w.heap.size (fun k_=>some k_ ≠ (.slice (some ad320) t304.length co13 : Value).ownBlock∧some k_ ≠ (.slice (some ad320) t304.length co13 : Value).ownBlock∧some k_ ≠ (.slice Ao76 y324.length co76 : Value).ownBlock) (.slice (some ad316) t310.length co16) t310):=⟨by (with_reducible repeat (first|apply Kd.R_alloc|apply Kd.R_drewN|apply Kd.R_drew));exact Kd.R_mono (Kd.R_far (p:=⟨gb315,1,none⟩) (Kd.R_types HO_315001.out BK315.out (by decide)) (fun _ hk=>hk.2) (.slice Ao76 y324.length co76)) (fun _ hk=>⟨hk.1.1.1,⟨hk.1.1.2,hk.1.2⟩⟩)⟩
                    have n5_ : Aside0 (Kd.R Kd.bool 4 (w75.setCell ⟨gb315,1,none⟩ (.slice Ao76 y324.length co76)) w.heap.size (fun k_=>some k_ ≠ (.slice (some ad330) t301.length co10 : Value).ownBlock∧some k_ ≠ (.slice Ao14 t307.length co14 : Value).ownBlock) u316000 x316000_1):=⟨by (with_reducible repeat (first|apply Kd.R_alloc|apply Kd.R_drewN|apply Kd.R_drew));exact Kd.R_mono (Kd.R_far (p:=⟨gb315,1,none⟩) (Kd.R_types HO_316000.out BK315.out (by decide)) (fun _ hk=>hk.2) (.slice Ao76 y324.length co76)) (fun _ hk=>⟨hk.1.1,hk.1.2⟩)⟩
                    have n6_ : Aside0 (Kd.R Kd.string 9 (w75.setCell ⟨gb315,1,none⟩ (.slice Ao76 y324.length co76)) w.heap.size (fun k_=>some k_ ≠ (.slice (some ad320) t304.length co13 : Value).ownBlock∧some k_ ≠ (.slice (some ad320) t304.length co13 : Value).ownBlock∧some k_ ≠ (.slice (some ad316) t310.length co16 : Value).ownBlock) (.slice Ao76 y324.length co76) y324):=⟨by (with_reducible repeat (first|apply Kd.R_alloc|apply Kd.R_drewN|apply Kd.R_drew));exact Kd.R_mono (Kd.R_far (p:=⟨gb315,1,none⟩) (Kd.R_types HO326.out BK315.out (by decide)) (fun _ hk=>hk.2) (.slice Ao76 y324.length co76)) (fun _ hk=>⟨hk.1.1,⟨hk.1.2.1,hk.1.2.2⟩⟩)⟩
                    have n7_ : Aside0 ((w75.setCell ⟨gb315,1,none⟩ (.slice Ao76 y324.length co76)).heap[gb313]? = some (.cells #[.slice (some ad330) t301.length co10,.slice (some ad320) t304.length co13] 86 (0,0))):=⟨by (with_reducible repeat first|apply blk_drewN|apply blk_drew|apply blk_alloc);refine blk_far ?_ NB313_315.out _;(with_reducible repeat first|apply blk_drewN|apply blk_drew|apply blk_alloc);exact BK313.out⟩
                    have n8_ : Aside0 ((w75.setCell ⟨gb315,1,none⟩ (.slice Ao76 y324.length co76)).heap[gb314]? = some (.cells #[.slice Ao14 t307.length co14,.slice (some ad316) t310.length co16] 86 (0,0))):=⟨by (with_reducible repeat first|apply blk_drewN|apply blk_drew|apply blk_alloc);refine blk_far ?_ NB314_315.out _;(with_reducible repeat first|apply blk_drewN|apply blk_drew|apply blk_alloc);exact BK314.out⟩
                    have n9_ : Aside0 ((w75.setCell ⟨gb315,1,none⟩ (.slice Ao76 y324.length co76)).heap[gb315]? = some (.cells #[u316000,.slice Ao76 y324.length co76] 86 (0,0))):=⟨by (with_reducible repeat first|apply blk_drewN|apply blk_drew|apply blk_alloc);refine blk_put (cs:=#[u316000,u316001]) ?_ 1 _ rfl;(with_reducible repeat first|apply blk_drewN|apply blk_drew|apply blk_alloc);exact BK315.out⟩
                    have n10_ : Aside0 (Below w.heap.size w (w75.setCell ⟨gb315,1,none⟩ (.slice Ao76 y324.length co76))):=⟨by repeat (first|(with_reducible first|exact HB.out|apply below_alloc|apply pw_below_drewN|apply below_drew1|refine below_set ?_ GE313.out|refine below_set ?_ GE314.out|refine below_set ?_ GE315.out)|exact HB.out)⟩
                    (try clear HO_24)
                    (try clear HO_314000)
                    (try clear HO_314001)
                    (try clear HO_315000)
                    (try clear HO_315001)
                    (try clear HO_316000)
                    (try clear HO326)
                    (try clear BK313)
                    (try clear BK314)
                    (try clear BK315)
                    (try clear HB)
                    generalize (w75.setCell ⟨gb315,1,none⟩ (.slice Ao76 y324.length co76)) = w80 at n0_ n1_ n2_ n3_ n4_ n5_ n6_ n7_ n8_ n9_ n10_ ⊢
                    have HO_24:=n0_
                    have HO_314000:=n1_
                    have HO_314001:=n2_
                    have HO_315000:=n3_
                    have HO_315001:=n4_
                    have HO_316000:=n5_
                    have HO326:=n6_
                    have BK313:=n7_
                    have BK314:=n8_
                    have BK315:=n9_
                    have HB:=n10_
                    clear n0_ n1_ n2_ n3_ n4_ n5_ n6_ n7_ n8_ n9_ n10_
                    have n0_:=Aside0.mk (Kd.R_drew HO_24.out)
                    have n1_:=Aside0.mk (Kd.R_drew HO_314000.out)
                    have n2_:=Aside0.mk (Kd.R_drew HO_314001.out)
                    have n3_:=Aside0.mk (Kd.R_drew HO_315000.out)
                    have n4_:=Aside0.mk (Kd.R_drew HO_315001.out)
                    have n5_:=Aside0.mk (Kd.R_drew HO_316000.out)
                    have n6_:=Aside0.mk (Kd.R_drew HO326.out)
                    have n7_:=Aside0.mk (blk_drew BK313.out)
                    have n8_:=Aside0.mk (blk_drew BK314.out)
                    have n9_:=Aside0.mk (blk_drew BK315.out)
                    have n10_:=Aside0.mk (below_drew1 HB.out)
                    clear HO_24
                    clear HO_314000
                    clear HO_314001
                    clear HO_315000
                    clear HO_315001
                    clear HO_316000
                    clear HO326
                    clear BK313
                    clear BK314
                    clear BK315
                    clear HB
                    have HO_24:=n0_
                    have HO_314000:=n1_
                    have HO_314001:=n2_
                    have HO_315000:=n3_
                    have HO_315001:=n4_
                    have HO_316000:=n5_
                    have HO326:=n6_
                    have BK313:=n7_
                    have BK314:=n8_
                    have BK315:=n9_
                    have HB:=n10_
                    clear n0_ n1_ n2_ n3_ n4_ n5_ n6_ n7_ n8_ n9_ n10_
                    have p331 : 0 ≤ (x8_2 : Int):=of_decide_eq_true (by assumption)
                    have q331 : x8_2 < (t307.length : Int):=of_decide_eq_true (by assumption)
                    obtain ⟨ad331,e331,hx331_0⟩:=Kd.at_bool (Kd.R_reads' HO_315000.out).2.2 x8_2 p331 q331
                    (try rw [← Nbq64.out] at hx331_0)
                    cases e331
                    replace p331:=eq_true p331
                    replace q331:=eq_true q331
                    refine start_ (n:=11) (S:=fun w'=>w'.cell? ⟨gb315,0,none⟩ = some (u316000)∧w'.cell? ⟨gb315,1,none⟩ = some (.slice Ao76 y324.length co76)∧w'.cell? ⟨gb314,0,none⟩ = some (.slice (some ad331) t307.length co14)∧w'.cell? ⟨gb314,1,none⟩ = some (.slice (some ad316) t310.length co16)∧w'.cell? (ad331.add (x8_2).toNat) = some (.bool (rdOf false t307 x8_2))) (ds:=[8,10]) #[false,false,false,false,false,false,false,false,false,false,false] (by kernel_rfl) rfl rfl ⟨(blk_cell BK315.out 0).trans rfl,(blk_cell BK315.out 1).trans rfl,(blk_cell BK314.out 0).trans rfl,(blk_cell BK314.out 1).trans rfl,hx331_0⟩ (fun hHeld=>?_);refine with_tabW impl_compose.tab22 impl_compose.bits22 (fun HT_ HW_=>?_)
                    generalize w80.drew = w81 at HO_24 HO_314000 HO_314001 HO_315000 HO_315001 HO_316000 HO326 BK313 BK314 BK315 HB hx331_0 hHeld ⊢
                    refine pure_ (i:=0) (N:=some 82) (v:=?_) (a':=?_) #[true,false,false,false,false,false,false,false,false,false,false] rfl rfl (any_of HT_.out (by kernel_rfl)) (fun _ _ _ h=>h) (Or.inl ⟨by rfl,?_⟩) ?_ ?_
                    rotate_left
                    ·intro w'
                     go_simp
                     with_reducible rfl
                    rotate_left
                    ·simp only [Act.put,List.setIfInBounds_toArray,List.set_cons_zero,List.set_cons_succ,i64_w,i32_w]
                     rfl
                    refine pure_ (i:=2) (N:=some 84) (v:=?_) (a':=?_) #[true,false,true,false,false,false,false,false,false,false,false] rfl rfl (any_of HT_.out (by kernel_rfl)) (fun _ _ _ h=>h) (Or.inl ⟨by rfl,?_⟩) ?_ ?_
                    rotate_left
                    ·intro w'
                     go_simp
                     with_reducible rfl
                    rotate_left
                    ·simp only [Act.put,List.setIfInBounds_toArray,List.set_cons_zero,List.set_cons_succ,i64_w,i32_w]
                     rfl
                    refine pure_ (i:=4) (N:=some 86) (v:=?_) (a':=?_) #[true,false,true,false,true,false,false,false,false,false,false] rfl rfl (any_of HT_.out (by kernel_rfl)) (fun _ _ _ h=>h) (Or.inl ⟨by rfl,?_⟩) ?_ ?_
                    rotate_left
                    ·intro w'
                     go_simp
                     with_reducible rfl
                    rotate_left
                    ·simp only [Act.put,List.setIfInBounds_toArray,List.set_cons_zero,List.set_cons_succ,i64_w,i32_w]
                     rfl
                    refine take_ (i:=1) (N:=some 83) (v:=?_) (a':=?_) #[true,true,true,false,true,false,false,false,false,false,false] rfl rfl (take_ofW HT_.out HW_.out (by kernel_rfl)) (fun _ _ _ h=>h) (Or.inl ⟨by rfl,?_⟩) hHeld ?_ ?_
                    rotate_left
                    ·rintro w' ⟨s0,s1,s2,s3,s4⟩
                     go_simp
                     with_reducible rfl
                    rotate_left
                    ·simp only [Act.put,List.setIfInBounds_toArray,List.set_cons_zero,List.set_cons_succ,i64_w,i32_w]
                     rfl
                    refine take_ (i:=3) (N:=some 85) (v:=?_) (a':=?_) #[true,true,true,true,true,false,false,false,false,false,false] rfl rfl (take_ofW HT_.out HW_.out (by kernel_rfl)) (fun _ _ _ h=>h) (Or.inl ⟨by rfl,?_⟩) hHeld ?_ ?_
                    rotate_left
                    ·rintro w' ⟨s0,s1,s2,s3,s4⟩
                     go_simp
                     with_reducible rfl
                    rotate_left
                    ·simp only [Act.put,List.setIfInBounds_toArray,List.set_cons_zero,List.set_cons_succ,i64_w,i32_w]
                     rfl
                    refine pure_ (i:=5) (N:=some 87) (v:=?_) (a':=?_) #[true,true,true,true,true,true,false,false,false,false,false] rfl rfl (any_of HT_.out (by kernel_rfl)) (fun _ _ _ h=>h) (Or.inl ⟨by rfl,?_⟩) ?_ ?_
                    rotate_left
                    ·intro w'
                     go_simp
                     with_reducible rfl
                    rotate_left
                    ·simp only [Act.put,List.setIfInBounds_toArray,List.set_cons_zero,List.set_cons_succ,i64_w,i32_w]
                     rfl
                    refine take_ (i:=6) (N:=some 88) (v:=?_) (a':=?_) #[true,true,true,true,true,true,true,false,false,false,false] rfl rfl (take_ofW HT_.out HW_.out (by kernel_rfl)) (fun _ _ _ h=>h) (Or.inl ⟨by rfl,?_⟩) hHeld ?_ ?_
                    rotate_left
                    ·rintro w' ⟨s0,s1,s2,s3,s4⟩
                     go_simp
                     with_reducible rfl
                    rotate_left
                    ·simp only [Act.put,List.setIfInBounds_toArray,List.set_cons_zero,List.set_cons_succ,i64_w,i32_w]
                     rfl
                    refine one_ (i:=7) (N:=some 89) #[true,true,true,true,true,true,true,true,false,false,false] rfl rfl (one_of HT_.out (by kernel_rfl)) (by decide) (fun K hK=>?_)
                    refine value_ (w1:=?_) (v:=?_) (by rfl) rfl ?_ ?_
                    rotate_left 2
                    ·go_simp
                     constructor
                     ·rfl
                     ·rfl
                    refine hK.out _ _ ⟨(blk_cell (blk_alloc BK315.out _) 0).trans rfl,(blk_cell (blk_alloc BK315.out _) 1).trans rfl,(blk_cell (blk_alloc BK314.out _) 0).trans rfl,(blk_cell (blk_alloc BK314.out _) 1).trans rfl,(World.cell?_alloc_lt _ _ _ (World.block_lt_of_cell? _ _ (hHeld.2.2.2.2))).trans (hHeld.2.2.2.2)⟩ (fun hHeld=>?_)
                    clear hK K
                    refine norm_ (a':=?_) ?_ ?_
                    rotate_left
                    ·show Act.put _ (some 89) _ = _
                     simp only [Act.put,List.setIfInBounds_toArray,List.set_cons_zero,List.set_cons_succ,i64_w,i32_w]
                     rfl
                    refine last_ (i:=8) (N:=some 90) #[true,true,true,true,true,true,true,true,true,false,false] rfl rfl (one_of HT_.out (by kernel_rfl)) (by decide) (fun K hK=>?_)
                    refine Kd.R_append_step Kd.bool (w0:=w) w.heap.size (by rfl) (.tmp 83) (.tmp 89) 83 4 (.bool false) 1 rfl Try.underlying83 info4 rfl (by decide) (by omega) u316000 x316000_1 (rdOf false t307 x8_2) [.bool (rdOf false t307 x8_2)] (fun k_=>some k_ ≠ (.slice (some ad330) t301.length co10 : Value).ownBlock∧some k_ ≠ (.slice (some ad331) t307.length co14 : Value).ownBlock) (fun _=>False) rfl rfl ?aP (fun _ hk=>hk.elim) ?aF ?aO ?aB ?aS ?aL ?_
                    (case aP=>exact rfl)
                    (case aB=>exact (by repeat (first|(with_reducible first|exact HB.out|apply below_alloc|apply pw_below_drewN|apply below_drew1|refine below_set ?_ GE313.out|refine below_set ?_ GE314.out|refine below_set ?_ GE315.out)|exact HB.out)))
                    (case aF=>exact (fun k_ hk=>⟨Kd.fresh' (Kd.R_lt (by (with_reducible repeat (first|apply Kd.R_alloc|apply Kd.R_drewN|apply Kd.R_drew));exact HO_314000.out)) k_ hk,Kd.fresh' (Kd.R_lt (by (with_reducible repeat (first|apply Kd.R_alloc|apply Kd.R_drewN|apply Kd.R_drew));exact HO_315000.out)) k_ hk⟩))
                    (case aO=>exact (by (with_reducible repeat (first|apply Kd.R_alloc|apply Kd.R_drewN|apply Kd.R_drew));exact HO_316000.out))
                    (case aS=>exact (below_size (by repeat (first|(with_reducible first|exact HB.out|apply below_alloc|apply pw_below_drewN|apply below_drew1|refine below_set ?_ GE313.out|refine below_set ?_ GE314.out|refine below_set ?_ GE315.out)|exact HB.out))))
                    (case aL=>have:=LMc68.out;omega)
                    intro v333 w82 ho hb hg hat
                    rw [← Ny332.out] at ho
                    have n0_:=Aside0.mk (Kd.R_over' (by (with_reducible repeat (first|apply Kd.R_alloc|apply Kd.R_drewN|apply Kd.R_drew));exact HO_24.out) (Kd.R_typed (by (with_reducible repeat (first|apply Kd.R_alloc|apply Kd.R_drewN|apply Kd.R_drew));exact HO_316000.out)) (by decide) hg)
                    have n1_:=Aside0.mk (Kd.R_after (ok:=(fun k_=>some k_ ≠ (.slice (some ad331) t307.length co14 : Value).ownBlock)) (by (with_reducible repeat (first|apply Kd.R_alloc|apply Kd.R_drewN|apply Kd.R_drew));exact HO_314000.out) hg hat)
                    have n2_:=Aside0.mk (Kd.R_over' (by (with_reducible repeat (first|apply Kd.R_alloc|apply Kd.R_drewN|apply Kd.R_drew));exact HO_314001.out) (Kd.R_typed (by (with_reducible repeat (first|apply Kd.R_alloc|apply Kd.R_drewN|apply Kd.R_drew));exact HO_316000.out)) (by decide) hg)
                    have n3_:=Aside0.mk (Kd.R_after (ok:=(fun k_=>some k_ ≠ (.slice (some ad330) t301.length co10 : Value).ownBlock)) (by (with_reducible repeat (first|apply Kd.R_alloc|apply Kd.R_drewN|apply Kd.R_drew));exact HO_315000.out) hg hat)
                    have n4_:=Aside0.mk (Kd.R_over' (by (with_reducible repeat (first|apply Kd.R_alloc|apply Kd.R_drewN|apply Kd.R_drew));exact HO_315001.out) (Kd.R_typed (by (with_reducible repeat (first|apply Kd.R_alloc|apply Kd.R_drewN|apply Kd.R_drew));exact HO_316000.out)) (by decide) hg)
                    have n5_:=Aside0.mk (blk_grown (g:=gb313) (o:=.cells #[.slice (some ad330) t301.length co10,.slice (some ad320) t304.length co13] 86 (0,0)) (by (with_reducible repeat first|apply blk_drewN|apply blk_drew|apply blk_alloc);exact BK313.out) hg (Kd.R_ne HO_316000.out BK313.out (by decide)))
                    have n6_:=Aside0.mk (blk_grown (g:=gb314) (o:=.cells #[.slice (some ad331) t307.length co14,.slice (some ad316) t310.length co16] 86 (0,0)) (by (with_reducible repeat first|apply blk_drewN|apply blk_drew|apply blk_alloc);exact BK314.out) hg (Kd.R_ne HO_316000.out BK314.out (by decide)))
                    have n7_:=Aside0.mk (blk_grown (g:=gb315) (o:=.cells #[u316000,.slice Ao76 y324.length co76] 86 (0,0)) (by (with_reducible repeat first|apply blk_drewN|apply blk_drew|apply blk_alloc);exact BK315.out) hg (Kd.R_ne HO_316000.out BK315.out (by decide)))
                    have n8_:=Aside0.mk (Kd.R_over' (by (with_reducible repeat (first|apply Kd.R_alloc|apply Kd.R_drewN|apply Kd.R_drew));exact HO326.out) (Kd.R_typed (by (with_reducible repeat (first|apply Kd.R_alloc|apply Kd.R_drewN|apply Kd.R_drew));exact HO_316000.out)) (by decide) hg)
                    have n9_:=Aside0.mk (hb)
                    have n10_:=Aside0.mk (ho)
                    clear HO_24
                    clear HO_314000
                    clear HO_314001
                    clear HO_315000
                    clear HO_315001
                    clear BK313
                    clear BK314
                    clear BK315
                    clear HO326
                    clear HB
                    clear HO_316000
                    have HO_24:=n0_
                    have HO_314000:=n1_
                    have HO_314001:=n2_
                    have HO_315000:=n3_
                    have HO_315001:=n4_
                    have BK313:=n5_
                    have BK314:=n6_
                    have BK315:=n7_
                    have HO326:=n8_
                    have HB:=n9_
                    have HO334:=n10_
                    clear n0_ n1_ n2_ n3_ n4_ n5_ n6_ n7_ n8_ n9_ n10_
                    clear ho hb hg hat
                    obtain ⟨Ao83,co83,eo83⟩:=Kd.R_slice HO334.out
                    (first|subst eo83|(injection eo83 with f1_ f2_ f3_;have f4_:=f1_.symm;have f5_:=f3_.symm;clear f1_ f2_ f3_;subst f4_;subst f5_))
                    refine hK.out _ _ ?_
                    clear hK K
                    refine norm_ (a':=?_) ?_ ?_
                    rotate_left
                    ·show Act.put _ (some 90) _ = _
                     simp only [Act.put,List.setIfInBounds_toArray,List.set_cons_zero,List.set_cons_succ,i64_w,i32_w]
                     rfl
                    refine pure_ (i:=9) (N:=some 91) (v:=?_) (a':=?_) #[true,true,true,true,true,true,true,true,true,true,false] rfl rfl (any_of HT_.out (by kernel_rfl)) (fun _ _ _ h=>h) (Or.inl ⟨by rfl,?_⟩) ?_ ?_
                    rotate_left
                    ·intro w'
                     go_simp
                     with_reducible rfl
                    rotate_left
                    ·simp only [Act.put,List.setIfInBounds_toArray,List.set_cons_zero,List.set_cons_succ,i64_w,i32_w]
                     rfl
                    refine last_ (i:=10) (N:=none) #[true,true,true,true,true,true,true,true,true,true,true] rfl rfl (one_of HT_.out (by kernel_rfl)) (by decide) (fun K hK=>?_)
                    have hs84 : w82.cell? ⟨gb315,0,none⟩ = some (u316000):=(blk_cell BK315.out 0).trans rfl
                    have hfs84:=blk_frozen BK315.out 0
                    have hns84_0:=NB313_315.out
                    have hns84_1:=NB314_315.out
                    have hms84_0:=NB315_313.out
                    have hms84_1:=NB315_314.out
                    refine skip_ (w1:=?_) (by rfl) rfl ?_ ?_
                    rotate_left
                    ·go_simp
                     rfl
                    refine hK.out _ _ ?_
                    clear hK K
                    refine done_ (done_of HT_.out (by kernel_rfl)) ?_
                    have hcz85_0 : w82.cell? ⟨gb314,0,none⟩ = some (.slice (some ad331) t307.length co14):=(blk_cell BK314.out 0).trans rfl
                    have hcz85_1 : w82.cell? ⟨gb314,1,none⟩ = some (.slice (some ad316) t310.length co16):=(blk_cell BK314.out 1).trans rfl
                    have hfz85_0:=blk_frozen BK314.out 0
                    have hfz85_1:=blk_frozen BK314.out 1
                    have p335 : 0 ≤ ((ji69) : Int):=of_decide_eq_true (by assumption)
                    have q335 : (ji69) < (t310.length : Int):=of_decide_eq_true (by assumption)
                    obtain ⟨ad335,e335,hx335_0⟩:=Kd.at_string (Kd.R_reads' HO_315001.out).2.2 (ji69) p335 q335
                    obtain rfl : ad316 = ad335:=(by injection e335)
                    have hn335_0 : ad316.block ≠ gb315:=Kd.own_blk (Kd.R_ne HO_315001.out BK315.out (by decide))
                    replace hx335_0:=(cell_far (p:=⟨gb315,0,none⟩) (by first|(rw [add_block];exact hn335_0)|(show (Addr.add _ _).block ≠ _;rw [add_block];exact hn335_0)|exact hn335_0) (.slice Ao83 y332.length co83)).trans hx335_0
                    clear hn335_0
                    replace p335:=eq_true p335
                    replace q335:=eq_true q335
                    try go_wp2
                    go_roundg k2
                    case measure=>have:=HK1.out;have:=HK2.out;omega
                    case rel=>exact ⟨(ji69),(rdOf ByteArray.empty t310 (ji69)),(wrap64 (x26_1 + 1)),(y332),(y324),(.slice Ao83 y332.length co83),(.slice Ao76 y324.length co76),(by first|rfl|(simp;done)|(simp only [← hji69] <;> (first|rfl|simp))|(simp [*];done)),(by first|rfl|(simp;done)|(simp only [← hji69] <;> (first|rfl|simp))|(simp [*];done)),(by first|rfl|(simp;done)|(simp [*];done)),H',⟨by have:=HK1.out;have:=HK2.out;omega⟩,⟨by (with_reducible repeat (first|apply Kd.R_alloc|apply Kd.R_drewN|apply Kd.R_drew));exact Kd.R_mono (Kd.R_far (p:=⟨gb315,0,none⟩) (Kd.R_types HO_24.out BK315.out (by decide)) (fun _ hk=>hk.2) (.slice Ao83 y332.length co83)) (fun _ hk=>⟨hk.1.1,hk.1.2⟩)⟩,⟨by (with_reducible repeat (first|apply Kd.R_alloc|apply Kd.R_drewN|apply Kd.R_drew));exact Kd.R_mono (Kd.R_far (p:=⟨gb315,0,none⟩) (Kd.R_types HO_314000.out BK315.out (by decide)) (fun _ hk=>hk.2) (.slice Ao83 y332.length co83)) (fun _ hk=>⟨hk.1.1,hk.1.2⟩)⟩,⟨by (with_reducible repeat (first|apply Kd.R_alloc|apply Kd.R_drewN|apply Kd.R_drew));exact Kd.R_mono (Kd.R_far (p:=⟨gb315,0,none⟩) (Kd.R_types HO_314001.out BK315.out (by decide)) (fun _ hk=>hk.2) (.slice Ao83 y332.length co83)) (fun _ hk=>⟨hk.1.1,hk.1.2⟩)⟩,⟨by (with_reducible repeat (first|apply Kd.R_alloc|apply Kd.R_drewN|apply Kd.R_drew));exact Kd.R_mono (Kd.R_far (p:=⟨gb315,0,none⟩) (Kd.R_types HO_315000.out BK315.out (by decide)) (fun _ hk=>hk.2) (.slice Ao83 y332.length co83)) (fun _ hk=>⟨hk.1.1,hk.1.2⟩)⟩,⟨by (with_reducible repeat (first|apply Kd.R_alloc|apply Kd.R_drewN|apply Kd.R_drew));exact Kd.R_mono (Kd.R_far (p:=⟨gb315,0,none⟩) (Kd.R_types HO_315001.out BK315.out (by decide)) (fun _ hk=>hk.2) (.slice Ao83 y332.length co83)) (fun _ hk=>⟨hk.1.1,⟨hk.1.2.1,hk.1.2.2⟩⟩)⟩,⟨by (with_reducible repeat (first|apply Kd.R_alloc|apply Kd.R_drewN|apply Kd.R_drew));exact Kd.R_mono (Kd.R_far (p:=⟨gb315,0,none⟩) (Kd.R_types HO334.out BK315.out (by decide)) (fun _ hk=>hk.2) (.slice Ao83 y332.length co83)) (fun _ hk=>⟨hk.1.1,hk.1.2⟩)⟩,⟨by (with_reducible repeat (first|apply Kd.R_alloc|apply Kd.R_drewN|apply Kd.R_drew));exact Kd.R_mono (Kd.R_far (p:=⟨gb315,0,none⟩) (Kd.R_types HO326.out BK315.out (by decide)) (fun _ hk=>hk.2) (.slice Ao83 y332.length co83)) (fun _ hk=>⟨hk.1.1,⟨hk.1.2.1,hk.1.2.2⟩⟩)⟩,⟨by (with_reducible repeat first|apply blk_drewN|apply blk_drew|apply blk_alloc);refine blk_far ?_ NB313_315.out _;(with_reducible repeat first|apply blk_drewN|apply blk_drew|apply blk_alloc);exact BK313.out⟩,⟨by (with_reducible repeat first|apply blk_drewN|apply blk_drew|apply blk_alloc);refine blk_far ?_ NB314_315.out _;(with_reducible repeat first|apply blk_drewN|apply blk_drew|apply blk_alloc);exact BK314.out⟩,⟨by (with_reducible repeat first|apply blk_drewN|apply blk_drew|apply blk_alloc);refine blk_put (cs:=#[u316000,.slice Ao76 y324.length co76]) ?_ 0 _ rfl;(with_reducible repeat first|apply blk_drewN|apply blk_drew|apply blk_alloc);exact BK315.out⟩,⟨by repeat (first|(with_reducible first|exact HB.out|apply below_alloc|apply pw_below_drewN|apply below_drew1|refine below_set ?_ GE313.out|refine below_set ?_ GE314.out|refine below_set ?_ GE315.out)|exact HB.out)⟩⟩
                   ·rw [if_neg c71] at H
                    exact absurd H (by simp)
                  ·rw [if_neg c70] at H
                   exact absurd H (by simp)
                 ·rw [if_neg c68] at H
                  exact absurd H (by simp)
                ·rw [if_neg c67] at H
                 exact absurd H (by simp)
               ·rw [if_neg c66] at H
                exact absurd H (by simp)
              ·replace c65:=Bool.eq_false_iff.mpr c65
               subst c65
               have H1 : (if x316000_1.length < 140737488355328 then (impl_compose.l0 k2 x8_2 (⟨#[]⟩ : ByteArray) t304 (t304.length : Int) (wrap64 (x26_1 + 1)) t301 t304 t307 t310 (x316000_1 ++ [false]) y324) else (none)) = some r:=by rw [if_neg (show ¬ (false = true) by decide)] at H;exact H
               clear H
               have H:=H1
               clear H1
               by_cases c86 : x316000_1.length < 140737488355328
               ·rw [if_pos c86] at H
                have LMc86:=Aside0.mk c86
                clear c86
                obtain ⟨y336,hy336⟩ : ∃ y_ : List Bool,y_ = (x316000_1 ++ [false]):=⟨_,rfl⟩
                replace H : (impl_compose.l0 k2 x8_2 (⟨#[]⟩ : ByteArray) t304 (t304.length : Int) (wrap64 (x26_1 + 1)) t301 t304 t307 t310 y336 y324) = some r:=by first|(rw [hy336];with_reducible exact H)|(have H2_:=(Option.bind_some _ _).symm.trans H;rw [hy336];with_reducible exact H2_)|(have H2_:=(Option.bind_some _ _).symm.trans H;with_reducible exact H2_)|with_reducible exact H|(rw [hy336];exact H)|exact H
                have Ny336:=Aside0.mk hy336
                clear hy336
                have H':=Aside0.mk H
                clear H
                have hnb87:=NB315_313.out
                have hnc87:=NB313_315.out
                have hnb88:=NB315_314.out
                have hnc88:=NB314_315.out
                have hcz89_0 : wr.cell? ⟨gb315,0,none⟩ = some (u316000):=(blk_cell BK315.out 0).trans rfl
                have hcz89_1 : wr.cell? ⟨gb315,1,none⟩ = some (u316001):=(blk_cell BK315.out 1).trans rfl
                have hfz89_0:=blk_frozen BK315.out 0
                have hfz89_1:=blk_frozen BK315.out 1
                go_wp2_with (first|((with_reducible refine gate_builtin (b:=.append) (xs:=#[.tmp 61,.tmp 63]) rfl ?_);at_builtin;refine Kd.R_append Kd.string (w0:=w) w.heap.size rfl (.tmp 61) (.tmp 63) 84 9 (.string ⟨#[]⟩) 16 rfl Try.underlying84 info9 rfl (by decide) (by omega) u316001 x316001_1 x12_2 [.string x12_2] (fun k_=>some k_ ≠ (.slice (some ad320) t304.length co13 : Value).ownBlock∧some k_ ≠ (.slice (some ad320) t304.length co13 : Value).ownBlock∧some k_ ≠ (.slice (some ad316) t310.length co16 : Value).ownBlock) (fun _=>False) rfl rfl ?aP (fun _ hk=>hk.elim) ?aF ?aO ?aB ?aS ?aL ?_;(case aP=>exact rfl);(case aB=>exact (by repeat (first|(with_reducible first|exact HB.out|apply below_alloc|apply pw_below_drewN|apply below_drew1|refine below_set ?_ GE313.out|refine below_set ?_ GE314.out|refine below_set ?_ GE315.out)|exact HB.out)));(case aF=>exact (fun k_ hk=>⟨Kd.fresh' (Kd.R_lt (by (with_reducible repeat (first|apply Kd.R_alloc|apply Kd.R_drewN|apply Kd.R_drew));exact HO_24.out)) k_ hk,Kd.fresh' (Kd.R_lt (by (with_reducible repeat (first|apply Kd.R_alloc|apply Kd.R_drewN|apply Kd.R_drew));exact HO_314001.out)) k_ hk,Kd.fresh' (Kd.R_lt (by (with_reducible repeat (first|apply Kd.R_alloc|apply Kd.R_drewN|apply Kd.R_drew));exact HO_315001.out)) k_ hk⟩));(case aO=>exact (by (with_reducible repeat (first|apply Kd.R_alloc|apply Kd.R_drewN|apply Kd.R_drew));exact HO_316001.out));(case aS=>exact (below_size (by repeat (first|(with_reducible first|exact HB.out|apply below_alloc|apply pw_below_drewN|apply below_drew1|refine below_set ?_ GE313.out|refine below_set ?_ GE314.out|refine below_set ?_ GE315.out)|exact HB.out))));(case aL=>have:=LMc49.out;omega);intro v325 w90 ho hb hg hat;rw [← Ny324.out] at ho;have n0_:=Aside0.mk (Kd.R_after (ok:=(fun k_=>some k_ ≠ (.slice (some ad316) t310.length co16 : Value).ownBlock)) (by (with_reducible repeat (first|apply Kd.R_alloc|apply Kd.R_drewN|apply Kd.R_drew));exact HO_24.out) hg hat);have n1_:=Aside0.mk (Kd.R_over' (by (with_reducible repeat (first|apply Kd.R_alloc|apply Kd.R_drewN|apply Kd.R_drew));exact HO_314000.out) (Kd.R_typed (by (with_reducible repeat (first|apply Kd.R_alloc|apply Kd.R_drewN|apply Kd.R_drew));exact HO_316001.out)) (by decide) hg);have n2_:=Aside0.mk (Kd.R_after (ok:=(fun k_=>some k_ ≠ (.slice (some ad316) t310.length co16 : Value).ownBlock)) (by (with_reducible repeat (first|apply Kd.R_alloc|apply Kd.R_drewN|apply Kd.R_drew));exact HO_314001.out) hg hat);have n3_:=Aside0.mk (Kd.R_over' (by (with_reducible repeat (first|apply Kd.R_alloc|apply Kd.R_drewN|apply Kd.R_drew));exact HO_315000.out) (Kd.R_typed (by (with_reducible repeat (first|apply Kd.R_alloc|apply Kd.R_drewN|apply Kd.R_drew));exact HO_316001.out)) (by decide) hg);have n4_:=Aside0.mk (Kd.R_after (ok:=(fun k_=>some k_ ≠ (.slice (some ad320) t304.length co13 : Value).ownBlock∧some k_ ≠ (.slice (some ad320) t304.length co13 : Value).ownBlock)) (by (with_reducible repeat (first|apply Kd.R_alloc|apply Kd.R_drewN|apply Kd.R_drew));exact Kd.R_mono HO_315001.out (fun _ hk=>⟨⟨hk.1,hk.2.1⟩,hk.2.2⟩)) hg hat);have n5_:=Aside0.mk (Kd.R_over' (by (with_reducible repeat (first|apply Kd.R_alloc|apply Kd.R_drewN|apply Kd.R_drew));exact HO_316000.out) (Kd.R_typed (by (with_reducible repeat (first|apply Kd.R_alloc|apply Kd.R_drewN|apply Kd.R_drew));exact HO_316001.out)) (by decide) hg);have n6_:=Aside0.mk (blk_grown (g:=gb313) (o:=.cells #[.slice Ao10 t301.length co10,.slice (some ad320) t304.length co13] 86 (0,0)) (by (with_reducible repeat first|apply blk_drewN|apply blk_drew|apply blk_alloc);exact BK313.out) hg (Kd.R_ne HO_316001.out BK313.out (by decide)));have n7_:=Aside0.mk (blk_grown (g:=gb314) (o:=.cells #[.slice Ao14 t307.length co14,.slice (some ad316) t310.length co16] 86 (0,0)) (by (with_reducible repeat first|apply blk_drewN|apply blk_drew|apply blk_alloc);exact BK314.out) hg (Kd.R_ne HO_316001.out BK314.out (by decide)));have n8_:=Aside0.mk (blk_grown (g:=gb315) (o:=.cells #[u316000,u316001] 86 (0,0)) (by (with_reducible repeat first|apply blk_drewN|apply blk_drew|apply blk_alloc);exact BK315.out) hg (Kd.R_ne HO_316001.out BK315.out (by decide)));have n9_:=Aside0.mk (hb);have n10_:=Aside0.mk (ho);clear HO_24;clear HO_314000;clear HO_314001;clear HO_315000;clear HO_315001;clear HO_316000;clear BK313;clear BK314;clear BK315;clear HB;clear HO_316001;have HO_24:=n0_;have HO_314000:=n1_;have HO_314001:=n2_;have HO_315000:=n3_;have HO_315001:=n4_;have HO_316000:=n5_;have BK313:=n6_;have BK314:=n7_;have BK315:=n8_;have HB:=n9_;have HO326:=n10_;clear n0_ n1_ n2_ n3_ n4_ n5_ n6_ n7_ n8_ n9_ n10_;clear ho hb hg hat;obtain ⟨Ao91,co91,eo91⟩:=Kd.R_slice HO326.out;subst eo91;have hcz92_0 : w90.cell? ⟨gb315,0,none⟩ = some (u316000):=(blk_cell BK315.out 0).trans rfl;have hcz92_1 : w90.cell? ⟨gb315,1,none⟩ = some (u316001):=(blk_cell BK315.out 1).trans rfl;have hfz92_0:=blk_frozen BK315.out 0;have hfz92_1:=blk_frozen BK315.out 1;have hnb93:=NB313_314.out;have hnc93:=NB314_313.out;have hcz94_0 : w90.cell? ⟨gb313,0,none⟩ = some (.slice Ao10 t301.length co10):=(blk_cell BK313.out 0).trans rfl;have hcz94_1 : w90.cell? ⟨gb313,1,none⟩ = some (.slice (some ad320) t304.length co13):=(blk_cell BK313.out 1).trans rfl;have hfz94_0:=blk_frozen BK313.out 0;have hfz94_1:=blk_frozen BK313.out 1;have p330 : 0 ≤ (x26_1 : Int):=of_decide_eq_true (by assumption);have q330 : x26_1 < (t301.length : Int):=of_decide_eq_true (by assumption);obtain ⟨ad330,e330,hx330_0⟩:=Kd.at_bool (Kd.R_reads' HO_314000.out).2.2 x26_1 p330 q330;(try rw [← Nbq64.out] at hx330_0);cases e330;have hn330_0 : ad330.block ≠ gb315:=Kd.own_blk (Kd.R_ne HO_314000.out BK315.out (by decide));replace hx330_0:=(cell_far (p:=⟨gb315,1,none⟩) (by first|(rw [add_block];exact hn330_0)|(show (Addr.add _ _).block ≠ _;rw [add_block];exact hn330_0)|exact hn330_0) (.slice Ao91 y324.length co91)).trans hx330_0;clear hn330_0;replace p330:=eq_true p330;replace q330:=eq_true q330)|((with_reducible refine gate_builtin (b:=.append) (xs:=#[.tmp 78,.tmp 79]) rfl ?_);at_builtin;refine Kd.R_append Kd.bool (w0:=w) w.heap.size rfl (.tmp 78) (.tmp 79) 83 4 (.bool false) 1 rfl Try.underlying83 info4 rfl (by decide) (by omega) u316000 x316000_1 false [.bool false] (fun k_=>some k_ ≠ (.slice (some ad330) t301.length co10 : Value).ownBlock∧some k_ ≠ (.slice Ao14 t307.length co14 : Value).ownBlock) (fun _=>False) rfl (by first|(go_simp;done)|(go_simp;rfl)) ?aP (fun _ hk=>hk.elim) ?aF ?aO ?aB ?aS ?aL ?_;(case aP=>exact rfl);(case aB=>exact (by repeat (first|(with_reducible first|exact HB.out|apply below_alloc|apply pw_below_drewN|apply below_drew1|refine below_set ?_ GE313.out|refine below_set ?_ GE314.out|refine below_set ?_ GE315.out)|exact HB.out)));(case aF=>exact (fun k_ hk=>⟨Kd.fresh' (Kd.R_lt (by (with_reducible repeat (first|apply Kd.R_alloc|apply Kd.R_drewN|apply Kd.R_drew));exact (Kd.R_mono (Kd.R_far (p:=⟨gb315,1,none⟩) (Kd.R_types HO_314000.out BK315.out (by decide)) (fun _ hk=>hk.2) (.slice Ao91 y324.length co91)) (fun _ h_=>h_.1)))) k_ hk,Kd.fresh' (Kd.R_lt (by (with_reducible repeat (first|apply Kd.R_alloc|apply Kd.R_drewN|apply Kd.R_drew));exact (Kd.R_mono (Kd.R_far (p:=⟨gb315,1,none⟩) (Kd.R_types HO_315000.out BK315.out (by decide)) (fun _ hk=>hk.2) (.slice Ao91 y324.length co91)) (fun _ h_=>h_.1)))) k_ hk⟩));(case aO=>exact (by (with_reducible repeat (first|apply Kd.R_alloc|apply Kd.R_drewN|apply Kd.R_drew));exact Kd.R_mono (Kd.R_far (p:=⟨gb315,1,none⟩) (Kd.R_types HO_316000.out BK315.out (by decide)) (fun _ hk=>hk.2) (.slice Ao91 y324.length co91)) (fun _ hk=>⟨hk.1.1,hk.1.2⟩)));(case aS=>exact (below_size (by repeat (first|(with_reducible first|exact HB.out|apply below_alloc|apply pw_below_drewN|apply below_drew1|refine below_set ?_ GE313.out|refine below_set ?_ GE314.out|refine below_set ?_ GE315.out)|exact HB.out))));(case aL=>have:=LMc86.out;omega);intro v337 w95 ho hb hg hat;rw [← Ny336.out] at ho;have n0_:=Aside0.mk (Kd.R_over' (by (with_reducible repeat (first|apply Kd.R_alloc|apply Kd.R_drewN|apply Kd.R_drew));exact (Kd.R_mono (Kd.R_far (p:=⟨gb315,1,none⟩) (Kd.R_types HO_24.out BK315.out (by decide)) (fun _ hk=>hk.2) (.slice Ao91 y324.length co91)) (fun _ h_=>h_.1))) (Kd.R_typed (by (with_reducible repeat (first|apply Kd.R_alloc|apply Kd.R_drewN|apply Kd.R_drew));exact (Kd.R_mono (Kd.R_far (p:=⟨gb315,1,none⟩) (Kd.R_types HO_316000.out BK315.out (by decide)) (fun _ hk=>hk.2) (.slice Ao91 y324.length co91)) (fun _ h_=>h_.1)))) (by decide) hg);have n1_:=Aside0.mk (Kd.R_after (ok:=(fun k_=>some k_ ≠ (.slice Ao14 t307.length co14 : Value).ownBlock)) (by (with_reducible repeat (first|apply Kd.R_alloc|apply Kd.R_drewN|apply Kd.R_drew));exact Kd.R_mono (Kd.R_far (p:=⟨gb315,1,none⟩) (Kd.R_types HO_314000.out BK315.out (by decide)) (fun _ hk=>hk.2) (.slice Ao91 y324.length co91)) (fun _ hk=>⟨hk.1.1,hk.1.2⟩)) hg hat);have n2_:=Aside0.mk (Kd.R_over' (by (with_reducible repeat (first|apply Kd.R_alloc|apply Kd.R_drewN|apply Kd.R_drew));exact (Kd.R_mono (Kd.R_far (p:=⟨gb315,1,none⟩) (Kd.R_types HO_314001.out BK315.out (by decide)) (fun _ hk=>hk.2) (.slice Ao91 y324.length co91)) (fun _ h_=>h_.1))) (Kd.R_typed (by (with_reducible repeat (first|apply Kd.R_alloc|apply Kd.R_drewN|apply Kd.R_drew));exact (Kd.R_mono (Kd.R_far (p:=⟨gb315,1,none⟩) (Kd.R_types HO_316000.out BK315.out (by decide)) (fun _ hk=>hk.2) (.slice Ao91 y324.length co91)) (fun _ h_=>h_.1)))) (by decide) hg);have n3_:=Aside0.mk (Kd.R_after (ok:=(fun k_=>some k_ ≠ (.slice (some ad330) t301.length co10 : Value).ownBlock)) (by (with_reducible repeat (first|apply Kd.R_alloc|apply Kd.R_drewN|apply Kd.R_drew));exact Kd.R_mono (Kd.R_far (p:=⟨gb315,1,none⟩) (Kd.R_types HO_315000.out BK315.out (by decide)) (fun _ hk=>hk.2) (.slice Ao91 y324.length co91)) (fun _ hk=>⟨hk.1.1,hk.1.2⟩)) hg hat);have n4_:=Aside0.mk (Kd.R_over' (by (with_reducible repeat (first|apply Kd.R_alloc|apply Kd.R_drewN|apply Kd.R_drew));exact (Kd.R_mono (Kd.R_far (p:=⟨gb315,1,none⟩) (Kd.R_types HO_315001.out BK315.out (by decide)) (fun _ hk=>hk.2) (.slice Ao91 y324.length co91)) (fun _ h_=>h_.1))) (Kd.R_typed (by (with_reducible repeat (first|apply Kd.R_alloc|apply Kd.R_drewN|apply Kd.R_drew));exact (Kd.R_mono (Kd.R_far (p:=⟨gb315,1,none⟩) (Kd.R_types HO_316000.out BK315.out (by decide)) (fun _ hk=>hk.2) (.slice Ao91 y324.length co91)) (fun _ h_=>h_.1)))) (by decide) hg);have n5_:=Aside0.mk (blk_grown (g:=gb313) (o:=.cells #[.slice (some ad330) t301.length co10,.slice (some ad320) t304.length co13] 86 (0,0)) (by (with_reducible repeat first|apply blk_drewN|apply blk_drew|apply blk_alloc);refine blk_far ?_ NB313_315.out _;(with_reducible repeat first|apply blk_drewN|apply blk_drew|apply blk_alloc);exact BK313.out) hg (Kd.R_ne HO_316000.out BK313.out (by decide)));have n6_:=Aside0.mk (blk_grown (g:=gb314) (o:=.cells #[.slice Ao14 t307.length co14,.slice (some ad316) t310.length co16] 86 (0,0)) (by (with_reducible repeat first|apply blk_drewN|apply blk_drew|apply blk_alloc);refine blk_far ?_ NB314_315.out _;(with_reducible repeat first|apply blk_drewN|apply blk_drew|apply blk_alloc);exact BK314.out) hg (Kd.R_ne HO_316000.out BK314.out (by decide)));have n7_:=Aside0.mk (blk_grown (g:=gb315) (o:=.cells #[u316000,.slice Ao91 y324.length co91] 86 (0,0)) (by (with_reducible repeat first|apply blk_drewN|apply blk_drew|apply blk_alloc);refine blk_put (cs:=#[u316000,u316001]) ?_ 1 _ rfl;(with_reducible repeat first|apply blk_drewN|apply blk_drew|apply blk_alloc);exact BK315.out) hg (Kd.R_ne HO_316000.out BK315.out (by decide)));have n8_:=Aside0.mk (Kd.R_over' (by (with_reducible repeat (first|apply Kd.R_alloc|apply Kd.R_drewN|apply Kd.R_drew));exact (Kd.R_mono (Kd.R_far (p:=⟨gb315,1,none⟩) (Kd.R_types HO326.out BK315.out (by decide)) (fun _ hk=>hk.2) (.slice Ao91 y324.length co91)) (fun _ h_=>h_.1))) (Kd.R_typed (by (with_reducible repeat (first|apply Kd.R_alloc|apply Kd.R_drewN|apply Kd.R_drew));exact (Kd.R_mono (Kd.R_far (p:=⟨gb315,1,none⟩) (Kd.R_types HO_316000.out BK315.out (by decide)) (fun _ hk=>hk.2) (.slice Ao91 y324.length co91)) (fun _ h_=>h_.1)))) (by decide) hg);have n9_:=Aside0.mk (hb);have n10_:=Aside0.mk (ho);clear HO_24;clear HO_314000;clear HO_314001;clear HO_315000;clear HO_315001;clear BK313;clear BK314;clear BK315;clear HO326;clear HB;clear HO_316000;have HO_24:=n0_;have HO_314000:=n1_;have HO_314001:=n2_;have HO_315000:=n3_;have HO_315001:=n4_;have BK313:=n5_;have BK314:=n6_;have BK315:=n7_;have HO326:=n8_;have HB:=n9_;have HO338:=n10_;clear n0_ n1_ n2_ n3_ n4_ n5_ n6_ n7_ n8_ n9_ n10_;clear ho hb hg hat;obtain ⟨Ao96,co96,eo96⟩:=Kd.R_slice HO338.out;subst eo96;have hcz97_0 : w95.cell? ⟨gb315,0,none⟩ = some (u316000):=(blk_cell BK315.out 0).trans rfl;have hcz97_1 : w95.cell? ⟨gb315,1,none⟩ = some (.slice Ao91 y324.length co91):=(blk_cell BK315.out 1).trans rfl;have hfz97_0:=blk_frozen BK315.out 0;have hfz97_1:=blk_frozen BK315.out 1))
                go_roundg k2
                case measure=>have:=HK1.out;have:=HK2.out;omega
                case rel=>exact ⟨(x8_2),((⟨#[]⟩ : ByteArray)),(wrap64 (x26_1 + 1)),(y336),(y324),(.slice Ao96 y336.length co96),(.slice Ao91 y324.length co91),(by first|rfl|(simp;done)|(simp [*];done)),(by first|rfl|(simp;done)|(simp [*];done)),(by first|rfl|(simp;done)|(simp [*];done)),H',⟨by have:=HK1.out;have:=HK2.out;omega⟩,⟨by (with_reducible repeat (first|apply Kd.R_alloc|apply Kd.R_drewN|apply Kd.R_drew));exact Kd.R_mono (Kd.R_far (p:=⟨gb315,0,none⟩) (Kd.R_types HO_24.out BK315.out (by decide)) (fun _ hk=>hk.2) (.slice Ao96 y336.length co96)) (fun _ hk=>⟨hk.1.1,hk.1.2⟩)⟩,⟨by (with_reducible repeat (first|apply Kd.R_alloc|apply Kd.R_drewN|apply Kd.R_drew));exact Kd.R_mono (Kd.R_far (p:=⟨gb315,0,none⟩) (Kd.R_types HO_314000.out BK315.out (by decide)) (fun _ hk=>hk.2) (.slice Ao96 y336.length co96)) (fun _ hk=>⟨hk.1.1,hk.1.2⟩)⟩,⟨by (with_reducible repeat (first|apply Kd.R_alloc|apply Kd.R_drewN|apply Kd.R_drew));exact Kd.R_mono (Kd.R_far (p:=⟨gb315,0,none⟩) (Kd.R_types HO_314001.out BK315.out (by decide)) (fun _ hk=>hk.2) (.slice Ao96 y336.length co96)) (fun _ hk=>⟨hk.1.1,hk.1.2⟩)⟩,⟨by (with_reducible repeat (first|apply Kd.R_alloc|apply Kd.R_drewN|apply Kd.R_drew));exact Kd.R_mono (Kd.R_far (p:=⟨gb315,0,none⟩) (Kd.R_types HO_315000.out BK315.out (by decide)) (fun _ hk=>hk.2) (.slice Ao96 y336.length co96)) (fun _ hk=>⟨hk.1.1,hk.1.2⟩)⟩,⟨by (with_reducible repeat (first|apply Kd.R_alloc|apply Kd.R_drewN|apply Kd.R_drew));exact Kd.R_mono (Kd.R_far (p:=⟨gb315,0,none⟩) (Kd.R_types HO_315001.out BK315.out (by decide)) (fun _ hk=>hk.2) (.slice Ao96 y336.length co96)) (fun _ hk=>⟨hk.1.1.1,⟨hk.1.1.2,hk.1.2⟩⟩)⟩,⟨by (with_reducible repeat (first|apply Kd.R_alloc|apply Kd.R_drewN|apply Kd.R_drew));exact Kd.R_mono (Kd.R_far (p:=⟨gb315,0,none⟩) (Kd.R_types HO338.out BK315.out (by decide)) (fun _ hk=>hk.2) (.slice Ao96 y336.length co96)) (fun _ hk=>⟨hk.1.1,hk.1.2⟩)⟩,⟨by (with_reducible repeat (first|apply Kd.R_alloc|apply Kd.R_drewN|apply Kd.R_drew));exact Kd.R_mono (Kd.R_far (p:=⟨gb315,0,none⟩) (Kd.R_types HO326.out BK315.out (by decide)) (fun _ hk=>hk.2) (.slice Ao96 y336.length co96)) (fun _ hk=>⟨hk.1.1,⟨hk.1.2.1,hk.1.2.2⟩⟩)⟩,⟨by (with_reducible repeat first|apply blk_drewN|apply blk_drew|apply blk_alloc);refine blk_far ?_ NB313_315.out _;(with_reducible repeat first|apply blk_drewN|apply blk_drew|apply blk_alloc);exact BK313.out⟩,⟨by (with_reducible repeat first|apply blk_drewN|apply blk_drew|apply blk_alloc);refine blk_far ?_ NB314_315.out _;(with_reducible repeat first|apply blk_drewN|apply blk_drew|apply blk_alloc);exact BK314.out⟩,⟨by (with_reducible repeat first|apply blk_drewN|apply blk_drew|apply blk_alloc);refine blk_put (cs:=#[u316000,.slice Ao91 y324.length co91]) ?_ 0 _ rfl;(with_reducible repeat first|apply blk_drewN|apply blk_drew|apply blk_alloc);exact BK315.out⟩,⟨by repeat (first|(with_reducible first|exact HB.out|apply below_alloc|apply pw_below_drewN|apply below_drew1|refine below_set ?_ GE313.out|refine below_set ?_ GE314.out|refine below_set ?_ GE315.out)|exact HB.out)⟩⟩
               ·rw [if_neg c86] at H
                exact absurd H (by simp)
             ·rw [if_neg c63] at H
              exact absurd H (by simp)
            ·rw [if_neg c62] at H
             exact absurd H (by simp)
          ·rw [if_neg c49] at H
           exact absurd H (by simp)
      ·rw [if_neg c25] at H
       exact absurd H (by simp)
     ·rw [if_neg c24] at H
      exact absurd H (by simp)
    ·rw [if_neg c23] at H
     have c23b0 : decide (x26_1 < (t304.length : Int)) = false:=decide_eq_false c23
     clear c23
     replace H:=Option.bind_eq_some_iff.mp H
     obtain ⟨t317,A980,H⟩:=H
     replace H : (some t317) = some r:=H
     have A98:=Aside0.mk A980
     clear A980
     obtain rfl:=Option.some.inj H
     have hnb99:=NB315_313.out
     have hnc99:=NB313_315.out
     have hnb100:=NB315_314.out
     have hnc100:=NB314_315.out
     have hcz101_0 : wr.cell? ⟨gb315,0,none⟩ = some (u316000):=(blk_cell BK315.out 0).trans rfl
     have hcz101_1 : wr.cell? ⟨gb315,1,none⟩ = some (u316001):=(blk_cell BK315.out 1).trans rfl
     have hfz101_0:=blk_frozen BK315.out 0
     have hfz101_1:=blk_frozen BK315.out 1
     obtain ⟨Ao102,co102,eo102⟩:=Kd.R_slice HO_316000.out
     subst eo102
     obtain ⟨Ao103,co103,eo103⟩:=Kd.R_slice HO_316001.out
     subst eo103
     go_wp2_with (first|((with_reducible refine gate_callee (f:=90) rfl ?_);refine goesL_ (some 102) rfl rfl Try.func90 (by kernel_rfl) rfl #[.agg #[.slice Ao102 x316000_1.length co102,.slice Ao103 x316001_1.length co103]] rfl (by (try simp only [List.map_toArray,List.map_cons,List.map_nil]);first|done|rfl|(simp only [List.length_drop,List.length_take];rfl)) ?_;(with_reducible refine (impl_told_parts.calls k1 _ _ x316000_1 _ _ x316001_1 t317 _ ?side1 ?side2 ?side3 ?side4 A98.out).mono ?_);(case side1=>repeat (first|exact (Kd.R_reads' HO_316000.out).2.2|(with_reducible first|apply Kd.C_alloc|apply Kd.C_drewN|apply Kd.C_drew)));(case side2=>exact (Kd.R_reads' HO_316000.out).2.1);(case side3=>repeat (first|exact (Kd.R_reads' HO_316001.out).2.2|(with_reducible first|apply Kd.C_alloc|apply Kd.C_drewN|apply Kd.C_drew)));(case side4=>exact (Kd.R_reads' HO_316001.out).2.1);rintro e w104 ⟨v318,rfl,ho0,hb⟩;refine ⟨_,rfl,?_⟩;have n0_:=Aside0.mk (Kd.R_below (by (with_reducible repeat (first|apply Kd.R_alloc|apply Kd.R_drewN|apply Kd.R_drew));exact HO_24.out) hb);have n1_:=Aside0.mk (Kd.R_below (by (with_reducible repeat (first|apply Kd.R_alloc|apply Kd.R_drewN|apply Kd.R_drew));exact HO_314000.out) hb);have n2_:=Aside0.mk (Kd.R_below (by (with_reducible repeat (first|apply Kd.R_alloc|apply Kd.R_drewN|apply Kd.R_drew));exact HO_314001.out) hb);have n3_:=Aside0.mk (Kd.R_below (by (with_reducible repeat (first|apply Kd.R_alloc|apply Kd.R_drewN|apply Kd.R_drew));exact HO_315000.out) hb);have n4_:=Aside0.mk (Kd.R_below (by (with_reducible repeat (first|apply Kd.R_alloc|apply Kd.R_drewN|apply Kd.R_drew));exact HO_315001.out) hb);have n5_:=Aside0.mk (Kd.R_below (by (with_reducible repeat (first|apply Kd.R_alloc|apply Kd.R_drewN|apply Kd.R_drew));exact HO_316000.out) hb);have n6_:=Aside0.mk (Kd.R_below (by (with_reducible repeat (first|apply Kd.R_alloc|apply Kd.R_drewN|apply Kd.R_drew));exact HO_316001.out) hb);have n7_:=Aside0.mk (Kd.R_lower ho0 (below_size (by repeat (first|(with_reducible first|exact HB.out|apply below_alloc|apply pw_below_drewN|apply below_drew1|refine below_set ?_ GE313.out|refine below_set ?_ GE314.out|refine below_set ?_ GE315.out)|exact HB.out))));have n8_:=Aside0.mk (blk_below (g:=gb313) (o:=.cells #[.slice Ao10 t301.length co10,.slice Ao13 t304.length co13] 86 (0,0)) (by (with_reducible repeat first|apply blk_drewN|apply blk_drew|apply blk_alloc);exact BK313.out) hb);have n9_:=Aside0.mk (blk_below (g:=gb314) (o:=.cells #[.slice Ao14 t307.length co14,.slice (some ad316) t310.length co16] 86 (0,0)) (by (with_reducible repeat first|apply blk_drewN|apply blk_drew|apply blk_alloc);exact BK314.out) hb);have n10_:=Aside0.mk (blk_below (g:=gb315) (o:=.cells #[.slice Ao102 x316000_1.length co102,.slice Ao103 x316001_1.length co103] 86 (0,0)) (by (with_reducible repeat first|apply blk_drewN|apply blk_drew|apply blk_alloc);exact BK315.out) hb);have n11_:=Aside0.mk (below_step (by repeat (first|(with_reducible first|exact HB.out|apply below_alloc|apply pw_below_drewN|apply below_drew1|refine below_set ?_ GE313.out|refine below_set ?_ GE314.out|refine below_set ?_ GE315.out)|exact HB.out)) hb);clear HO_24;clear HO_314000;clear HO_314001;clear HO_315000;clear HO_315001;clear HO_316000;clear HO_316001;clear BK313;clear BK314;clear BK315;clear HB;have HO_24:=n0_;have HO_314000:=n1_;have HO_314001:=n2_;have HO_315000:=n3_;have HO_315001:=n4_;have HO_316000:=n5_;have HO_316001:=n6_;have HO319:=n7_;have BK313:=n8_;have BK314:=n9_;have BK315:=n10_;have HB:=n11_;clear n0_ n1_ n2_ n3_ n4_ n5_ n6_ n7_ n8_ n9_ n10_ n11_;(try clear hb);(try clear hb2);(try clear hk);(try clear hi);(try clear ho0)))
     go_ret
     exact ⟨_,by first|rfl|(simp [*,errW_none,errW_some] <;> rfl),by (with_reducible repeat (first|apply Kd.R_alloc|apply Kd.R_drewN|apply Kd.R_drew));exact HO319.out,by repeat (first|(with_reducible first|exact HB.out|apply below_alloc|apply pw_below_drewN|apply below_drew1|refine below_set ?_ GE313.out|refine below_set ?_ GE314.out|refine below_set ?_ GE315.out)|exact HB.out)⟩
 ·rw [if_neg c5] at H
  exact absurd H (by simp)

/-! ### impl_ComposeChanges: function 43 -/
def impl_ComposeChanges.f (k : Nat) (l0 : List (S74)) (l1 : List (S74)) : Option ((List (S74)) × Bool):=(impl_LengthsOf.f k l0).bind fun bt339=>(if bt339.2.2 = true then ((impl_fits.f k l1 bt339.2.1).bind fun t342=>(if t342 = true then ((impl_compose.f k l0 l1).bind fun t343=>(some (t343,true))) else (some (([] : List (S74)),false)))) else (some (([] : List (S74)),false)))
theorem impl_ComposeChanges.mono : ∀ a0 a1 k,LeO (impl_ComposeChanges.f k a0 a1) (impl_ComposeChanges.f (k + 1) a0 a1):=by
 intro a0 a1 k
 unfold impl_ComposeChanges.f
 repeat' first
   | (with_reducible exact impl_LengthsOf.mono _ _)
   | (with_reducible exact impl_compose.mono _ _ _)
   | (with_reducible exact impl_fits.mono _ _ _)
   | (with_reducible exact LeO.refl _)
   | (with_reducible exact LeO.none _)
   | (with_reducible refine LeO.ite ?_ ?_)
   | (with_reducible refine LeO.bind ?_ (fun _=>?_))
   | exact impl_LengthsOf.mono _ _
   | exact impl_compose.mono _ _ _
   | exact impl_fits.mono _ _ _
   | exact LeO.none _
   | refine LeO.ite ?_ ?_
   | refine LeO.bind ?_ (fun _=>?_)
set_option maxHeartbeats 8000000 in
set_option maxRecDepth 100000 in
theorem impl_ComposeChanges.calls (k : Nat) (A0 : Option Addr) (c0 : Nat) (l0 : List (S74)) (A1 : Option Addr) (c1 : Nat) (l1 : List (S74)) (r1 : List (S74)) (r2 : Bool) (w : World) (hr0 : Kd.C k74 w A0 l0.length l0) (hc0 : l0.length ≤ c0) (hr1 : Kd.C k74 w A1 l1.length l1) (hc1 : l1.length ≤ c1) (h : impl_ComposeChanges.f k l0 l1 = some (r1,r2)) :
  Calls Try.prog 43 #[.slice A0 l0.length c0,.slice A1 l1.length c1] w fun e w'=>∃ v0_ : Value,e = .returned (.tuple #[v0_,.bool r2])∧Kd.R k74 74 w' w.heap.size (fun _=>True) v0_ r1∧Below w.heap.size w w':=by
 have HR0:=Aside0.mk hr0
 have HC0:=Aside0.mk hc0
 clear hr0 hc0
 have HR1:=Aside0.mk hr1
 have HC1:=Aside0.mk hc1
 clear hr1 hc1
 have HB:=Aside0.mk (Below.refl w.heap.size w)
 have H : ((impl_LengthsOf.f k l0).bind fun bt339=>(if bt339.2.2 = true then ((impl_fits.f k l1 bt339.2.1).bind fun t342=>(if t342 = true then ((impl_compose.f k l0 l1).bind fun t343=>(some (t343,true))) else (some (([] : List (S74)),false)))) else (some (([] : List (S74)),false)))) = some (r1,r2):=h
 clear h
 replace H:=Option.bind_eq_some_iff.mp H
 obtain ⟨⟨t339,t340,t341⟩,A30,H⟩:=H
 replace H : (if t341 = true then ((impl_fits.f k l1 t340).bind fun t342=>(if t342 = true then ((impl_compose.f k l0 l1).bind fun t343=>(some (t343,true))) else (some (([] : List (S74)),false)))) else (some (([] : List (S74)),false))) = some (r1,r2):=H
 have A3:=Aside0.mk A30
 clear A30
 by_cases c4 : t341 = true
 ·subst c4
  have H1 : ((impl_fits.f k l1 t340).bind fun t342=>(if t342 = true then ((impl_compose.f k l0 l1).bind fun t343=>(some (t343,true))) else (some (([] : List (S74)),false)))) = some (r1,r2):=by rw [if_pos rfl] at H;exact H
  clear H
  have H:=H1
  clear H1
  replace H:=Option.bind_eq_some_iff.mp H
  obtain ⟨t342,A50,H⟩:=H
  replace H : (if t342 = true then ((impl_compose.f k l0 l1).bind fun t343=>(some (t343,true))) else (some (([] : List (S74)),false))) = some (r1,r2):=H
  have A5:=Aside0.mk A50
  clear A50
  by_cases c6 : t342 = true
  ·subst c6
   have H1 : ((impl_compose.f k l0 l1).bind fun t343=>(some (t343,true))) = some (r1,r2):=by rw [if_pos rfl] at H;exact H
   clear H
   have H:=H1
   clear H1
   replace H:=Option.bind_eq_some_iff.mp H
   obtain ⟨t343,A70,H⟩:=H
   replace H : (some (t343,true)) = some (r1,r2):=H
   have A7:=Aside0.mk A70
   clear A70
   simp only [Option.some.injEq,Prod.mk.injEq] at H
   obtain ⟨rfl,rfl⟩:=H
   go_enter Try.func43,Try.ntmps43
   go_wp2_with (first|((with_reducible refine gate_callee (f:=21) rfl ?_);refine goesL_ (some 11) rfl rfl Try.func21 (by kernel_rfl) rfl #[.slice A0 l0.length c0] rfl (by (try simp only [List.map_toArray,List.map_cons,List.map_nil]);first|done|rfl|(simp only [List.length_drop,List.length_take];rfl)) ?_;(with_reducible refine (impl_LengthsOf.calls k _ _ l0 t339 t340 true _ ?side1 ?side2 A3.out).mono ?_);(case side1=>repeat (first|exact HR0.out|(with_reducible first|apply Kd.C_alloc|apply Kd.C_drewN|apply Kd.C_drew)));(case side2=>exact HC0.out);rintro e w8 ⟨rfl,hb⟩;refine ⟨_,rfl,?_⟩;have n0_:=Aside0.mk (below_step (by repeat (first|exact HB.out|apply below_alloc|apply pw_below_drewN|apply below_drew1)) hb);clear HB;have HB:=n0_;clear n0_;(try clear hb);(try clear hb2);(try clear hk);(try clear hi))|(go_at_call 63;(with_reducible refine (impl_fits.calls k _ _ l1 t340 true _ ?side1 ?side2 A5.out).mono ?_);(case side1=>repeat (first|exact (Kd.C_below HR1.out HB.out)|(with_reducible first|apply Kd.C_alloc|apply Kd.C_drewN|apply Kd.C_drew)));(case side2=>exact HC1.out);rintro e w9 ⟨rfl,hb⟩;have n0_:=Aside0.mk (below_step (by repeat (first|exact HB.out|apply below_alloc|apply pw_below_drewN|apply below_drew1)) hb);clear HB;have HB:=n0_;clear n0_;(try clear hb);(try clear hb2);(try clear hk);(try clear hi))|((with_reducible refine gate_callee (f:=77) rfl ?_);refine goesL_ (some 25) rfl rfl Try.func77 (by kernel_rfl) rfl #[.slice A0 l0.length c0,.slice A1 l1.length c1] rfl (by (try simp only [List.map_toArray,List.map_cons,List.map_nil]);first|done|rfl|(simp only [List.length_drop,List.length_take];rfl)) ?_;(with_reducible refine (impl_compose.calls k _ _ l0 _ _ l1 t343 _ ?side1 ?side2 ?side3 ?side4 A7.out).mono ?_);(case side1=>repeat (first|exact (Kd.C_below HR0.out HB.out)|(with_reducible first|apply Kd.C_alloc|apply Kd.C_drewN|apply Kd.C_drew)));(case side2=>exact HC0.out);(case side3=>repeat (first|exact (Kd.C_below HR1.out HB.out)|(with_reducible first|apply Kd.C_alloc|apply Kd.C_drewN|apply Kd.C_drew)));(case side4=>exact HC1.out);rintro e w10 ⟨v344,rfl,ho0,hb⟩;refine ⟨_,rfl,?_⟩;have n0_:=Aside0.mk (Kd.R_lower ho0 (below_size (by repeat (first|exact HB.out|apply below_alloc|apply pw_below_drewN|apply below_drew1))));have n1_:=Aside0.mk (below_step (by repeat (first|exact HB.out|apply below_alloc|apply pw_below_drewN|apply below_drew1)) hb);clear HB;have HO345:=n0_;have HB:=n1_;clear n0_ n1_;(try clear hb);(try clear hb2);(try clear hk);(try clear hi);(try clear ho0)))
   go_ret2
   exact ⟨_,by first|rfl|(simp [*,errW_none,errW_some] <;> rfl),by (with_reducible repeat (first|apply Kd.R_alloc|apply Kd.R_drewN|apply Kd.R_drew));exact HO345.out,by repeat (first|exact HB.out|apply below_alloc|apply pw_below_drewN|apply below_drew1)⟩
  ·replace c6:=Bool.eq_false_iff.mpr c6
   subst c6
   have H1 : (some (([] : List (S74)),false)) = some (r1,r2):=by rw [if_neg (show ¬ (false = true) by decide)] at H;exact H
   clear H
   have H:=H1
   clear H1
   simp only [Option.some.injEq,Prod.mk.injEq] at H
   obtain ⟨rfl,rfl⟩:=H
   go_enter Try.func43,Try.ntmps43
   go_wp2_with (first|((with_reducible refine gate_callee (f:=21) rfl ?_);refine goesL_ (some 11) rfl rfl Try.func21 (by kernel_rfl) rfl #[.slice A0 l0.length c0] rfl (by (try simp only [List.map_toArray,List.map_cons,List.map_nil]);first|done|rfl|(simp only [List.length_drop,List.length_take];rfl)) ?_;(with_reducible refine (impl_LengthsOf.calls k _ _ l0 t339 t340 true _ ?side1 ?side2 A3.out).mono ?_);(case side1=>repeat (first|exact HR0.out|(with_reducible first|apply Kd.C_alloc|apply Kd.C_drewN|apply Kd.C_drew)));(case side2=>exact HC0.out);rintro e w11 ⟨rfl,hb⟩;refine ⟨_,rfl,?_⟩;have n0_:=Aside0.mk (below_step (by repeat (first|exact HB.out|apply below_alloc|apply pw_below_drewN|apply below_drew1)) hb);clear HB;have HB:=n0_;clear n0_;(try clear hb);(try clear hb2);(try clear hk);(try clear hi))|(go_at_call 63;(with_reducible refine (impl_fits.calls k _ _ l1 t340 false _ ?side1 ?side2 A5.out).mono ?_);(case side1=>repeat (first|exact (Kd.C_below HR1.out HB.out)|(with_reducible first|apply Kd.C_alloc|apply Kd.C_drewN|apply Kd.C_drew)));(case side2=>exact HC1.out);rintro e w12 ⟨rfl,hb⟩;have n0_:=Aside0.mk (below_step (by repeat (first|exact HB.out|apply below_alloc|apply pw_below_drewN|apply below_drew1)) hb);clear HB;have HB:=n0_;clear n0_;(try clear hb);(try clear hb2);(try clear hk);(try clear hi)))
   go_ret2
   exact ⟨_,by first|rfl|(simp [*,errW_none,errW_some] <;> rfl),by first|exact Kd.R_nil _ _ _ _ _|exact Kd.N_nil _ _ _ _ _|exact Kd.V_nil _ _ _ _ _|exact Kd.Q_nil _ _ _ _ _|exact Kd.S_nil _ _ _ _ _,by repeat (first|exact HB.out|apply below_alloc|apply pw_below_drewN|apply below_drew1)⟩
 ·replace c4:=Bool.eq_false_iff.mpr c4
  subst c4
  have H1 : (some (([] : List (S74)),false)) = some (r1,r2):=by rw [if_neg (show ¬ (false = true) by decide)] at H;exact H
  clear H
  have H:=H1
  clear H1
  simp only [Option.some.injEq,Prod.mk.injEq] at H
  obtain ⟨rfl,rfl⟩:=H
  go_enter Try.func43,Try.ntmps43
  go_wp2_with (first|((with_reducible refine gate_callee (f:=21) rfl ?_);refine goesL_ (some 11) rfl rfl Try.func21 (by kernel_rfl) rfl #[.slice A0 l0.length c0] rfl (by (try simp only [List.map_toArray,List.map_cons,List.map_nil]);first|done|rfl|(simp only [List.length_drop,List.length_take];rfl)) ?_;(with_reducible refine (impl_LengthsOf.calls k _ _ l0 t339 t340 false _ ?side1 ?side2 A3.out).mono ?_);(case side1=>repeat (first|exact HR0.out|(with_reducible first|apply Kd.C_alloc|apply Kd.C_drewN|apply Kd.C_drew)));(case side2=>exact HC0.out);rintro e w13 ⟨rfl,hb⟩;refine ⟨_,rfl,?_⟩;have n0_:=Aside0.mk (below_step (by repeat (first|exact HB.out|apply below_alloc|apply pw_below_drewN|apply below_drew1)) hb);clear HB;have HB:=n0_;clear n0_;(try clear hb);(try clear hb2);(try clear hk);(try clear hi)))
  go_ret2
  exact ⟨_,by first|rfl|(simp [*,errW_none,errW_some] <;> rfl),by first|exact Kd.R_nil _ _ _ _ _|exact Kd.N_nil _ _ _ _ _|exact Kd.V_nil _ _ _ _ _|exact Kd.Q_nil _ _ _ _ _|exact Kd.S_nil _ _ _ _ _,by repeat (first|exact HB.out|apply below_alloc|apply pw_below_drewN|apply below_drew1)⟩

end Go.Proofs.Ytebmncdjlmnbnaa.PFnExactComposeChanges
