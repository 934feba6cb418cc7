-- Written by a program of this session over the print of the kit (wip/t/patch_print.py).
import Derived.Test.YtebmncdjlmnbnaaPFnExactCarryChangex0
import Derived.Test.YtebmncdjlmnbnaaPFnExactCarryChangex8
import Derived.Test.YtebmncdjlmnbnaaPFnExactCarryChangex10
import Derived.Test.YtebmncdjlmnbnaaPFnExactCarryChangex11
namespace Go.Proofs.Ytebmncdjlmnbnaa.PFnExactCarryChange
open Go.RowKit Go.Proofs.YtebmncdjlmnbnaaW.PrintWords Go.Proofs.YtebmncdjlmnbnaaW.PrintLast Go.Proofs.YtebmncdjlmnbnaaW.PrintMore
attribute [local go_sem] max2_int min2_int max_two min_two max_three min_three max_four min_four   -- for this text's walks alone
set_option linter.unusedVariables false
set_option linter.unusedSimpArgs false

/-! ### impl_carry: function 75 -/
mutual
def impl_carry.l0 : Nat → Bool → Int → Int → List Bool → List ByteArray → List Bool → List ByteArray → List (S74) → Option ((List (S74)) × Bool)
 | 0,_,_,_,_,_,_,_,_=>none
 | k + 1,x2,x20,x21,x275000,x275001,x276000,x276001,x277000=>if x21 < x20 then (if 0 ≤ x21 then (if x21 < (x275001.length : Int) then (if x2 = true then ((impl_builder_add.f k x277000 0 0 (rdOf ByteArray.empty x275001 x21)).bind fun t280=>(impl_carry.j1 k x2 x21 x20 x21 x275000 x275001 x276000 x276001 t280 0 0 (rdOf ByteArray.empty x275001 x21))) else (impl_carry.j1 k x2 x21 x20 x21 x275000 x275001 x276000 x276001 x277000 0 0 (rdOf ByteArray.empty x275001 x21))) else (none)) else (none)) else ((impl_GoodChange.f k x277000).bind fun t277=>(some (x277000,t277)))
def impl_carry.j1 : Nat → Bool → Int → Int → Int → List Bool → List ByteArray → List Bool → List ByteArray → List (S74) → Int → Int → ByteArray → Option ((List (S74)) × Bool)
 | 0,_,_,_,_,_,_,_,_,_,_,_,_=>none
 | k + 1,x2,x11,x20,x21,x275000,x275001,x276000,x276001,x277000,x280000,x280001,x280002=>if 0 ≤ x11 then (if x11 < (x276001.length : Int) then ((impl_builder_add.f k x277000 ((rdOf ByteArray.empty x276001 x11).size : Int) 0 (⟨#[]⟩ : ByteArray)).bind fun t284=>(if x2 = true then (impl_carry.j2 k x2 x11 x20 x21 x275000 x275001 x276000 x276001 t284) else ((impl_builder_add.f k t284 x280000 x280001 x280002).bind fun t287=>(impl_carry.j2 k x2 x11 x20 x21 x275000 x275001 x276000 x276001 t287)))) else (none)) else (none)
def impl_carry.j2 : Nat → Bool → Int → Int → Int → List Bool → List ByteArray → List Bool → List ByteArray → List (S74) → Option ((List (S74)) × Bool)
 | 0,_,_,_,_,_,_,_,_,_=>none
 | k + 1,x2,x11,x20,x21,x275000,x275001,x276000,x276001,x277000=>if x11 = (x275000.length : Int) then (impl_carry.j3 k x2 x11 x20 x21 true x275000 x275001 x276000 x276001 x277000) else (if 0 ≤ x11 then (if x11 < (x276000.length : Int) then (impl_carry.j3 k x2 x11 x20 x21 (!(rdOf false x276000 x11)) x275000 x275001 x276000 x276001 x277000) else (none)) else (none))
def impl_carry.j3 : Nat → Bool → Int → Int → Int → Bool → List Bool → List ByteArray → List Bool → List ByteArray → List (S74) → Option ((List (S74)) × Bool)
 | 0,_,_,_,_,_,_,_,_,_,_=>none
 | k + 1,x2,x11,x20,x21,x47,x275000,x275001,x276000,x276001,x277000=>if x47 = true then (impl_carry.l0 k x2 x20 (wrap64 (x21 + 1)) x275000 x275001 x276000 x276001 x277000) else (if 0 ≤ x11 then (if x11 < (x275000.length : Int) then (if rdOf false x275000 x11 = true then ((impl_builder_add.f k x277000 1 0 (⟨#[]⟩ : ByteArray)).bind fun t292=>(impl_carry.l0 k x2 x20 (wrap64 (x21 + 1)) x275000 x275001 x276000 x276001 t292)) else ((impl_builder_add.f k x277000 0 1 (⟨#[]⟩ : ByteArray)).bind fun t295=>(impl_carry.l0 k x2 x20 (wrap64 (x21 + 1)) x275000 x275001 x276000 x276001 t295))) else (none)) else (none))
end
def impl_carry.f (k : Nat) (l0 : List (S74)) (l1 : List (S74)) (a2 : Bool) : Option ((List (S74)) × Bool):=(impl_tell.f k l0).bind fun bt262=>((impl_tell.f k l1).bind fun bt268=>(impl_carry.l0 k a2 (bt262.2.length : Int) 0 bt262.1 bt262.2 bt268.1 bt268.2 ([] : List (S74))))
theorem impl_carry.mono_l : ∀ k,(∀ y0 y1 y2 y3 y4 y5 y6 y7,LeO (impl_carry.l0 k y0 y1 y2 y3 y4 y5 y6 y7) (impl_carry.l0 (k + 1) y0 y1 y2 y3 y4 y5 y6 y7))∧(∀ y0 y1 y2 y3 y4 y5 y6 y7 y8 y9 y10 y11,LeO (impl_carry.j1 k y0 y1 y2 y3 y4 y5 y6 y7 y8 y9 y10 y11) (impl_carry.j1 (k + 1) y0 y1 y2 y3 y4 y5 y6 y7 y8 y9 y10 y11))∧(∀ y0 y1 y2 y3 y4 y5 y6 y7 y8,LeO (impl_carry.j2 k y0 y1 y2 y3 y4 y5 y6 y7 y8) (impl_carry.j2 (k + 1) y0 y1 y2 y3 y4 y5 y6 y7 y8))∧(∀ y0 y1 y2 y3 y4 y5 y6 y7 y8 y9,LeO (impl_carry.j3 k y0 y1 y2 y3 y4 y5 y6 y7 y8 y9) (impl_carry.j3 (k + 1) y0 y1 y2 y3 y4 y5 y6 y7 y8 y9))
 | 0=>⟨fun _ _ _ _ _ _ _ _ r h=>by simp [impl_carry.l0] at h,fun _ _ _ _ _ _ _ _ _ _ _ _ r h=>by simp [impl_carry.j1] at h,fun _ _ _ _ _ _ _ _ _ r h=>by simp [impl_carry.j2] at h,fun _ _ _ _ _ _ _ _ _ _ r h=>by simp [impl_carry.j3] at h⟩
 | k + 1=>by
  obtain ⟨ih0,ih1,ih2,ih3⟩:=impl_carry.mono_l k
  refine ⟨?_,?_,?_,?_⟩
  ·intro y0 y1 y2 y3 y4 y5 y6 y7
   unfold impl_carry.l0
   repeat' first
   | (with_reducible exact ih0 _ _ _ _ _ _ _ _)
   | (with_reducible exact ih1 _ _ _ _ _ _ _ _ _ _ _ _)
   | (with_reducible exact ih2 _ _ _ _ _ _ _ _ _)
   | (with_reducible exact ih3 _ _ _ _ _ _ _ _ _ _)
   | (with_reducible exact impl_GoodChange.mono _ _)
   | (with_reducible exact impl_builder_add.mono _ _ _ _ _)
   | (with_reducible exact impl_tell.mono _ _)
   | (with_reducible exact LeO.refl _)
   | (with_reducible exact LeO.none _)
   | (with_reducible refine LeO.ite ?_ ?_)
   | (with_reducible refine LeO.bind ?_ (fun _=>?_))
   | exact ih0 _ _ _ _ _ _ _ _
   | exact ih1 _ _ _ _ _ _ _ _ _ _ _ _
   | exact ih2 _ _ _ _ _ _ _ _ _
   | exact ih3 _ _ _ _ _ _ _ _ _ _
   | exact impl_GoodChange.mono _ _
   | exact impl_builder_add.mono _ _ _ _ _
   | exact impl_tell.mono _ _
   | exact LeO.none _
   | refine LeO.ite ?_ ?_
   | refine LeO.bind ?_ (fun _=>?_)
  ·intro y0 y1 y2 y3 y4 y5 y6 y7 y8 y9 y10 y11
   unfold impl_carry.j1
   repeat' first
   | (with_reducible exact ih0 _ _ _ _ _ _ _ _)
   | (with_reducible exact ih1 _ _ _ _ _ _ _ _ _ _ _ _)
   | (with_reducible exact ih2 _ _ _ _ _ _ _ _ _)
   | (with_reducible exact ih3 _ _ _ _ _ _ _ _ _ _)
   | (with_reducible exact impl_GoodChange.mono _ _)
   | (with_reducible exact impl_builder_add.mono _ _ _ _ _)
   | (with_reducible exact impl_tell.mono _ _)
   | (with_reducible exact LeO.refl _)
   | (with_reducible exact LeO.none _)
   | (with_reducible refine LeO.ite ?_ ?_)
   | (with_reducible refine LeO.bind ?_ (fun _=>?_))
   | exact ih0 _ _ _ _ _ _ _ _
   | exact ih1 _ _ _ _ _ _ _ _ _ _ _ _
   | exact ih2 _ _ _ _ _ _ _ _ _
   | exact ih3 _ _ _ _ _ _ _ _ _ _
   | exact impl_GoodChange.mono _ _
   | exact impl_builder_add.mono _ _ _ _ _
   | exact impl_tell.mono _ _
   | exact LeO.none _
   | refine LeO.ite ?_ ?_
   | refine LeO.bind ?_ (fun _=>?_)
  ·intro y0 y1 y2 y3 y4 y5 y6 y7 y8
   unfold impl_carry.j2
   repeat' first
   | (with_reducible exact ih0 _ _ _ _ _ _ _ _)
   | (with_reducible exact ih1 _ _ _ _ _ _ _ _ _ _ _ _)
   | (with_reducible exact ih2 _ _ _ _ _ _ _ _ _)
   | (with_reducible exact ih3 _ _ _ _ _ _ _ _ _ _)
   | (with_reducible exact impl_GoodChange.mono _ _)
   | (with_reducible exact impl_builder_add.mono _ _ _ _ _)
   | (with_reducible exact impl_tell.mono _ _)
   | (with_reducible exact LeO.refl _)
   | (with_reducible exact LeO.none _)
   | (with_reducible refine LeO.ite ?_ ?_)
   | (with_reducible refine LeO.bind ?_ (fun _=>?_))
   | exact ih0 _ _ _ _ _ _ _ _
   | exact ih1 _ _ _ _ _ _ _ _ _ _ _ _
   | exact ih2 _ _ _ _ _ _ _ _ _
   | exact ih3 _ _ _ _ _ _ _ _ _ _
   | exact impl_GoodChange.mono _ _
   | exact impl_builder_add.mono _ _ _ _ _
   | exact impl_tell.mono _ _
   | exact LeO.none _
   | refine LeO.ite ?_ ?_
   | refine LeO.bind ?_ (fun _=>?_)
  ·intro y0 y1 y2 y3 y4 y5 y6 y7 y8 y9
   unfold impl_carry.j3
   repeat' first
   | (with_reducible exact ih0 _ _ _ _ _ _ _ _)
   | (with_reducible exact ih1 _ _ _ _ _ _ _ _ _ _ _ _)
   | (with_reducible exact ih2 _ _ _ _ _ _ _ _ _)
   | (with_reducible exact ih3 _ _ _ _ _ _ _ _ _ _)
   | (with_reducible exact impl_GoodChange.mono _ _)
   | (with_reducible exact impl_builder_add.mono _ _ _ _ _)
   | (with_reducible exact impl_tell.mono _ _)
   | (with_reducible exact LeO.refl _)
   | (with_reducible exact LeO.none _)
   | (with_reducible refine LeO.ite ?_ ?_)
   | (with_reducible refine LeO.bind ?_ (fun _=>?_))
   | exact ih0 _ _ _ _ _ _ _ _
   | exact ih1 _ _ _ _ _ _ _ _ _ _ _ _
   | exact ih2 _ _ _ _ _ _ _ _ _
   | exact ih3 _ _ _ _ _ _ _ _ _ _
   | exact impl_GoodChange.mono _ _
   | exact impl_builder_add.mono _ _ _ _ _
   | exact impl_tell.mono _ _
   | exact LeO.none _
   | refine LeO.ite ?_ ?_
   | refine LeO.bind ?_ (fun _=>?_)
theorem impl_carry.mono : ∀ a0 a1 a2 k,LeO (impl_carry.f k a0 a1 a2) (impl_carry.f (k + 1) a0 a1 a2):=by
 intro a0 a1 a2 k
 obtain ⟨ih0,ih1,ih2,ih3⟩:=impl_carry.mono_l k
 unfold impl_carry.f
 repeat' first
   | (with_reducible exact ih0 _ _ _ _ _ _ _ _)
   | (with_reducible exact ih1 _ _ _ _ _ _ _ _ _ _ _ _)
   | (with_reducible exact ih2 _ _ _ _ _ _ _ _ _)
   | (with_reducible exact ih3 _ _ _ _ _ _ _ _ _ _)
   | (with_reducible exact impl_GoodChange.mono _ _)
   | (with_reducible exact impl_builder_add.mono _ _ _ _ _)
   | (with_reducible exact impl_tell.mono _ _)
   | (with_reducible exact LeO.refl _)
   | (with_reducible exact LeO.none _)
   | (with_reducible refine LeO.ite ?_ ?_)
   | (with_reducible refine LeO.bind ?_ (fun _=>?_))
   | exact ih0 _ _ _ _ _ _ _ _
   | exact ih1 _ _ _ _ _ _ _ _ _ _ _ _
   | exact ih2 _ _ _ _ _ _ _ _ _
   | exact ih3 _ _ _ _ _ _ _ _ _ _
   | exact impl_GoodChange.mono _ _
   | exact impl_builder_add.mono _ _ _ _ _
   | exact impl_tell.mono _ _
   | exact LeO.none _
   | refine LeO.ite ?_ ?_
   | refine LeO.bind ?_ (fun _=>?_)
set_option maxHeartbeats 8000000 in
set_option maxRecDepth 100000 in
theorem impl_carry.calls (k : Nat) (A0 : Option Addr) (c0 : Nat) (l0 : List (S74)) (A1 : Option Addr) (c1 : Nat) (l1 : List (S74)) (a2 : Bool) (r1 : List (S74)) (r2 : Bool) (w : World) (hr0 : Kd.C k74 w A0 l0.length l0) (hc0 : l0.length ≤ c0) (hr1 : Kd.C k74 w A1 l1.length l1) (hc1 : l1.length ≤ c1) (h : impl_carry.f k l0 l1 a2 = some (r1,r2)) :
  Calls Try.prog 75 #[.slice A0 l0.length c0,.slice A1 l1.length c1,.bool a2] w fun e w'=>∃ v0_ : Value,e = .returned (.tuple #[v0_,.bool r2])∧Kd.R k74 74 w' w.heap.size (fun _=>True) v0_ r1∧Below w.heap.size w w':=by
 have hu86:=Try.underlying86
 have hu92:=Try.underlying92
 have hu74:=Try.underlying74
 have HR0:=Aside0.mk hr0
 have HC0:=Aside0.mk hc0
 clear hr0 hc0
 have HR1:=Aside0.mk hr1
 have HC1:=Aside0.mk hc1
 clear hr1 hc1
 have HB:=Aside0.mk (Below.refl w.heap.size w)
 have H : ((impl_tell.f k l0).bind fun bt262=>((impl_tell.f k l1).bind fun bt268=>(impl_carry.l0 k a2 (bt262.2.length : Int) 0 bt262.1 bt262.2 bt268.1 bt268.2 ([] : List (S74))))) = some (r1,r2):=h
 clear h
 replace H:=Option.bind_eq_some_iff.mp H
 obtain ⟨⟨t262,t265⟩,A40,H⟩:=H
 replace H : ((impl_tell.f k l1).bind fun bt268=>(impl_carry.l0 k a2 (t265.length : Int) 0 t262 t265 bt268.1 bt268.2 ([] : List (S74)))) = some (r1,r2):=H
 have A4:=Aside0.mk A40
 clear A40
 replace H:=Option.bind_eq_some_iff.mp H
 obtain ⟨⟨t268,t271⟩,A50,H⟩:=H
 replace H : (impl_carry.l0 k a2 (t265.length : Int) 0 t262 t265 t268 t271 ([] : List (S74))) = some (r1,r2):=H
 have A5:=Aside0.mk A50
 clear A50
 have H':=Aside0.mk H
 clear H
 go_enter Try.func75,Try.ntmps75
 go_wp2_with (first|((with_reducible refine gate_callee (f:=68) rfl ?_);refine goesL_ (some 14) rfl rfl Try.func68 (by kernel_rfl) rfl #[.slice A0 l0.length c0] rfl (by (try simp only [List.map_toArray,List.map_cons,List.map_nil]);first|done|rfl|(simp only [List.length_drop,List.length_take];rfl)) ?_;(with_reducible refine (impl_tell.calls k _ _ l0 t262 t265 _ ?side1 ?side2 A4.out).mono ?_);(case side1=>repeat (first|exact HR0.out|(with_reducible first|apply Kd.C_alloc|apply Kd.C_drewN|apply Kd.C_drew)));(case side2=>exact HC0.out);rintro e w6 ⟨v263,v266,rfl,ho0,ho1,hb⟩;refine ⟨_,rfl,?_⟩;have n0_:=Aside0.mk (Kd.R_lower ho0 (below_size (by repeat (first|exact HB.out|apply below_alloc|apply pw_below_drewN|apply below_drew1))));have n1_:=Aside0.mk (Kd.R_lower ho1 (below_size (by repeat (first|exact HB.out|apply below_alloc|apply pw_below_drewN|apply below_drew1))));have n2_:=Aside0.mk (below_step (by repeat (first|exact HB.out|apply below_alloc|apply pw_below_drewN|apply below_drew1)) hb);clear HB;have HO264:=n0_;have HO267:=n1_;have HB:=n2_;clear n0_ n1_ n2_;(try clear hb);(try clear hb2);(try clear hk);(try clear hi);(try clear ho0);(try clear ho1))|((with_reducible refine gate_callee (f:=68) rfl ?_);refine goesL_ (some 16) rfl rfl Try.func68 (by kernel_rfl) rfl #[.slice A1 l1.length c1] rfl (by (try simp only [List.map_toArray,List.map_cons,List.map_nil]);first|done|rfl|(simp only [List.length_drop,List.length_take];rfl)) ?_;(with_reducible refine (impl_tell.calls k _ _ l1 t268 t271 _ ?side1 ?side2 A5.out).mono ?_);(case side1=>repeat (first|exact (Kd.C_below HR1.out HB.out)|(with_reducible first|apply Kd.C_alloc|apply Kd.C_drewN|apply Kd.C_drew)));(case side2=>exact HC1.out);rintro e w7 ⟨v269,v272,rfl,ho0,ho1,hb⟩;refine ⟨_,rfl,?_⟩;have n0_:=Aside0.mk (Kd.R_elder' (by (with_reducible repeat (first|apply Kd.R_alloc|apply Kd.R_drewN|apply Kd.R_drew));exact HO264.out) (Kd.R_base ho0) hb);have n1_:=Aside0.mk (Kd.R_elder' (by (with_reducible repeat (first|apply Kd.R_alloc|apply Kd.R_drewN|apply Kd.R_drew));exact HO267.out) (Kd.R_base ho1) hb);have n2_:=Aside0.mk (Kd.R_lower (Kd.R_new' ho0 (Kd.R_lt (by (with_reducible repeat (first|apply Kd.R_alloc|apply Kd.R_drewN|apply Kd.R_drew));exact HO264.out))) (below_size (by repeat (first|exact HB.out|apply below_alloc|apply pw_below_drewN|apply below_drew1))));have n3_:=Aside0.mk (Kd.R_lower (Kd.R_new' ho1 (Kd.R_lt (by (with_reducible repeat (first|apply Kd.R_alloc|apply Kd.R_drewN|apply Kd.R_drew));exact HO267.out))) (below_size (by repeat (first|exact HB.out|apply below_alloc|apply pw_below_drewN|apply below_drew1))));have n4_:=Aside0.mk (below_step (by repeat (first|exact HB.out|apply below_alloc|apply pw_below_drewN|apply below_drew1)) hb);clear HO264;clear HO267;clear HB;have HO264:=n0_;have HO267:=n1_;have HO270:=n2_;have HO273:=n3_;have HB:=n4_;clear n0_ n1_ n2_ n3_ n4_;(try clear hb);(try clear hb2);(try clear hk);(try clear hi);(try clear ho0);(try clear ho1))|((with_reducible refine gate_dst (N:=8) rfl ?_);refine box_event ?hg (N:=8) ?hd (cs:=#[.slice none 0 0,.slice none 0 0]) (t:=86) ?hr ?_;(case hd=>rfl);(case hg=>rfl);(case hr=>first|(go_simp;done)|(go_simp;rfl));intro gb274 hg w8 hbox hb;have n0_:=Aside0.mk (Kd.R_below (by (with_reducible repeat (first|apply Kd.R_alloc|apply Kd.R_drewN|apply Kd.R_drew));exact HO264.out) hb);have n1_:=Aside0.mk (Kd.R_below (by (with_reducible repeat (first|apply Kd.R_alloc|apply Kd.R_drewN|apply Kd.R_drew));exact HO267.out) hb);have n2_:=Aside0.mk (Kd.R_below (by (with_reducible repeat (first|apply Kd.R_alloc|apply Kd.R_drewN|apply Kd.R_drew));exact HO270.out) hb);have n3_:=Aside0.mk (Kd.R_below (by (with_reducible repeat (first|apply Kd.R_alloc|apply Kd.R_drewN|apply Kd.R_drew));exact HO273.out) hb);have n4_:=Aside0.mk (below_step (by repeat (first|exact HB.out|apply below_alloc|apply pw_below_drewN|apply below_drew1)) hb);have n5_:=Aside0.mk (hbox);have n6_:=Aside0.mk ((by rw [hg];exact (below_size (by repeat (first|exact HB.out|apply below_alloc|apply pw_below_drewN|apply below_drew1))) : w.heap.size ≤ gb274));have n7_:=Aside0.mk ((by rw [hg];exact (below_size (by repeat (first|exact HB.out|apply below_alloc|apply pw_below_drewN|apply below_drew1))) : w.heap.size ≤ gb274));clear HO264;clear HO267;clear HO270;clear HO273;clear HB;have HO264:=n0_;have HO267:=n1_;have HO270:=n2_;have HO273:=n3_;have HB:=n4_;have BK274:=n5_;have GW274:=n6_;have GE274:=n7_;clear n0_ n1_ n2_ n3_ n4_ n5_ n6_ n7_;clear hb hbox hg)|((with_reducible refine gate_dst (N:=9) rfl ?_);refine box_event ?hg (N:=9) ?hd (cs:=#[.slice none 0 0,.slice none 0 0]) (t:=86) ?hr ?_;(case hd=>rfl);(case hg=>rfl);(case hr=>first|(go_simp;done)|(go_simp;rfl));intro gb275 hg w9 hbox hb;have n0_:=Aside0.mk (Kd.R_below (by (with_reducible repeat (first|apply Kd.R_alloc|apply Kd.R_drewN|apply Kd.R_drew));exact HO264.out) hb);have n1_:=Aside0.mk (Kd.R_below (by (with_reducible repeat (first|apply Kd.R_alloc|apply Kd.R_drewN|apply Kd.R_drew));exact HO267.out) hb);have n2_:=Aside0.mk (Kd.R_below (by (with_reducible repeat (first|apply Kd.R_alloc|apply Kd.R_drewN|apply Kd.R_drew));exact HO270.out) hb);have n3_:=Aside0.mk (Kd.R_below (by (with_reducible repeat (first|apply Kd.R_alloc|apply Kd.R_drewN|apply Kd.R_drew));exact HO273.out) hb);have n4_:=Aside0.mk (blk_below (g:=gb274) (o:=.cells #[.slice none 0 0,.slice none 0 0] 86 (0,0)) (by (with_reducible repeat first|apply blk_drewN|apply blk_drew|apply blk_alloc);exact BK274.out) hb);have n5_:=Aside0.mk (below_step (by repeat (first|(with_reducible first|exact HB.out|apply below_alloc|apply pw_below_drewN|apply below_drew1|refine below_set ?_ GE274.out)|exact HB.out)) hb);have n6_:=Aside0.mk (hbox);have n7_:=Aside0.mk ((by rw [hg];exact (below_size (by repeat (first|(with_reducible first|exact HB.out|apply below_alloc|apply pw_below_drewN|apply below_drew1|refine below_set ?_ GE274.out)|exact HB.out))) : w.heap.size ≤ gb275));have n8_:=Aside0.mk ((by rw [hg];exact (below_size (by repeat (first|(with_reducible first|exact HB.out|apply below_alloc|apply pw_below_drewN|apply below_drew1|refine below_set ?_ GE274.out)|exact HB.out))) : w.heap.size ≤ gb275));have n9_:=Aside0.mk ((by rw [hg];exact Nat.ne_of_lt (blk_lt (g:=gb274) (o:=.cells #[.slice none 0 0,.slice none 0 0] 86 (0,0)) (by (with_reducible repeat first|apply blk_drewN|apply blk_drew|apply blk_alloc);exact BK274.out)) : gb274 ≠ gb275));have n10_:=Aside0.mk ((by rw [hg];exact Nat.ne_of_gt (blk_lt (g:=gb274) (o:=.cells #[.slice none 0 0,.slice none 0 0] 86 (0,0)) (by (with_reducible repeat first|apply blk_drewN|apply blk_drew|apply blk_alloc);exact BK274.out)) : gb275 ≠ gb274));clear HO264;clear HO267;clear HO270;clear HO273;clear BK274;clear HB;have HO264:=n0_;have HO267:=n1_;have HO270:=n2_;have HO273:=n3_;have BK274:=n4_;have HB:=n5_;have BK275:=n6_;have GW275:=n7_;have GE275:=n8_;have NB274_275:=n9_;have NB275_274:=n10_;clear n0_ n1_ n2_ n3_ n4_ n5_ n6_ n7_ n8_ n9_ n10_;clear hb hbox hg;obtain ⟨Ao10,co10,eo10⟩:=Kd.R_slice HO264.out;subst eo10;have hnb11:=NB274_275.out;have hnc11:=NB275_274.out;have hcz12_0 : w9.cell? ⟨gb274,0,none⟩ = some (.slice none 0 0):=(blk_cell BK274.out 0).trans rfl;have hcz12_1 : w9.cell? ⟨gb274,1,none⟩ = some (.slice none 0 0):=(blk_cell BK274.out 1).trans rfl;have hfz12_0:=blk_frozen BK274.out 0;have hfz12_1:=blk_frozen BK274.out 1;obtain ⟨Ao13,co13,eo13⟩:=Kd.R_slice HO267.out;subst eo13;obtain ⟨Ao14,co14,eo14⟩:=Kd.R_slice HO270.out;subst eo14;have hcz15_0 : w9.cell? ⟨gb275,0,none⟩ = some (.slice none 0 0):=(blk_cell BK275.out 0).trans rfl;have hcz15_1 : w9.cell? ⟨gb275,1,none⟩ = some (.slice none 0 0):=(blk_cell BK275.out 1).trans rfl;have hfz15_0:=blk_frozen BK275.out 0;have hfz15_1:=blk_frozen BK275.out 1;obtain ⟨Ao16,co16,eo16⟩:=Kd.R_slice HO273.out;subst eo16)|((with_reducible refine gate_dst (N:=10) rfl ?_);refine box_event ?hg (N:=10) ?hd (cs:=#[.slice none 0 0]) (t:=92) ?hr ?_;(case hd=>rfl);(case hg=>rfl);(case hr=>first|(go_simp;done)|(go_simp;rfl));intro gb276 hg w17 hbox hb;have n0_:=Aside0.mk (Kd.R_below (by (with_reducible repeat (first|apply Kd.R_alloc|apply Kd.R_drewN|apply Kd.R_drew));exact (Kd.R_mono (Kd.R_mono (Kd.R_far (p:=⟨gb275,1,none⟩) (Kd.R_far (p:=⟨gb275,0,none⟩) (Kd.R_far (p:=⟨gb274,1,none⟩) (Kd.R_far (p:=⟨gb274,0,none⟩) (Kd.R_types (Kd.R_types HO264.out BK274.out (by decide)) BK275.out (by decide)) (fun _ hk=>hk.1.2) (.slice Ao10 t262.length co10)) (fun _ hk=>hk.1.2) (.slice Ao13 t265.length co13)) (fun _ hk=>hk.2) (.slice Ao14 t268.length co14)) (fun _ hk=>hk.2) (.slice Ao16 t271.length co16)) (fun _ h_=>h_.1)) (fun _ h_=>h_.1))) hb);have n1_:=Aside0.mk (Kd.R_below (by (with_reducible repeat (first|apply Kd.R_alloc|apply Kd.R_drewN|apply Kd.R_drew));exact (Kd.R_mono (Kd.R_mono (Kd.R_far (p:=⟨gb275,1,none⟩) (Kd.R_far (p:=⟨gb275,0,none⟩) (Kd.R_far (p:=⟨gb274,1,none⟩) (Kd.R_far (p:=⟨gb274,0,none⟩) (Kd.R_types (Kd.R_types HO267.out BK274.out (by decide)) BK275.out (by decide)) (fun _ hk=>hk.1.2) (.slice Ao10 t262.length co10)) (fun _ hk=>hk.1.2) (.slice Ao13 t265.length co13)) (fun _ hk=>hk.2) (.slice Ao14 t268.length co14)) (fun _ hk=>hk.2) (.slice Ao16 t271.length co16)) (fun _ h_=>h_.1)) (fun _ h_=>h_.1))) hb);have n2_:=Aside0.mk (Kd.R_below (by (with_reducible repeat (first|apply Kd.R_alloc|apply Kd.R_drewN|apply Kd.R_drew));exact (Kd.R_mono (Kd.R_mono (Kd.R_far (p:=⟨gb275,1,none⟩) (Kd.R_far (p:=⟨gb275,0,none⟩) (Kd.R_far (p:=⟨gb274,1,none⟩) (Kd.R_far (p:=⟨gb274,0,none⟩) (Kd.R_types (Kd.R_types HO270.out BK274.out (by decide)) BK275.out (by decide)) (fun _ hk=>hk.1.2) (.slice Ao10 t262.length co10)) (fun _ hk=>hk.1.2) (.slice Ao13 t265.length co13)) (fun _ hk=>hk.2) (.slice Ao14 t268.length co14)) (fun _ hk=>hk.2) (.slice Ao16 t271.length co16)) (fun _ h_=>h_.1)) (fun _ h_=>h_.1))) hb);have n3_:=Aside0.mk (Kd.R_below (by (with_reducible repeat (first|apply Kd.R_alloc|apply Kd.R_drewN|apply Kd.R_drew));exact (Kd.R_mono (Kd.R_mono (Kd.R_far (p:=⟨gb275,1,none⟩) (Kd.R_far (p:=⟨gb275,0,none⟩) (Kd.R_far (p:=⟨gb274,1,none⟩) (Kd.R_far (p:=⟨gb274,0,none⟩) (Kd.R_types (Kd.R_types HO273.out BK274.out (by decide)) BK275.out (by decide)) (fun _ hk=>hk.1.2) (.slice Ao10 t262.length co10)) (fun _ hk=>hk.1.2) (.slice Ao13 t265.length co13)) (fun _ hk=>hk.2) (.slice Ao14 t268.length co14)) (fun _ hk=>hk.2) (.slice Ao16 t271.length co16)) (fun _ h_=>h_.1)) (fun _ h_=>h_.1))) hb);have n4_:=Aside0.mk (blk_below (g:=gb274) (o:=.cells #[.slice Ao10 t262.length co10,.slice Ao13 t265.length co13] 86 (0,0)) (by (with_reducible repeat first|apply blk_drewN|apply blk_drew|apply blk_alloc);refine blk_far ?_ NB274_275.out _;(with_reducible repeat first|apply blk_drewN|apply blk_drew|apply blk_alloc);refine blk_far ?_ NB274_275.out _;(with_reducible repeat first|apply blk_drewN|apply blk_drew|apply blk_alloc);refine blk_put (cs:=#[.slice Ao10 t262.length co10,.slice none 0 0]) ?_ 1 _ rfl;(with_reducible repeat first|apply blk_drewN|apply blk_drew|apply blk_alloc);refine blk_put (cs:=#[.slice none 0 0,.slice none 0 0]) ?_ 0 _ rfl;(with_reducible repeat first|apply blk_drewN|apply blk_drew|apply blk_alloc);exact BK274.out) hb);have n5_:=Aside0.mk (blk_below (g:=gb275) (o:=.cells #[.slice Ao14 t268.length co14,.slice Ao16 t271.length co16] 86 (0,0)) (by (with_reducible repeat first|apply blk_drewN|apply blk_drew|apply blk_alloc);refine blk_put (cs:=#[.slice Ao14 t268.length co14,.slice none 0 0]) ?_ 1 _ rfl;(with_reducible repeat first|apply blk_drewN|apply blk_drew|apply blk_alloc);refine blk_put (cs:=#[.slice none 0 0,.slice none 0 0]) ?_ 0 _ rfl;(with_reducible repeat first|apply blk_drewN|apply blk_drew|apply blk_alloc);refine blk_far ?_ NB275_274.out _;(with_reducible repeat first|apply blk_drewN|apply blk_drew|apply blk_alloc);refine blk_far ?_ NB275_274.out _;(with_reducible repeat first|apply blk_drewN|apply blk_drew|apply blk_alloc);exact BK275.out) hb);have n6_:=Aside0.mk (below_step (by repeat (first|(with_reducible first|exact HB.out|apply below_alloc|apply pw_below_drewN|apply below_drew1|refine below_set ?_ GE274.out|refine below_set ?_ GE275.out)|exact HB.out)) hb);have n7_:=Aside0.mk (hbox);have n8_:=Aside0.mk ((by rw [hg];exact (below_size (by repeat (first|(with_reducible first|exact HB.out|apply below_alloc|apply pw_below_drewN|apply below_drew1|refine below_set ?_ GE274.out|refine below_set ?_ GE275.out)|exact HB.out))) : w.heap.size ≤ gb276));have n9_:=Aside0.mk ((by rw [hg];exact (below_size (by repeat (first|(with_reducible first|exact HB.out|apply below_alloc|apply pw_below_drewN|apply below_drew1|refine below_set ?_ GE274.out|refine below_set ?_ GE275.out)|exact HB.out))) : w.heap.size ≤ gb276));have n10_:=Aside0.mk ((by rw [hg];exact Nat.ne_of_lt (blk_lt (g:=gb274) (o:=.cells #[.slice Ao10 t262.length co10,.slice Ao13 t265.length co13] 86 (0,0)) (by (with_reducible repeat first|apply blk_drewN|apply blk_drew|apply blk_alloc);refine blk_far ?_ NB274_275.out _;(with_reducible repeat first|apply blk_drewN|apply blk_drew|apply blk_alloc);refine blk_far ?_ NB274_275.out _;(with_reducible repeat first|apply blk_drewN|apply blk_drew|apply blk_alloc);refine blk_put (cs:=#[.slice Ao10 t262.length co10,.slice none 0 0]) ?_ 1 _ rfl;(with_reducible repeat first|apply blk_drewN|apply blk_drew|apply blk_alloc);refine blk_put (cs:=#[.slice none 0 0,.slice none 0 0]) ?_ 0 _ rfl;(with_reducible repeat first|apply blk_drewN|apply blk_drew|apply blk_alloc);exact BK274.out)) : gb274 ≠ gb276));have n11_:=Aside0.mk ((by rw [hg];exact Nat.ne_of_gt (blk_lt (g:=gb274) (o:=.cells #[.slice Ao10 t262.length co10,.slice Ao13 t265.length co13] 86 (0,0)) (by (with_reducible repeat first|apply blk_drewN|apply blk_drew|apply blk_alloc);refine blk_far ?_ NB274_275.out _;(with_reducible repeat first|apply blk_drewN|apply blk_drew|apply blk_alloc);refine blk_far ?_ NB274_275.out _;(with_reducible repeat first|apply blk_drewN|apply blk_drew|apply blk_alloc);refine blk_put (cs:=#[.slice Ao10 t262.length co10,.slice none 0 0]) ?_ 1 _ rfl;(with_reducible repeat first|apply blk_drewN|apply blk_drew|apply blk_alloc);refine blk_put (cs:=#[.slice none 0 0,.slice none 0 0]) ?_ 0 _ rfl;(with_reducible repeat first|apply blk_drewN|apply blk_drew|apply blk_alloc);exact BK274.out)) : gb276 ≠ gb274));have n12_:=Aside0.mk ((by rw [hg];exact Nat.ne_of_lt (blk_lt (g:=gb275) (o:=.cells #[.slice Ao14 t268.length co14,.slice Ao16 t271.length co16] 86 (0,0)) (by (with_reducible repeat first|apply blk_drewN|apply blk_drew|apply blk_alloc);refine blk_put (cs:=#[.slice Ao14 t268.length co14,.slice none 0 0]) ?_ 1 _ rfl;(with_reducible repeat first|apply blk_drewN|apply blk_drew|apply blk_alloc);refine blk_put (cs:=#[.slice none 0 0,.slice none 0 0]) ?_ 0 _ rfl;(with_reducible repeat first|apply blk_drewN|apply blk_drew|apply blk_alloc);refine blk_far ?_ NB275_274.out _;(with_reducible repeat first|apply blk_drewN|apply blk_drew|apply blk_alloc);refine blk_far ?_ NB275_274.out _;(with_reducible repeat first|apply blk_drewN|apply blk_drew|apply blk_alloc);exact BK275.out)) : gb275 ≠ gb276));have n13_:=Aside0.mk ((by rw [hg];exact Nat.ne_of_gt (blk_lt (g:=gb275) (o:=.cells #[.slice Ao14 t268.length co14,.slice Ao16 t271.length co16] 86 (0,0)) (by (with_reducible repeat first|apply blk_drewN|apply blk_drew|apply blk_alloc);refine blk_put (cs:=#[.slice Ao14 t268.length co14,.slice none 0 0]) ?_ 1 _ rfl;(with_reducible repeat first|apply blk_drewN|apply blk_drew|apply blk_alloc);refine blk_put (cs:=#[.slice none 0 0,.slice none 0 0]) ?_ 0 _ rfl;(with_reducible repeat first|apply blk_drewN|apply blk_drew|apply blk_alloc);refine blk_far ?_ NB275_274.out _;(with_reducible repeat first|apply blk_drewN|apply blk_drew|apply blk_alloc);refine blk_far ?_ NB275_274.out _;(with_reducible repeat first|apply blk_drewN|apply blk_drew|apply blk_alloc);exact BK275.out)) : gb276 ≠ gb275));clear HO264;clear HO267;clear HO270;clear HO273;clear BK274;clear BK275;clear HB;have HO264:=n0_;have HO267:=n1_;have HO270:=n2_;have HO273:=n3_;have BK274:=n4_;have BK275:=n5_;have HB:=n6_;have BK276:=n7_;have GW276:=n8_;have GE276:=n9_;have NB274_276:=n10_;have NB276_274:=n11_;have NB275_276:=n12_;have NB276_275:=n13_;clear n0_ n1_ n2_ n3_ n4_ n5_ n6_ n7_ n8_ n9_ n10_ n11_ n12_ n13_;clear hb hbox hg;have hnb18:=NB276_274.out;have hnc18:=NB274_276.out;have hnb19:=NB276_275.out;have hnc19:=NB275_276.out;have hcz20_0 : w17.cell? ⟨gb276,0,none⟩ = some (.slice none 0 0):=(blk_cell BK276.out 0).trans rfl;have hfz20_0:=blk_frozen BK276.out 0;have hcz21_0 : w17.cell? ⟨gb274,0,none⟩ = some (.slice Ao10 t262.length co10):=(blk_cell BK274.out 0).trans rfl;have hcz21_1 : w17.cell? ⟨gb274,1,none⟩ = some (.slice Ao13 t265.length co13):=(blk_cell BK274.out 1).trans rfl;have hfz21_0:=blk_frozen BK274.out 0;have hfz21_1:=blk_frozen BK274.out 1))
 go_loopg [21] k (fun kq v21 w'=>∃ (x21_1 : Int) (x277000_1 : List (S74)) (u277000 : Value),v21 = .int .i64 x21_1∧Aside0 (impl_carry.l0 kq a2 (t265.length : Int) x21_1 t262 t265 t268 t271 x277000_1 = some (r1,r2))∧Aside0 (kq ≤ k)∧Aside0 (Kd.R Kd.bool 4 w' w.heap.size (fun k_=>some k_ ≠ ((.slice Ao14 t268.length co14) : Value).ownBlock) (.slice Ao10 t262.length co10) t262)∧Aside0 (Kd.R Kd.string 9 w' w.heap.size (fun k_=>some k_ ≠ ((.slice Ao16 t271.length co16) : Value).ownBlock) (.slice Ao13 t265.length co13) t265)∧Aside0 (Kd.R Kd.bool 4 w' w.heap.size (fun k_=>some k_ ≠ ((.slice Ao10 t262.length co10) : Value).ownBlock) (.slice Ao14 t268.length co14) t268)∧Aside0 (Kd.R Kd.string 9 w' w.heap.size (fun k_=>some k_ ≠ ((.slice Ao13 t265.length co13) : Value).ownBlock) (.slice Ao16 t271.length co16) t271)∧Aside0 (Kd.R k74 74 w' w.heap.size (fun _=>True) u277000 x277000_1)∧Aside0 (w'.heap[gb274]? = some (.cells #[(.slice Ao10 t262.length co10),(.slice Ao13 t265.length co13)] 86 (0,0)))∧Aside0 (w'.heap[gb275]? = some (.cells #[(.slice Ao14 t268.length co14),(.slice Ao16 t271.length co16)] 86 (0,0)))∧Aside0 (w'.heap[gb276]? = some (.cells #[u277000] 92 (0,0)))∧Aside0 (Below w.heap.size w w'))
 case atStart=>exact ⟨(0),(([] : List (S74))),(.slice none 0 0),(by first|rfl|(simp;done)|(simp [*];done)),H',⟨Nat.le_refl _⟩,⟨by (with_reducible repeat (first|apply Kd.R_alloc|apply Kd.R_drewN|apply Kd.R_drew));exact Kd.R_mono (Kd.R_far (p:=⟨gb276,0,none⟩) (Kd.R_types HO264.out BK276.out (by decide)) (fun _ hk=>hk.2) (.slice none 0 0)) (fun _ hk=>hk.1.2)⟩,⟨by (with_reducible repeat (first|apply Kd.R_alloc|apply Kd.R_drewN|apply Kd.R_drew));exact Kd.R_mono (Kd.R_far (p:=⟨gb276,0,none⟩) (Kd.R_types HO267.out BK276.out (by decide)) (fun _ hk=>hk.2) (.slice none 0 0)) (fun _ hk=>hk.1.2)⟩,⟨by (with_reducible repeat (first|apply Kd.R_alloc|apply Kd.R_drewN|apply Kd.R_drew));exact Kd.R_mono (Kd.R_far (p:=⟨gb276,0,none⟩) (Kd.R_types HO270.out BK276.out (by decide)) (fun _ hk=>hk.2) (.slice none 0 0)) (fun _ hk=>hk.1.2)⟩,⟨by (with_reducible repeat (first|apply Kd.R_alloc|apply Kd.R_drewN|apply Kd.R_drew));exact Kd.R_mono (Kd.R_far (p:=⟨gb276,0,none⟩) (Kd.R_types HO273.out BK276.out (by decide)) (fun _ hk=>hk.2) (.slice none 0 0)) (fun _ hk=>hk.1.2)⟩,⟨by first|exact Kd.R_nil _ _ _ _ _|exact Kd.N_nil _ _ _ _ _|exact Kd.V_nil _ _ _ _ _|exact Kd.Q_nil _ _ _ _ _|exact Kd.S_nil _ _ _ _ _⟩,⟨by (with_reducible repeat first|apply blk_drewN|apply blk_drew|apply blk_alloc);refine blk_far ?_ NB274_276.out _;(with_reducible repeat first|apply blk_drewN|apply blk_drew|apply blk_alloc);exact BK274.out⟩,⟨by (with_reducible repeat first|apply blk_drewN|apply blk_drew|apply blk_alloc);refine blk_far ?_ NB275_276.out _;(with_reducible repeat first|apply blk_drewN|apply blk_drew|apply blk_alloc);exact BK275.out⟩,⟨by (with_reducible repeat first|apply blk_drewN|apply blk_drew|apply blk_alloc);refine blk_put (cs:=#[.slice none 0 0]) ?_ 0 _ rfl;(with_reducible repeat first|apply blk_drewN|apply blk_drew|apply blk_alloc);exact BK276.out⟩,⟨by repeat (first|(with_reducible first|exact HB.out|apply below_alloc|apply pw_below_drewN|apply below_drew1|refine below_set ?_ GE274.out|refine below_set ?_ GE275.out|refine below_set ?_ GE276.out)|exact HB.out)⟩⟩
 case round =>
  clear H'
  try clear c1;try clear p2;try clear c6;try clear c7;try clear c11;try clear c18;try clear c19;try clear hcz12_0;try clear hcz12_1;try clear hcz15_0;try clear hcz15_1;try clear hcz20_0;try clear hcz21_0;try clear hcz21_1;try clear hfz12_0;try clear hfz12_1;try clear hfz15_0;try clear hfz15_1;try clear hfz20_0;try clear hfz21_0;try clear hfz21_1
  obtain ⟨x21_1,x277000_1,u277000,rfl,HA,HK1,HO_275000,HO_275001,HO_276000,HO_276001,HO_277000,BK274,BK275,BK276,HB⟩:=hrel
  cases gk with
  | zero=>exact absurd HA.out (by simp [impl_carry.l0])
  | succ k1 =>
   have H:=HA.out
   clear HA
   simp only [impl_carry.l0] at H
   by_cases c22 : x21_1 < (t265.length : Int)
   ·rw [if_pos c22] at H
    have c22b0 : decide (x21_1 < (t265.length : Int)) = true:=decide_eq_true c22
    clear c22
    by_cases c23 : 0 ≤ x21_1
    ·rw [if_pos c23] at H
     have c23b0 : decide (0 ≤ x21_1) = true:=decide_eq_true c23
     clear c23
     by_cases c24 : x21_1 < (t265.length : Int)
     ·rw [if_pos c24] at H
      have c24b0 : decide (x21_1 < (t265.length : Int)) = true:=decide_eq_true c24
      clear c24
      have HC25:=Aside0.mk H
      clear H
      have hnb26:=NB274_275.out
      have hnc26:=NB275_274.out
      have hnb27:=NB274_276.out
      have hnc27:=NB276_274.out
      have hcz28_0 : wr.cell? ⟨gb274,0,none⟩ = some (.slice Ao10 t262.length co10):=(blk_cell BK274.out 0).trans rfl
      have hcz28_1 : wr.cell? ⟨gb274,1,none⟩ = some (.slice Ao13 t265.length co13):=(blk_cell BK274.out 1).trans rfl
      have hfz28_0:=blk_frozen BK274.out 0
      have hfz28_1:=blk_frozen BK274.out 1
      have p278 : 0 ≤ (x21_1 : Int):=of_decide_eq_true (by assumption)
      have q278 : x21_1 < (t265.length : Int):=of_decide_eq_true (by assumption)
      obtain ⟨ad278,e278,hx278_0⟩:=Kd.at_string (Kd.R_reads' HO_275001.out).2.2 x21_1 p278 q278
      cases e278
      replace p278:=eq_true p278
      replace q278:=eq_true q278
      go_upto_if 30 with (first|((with_reducible refine gate_dst (N:=12) rfl ?_);refine box_event ?hg (N:=12) ?hd (cs:=#[.int .i64 0,.int .i64 0,.string (⟨#[]⟩ : ByteArray)]) (t:=74) ?hr ?_;(case hd=>rfl);(case hg=>rfl);(case hr=>first|(go_simp;done)|(go_simp;rfl));intro gb279 hg w29 hbox hb;have n0_:=Aside0.mk (Kd.R_below (by (with_reducible repeat (first|apply Kd.R_alloc|apply Kd.R_drewN|apply Kd.R_drew));exact HO_275000.out) hb);have n1_:=Aside0.mk (Kd.R_below (by (with_reducible repeat (first|apply Kd.R_alloc|apply Kd.R_drewN|apply Kd.R_drew));exact HO_275001.out) hb);have n2_:=Aside0.mk (Kd.R_below (by (with_reducible repeat (first|apply Kd.R_alloc|apply Kd.R_drewN|apply Kd.R_drew));exact HO_276000.out) hb);have n3_:=Aside0.mk (Kd.R_below (by (with_reducible repeat (first|apply Kd.R_alloc|apply Kd.R_drewN|apply Kd.R_drew));exact HO_276001.out) hb);have n4_:=Aside0.mk (Kd.R_below (Kd.R_elderB (by (with_reducible repeat (first|apply Kd.R_alloc|apply Kd.R_drewN|apply Kd.R_drew));exact HO_277000.out) gb279 (Nat.le_of_eq hg.symm)) hb);have n5_:=Aside0.mk (blk_below (g:=gb274) (o:=.cells #[.slice Ao10 t262.length co10,.slice (some ad278) t265.length co13] 86 (0,0)) (by (with_reducible repeat first|apply blk_drewN|apply blk_drew|apply blk_alloc);exact BK274.out) hb);have n6_:=Aside0.mk (blk_below (g:=gb275) (o:=.cells #[.slice Ao14 t268.length co14,.slice Ao16 t271.length co16] 86 (0,0)) (by (with_reducible repeat first|apply blk_drewN|apply blk_drew|apply blk_alloc);exact BK275.out) hb);have n7_:=Aside0.mk (blk_below (g:=gb276) (o:=.cells #[u277000] 92 (0,0)) (by (with_reducible repeat first|apply blk_drewN|apply blk_drew|apply blk_alloc);exact BK276.out) hb);have n8_:=Aside0.mk (below_step (by repeat (first|(with_reducible first|exact HB.out|apply below_alloc|apply pw_below_drewN|apply below_drew1|refine below_set ?_ GE274.out|refine below_set ?_ GE275.out|refine below_set ?_ GE276.out)|exact HB.out)) hb);have n9_:=Aside0.mk (hbox);have n10_:=Aside0.mk ((by rw [hg];exact (below_size (by repeat (first|(with_reducible first|exact HB.out|apply below_alloc|apply pw_below_drewN|apply below_drew1|refine below_set ?_ GE274.out|refine below_set ?_ GE275.out|refine below_set ?_ GE276.out)|exact HB.out))) : w.heap.size ≤ gb279));have n11_:=Aside0.mk ((by rw [hg];exact (below_size (by repeat (first|(with_reducible first|exact HB.out|apply below_alloc|apply pw_below_drewN|apply below_drew1|refine below_set ?_ GE274.out|refine below_set ?_ GE275.out|refine below_set ?_ GE276.out)|exact HB.out))) : w.heap.size ≤ gb279));have n12_:=Aside0.mk ((by rw [hg];exact Nat.ne_of_lt (blk_lt (g:=gb274) (o:=.cells #[.slice Ao10 t262.length co10,.slice (some ad278) t265.length co13] 86 (0,0)) (by (with_reducible repeat first|apply blk_drewN|apply blk_drew|apply blk_alloc);exact BK274.out)) : gb274 ≠ gb279));have n13_:=Aside0.mk ((by rw [hg];exact Nat.ne_of_gt (blk_lt (g:=gb274) (o:=.cells #[.slice Ao10 t262.length co10,.slice (some ad278) t265.length co13] 86 (0,0)) (by (with_reducible repeat first|apply blk_drewN|apply blk_drew|apply blk_alloc);exact BK274.out)) : gb279 ≠ gb274));have n14_:=Aside0.mk ((by rw [hg];exact Nat.ne_of_lt (blk_lt (g:=gb275) (o:=.cells #[.slice Ao14 t268.length co14,.slice Ao16 t271.length co16] 86 (0,0)) (by (with_reducible repeat first|apply blk_drewN|apply blk_drew|apply blk_alloc);exact BK275.out)) : gb275 ≠ gb279));have n15_:=Aside0.mk ((by rw [hg];exact Nat.ne_of_gt (blk_lt (g:=gb275) (o:=.cells #[.slice Ao14 t268.length co14,.slice Ao16 t271.length co16] 86 (0,0)) (by (with_reducible repeat first|apply blk_drewN|apply blk_drew|apply blk_alloc);exact BK275.out)) : gb279 ≠ gb275));have n16_:=Aside0.mk ((by rw [hg];exact Nat.ne_of_lt (blk_lt (g:=gb276) (o:=.cells #[u277000] 92 (0,0)) (by (with_reducible repeat first|apply blk_drewN|apply blk_drew|apply blk_alloc);exact BK276.out)) : gb276 ≠ gb279));have n17_:=Aside0.mk ((by rw [hg];exact Nat.ne_of_gt (blk_lt (g:=gb276) (o:=.cells #[u277000] 92 (0,0)) (by (with_reducible repeat first|apply blk_drewN|apply blk_drew|apply blk_alloc);exact BK276.out)) : gb279 ≠ gb276));clear HO_275000;clear HO_275001;clear HO_276000;clear HO_276001;clear HO_277000;clear BK274;clear BK275;clear BK276;clear HB;have HO_275000:=n0_;have HO_275001:=n1_;have HO_276000:=n2_;have HO_276001:=n3_;have HO_277000:=n4_;have BK274:=n5_;have BK275:=n6_;have BK276:=n7_;have HB:=n8_;have BK279:=n9_;have GW279:=n10_;have GE279:=n11_;have NB274_279:=n12_;have NB279_274:=n13_;have NB275_279:=n14_;have NB279_275:=n15_;have NB276_279:=n16_;have NB279_276:=n17_;clear n0_ n1_ n2_ n3_ n4_ n5_ n6_ n7_ n8_ n9_ n10_ n11_ n12_ n13_ n14_ n15_ n16_ n17_;clear hb hbox hg;have hnb30:=NB279_274.out;have hnc30:=NB274_279.out;have hnb31:=NB279_275.out;have hnc31:=NB275_279.out;have hnb32:=NB279_276.out;have hnc32:=NB276_279.out;have hcz33_0 : w29.cell? ⟨gb279,0,none⟩ = some (.int .i64 0):=(blk_cell BK279.out 0).trans rfl;have hcz33_1 : w29.cell? ⟨gb279,1,none⟩ = some (.int .i64 0):=(blk_cell BK279.out 1).trans rfl;have hcz33_2 : w29.cell? ⟨gb279,2,none⟩ = some (.string (⟨#[]⟩ : ByteArray)):=(blk_cell BK279.out 2).trans rfl;have hfz33_0:=blk_frozen BK279.out 0;have hfz33_1:=blk_frozen BK279.out 1;have hfz33_2:=blk_frozen BK279.out 2))
      (try simp only [Act.put,List.setIfInBounds_toArray,List.set_cons_zero,List.set_cons_succ])
      go_cut [] (fun wc=>∃ (kq : Nat) (x277000_24 : List (S74)) (u277000 : Value),Aside0 (impl_carry.j1 kq a2 x21_1 (t265.length : Int) x21_1 t262 t265 t268 t271 x277000_24 0 0 (rdOf ByteArray.empty t265 x21_1) = some (r1,r2))∧Aside0 (kq ≤ k1)∧Aside0 (Kd.R Kd.bool 4 wc w.heap.size (fun k_=>some k_ ≠ ((.slice Ao14 t268.length co14) : Value).ownBlock) (.slice Ao10 t262.length co10) t262)∧Aside0 (Kd.R Kd.string 9 wc w.heap.size (fun k_=>some k_ ≠ ((.slice Ao16 t271.length co16) : Value).ownBlock) (.slice (some ad278) t265.length co13) t265)∧Aside0 (Kd.R Kd.bool 4 wc w.heap.size (fun k_=>some k_ ≠ ((.slice Ao10 t262.length co10) : Value).ownBlock) (.slice Ao14 t268.length co14) t268)∧Aside0 (Kd.R Kd.string 9 wc w.heap.size (fun k_=>some k_ ≠ ((.slice (some ad278) t265.length co13) : Value).ownBlock) (.slice Ao16 t271.length co16) t271)∧Aside0 (Kd.R k74 74 wc w.heap.size (fun k_=>k_ ≠ gb279) u277000 x277000_24)∧Aside0 (wc.heap[gb274]? = some (.cells #[(.slice Ao10 t262.length co10),(.slice (some ad278) t265.length co13)] 86 (0,0)))∧Aside0 (wc.heap[gb275]? = some (.cells #[(.slice Ao14 t268.length co14),(.slice Ao16 t271.length co16)] 86 (0,0)))∧Aside0 (wc.heap[gb276]? = some (.cells #[u277000] 92 (0,0)))∧Aside0 (wc.heap[gb279]? = some (.cells #[.int .i64 0,.int .i64 0,.string (rdOf ByteArray.empty t265 x21_1)] 74 (0,0)))∧Aside0 (Below w.heap.size w wc))
      case first =>
       have H:=HC25.out
       clear HC25
       by_cases c34 : a2 = true
       ·subst c34
        have H1 : ((impl_builder_add.f k1 x277000_1 0 0 (rdOf ByteArray.empty t265 x21_1)).bind fun t280=>(impl_carry.j1 k1 true x21_1 (t265.length : Int) x21_1 t262 t265 t268 t271 t280 0 0 (rdOf ByteArray.empty t265 x21_1))) = some (r1,r2):=by rw [if_pos rfl] at H;exact H
        clear H
        have H:=H1
        clear H1
        replace H:=Option.bind_eq_some_iff.mp H
        obtain ⟨t280,A350,H⟩:=H
        replace H : (impl_carry.j1 k1 true x21_1 (t265.length : Int) x21_1 t262 t265 t268 t271 t280 0 0 (rdOf ByteArray.empty t265 x21_1)) = some (r1,r2):=H
        have A35:=Aside0.mk A350
        clear A350
        have H':=Aside0.mk H
        clear H
        have n0_ : Aside0 (Kd.R Kd.bool 4 (((w29.setCell ⟨gb279,0,none⟩ (.int .i64 0)).setCell ⟨gb279,1,none⟩ (.int .i64 0)).setCell ⟨gb279,2,none⟩ (.string (rdOf ByteArray.empty t265 x21_1))) w.heap.size (fun k_=>some k_ ≠ (.slice Ao14 t268.length co14 : Value).ownBlock) (.slice Ao10 t262.length co10) t262):=⟨by (with_reducible repeat (first|apply Kd.R_alloc|apply Kd.R_drewN|apply Kd.R_drew));exact Kd.R_mono (Kd.R_far (p:=⟨gb279,2,none⟩) (Kd.R_far (p:=⟨gb279,1,none⟩) (Kd.R_far (p:=⟨gb279,0,none⟩) (Kd.R_types HO_275000.out BK279.out (by decide)) (fun _ hk=>hk.2) (.int .i64 0)) (fun _ hk=>hk.2) (.int .i64 0)) (fun _ hk=>hk.2) (.string (rdOf ByteArray.empty t265 x21_1))) (fun _ hk=>hk.1)⟩
        have n1_ : Aside0 (Kd.R Kd.string 9 (((w29.setCell ⟨gb279,0,none⟩ (.int .i64 0)).setCell ⟨gb279,1,none⟩ (.int .i64 0)).setCell ⟨gb279,2,none⟩ (.string (rdOf ByteArray.empty t265 x21_1))) w.heap.size (fun k_=>some k_ ≠ (.slice Ao16 t271.length co16 : Value).ownBlock) (.slice (some ad278) t265.length co13) t265):=⟨by (with_reducible repeat (first|apply Kd.R_alloc|apply Kd.R_drewN|apply Kd.R_drew));exact Kd.R_mono (Kd.R_far (p:=⟨gb279,2,none⟩) (Kd.R_far (p:=⟨gb279,1,none⟩) (Kd.R_far (p:=⟨gb279,0,none⟩) (Kd.R_types HO_275001.out BK279.out (by decide)) (fun _ hk=>hk.2) (.int .i64 0)) (fun _ hk=>hk.2) (.int .i64 0)) (fun _ hk=>hk.2) (.string (rdOf ByteArray.empty t265 x21_1))) (fun _ hk=>hk.1)⟩
        have n2_ : Aside0 (Kd.R Kd.bool 4 (((w29.setCell ⟨gb279,0,none⟩ (.int .i64 0)).setCell ⟨gb279,1,none⟩ (.int .i64 0)).setCell ⟨gb279,2,none⟩ (.string (rdOf ByteArray.empty t265 x21_1))) w.heap.size (fun k_=>some k_ ≠ (.slice Ao10 t262.length co10 : Value).ownBlock) (.slice Ao14 t268.length co14) t268):=⟨by (with_reducible repeat (first|apply Kd.R_alloc|apply Kd.R_drewN|apply Kd.R_drew));exact Kd.R_mono (Kd.R_far (p:=⟨gb279,2,none⟩) (Kd.R_far (p:=⟨gb279,1,none⟩) (Kd.R_far (p:=⟨gb279,0,none⟩) (Kd.R_types HO_276000.out BK279.out (by decide)) (fun _ hk=>hk.2) (.int .i64 0)) (fun _ hk=>hk.2) (.int .i64 0)) (fun _ hk=>hk.2) (.string (rdOf ByteArray.empty t265 x21_1))) (fun _ hk=>hk.1)⟩
        have n3_ : Aside0 (Kd.R Kd.string 9 (((w29.setCell ⟨gb279,0,none⟩ (.int .i64 0)).setCell ⟨gb279,1,none⟩ (.int .i64 0)).setCell ⟨gb279,2,none⟩ (.string (rdOf ByteArray.empty t265 x21_1))) w.heap.size (fun k_=>some k_ ≠ (.slice (some ad278) t265.length co13 : Value).ownBlock) (.slice Ao16 t271.length co16) t271):=⟨by (with_reducible repeat (first|apply Kd.R_alloc|apply Kd.R_drewN|apply Kd.R_drew));exact Kd.R_mono (Kd.R_far (p:=⟨gb279,2,none⟩) (Kd.R_far (p:=⟨gb279,1,none⟩) (Kd.R_far (p:=⟨gb279,0,none⟩) (Kd.R_types HO_276001.out BK279.out (by decide)) (fun _ hk=>hk.2) (.int .i64 0)) (fun _ hk=>hk.2) (.int .i64 0)) (fun _ hk=>hk.2) (.string (rdOf ByteArray.empty t265 x21_1))) (fun _ hk=>hk.1)⟩
        have n4_ : Aside0 (Kd.R k74 74 (((w29.setCell ⟨gb279,0,none⟩ (.int .i64 0)).setCell ⟨gb279,1,none⟩ (.int .i64 0)).setCell ⟨gb279,2,none⟩ (.string (rdOf ByteArray.empty t265 x21_1))) w.heap.size (fun k_=>k_ ≠ gb279) u277000 x277000_1):=⟨by (with_reducible repeat (first|apply Kd.R_alloc|apply Kd.R_drewN|apply Kd.R_drew));exact Kd.R_mono (Kd.R_far (p:=⟨gb279,2,none⟩) (Kd.R_far (p:=⟨gb279,1,none⟩) (Kd.R_far (p:=⟨gb279,0,none⟩) (Kd.R_mono HO_277000.out (fun k_ hk=>(⟨hk,hk.2⟩ : _∧k_ ≠ gb279))) (fun _ hk=>hk.2) (.int .i64 0)) (fun _ hk=>hk.2) (.int .i64 0)) (fun _ hk=>hk.2) (.string (rdOf ByteArray.empty t265 x21_1))) (fun _ hk=>hk.1.2)⟩
        have n5_ : Aside0 ((((w29.setCell ⟨gb279,0,none⟩ (.int .i64 0)).setCell ⟨gb279,1,none⟩ (.int .i64 0)).setCell ⟨gb279,2,none⟩ (.string (rdOf ByteArray.empty t265 x21_1))).heap[gb274]? = some (.cells #[.slice Ao10 t262.length co10,.slice (some ad278) t265.length co13] 86 (0,0))):=⟨by (with_reducible repeat first|apply blk_drewN|apply blk_drew|apply blk_alloc);refine blk_far ?_ NB274_279.out _;(with_reducible repeat first|apply blk_drewN|apply blk_drew|apply blk_alloc);refine blk_far ?_ NB274_279.out _;(with_reducible repeat first|apply blk_drewN|apply blk_drew|apply blk_alloc);refine blk_far ?_ NB274_279.out _;(with_reducible repeat first|apply blk_drewN|apply blk_drew|apply blk_alloc);exact BK274.out⟩
        have n6_ : Aside0 ((((w29.setCell ⟨gb279,0,none⟩ (.int .i64 0)).setCell ⟨gb279,1,none⟩ (.int .i64 0)).setCell ⟨gb279,2,none⟩ (.string (rdOf ByteArray.empty t265 x21_1))).heap[gb275]? = some (.cells #[.slice Ao14 t268.length co14,.slice Ao16 t271.length co16] 86 (0,0))):=⟨by (with_reducible repeat first|apply blk_drewN|apply blk_drew|apply blk_alloc);refine blk_far ?_ NB275_279.out _;(with_reducible repeat first|apply blk_drewN|apply blk_drew|apply blk_alloc);refine blk_far ?_ NB275_279.out _;(with_reducible repeat first|apply blk_drewN|apply blk_drew|apply blk_alloc);refine blk_far ?_ NB275_279.out _;(with_reducible repeat first|apply blk_drewN|apply blk_drew|apply blk_alloc);exact BK275.out⟩
        have n7_ : Aside0 ((((w29.setCell ⟨gb279,0,none⟩ (.int .i64 0)).setCell ⟨gb279,1,none⟩ (.int .i64 0)).setCell ⟨gb279,2,none⟩ (.string (rdOf ByteArray.empty t265 x21_1))).heap[gb276]? = some (.cells #[u277000] 92 (0,0))):=⟨by (with_reducible repeat first|apply blk_drewN|apply blk_drew|apply blk_alloc);refine blk_far ?_ NB276_279.out _;(with_reducible repeat first|apply blk_drewN|apply blk_drew|apply blk_alloc);refine blk_far ?_ NB276_279.out _;(with_reducible repeat first|apply blk_drewN|apply blk_drew|apply blk_alloc);refine blk_far ?_ NB276_279.out _;(with_reducible repeat first|apply blk_drewN|apply blk_drew|apply blk_alloc);exact BK276.out⟩
        have n8_ : Aside0 ((((w29.setCell ⟨gb279,0,none⟩ (.int .i64 0)).setCell ⟨gb279,1,none⟩ (.int .i64 0)).setCell ⟨gb279,2,none⟩ (.string (rdOf ByteArray.empty t265 x21_1))).heap[gb279]? = some (.cells #[.int .i64 0,.int .i64 0,.string (rdOf ByteArray.empty t265 x21_1)] 74 (0,0))):=⟨by (with_reducible repeat first|apply blk_drewN|apply blk_drew|apply blk_alloc);refine blk_put (cs:=#[.int .i64 0,.int .i64 0,.string (⟨#[]⟩ : ByteArray)]) ?_ 2 _ rfl;(with_reducible repeat first|apply blk_drewN|apply blk_drew|apply blk_alloc);refine blk_put (cs:=#[.int .i64 0,.int .i64 0,.string (⟨#[]⟩ : ByteArray)]) ?_ 1 _ rfl;(with_reducible repeat first|apply blk_drewN|apply blk_drew|apply blk_alloc);refine blk_put (cs:=#[.int .i64 0,.int .i64 0,.string (⟨#[]⟩ : ByteArray)]) ?_ 0 _ rfl;(with_reducible repeat first|apply blk_drewN|apply blk_drew|apply blk_alloc);exact BK279.out⟩
        have n9_ : Aside0 (Below w.heap.size w (((w29.setCell ⟨gb279,0,none⟩ (.int .i64 0)).setCell ⟨gb279,1,none⟩ (.int .i64 0)).setCell ⟨gb279,2,none⟩ (.string (rdOf ByteArray.empty t265 x21_1)))):=⟨by repeat (first|(with_reducible first|exact HB.out|apply below_alloc|apply pw_below_drewN|apply below_drew1|refine below_set ?_ GE274.out|refine below_set ?_ GE275.out|refine below_set ?_ GE276.out|refine below_set ?_ GE279.out)|exact HB.out)⟩
        (try clear HO_275000)
        (try clear HO_275001)
        (try clear HO_276000)
        (try clear HO_276001)
        (try clear HO_277000)
        (try clear BK274)
        (try clear BK275)
        (try clear BK276)
        (try clear BK279)
        (try clear HB)
        generalize (((w29.setCell ⟨gb279,0,none⟩ (.int .i64 0)).setCell ⟨gb279,1,none⟩ (.int .i64 0)).setCell ⟨gb279,2,none⟩ (.string (rdOf ByteArray.empty t265 x21_1))) = w36 at n0_ n1_ n2_ n3_ n4_ n5_ n6_ n7_ n8_ n9_ ⊢
        have HO_275000:=n0_
        have HO_275001:=n1_
        have HO_276000:=n2_
        have HO_276001:=n3_
        have HO_277000:=n4_
        have BK274:=n5_
        have BK275:=n6_
        have BK276:=n7_
        have BK279:=n8_
        have HB:=n9_
        clear n0_ n1_ n2_ n3_ n4_ n5_ n6_ n7_ n8_ n9_
        have hnb37:=NB279_274.out
        have hnc37:=NB274_279.out
        have hnb38:=NB279_275.out
        have hnc38:=NB275_279.out
        have hnb39:=NB279_276.out
        have hnc39:=NB276_279.out
        have hcz40_0 : w36.cell? ⟨gb279,0,none⟩ = some (.int .i64 0):=(blk_cell BK279.out 0).trans rfl
        have hcz40_1 : w36.cell? ⟨gb279,1,none⟩ = some (.int .i64 0):=(blk_cell BK279.out 1).trans rfl
        have hcz40_2 : w36.cell? ⟨gb279,2,none⟩ = some (.string (rdOf ByteArray.empty t265 x21_1)):=(blk_cell BK279.out 2).trans rfl
        have hfz40_0:=blk_frozen BK279.out 0
        have hfz40_1:=blk_frozen BK279.out 1
        have hfz40_2:=blk_frozen BK279.out 2
        obtain ⟨Ao41,co41,eo41⟩:=Kd.R_slice HO_277000.out
        subst eo41
        go_wp2_with (first|((with_reducible refine gate_callee (f:=73) rfl ?_);refine goesL_ (some 32) rfl rfl Try.func73 (by kernel_rfl) rfl #[.pointer (some ⟨gb276,0,none⟩),.agg #[.int .i64 0,.int .i64 0,.string (rdOf ByteArray.empty t265 x21_1)]] rfl (by (try simp only [List.map_toArray,List.map_cons,List.map_nil]);first|done|rfl|(simp only [List.length_drop,List.length_take];rfl)) ?_;(with_reducible refine (impl_builder_add.calls k1 gb276 (fun k_=>some k_ = (.slice Ao41 x277000_1.length co41 : Value).ownBlock) (.slice Ao41 x277000_1.length co41) x277000_1 0 0 (rdOf ByteArray.empty t265 x21_1) t280 w _ ?side1 ?side2 ?side3 ?side4 A35.out).mono ?_);(case side1=>repeat (first|(with_reducible first|exact HB.out|apply below_alloc|apply pw_below_drewN|apply below_drew1|refine below_set ?_ GE274.out|refine below_set ?_ GE275.out|refine below_set ?_ GE276.out|refine below_set ?_ GE279.out)|exact HB.out));(case side2=>exact by (with_reducible repeat first|apply blk_drewN|apply blk_drew|apply blk_alloc);exact BK276.out);(case side3=>exact GE276.out);(case side4=>exact Kd.R_tight rfl HO_277000.out);rintro e w42 ⟨v281,rfl,ho0,hbx,hb,hkp⟩;refine ⟨_,rfl,?_⟩;have n0_:=Aside0.mk (Kd.R_mono (ok':=fun k_=>some k_ ≠ (.slice Ao14 t268.length co14 : Value).ownBlock) (Kd.R_keptB ((Kd.R_types (Kd.R_apart' HO_275000.out (Kd.R_typed HO_277000.out) (by decide)) BK276.out (by decide))) hkp (fun k_ hk_ hs_=>Or.elim hs_ (fun hs_=>(hk_.1.2) hs_) (fun e_=>(hk_.2) e_))) (fun k_ hk_=>hk_.1.1.1));have n1_:=Aside0.mk (Kd.R_mono (ok':=fun k_=>some k_ ≠ (.slice Ao16 t271.length co16 : Value).ownBlock) (Kd.R_keptB ((Kd.R_types (Kd.R_apart' HO_275001.out (Kd.R_typed HO_277000.out) (by decide)) BK276.out (by decide))) hkp (fun k_ hk_ hs_=>Or.elim hs_ (fun hs_=>(hk_.1.2) hs_) (fun e_=>(hk_.2) e_))) (fun k_ hk_=>hk_.1.1.1));have n2_:=Aside0.mk (Kd.R_mono (ok':=fun k_=>some k_ ≠ (.slice Ao10 t262.length co10 : Value).ownBlock) (Kd.R_keptB ((Kd.R_types (Kd.R_apart' HO_276000.out (Kd.R_typed HO_277000.out) (by decide)) BK276.out (by decide))) hkp (fun k_ hk_ hs_=>Or.elim hs_ (fun hs_=>(hk_.1.2) hs_) (fun e_=>(hk_.2) e_))) (fun k_ hk_=>hk_.1.1.1));have n3_:=Aside0.mk (Kd.R_mono (ok':=fun k_=>some k_ ≠ (.slice (some ad278) t265.length co13 : Value).ownBlock) (Kd.R_keptB ((Kd.R_types (Kd.R_apart' HO_276001.out (Kd.R_typed HO_277000.out) (by decide)) BK276.out (by decide))) hkp (fun k_ hk_ hs_=>Or.elim hs_ (fun hs_=>(hk_.1.2) hs_) (fun e_=>(hk_.2) e_))) (fun k_ hk_=>hk_.1.1.1));have n4_:=Aside0.mk (blk_kept (g:=gb274) (o:=.cells #[.slice Ao10 t262.length co10,.slice (some ad278) t265.length co13] 86 (0,0)) (by (with_reducible repeat first|apply blk_drewN|apply blk_drew|apply blk_alloc);exact BK274.out) hkp (fun hs_=>Or.elim hs_ (fun hs_=>(fun e_=>(Kd.R_ne HO_277000.out BK274.out (by decide)) e_) hs_) (fun e_=>NB274_276.out e_)));have n5_:=Aside0.mk (blk_kept (g:=gb275) (o:=.cells #[.slice Ao14 t268.length co14,.slice Ao16 t271.length co16] 86 (0,0)) (by (with_reducible repeat first|apply blk_drewN|apply blk_drew|apply blk_alloc);exact BK275.out) hkp (fun hs_=>Or.elim hs_ (fun hs_=>(fun e_=>(Kd.R_ne HO_277000.out BK275.out (by decide)) e_) hs_) (fun e_=>NB275_276.out e_)));have n6_:=Aside0.mk (hbx);have n7_:=Aside0.mk (blk_kept (g:=gb279) (o:=.cells #[.int .i64 0,.int .i64 0,.string (rdOf ByteArray.empty t265 x21_1)] 74 (0,0)) (by (with_reducible repeat first|apply blk_drewN|apply blk_drew|apply blk_alloc);exact BK279.out) hkp (fun hs_=>Or.elim hs_ (fun hs_=>(fun e_=>(Kd.R_away HO_277000.out (fun _ hk=>hk)) e_) hs_) (fun e_=>NB279_276.out e_)));have n8_:=Aside0.mk (Kd.R_mono (ok':=fun k_=>k_ ≠ gb279) ho0 (fun k_ hk_=>Or.elim hk_ (fun hs_=>fun e_=>(Kd.R_away HO_277000.out (fun _ hk=>hk)) (by rw [← e_];exact hs_)) (fun hn_=>(Kd.freshB (g:=gb279) (o:=.cells #[.int .i64 0,.int .i64 0,.string (rdOf ByteArray.empty t265 x21_1)] 74 (0,0)) (by (with_reducible repeat first|apply blk_drewN|apply blk_drew|apply blk_alloc);exact BK279.out) k_ hn_))));have n9_:=Aside0.mk (hb);clear HO_275000;clear HO_275001;clear HO_276000;clear HO_276001;clear BK274;clear BK275;clear BK276;clear BK279;clear HB;clear HO_277000;have HO_275000:=n0_;have HO_275001:=n1_;have HO_276000:=n2_;have HO_276001:=n3_;have BK274:=n4_;have BK275:=n5_;have BK276:=n6_;have BK279:=n7_;have HO282:=n8_;have HB:=n9_;clear n0_ n1_ n2_ n3_ n4_ n5_ n6_ n7_ n8_ n9_;(try clear hb);(try clear hkp);(try clear hbx);(try clear ho0)))
        go_meet
        case rel=>exact ⟨_,(t280),(v281),H',⟨by have:=HK1.out;first|omega|exact Nat.le_refl _⟩,⟨by (with_reducible repeat (first|apply Kd.R_alloc|apply Kd.R_drewN|apply Kd.R_drew));exact HO_275000.out⟩,⟨by (with_reducible repeat (first|apply Kd.R_alloc|apply Kd.R_drewN|apply Kd.R_drew));exact HO_275001.out⟩,⟨by (with_reducible repeat (first|apply Kd.R_alloc|apply Kd.R_drewN|apply Kd.R_drew));exact HO_276000.out⟩,⟨by (with_reducible repeat (first|apply Kd.R_alloc|apply Kd.R_drewN|apply Kd.R_drew));exact HO_276001.out⟩,⟨by (with_reducible repeat (first|apply Kd.R_alloc|apply Kd.R_drewN|apply Kd.R_drew));exact HO282.out⟩,⟨by (with_reducible repeat first|apply blk_drewN|apply blk_drew|apply blk_alloc);exact BK274.out⟩,⟨by (with_reducible repeat first|apply blk_drewN|apply blk_drew|apply blk_alloc);exact BK275.out⟩,⟨by (with_reducible repeat first|apply blk_drewN|apply blk_drew|apply blk_alloc);exact BK276.out⟩,⟨by (with_reducible repeat first|apply blk_drewN|apply blk_drew|apply blk_alloc);exact BK279.out⟩,⟨by repeat (first|(with_reducible first|exact HB.out|apply below_alloc|apply pw_below_drewN|apply below_drew1|refine below_set ?_ GE274.out|refine below_set ?_ GE275.out|refine below_set ?_ GE276.out|refine below_set ?_ GE279.out)|exact HB.out)⟩⟩
       ·replace c34:=Bool.eq_false_iff.mpr c34
        subst c34
        have H1 : (impl_carry.j1 k1 false x21_1 (t265.length : Int) x21_1 t262 t265 t268 t271 x277000_1 0 0 (rdOf ByteArray.empty t265 x21_1)) = some (r1,r2):=by rw [if_neg (show ¬ (false = true) by decide)] at H;exact H
        clear H
        have H:=H1
        clear H1
        have H':=Aside0.mk H
        clear H
        go_wp2
        go_meet
        case rel=>exact ⟨_,(x277000_1),(u277000),H',⟨by have:=HK1.out;first|omega|exact Nat.le_refl _⟩,⟨by (with_reducible repeat (first|apply Kd.R_alloc|apply Kd.R_drewN|apply Kd.R_drew));exact Kd.R_mono (Kd.R_far (p:=⟨gb279,2,none⟩) (Kd.R_far (p:=⟨gb279,1,none⟩) (Kd.R_far (p:=⟨gb279,0,none⟩) (Kd.R_types HO_275000.out BK279.out (by decide)) (fun _ hk=>hk.2) (.int .i64 0)) (fun _ hk=>hk.2) (.int .i64 0)) (fun _ hk=>hk.2) (.string (rdOf ByteArray.empty t265 x21_1))) (fun _ hk=>hk.1)⟩,⟨by (with_reducible repeat (first|apply Kd.R_alloc|apply Kd.R_drewN|apply Kd.R_drew));exact Kd.R_mono (Kd.R_far (p:=⟨gb279,2,none⟩) (Kd.R_far (p:=⟨gb279,1,none⟩) (Kd.R_far (p:=⟨gb279,0,none⟩) (Kd.R_types HO_275001.out BK279.out (by decide)) (fun _ hk=>hk.2) (.int .i64 0)) (fun _ hk=>hk.2) (.int .i64 0)) (fun _ hk=>hk.2) (.string (rdOf ByteArray.empty t265 x21_1))) (fun _ hk=>hk.1)⟩,⟨by (with_reducible repeat (first|apply Kd.R_alloc|apply Kd.R_drewN|apply Kd.R_drew));exact Kd.R_mono (Kd.R_far (p:=⟨gb279,2,none⟩) (Kd.R_far (p:=⟨gb279,1,none⟩) (Kd.R_far (p:=⟨gb279,0,none⟩) (Kd.R_types HO_276000.out BK279.out (by decide)) (fun _ hk=>hk.2) (.int .i64 0)) (fun _ hk=>hk.2) (.int .i64 0)) (fun _ hk=>hk.2) (.string (rdOf ByteArray.empty t265 x21_1))) (fun _ hk=>hk.1)⟩,⟨by (with_reducible repeat (first|apply Kd.R_alloc|apply Kd.R_drewN|apply Kd.R_drew));exact Kd.R_mono (Kd.R_far (p:=⟨gb279,2,none⟩) (Kd.R_far (p:=⟨gb279,1,none⟩) (Kd.R_far (p:=⟨gb279,0,none⟩) (Kd.R_types HO_276001.out BK279.out (by decide)) (fun _ hk=>hk.2) (.int .i64 0)) (fun _ hk=>hk.2) (.int .i64 0)) (fun _ hk=>hk.2) (.string (rdOf ByteArray.empty t265 x21_1))) (fun _ hk=>hk.1)⟩,⟨by (with_reducible repeat (first|apply Kd.R_alloc|apply Kd.R_drewN|apply Kd.R_drew));exact Kd.R_mono (Kd.R_far (p:=⟨gb279,2,none⟩) (Kd.R_far (p:=⟨gb279,1,none⟩) (Kd.R_far (p:=⟨gb279,0,none⟩) (Kd.R_mono HO_277000.out (fun k_ hk=>(⟨hk,hk.2⟩ : _∧k_ ≠ gb279))) (fun _ hk=>hk.2) (.int .i64 0)) (fun _ hk=>hk.2) (.int .i64 0)) (fun _ hk=>hk.2) (.string (rdOf ByteArray.empty t265 x21_1))) (fun _ hk=>hk.1.2)⟩,⟨by (with_reducible repeat first|apply blk_drewN|apply blk_drew|apply blk_alloc);refine blk_far ?_ NB274_279.out _;(with_reducible repeat first|apply blk_drewN|apply blk_drew|apply blk_alloc);refine blk_far ?_ NB274_279.out _;(with_reducible repeat first|apply blk_drewN|apply blk_drew|apply blk_alloc);refine blk_far ?_ NB274_279.out _;(with_reducible repeat first|apply blk_drewN|apply blk_drew|apply blk_alloc);exact BK274.out⟩,⟨by (with_reducible repeat first|apply blk_drewN|apply blk_drew|apply blk_alloc);refine blk_far ?_ NB275_279.out _;(with_reducible repeat first|apply blk_drewN|apply blk_drew|apply blk_alloc);refine blk_far ?_ NB275_279.out _;(with_reducible repeat first|apply blk_drewN|apply blk_drew|apply blk_alloc);refine blk_far ?_ NB275_279.out _;(with_reducible repeat first|apply blk_drewN|apply blk_drew|apply blk_alloc);exact BK275.out⟩,⟨by (with_reducible repeat first|apply blk_drewN|apply blk_drew|apply blk_alloc);refine blk_far ?_ NB276_279.out _;(with_reducible repeat first|apply blk_drewN|apply blk_drew|apply blk_alloc);refine blk_far ?_ NB276_279.out _;(with_reducible repeat first|apply blk_drewN|apply blk_drew|apply blk_alloc);refine blk_far ?_ NB276_279.out _;(with_reducible repeat first|apply blk_drewN|apply blk_drew|apply blk_alloc);exact BK276.out⟩,⟨by (with_reducible repeat first|apply blk_drewN|apply blk_drew|apply blk_alloc);refine blk_put (cs:=#[.int .i64 0,.int .i64 0,.string (⟨#[]⟩ : ByteArray)]) ?_ 2 _ rfl;(with_reducible repeat first|apply blk_drewN|apply blk_drew|apply blk_alloc);refine blk_put (cs:=#[.int .i64 0,.int .i64 0,.string (⟨#[]⟩ : ByteArray)]) ?_ 1 _ rfl;(with_reducible repeat first|apply blk_drewN|apply blk_drew|apply blk_alloc);refine blk_put (cs:=#[.int .i64 0,.int .i64 0,.string (⟨#[]⟩ : ByteArray)]) ?_ 0 _ rfl;(with_reducible repeat first|apply blk_drewN|apply blk_drew|apply blk_alloc);exact BK279.out⟩,⟨by repeat (first|(with_reducible first|exact HB.out|apply below_alloc|apply pw_below_drewN|apply below_drew1|refine below_set ?_ GE274.out|refine below_set ?_ GE275.out|refine below_set ?_ GE276.out|refine below_set ?_ GE279.out)|exact HB.out)⟩⟩
      case rest =>
       clear HC25
       try clear c1;try clear c2;try clear p2;try clear q2;try clear hx2;try clear c3;try clear c6;try clear c7;try clear c11;try clear c18;try clear c19;try clear c22;try clear c22b0;try clear c23;try clear c23b0;try clear c24;try clear c24b0;try clear c26;try clear c27;try clear p27;try clear q27;try clear hx27;try clear c30;try clear c31;try clear c32;try clear c34;try clear c37;try clear c38;try clear c39;try clear hcz12_0;try clear hcz12_1;try clear hcz15_0;try clear hcz15_1;try clear hcz20_0;try clear hcz21_0;try clear hcz21_1;try clear hcz28_0;try clear hcz28_1;try clear hcz33_0;try clear hcz33_1;try clear hcz33_2;try clear hcz40_0;try clear hcz40_1;try clear hcz40_2;try clear hfz12_0;try clear hfz12_1;try clear hfz15_0;try clear hfz15_1;try clear hfz20_0;try clear hfz21_0;try clear hfz21_1;try clear hfz28_0;try clear hfz28_1;try clear hfz33_0;try clear hfz33_1;try clear hfz33_2;try clear hfz40_0;try clear hfz40_1;try clear hfz40_2;try clear hx278_0;try clear p2;try clear p278;try clear q278
       obtain ⟨kq,x277000_24,u277000,HA,HJ24,HO_275000,HO_275001,HO_276000,HO_276001,HO_277000,BK274,BK275,BK276,BK279,HB⟩:=hcut
       cases kq with
       | zero=>exact absurd HA.out (by simp [impl_carry.j1])
       | succ kj24 =>
        have H:=HA.out
        clear HA
        simp only [impl_carry.j1] at H
        by_cases c43 : 0 ≤ x21_1
        ·rw [if_pos c43] at H
         have c43b0 : decide (0 ≤ x21_1) = true:=decide_eq_true c43
         clear c43
         by_cases c44 : x21_1 < (t271.length : Int)
         ·rw [if_pos c44] at H
          have c44b0 : decide (x21_1 < (t271.length : Int)) = true:=decide_eq_true c44
          clear c44
          replace H:=Option.bind_eq_some_iff.mp H
          obtain ⟨t284,A450,H⟩:=H
          replace H : (if a2 = true then (impl_carry.j2 kj24 a2 x21_1 (t265.length : Int) x21_1 t262 t265 t268 t271 t284) else ((impl_builder_add.f kj24 t284 0 0 (rdOf ByteArray.empty t265 x21_1)).bind fun t287=>(impl_carry.j2 kj24 a2 x21_1 (t265.length : Int) x21_1 t262 t265 t268 t271 t287))) = some (r1,r2):=H
          have A45:=Aside0.mk A450
          clear A450
          have HC46:=Aside0.mk H
          clear H
          have hnb47:=NB275_274.out
          have hnc47:=NB274_275.out
          have hnb48:=NB275_276.out
          have hnc48:=NB276_275.out
          have hnb49:=NB275_279.out
          have hnc49:=NB279_275.out
          have hcz50_0 : wc.cell? ⟨gb275,0,none⟩ = some (.slice Ao14 t268.length co14):=(blk_cell BK275.out 0).trans rfl
          have hcz50_1 : wc.cell? ⟨gb275,1,none⟩ = some (.slice Ao16 t271.length co16):=(blk_cell BK275.out 1).trans rfl
          have hfz50_0:=blk_frozen BK275.out 0
          have hfz50_1:=blk_frozen BK275.out 1
          have p283 : 0 ≤ (x21_1 : Int):=of_decide_eq_true (by assumption)
          have q283 : x21_1 < (t271.length : Int):=of_decide_eq_true (by assumption)
          obtain ⟨ad283,e283,hx283_0⟩:=Kd.at_string (Kd.R_reads' HO_276001.out).2.2 x21_1 p283 q283
          cases e283
          replace p283:=eq_true p283
          replace q283:=eq_true q283
          obtain ⟨Ao51,co51,eo51⟩:=Kd.R_slice HO_277000.out
          subst eo51
          go_upto_if 42 with (first|((with_reducible refine gate_callee (f:=73) rfl ?_);refine goesL_ (some 40) rfl rfl Try.func73 (by kernel_rfl) rfl #[.pointer (some ⟨gb276,0,none⟩),.agg #[.int .i64 ((rdOf ByteArray.empty t271 x21_1).size : Int),.int .i64 0,.string (⟨#[]⟩ : ByteArray)]] rfl (by (try simp only [List.map_toArray,List.map_cons,List.map_nil]);first|done|rfl|(simp only [List.length_drop,List.length_take];rfl)) ?_;(with_reducible refine (impl_builder_add.calls kj24 gb276 (fun k_=>some k_ = (.slice Ao51 x277000_24.length co51 : Value).ownBlock) (.slice Ao51 x277000_24.length co51) x277000_24 ((rdOf ByteArray.empty t271 x21_1).size : Int) 0 (⟨#[]⟩ : ByteArray) t284 w _ ?side1 ?side2 ?side3 ?side4 A45.out).mono ?_);(case side1=>repeat (first|(with_reducible first|exact HB.out|apply below_alloc|apply pw_below_drewN|apply below_drew1|refine below_set ?_ GE274.out|refine below_set ?_ GE275.out|refine below_set ?_ GE276.out|refine below_set ?_ GE279.out)|exact HB.out));(case side2=>exact by (with_reducible repeat first|apply blk_drewN|apply blk_drew|apply blk_alloc);exact BK276.out);(case side3=>exact GE276.out);(case side4=>exact Kd.R_tight rfl HO_277000.out);rintro e w52 ⟨v285,rfl,ho0,hbx,hb,hkp⟩;refine ⟨_,rfl,?_⟩;have n0_:=Aside0.mk (Kd.R_mono (ok':=fun k_=>some k_ ≠ (.slice Ao14 t268.length co14 : Value).ownBlock) (Kd.R_keptB ((Kd.R_types (Kd.R_apart' HO_275000.out (Kd.R_typed HO_277000.out) (by decide)) BK276.out (by decide))) hkp (fun k_ hk_ hs_=>Or.elim hs_ (fun hs_=>(hk_.1.2) hs_) (fun e_=>(hk_.2) e_))) (fun k_ hk_=>hk_.1.1.1));have n1_:=Aside0.mk (Kd.R_mono (ok':=fun k_=>some k_ ≠ (.slice (some ad283) t271.length co16 : Value).ownBlock) (Kd.R_keptB ((Kd.R_types (Kd.R_apart' HO_275001.out (Kd.R_typed HO_277000.out) (by decide)) BK276.out (by decide))) hkp (fun k_ hk_ hs_=>Or.elim hs_ (fun hs_=>(hk_.1.2) hs_) (fun e_=>(hk_.2) e_))) (fun k_ hk_=>hk_.1.1.1));have n2_:=Aside0.mk (Kd.R_mono (ok':=fun k_=>some k_ ≠ (.slice Ao10 t262.length co10 : Value).ownBlock) (Kd.R_keptB ((Kd.R_types (Kd.R_apart' HO_276000.out (Kd.R_typed HO_277000.out) (by decide)) BK276.out (by decide))) hkp (fun k_ hk_ hs_=>Or.elim hs_ (fun hs_=>(hk_.1.2) hs_) (fun e_=>(hk_.2) e_))) (fun k_ hk_=>hk_.1.1.1));have n3_:=Aside0.mk (Kd.R_mono (ok':=fun k_=>some k_ ≠ (.slice (some ad278) t265.length co13 : Value).ownBlock) (Kd.R_keptB ((Kd.R_types (Kd.R_apart' HO_276001.out (Kd.R_typed HO_277000.out) (by decide)) BK276.out (by decide))) hkp (fun k_ hk_ hs_=>Or.elim hs_ (fun hs_=>(hk_.1.2) hs_) (fun e_=>(hk_.2) e_))) (fun k_ hk_=>hk_.1.1.1));have n4_:=Aside0.mk (blk_kept (g:=gb274) (o:=.cells #[.slice Ao10 t262.length co10,.slice (some ad278) t265.length co13] 86 (0,0)) (by (with_reducible repeat first|apply blk_drewN|apply blk_drew|apply blk_alloc);exact BK274.out) hkp (fun hs_=>Or.elim hs_ (fun hs_=>(fun e_=>(Kd.R_ne HO_277000.out BK274.out (by decide)) e_) hs_) (fun e_=>NB274_276.out e_)));have n5_:=Aside0.mk (blk_kept (g:=gb275) (o:=.cells #[.slice Ao14 t268.length co14,.slice (some ad283) t271.length co16] 86 (0,0)) (by (with_reducible repeat first|apply blk_drewN|apply blk_drew|apply blk_alloc);exact BK275.out) hkp (fun hs_=>Or.elim hs_ (fun hs_=>(fun e_=>(Kd.R_ne HO_277000.out BK275.out (by decide)) e_) hs_) (fun e_=>NB275_276.out e_)));have n6_:=Aside0.mk (hbx);have n7_:=Aside0.mk (blk_kept (g:=gb279) (o:=.cells #[.int .i64 0,.int .i64 0,.string (rdOf ByteArray.empty t265 x21_1)] 74 (0,0)) (by (with_reducible repeat first|apply blk_drewN|apply blk_drew|apply blk_alloc);exact BK279.out) hkp (fun hs_=>Or.elim hs_ (fun hs_=>(fun e_=>(Kd.R_away HO_277000.out (fun _ hk=>hk)) e_) hs_) (fun e_=>NB279_276.out e_)));have n8_:=Aside0.mk (Kd.R_mono (ok':=fun k_=>k_ ≠ gb279) ho0 (fun k_ hk_=>Or.elim hk_ (fun hs_=>fun e_=>(Kd.R_away HO_277000.out (fun _ hk=>hk)) (by rw [← e_];exact hs_)) (fun hn_=>(Kd.freshB (g:=gb279) (o:=.cells #[.int .i64 0,.int .i64 0,.string (rdOf ByteArray.empty t265 x21_1)] 74 (0,0)) (by (with_reducible repeat first|apply blk_drewN|apply blk_drew|apply blk_alloc);exact BK279.out) k_ hn_))));have n9_:=Aside0.mk (hb);clear HO_275000;clear HO_275001;clear HO_276000;clear HO_276001;clear BK274;clear BK275;clear BK276;clear BK279;clear HB;clear HO_277000;have HO_275000:=n0_;have HO_275001:=n1_;have HO_276000:=n2_;have HO_276001:=n3_;have BK274:=n4_;have BK275:=n5_;have BK276:=n6_;have BK279:=n7_;have HO286:=n8_;have HB:=n9_;clear n0_ n1_ n2_ n3_ n4_ n5_ n6_ n7_ n8_ n9_;(try clear hb);(try clear hkp);(try clear hbx);(try clear ho0)))
          (try simp only [Act.put,List.setIfInBounds_toArray,List.set_cons_zero,List.set_cons_succ])
          go_cut [] (fun wc=>∃ (kq : Nat) (x277000_45 : List (S74)) (u277000 : Value),Aside0 (impl_carry.j2 kq a2 x21_1 (t265.length : Int) x21_1 t262 t265 t268 t271 x277000_45 = some (r1,r2))∧Aside0 (kq ≤ kj24)∧Aside0 (Kd.R Kd.bool 4 wc w.heap.size (fun k_=>some k_ ≠ ((.slice Ao14 t268.length co14) : Value).ownBlock) (.slice Ao10 t262.length co10) t262)∧Aside0 (Kd.R Kd.string 9 wc w.heap.size (fun k_=>some k_ ≠ ((.slice (some ad283) t271.length co16) : Value).ownBlock) (.slice (some ad278) t265.length co13) t265)∧Aside0 (Kd.R Kd.bool 4 wc w.heap.size (fun k_=>some k_ ≠ ((.slice Ao10 t262.length co10) : Value).ownBlock) (.slice Ao14 t268.length co14) t268)∧Aside0 (Kd.R Kd.string 9 wc w.heap.size (fun k_=>some k_ ≠ ((.slice (some ad278) t265.length co13) : Value).ownBlock) (.slice (some ad283) t271.length co16) t271)∧Aside0 (Kd.R k74 74 wc w.heap.size (fun k_=>k_ ≠ gb279) u277000 x277000_45)∧Aside0 (wc.heap[gb274]? = some (.cells #[(.slice Ao10 t262.length co10),(.slice (some ad278) t265.length co13)] 86 (0,0)))∧Aside0 (wc.heap[gb275]? = some (.cells #[(.slice Ao14 t268.length co14),(.slice (some ad283) t271.length co16)] 86 (0,0)))∧Aside0 (wc.heap[gb276]? = some (.cells #[u277000] 92 (0,0)))∧Aside0 (wc.heap[gb279]? = some (.cells #[.int .i64 0,.int .i64 0,.string (rdOf ByteArray.empty t265 x21_1)] 74 (0,0)))∧Aside0 (Below w.heap.size w wc))
          case first =>
           have H:=HC46.out
           clear HC46
           by_cases c53 : a2 = true
           ·subst c53
            have H1 : (impl_carry.j2 kj24 true x21_1 (t265.length : Int) x21_1 t262 t265 t268 t271 t284) = some (r1,r2):=by rw [if_pos rfl] at H;exact H
            clear H
            have H:=H1
            clear H1
            have H':=Aside0.mk H
            clear H
            go_wp2
            go_meet
            case rel=>exact ⟨_,(t284),(v285),H',⟨by have:=HK1.out;have:=HJ24.out;first|omega|exact Nat.le_refl _⟩,⟨by (with_reducible repeat (first|apply Kd.R_alloc|apply Kd.R_drewN|apply Kd.R_drew));exact HO_275000.out⟩,⟨by (with_reducible repeat (first|apply Kd.R_alloc|apply Kd.R_drewN|apply Kd.R_drew));exact HO_275001.out⟩,⟨by (with_reducible repeat (first|apply Kd.R_alloc|apply Kd.R_drewN|apply Kd.R_drew));exact HO_276000.out⟩,⟨by (with_reducible repeat (first|apply Kd.R_alloc|apply Kd.R_drewN|apply Kd.R_drew));exact HO_276001.out⟩,⟨by (with_reducible repeat (first|apply Kd.R_alloc|apply Kd.R_drewN|apply Kd.R_drew));exact HO286.out⟩,⟨by (with_reducible repeat first|apply blk_drewN|apply blk_drew|apply blk_alloc);exact BK274.out⟩,⟨by (with_reducible repeat first|apply blk_drewN|apply blk_drew|apply blk_alloc);exact BK275.out⟩,⟨by (with_reducible repeat first|apply blk_drewN|apply blk_drew|apply blk_alloc);exact BK276.out⟩,⟨by (with_reducible repeat first|apply blk_drewN|apply blk_drew|apply blk_alloc);exact BK279.out⟩,⟨by repeat (first|(with_reducible first|exact HB.out|apply below_alloc|apply pw_below_drewN|apply below_drew1|refine below_set ?_ GE274.out|refine below_set ?_ GE275.out|refine below_set ?_ GE276.out|refine below_set ?_ GE279.out)|exact HB.out)⟩⟩
           ·replace c53:=Bool.eq_false_iff.mpr c53
            subst c53
            have H1 : ((impl_builder_add.f kj24 t284 0 0 (rdOf ByteArray.empty t265 x21_1)).bind fun t287=>(impl_carry.j2 kj24 false x21_1 (t265.length : Int) x21_1 t262 t265 t268 t271 t287)) = some (r1,r2):=by rw [if_neg (show ¬ (false = true) by decide)] at H;exact H
            clear H
            have H:=H1
            clear H1
            replace H:=Option.bind_eq_some_iff.mp H
            obtain ⟨t287,A540,H⟩:=H
            replace H : (impl_carry.j2 kj24 false x21_1 (t265.length : Int) x21_1 t262 t265 t268 t271 t287) = some (r1,r2):=H
            have A54:=Aside0.mk A540
            clear A540
            have H':=Aside0.mk H
            clear H
            have hnb55:=NB279_274.out
            have hnc55:=NB274_279.out
            have hnb56:=NB279_275.out
            have hnc56:=NB275_279.out
            have hnb57:=NB279_276.out
            have hnc57:=NB276_279.out
            have hcz58_0 : w52.cell? ⟨gb279,0,none⟩ = some (.int .i64 0):=(blk_cell BK279.out 0).trans rfl
            have hcz58_1 : w52.cell? ⟨gb279,1,none⟩ = some (.int .i64 0):=(blk_cell BK279.out 1).trans rfl
            have hcz58_2 : w52.cell? ⟨gb279,2,none⟩ = some (.string (rdOf ByteArray.empty t265 x21_1)):=(blk_cell BK279.out 2).trans rfl
            have hfz58_0:=blk_frozen BK279.out 0
            have hfz58_1:=blk_frozen BK279.out 1
            have hfz58_2:=blk_frozen BK279.out 2
            obtain ⟨Ao59,co59,eo59⟩:=Kd.R_slice HO286.out
            subst eo59
            go_wp2_with (first|((with_reducible refine gate_callee (f:=73) rfl ?_);refine goesL_ (some 44) rfl rfl Try.func73 (by kernel_rfl) rfl #[.pointer (some ⟨gb276,0,none⟩),.agg #[.int .i64 0,.int .i64 0,.string (rdOf ByteArray.empty t265 x21_1)]] rfl (by (try simp only [List.map_toArray,List.map_cons,List.map_nil]);first|done|rfl|(simp only [List.length_drop,List.length_take];rfl)) ?_;(with_reducible refine (impl_builder_add.calls kj24 gb276 (fun k_=>some k_ = (.slice Ao59 t284.length co59 : Value).ownBlock) (.slice Ao59 t284.length co59) t284 0 0 (rdOf ByteArray.empty t265 x21_1) t287 w _ ?side1 ?side2 ?side3 ?side4 A54.out).mono ?_);(case side1=>repeat (first|(with_reducible first|exact HB.out|apply below_alloc|apply pw_below_drewN|apply below_drew1|refine below_set ?_ GE274.out|refine below_set ?_ GE275.out|refine below_set ?_ GE276.out|refine below_set ?_ GE279.out)|exact HB.out));(case side2=>exact by (with_reducible repeat first|apply blk_drewN|apply blk_drew|apply blk_alloc);exact BK276.out);(case side3=>exact GE276.out);(case side4=>exact Kd.R_tight rfl HO286.out);rintro e w60 ⟨v288,rfl,ho0,hbx,hb,hkp⟩;refine ⟨_,rfl,?_⟩;have n0_:=Aside0.mk (Kd.R_mono (ok':=fun k_=>some k_ ≠ (.slice Ao14 t268.length co14 : Value).ownBlock) (Kd.R_keptB ((Kd.R_types (Kd.R_apart' HO_275000.out (Kd.R_typed HO286.out) (by decide)) BK276.out (by decide))) hkp (fun k_ hk_ hs_=>Or.elim hs_ (fun hs_=>(hk_.1.2) hs_) (fun e_=>(hk_.2) e_))) (fun k_ hk_=>hk_.1.1.1));have n1_:=Aside0.mk (Kd.R_mono (ok':=fun k_=>some k_ ≠ (.slice (some ad283) t271.length co16 : Value).ownBlock) (Kd.R_keptB ((Kd.R_types (Kd.R_apart' HO_275001.out (Kd.R_typed HO286.out) (by decide)) BK276.out (by decide))) hkp (fun k_ hk_ hs_=>Or.elim hs_ (fun hs_=>(hk_.1.2) hs_) (fun e_=>(hk_.2) e_))) (fun k_ hk_=>hk_.1.1.1));have n2_:=Aside0.mk (Kd.R_mono (ok':=fun k_=>some k_ ≠ (.slice Ao10 t262.length co10 : Value).ownBlock) (Kd.R_keptB ((Kd.R_types (Kd.R_apart' HO_276000.out (Kd.R_typed HO286.out) (by decide)) BK276.out (by decide))) hkp (fun k_ hk_ hs_=>Or.elim hs_ (fun hs_=>(hk_.1.2) hs_) (fun e_=>(hk_.2) e_))) (fun k_ hk_=>hk_.1.1.1));have n3_:=Aside0.mk (Kd.R_mono (ok':=fun k_=>some k_ ≠ (.slice (some ad278) t265.length co13 : Value).ownBlock) (Kd.R_keptB ((Kd.R_types (Kd.R_apart' HO_276001.out (Kd.R_typed HO286.out) (by decide)) BK276.out (by decide))) hkp (fun k_ hk_ hs_=>Or.elim hs_ (fun hs_=>(hk_.1.2) hs_) (fun e_=>(hk_.2) e_))) (fun k_ hk_=>hk_.1.1.1));have n4_:=Aside0.mk (blk_kept (g:=gb274) (o:=.cells #[.slice Ao10 t262.length co10,.slice (some ad278) t265.length co13] 86 (0,0)) (by (with_reducible repeat first|apply blk_drewN|apply blk_drew|apply blk_alloc);exact BK274.out) hkp (fun hs_=>Or.elim hs_ (fun hs_=>(fun e_=>(Kd.R_ne HO286.out BK274.out (by decide)) e_) hs_) (fun e_=>NB274_276.out e_)));have n5_:=Aside0.mk (blk_kept (g:=gb275) (o:=.cells #[.slice Ao14 t268.length co14,.slice (some ad283) t271.length co16] 86 (0,0)) (by (with_reducible repeat first|apply blk_drewN|apply blk_drew|apply blk_alloc);exact BK275.out) hkp (fun hs_=>Or.elim hs_ (fun hs_=>(fun e_=>(Kd.R_ne HO286.out BK275.out (by decide)) e_) hs_) (fun e_=>NB275_276.out e_)));have n6_:=Aside0.mk (hbx);have n7_:=Aside0.mk (blk_kept (g:=gb279) (o:=.cells #[.int .i64 0,.int .i64 0,.string (rdOf ByteArray.empty t265 x21_1)] 74 (0,0)) (by (with_reducible repeat first|apply blk_drewN|apply blk_drew|apply blk_alloc);exact BK279.out) hkp (fun hs_=>Or.elim hs_ (fun hs_=>(fun e_=>(Kd.R_away HO286.out (fun _ hk=>hk)) e_) hs_) (fun e_=>NB279_276.out e_)));have n8_:=Aside0.mk (Kd.R_mono (ok':=fun k_=>k_ ≠ gb279) ho0 (fun k_ hk_=>Or.elim hk_ (fun hs_=>fun e_=>(Kd.R_away HO286.out (fun _ hk=>hk)) (by rw [← e_];exact hs_)) (fun hn_=>(Kd.freshB (g:=gb279) (o:=.cells #[.int .i64 0,.int .i64 0,.string (rdOf ByteArray.empty t265 x21_1)] 74 (0,0)) (by (with_reducible repeat first|apply blk_drewN|apply blk_drew|apply blk_alloc);exact BK279.out) k_ hn_))));have n9_:=Aside0.mk (hb);clear HO_275000;clear HO_275001;clear HO_276000;clear HO_276001;clear BK274;clear BK275;clear BK276;clear BK279;clear HB;clear HO286;have HO_275000:=n0_;have HO_275001:=n1_;have HO_276000:=n2_;have HO_276001:=n3_;have BK274:=n4_;have BK275:=n5_;have BK276:=n6_;have BK279:=n7_;have HO289:=n8_;have HB:=n9_;clear n0_ n1_ n2_ n3_ n4_ n5_ n6_ n7_ n8_ n9_;(try clear hb);(try clear hkp);(try clear hbx);(try clear ho0)))
            go_meet
            case rel=>exact ⟨_,(t287),(v288),H',⟨by have:=HK1.out;have:=HJ24.out;first|omega|exact Nat.le_refl _⟩,⟨by (with_reducible repeat (first|apply Kd.R_alloc|apply Kd.R_drewN|apply Kd.R_drew));exact HO_275000.out⟩,⟨by (with_reducible repeat (first|apply Kd.R_alloc|apply Kd.R_drewN|apply Kd.R_drew));exact HO_275001.out⟩,⟨by (with_reducible repeat (first|apply Kd.R_alloc|apply Kd.R_drewN|apply Kd.R_drew));exact HO_276000.out⟩,⟨by (with_reducible repeat (first|apply Kd.R_alloc|apply Kd.R_drewN|apply Kd.R_drew));exact HO_276001.out⟩,⟨by (with_reducible repeat (first|apply Kd.R_alloc|apply Kd.R_drewN|apply Kd.R_drew));exact HO289.out⟩,⟨by (with_reducible repeat first|apply blk_drewN|apply blk_drew|apply blk_alloc);exact BK274.out⟩,⟨by (with_reducible repeat first|apply blk_drewN|apply blk_drew|apply blk_alloc);exact BK275.out⟩,⟨by (with_reducible repeat first|apply blk_drewN|apply blk_drew|apply blk_alloc);exact BK276.out⟩,⟨by (with_reducible repeat first|apply blk_drewN|apply blk_drew|apply blk_alloc);exact BK279.out⟩,⟨by repeat (first|(with_reducible first|exact HB.out|apply below_alloc|apply pw_below_drewN|apply below_drew1|refine below_set ?_ GE274.out|refine below_set ?_ GE275.out|refine below_set ?_ GE276.out|refine below_set ?_ GE279.out)|exact HB.out)⟩⟩
          case rest =>
           clear HC46
           try clear c1;try clear c2;try clear p2;try clear q2;try clear hx2;try clear c3;try clear c4;try clear c5;try clear c6;try clear c7;try clear c11;try clear c18;try clear c19;try clear c22;try clear c22b0;try clear c23;try clear c23b0;try clear c24;try clear c24b0;try clear c26;try clear c27;try clear p27;try clear q27;try clear hx27;try clear p28;try clear q28;try clear hx28;try clear c30;try clear c31;try clear c32;try clear c34;try clear c37;try clear c38;try clear c39;try clear c43;try clear c43b0;try clear c44;try clear c44b0;try clear c47;try clear c48;try clear c49;try clear c53;try clear c55;try clear c56;try clear c57;try clear hcz12_0;try clear hcz12_1;try clear hcz15_0;try clear hcz15_1;try clear hcz20_0;try clear hcz21_0;try clear hcz21_1;try clear hcz28_0;try clear hcz28_1;try clear hcz33_0;try clear hcz33_1;try clear hcz33_2;try clear hcz40_0;try clear hcz40_1;try clear hcz40_2;try clear hcz50_0;try clear hcz50_1;try clear hcz58_0;try clear hcz58_1;try clear hcz58_2;try clear hfz12_0;try clear hfz12_1;try clear hfz15_0;try clear hfz15_1;try clear hfz20_0;try clear hfz21_0;try clear hfz21_1;try clear hfz28_0;try clear hfz28_1;try clear hfz33_0;try clear hfz33_1;try clear hfz33_2;try clear hfz40_0;try clear hfz40_1;try clear hfz40_2;try clear hfz50_0;try clear hfz50_1;try clear hfz58_0;try clear hfz58_1;try clear hfz58_2;try clear hx278_0;try clear hx283_0;try clear p2;try clear p27;try clear p278;try clear p283;try clear q2;try clear q27;try clear q278;try clear q283
           obtain ⟨kq,x277000_45,u277000,HA,HJ45,HO_275000,HO_275001,HO_276000,HO_276001,HO_277000,BK274,BK275,BK276,BK279,HB⟩:=hcut
           cases kq with
           | zero=>exact absurd HA.out (by simp [impl_carry.j2])
           | succ kj45 =>
            have H:=HA.out
            clear HA
            simp only [impl_carry.j2] at H
            have HC61:=Aside0.mk H
            clear H
            go_upto_region 13 with (fail)
            go_cut [47] (fun v47 wc=>∃ (kq : Nat) (x47_60 : Bool),v47 = .bool x47_60∧Aside0 (impl_carry.j3 kq a2 x21_1 (t265.length : Int) x21_1 x47_60 t262 t265 t268 t271 x277000_45 = some (r1,r2))∧Aside0 (kq ≤ kj45)∧Aside0 (Kd.R Kd.bool 4 wc w.heap.size (fun k_=>some k_ ≠ ((.slice Ao14 t268.length co14) : Value).ownBlock) (.slice Ao10 t262.length co10) t262)∧Aside0 (Kd.R Kd.string 9 wc w.heap.size (fun k_=>some k_ ≠ ((.slice (some ad283) t271.length co16) : Value).ownBlock) (.slice (some ad278) t265.length co13) t265)∧Aside0 (Kd.R Kd.bool 4 wc w.heap.size (fun k_=>some k_ ≠ ((.slice Ao10 t262.length co10) : Value).ownBlock) (.slice Ao14 t268.length co14) t268)∧Aside0 (Kd.R Kd.string 9 wc w.heap.size (fun k_=>some k_ ≠ ((.slice (some ad278) t265.length co13) : Value).ownBlock) (.slice (some ad283) t271.length co16) t271)∧Aside0 (Kd.R k74 74 wc w.heap.size (fun k_=>k_ ≠ gb279) u277000 x277000_45)∧Aside0 (wc.heap[gb274]? = some (.cells #[(.slice Ao10 t262.length co10),(.slice (some ad278) t265.length co13)] 86 (0,0)))∧Aside0 (wc.heap[gb275]? = some (.cells #[(.slice Ao14 t268.length co14),(.slice (some ad283) t271.length co16)] 86 (0,0)))∧Aside0 (wc.heap[gb276]? = some (.cells #[u277000] 92 (0,0)))∧Aside0 (wc.heap[gb279]? = some (.cells #[.int .i64 0,.int .i64 0,.string (rdOf ByteArray.empty t265 x21_1)] 74 (0,0)))∧Aside0 (Below w.heap.size w wc))
            case first =>
             have H:=HC61.out
             clear HC61
             by_cases c62 : x21_1 = (t262.length : Int)
             ·rw [if_pos c62] at H
              have c62b0 : (x21_1 == (t262.length : Int)) = true:=beq_iff_eq.mpr c62
              have c62b1 : (x21_1 != (t262.length : Int)) = false:=bne_eq_false_iff_eq.mpr c62
              clear c62
              (first|rw [c62b0]|(simp only [i64_w,i32_w];rw [c62b0])|skip)
              have H':=Aside0.mk H
              clear H
              have hnb63:=NB274_275.out
              have hnc63:=NB275_274.out
              have hnb64:=NB274_276.out
              have hnc64:=NB276_274.out
              have hnb65:=NB274_279.out
              have hnc65:=NB279_274.out
              have hcz66_0 : wc.cell? ⟨gb274,0,none⟩ = some (.slice Ao10 t262.length co10):=(blk_cell BK274.out 0).trans rfl
              have hcz66_1 : wc.cell? ⟨gb274,1,none⟩ = some (.slice (some ad278) t265.length co13):=(blk_cell BK274.out 1).trans rfl
              have hfz66_0:=blk_frozen BK274.out 0
              have hfz66_1:=blk_frozen BK274.out 1
              go_wp2
              go_meet
              case rel=>exact ⟨_,(true),(by first|rfl|(simp;done)|(simp [*];done)),H',⟨by have:=HK1.out;have:=HJ24.out;have:=HJ45.out;first|omega|exact Nat.le_refl _⟩,⟨by (with_reducible repeat (first|apply Kd.R_alloc|apply Kd.R_drewN|apply Kd.R_drew));exact HO_275000.out⟩,⟨by (with_reducible repeat (first|apply Kd.R_alloc|apply Kd.R_drewN|apply Kd.R_drew));exact HO_275001.out⟩,⟨by (with_reducible repeat (first|apply Kd.R_alloc|apply Kd.R_drewN|apply Kd.R_drew));exact HO_276000.out⟩,⟨by (with_reducible repeat (first|apply Kd.R_alloc|apply Kd.R_drewN|apply Kd.R_drew));exact HO_276001.out⟩,⟨by (with_reducible repeat (first|apply Kd.R_alloc|apply Kd.R_drewN|apply Kd.R_drew));exact HO_277000.out⟩,⟨by (with_reducible repeat first|apply blk_drewN|apply blk_drew|apply blk_alloc);exact BK274.out⟩,⟨by (with_reducible repeat first|apply blk_drewN|apply blk_drew|apply blk_alloc);exact BK275.out⟩,⟨by (with_reducible repeat first|apply blk_drewN|apply blk_drew|apply blk_alloc);exact BK276.out⟩,⟨by (with_reducible repeat first|apply blk_drewN|apply blk_drew|apply blk_alloc);exact BK279.out⟩,⟨by repeat (first|(with_reducible first|exact HB.out|apply below_alloc|apply pw_below_drewN|apply below_drew1|refine below_set ?_ GE274.out|refine below_set ?_ GE275.out|refine below_set ?_ GE276.out|refine below_set ?_ GE279.out)|exact HB.out)⟩⟩
             ·rw [if_neg c62] at H
              have c62b0 : (x21_1 == (t262.length : Int)) = false:=beq_eq_false_iff_ne.mpr c62
              have c62b1 : (x21_1 != (t262.length : Int)) = true:=bne_iff_ne.mpr c62
              (first|rw [c62b0]|(simp only [i64_w,i32_w];rw [c62b0])|skip)
              by_cases c67 : 0 ≤ x21_1
              ·rw [if_pos c67] at H
               have c67b0 : decide (0 ≤ x21_1) = true:=decide_eq_true c67
               clear c67
               by_cases c68 : x21_1 < (t268.length : Int)
               ·rw [if_pos c68] at H
                have c68b0 : decide (x21_1 < (t268.length : Int)) = true:=decide_eq_true c68
                clear c68
                have H':=Aside0.mk H
                clear H
                have hnb69:=NB274_275.out
                have hnc69:=NB275_274.out
                have hnb70:=NB274_276.out
                have hnc70:=NB276_274.out
                have hnb71:=NB274_279.out
                have hnc71:=NB279_274.out
                have hcz72_0 : wc.cell? ⟨gb274,0,none⟩ = some (.slice Ao10 t262.length co10):=(blk_cell BK274.out 0).trans rfl
                have hcz72_1 : wc.cell? ⟨gb274,1,none⟩ = some (.slice (some ad278) t265.length co13):=(blk_cell BK274.out 1).trans rfl
                have hfz72_0:=blk_frozen BK274.out 0
                have hfz72_1:=blk_frozen BK274.out 1
                have hnb73:=NB275_276.out
                have hnc73:=NB276_275.out
                have hnb74:=NB275_279.out
                have hnc74:=NB279_275.out
                have hcz75_0 : wc.cell? ⟨gb275,0,none⟩ = some (.slice Ao14 t268.length co14):=(blk_cell BK275.out 0).trans rfl
                have hcz75_1 : wc.cell? ⟨gb275,1,none⟩ = some (.slice (some ad283) t271.length co16):=(blk_cell BK275.out 1).trans rfl
                have hfz75_0:=blk_frozen BK275.out 0
                have hfz75_1:=blk_frozen BK275.out 1
                have p290 : 0 ≤ (x21_1 : Int):=of_decide_eq_true (by assumption)
                have q290 : x21_1 < (t268.length : Int):=of_decide_eq_true (by assumption)
                obtain ⟨ad290,e290,hx290_0⟩:=Kd.at_bool (Kd.R_reads' HO_276000.out).2.2 x21_1 p290 q290
                cases e290
                replace p290:=eq_true p290
                replace q290:=eq_true q290
                go_wp2
                go_meet
                case rel=>exact ⟨_,(!(rdOf false t268 x21_1)),(by first|rfl|(simp;done)|(simp [*];done)),H',⟨by have:=HK1.out;have:=HJ24.out;have:=HJ45.out;first|omega|exact Nat.le_refl _⟩,⟨by (with_reducible repeat (first|apply Kd.R_alloc|apply Kd.R_drewN|apply Kd.R_drew));exact HO_275000.out⟩,⟨by (with_reducible repeat (first|apply Kd.R_alloc|apply Kd.R_drewN|apply Kd.R_drew));exact HO_275001.out⟩,⟨by (with_reducible repeat (first|apply Kd.R_alloc|apply Kd.R_drewN|apply Kd.R_drew));exact HO_276000.out⟩,⟨by (with_reducible repeat (first|apply Kd.R_alloc|apply Kd.R_drewN|apply Kd.R_drew));exact HO_276001.out⟩,⟨by (with_reducible repeat (first|apply Kd.R_alloc|apply Kd.R_drewN|apply Kd.R_drew));exact HO_277000.out⟩,⟨by (with_reducible repeat first|apply blk_drewN|apply blk_drew|apply blk_alloc);exact BK274.out⟩,⟨by (with_reducible repeat first|apply blk_drewN|apply blk_drew|apply blk_alloc);exact BK275.out⟩,⟨by (with_reducible repeat first|apply blk_drewN|apply blk_drew|apply blk_alloc);exact BK276.out⟩,⟨by (with_reducible repeat first|apply blk_drewN|apply blk_drew|apply blk_alloc);exact BK279.out⟩,⟨by repeat (first|(with_reducible first|exact HB.out|apply below_alloc|apply pw_below_drewN|apply below_drew1|refine below_set ?_ GE274.out|refine below_set ?_ GE275.out|refine below_set ?_ GE276.out|refine below_set ?_ GE279.out)|exact HB.out)⟩⟩
               ·rw [if_neg c68] at H
                exact absurd H (by simp)
              ·rw [if_neg c67] at H
               exact absurd H (by simp)
            case rest =>
             clear HC61
             try clear c1;try clear c2;try clear p2;try clear q2;try clear hx2;try clear c3;try clear c4;try clear c5;try clear c6;try clear c7;try clear c11;try clear c18;try clear c19;try clear c22;try clear c22b0;try clear c23;try clear c23b0;try clear c24;try clear c24b0;try clear c26;try clear c27;try clear p27;try clear q27;try clear hx27;try clear p28;try clear q28;try clear hx28;try clear p29;try clear q29;try clear hx29;try clear c30;try clear c31;try clear c32;try clear c34;try clear c37;try clear c38;try clear c39;try clear c43;try clear c43b0;try clear c44;try clear c44b0;try clear c47;try clear c48;try clear c49;try clear c53;try clear c55;try clear c56;try clear c57;try clear c62;try clear c62b0;try clear c62b1;try clear c63;try clear c64;try clear c65;try clear c67;try clear c67b0;try clear c68;try clear c68b0;try clear c69;try clear c70;try clear c71;try clear c73;try clear c74;try clear c75;try clear hcz12_0;try clear hcz12_1;try clear hcz15_0;try clear hcz15_1;try clear hcz20_0;try clear hcz21_0;try clear hcz21_1;try clear hcz28_0;try clear hcz28_1;try clear hcz33_0;try clear hcz33_1;try clear hcz33_2;try clear hcz40_0;try clear hcz40_1;try clear hcz40_2;try clear hcz50_0;try clear hcz50_1;try clear hcz58_0;try clear hcz58_1;try clear hcz58_2;try clear hcz66_0;try clear hcz66_1;try clear hcz72_0;try clear hcz72_1;try clear hcz75_0;try clear hcz75_1;try clear hfz12_0;try clear hfz12_1;try clear hfz15_0;try clear hfz15_1;try clear hfz20_0;try clear hfz21_0;try clear hfz21_1;try clear hfz28_0;try clear hfz28_1;try clear hfz33_0;try clear hfz33_1;try clear hfz33_2;try clear hfz40_0;try clear hfz40_1;try clear hfz40_2;try clear hfz50_0;try clear hfz50_1;try clear hfz58_0;try clear hfz58_1;try clear hfz58_2;try clear hfz66_0;try clear hfz66_1;try clear hfz72_0;try clear hfz72_1;try clear hfz75_0;try clear hfz75_1;try clear hx278_0;try clear hx283_0;try clear hx290_0;try clear p2;try clear p27;try clear p278;try clear p28;try clear p283;try clear p290;try clear q2;try clear q27;try clear q278;try clear q28;try clear q283;try clear q290
             obtain ⟨kq,x47_60,rfl,HA,HJ60,HO_275000,HO_275001,HO_276000,HO_276001,HO_277000,BK274,BK275,BK276,BK279,HB⟩:=hcut
             cases kq with
             | zero=>exact absurd HA.out (by simp [impl_carry.j3])
             | succ kj60 =>
              have H:=HA.out
              clear HA
              simp only [impl_carry.j3] at H
              by_cases c76 : x47_60 = true
              ·subst c76
               have H1 : (impl_carry.l0 kj60 a2 (t265.length : Int) (wrap64 (x21_1 + 1)) t262 t265 t268 t271 x277000_45) = some (r1,r2):=by rw [if_pos rfl] at H;exact H
               clear H
               have H:=H1
               clear H1
               have H':=Aside0.mk H
               clear H
               go_wp2
               go_roundg kj60
               case measure=>have:=HK1.out;have:=HJ24.out;have:=HJ45.out;have:=HJ60.out;omega
               case rel=>exact ⟨(wrap64 (x21_1 + 1)),(x277000_45),(u277000),(by first|rfl|(simp;done)|(simp [*];done)),H',⟨by have:=HK1.out;have:=HJ24.out;have:=HJ45.out;have:=HJ60.out;omega⟩,⟨by (with_reducible repeat (first|apply Kd.R_alloc|apply Kd.R_drewN|apply Kd.R_drew));exact HO_275000.out⟩,⟨by (with_reducible repeat (first|apply Kd.R_alloc|apply Kd.R_drewN|apply Kd.R_drew));exact HO_275001.out⟩,⟨by (with_reducible repeat (first|apply Kd.R_alloc|apply Kd.R_drewN|apply Kd.R_drew));exact HO_276000.out⟩,⟨by (with_reducible repeat (first|apply Kd.R_alloc|apply Kd.R_drewN|apply Kd.R_drew));exact HO_276001.out⟩,⟨by (with_reducible repeat (first|apply Kd.R_alloc|apply Kd.R_drewN|apply Kd.R_drew));exact Kd.R_mono HO_277000.out (fun _ hk=>trivial)⟩,⟨by (with_reducible repeat first|apply blk_drewN|apply blk_drew|apply blk_alloc);exact BK274.out⟩,⟨by (with_reducible repeat first|apply blk_drewN|apply blk_drew|apply blk_alloc);exact BK275.out⟩,⟨by (with_reducible repeat first|apply blk_drewN|apply blk_drew|apply blk_alloc);exact BK276.out⟩,⟨by repeat (first|(with_reducible first|exact HB.out|apply below_alloc|apply pw_below_drewN|apply below_drew1|refine below_set ?_ GE274.out|refine below_set ?_ GE275.out|refine below_set ?_ GE276.out|refine below_set ?_ GE279.out)|exact HB.out)⟩⟩
              ·replace c76:=Bool.eq_false_iff.mpr c76
               subst c76
               have H1 : (if 0 ≤ x21_1 then (if x21_1 < (t262.length : Int) then (if rdOf false t262 x21_1 = true then ((impl_builder_add.f kj60 x277000_45 1 0 (⟨#[]⟩ : ByteArray)).bind fun t292=>(impl_carry.l0 kj60 a2 (t265.length : Int) (wrap64 (x21_1 + 1)) t262 t265 t268 t271 t292)) else ((impl_builder_add.f kj60 x277000_45 0 1 (⟨#[]⟩ : ByteArray)).bind fun t295=>(impl_carry.l0 kj60 a2 (t265.length : Int) (wrap64 (x21_1 + 1)) t262 t265 t268 t271 t295))) else (none)) else (none)) = some (r1,r2):=by rw [if_neg (show ¬ (false = true) by decide)] at H;exact H
               clear H
               have H:=H1
               clear H1
               by_cases c77 : 0 ≤ x21_1
               ·rw [if_pos c77] at H
                have c77b0 : decide (0 ≤ x21_1) = true:=decide_eq_true c77
                clear c77
                by_cases c78 : x21_1 < (t262.length : Int)
                ·rw [if_pos c78] at H
                 have c78b0 : decide (x21_1 < (t262.length : Int)) = true:=decide_eq_true c78
                 clear c78
                 obtain ⟨bq79,hbq79⟩ : ∃ b_ : Bool,b_ = (rdOf false t262 x21_1):=⟨_,rfl⟩
                 replace H : (if bq79 = true then ((impl_builder_add.f kj60 x277000_45 1 0 (⟨#[]⟩ : ByteArray)).bind fun t292=>(impl_carry.l0 kj60 a2 (t265.length : Int) (wrap64 (x21_1 + 1)) t262 t265 t268 t271 t292)) else ((impl_builder_add.f kj60 x277000_45 0 1 (⟨#[]⟩ : ByteArray)).bind fun t295=>(impl_carry.l0 kj60 a2 (t265.length : Int) (wrap64 (x21_1 + 1)) t262 t265 t268 t271 t295))) = some (r1,r2):=by rw [← hbq79] at H;exact H
                 have Nbq79:=Aside0.mk hbq79
                 clear hbq79
                 by_cases c80 : bq79 = true
                 ·subst c80
                  have H1 : ((impl_builder_add.f kj60 x277000_45 1 0 (⟨#[]⟩ : ByteArray)).bind fun t292=>(impl_carry.l0 kj60 a2 (t265.length : Int) (wrap64 (x21_1 + 1)) t262 t265 t268 t271 t292)) = some (r1,r2):=by rw [if_pos rfl] at H;exact H
                  clear H
                  have H:=H1
                  clear H1
                  replace H:=Option.bind_eq_some_iff.mp H
                  obtain ⟨t292,A810,H⟩:=H
                  replace H : (impl_carry.l0 kj60 a2 (t265.length : Int) (wrap64 (x21_1 + 1)) t262 t265 t268 t271 t292) = some (r1,r2):=H
                  have A81:=Aside0.mk A810
                  clear A810
                  have H':=Aside0.mk H
                  clear H
                  have hnb82:=NB274_275.out
                  have hnc82:=NB275_274.out
                  have hnb83:=NB274_276.out
                  have hnc83:=NB276_274.out
                  have hnb84:=NB274_279.out
                  have hnc84:=NB279_274.out
                  have hcz85_0 : wc.cell? ⟨gb274,0,none⟩ = some (.slice Ao10 t262.length co10):=(blk_cell BK274.out 0).trans rfl
                  have hcz85_1 : wc.cell? ⟨gb274,1,none⟩ = some (.slice (some ad278) t265.length co13):=(blk_cell BK274.out 1).trans rfl
                  have hfz85_0:=blk_frozen BK274.out 0
                  have hfz85_1:=blk_frozen BK274.out 1
                  have p291 : 0 ≤ (x21_1 : Int):=of_decide_eq_true (by assumption)
                  have q291 : x21_1 < (t262.length : Int):=of_decide_eq_true (by assumption)
                  obtain ⟨ad291,e291,hx291_0⟩:=Kd.at_bool (Kd.R_reads' HO_275000.out).2.2 x21_1 p291 q291
                  (try rw [← Nbq79.out] at hx291_0)
                  cases e291
                  replace p291:=eq_true p291
                  replace q291:=eq_true q291
                  obtain ⟨Ao86,co86,eo86⟩:=Kd.R_slice HO_277000.out
                  subst eo86
                  go_wp2_with (first|((with_reducible refine gate_callee (f:=73) rfl ?_);refine goesL_ (some 68) rfl rfl Try.func73 (by kernel_rfl) rfl #[.pointer (some ⟨gb276,0,none⟩),.agg #[.int .i64 1,.int .i64 0,.string (⟨#[]⟩ : ByteArray)]] rfl (by (try simp only [List.map_toArray,List.map_cons,List.map_nil]);first|done|rfl|(simp only [List.length_drop,List.length_take];rfl)) ?_;(with_reducible refine (impl_builder_add.calls kj60 gb276 (fun k_=>some k_ = (.slice Ao86 x277000_45.length co86 : Value).ownBlock) (.slice Ao86 x277000_45.length co86) x277000_45 1 0 (⟨#[]⟩ : ByteArray) t292 w _ ?side1 ?side2 ?side3 ?side4 A81.out).mono ?_);(case side1=>repeat (first|(with_reducible first|exact HB.out|apply below_alloc|apply pw_below_drewN|apply below_drew1|refine below_set ?_ GE274.out|refine below_set ?_ GE275.out|refine below_set ?_ GE276.out|refine below_set ?_ GE279.out)|exact HB.out));(case side2=>exact by (with_reducible repeat first|apply blk_drewN|apply blk_drew|apply blk_alloc);exact BK276.out);(case side3=>exact GE276.out);(case side4=>exact Kd.R_tight rfl HO_277000.out);rintro e w87 ⟨v293,rfl,ho0,hbx,hb,hkp⟩;refine ⟨_,rfl,?_⟩;have n0_:=Aside0.mk (Kd.R_mono (ok':=fun k_=>some k_ ≠ (.slice Ao14 t268.length co14 : Value).ownBlock) (Kd.R_keptB ((Kd.R_types (Kd.R_apart' HO_275000.out (Kd.R_typed HO_277000.out) (by decide)) BK276.out (by decide))) hkp (fun k_ hk_ hs_=>Or.elim hs_ (fun hs_=>(hk_.1.2) hs_) (fun e_=>(hk_.2) e_))) (fun k_ hk_=>hk_.1.1.1));have n1_:=Aside0.mk (Kd.R_mono (ok':=fun k_=>some k_ ≠ (.slice (some ad283) t271.length co16 : Value).ownBlock) (Kd.R_keptB ((Kd.R_types (Kd.R_apart' HO_275001.out (Kd.R_typed HO_277000.out) (by decide)) BK276.out (by decide))) hkp (fun k_ hk_ hs_=>Or.elim hs_ (fun hs_=>(hk_.1.2) hs_) (fun e_=>(hk_.2) e_))) (fun k_ hk_=>hk_.1.1.1));have n2_:=Aside0.mk (Kd.R_mono (ok':=fun k_=>some k_ ≠ (.slice (some ad291) t262.length co10 : Value).ownBlock) (Kd.R_keptB ((Kd.R_types (Kd.R_apart' HO_276000.out (Kd.R_typed HO_277000.out) (by decide)) BK276.out (by decide))) hkp (fun k_ hk_ hs_=>Or.elim hs_ (fun hs_=>(hk_.1.2) hs_) (fun e_=>(hk_.2) e_))) (fun k_ hk_=>hk_.1.1.1));have n3_:=Aside0.mk (Kd.R_mono (ok':=fun k_=>some k_ ≠ (.slice (some ad278) t265.length co13 : Value).ownBlock) (Kd.R_keptB ((Kd.R_types (Kd.R_apart' HO_276001.out (Kd.R_typed HO_277000.out) (by decide)) BK276.out (by decide))) hkp (fun k_ hk_ hs_=>Or.elim hs_ (fun hs_=>(hk_.1.2) hs_) (fun e_=>(hk_.2) e_))) (fun k_ hk_=>hk_.1.1.1));have n4_:=Aside0.mk (blk_kept (g:=gb274) (o:=.cells #[.slice (some ad291) t262.length co10,.slice (some ad278) t265.length co13] 86 (0,0)) (by (with_reducible repeat first|apply blk_drewN|apply blk_drew|apply blk_alloc);exact BK274.out) hkp (fun hs_=>Or.elim hs_ (fun hs_=>(fun e_=>(Kd.R_ne HO_277000.out BK274.out (by decide)) e_) hs_) (fun e_=>NB274_276.out e_)));have n5_:=Aside0.mk (blk_kept (g:=gb275) (o:=.cells #[.slice Ao14 t268.length co14,.slice (some ad283) t271.length co16] 86 (0,0)) (by (with_reducible repeat first|apply blk_drewN|apply blk_drew|apply blk_alloc);exact BK275.out) hkp (fun hs_=>Or.elim hs_ (fun hs_=>(fun e_=>(Kd.R_ne HO_277000.out BK275.out (by decide)) e_) hs_) (fun e_=>NB275_276.out e_)));have n6_:=Aside0.mk (hbx);have n7_:=Aside0.mk (blk_kept (g:=gb279) (o:=.cells #[.int .i64 0,.int .i64 0,.string (rdOf ByteArray.empty t265 x21_1)] 74 (0,0)) (by (with_reducible repeat first|apply blk_drewN|apply blk_drew|apply blk_alloc);exact BK279.out) hkp (fun hs_=>Or.elim hs_ (fun hs_=>(fun e_=>(Kd.R_away HO_277000.out (fun _ hk=>hk)) e_) hs_) (fun e_=>NB279_276.out e_)));have n8_:=Aside0.mk (Kd.R_mono (ok':=fun k_=>k_ ≠ gb279) ho0 (fun k_ hk_=>Or.elim hk_ (fun hs_=>fun e_=>(Kd.R_away HO_277000.out (fun _ hk=>hk)) (by rw [← e_];exact hs_)) (fun hn_=>(Kd.freshB (g:=gb279) (o:=.cells #[.int .i64 0,.int .i64 0,.string (rdOf ByteArray.empty t265 x21_1)] 74 (0,0)) (by (with_reducible repeat first|apply blk_drewN|apply blk_drew|apply blk_alloc);exact BK279.out) k_ hn_))));have n9_:=Aside0.mk (hb);clear HO_275000;clear HO_275001;clear HO_276000;clear HO_276001;clear BK274;clear BK275;clear BK276;clear BK279;clear HB;clear HO_277000;have HO_275000:=n0_;have HO_275001:=n1_;have HO_276000:=n2_;have HO_276001:=n3_;have BK274:=n4_;have BK275:=n5_;have BK276:=n6_;have BK279:=n7_;have HO294:=n8_;have HB:=n9_;clear n0_ n1_ n2_ n3_ n4_ n5_ n6_ n7_ n8_ n9_;(try clear hb);(try clear hkp);(try clear hbx);(try clear ho0)))
                  go_roundg kj60
                  case measure=>have:=HK1.out;have:=HJ24.out;have:=HJ45.out;have:=HJ60.out;omega
                  case rel=>exact ⟨(wrap64 (x21_1 + 1)),(t292),(v293),(by first|rfl|(simp;done)|(simp [*];done)),H',⟨by have:=HK1.out;have:=HJ24.out;have:=HJ45.out;have:=HJ60.out;omega⟩,⟨by (with_reducible repeat (first|apply Kd.R_alloc|apply Kd.R_drewN|apply Kd.R_drew));exact HO_275000.out⟩,⟨by (with_reducible repeat (first|apply Kd.R_alloc|apply Kd.R_drewN|apply Kd.R_drew));exact HO_275001.out⟩,⟨by (with_reducible repeat (first|apply Kd.R_alloc|apply Kd.R_drewN|apply Kd.R_drew));exact HO_276000.out⟩,⟨by (with_reducible repeat (first|apply Kd.R_alloc|apply Kd.R_drewN|apply Kd.R_drew));exact HO_276001.out⟩,⟨by (with_reducible repeat (first|apply Kd.R_alloc|apply Kd.R_drewN|apply Kd.R_drew));exact Kd.R_mono HO294.out (fun _ hk=>trivial)⟩,⟨by (with_reducible repeat first|apply blk_drewN|apply blk_drew|apply blk_alloc);exact BK274.out⟩,⟨by (with_reducible repeat first|apply blk_drewN|apply blk_drew|apply blk_alloc);exact BK275.out⟩,⟨by (with_reducible repeat first|apply blk_drewN|apply blk_drew|apply blk_alloc);exact BK276.out⟩,⟨by repeat (first|(with_reducible first|exact HB.out|apply below_alloc|apply pw_below_drewN|apply below_drew1|refine below_set ?_ GE274.out|refine below_set ?_ GE275.out|refine below_set ?_ GE276.out|refine below_set ?_ GE279.out)|exact HB.out)⟩⟩
                 ·replace c80:=Bool.eq_false_iff.mpr c80
                  subst c80
                  have H1 : ((impl_builder_add.f kj60 x277000_45 0 1 (⟨#[]⟩ : ByteArray)).bind fun t295=>(impl_carry.l0 kj60 a2 (t265.length : Int) (wrap64 (x21_1 + 1)) t262 t265 t268 t271 t295)) = some (r1,r2):=by rw [if_neg (show ¬ (false = true) by decide)] at H;exact H
                  clear H
                  have H:=H1
                  clear H1
                  replace H:=Option.bind_eq_some_iff.mp H
                  obtain ⟨t295,A880,H⟩:=H
                  replace H : (impl_carry.l0 kj60 a2 (t265.length : Int) (wrap64 (x21_1 + 1)) t262 t265 t268 t271 t295) = some (r1,r2):=H
                  have A88:=Aside0.mk A880
                  clear A880
                  have H':=Aside0.mk H
                  clear H
                  have hnb89:=NB274_275.out
                  have hnc89:=NB275_274.out
                  have hnb90:=NB274_276.out
                  have hnc90:=NB276_274.out
                  have hnb91:=NB274_279.out
                  have hnc91:=NB279_274.out
                  have hcz92_0 : wc.cell? ⟨gb274,0,none⟩ = some (.slice Ao10 t262.length co10):=(blk_cell BK274.out 0).trans rfl
                  have hcz92_1 : wc.cell? ⟨gb274,1,none⟩ = some (.slice (some ad278) t265.length co13):=(blk_cell BK274.out 1).trans rfl
                  have hfz92_0:=blk_frozen BK274.out 0
                  have hfz92_1:=blk_frozen BK274.out 1
                  have p291 : 0 ≤ (x21_1 : Int):=of_decide_eq_true (by assumption)
                  have q291 : x21_1 < (t262.length : Int):=of_decide_eq_true (by assumption)
                  obtain ⟨ad291,e291,hx291_0⟩:=Kd.at_bool (Kd.R_reads' HO_275000.out).2.2 x21_1 p291 q291
                  (try rw [← Nbq79.out] at hx291_0)
                  cases e291
                  replace p291:=eq_true p291
                  replace q291:=eq_true q291
                  obtain ⟨Ao93,co93,eo93⟩:=Kd.R_slice HO_277000.out
                  subst eo93
                  go_wp2_with (first|((with_reducible refine gate_callee (f:=73) rfl ?_);refine goesL_ (some 46) rfl rfl Try.func73 (by kernel_rfl) rfl #[.pointer (some ⟨gb276,0,none⟩),.agg #[.int .i64 0,.int .i64 1,.string (⟨#[]⟩ : ByteArray)]] rfl (by (try simp only [List.map_toArray,List.map_cons,List.map_nil]);first|done|rfl|(simp only [List.length_drop,List.length_take];rfl)) ?_;(with_reducible refine (impl_builder_add.calls kj60 gb276 (fun k_=>some k_ = (.slice Ao93 x277000_45.length co93 : Value).ownBlock) (.slice Ao93 x277000_45.length co93) x277000_45 0 1 (⟨#[]⟩ : ByteArray) t295 w _ ?side1 ?side2 ?side3 ?side4 A88.out).mono ?_);(case side1=>repeat (first|(with_reducible first|exact HB.out|apply below_alloc|apply pw_below_drewN|apply below_drew1|refine below_set ?_ GE274.out|refine below_set ?_ GE275.out|refine below_set ?_ GE276.out|refine below_set ?_ GE279.out)|exact HB.out));(case side2=>exact by (with_reducible repeat first|apply blk_drewN|apply blk_drew|apply blk_alloc);exact BK276.out);(case side3=>exact GE276.out);(case side4=>exact Kd.R_tight rfl HO_277000.out);rintro e w94 ⟨v296,rfl,ho0,hbx,hb,hkp⟩;refine ⟨_,rfl,?_⟩;have n0_:=Aside0.mk (Kd.R_mono (ok':=fun k_=>some k_ ≠ (.slice Ao14 t268.length co14 : Value).ownBlock) (Kd.R_keptB ((Kd.R_types (Kd.R_apart' HO_275000.out (Kd.R_typed HO_277000.out) (by decide)) BK276.out (by decide))) hkp (fun k_ hk_ hs_=>Or.elim hs_ (fun hs_=>(hk_.1.2) hs_) (fun e_=>(hk_.2) e_))) (fun k_ hk_=>hk_.1.1.1));have n1_:=Aside0.mk (Kd.R_mono (ok':=fun k_=>some k_ ≠ (.slice (some ad283) t271.length co16 : Value).ownBlock) (Kd.R_keptB ((Kd.R_types (Kd.R_apart' HO_275001.out (Kd.R_typed HO_277000.out) (by decide)) BK276.out (by decide))) hkp (fun k_ hk_ hs_=>Or.elim hs_ (fun hs_=>(hk_.1.2) hs_) (fun e_=>(hk_.2) e_))) (fun k_ hk_=>hk_.1.1.1));have n2_:=Aside0.mk (Kd.R_mono (ok':=fun k_=>some k_ ≠ (.slice (some ad291) t262.length co10 : Value).ownBlock) (Kd.R_keptB ((Kd.R_types (Kd.R_apart' HO_276000.out (Kd.R_typed HO_277000.out) (by decide)) BK276.out (by decide))) hkp (fun k_ hk_ hs_=>Or.elim hs_ (fun hs_=>(hk_.1.2) hs_) (fun e_=>(hk_.2) e_))) (fun k_ hk_=>hk_.1.1.1));have n3_:=Aside0.mk (Kd.R_mono (ok':=fun k_=>some k_ ≠ (.slice (some ad278) t265.length co13 : Value).ownBlock) (Kd.R_keptB ((Kd.R_types (Kd.R_apart' HO_276001.out (Kd.R_typed HO_277000.out) (by decide)) BK276.out (by decide))) hkp (fun k_ hk_ hs_=>Or.elim hs_ (fun hs_=>(hk_.1.2) hs_) (fun e_=>(hk_.2) e_))) (fun k_ hk_=>hk_.1.1.1));have n4_:=Aside0.mk (blk_kept (g:=gb274) (o:=.cells #[.slice (some ad291) t262.length co10,.slice (some ad278) t265.length co13] 86 (0,0)) (by (with_reducible repeat first|apply blk_drewN|apply blk_drew|apply blk_alloc);exact BK274.out) hkp (fun hs_=>Or.elim hs_ (fun hs_=>(fun e_=>(Kd.R_ne HO_277000.out BK274.out (by decide)) e_) hs_) (fun e_=>NB274_276.out e_)));have n5_:=Aside0.mk (blk_kept (g:=gb275) (o:=.cells #[.slice Ao14 t268.length co14,.slice (some ad283) t271.length co16] 86 (0,0)) (by (with_reducible repeat first|apply blk_drewN|apply blk_drew|apply blk_alloc);exact BK275.out) hkp (fun hs_=>Or.elim hs_ (fun hs_=>(fun e_=>(Kd.R_ne HO_277000.out BK275.out (by decide)) e_) hs_) (fun e_=>NB275_276.out e_)));have n6_:=Aside0.mk (hbx);have n7_:=Aside0.mk (blk_kept (g:=gb279) (o:=.cells #[.int .i64 0,.int .i64 0,.string (rdOf ByteArray.empty t265 x21_1)] 74 (0,0)) (by (with_reducible repeat first|apply blk_drewN|apply blk_drew|apply blk_alloc);exact BK279.out) hkp (fun hs_=>Or.elim hs_ (fun hs_=>(fun e_=>(Kd.R_away HO_277000.out (fun _ hk=>hk)) e_) hs_) (fun e_=>NB279_276.out e_)));have n8_:=Aside0.mk (Kd.R_mono (ok':=fun k_=>k_ ≠ gb279) ho0 (fun k_ hk_=>Or.elim hk_ (fun hs_=>fun e_=>(Kd.R_away HO_277000.out (fun _ hk=>hk)) (by rw [← e_];exact hs_)) (fun hn_=>(Kd.freshB (g:=gb279) (o:=.cells #[.int .i64 0,.int .i64 0,.string (rdOf ByteArray.empty t265 x21_1)] 74 (0,0)) (by (with_reducible repeat first|apply blk_drewN|apply blk_drew|apply blk_alloc);exact BK279.out) k_ hn_))));have n9_:=Aside0.mk (hb);clear HO_275000;clear HO_275001;clear HO_276000;clear HO_276001;clear BK274;clear BK275;clear BK276;clear BK279;clear HB;clear HO_277000;have HO_275000:=n0_;have HO_275001:=n1_;have HO_276000:=n2_;have HO_276001:=n3_;have BK274:=n4_;have BK275:=n5_;have BK276:=n6_;have BK279:=n7_;have HO297:=n8_;have HB:=n9_;clear n0_ n1_ n2_ n3_ n4_ n5_ n6_ n7_ n8_ n9_;(try clear hb);(try clear hkp);(try clear hbx);(try clear ho0)))
                  go_roundg kj60
                  case measure=>have:=HK1.out;have:=HJ24.out;have:=HJ45.out;have:=HJ60.out;omega
                  case rel=>exact ⟨(wrap64 (x21_1 + 1)),(t295),(v296),(by first|rfl|(simp;done)|(simp [*];done)),H',⟨by have:=HK1.out;have:=HJ24.out;have:=HJ45.out;have:=HJ60.out;omega⟩,⟨by (with_reducible repeat (first|apply Kd.R_alloc|apply Kd.R_drewN|apply Kd.R_drew));exact HO_275000.out⟩,⟨by (with_reducible repeat (first|apply Kd.R_alloc|apply Kd.R_drewN|apply Kd.R_drew));exact HO_275001.out⟩,⟨by (with_reducible repeat (first|apply Kd.R_alloc|apply Kd.R_drewN|apply Kd.R_drew));exact HO_276000.out⟩,⟨by (with_reducible repeat (first|apply Kd.R_alloc|apply Kd.R_drewN|apply Kd.R_drew));exact HO_276001.out⟩,⟨by (with_reducible repeat (first|apply Kd.R_alloc|apply Kd.R_drewN|apply Kd.R_drew));exact Kd.R_mono HO297.out (fun _ hk=>trivial)⟩,⟨by (with_reducible repeat first|apply blk_drewN|apply blk_drew|apply blk_alloc);exact BK274.out⟩,⟨by (with_reducible repeat first|apply blk_drewN|apply blk_drew|apply blk_alloc);exact BK275.out⟩,⟨by (with_reducible repeat first|apply blk_drewN|apply blk_drew|apply blk_alloc);exact BK276.out⟩,⟨by repeat (first|(with_reducible first|exact HB.out|apply below_alloc|apply pw_below_drewN|apply below_drew1|refine below_set ?_ GE274.out|refine below_set ?_ GE275.out|refine below_set ?_ GE276.out|refine below_set ?_ GE279.out)|exact HB.out)⟩⟩
                ·rw [if_neg c78] at H
                 exact absurd H (by simp)
               ·rw [if_neg c77] at H
                exact absurd H (by simp)
         ·rw [if_neg c44] at H
          exact absurd H (by simp)
        ·rw [if_neg c43] at H
         exact absurd H (by simp)
     ·rw [if_neg c24] at H
      exact absurd H (by simp)
    ·rw [if_neg c23] at H
     exact absurd H (by simp)
   ·rw [if_neg c22] at H
    have c22b0 : decide (x21_1 < (t265.length : Int)) = false:=decide_eq_false c22
    clear c22
    replace H:=Option.bind_eq_some_iff.mp H
    obtain ⟨t277,A950,H⟩:=H
    replace H : (some (x277000_1,t277)) = some (r1,r2):=H
    have A95:=Aside0.mk A950
    clear A950
    simp only [Option.some.injEq,Prod.mk.injEq] at H
    obtain ⟨rfl,rfl⟩:=H
    try go_wp2
    have n0_:=Aside0.mk (Kd.R_drew HO_275000.out)
    have n1_:=Aside0.mk (Kd.R_drew HO_275001.out)
    have n2_:=Aside0.mk (Kd.R_drew HO_276000.out)
    have n3_:=Aside0.mk (Kd.R_drew HO_276001.out)
    have n4_:=Aside0.mk (Kd.R_drew HO_277000.out)
    have n5_:=Aside0.mk (blk_drew BK274.out)
    have n6_:=Aside0.mk (blk_drew BK275.out)
    have n7_:=Aside0.mk (blk_drew BK276.out)
    have n8_:=Aside0.mk (below_drew1 HB.out)
    clear HO_275000
    clear HO_275001
    clear HO_276000
    clear HO_276001
    clear HO_277000
    clear BK274
    clear BK275
    clear BK276
    clear HB
    have HO_275000:=n0_
    have HO_275001:=n1_
    have HO_276000:=n2_
    have HO_276001:=n3_
    have HO_277000:=n4_
    have BK274:=n5_
    have BK275:=n6_
    have BK276:=n7_
    have HB:=n8_
    clear n0_ n1_ n2_ n3_ n4_ n5_ n6_ n7_ n8_
    obtain ⟨Ao97,co97,eo97⟩:=Kd.R_slice HO_277000.out
    (first|subst eo97|(injection eo97 with f1_ f2_ f3_;have f4_:=f1_.symm;have f5_:=f3_.symm;clear f1_ f2_ f3_;subst f4_;subst f5_))
    refine start_ (n:=7) (S:=fun w'=>w'.cell? ⟨gb276,0,none⟩ = some (.slice Ao97 x277000_1.length co97)) (ds:=[]) #[false,false,false,false,false,false,false] (by kernel_rfl) rfl rfl ((blk_cell BK276.out 0).trans rfl) (fun hHeld=>?_)
    generalize wr.drew = w96 at HO_275000 HO_275001 HO_276000 HO_276001 HO_277000 BK274 BK275 BK276 HB hHeld ⊢
    refine pure_ (i:=0) (N:=some 70) (v:=?_) (a':=?_) #[true,false,false,false,false,false,false] rfl rfl (by kernel_rfl) (fun _ _ _ h=>h) (Or.inl ⟨by rfl,?_⟩) ?_ ?_
    rotate_left
    ·intro w'
     go_simp
     with_reducible rfl
    rotate_left
    ·simp only [Act.put,List.setIfInBounds_toArray,List.set_cons_zero,List.set_cons_succ,i64_w,i32_w]
     rfl
    refine pure_ (i:=2) (N:=some 72) (v:=?_) (a':=?_) #[true,false,true,false,false,false,false] rfl rfl (by kernel_rfl) (fun _ _ _ h=>h) (Or.inl ⟨by rfl,?_⟩) ?_ ?_
    rotate_left
    ·intro w'
     go_simp
     with_reducible rfl
    rotate_left
    ·simp only [Act.put,List.setIfInBounds_toArray,List.set_cons_zero,List.set_cons_succ,i64_w,i32_w]
     rfl
    refine take_ (i:=1) (N:=some 71) (v:=?_) (a':=?_) #[true,true,true,false,false,false,false] rfl rfl (by kernel_rfl) (fun _ _ _ h=>h) (Or.inl ⟨by rfl,?_⟩) hHeld ?_ ?_
    rotate_left
    ·intro w' s0
     go_simp
     with_reducible rfl
    rotate_left
    ·simp only [Act.put,List.setIfInBounds_toArray,List.set_cons_zero,List.set_cons_succ,i64_w,i32_w]
     rfl
    refine take_ (i:=3) (N:=some 73) (v:=?_) (a':=?_) #[true,true,true,true,false,false,false] rfl rfl (by kernel_rfl) (fun _ _ _ h=>h) (Or.inl ⟨by rfl,?_⟩) hHeld ?_ ?_
    rotate_left
    ·intro w' s0
     go_simp
     with_reducible rfl
    rotate_left
    ·simp only [Act.put,List.setIfInBounds_toArray,List.set_cons_zero,List.set_cons_succ,i64_w,i32_w]
     rfl
    refine one_ (i:=4) (N:=some 74) #[true,true,true,true,true,false,false] rfl rfl (by kernel_rfl) (by decide) (fun K hK=>?_)
    refine goes_ Try.func18 (by kernel_rfl) rfl #[.slice Ao97 x277000_1.length co97] (by rfl) rfl rfl (by (try simp only [List.map_toArray,List.map_cons,List.map_nil]);first|done|rfl|(simp only [List.length_drop,List.length_take];rfl)) ?_
    with_reducible refine (impl_GoodChange.calls k1 _ _ x277000_1 t277 _ ?side1 ?side2 A95.out).mono ?_
    (case side1=>repeat (first|exact (Kd.R_reads' HO_277000.out).2.2|(with_reducible first|apply Kd.C_alloc|apply Kd.C_drewN|apply Kd.C_drew)))
    (case side2=>exact (Kd.R_reads' HO_277000.out).2.1)
    rintro e w98 ⟨rfl,hb⟩
    refine ⟨_,rfl,?_⟩
    have n0_:=Aside0.mk (Kd.R_below (by (with_reducible repeat (first|apply Kd.R_alloc|apply Kd.R_drewN|apply Kd.R_drew));exact HO_275000.out) hb)
    have n1_:=Aside0.mk (Kd.R_below (by (with_reducible repeat (first|apply Kd.R_alloc|apply Kd.R_drewN|apply Kd.R_drew));exact HO_275001.out) hb)
    have n2_:=Aside0.mk (Kd.R_below (by (with_reducible repeat (first|apply Kd.R_alloc|apply Kd.R_drewN|apply Kd.R_drew));exact HO_276000.out) hb)
    have n3_:=Aside0.mk (Kd.R_below (by (with_reducible repeat (first|apply Kd.R_alloc|apply Kd.R_drewN|apply Kd.R_drew));exact HO_276001.out) hb)
    have n4_:=Aside0.mk (Kd.R_below (by (with_reducible repeat (first|apply Kd.R_alloc|apply Kd.R_drewN|apply Kd.R_drew));exact HO_277000.out) hb)
    have n5_:=Aside0.mk (blk_below (g:=gb274) (o:=.cells #[.slice Ao10 t262.length co10,.slice Ao13 t265.length co13] 86 (0,0)) (by (with_reducible repeat first|apply blk_drewN|apply blk_drew|apply blk_alloc);exact BK274.out) hb)
    have n6_:=Aside0.mk (blk_below (g:=gb275) (o:=.cells #[.slice Ao14 t268.length co14,.slice Ao16 t271.length co16] 86 (0,0)) (by (with_reducible repeat first|apply blk_drewN|apply blk_drew|apply blk_alloc);exact BK275.out) hb)
    have n7_:=Aside0.mk (blk_below (g:=gb276) (o:=.cells #[.slice Ao97 x277000_1.length co97] 92 (0,0)) (by (with_reducible repeat first|apply blk_drewN|apply blk_drew|apply blk_alloc);exact BK276.out) hb)
    have n8_:=Aside0.mk (below_step (by repeat (first|(with_reducible first|exact HB.out|apply below_alloc|apply pw_below_drewN|apply below_drew1|refine below_set ?_ GE274.out|refine below_set ?_ GE275.out|refine below_set ?_ GE276.out)|exact HB.out)) hb)
    clear HO_275000
    clear HO_275001
    clear HO_276000
    clear HO_276001
    clear HO_277000
    clear BK274
    clear BK275
    clear BK276
    clear HB
    have HO_275000:=n0_
    have HO_275001:=n1_
    have HO_276000:=n2_
    have HO_276001:=n3_
    have HO_277000:=n4_
    have BK274:=n5_
    have BK275:=n6_
    have BK276:=n7_
    have HB:=n8_
    clear n0_ n1_ n2_ n3_ n4_ n5_ n6_ n7_ n8_
    (try clear hb)
    (try clear hb2)
    (try clear hk)
    (try clear hi)
    refine hK.out _ _ ((blk_cell BK276.out 0).trans rfl) (fun hHeld=>?_)
    clear hK K
    refine norm_ (a':=?_) ?_ ?_
    rotate_left
    ·show Act.put _ (some 74) _ = _
     simp only [Act.put,List.setIfInBounds_toArray,List.set_cons_zero,List.set_cons_succ,i64_w,i32_w]
     rfl
    refine pure_ (i:=5) (N:=some 6) (v:=?_) (a':=?_) #[true,true,true,true,true,true,false] rfl rfl (by kernel_rfl) (fun _ _ _ h=>h) (Or.inl ⟨by rfl,?_⟩) ?_ ?_
    rotate_left
    ·intro w'
     go_simp
     with_reducible rfl
    rotate_left
    ·simp only [Act.put,List.setIfInBounds_toArray,List.set_cons_zero,List.set_cons_succ,i64_w,i32_w]
     rfl
    refine pure_ (i:=6) (N:=some 7) (v:=?_) (a':=?_) #[true,true,true,true,true,true,true] rfl rfl (by kernel_rfl) (fun _ _ _ h=>h) (Or.inl ⟨by rfl,?_⟩) ?_ ?_
    rotate_left
    ·intro w'
     go_simp
     with_reducible rfl
    rotate_left
    ·simp only [Act.put,List.setIfInBounds_toArray,List.set_cons_zero,List.set_cons_succ,i64_w,i32_w]
     rfl
    refine done_ (by kernel_rfl) ?_
    try go_wp2
    go_ret2
    exact ⟨_,by first|rfl|(simp [*,errW_none,errW_some] <;> rfl),by (with_reducible repeat (first|apply Kd.R_alloc|apply Kd.R_drewN|apply Kd.R_drew));exact HO_277000.out,by repeat (first|(with_reducible first|exact HB.out|apply below_alloc|apply pw_below_drewN|apply below_drew1|refine below_set ?_ GE274.out|refine below_set ?_ GE275.out|refine below_set ?_ GE276.out)|exact HB.out)⟩

end Go.Proofs.Ytebmncdjlmnbnaa.PFnExactCarryChange
