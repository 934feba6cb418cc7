-- Written by a program of this session over the print of the kit (wip/t/patch_print.py).
import Derived.Test.YtebmncdjlmnbnaaPFnExactCarryChangex0
import Derived.Test.YtebmncdjlmnbnaaPFnExactCarryChangex4
import Derived.Test.YtebmncdjlmnbnaaPFnExactCarryChangex5
import Derived.Test.YtebmncdjlmnbnaaPFnExactCarryChangex6
namespace Go.Proofs.Ytebmncdjlmnbnaa.PFnExactCarryChange
open Go.RowKit Go.Proofs.YtebmncdjlmnbnaaW.PrintWords Go.Proofs.YtebmncdjlmnbnaaW.PrintLast Go.Proofs.YtebmncdjlmnbnaaW.PrintMore
attribute [local go_sem] max2_int min2_int max_two min_two max_three min_three max_four min_four   -- for this text's walks alone
set_option linter.unusedVariables false
set_option linter.unusedSimpArgs false

/-! ### spec_l1Carry: function 74 -/
mutual
def spec_l1Carry.l0 : Nat → Bool → List (S74) → List ByteArray → Int → Int → List Bool → List ByteArray → List Bool → List ByteArray → Option ((List (S74)))
 | 0,_,_,_,_,_,_,_,_,_=>none
 | k + 1,x2,x9,x17,x18,x19,x175000,x175001,x182000,x182001=>if x19 < x18 then (if 0 ≤ x19 then (if x19 < (x17.length : Int) then (if x2 = true then ((spec_l1Add.f k x9 0 0 (rdOf ByteArray.empty x17 x19)).bind fun t183=>(spec_l1Carry.j1 k x2 t183 x19 (rdOf ByteArray.empty x17 x19) x17 x18 x19 x175000 x175001 x182000 x182001)) else (spec_l1Carry.j1 k x2 x9 x19 (rdOf ByteArray.empty x17 x19) x17 x18 x19 x175000 x175001 x182000 x182001)) else (none)) else (none)) else (some x9)
def spec_l1Carry.j1 : Nat → Bool → List (S74) → Int → ByteArray → List ByteArray → Int → Int → List Bool → List ByteArray → List Bool → List ByteArray → Option ((List (S74)))
 | 0,_,_,_,_,_,_,_,_,_,_,_=>none
 | k + 1,x2,x9,x10,x11,x17,x18,x19,x175000,x175001,x182000,x182001=>if 0 ≤ x10 then (if x10 < (x182001.length : Int) then ((spec_l1Add.f k x9 ((rdOf ByteArray.empty x182001 x10).size : Int) 0 (⟨#[]⟩ : ByteArray)).bind fun t187=>(if x2 = true then (spec_l1Carry.j2 k x2 t187 x10 x17 x18 x19 x175000 x175001 x182000 x182001) else ((spec_l1Add.f k t187 0 0 x11).bind fun t190=>(spec_l1Carry.j2 k x2 t190 x10 x17 x18 x19 x175000 x175001 x182000 x182001)))) else (none)) else (none)
def spec_l1Carry.j2 : Nat → Bool → List (S74) → Int → List ByteArray → Int → Int → List Bool → List ByteArray → List Bool → List ByteArray → Option ((List (S74)))
 | 0,_,_,_,_,_,_,_,_,_,_=>none
 | k + 1,x2,x9,x10,x17,x18,x19,x175000,x175001,x182000,x182001=>if x10 = (x175000.length : Int) then (spec_l1Carry.j3 k x2 x9 x10 x17 x18 x19 true x175000 x175001 x182000 x182001) else (if 0 ≤ x10 then (if x10 < (x182000.length : Int) then (spec_l1Carry.j3 k x2 x9 x10 x17 x18 x19 (!(rdOf false x182000 x10)) x175000 x175001 x182000 x182001) else (none)) else (none))
def spec_l1Carry.j3 : Nat → Bool → List (S74) → Int → List ByteArray → Int → Int → Bool → List Bool → List ByteArray → List Bool → List ByteArray → Option ((List (S74)))
 | 0,_,_,_,_,_,_,_,_,_,_,_=>none
 | k + 1,x2,x9,x10,x17,x18,x19,x56,x175000,x175001,x182000,x182001=>if x56 = true then (spec_l1Carry.l0 k x2 x9 x17 x18 (wrap64 (x19 + 1)) x175000 x175001 x182000 x182001) else (if 0 ≤ x10 then (if x10 < (x175000.length : Int) then (if rdOf false x175000 x10 = true then ((spec_l1Add.f k x9 1 0 (⟨#[]⟩ : ByteArray)).bind fun t195=>(spec_l1Carry.l0 k x2 t195 x17 x18 (wrap64 (x19 + 1)) x175000 x175001 x182000 x182001)) else ((spec_l1Add.f k x9 0 1 (⟨#[]⟩ : ByteArray)).bind fun t198=>(spec_l1Carry.l0 k x2 t198 x17 x18 (wrap64 (x19 + 1)) x175000 x175001 x182000 x182001))) else (none)) else (none))
end
def spec_l1Carry.f (k : Nat) (l0 : List (S74)) (l1 : List (S74)) (a2 : Bool) : Option ((List (S74))):=(spec_l1Open.f k l0).bind fun bt168=>((spec_l1Open.f k l1).bind fun bt175=>(spec_l1Carry.l0 k a2 ([] : List (S74)) bt168.2 (bt168.2.length : Int) 0 bt168.1 bt168.2 bt175.1 bt175.2))
theorem spec_l1Carry.mono_l : ∀ k,(∀ y0 y1 y2 y3 y4 y5 y6 y7 y8,LeO (spec_l1Carry.l0 k y0 y1 y2 y3 y4 y5 y6 y7 y8) (spec_l1Carry.l0 (k + 1) y0 y1 y2 y3 y4 y5 y6 y7 y8))∧(∀ y0 y1 y2 y3 y4 y5 y6 y7 y8 y9 y10,LeO (spec_l1Carry.j1 k y0 y1 y2 y3 y4 y5 y6 y7 y8 y9 y10) (spec_l1Carry.j1 (k + 1) y0 y1 y2 y3 y4 y5 y6 y7 y8 y9 y10))∧(∀ y0 y1 y2 y3 y4 y5 y6 y7 y8 y9,LeO (spec_l1Carry.j2 k y0 y1 y2 y3 y4 y5 y6 y7 y8 y9) (spec_l1Carry.j2 (k + 1) y0 y1 y2 y3 y4 y5 y6 y7 y8 y9))∧(∀ y0 y1 y2 y3 y4 y5 y6 y7 y8 y9 y10,LeO (spec_l1Carry.j3 k y0 y1 y2 y3 y4 y5 y6 y7 y8 y9 y10) (spec_l1Carry.j3 (k + 1) y0 y1 y2 y3 y4 y5 y6 y7 y8 y9 y10))
 | 0=>⟨fun _ _ _ _ _ _ _ _ _ r h=>by simp [spec_l1Carry.l0] at h,fun _ _ _ _ _ _ _ _ _ _ _ r h=>by simp [spec_l1Carry.j1] at h,fun _ _ _ _ _ _ _ _ _ _ r h=>by simp [spec_l1Carry.j2] at h,fun _ _ _ _ _ _ _ _ _ _ _ r h=>by simp [spec_l1Carry.j3] at h⟩
 | k + 1=>by
  obtain ⟨ih0,ih1,ih2,ih3⟩:=spec_l1Carry.mono_l k
  refine ⟨?_,?_,?_,?_⟩
  ·intro y0 y1 y2 y3 y4 y5 y6 y7 y8
   unfold spec_l1Carry.l0
   repeat' first
   | (with_reducible exact ih0 _ _ _ _ _ _ _ _ _)
   | (with_reducible exact ih1 _ _ _ _ _ _ _ _ _ _ _)
   | (with_reducible exact ih2 _ _ _ _ _ _ _ _ _ _)
   | (with_reducible exact ih3 _ _ _ _ _ _ _ _ _ _ _)
   | (with_reducible exact spec_l1Add.mono _ _ _ _ _)
   | (with_reducible exact spec_l1Open.mono _ _)
   | (with_reducible exact LeO.refl _)
   | (with_reducible exact LeO.none _)
   | (with_reducible refine LeO.ite ?_ ?_)
   | (with_reducible refine LeO.bind ?_ (fun _=>?_))
   | exact ih0 _ _ _ _ _ _ _ _ _
   | exact ih1 _ _ _ _ _ _ _ _ _ _ _
   | exact ih2 _ _ _ _ _ _ _ _ _ _
   | exact ih3 _ _ _ _ _ _ _ _ _ _ _
   | exact spec_l1Add.mono _ _ _ _ _
   | exact spec_l1Open.mono _ _
   | exact LeO.none _
   | refine LeO.ite ?_ ?_
   | refine LeO.bind ?_ (fun _=>?_)
  ·intro y0 y1 y2 y3 y4 y5 y6 y7 y8 y9 y10
   unfold spec_l1Carry.j1
   repeat' first
   | (with_reducible exact ih0 _ _ _ _ _ _ _ _ _)
   | (with_reducible exact ih1 _ _ _ _ _ _ _ _ _ _ _)
   | (with_reducible exact ih2 _ _ _ _ _ _ _ _ _ _)
   | (with_reducible exact ih3 _ _ _ _ _ _ _ _ _ _ _)
   | (with_reducible exact spec_l1Add.mono _ _ _ _ _)
   | (with_reducible exact spec_l1Open.mono _ _)
   | (with_reducible exact LeO.refl _)
   | (with_reducible exact LeO.none _)
   | (with_reducible refine LeO.ite ?_ ?_)
   | (with_reducible refine LeO.bind ?_ (fun _=>?_))
   | exact ih0 _ _ _ _ _ _ _ _ _
   | exact ih1 _ _ _ _ _ _ _ _ _ _ _
   | exact ih2 _ _ _ _ _ _ _ _ _ _
   | exact ih3 _ _ _ _ _ _ _ _ _ _ _
   | exact spec_l1Add.mono _ _ _ _ _
   | exact spec_l1Open.mono _ _
   | exact LeO.none _
   | refine LeO.ite ?_ ?_
   | refine LeO.bind ?_ (fun _=>?_)
  ·intro y0 y1 y2 y3 y4 y5 y6 y7 y8 y9
   unfold spec_l1Carry.j2
   repeat' first
   | (with_reducible exact ih0 _ _ _ _ _ _ _ _ _)
   | (with_reducible exact ih1 _ _ _ _ _ _ _ _ _ _ _)
   | (with_reducible exact ih2 _ _ _ _ _ _ _ _ _ _)
   | (with_reducible exact ih3 _ _ _ _ _ _ _ _ _ _ _)
   | (with_reducible exact spec_l1Add.mono _ _ _ _ _)
   | (with_reducible exact spec_l1Open.mono _ _)
   | (with_reducible exact LeO.refl _)
   | (with_reducible exact LeO.none _)
   | (with_reducible refine LeO.ite ?_ ?_)
   | (with_reducible refine LeO.bind ?_ (fun _=>?_))
   | exact ih0 _ _ _ _ _ _ _ _ _
   | exact ih1 _ _ _ _ _ _ _ _ _ _ _
   | exact ih2 _ _ _ _ _ _ _ _ _ _
   | exact ih3 _ _ _ _ _ _ _ _ _ _ _
   | exact spec_l1Add.mono _ _ _ _ _
   | exact spec_l1Open.mono _ _
   | exact LeO.none _
   | refine LeO.ite ?_ ?_
   | refine LeO.bind ?_ (fun _=>?_)
  ·intro y0 y1 y2 y3 y4 y5 y6 y7 y8 y9 y10
   unfold spec_l1Carry.j3
   repeat' first
   | (with_reducible exact ih0 _ _ _ _ _ _ _ _ _)
   | (with_reducible exact ih1 _ _ _ _ _ _ _ _ _ _ _)
   | (with_reducible exact ih2 _ _ _ _ _ _ _ _ _ _)
   | (with_reducible exact ih3 _ _ _ _ _ _ _ _ _ _ _)
   | (with_reducible exact spec_l1Add.mono _ _ _ _ _)
   | (with_reducible exact spec_l1Open.mono _ _)
   | (with_reducible exact LeO.refl _)
   | (with_reducible exact LeO.none _)
   | (with_reducible refine LeO.ite ?_ ?_)
   | (with_reducible refine LeO.bind ?_ (fun _=>?_))
   | exact ih0 _ _ _ _ _ _ _ _ _
   | exact ih1 _ _ _ _ _ _ _ _ _ _ _
   | exact ih2 _ _ _ _ _ _ _ _ _ _
   | exact ih3 _ _ _ _ _ _ _ _ _ _ _
   | exact spec_l1Add.mono _ _ _ _ _
   | exact spec_l1Open.mono _ _
   | exact LeO.none _
   | refine LeO.ite ?_ ?_
   | refine LeO.bind ?_ (fun _=>?_)
theorem spec_l1Carry.mono : ∀ a0 a1 a2 k,LeO (spec_l1Carry.f k a0 a1 a2) (spec_l1Carry.f (k + 1) a0 a1 a2):=by
 intro a0 a1 a2 k
 obtain ⟨ih0,ih1,ih2,ih3⟩:=spec_l1Carry.mono_l k
 unfold spec_l1Carry.f
 repeat' first
   | (with_reducible exact ih0 _ _ _ _ _ _ _ _ _)
   | (with_reducible exact ih1 _ _ _ _ _ _ _ _ _ _ _)
   | (with_reducible exact ih2 _ _ _ _ _ _ _ _ _ _)
   | (with_reducible exact ih3 _ _ _ _ _ _ _ _ _ _ _)
   | (with_reducible exact spec_l1Add.mono _ _ _ _ _)
   | (with_reducible exact spec_l1Open.mono _ _)
   | (with_reducible exact LeO.refl _)
   | (with_reducible exact LeO.none _)
   | (with_reducible refine LeO.ite ?_ ?_)
   | (with_reducible refine LeO.bind ?_ (fun _=>?_))
   | exact ih0 _ _ _ _ _ _ _ _ _
   | exact ih1 _ _ _ _ _ _ _ _ _ _ _
   | exact ih2 _ _ _ _ _ _ _ _ _ _
   | exact ih3 _ _ _ _ _ _ _ _ _ _ _
   | exact spec_l1Add.mono _ _ _ _ _
   | exact spec_l1Open.mono _ _
   | exact LeO.none _
   | refine LeO.ite ?_ ?_
   | refine LeO.bind ?_ (fun _=>?_)
set_option maxHeartbeats 8000000 in
set_option maxRecDepth 100000 in
theorem spec_l1Carry.calls (k : Nat) (A0 : Option Addr) (c0 : Nat) (l0 : List (S74)) (A1 : Option Addr) (c1 : Nat) (l1 : List (S74)) (a2 : Bool) (r : List (S74)) (w : World) (hr0 : Kd.C k74 w A0 l0.length l0) (hc0 : l0.length ≤ c0) (hr1 : Kd.C k74 w A1 l1.length l1) (hc1 : l1.length ≤ c1) (h : spec_l1Carry.f k l0 l1 a2 = some r) :
  Calls Try.prog 74 #[.slice A0 l0.length c0,.slice A1 l1.length c1,.bool a2] w fun e w'=>∃ v0_ : Value,e = .returned (v0_)∧Kd.R k74 74 w' w.heap.size (fun _=>True) v0_ r∧Below w.heap.size w w':=by
 have hu110:=Try.underlying110
 have hu74:=Try.underlying74
 have HR0:=Aside0.mk hr0
 have HC0:=Aside0.mk hc0
 clear hr0 hc0
 have HR1:=Aside0.mk hr1
 have HC1:=Aside0.mk hc1
 clear hr1 hc1
 have HB:=Aside0.mk (Below.refl w.heap.size w)
 have H : ((spec_l1Open.f k l0).bind fun bt168=>((spec_l1Open.f k l1).bind fun bt175=>(spec_l1Carry.l0 k a2 ([] : List (S74)) bt168.2 (bt168.2.length : Int) 0 bt168.1 bt168.2 bt175.1 bt175.2))) = some r:=h
 clear h
 replace H:=Option.bind_eq_some_iff.mp H
 obtain ⟨⟨t168,t171⟩,A40,H⟩:=H
 replace H : ((spec_l1Open.f k l1).bind fun bt175=>(spec_l1Carry.l0 k a2 ([] : List (S74)) t171 (t171.length : Int) 0 t168 t171 bt175.1 bt175.2)) = some r:=H
 have A4:=Aside0.mk A40
 clear A40
 replace H:=Option.bind_eq_some_iff.mp H
 obtain ⟨⟨t175,t178⟩,A50,H⟩:=H
 replace H : (spec_l1Carry.l0 k a2 ([] : List (S74)) t171 (t171.length : Int) 0 t168 t171 t175 t178) = some r:=H
 have A5:=Aside0.mk A50
 clear A50
 have H':=Aside0.mk H
 clear H
 go_enter Try.func74,Try.ntmps74
 go_wp2_with (first|((with_reducible refine gate_callee (f:=88) rfl ?_);refine goesL_ (some 13) rfl rfl Try.func88 (by kernel_rfl) rfl #[.slice A0 l0.length c0] rfl (by (try simp only [List.map_toArray,List.map_cons,List.map_nil]);first|done|rfl|(simp only [List.length_drop,List.length_take];rfl)) ?_;(with_reducible refine (spec_l1Open.calls k _ _ l0 t168 t171 _ ?side1 ?side2 A4.out).mono ?_);(case side1=>repeat (first|exact HR0.out|(with_reducible first|apply Kd.C_alloc|apply Kd.C_drewN|apply Kd.C_drew)));(case side2=>exact HC0.out);rintro e w6 ⟨v169,v172,rfl,ho0,ho1,hb⟩;refine ⟨_,rfl,?_⟩;have n0_:=Aside0.mk (Kd.R_lower ho0 (below_size (by repeat (first|exact HB.out|apply below_alloc|apply pw_below_drewN|apply below_drew1))));have n1_:=Aside0.mk (Kd.R_lower ho1 (below_size (by repeat (first|exact HB.out|apply below_alloc|apply pw_below_drewN|apply below_drew1))));have n2_:=Aside0.mk (below_step (by repeat (first|exact HB.out|apply below_alloc|apply pw_below_drewN|apply below_drew1)) hb);clear HB;have HO170:=n0_;have HO173:=n1_;have HB:=n2_;clear n0_ n1_ n2_;(try clear hb);(try clear hb2);(try clear hk);(try clear hi);(try clear ho0);(try clear ho1))|((with_reducible refine gate_dst (N:=7) rfl ?_);refine box_event ?hg (N:=7) ?hd (cs:=#[.slice none 0 0,.slice none 0 0]) (t:=110) ?hr ?_;(case hd=>rfl);(case hg=>rfl);(case hr=>first|(go_simp;done)|(go_simp;rfl));intro gb174 hg w7 hbox hb;have n0_:=Aside0.mk (Kd.R_below (by (with_reducible repeat (first|apply Kd.R_alloc|apply Kd.R_drewN|apply Kd.R_drew));exact HO170.out) hb);have n1_:=Aside0.mk (Kd.R_below (by (with_reducible repeat (first|apply Kd.R_alloc|apply Kd.R_drewN|apply Kd.R_drew));exact HO173.out) hb);have n2_:=Aside0.mk (below_step (by repeat (first|exact HB.out|apply below_alloc|apply pw_below_drewN|apply below_drew1)) hb);have n3_:=Aside0.mk (hbox);have n4_:=Aside0.mk ((by rw [hg];exact (below_size (by repeat (first|exact HB.out|apply below_alloc|apply pw_below_drewN|apply below_drew1))) : w.heap.size ≤ gb174));have n5_:=Aside0.mk ((by rw [hg];exact (below_size (by repeat (first|exact HB.out|apply below_alloc|apply pw_below_drewN|apply below_drew1))) : w.heap.size ≤ gb174));clear HO170;clear HO173;clear HB;have HO170:=n0_;have HO173:=n1_;have HB:=n2_;have BK174:=n3_;have GW174:=n4_;have GE174:=n5_;clear n0_ n1_ n2_ n3_ n4_ n5_;clear hb hbox hg;obtain ⟨Ao8,co8,eo8⟩:=Kd.R_slice HO170.out;subst eo8;have hcz9_0 : w7.cell? ⟨gb174,0,none⟩ = some (.slice none 0 0):=(blk_cell BK174.out 0).trans rfl;have hcz9_1 : w7.cell? ⟨gb174,1,none⟩ = some (.slice none 0 0):=(blk_cell BK174.out 1).trans rfl;have hfz9_0:=blk_frozen BK174.out 0;have hfz9_1:=blk_frozen BK174.out 1;obtain ⟨Ao10,co10,eo10⟩:=Kd.R_slice HO173.out;subst eo10)|((with_reducible refine gate_callee (f:=88) rfl ?_);refine goesL_ (some 15) rfl rfl Try.func88 (by kernel_rfl) rfl #[.slice A1 l1.length c1] rfl (by (try simp only [List.map_toArray,List.map_cons,List.map_nil]);first|done|rfl|(simp only [List.length_drop,List.length_take];rfl)) ?_;(with_reducible refine (spec_l1Open.calls k _ _ l1 t175 t178 _ ?side1 ?side2 A5.out).mono ?_);(case side1=>exact Kd.C_below HR1.out (by repeat (first|(with_reducible first|exact HB.out|apply below_alloc|apply pw_below_drewN|apply below_drew1|refine below_set ?_ GE174.out)|exact HB.out)));(case side2=>exact HC1.out);rintro e w11 ⟨v176,v179,rfl,ho0,ho1,hb⟩;refine ⟨_,rfl,?_⟩;have n0_:=Aside0.mk (Kd.R_elder' (by (with_reducible repeat (first|apply Kd.R_alloc|apply Kd.R_drewN|apply Kd.R_drew));exact (Kd.R_mono (Kd.R_far (p:=⟨gb174,1,none⟩) (Kd.R_far (p:=⟨gb174,0,none⟩) (Kd.R_types HO170.out BK174.out (by decide)) (fun _ hk=>hk.2) (.slice Ao8 t168.length co8)) (fun _ hk=>hk.2) (.slice Ao10 t171.length co10)) (fun _ h_=>h_.1))) (Kd.R_base ho0) hb);have n1_:=Aside0.mk (Kd.R_elder' (by (with_reducible repeat (first|apply Kd.R_alloc|apply Kd.R_drewN|apply Kd.R_drew));exact (Kd.R_mono (Kd.R_far (p:=⟨gb174,1,none⟩) (Kd.R_far (p:=⟨gb174,0,none⟩) (Kd.R_types HO173.out BK174.out (by decide)) (fun _ hk=>hk.2) (.slice Ao8 t168.length co8)) (fun _ hk=>hk.2) (.slice Ao10 t171.length co10)) (fun _ h_=>h_.1))) (Kd.R_base ho1) hb);have n2_:=Aside0.mk (Kd.R_lower (Kd.R_new' ho0 (Kd.R_lt (by (with_reducible repeat (first|apply Kd.R_alloc|apply Kd.R_drewN|apply Kd.R_drew));exact (Kd.R_mono (Kd.R_far (p:=⟨gb174,1,none⟩) (Kd.R_far (p:=⟨gb174,0,none⟩) (Kd.R_types HO170.out BK174.out (by decide)) (fun _ hk=>hk.2) (.slice Ao8 t168.length co8)) (fun _ hk=>hk.2) (.slice Ao10 t171.length co10)) (fun _ h_=>h_.1))))) (below_size (by repeat (first|(with_reducible first|exact HB.out|apply below_alloc|apply pw_below_drewN|apply below_drew1|refine below_set ?_ GE174.out)|exact HB.out))));have n3_:=Aside0.mk (Kd.R_lower (Kd.R_new' ho1 (Kd.R_lt (by (with_reducible repeat (first|apply Kd.R_alloc|apply Kd.R_drewN|apply Kd.R_drew));exact (Kd.R_mono (Kd.R_far (p:=⟨gb174,1,none⟩) (Kd.R_far (p:=⟨gb174,0,none⟩) (Kd.R_types HO173.out BK174.out (by decide)) (fun _ hk=>hk.2) (.slice Ao8 t168.length co8)) (fun _ hk=>hk.2) (.slice Ao10 t171.length co10)) (fun _ h_=>h_.1))))) (below_size (by repeat (first|(with_reducible first|exact HB.out|apply below_alloc|apply pw_below_drewN|apply below_drew1|refine below_set ?_ GE174.out)|exact HB.out))));have n4_:=Aside0.mk (blk_below (g:=gb174) (o:=.cells #[.slice Ao8 t168.length co8,.slice Ao10 t171.length co10] 110 (0,0)) (by (with_reducible repeat first|apply blk_drewN|apply blk_drew|apply blk_alloc);refine blk_put (cs:=#[.slice Ao8 t168.length co8,.slice none 0 0]) ?_ 1 _ rfl;(with_reducible repeat first|apply blk_drewN|apply blk_drew|apply blk_alloc);refine blk_put (cs:=#[.slice none 0 0,.slice none 0 0]) ?_ 0 _ rfl;(with_reducible repeat first|apply blk_drewN|apply blk_drew|apply blk_alloc);exact BK174.out) hb);have n5_:=Aside0.mk (below_step (by repeat (first|(with_reducible first|exact HB.out|apply below_alloc|apply pw_below_drewN|apply below_drew1|refine below_set ?_ GE174.out)|exact HB.out)) hb);clear HO170;clear HO173;clear BK174;clear HB;have HO170:=n0_;have HO173:=n1_;have HO177:=n2_;have HO180:=n3_;have BK174:=n4_;have HB:=n5_;clear n0_ n1_ n2_ n3_ n4_ n5_;(try clear hb);(try clear hb2);(try clear hk);(try clear hi);(try clear ho0);(try clear ho1))|((with_reducible refine gate_dst (N:=8) rfl ?_);refine box_event ?hg (N:=8) ?hd (cs:=#[.slice none 0 0,.slice none 0 0]) (t:=110) ?hr ?_;(case hd=>rfl);(case hg=>rfl);(case hr=>first|(go_simp;done)|(go_simp;rfl));intro gb181 hg w12 hbox hb;have n0_:=Aside0.mk (Kd.R_below (by (with_reducible repeat (first|apply Kd.R_alloc|apply Kd.R_drewN|apply Kd.R_drew));exact HO170.out) hb);have n1_:=Aside0.mk (Kd.R_below (by (with_reducible repeat (first|apply Kd.R_alloc|apply Kd.R_drewN|apply Kd.R_drew));exact HO173.out) hb);have n2_:=Aside0.mk (Kd.R_below (by (with_reducible repeat (first|apply Kd.R_alloc|apply Kd.R_drewN|apply Kd.R_drew));exact HO177.out) hb);have n3_:=Aside0.mk (Kd.R_below (by (with_reducible repeat (first|apply Kd.R_alloc|apply Kd.R_drewN|apply Kd.R_drew));exact HO180.out) hb);have n4_:=Aside0.mk (blk_below (g:=gb174) (o:=.cells #[.slice Ao8 t168.length co8,.slice Ao10 t171.length co10] 110 (0,0)) (by (with_reducible repeat first|apply blk_drewN|apply blk_drew|apply blk_alloc);exact BK174.out) hb);have n5_:=Aside0.mk (below_step (by repeat (first|(with_reducible first|exact HB.out|apply below_alloc|apply pw_below_drewN|apply below_drew1|refine below_set ?_ GE174.out)|exact HB.out)) hb);have n6_:=Aside0.mk (hbox);have n7_:=Aside0.mk ((by rw [hg];exact (below_size (by repeat (first|(with_reducible first|exact HB.out|apply below_alloc|apply pw_below_drewN|apply below_drew1|refine below_set ?_ GE174.out)|exact HB.out))) : w.heap.size ≤ gb181));have n8_:=Aside0.mk ((by rw [hg];exact (below_size (by repeat (first|(with_reducible first|exact HB.out|apply below_alloc|apply pw_below_drewN|apply below_drew1|refine below_set ?_ GE174.out)|exact HB.out))) : w.heap.size ≤ gb181));have n9_:=Aside0.mk ((by rw [hg];exact Nat.ne_of_lt (blk_lt (g:=gb174) (o:=.cells #[.slice Ao8 t168.length co8,.slice Ao10 t171.length co10] 110 (0,0)) (by (with_reducible repeat first|apply blk_drewN|apply blk_drew|apply blk_alloc);exact BK174.out)) : gb174 ≠ gb181));have n10_:=Aside0.mk ((by rw [hg];exact Nat.ne_of_gt (blk_lt (g:=gb174) (o:=.cells #[.slice Ao8 t168.length co8,.slice Ao10 t171.length co10] 110 (0,0)) (by (with_reducible repeat first|apply blk_drewN|apply blk_drew|apply blk_alloc);exact BK174.out)) : gb181 ≠ gb174));clear HO170;clear HO173;clear HO177;clear HO180;clear BK174;clear HB;have HO170:=n0_;have HO173:=n1_;have HO177:=n2_;have HO180:=n3_;have BK174:=n4_;have HB:=n5_;have BK181:=n6_;have GW181:=n7_;have GE181:=n8_;have NB174_181:=n9_;have NB181_174:=n10_;clear n0_ n1_ n2_ n3_ n4_ n5_ n6_ n7_ n8_ n9_ n10_;clear hb hbox hg;obtain ⟨Ao13,co13,eo13⟩:=Kd.R_slice HO177.out;subst eo13;have hnb14:=NB181_174.out;have hnc14:=NB174_181.out;have hcz15_0 : w12.cell? ⟨gb181,0,none⟩ = some (.slice none 0 0):=(blk_cell BK181.out 0).trans rfl;have hcz15_1 : w12.cell? ⟨gb181,1,none⟩ = some (.slice none 0 0):=(blk_cell BK181.out 1).trans rfl;have hfz15_0:=blk_frozen BK181.out 0;have hfz15_1:=blk_frozen BK181.out 1;obtain ⟨Ao16,co16,eo16⟩:=Kd.R_slice HO180.out;subst eo16;have hcz17_0 : w12.cell? ⟨gb174,0,none⟩ = some (.slice Ao8 t168.length co8):=(blk_cell BK174.out 0).trans rfl;have hcz17_1 : w12.cell? ⟨gb174,1,none⟩ = some (.slice Ao10 t171.length co10):=(blk_cell BK174.out 1).trans rfl;have hfz17_0:=blk_frozen BK174.out 0;have hfz17_1:=blk_frozen BK174.out 1))
 go_loopg [9,19] k (fun kq v9 v19 w'=>∃ (x9_1 : List (S74)) (x19_1 : Int),v19 = .int .i64 x19_1∧Aside0 (spec_l1Carry.l0 kq a2 x9_1 t171 (t171.length : Int) x19_1 t168 t171 t175 t178 = some r)∧Aside0 (kq ≤ k)∧Aside0 (Kd.R k74 74 w' w.heap.size (fun _=>True) v9 x9_1)∧Aside0 (Kd.R Kd.string 9 w' w.heap.size (fun k_=>some k_ ≠ ((.slice Ao16 t178.length co16) : Value).ownBlock) (.slice Ao10 t171.length co10) t171)∧Aside0 (Kd.R Kd.bool 4 w' w.heap.size (fun k_=>some k_ ≠ ((.slice Ao13 t175.length co13) : Value).ownBlock) (.slice Ao8 t168.length co8) t168)∧Aside0 (Kd.R Kd.string 9 w' w.heap.size (fun k_=>some k_ ≠ ((.slice Ao16 t178.length co16) : Value).ownBlock) (.slice Ao10 t171.length co10) t171)∧Aside0 (Kd.R Kd.bool 4 w' w.heap.size (fun k_=>some k_ ≠ ((.slice Ao8 t168.length co8) : Value).ownBlock) (.slice Ao13 t175.length co13) t175)∧Aside0 (Kd.R Kd.string 9 w' w.heap.size (fun k_=>some k_ ≠ ((.slice Ao10 t171.length co10) : Value).ownBlock∧some k_ ≠ ((.slice Ao10 t171.length co10) : Value).ownBlock) (.slice Ao16 t178.length co16) t178)∧Aside0 (w'.heap[gb174]? = some (.cells #[(.slice Ao8 t168.length co8),(.slice Ao10 t171.length co10)] 110 (0,0)))∧Aside0 (w'.heap[gb181]? = some (.cells #[(.slice Ao13 t175.length co13),(.slice Ao16 t178.length co16)] 110 (0,0)))∧Aside0 (Below w.heap.size w w'))
 case atStart=>exact ⟨(([] : List (S74))),(0),(by first|rfl|(simp;done)|(simp [*];done)),H',⟨Nat.le_refl _⟩,⟨by first|exact Kd.R_nil _ _ _ _ _|exact Kd.N_nil _ _ _ _ _|exact Kd.V_nil _ _ _ _ _|exact Kd.Q_nil _ _ _ _ _|exact Kd.S_nil _ _ _ _ _⟩,⟨by (with_reducible repeat (first|apply Kd.R_alloc|apply Kd.R_drewN|apply Kd.R_drew));exact Kd.R_mono (Kd.R_far (p:=⟨gb181,1,none⟩) (Kd.R_far (p:=⟨gb181,0,none⟩) (Kd.R_types HO173.out BK181.out (by decide)) (fun _ hk=>hk.2) (.slice Ao13 t175.length co13)) (fun _ hk=>hk.2) (.slice Ao16 t178.length co16)) (fun _ hk=>hk.1.2)⟩,⟨by (with_reducible repeat (first|apply Kd.R_alloc|apply Kd.R_drewN|apply Kd.R_drew));exact Kd.R_mono (Kd.R_far (p:=⟨gb181,1,none⟩) (Kd.R_far (p:=⟨gb181,0,none⟩) (Kd.R_types HO170.out BK181.out (by decide)) (fun _ hk=>hk.2) (.slice Ao13 t175.length co13)) (fun _ hk=>hk.2) (.slice Ao16 t178.length co16)) (fun _ hk=>hk.1.2)⟩,⟨by (with_reducible repeat (first|apply Kd.R_alloc|apply Kd.R_drewN|apply Kd.R_drew));exact Kd.R_mono (Kd.R_far (p:=⟨gb181,1,none⟩) (Kd.R_far (p:=⟨gb181,0,none⟩) (Kd.R_types HO173.out BK181.out (by decide)) (fun _ hk=>hk.2) (.slice Ao13 t175.length co13)) (fun _ hk=>hk.2) (.slice Ao16 t178.length co16)) (fun _ hk=>hk.1.2)⟩,⟨by (with_reducible repeat (first|apply Kd.R_alloc|apply Kd.R_drewN|apply Kd.R_drew));exact Kd.R_mono (Kd.R_far (p:=⟨gb181,1,none⟩) (Kd.R_far (p:=⟨gb181,0,none⟩) (Kd.R_types HO177.out BK181.out (by decide)) (fun _ hk=>hk.2) (.slice Ao13 t175.length co13)) (fun _ hk=>hk.2) (.slice Ao16 t178.length co16)) (fun _ hk=>hk.1.2)⟩,⟨by (with_reducible repeat (first|apply Kd.R_alloc|apply Kd.R_drewN|apply Kd.R_drew));exact Kd.R_mono (Kd.R_far (p:=⟨gb181,1,none⟩) (Kd.R_far (p:=⟨gb181,0,none⟩) (Kd.R_types HO180.out BK181.out (by decide)) (fun _ hk=>hk.2) (.slice Ao13 t175.length co13)) (fun _ hk=>hk.2) (.slice Ao16 t178.length co16)) (fun _ hk=>⟨hk.1.2,hk.1.2⟩)⟩,⟨by (with_reducible repeat first|apply blk_drewN|apply blk_drew|apply blk_alloc);refine blk_far ?_ NB174_181.out _;(with_reducible repeat first|apply blk_drewN|apply blk_drew|apply blk_alloc);refine blk_far ?_ NB174_181.out _;(with_reducible repeat first|apply blk_drewN|apply blk_drew|apply blk_alloc);exact BK174.out⟩,⟨by (with_reducible repeat first|apply blk_drewN|apply blk_drew|apply blk_alloc);refine blk_put (cs:=#[.slice Ao13 t175.length co13,.slice none 0 0]) ?_ 1 _ rfl;(with_reducible repeat first|apply blk_drewN|apply blk_drew|apply blk_alloc);refine blk_put (cs:=#[.slice none 0 0,.slice none 0 0]) ?_ 0 _ rfl;(with_reducible repeat first|apply blk_drewN|apply blk_drew|apply blk_alloc);exact BK181.out⟩,⟨by repeat (first|(with_reducible first|exact HB.out|apply below_alloc|apply pw_below_drewN|apply below_drew1|refine below_set ?_ GE174.out|refine below_set ?_ GE181.out)|exact HB.out)⟩⟩
 case round =>
  clear H'
  try clear c1;try clear p2;try clear c7;try clear c8;try clear c14;try clear hcz15_0;try clear hcz15_1;try clear hcz17_0;try clear hcz17_1;try clear hcz9_0;try clear hcz9_1;try clear hfz15_0;try clear hfz15_1;try clear hfz17_0;try clear hfz17_1;try clear hfz9_0;try clear hfz9_1
  obtain ⟨x9_1,x19_1,rfl,HA,HK1,HO_9,HO_17,HO_175000,HO_175001,HO_182000,HO_182001,BK174,BK181,HB⟩:=hrel
  cases gk with
  | zero=>exact absurd HA.out (by simp [spec_l1Carry.l0])
  | succ k1 =>
   have H:=HA.out
   clear HA
   simp only [spec_l1Carry.l0] at H
   by_cases c18 : x19_1 < (t171.length : Int)
   ·rw [if_pos c18] at H
    have c18b0 : decide (x19_1 < (t171.length : Int)) = true:=decide_eq_true c18
    clear c18
    by_cases c19 : 0 ≤ x19_1
    ·rw [if_pos c19] at H
     have c19b0 : decide (0 ≤ x19_1) = true:=decide_eq_true c19
     clear c19
     by_cases c20 : x19_1 < (t171.length : Int)
     ·rw [if_pos c20] at H
      have c20b0 : decide (x19_1 < (t171.length : Int)) = true:=decide_eq_true c20
      clear c20
      have HC21:=Aside0.mk H
      clear H
      have p182 : 0 ≤ (x19_1 : Int):=of_decide_eq_true (by assumption)
      have q182 : x19_1 < (t171.length : Int):=of_decide_eq_true (by assumption)
      obtain ⟨ad182,e182,hx182_0⟩:=Kd.at_string (Kd.R_reads' HO_17.out).2.2 x19_1 p182 q182
      cases e182
      replace p182:=eq_true p182
      replace q182:=eq_true q182
      go_upto_if 24 with (fail)
      go_cut [9] (fun v9 wc=>∃ (kq : Nat) (x9_20 : List (S74)),Aside0 (spec_l1Carry.j1 kq a2 x9_20 x19_1 (rdOf ByteArray.empty t171 x19_1) t171 (t171.length : Int) x19_1 t168 t171 t175 t178 = some r)∧Aside0 (kq ≤ k1)∧Aside0 (Kd.R k74 74 wc w.heap.size (fun _=>True) v9 x9_20)∧Aside0 (Kd.R Kd.string 9 wc w.heap.size (fun k_=>some k_ ≠ ((.slice Ao16 t178.length co16) : Value).ownBlock) (.slice (some ad182) t171.length co10) t171)∧Aside0 (Kd.R Kd.bool 4 wc w.heap.size (fun k_=>some k_ ≠ ((.slice Ao13 t175.length co13) : Value).ownBlock) (.slice Ao8 t168.length co8) t168)∧Aside0 (Kd.R Kd.string 9 wc w.heap.size (fun k_=>some k_ ≠ ((.slice Ao16 t178.length co16) : Value).ownBlock) (.slice (some ad182) t171.length co10) t171)∧Aside0 (Kd.R Kd.bool 4 wc w.heap.size (fun k_=>some k_ ≠ ((.slice Ao8 t168.length co8) : Value).ownBlock) (.slice Ao13 t175.length co13) t175)∧Aside0 (Kd.R Kd.string 9 wc w.heap.size (fun k_=>some k_ ≠ ((.slice (some ad182) t171.length co10) : Value).ownBlock∧some k_ ≠ ((.slice (some ad182) t171.length co10) : Value).ownBlock) (.slice Ao16 t178.length co16) t178)∧Aside0 (wc.heap[gb174]? = some (.cells #[(.slice Ao8 t168.length co8),(.slice (some ad182) t171.length co10)] 110 (0,0)))∧Aside0 (wc.heap[gb181]? = some (.cells #[(.slice Ao13 t175.length co13),(.slice Ao16 t178.length co16)] 110 (0,0)))∧Aside0 (Below w.heap.size w wc))
      case first =>
       have H:=HC21.out
       clear HC21
       by_cases c22 : a2 = true
       ·subst c22
        have H1 : ((spec_l1Add.f k1 x9_1 0 0 (rdOf ByteArray.empty t171 x19_1)).bind fun t183=>(spec_l1Carry.j1 k1 true t183 x19_1 (rdOf ByteArray.empty t171 x19_1) t171 (t171.length : Int) x19_1 t168 t171 t175 t178)) = some r:=by rw [if_pos rfl] at H;exact H
        clear H
        have H:=H1
        clear H1
        replace H:=Option.bind_eq_some_iff.mp H
        obtain ⟨t183,A230,H⟩:=H
        replace H : (spec_l1Carry.j1 k1 true t183 x19_1 (rdOf ByteArray.empty t171 x19_1) t171 (t171.length : Int) x19_1 t168 t171 t175 t178) = some r:=H
        have A23:=Aside0.mk A230
        clear A230
        have H':=Aside0.mk H
        clear H
        obtain ⟨Ao24,co24,eo24⟩:=Kd.R_slice HO_9.out
        subst eo24
        go_wp2_with (first|((with_reducible refine gate_callee (f:=72) rfl ?_);refine goesL_ (some 28) rfl rfl Try.func72 (by kernel_rfl) rfl #[.slice Ao24 x9_1.length co24,.agg #[.int .i64 0,.int .i64 0,.string (rdOf ByteArray.empty t171 x19_1)]] rfl (by (try simp only [List.map_toArray,List.map_cons,List.map_nil]);first|done|rfl|(simp only [List.length_drop,List.length_take];rfl)) ?_;(with_reducible refine (spec_l1Add.calls k1 (fun k_=>some k_ = (.slice Ao24 x9_1.length co24 : Value).ownBlock) (.slice Ao24 x9_1.length co24) x9_1 0 0 (rdOf ByteArray.empty t171 x19_1) t183 w _ ?side1 ?side2 A23.out).mono ?_);(case side1=>repeat (first|(with_reducible first|exact HB.out|apply below_alloc|apply pw_below_drewN|apply below_drew1|refine below_set ?_ GE174.out|refine below_set ?_ GE181.out)|exact HB.out));(case side2=>exact Kd.R_tight rfl HO_9.out);rintro e w25 ⟨v184,rfl,ho0,hb,hkp⟩;refine ⟨_,rfl,?_⟩;have n0_:=Aside0.mk (Kd.R_mono (ok':=fun k_=>some k_ ≠ (.slice Ao16 t178.length co16 : Value).ownBlock) (Kd.R_keptB ((Kd.R_apart' HO_17.out (Kd.R_typed HO_9.out) (by decide))) hkp (fun k_ hk_ hs_=>(hk_.2) hs_)) (fun k_ hk_=>hk_.1.1));have n1_:=Aside0.mk (Kd.R_mono (ok':=fun k_=>some k_ ≠ (.slice Ao13 t175.length co13 : Value).ownBlock) (Kd.R_keptB ((Kd.R_apart' HO_175000.out (Kd.R_typed HO_9.out) (by decide))) hkp (fun k_ hk_ hs_=>(hk_.2) hs_)) (fun k_ hk_=>hk_.1.1));have n2_:=Aside0.mk (Kd.R_mono (ok':=fun k_=>some k_ ≠ (.slice Ao16 t178.length co16 : Value).ownBlock) (Kd.R_keptB ((Kd.R_apart' HO_175001.out (Kd.R_typed HO_9.out) (by decide))) hkp (fun k_ hk_ hs_=>(hk_.2) hs_)) (fun k_ hk_=>hk_.1.1));have n3_:=Aside0.mk (Kd.R_mono (ok':=fun k_=>some k_ ≠ (.slice Ao8 t168.length co8 : Value).ownBlock) (Kd.R_keptB ((Kd.R_apart' HO_182000.out (Kd.R_typed HO_9.out) (by decide))) hkp (fun k_ hk_ hs_=>(hk_.2) hs_)) (fun k_ hk_=>hk_.1.1));have n4_:=Aside0.mk (Kd.R_mono (ok':=fun k_=>some k_ ≠ (.slice (some ad182) t171.length co10 : Value).ownBlock∧some k_ ≠ (.slice (some ad182) t171.length co10 : Value).ownBlock) (Kd.R_keptB ((Kd.R_apart' HO_182001.out (Kd.R_typed HO_9.out) (by decide))) hkp (fun k_ hk_ hs_=>(hk_.2) hs_)) (fun k_ hk_=>⟨hk_.1.1.1,hk_.1.1.2⟩));have n5_:=Aside0.mk (blk_kept (g:=gb174) (o:=.cells #[.slice Ao8 t168.length co8,.slice (some ad182) t171.length co10] 110 (0,0)) (by (with_reducible repeat first|apply blk_drewN|apply blk_drew|apply blk_alloc);exact BK174.out) hkp (fun hs_=>(fun e_=>(Kd.R_ne HO_9.out BK174.out (by decide)) e_) hs_));have n6_:=Aside0.mk (blk_kept (g:=gb181) (o:=.cells #[.slice Ao13 t175.length co13,.slice Ao16 t178.length co16] 110 (0,0)) (by (with_reducible repeat first|apply blk_drewN|apply blk_drew|apply blk_alloc);exact BK181.out) hkp (fun hs_=>(fun e_=>(Kd.R_ne HO_9.out BK181.out (by decide)) e_) hs_));have n7_:=Aside0.mk (Kd.R_mono (ok':=fun k_=>True) ho0 (fun k_ hk_=>trivial));have n8_:=Aside0.mk (hb);clear HO_17;clear HO_175000;clear HO_175001;clear HO_182000;clear HO_182001;clear BK174;clear BK181;clear HB;clear HO_9;have HO_17:=n0_;have HO_175000:=n1_;have HO_175001:=n2_;have HO_182000:=n3_;have HO_182001:=n4_;have BK174:=n5_;have BK181:=n6_;have HO185:=n7_;have HB:=n8_;clear n0_ n1_ n2_ n3_ n4_ n5_ n6_ n7_ n8_;(try clear hb);(try clear hkp);(try clear hbx);(try clear ho0)))
        go_meet
        case rel=>exact ⟨_,(t183),H',⟨by have:=HK1.out;first|omega|exact Nat.le_refl _⟩,⟨by (with_reducible repeat (first|apply Kd.R_alloc|apply Kd.R_drewN|apply Kd.R_drew));exact HO185.out⟩,⟨by (with_reducible repeat (first|apply Kd.R_alloc|apply Kd.R_drewN|apply Kd.R_drew));exact HO_17.out⟩,⟨by (with_reducible repeat (first|apply Kd.R_alloc|apply Kd.R_drewN|apply Kd.R_drew));exact HO_175000.out⟩,⟨by (with_reducible repeat (first|apply Kd.R_alloc|apply Kd.R_drewN|apply Kd.R_drew));exact HO_175001.out⟩,⟨by (with_reducible repeat (first|apply Kd.R_alloc|apply Kd.R_drewN|apply Kd.R_drew));exact HO_182000.out⟩,⟨by (with_reducible repeat (first|apply Kd.R_alloc|apply Kd.R_drewN|apply Kd.R_drew));exact HO_182001.out⟩,⟨by (with_reducible repeat first|apply blk_drewN|apply blk_drew|apply blk_alloc);exact BK174.out⟩,⟨by (with_reducible repeat first|apply blk_drewN|apply blk_drew|apply blk_alloc);exact BK181.out⟩,⟨by repeat (first|(with_reducible first|exact HB.out|apply below_alloc|apply pw_below_drewN|apply below_drew1|refine below_set ?_ GE174.out|refine below_set ?_ GE181.out)|exact HB.out)⟩⟩
       ·replace c22:=Bool.eq_false_iff.mpr c22
        subst c22
        have H1 : (spec_l1Carry.j1 k1 false x9_1 x19_1 (rdOf ByteArray.empty t171 x19_1) t171 (t171.length : Int) x19_1 t168 t171 t175 t178) = some r:=by rw [if_neg (show ¬ (false = true) by decide)] at H;exact H
        clear H
        have H:=H1
        clear H1
        have H':=Aside0.mk H
        clear H
        go_wp2
        go_meet
        case rel=>exact ⟨_,(x9_1),H',⟨by have:=HK1.out;first|omega|exact Nat.le_refl _⟩,⟨by (with_reducible repeat (first|apply Kd.R_alloc|apply Kd.R_drewN|apply Kd.R_drew));exact HO_9.out⟩,⟨by (with_reducible repeat (first|apply Kd.R_alloc|apply Kd.R_drewN|apply Kd.R_drew));exact HO_17.out⟩,⟨by (with_reducible repeat (first|apply Kd.R_alloc|apply Kd.R_drewN|apply Kd.R_drew));exact HO_175000.out⟩,⟨by (with_reducible repeat (first|apply Kd.R_alloc|apply Kd.R_drewN|apply Kd.R_drew));exact HO_175001.out⟩,⟨by (with_reducible repeat (first|apply Kd.R_alloc|apply Kd.R_drewN|apply Kd.R_drew));exact HO_182000.out⟩,⟨by (with_reducible repeat (first|apply Kd.R_alloc|apply Kd.R_drewN|apply Kd.R_drew));exact HO_182001.out⟩,⟨by (with_reducible repeat first|apply blk_drewN|apply blk_drew|apply blk_alloc);exact BK174.out⟩,⟨by (with_reducible repeat first|apply blk_drewN|apply blk_drew|apply blk_alloc);exact BK181.out⟩,⟨by repeat (first|(with_reducible first|exact HB.out|apply below_alloc|apply pw_below_drewN|apply below_drew1|refine below_set ?_ GE174.out|refine below_set ?_ GE181.out)|exact HB.out)⟩⟩
      case rest =>
       clear HC21
       try clear c1;try clear p1;try clear q1;try clear hx1;try clear c2;try clear p2;try clear c7;try clear c8;try clear c14;try clear c18;try clear c18b0;try clear p18;try clear q18;try clear hx18;try clear c19;try clear c19b0;try clear c20;try clear c20b0;try clear c22;try clear hcz15_0;try clear hcz15_1;try clear hcz17_0;try clear hcz17_1;try clear hcz9_0;try clear hcz9_1;try clear hfz15_0;try clear hfz15_1;try clear hfz17_0;try clear hfz17_1;try clear hfz9_0;try clear hfz9_1;try clear hx182_0;try clear p182;try clear p2;try clear q182
       obtain ⟨kq,x9_20,HA,HJ20,HO_9,HO_17,HO_175000,HO_175001,HO_182000,HO_182001,BK174,BK181,HB⟩:=hcut
       cases kq with
       | zero=>exact absurd HA.out (by simp [spec_l1Carry.j1])
       | succ kj20 =>
        have H:=HA.out
        clear HA
        simp only [spec_l1Carry.j1] at H
        by_cases c26 : 0 ≤ x19_1
        ·rw [if_pos c26] at H
         have c26b0 : decide (0 ≤ x19_1) = true:=decide_eq_true c26
         clear c26
         by_cases c27 : x19_1 < (t178.length : Int)
         ·rw [if_pos c27] at H
          have c27b0 : decide (x19_1 < (t178.length : Int)) = true:=decide_eq_true c27
          clear c27
          replace H:=Option.bind_eq_some_iff.mp H
          obtain ⟨t187,A280,H⟩:=H
          replace H : (if a2 = true then (spec_l1Carry.j2 kj20 a2 t187 x19_1 t171 (t171.length : Int) x19_1 t168 t171 t175 t178) else ((spec_l1Add.f kj20 t187 0 0 (rdOf ByteArray.empty t171 x19_1)).bind fun t190=>(spec_l1Carry.j2 kj20 a2 t190 x19_1 t171 (t171.length : Int) x19_1 t168 t171 t175 t178))) = some r:=H
          have A28:=Aside0.mk A280
          clear A280
          have HC29:=Aside0.mk H
          clear H
          have hnb30:=NB181_174.out
          have hnc30:=NB174_181.out
          have hcz31_0 : wc.cell? ⟨gb181,0,none⟩ = some (.slice Ao13 t175.length co13):=(blk_cell BK181.out 0).trans rfl
          have hcz31_1 : wc.cell? ⟨gb181,1,none⟩ = some (.slice Ao16 t178.length co16):=(blk_cell BK181.out 1).trans rfl
          have hfz31_0:=blk_frozen BK181.out 0
          have hfz31_1:=blk_frozen BK181.out 1
          have p186 : 0 ≤ (x19_1 : Int):=of_decide_eq_true (by assumption)
          have q186 : x19_1 < (t178.length : Int):=of_decide_eq_true (by assumption)
          obtain ⟨ad186,e186,hx186_0⟩:=Kd.at_string (Kd.R_reads' HO_182001.out).2.2 x19_1 p186 q186
          cases e186
          replace p186:=eq_true p186
          replace q186:=eq_true q186
          obtain ⟨Ao32,co32,eo32⟩:=Kd.R_slice HO_9.out
          subst eo32
          go_upto_if 39 with (first|((with_reducible refine gate_callee (f:=72) rfl ?_);refine goesL_ (some 37) rfl rfl Try.func72 (by kernel_rfl) rfl #[.slice Ao32 x9_20.length co32,.agg #[.int .i64 ((rdOf ByteArray.empty t178 x19_1).size : Int),.int .i64 0,.string (⟨#[]⟩ : ByteArray)]] rfl (by (try simp only [List.map_toArray,List.map_cons,List.map_nil]);first|done|rfl|(simp only [List.length_drop,List.length_take];rfl)) ?_;(with_reducible refine (spec_l1Add.calls kj20 (fun k_=>some k_ = (.slice Ao32 x9_20.length co32 : Value).ownBlock) (.slice Ao32 x9_20.length co32) x9_20 ((rdOf ByteArray.empty t178 x19_1).size : Int) 0 (⟨#[]⟩ : ByteArray) t187 w _ ?side1 ?side2 A28.out).mono ?_);(case side1=>repeat (first|(with_reducible first|exact HB.out|apply below_alloc|apply pw_below_drewN|apply below_drew1|refine below_set ?_ GE174.out|refine below_set ?_ GE181.out)|exact HB.out));(case side2=>exact Kd.R_tight rfl HO_9.out);rintro e w33 ⟨v188,rfl,ho0,hb,hkp⟩;refine ⟨_,rfl,?_⟩;have n0_:=Aside0.mk (Kd.R_mono (ok':=fun k_=>some k_ ≠ (.slice (some ad186) t178.length co16 : Value).ownBlock) (Kd.R_keptB ((Kd.R_apart' HO_17.out (Kd.R_typed HO_9.out) (by decide))) hkp (fun k_ hk_ hs_=>(hk_.2) hs_)) (fun k_ hk_=>hk_.1.1));have n1_:=Aside0.mk (Kd.R_mono (ok':=fun k_=>some k_ ≠ (.slice Ao13 t175.length co13 : Value).ownBlock) (Kd.R_keptB ((Kd.R_apart' HO_175000.out (Kd.R_typed HO_9.out) (by decide))) hkp (fun k_ hk_ hs_=>(hk_.2) hs_)) (fun k_ hk_=>hk_.1.1));have n2_:=Aside0.mk (Kd.R_mono (ok':=fun k_=>some k_ ≠ (.slice (some ad186) t178.length co16 : Value).ownBlock) (Kd.R_keptB ((Kd.R_apart' HO_175001.out (Kd.R_typed HO_9.out) (by decide))) hkp (fun k_ hk_ hs_=>(hk_.2) hs_)) (fun k_ hk_=>hk_.1.1));have n3_:=Aside0.mk (Kd.R_mono (ok':=fun k_=>some k_ ≠ (.slice Ao8 t168.length co8 : Value).ownBlock) (Kd.R_keptB ((Kd.R_apart' HO_182000.out (Kd.R_typed HO_9.out) (by decide))) hkp (fun k_ hk_ hs_=>(hk_.2) hs_)) (fun k_ hk_=>hk_.1.1));have n4_:=Aside0.mk (Kd.R_mono (ok':=fun k_=>some k_ ≠ (.slice (some ad182) t171.length co10 : Value).ownBlock∧some k_ ≠ (.slice (some ad182) t171.length co10 : Value).ownBlock) (Kd.R_keptB ((Kd.R_apart' HO_182001.out (Kd.R_typed HO_9.out) (by decide))) hkp (fun k_ hk_ hs_=>(hk_.2) hs_)) (fun k_ hk_=>⟨hk_.1.1.1,hk_.1.1.2⟩));have n5_:=Aside0.mk (blk_kept (g:=gb174) (o:=.cells #[.slice Ao8 t168.length co8,.slice (some ad182) t171.length co10] 110 (0,0)) (by (with_reducible repeat first|apply blk_drewN|apply blk_drew|apply blk_alloc);exact BK174.out) hkp (fun hs_=>(fun e_=>(Kd.R_ne HO_9.out BK174.out (by decide)) e_) hs_));have n6_:=Aside0.mk (blk_kept (g:=gb181) (o:=.cells #[.slice Ao13 t175.length co13,.slice (some ad186) t178.length co16] 110 (0,0)) (by (with_reducible repeat first|apply blk_drewN|apply blk_drew|apply blk_alloc);exact BK181.out) hkp (fun hs_=>(fun e_=>(Kd.R_ne HO_9.out BK181.out (by decide)) e_) hs_));have n7_:=Aside0.mk (Kd.R_mono (ok':=fun k_=>True) ho0 (fun k_ hk_=>trivial));have n8_:=Aside0.mk (hb);clear HO_17;clear HO_175000;clear HO_175001;clear HO_182000;clear HO_182001;clear BK174;clear BK181;clear HB;clear HO_9;have HO_17:=n0_;have HO_175000:=n1_;have HO_175001:=n2_;have HO_182000:=n3_;have HO_182001:=n4_;have BK174:=n5_;have BK181:=n6_;have HO189:=n7_;have HB:=n8_;clear n0_ n1_ n2_ n3_ n4_ n5_ n6_ n7_ n8_;(try clear hb);(try clear hkp);(try clear hbx);(try clear ho0)))
          (try simp only [Act.put,List.setIfInBounds_toArray,List.set_cons_zero,List.set_cons_succ])
          go_cut [9] (fun v9 wc=>∃ (kq : Nat) (x9_28 : List (S74)),Aside0 (spec_l1Carry.j2 kq a2 x9_28 x19_1 t171 (t171.length : Int) x19_1 t168 t171 t175 t178 = some r)∧Aside0 (kq ≤ kj20)∧Aside0 (Kd.R k74 74 wc w.heap.size (fun _=>True) v9 x9_28)∧Aside0 (Kd.R Kd.string 9 wc w.heap.size (fun k_=>some k_ ≠ ((.slice (some ad186) t178.length co16) : Value).ownBlock) (.slice (some ad182) t171.length co10) t171)∧Aside0 (Kd.R Kd.bool 4 wc w.heap.size (fun k_=>some k_ ≠ ((.slice Ao13 t175.length co13) : Value).ownBlock) (.slice Ao8 t168.length co8) t168)∧Aside0 (Kd.R Kd.string 9 wc w.heap.size (fun k_=>some k_ ≠ ((.slice (some ad186) t178.length co16) : Value).ownBlock) (.slice (some ad182) t171.length co10) t171)∧Aside0 (Kd.R Kd.bool 4 wc w.heap.size (fun k_=>some k_ ≠ ((.slice Ao8 t168.length co8) : Value).ownBlock) (.slice Ao13 t175.length co13) t175)∧Aside0 (Kd.R Kd.string 9 wc w.heap.size (fun k_=>some k_ ≠ ((.slice (some ad182) t171.length co10) : Value).ownBlock∧some k_ ≠ ((.slice (some ad182) t171.length co10) : Value).ownBlock) (.slice (some ad186) t178.length co16) t178)∧Aside0 (wc.heap[gb174]? = some (.cells #[(.slice Ao8 t168.length co8),(.slice (some ad182) t171.length co10)] 110 (0,0)))∧Aside0 (wc.heap[gb181]? = some (.cells #[(.slice Ao13 t175.length co13),(.slice (some ad186) t178.length co16)] 110 (0,0)))∧Aside0 (Below w.heap.size w wc))
          case first =>
           have H:=HC29.out
           clear HC29
           by_cases c34 : a2 = true
           ·subst c34
            have H1 : (spec_l1Carry.j2 kj20 true t187 x19_1 t171 (t171.length : Int) x19_1 t168 t171 t175 t178) = some r:=by rw [if_pos rfl] at H;exact H
            clear H
            have H:=H1
            clear H1
            have H':=Aside0.mk H
            clear H
            go_wp2
            go_meet
            case rel=>exact ⟨_,(t187),H',⟨by have:=HK1.out;have:=HJ20.out;first|omega|exact Nat.le_refl _⟩,⟨by (with_reducible repeat (first|apply Kd.R_alloc|apply Kd.R_drewN|apply Kd.R_drew));exact HO189.out⟩,⟨by (with_reducible repeat (first|apply Kd.R_alloc|apply Kd.R_drewN|apply Kd.R_drew));exact HO_17.out⟩,⟨by (with_reducible repeat (first|apply Kd.R_alloc|apply Kd.R_drewN|apply Kd.R_drew));exact HO_175000.out⟩,⟨by (with_reducible repeat (first|apply Kd.R_alloc|apply Kd.R_drewN|apply Kd.R_drew));exact HO_175001.out⟩,⟨by (with_reducible repeat (first|apply Kd.R_alloc|apply Kd.R_drewN|apply Kd.R_drew));exact HO_182000.out⟩,⟨by (with_reducible repeat (first|apply Kd.R_alloc|apply Kd.R_drewN|apply Kd.R_drew));exact HO_182001.out⟩,⟨by (with_reducible repeat first|apply blk_drewN|apply blk_drew|apply blk_alloc);exact BK174.out⟩,⟨by (with_reducible repeat first|apply blk_drewN|apply blk_drew|apply blk_alloc);exact BK181.out⟩,⟨by repeat (first|(with_reducible first|exact HB.out|apply below_alloc|apply pw_below_drewN|apply below_drew1|refine below_set ?_ GE174.out|refine below_set ?_ GE181.out)|exact HB.out)⟩⟩
           ·replace c34:=Bool.eq_false_iff.mpr c34
            subst c34
            have H1 : ((spec_l1Add.f kj20 t187 0 0 (rdOf ByteArray.empty t171 x19_1)).bind fun t190=>(spec_l1Carry.j2 kj20 false t190 x19_1 t171 (t171.length : Int) x19_1 t168 t171 t175 t178)) = some r:=by rw [if_neg (show ¬ (false = true) by decide)] at H;exact H
            clear H
            have H:=H1
            clear H1
            replace H:=Option.bind_eq_some_iff.mp H
            obtain ⟨t190,A350,H⟩:=H
            replace H : (spec_l1Carry.j2 kj20 false t190 x19_1 t171 (t171.length : Int) x19_1 t168 t171 t175 t178) = some r:=H
            have A35:=Aside0.mk A350
            clear A350
            have H':=Aside0.mk H
            clear H
            obtain ⟨Ao36,co36,eo36⟩:=Kd.R_slice HO189.out
            subst eo36
            go_wp2_with (first|((with_reducible refine gate_callee (f:=72) rfl ?_);refine goesL_ (some 43) rfl rfl Try.func72 (by kernel_rfl) rfl #[.slice Ao36 t187.length co36,.agg #[.int .i64 0,.int .i64 0,.string (rdOf ByteArray.empty t171 x19_1)]] rfl (by (try simp only [List.map_toArray,List.map_cons,List.map_nil]);first|done|rfl|(simp only [List.length_drop,List.length_take];rfl)) ?_;(with_reducible refine (spec_l1Add.calls kj20 (fun k_=>some k_ = (.slice Ao36 t187.length co36 : Value).ownBlock) (.slice Ao36 t187.length co36) t187 0 0 (rdOf ByteArray.empty t171 x19_1) t190 w _ ?side1 ?side2 A35.out).mono ?_);(case side1=>repeat (first|(with_reducible first|exact HB.out|apply below_alloc|apply pw_below_drewN|apply below_drew1|refine below_set ?_ GE174.out|refine below_set ?_ GE181.out)|exact HB.out));(case side2=>exact Kd.R_tight rfl HO189.out);rintro e w37 ⟨v191,rfl,ho0,hb,hkp⟩;refine ⟨_,rfl,?_⟩;have n0_:=Aside0.mk (Kd.R_mono (ok':=fun k_=>some k_ ≠ (.slice (some ad186) t178.length co16 : Value).ownBlock) (Kd.R_keptB ((Kd.R_apart' HO_17.out (Kd.R_typed HO189.out) (by decide))) hkp (fun k_ hk_ hs_=>(hk_.2) hs_)) (fun k_ hk_=>hk_.1.1));have n1_:=Aside0.mk (Kd.R_mono (ok':=fun k_=>some k_ ≠ (.slice Ao13 t175.length co13 : Value).ownBlock) (Kd.R_keptB ((Kd.R_apart' HO_175000.out (Kd.R_typed HO189.out) (by decide))) hkp (fun k_ hk_ hs_=>(hk_.2) hs_)) (fun k_ hk_=>hk_.1.1));have n2_:=Aside0.mk (Kd.R_mono (ok':=fun k_=>some k_ ≠ (.slice (some ad186) t178.length co16 : Value).ownBlock) (Kd.R_keptB ((Kd.R_apart' HO_175001.out (Kd.R_typed HO189.out) (by decide))) hkp (fun k_ hk_ hs_=>(hk_.2) hs_)) (fun k_ hk_=>hk_.1.1));have n3_:=Aside0.mk (Kd.R_mono (ok':=fun k_=>some k_ ≠ (.slice Ao8 t168.length co8 : Value).ownBlock) (Kd.R_keptB ((Kd.R_apart' HO_182000.out (Kd.R_typed HO189.out) (by decide))) hkp (fun k_ hk_ hs_=>(hk_.2) hs_)) (fun k_ hk_=>hk_.1.1));have n4_:=Aside0.mk (Kd.R_mono (ok':=fun k_=>some k_ ≠ (.slice (some ad182) t171.length co10 : Value).ownBlock∧some k_ ≠ (.slice (some ad182) t171.length co10 : Value).ownBlock) (Kd.R_keptB ((Kd.R_apart' HO_182001.out (Kd.R_typed HO189.out) (by decide))) hkp (fun k_ hk_ hs_=>(hk_.2) hs_)) (fun k_ hk_=>⟨hk_.1.1.1,hk_.1.1.2⟩));have n5_:=Aside0.mk (blk_kept (g:=gb174) (o:=.cells #[.slice Ao8 t168.length co8,.slice (some ad182) t171.length co10] 110 (0,0)) (by (with_reducible repeat first|apply blk_drewN|apply blk_drew|apply blk_alloc);exact BK174.out) hkp (fun hs_=>(fun e_=>(Kd.R_ne HO189.out BK174.out (by decide)) e_) hs_));have n6_:=Aside0.mk (blk_kept (g:=gb181) (o:=.cells #[.slice Ao13 t175.length co13,.slice (some ad186) t178.length co16] 110 (0,0)) (by (with_reducible repeat first|apply blk_drewN|apply blk_drew|apply blk_alloc);exact BK181.out) hkp (fun hs_=>(fun e_=>(Kd.R_ne HO189.out BK181.out (by decide)) e_) hs_));have n7_:=Aside0.mk (Kd.R_mono (ok':=fun k_=>True) ho0 (fun k_ hk_=>trivial));have n8_:=Aside0.mk (hb);clear HO_17;clear HO_175000;clear HO_175001;clear HO_182000;clear HO_182001;clear BK174;clear BK181;clear HB;clear HO189;have HO_17:=n0_;have HO_175000:=n1_;have HO_175001:=n2_;have HO_182000:=n3_;have HO_182001:=n4_;have BK174:=n5_;have BK181:=n6_;have HO192:=n7_;have HB:=n8_;clear n0_ n1_ n2_ n3_ n4_ n5_ n6_ n7_ n8_;(try clear hb);(try clear hkp);(try clear hbx);(try clear ho0)))
            go_meet
            case rel=>exact ⟨_,(t190),H',⟨by have:=HK1.out;have:=HJ20.out;first|omega|exact Nat.le_refl _⟩,⟨by (with_reducible repeat (first|apply Kd.R_alloc|apply Kd.R_drewN|apply Kd.R_drew));exact HO192.out⟩,⟨by (with_reducible repeat (first|apply Kd.R_alloc|apply Kd.R_drewN|apply Kd.R_drew));exact HO_17.out⟩,⟨by (with_reducible repeat (first|apply Kd.R_alloc|apply Kd.R_drewN|apply Kd.R_drew));exact HO_175000.out⟩,⟨by (with_reducible repeat (first|apply Kd.R_alloc|apply Kd.R_drewN|apply Kd.R_drew));exact HO_175001.out⟩,⟨by (with_reducible repeat (first|apply Kd.R_alloc|apply Kd.R_drewN|apply Kd.R_drew));exact HO_182000.out⟩,⟨by (with_reducible repeat (first|apply Kd.R_alloc|apply Kd.R_drewN|apply Kd.R_drew));exact HO_182001.out⟩,⟨by (with_reducible repeat first|apply blk_drewN|apply blk_drew|apply blk_alloc);exact BK174.out⟩,⟨by (with_reducible repeat first|apply blk_drewN|apply blk_drew|apply blk_alloc);exact BK181.out⟩,⟨by repeat (first|(with_reducible first|exact HB.out|apply below_alloc|apply pw_below_drewN|apply below_drew1|refine below_set ?_ GE174.out|refine below_set ?_ GE181.out)|exact HB.out)⟩⟩
          case rest =>
           clear HC29
           try clear c1;try clear p1;try clear q1;try clear hx1;try clear c2;try clear p2;try clear c3;try clear c7;try clear c8;try clear c14;try clear c18;try clear c18b0;try clear p18;try clear q18;try clear hx18;try clear c19;try clear c19b0;try clear c20;try clear c20b0;try clear c22;try clear c26;try clear c26b0;try clear c27;try clear c27b0;try clear c30;try clear c34;try clear hcz15_0;try clear hcz15_1;try clear hcz17_0;try clear hcz17_1;try clear hcz31_0;try clear hcz31_1;try clear hcz9_0;try clear hcz9_1;try clear hfz15_0;try clear hfz15_1;try clear hfz17_0;try clear hfz17_1;try clear hfz31_0;try clear hfz31_1;try clear hfz9_0;try clear hfz9_1;try clear hx182_0;try clear hx186_0;try clear p1;try clear p18;try clear p182;try clear p186;try clear p2;try clear q1;try clear q18;try clear q182;try clear q186
           obtain ⟨kq,x9_28,HA,HJ28,HO_9,HO_17,HO_175000,HO_175001,HO_182000,HO_182001,BK174,BK181,HB⟩:=hcut
           cases kq with
           | zero=>exact absurd HA.out (by simp [spec_l1Carry.j2])
           | succ kj28 =>
            have H:=HA.out
            clear HA
            simp only [spec_l1Carry.j2] at H
            have HC38:=Aside0.mk H
            clear H
            go_upto_region 12 with (fail)
            go_cut [56] (fun v56 wc=>∃ (kq : Nat) (x56_37 : Bool),v56 = .bool x56_37∧Aside0 (spec_l1Carry.j3 kq a2 x9_28 x19_1 t171 (t171.length : Int) x19_1 x56_37 t168 t171 t175 t178 = some r)∧Aside0 (kq ≤ kj28)∧Aside0 (Kd.R k74 74 wc w.heap.size (fun _=>True) u9 x9_28)∧Aside0 (Kd.R Kd.string 9 wc w.heap.size (fun k_=>some k_ ≠ ((.slice (some ad186) t178.length co16) : Value).ownBlock) (.slice (some ad182) t171.length co10) t171)∧Aside0 (Kd.R Kd.bool 4 wc w.heap.size (fun k_=>some k_ ≠ ((.slice Ao13 t175.length co13) : Value).ownBlock) (.slice Ao8 t168.length co8) t168)∧Aside0 (Kd.R Kd.string 9 wc w.heap.size (fun k_=>some k_ ≠ ((.slice (some ad186) t178.length co16) : Value).ownBlock) (.slice (some ad182) t171.length co10) t171)∧Aside0 (Kd.R Kd.bool 4 wc w.heap.size (fun k_=>some k_ ≠ ((.slice Ao8 t168.length co8) : Value).ownBlock) (.slice Ao13 t175.length co13) t175)∧Aside0 (Kd.R Kd.string 9 wc w.heap.size (fun k_=>some k_ ≠ ((.slice (some ad182) t171.length co10) : Value).ownBlock∧some k_ ≠ ((.slice (some ad182) t171.length co10) : Value).ownBlock) (.slice (some ad186) t178.length co16) t178)∧Aside0 (wc.heap[gb174]? = some (.cells #[(.slice Ao8 t168.length co8),(.slice (some ad182) t171.length co10)] 110 (0,0)))∧Aside0 (wc.heap[gb181]? = some (.cells #[(.slice Ao13 t175.length co13),(.slice (some ad186) t178.length co16)] 110 (0,0)))∧Aside0 (Below w.heap.size w wc))
            case first =>
             have H:=HC38.out
             clear HC38
             by_cases c39 : x19_1 = (t168.length : Int)
             ·rw [if_pos c39] at H
              have c39b0 : (x19_1 == (t168.length : Int)) = true:=beq_iff_eq.mpr c39
              have c39b1 : (x19_1 != (t168.length : Int)) = false:=bne_eq_false_iff_eq.mpr c39
              clear c39
              (first|rw [c39b0]|(simp only [i64_w,i32_w];rw [c39b0])|skip)
              have H':=Aside0.mk H
              clear H
              have hnb40:=NB174_181.out
              have hnc40:=NB181_174.out
              have hcz41_0 : wc.cell? ⟨gb174,0,none⟩ = some (.slice Ao8 t168.length co8):=(blk_cell BK174.out 0).trans rfl
              have hcz41_1 : wc.cell? ⟨gb174,1,none⟩ = some (.slice (some ad182) t171.length co10):=(blk_cell BK174.out 1).trans rfl
              have hfz41_0:=blk_frozen BK174.out 0
              have hfz41_1:=blk_frozen BK174.out 1
              go_wp2
              go_meet
              case rel=>exact ⟨_,(true),(by first|rfl|(simp;done)|(simp [*];done)),H',⟨by have:=HK1.out;have:=HJ20.out;have:=HJ28.out;first|omega|exact Nat.le_refl _⟩,⟨by (with_reducible repeat (first|apply Kd.R_alloc|apply Kd.R_drewN|apply Kd.R_drew));exact HO_9.out⟩,⟨by (with_reducible repeat (first|apply Kd.R_alloc|apply Kd.R_drewN|apply Kd.R_drew));exact HO_17.out⟩,⟨by (with_reducible repeat (first|apply Kd.R_alloc|apply Kd.R_drewN|apply Kd.R_drew));exact HO_175000.out⟩,⟨by (with_reducible repeat (first|apply Kd.R_alloc|apply Kd.R_drewN|apply Kd.R_drew));exact HO_175001.out⟩,⟨by (with_reducible repeat (first|apply Kd.R_alloc|apply Kd.R_drewN|apply Kd.R_drew));exact HO_182000.out⟩,⟨by (with_reducible repeat (first|apply Kd.R_alloc|apply Kd.R_drewN|apply Kd.R_drew));exact HO_182001.out⟩,⟨by (with_reducible repeat first|apply blk_drewN|apply blk_drew|apply blk_alloc);exact BK174.out⟩,⟨by (with_reducible repeat first|apply blk_drewN|apply blk_drew|apply blk_alloc);exact BK181.out⟩,⟨by repeat (first|(with_reducible first|exact HB.out|apply below_alloc|apply pw_below_drewN|apply below_drew1|refine below_set ?_ GE174.out|refine below_set ?_ GE181.out)|exact HB.out)⟩⟩
             ·rw [if_neg c39] at H
              have c39b0 : (x19_1 == (t168.length : Int)) = false:=beq_eq_false_iff_ne.mpr c39
              have c39b1 : (x19_1 != (t168.length : Int)) = true:=bne_iff_ne.mpr c39
              (first|rw [c39b0]|(simp only [i64_w,i32_w];rw [c39b0])|skip)
              by_cases c42 : 0 ≤ x19_1
              ·rw [if_pos c42] at H
               have c42b0 : decide (0 ≤ x19_1) = true:=decide_eq_true c42
               clear c42
               by_cases c43 : x19_1 < (t175.length : Int)
               ·rw [if_pos c43] at H
                have c43b0 : decide (x19_1 < (t175.length : Int)) = true:=decide_eq_true c43
                clear c43
                have H':=Aside0.mk H
                clear H
                have hnb44:=NB174_181.out
                have hnc44:=NB181_174.out
                have hcz45_0 : wc.cell? ⟨gb174,0,none⟩ = some (.slice Ao8 t168.length co8):=(blk_cell BK174.out 0).trans rfl
                have hcz45_1 : wc.cell? ⟨gb174,1,none⟩ = some (.slice (some ad182) t171.length co10):=(blk_cell BK174.out 1).trans rfl
                have hfz45_0:=blk_frozen BK174.out 0
                have hfz45_1:=blk_frozen BK174.out 1
                have hcz46_0 : wc.cell? ⟨gb181,0,none⟩ = some (.slice Ao13 t175.length co13):=(blk_cell BK181.out 0).trans rfl
                have hcz46_1 : wc.cell? ⟨gb181,1,none⟩ = some (.slice (some ad186) t178.length co16):=(blk_cell BK181.out 1).trans rfl
                have hfz46_0:=blk_frozen BK181.out 0
                have hfz46_1:=blk_frozen BK181.out 1
                have p193 : 0 ≤ (x19_1 : Int):=of_decide_eq_true (by assumption)
                have q193 : x19_1 < (t175.length : Int):=of_decide_eq_true (by assumption)
                obtain ⟨ad193,e193,hx193_0⟩:=Kd.at_bool (Kd.R_reads' HO_182000.out).2.2 x19_1 p193 q193
                cases e193
                replace p193:=eq_true p193
                replace q193:=eq_true q193
                go_wp2
                go_meet
                case rel=>exact ⟨_,(!(rdOf false t175 x19_1)),(by first|rfl|(simp;done)|(simp [*];done)),H',⟨by have:=HK1.out;have:=HJ20.out;have:=HJ28.out;first|omega|exact Nat.le_refl _⟩,⟨by (with_reducible repeat (first|apply Kd.R_alloc|apply Kd.R_drewN|apply Kd.R_drew));exact HO_9.out⟩,⟨by (with_reducible repeat (first|apply Kd.R_alloc|apply Kd.R_drewN|apply Kd.R_drew));exact HO_17.out⟩,⟨by (with_reducible repeat (first|apply Kd.R_alloc|apply Kd.R_drewN|apply Kd.R_drew));exact HO_175000.out⟩,⟨by (with_reducible repeat (first|apply Kd.R_alloc|apply Kd.R_drewN|apply Kd.R_drew));exact HO_175001.out⟩,⟨by (with_reducible repeat (first|apply Kd.R_alloc|apply Kd.R_drewN|apply Kd.R_drew));exact HO_182000.out⟩,⟨by (with_reducible repeat (first|apply Kd.R_alloc|apply Kd.R_drewN|apply Kd.R_drew));exact HO_182001.out⟩,⟨by (with_reducible repeat first|apply blk_drewN|apply blk_drew|apply blk_alloc);exact BK174.out⟩,⟨by (with_reducible repeat first|apply blk_drewN|apply blk_drew|apply blk_alloc);exact BK181.out⟩,⟨by repeat (first|(with_reducible first|exact HB.out|apply below_alloc|apply pw_below_drewN|apply below_drew1|refine below_set ?_ GE174.out|refine below_set ?_ GE181.out)|exact HB.out)⟩⟩
               ·rw [if_neg c43] at H
                exact absurd H (by simp)
              ·rw [if_neg c42] at H
               exact absurd H (by simp)
            case rest =>
             clear HC38
             try clear c1;try clear p1;try clear q1;try clear hx1;try clear c2;try clear p2;try clear c3;try clear c4;try clear c7;try clear c8;try clear c14;try clear c18;try clear c18b0;try clear p18;try clear q18;try clear hx18;try clear c19;try clear c19b0;try clear p19;try clear q19;try clear hx19;try clear c20;try clear c20b0;try clear c22;try clear c26;try clear c26b0;try clear c27;try clear c27b0;try clear c30;try clear c34;try clear c39;try clear c39b0;try clear c39b1;try clear c40;try clear c42;try clear c42b0;try clear c43;try clear c43b0;try clear c44;try clear hcz15_0;try clear hcz15_1;try clear hcz17_0;try clear hcz17_1;try clear hcz31_0;try clear hcz31_1;try clear hcz41_0;try clear hcz41_1;try clear hcz45_0;try clear hcz45_1;try clear hcz46_0;try clear hcz46_1;try clear hcz9_0;try clear hcz9_1;try clear hfz15_0;try clear hfz15_1;try clear hfz17_0;try clear hfz17_1;try clear hfz31_0;try clear hfz31_1;try clear hfz41_0;try clear hfz41_1;try clear hfz45_0;try clear hfz45_1;try clear hfz46_0;try clear hfz46_1;try clear hfz9_0;try clear hfz9_1;try clear hx182_0;try clear hx186_0;try clear hx193_0;try clear p1;try clear p18;try clear p182;try clear p186;try clear p193;try clear p2;try clear q1;try clear q18;try clear q182;try clear q186;try clear q193
             obtain ⟨kq,x56_37,rfl,HA,HJ37,HO_9,HO_17,HO_175000,HO_175001,HO_182000,HO_182001,BK174,BK181,HB⟩:=hcut
             cases kq with
             | zero=>exact absurd HA.out (by simp [spec_l1Carry.j3])
             | succ kj37 =>
              have H:=HA.out
              clear HA
              simp only [spec_l1Carry.j3] at H
              by_cases c47 : x56_37 = true
              ·subst c47
               have H1 : (spec_l1Carry.l0 kj37 a2 x9_28 t171 (t171.length : Int) (wrap64 (x19_1 + 1)) t168 t171 t175 t178) = some r:=by rw [if_pos rfl] at H;exact H
               clear H
               have H:=H1
               clear H1
               have H':=Aside0.mk H
               clear H
               go_wp2
               go_roundg kj37
               case measure=>have:=HK1.out;have:=HJ20.out;have:=HJ28.out;have:=HJ37.out;omega
               case rel=>exact ⟨(x9_28),(wrap64 (x19_1 + 1)),(by first|rfl|(simp;done)|(simp [*];done)),H',⟨by have:=HK1.out;have:=HJ20.out;have:=HJ28.out;have:=HJ37.out;omega⟩,⟨by (with_reducible repeat (first|apply Kd.R_alloc|apply Kd.R_drewN|apply Kd.R_drew));exact HO_9.out⟩,⟨by (with_reducible repeat (first|apply Kd.R_alloc|apply Kd.R_drewN|apply Kd.R_drew));exact HO_17.out⟩,⟨by (with_reducible repeat (first|apply Kd.R_alloc|apply Kd.R_drewN|apply Kd.R_drew));exact HO_175000.out⟩,⟨by (with_reducible repeat (first|apply Kd.R_alloc|apply Kd.R_drewN|apply Kd.R_drew));exact HO_175001.out⟩,⟨by (with_reducible repeat (first|apply Kd.R_alloc|apply Kd.R_drewN|apply Kd.R_drew));exact HO_182000.out⟩,⟨by (with_reducible repeat (first|apply Kd.R_alloc|apply Kd.R_drewN|apply Kd.R_drew));exact HO_182001.out⟩,⟨by (with_reducible repeat first|apply blk_drewN|apply blk_drew|apply blk_alloc);exact BK174.out⟩,⟨by (with_reducible repeat first|apply blk_drewN|apply blk_drew|apply blk_alloc);exact BK181.out⟩,⟨by repeat (first|(with_reducible first|exact HB.out|apply below_alloc|apply pw_below_drewN|apply below_drew1|refine below_set ?_ GE174.out|refine below_set ?_ GE181.out)|exact HB.out)⟩⟩
              ·replace c47:=Bool.eq_false_iff.mpr c47
               subst c47
               have H1 : (if 0 ≤ x19_1 then (if x19_1 < (t168.length : Int) then (if rdOf false t168 x19_1 = true then ((spec_l1Add.f kj37 x9_28 1 0 (⟨#[]⟩ : ByteArray)).bind fun t195=>(spec_l1Carry.l0 kj37 a2 t195 t171 (t171.length : Int) (wrap64 (x19_1 + 1)) t168 t171 t175 t178)) else ((spec_l1Add.f kj37 x9_28 0 1 (⟨#[]⟩ : ByteArray)).bind fun t198=>(spec_l1Carry.l0 kj37 a2 t198 t171 (t171.length : Int) (wrap64 (x19_1 + 1)) t168 t171 t175 t178))) else (none)) else (none)) = some r:=by rw [if_neg (show ¬ (false = true) by decide)] at H;exact H
               clear H
               have H:=H1
               clear H1
               by_cases c48 : 0 ≤ x19_1
               ·rw [if_pos c48] at H
                have c48b0 : decide (0 ≤ x19_1) = true:=decide_eq_true c48
                clear c48
                by_cases c49 : x19_1 < (t168.length : Int)
                ·rw [if_pos c49] at H
                 have c49b0 : decide (x19_1 < (t168.length : Int)) = true:=decide_eq_true c49
                 clear c49
                 obtain ⟨bq50,hbq50⟩ : ∃ b_ : Bool,b_ = (rdOf false t168 x19_1):=⟨_,rfl⟩
                 replace H : (if bq50 = true then ((spec_l1Add.f kj37 x9_28 1 0 (⟨#[]⟩ : ByteArray)).bind fun t195=>(spec_l1Carry.l0 kj37 a2 t195 t171 (t171.length : Int) (wrap64 (x19_1 + 1)) t168 t171 t175 t178)) else ((spec_l1Add.f kj37 x9_28 0 1 (⟨#[]⟩ : ByteArray)).bind fun t198=>(spec_l1Carry.l0 kj37 a2 t198 t171 (t171.length : Int) (wrap64 (x19_1 + 1)) t168 t171 t175 t178))) = some r:=by rw [← hbq50] at H;exact H
                 have Nbq50:=Aside0.mk hbq50
                 clear hbq50
                 by_cases c51 : bq50 = true
                 ·subst c51
                  have H1 : ((spec_l1Add.f kj37 x9_28 1 0 (⟨#[]⟩ : ByteArray)).bind fun t195=>(spec_l1Carry.l0 kj37 a2 t195 t171 (t171.length : Int) (wrap64 (x19_1 + 1)) t168 t171 t175 t178)) = some r:=by rw [if_pos rfl] at H;exact H
                  clear H
                  have H:=H1
                  clear H1
                  replace H:=Option.bind_eq_some_iff.mp H
                  obtain ⟨t195,A520,H⟩:=H
                  replace H : (spec_l1Carry.l0 kj37 a2 t195 t171 (t171.length : Int) (wrap64 (x19_1 + 1)) t168 t171 t175 t178) = some r:=H
                  have A52:=Aside0.mk A520
                  clear A520
                  have H':=Aside0.mk H
                  clear H
                  have hnb53:=NB174_181.out
                  have hnc53:=NB181_174.out
                  have hcz54_0 : wc.cell? ⟨gb174,0,none⟩ = some (.slice Ao8 t168.length co8):=(blk_cell BK174.out 0).trans rfl
                  have hcz54_1 : wc.cell? ⟨gb174,1,none⟩ = some (.slice (some ad182) t171.length co10):=(blk_cell BK174.out 1).trans rfl
                  have hfz54_0:=blk_frozen BK174.out 0
                  have hfz54_1:=blk_frozen BK174.out 1
                  have p194 : 0 ≤ (x19_1 : Int):=of_decide_eq_true (by assumption)
                  have q194 : x19_1 < (t168.length : Int):=of_decide_eq_true (by assumption)
                  obtain ⟨ad194,e194,hx194_0⟩:=Kd.at_bool (Kd.R_reads' HO_175000.out).2.2 x19_1 p194 q194
                  (try rw [← Nbq50.out] at hx194_0)
                  cases e194
                  replace p194:=eq_true p194
                  replace q194:=eq_true q194
                  obtain ⟨Ao55,co55,eo55⟩:=Kd.R_slice HO_9.out
                  subst eo55
                  go_wp2_with (first|((with_reducible refine gate_callee (f:=72) rfl ?_);refine goesL_ (some 64) rfl rfl Try.func72 (by kernel_rfl) rfl #[.slice Ao55 x9_28.length co55,.agg #[.int .i64 1,.int .i64 0,.string (⟨#[]⟩ : ByteArray)]] rfl (by (try simp only [List.map_toArray,List.map_cons,List.map_nil]);first|done|rfl|(simp only [List.length_drop,List.length_take];rfl)) ?_;(with_reducible refine (spec_l1Add.calls kj37 (fun k_=>some k_ = (.slice Ao55 x9_28.length co55 : Value).ownBlock) (.slice Ao55 x9_28.length co55) x9_28 1 0 (⟨#[]⟩ : ByteArray) t195 w _ ?side1 ?side2 A52.out).mono ?_);(case side1=>repeat (first|(with_reducible first|exact HB.out|apply below_alloc|apply pw_below_drewN|apply below_drew1|refine below_set ?_ GE174.out|refine below_set ?_ GE181.out)|exact HB.out));(case side2=>exact Kd.R_tight rfl HO_9.out);rintro e w56 ⟨v196,rfl,ho0,hb,hkp⟩;refine ⟨_,rfl,?_⟩;have n0_:=Aside0.mk (Kd.R_mono (ok':=fun k_=>some k_ ≠ (.slice (some ad186) t178.length co16 : Value).ownBlock) (Kd.R_keptB ((Kd.R_apart' HO_17.out (Kd.R_typed HO_9.out) (by decide))) hkp (fun k_ hk_ hs_=>(hk_.2) hs_)) (fun k_ hk_=>hk_.1.1));have n1_:=Aside0.mk (Kd.R_mono (ok':=fun k_=>some k_ ≠ (.slice Ao13 t175.length co13 : Value).ownBlock) (Kd.R_keptB ((Kd.R_apart' HO_175000.out (Kd.R_typed HO_9.out) (by decide))) hkp (fun k_ hk_ hs_=>(hk_.2) hs_)) (fun k_ hk_=>hk_.1.1));have n2_:=Aside0.mk (Kd.R_mono (ok':=fun k_=>some k_ ≠ (.slice (some ad186) t178.length co16 : Value).ownBlock) (Kd.R_keptB ((Kd.R_apart' HO_175001.out (Kd.R_typed HO_9.out) (by decide))) hkp (fun k_ hk_ hs_=>(hk_.2) hs_)) (fun k_ hk_=>hk_.1.1));have n3_:=Aside0.mk (Kd.R_mono (ok':=fun k_=>some k_ ≠ (.slice (some ad194) t168.length co8 : Value).ownBlock) (Kd.R_keptB ((Kd.R_apart' HO_182000.out (Kd.R_typed HO_9.out) (by decide))) hkp (fun k_ hk_ hs_=>(hk_.2) hs_)) (fun k_ hk_=>hk_.1.1));have n4_:=Aside0.mk (Kd.R_mono (ok':=fun k_=>some k_ ≠ (.slice (some ad182) t171.length co10 : Value).ownBlock∧some k_ ≠ (.slice (some ad182) t171.length co10 : Value).ownBlock) (Kd.R_keptB ((Kd.R_apart' HO_182001.out (Kd.R_typed HO_9.out) (by decide))) hkp (fun k_ hk_ hs_=>(hk_.2) hs_)) (fun k_ hk_=>⟨hk_.1.1.1,hk_.1.1.2⟩));have n5_:=Aside0.mk (blk_kept (g:=gb174) (o:=.cells #[.slice (some ad194) t168.length co8,.slice (some ad182) t171.length co10] 110 (0,0)) (by (with_reducible repeat first|apply blk_drewN|apply blk_drew|apply blk_alloc);exact BK174.out) hkp (fun hs_=>(fun e_=>(Kd.R_ne HO_9.out BK174.out (by decide)) e_) hs_));have n6_:=Aside0.mk (blk_kept (g:=gb181) (o:=.cells #[.slice Ao13 t175.length co13,.slice (some ad186) t178.length co16] 110 (0,0)) (by (with_reducible repeat first|apply blk_drewN|apply blk_drew|apply blk_alloc);exact BK181.out) hkp (fun hs_=>(fun e_=>(Kd.R_ne HO_9.out BK181.out (by decide)) e_) hs_));have n7_:=Aside0.mk (Kd.R_mono (ok':=fun k_=>True) ho0 (fun k_ hk_=>trivial));have n8_:=Aside0.mk (hb);clear HO_17;clear HO_175000;clear HO_175001;clear HO_182000;clear HO_182001;clear BK174;clear BK181;clear HB;clear HO_9;have HO_17:=n0_;have HO_175000:=n1_;have HO_175001:=n2_;have HO_182000:=n3_;have HO_182001:=n4_;have BK174:=n5_;have BK181:=n6_;have HO197:=n7_;have HB:=n8_;clear n0_ n1_ n2_ n3_ n4_ n5_ n6_ n7_ n8_;(try clear hb);(try clear hkp);(try clear hbx);(try clear ho0)))
                  go_roundg kj37
                  case measure=>have:=HK1.out;have:=HJ20.out;have:=HJ28.out;have:=HJ37.out;omega
                  case rel=>exact ⟨(t195),(wrap64 (x19_1 + 1)),(by first|rfl|(simp;done)|(simp [*];done)),H',⟨by have:=HK1.out;have:=HJ20.out;have:=HJ28.out;have:=HJ37.out;omega⟩,⟨by (with_reducible repeat (first|apply Kd.R_alloc|apply Kd.R_drewN|apply Kd.R_drew));exact HO197.out⟩,⟨by (with_reducible repeat (first|apply Kd.R_alloc|apply Kd.R_drewN|apply Kd.R_drew));exact HO_17.out⟩,⟨by (with_reducible repeat (first|apply Kd.R_alloc|apply Kd.R_drewN|apply Kd.R_drew));exact HO_175000.out⟩,⟨by (with_reducible repeat (first|apply Kd.R_alloc|apply Kd.R_drewN|apply Kd.R_drew));exact HO_175001.out⟩,⟨by (with_reducible repeat (first|apply Kd.R_alloc|apply Kd.R_drewN|apply Kd.R_drew));exact HO_182000.out⟩,⟨by (with_reducible repeat (first|apply Kd.R_alloc|apply Kd.R_drewN|apply Kd.R_drew));exact HO_182001.out⟩,⟨by (with_reducible repeat first|apply blk_drewN|apply blk_drew|apply blk_alloc);exact BK174.out⟩,⟨by (with_reducible repeat first|apply blk_drewN|apply blk_drew|apply blk_alloc);exact BK181.out⟩,⟨by repeat (first|(with_reducible first|exact HB.out|apply below_alloc|apply pw_below_drewN|apply below_drew1|refine below_set ?_ GE174.out|refine below_set ?_ GE181.out)|exact HB.out)⟩⟩
                 ·replace c51:=Bool.eq_false_iff.mpr c51
                  subst c51
                  have H1 : ((spec_l1Add.f kj37 x9_28 0 1 (⟨#[]⟩ : ByteArray)).bind fun t198=>(spec_l1Carry.l0 kj37 a2 t198 t171 (t171.length : Int) (wrap64 (x19_1 + 1)) t168 t171 t175 t178)) = some r:=by rw [if_neg (show ¬ (false = true) by decide)] at H;exact H
                  clear H
                  have H:=H1
                  clear H1
                  replace H:=Option.bind_eq_some_iff.mp H
                  obtain ⟨t198,A570,H⟩:=H
                  replace H : (spec_l1Carry.l0 kj37 a2 t198 t171 (t171.length : Int) (wrap64 (x19_1 + 1)) t168 t171 t175 t178) = some r:=H
                  have A57:=Aside0.mk A570
                  clear A570
                  have H':=Aside0.mk H
                  clear H
                  have hnb58:=NB174_181.out
                  have hnc58:=NB181_174.out
                  have hcz59_0 : wc.cell? ⟨gb174,0,none⟩ = some (.slice Ao8 t168.length co8):=(blk_cell BK174.out 0).trans rfl
                  have hcz59_1 : wc.cell? ⟨gb174,1,none⟩ = some (.slice (some ad182) t171.length co10):=(blk_cell BK174.out 1).trans rfl
                  have hfz59_0:=blk_frozen BK174.out 0
                  have hfz59_1:=blk_frozen BK174.out 1
                  have p194 : 0 ≤ (x19_1 : Int):=of_decide_eq_true (by assumption)
                  have q194 : x19_1 < (t168.length : Int):=of_decide_eq_true (by assumption)
                  obtain ⟨ad194,e194,hx194_0⟩:=Kd.at_bool (Kd.R_reads' HO_175000.out).2.2 x19_1 p194 q194
                  (try rw [← Nbq50.out] at hx194_0)
                  cases e194
                  replace p194:=eq_true p194
                  replace q194:=eq_true q194
                  obtain ⟨Ao60,co60,eo60⟩:=Kd.R_slice HO_9.out
                  subst eo60
                  go_wp2_with (first|((with_reducible refine gate_callee (f:=72) rfl ?_);refine goesL_ (some 67) rfl rfl Try.func72 (by kernel_rfl) rfl #[.slice Ao60 x9_28.length co60,.agg #[.int .i64 0,.int .i64 1,.string (⟨#[]⟩ : ByteArray)]] rfl (by (try simp only [List.map_toArray,List.map_cons,List.map_nil]);first|done|rfl|(simp only [List.length_drop,List.length_take];rfl)) ?_;(with_reducible refine (spec_l1Add.calls kj37 (fun k_=>some k_ = (.slice Ao60 x9_28.length co60 : Value).ownBlock) (.slice Ao60 x9_28.length co60) x9_28 0 1 (⟨#[]⟩ : ByteArray) t198 w _ ?side1 ?side2 A57.out).mono ?_);(case side1=>repeat (first|(with_reducible first|exact HB.out|apply below_alloc|apply pw_below_drewN|apply below_drew1|refine below_set ?_ GE174.out|refine below_set ?_ GE181.out)|exact HB.out));(case side2=>exact Kd.R_tight rfl HO_9.out);rintro e w61 ⟨v199,rfl,ho0,hb,hkp⟩;refine ⟨_,rfl,?_⟩;have n0_:=Aside0.mk (Kd.R_mono (ok':=fun k_=>some k_ ≠ (.slice (some ad186) t178.length co16 : Value).ownBlock) (Kd.R_keptB ((Kd.R_apart' HO_17.out (Kd.R_typed HO_9.out) (by decide))) hkp (fun k_ hk_ hs_=>(hk_.2) hs_)) (fun k_ hk_=>hk_.1.1));have n1_:=Aside0.mk (Kd.R_mono (ok':=fun k_=>some k_ ≠ (.slice Ao13 t175.length co13 : Value).ownBlock) (Kd.R_keptB ((Kd.R_apart' HO_175000.out (Kd.R_typed HO_9.out) (by decide))) hkp (fun k_ hk_ hs_=>(hk_.2) hs_)) (fun k_ hk_=>hk_.1.1));have n2_:=Aside0.mk (Kd.R_mono (ok':=fun k_=>some k_ ≠ (.slice (some ad186) t178.length co16 : Value).ownBlock) (Kd.R_keptB ((Kd.R_apart' HO_175001.out (Kd.R_typed HO_9.out) (by decide))) hkp (fun k_ hk_ hs_=>(hk_.2) hs_)) (fun k_ hk_=>hk_.1.1));have n3_:=Aside0.mk (Kd.R_mono (ok':=fun k_=>some k_ ≠ (.slice (some ad194) t168.length co8 : Value).ownBlock) (Kd.R_keptB ((Kd.R_apart' HO_182000.out (Kd.R_typed HO_9.out) (by decide))) hkp (fun k_ hk_ hs_=>(hk_.2) hs_)) (fun k_ hk_=>hk_.1.1));have n4_:=Aside0.mk (Kd.R_mono (ok':=fun k_=>some k_ ≠ (.slice (some ad182) t171.length co10 : Value).ownBlock∧some k_ ≠ (.slice (some ad182) t171.length co10 : Value).ownBlock) (Kd.R_keptB ((Kd.R_apart' HO_182001.out (Kd.R_typed HO_9.out) (by decide))) hkp (fun k_ hk_ hs_=>(hk_.2) hs_)) (fun k_ hk_=>⟨hk_.1.1.1,hk_.1.1.2⟩));have n5_:=Aside0.mk (blk_kept (g:=gb174) (o:=.cells #[.slice (some ad194) t168.length co8,.slice (some ad182) t171.length co10] 110 (0,0)) (by (with_reducible repeat first|apply blk_drewN|apply blk_drew|apply blk_alloc);exact BK174.out) hkp (fun hs_=>(fun e_=>(Kd.R_ne HO_9.out BK174.out (by decide)) e_) hs_));have n6_:=Aside0.mk (blk_kept (g:=gb181) (o:=.cells #[.slice Ao13 t175.length co13,.slice (some ad186) t178.length co16] 110 (0,0)) (by (with_reducible repeat first|apply blk_drewN|apply blk_drew|apply blk_alloc);exact BK181.out) hkp (fun hs_=>(fun e_=>(Kd.R_ne HO_9.out BK181.out (by decide)) e_) hs_));have n7_:=Aside0.mk (Kd.R_mono (ok':=fun k_=>True) ho0 (fun k_ hk_=>trivial));have n8_:=Aside0.mk (hb);clear HO_17;clear HO_175000;clear HO_175001;clear HO_182000;clear HO_182001;clear BK174;clear BK181;clear HB;clear HO_9;have HO_17:=n0_;have HO_175000:=n1_;have HO_175001:=n2_;have HO_182000:=n3_;have HO_182001:=n4_;have BK174:=n5_;have BK181:=n6_;have HO200:=n7_;have HB:=n8_;clear n0_ n1_ n2_ n3_ n4_ n5_ n6_ n7_ n8_;(try clear hb);(try clear hkp);(try clear hbx);(try clear ho0)))
                  go_roundg kj37
                  case measure=>have:=HK1.out;have:=HJ20.out;have:=HJ28.out;have:=HJ37.out;omega
                  case rel=>exact ⟨(t198),(wrap64 (x19_1 + 1)),(by first|rfl|(simp;done)|(simp [*];done)),H',⟨by have:=HK1.out;have:=HJ20.out;have:=HJ28.out;have:=HJ37.out;omega⟩,⟨by (with_reducible repeat (first|apply Kd.R_alloc|apply Kd.R_drewN|apply Kd.R_drew));exact HO200.out⟩,⟨by (with_reducible repeat (first|apply Kd.R_alloc|apply Kd.R_drewN|apply Kd.R_drew));exact HO_17.out⟩,⟨by (with_reducible repeat (first|apply Kd.R_alloc|apply Kd.R_drewN|apply Kd.R_drew));exact HO_175000.out⟩,⟨by (with_reducible repeat (first|apply Kd.R_alloc|apply Kd.R_drewN|apply Kd.R_drew));exact HO_175001.out⟩,⟨by (with_reducible repeat (first|apply Kd.R_alloc|apply Kd.R_drewN|apply Kd.R_drew));exact HO_182000.out⟩,⟨by (with_reducible repeat (first|apply Kd.R_alloc|apply Kd.R_drewN|apply Kd.R_drew));exact HO_182001.out⟩,⟨by (with_reducible repeat first|apply blk_drewN|apply blk_drew|apply blk_alloc);exact BK174.out⟩,⟨by (with_reducible repeat first|apply blk_drewN|apply blk_drew|apply blk_alloc);exact BK181.out⟩,⟨by repeat (first|(with_reducible first|exact HB.out|apply below_alloc|apply pw_below_drewN|apply below_drew1|refine below_set ?_ GE174.out|refine below_set ?_ GE181.out)|exact HB.out)⟩⟩
                ·rw [if_neg c49] at H
                 exact absurd H (by simp)
               ·rw [if_neg c48] at H
                exact absurd H (by simp)
         ·rw [if_neg c27] at H
          exact absurd H (by simp)
        ·rw [if_neg c26] at H
         exact absurd H (by simp)
     ·rw [if_neg c20] at H
      exact absurd H (by simp)
    ·rw [if_neg c19] at H
     exact absurd H (by simp)
   ·rw [if_neg c18] at H
    have c18b0 : decide (x19_1 < (t171.length : Int)) = false:=decide_eq_false c18
    clear c18
    obtain rfl:=Option.some.inj H
    go_wp2
    go_ret
    exact ⟨_,by first|rfl|(simp [*,errW_none,errW_some] <;> rfl),by (with_reducible repeat (first|apply Kd.R_alloc|apply Kd.R_drewN|apply Kd.R_drew));exact HO_9.out,by repeat (first|(with_reducible first|exact HB.out|apply below_alloc|apply pw_below_drewN|apply below_drew1|refine below_set ?_ GE174.out|refine below_set ?_ GE181.out)|exact HB.out)⟩

/-! ### spec_CarryChange: function 40 -/
def spec_CarryChange.j0 : Nat → List (S74) → List (S74) → Bool → Bool → Option ((List (S74)) × Bool)
 | 0,_,_,_,_=>none
 | k + 1,x0,x1,x2,x23=>if x23 = true then (some (([] : List (S74)),false)) else ((spec_l1Carry.f k x0 x1 x2).bind fun t205=>((spec_GoodChange.f k t205).bind fun t208=>(if t208 = true then (some (t205,true)) else (some (([] : List (S74)),false)))))
def spec_CarryChange.f (k : Nat) (l0 : List (S74)) (l1 : List (S74)) (a2 : Bool) : Option ((List (S74)) × Bool):=(spec_GoodChange.f k l0).bind fun t201=>(if t201 = true then ((spec_GoodChange.f k l1).bind fun t202=>(if t202 = true then ((spec_l1Source.f k l0).bind fun t203=>((spec_l1Source.f k l1).bind fun t204=>(spec_CarryChange.j0 k l0 l1 a2 (t203 != t204)))) else (spec_CarryChange.j0 k l0 l1 a2 true))) else (spec_CarryChange.j0 k l0 l1 a2 true))
theorem spec_CarryChange.mono_l : ∀ k,(∀ y0 y1 y2 y3,LeO (spec_CarryChange.j0 k y0 y1 y2 y3) (spec_CarryChange.j0 (k + 1) y0 y1 y2 y3))
 | 0=>fun _ _ _ _ r h=>by simp [spec_CarryChange.j0] at h
 | k + 1=>by
  have ih0:=spec_CarryChange.mono_l k
  ·intro y0 y1 y2 y3
   unfold spec_CarryChange.j0
   repeat' first
   | (with_reducible exact ih0 _ _ _ _)
   | (with_reducible exact spec_GoodChange.mono _ _)
   | (with_reducible exact spec_l1Carry.mono _ _ _ _)
   | (with_reducible exact spec_l1Source.mono _ _)
   | (with_reducible exact LeO.refl _)
   | (with_reducible exact LeO.none _)
   | (with_reducible refine LeO.ite ?_ ?_)
   | (with_reducible refine LeO.bind ?_ (fun _=>?_))
   | exact ih0 _ _ _ _
   | exact spec_GoodChange.mono _ _
   | exact spec_l1Carry.mono _ _ _ _
   | exact spec_l1Source.mono _ _
   | exact LeO.none _
   | refine LeO.ite ?_ ?_
   | refine LeO.bind ?_ (fun _=>?_)
theorem spec_CarryChange.mono : ∀ a0 a1 a2 k,LeO (spec_CarryChange.f k a0 a1 a2) (spec_CarryChange.f (k + 1) a0 a1 a2):=by
 intro a0 a1 a2 k
 have ih0:=spec_CarryChange.mono_l k
 unfold spec_CarryChange.f
 repeat' first
   | (with_reducible exact ih0 _ _ _ _)
   | (with_reducible exact spec_GoodChange.mono _ _)
   | (with_reducible exact spec_l1Carry.mono _ _ _ _)
   | (with_reducible exact spec_l1Source.mono _ _)
   | (with_reducible exact LeO.refl _)
   | (with_reducible exact LeO.none _)
   | (with_reducible refine LeO.ite ?_ ?_)
   | (with_reducible refine LeO.bind ?_ (fun _=>?_))
   | exact ih0 _ _ _ _
   | exact spec_GoodChange.mono _ _
   | exact spec_l1Carry.mono _ _ _ _
   | exact spec_l1Source.mono _ _
   | exact LeO.none _
   | refine LeO.ite ?_ ?_
   | refine LeO.bind ?_ (fun _=>?_)
set_option maxHeartbeats 8000000 in
set_option maxRecDepth 100000 in
theorem spec_CarryChange.calls (k : Nat) (A0 : Option Addr) (c0 : Nat) (l0 : List (S74)) (A1 : Option Addr) (c1 : Nat) (l1 : List (S74)) (a2 : Bool) (r1 : List (S74)) (r2 : Bool) (w : World) (hr0 : Kd.C k74 w A0 l0.length l0) (hc0 : l0.length ≤ c0) (hr1 : Kd.C k74 w A1 l1.length l1) (hc1 : l1.length ≤ c1) (h : spec_CarryChange.f k l0 l1 a2 = some (r1,r2)) :
  Calls Try.prog 40 #[.slice A0 l0.length c0,.slice A1 l1.length c1,.bool a2] w fun e w'=>∃ v0_ : Value,e = .returned (.tuple #[v0_,.bool r2])∧Kd.R k74 74 w' w.heap.size (fun _=>True) v0_ r1∧Below w.heap.size w w':=by
 have HR0:=Aside0.mk hr0
 have HC0:=Aside0.mk hc0
 clear hr0 hc0
 have HR1:=Aside0.mk hr1
 have HC1:=Aside0.mk hc1
 clear hr1 hc1
 have HB:=Aside0.mk (Below.refl w.heap.size w)
 have H : ((spec_GoodChange.f k l0).bind fun t201=>(if t201 = true then ((spec_GoodChange.f k l1).bind fun t202=>(if t202 = true then ((spec_l1Source.f k l0).bind fun t203=>((spec_l1Source.f k l1).bind fun t204=>(spec_CarryChange.j0 k l0 l1 a2 (t203 != t204)))) else (spec_CarryChange.j0 k l0 l1 a2 true))) else (spec_CarryChange.j0 k l0 l1 a2 true))) = some (r1,r2):=h
 clear h
 have HC4:=Aside0.mk H
 clear H
 go_enter Try.func40,Try.ntmps40
 go_upto_region 1 with (fail)
 go_cut [23] (fun v23 wc=>∃ (kq : Nat) (x23_3 : Bool),v23 = .bool x23_3∧Aside0 (spec_CarryChange.j0 kq l0 l1 a2 x23_3 = some (r1,r2))∧Aside0 (kq ≤ k)∧Aside0 (Below w.heap.size w wc))
 case first =>
  have H:=HC4.out
  clear HC4
  replace H:=Option.bind_eq_some_iff.mp H
  obtain ⟨t201,A50,H⟩:=H
  replace H : (if t201 = true then ((spec_GoodChange.f k l1).bind fun t202=>(if t202 = true then ((spec_l1Source.f k l0).bind fun t203=>((spec_l1Source.f k l1).bind fun t204=>(spec_CarryChange.j0 k l0 l1 a2 (t203 != t204)))) else (spec_CarryChange.j0 k l0 l1 a2 true))) else (spec_CarryChange.j0 k l0 l1 a2 true)) = some (r1,r2):=H
  have A5:=Aside0.mk A50
  clear A50
  by_cases c6 : t201 = true
  ·subst c6
   have H1 : ((spec_GoodChange.f k l1).bind fun t202=>(if t202 = true then ((spec_l1Source.f k l0).bind fun t203=>((spec_l1Source.f k l1).bind fun t204=>(spec_CarryChange.j0 k l0 l1 a2 (t203 != t204)))) else (spec_CarryChange.j0 k l0 l1 a2 true))) = some (r1,r2):=by rw [if_pos rfl] at H;exact H
   clear H
   have H:=H1
   clear H1
   replace H:=Option.bind_eq_some_iff.mp H
   obtain ⟨t202,A70,H⟩:=H
   replace H : (if t202 = true then ((spec_l1Source.f k l0).bind fun t203=>((spec_l1Source.f k l1).bind fun t204=>(spec_CarryChange.j0 k l0 l1 a2 (t203 != t204)))) else (spec_CarryChange.j0 k l0 l1 a2 true)) = some (r1,r2):=H
   have A7:=Aside0.mk A70
   clear A70
   by_cases c8 : t202 = true
   ·subst c8
    have H1 : ((spec_l1Source.f k l0).bind fun t203=>((spec_l1Source.f k l1).bind fun t204=>(spec_CarryChange.j0 k l0 l1 a2 (t203 != t204)))) = some (r1,r2):=by rw [if_pos rfl] at H;exact H
    clear H
    have H:=H1
    clear H1
    replace H:=Option.bind_eq_some_iff.mp H
    obtain ⟨t203,A90,H⟩:=H
    replace H : ((spec_l1Source.f k l1).bind fun t204=>(spec_CarryChange.j0 k l0 l1 a2 (t203 != t204))) = some (r1,r2):=H
    have A9:=Aside0.mk A90
    clear A90
    replace H:=Option.bind_eq_some_iff.mp H
    obtain ⟨t204,A100,H⟩:=H
    replace H : (spec_CarryChange.j0 k l0 l1 a2 (t203 != t204)) = some (r1,r2):=H
    have A10:=Aside0.mk A100
    clear A100
    have H':=Aside0.mk H
    clear H
    go_wp2_with (first|((with_reducible refine gate_callee (f:=16) rfl ?_);refine goesL_ (some 10) rfl rfl Try.func16 (by kernel_rfl) rfl #[.slice A0 l0.length c0] rfl (by (try simp only [List.map_toArray,List.map_cons,List.map_nil]);first|done|rfl|(simp only [List.length_drop,List.length_take];rfl)) ?_;(with_reducible refine (spec_GoodChange.calls k _ _ l0 true _ ?side1 ?side2 A5.out).mono ?_);(case side1=>repeat (first|exact (Kd.C_below HR0.out HB.out)|(with_reducible first|apply Kd.C_alloc|apply Kd.C_drewN|apply Kd.C_drew)));(case side2=>exact HC0.out);rintro e w11 ⟨rfl,hb⟩;refine ⟨_,rfl,?_⟩;have n0_:=Aside0.mk (below_step (by repeat (first|exact HB.out|apply below_alloc|apply pw_below_drewN|apply below_drew1)) hb);clear HB;have HB:=n0_;clear n0_;(try clear hb);(try clear hb2);(try clear hk);(try clear hi))|(go_at_call 16;(with_reducible refine (spec_GoodChange.calls k _ _ l1 true _ ?side1 ?side2 A7.out).mono ?_);(case side1=>repeat (first|exact (Kd.C_below HR1.out HB.out)|(with_reducible first|apply Kd.C_alloc|apply Kd.C_drewN|apply Kd.C_drew)));(case side2=>exact HC1.out);rintro e w12 ⟨rfl,hb⟩;have n0_:=Aside0.mk (below_step (by repeat (first|exact HB.out|apply below_alloc|apply pw_below_drewN|apply below_drew1)) hb);clear HB;have HB:=n0_;clear n0_;(try clear hb);(try clear hb2);(try clear hk);(try clear hi))|(go_at_call 61;(with_reducible refine (spec_l1Source.calls k _ _ l0 t203 _ ?side1 ?side2 A9.out).mono ?_);(case side1=>repeat (first|exact (Kd.C_below HR0.out HB.out)|(with_reducible first|apply Kd.C_alloc|apply Kd.C_drewN|apply Kd.C_drew)));(case side2=>exact HC0.out);rintro e w13 ⟨rfl,hb⟩;have n0_:=Aside0.mk (below_step (by repeat (first|exact HB.out|apply below_alloc|apply pw_below_drewN|apply below_drew1)) hb);clear HB;have HB:=n0_;clear n0_;(try clear hb);(try clear hb2);(try clear hk);(try clear hi))|(go_at_call 61;(with_reducible refine (spec_l1Source.calls k _ _ l1 t204 _ ?side1 ?side2 A10.out).mono ?_);(case side1=>repeat (first|exact (Kd.C_below HR1.out HB.out)|(with_reducible first|apply Kd.C_alloc|apply Kd.C_drewN|apply Kd.C_drew)));(case side2=>exact HC1.out);rintro e w14 ⟨rfl,hb⟩;have n0_:=Aside0.mk (below_step (by repeat (first|exact HB.out|apply below_alloc|apply pw_below_drewN|apply below_drew1)) hb);clear HB;have HB:=n0_;clear n0_;(try clear hb);(try clear hb2);(try clear hk);(try clear hi)))
    go_meet
    case rel=>exact ⟨_,((t203 != t204)),(by first|rfl|(simp;done)|(simp [*];done)),H',⟨by first|omega|exact Nat.le_refl _⟩,⟨by repeat (first|exact HB.out|apply below_alloc|apply pw_below_drewN|apply below_drew1)⟩⟩
   ·replace c8:=Bool.eq_false_iff.mpr c8
    subst c8
    have H1 : (spec_CarryChange.j0 k l0 l1 a2 true) = some (r1,r2):=by rw [if_neg (show ¬ (false = true) by decide)] at H;exact H
    clear H
    have H:=H1
    clear H1
    have H':=Aside0.mk H
    clear H
    go_wp2_with (first|((with_reducible refine gate_callee (f:=16) rfl ?_);refine goesL_ (some 10) rfl rfl Try.func16 (by kernel_rfl) rfl #[.slice A0 l0.length c0] rfl (by (try simp only [List.map_toArray,List.map_cons,List.map_nil]);first|done|rfl|(simp only [List.length_drop,List.length_take];rfl)) ?_;(with_reducible refine (spec_GoodChange.calls k _ _ l0 true _ ?side1 ?side2 A5.out).mono ?_);(case side1=>repeat (first|exact (Kd.C_below HR0.out HB.out)|(with_reducible first|apply Kd.C_alloc|apply Kd.C_drewN|apply Kd.C_drew)));(case side2=>exact HC0.out);rintro e w15 ⟨rfl,hb⟩;refine ⟨_,rfl,?_⟩;have n0_:=Aside0.mk (below_step (by repeat (first|exact HB.out|apply below_alloc|apply pw_below_drewN|apply below_drew1)) hb);clear HB;have HB:=n0_;clear n0_;(try clear hb);(try clear hb2);(try clear hk);(try clear hi))|(go_at_call 16;(with_reducible refine (spec_GoodChange.calls k _ _ l1 false _ ?side1 ?side2 A7.out).mono ?_);(case side1=>repeat (first|exact (Kd.C_below HR1.out HB.out)|(with_reducible first|apply Kd.C_alloc|apply Kd.C_drewN|apply Kd.C_drew)));(case side2=>exact HC1.out);rintro e w16 ⟨rfl,hb⟩;have n0_:=Aside0.mk (below_step (by repeat (first|exact HB.out|apply below_alloc|apply pw_below_drewN|apply below_drew1)) hb);clear HB;have HB:=n0_;clear n0_;(try clear hb);(try clear hb2);(try clear hk);(try clear hi)))
    go_meet
    case rel=>exact ⟨_,(true),(by first|rfl|(simp;done)|(simp [*];done)),H',⟨by first|omega|exact Nat.le_refl _⟩,⟨by repeat (first|exact HB.out|apply below_alloc|apply pw_below_drewN|apply below_drew1)⟩⟩
  ·replace c6:=Bool.eq_false_iff.mpr c6
   subst c6
   have H1 : (spec_CarryChange.j0 k l0 l1 a2 true) = some (r1,r2):=by rw [if_neg (show ¬ (false = true) by decide)] at H;exact H
   clear H
   have H:=H1
   clear H1
   have H':=Aside0.mk H
   clear H
   go_wp2_with (first|((with_reducible refine gate_callee (f:=16) rfl ?_);refine goesL_ (some 10) rfl rfl Try.func16 (by kernel_rfl) rfl #[.slice A0 l0.length c0] rfl (by (try simp only [List.map_toArray,List.map_cons,List.map_nil]);first|done|rfl|(simp only [List.length_drop,List.length_take];rfl)) ?_;(with_reducible refine (spec_GoodChange.calls k _ _ l0 false _ ?side1 ?side2 A5.out).mono ?_);(case side1=>repeat (first|exact (Kd.C_below HR0.out HB.out)|(with_reducible first|apply Kd.C_alloc|apply Kd.C_drewN|apply Kd.C_drew)));(case side2=>exact HC0.out);rintro e w17 ⟨rfl,hb⟩;refine ⟨_,rfl,?_⟩;have n0_:=Aside0.mk (below_step (by repeat (first|exact HB.out|apply below_alloc|apply pw_below_drewN|apply below_drew1)) hb);clear HB;have HB:=n0_;clear n0_;(try clear hb);(try clear hb2);(try clear hk);(try clear hi)))
   go_meet
   case rel=>exact ⟨_,(true),(by first|rfl|(simp;done)|(simp [*];done)),H',⟨by first|omega|exact Nat.le_refl _⟩,⟨by repeat (first|exact HB.out|apply below_alloc|apply pw_below_drewN|apply below_drew1)⟩⟩
 case rest =>
  clear HC4
  try clear c1;try clear p2;try clear c4;try clear c6;try clear c8;try clear c16
  obtain ⟨kq,x23_3,rfl,HA,HJ3,HB⟩:=hcut
  cases kq with
  | zero=>exact absurd HA.out (by simp [spec_CarryChange.j0])
  | succ kj3 =>
   have H:=HA.out
   clear HA
   simp only [spec_CarryChange.j0] at H
   by_cases c18 : x23_3 = true
   ·subst c18
    have H1 : (some (([] : List (S74)),false)) = some (r1,r2):=by rw [if_pos rfl] at H;exact H
    clear H
    have H:=H1
    clear H1
    simp only [Option.some.injEq,Prod.mk.injEq] at H
    obtain ⟨rfl,rfl⟩:=H
    go_wp2
    go_ret2
    exact ⟨_,by first|rfl|(simp [*,errW_none,errW_some] <;> rfl),by first|exact Kd.R_nil _ _ _ _ _|exact Kd.N_nil _ _ _ _ _|exact Kd.V_nil _ _ _ _ _|exact Kd.Q_nil _ _ _ _ _|exact Kd.S_nil _ _ _ _ _,by repeat (first|exact HB.out|apply below_alloc|apply pw_below_drewN|apply below_drew1)⟩
   ·replace c18:=Bool.eq_false_iff.mpr c18
    subst c18
    have H1 : ((spec_l1Carry.f kj3 l0 l1 a2).bind fun t205=>((spec_GoodChange.f kj3 t205).bind fun t208=>(if t208 = true then (some (t205,true)) else (some (([] : List (S74)),false))))) = some (r1,r2):=by rw [if_neg (show ¬ (false = true) by decide)] at H;exact H
    clear H
    have H:=H1
    clear H1
    replace H:=Option.bind_eq_some_iff.mp H
    obtain ⟨t205,A190,H⟩:=H
    replace H : ((spec_GoodChange.f kj3 t205).bind fun t208=>(if t208 = true then (some (t205,true)) else (some (([] : List (S74)),false)))) = some (r1,r2):=H
    have A19:=Aside0.mk A190
    clear A190
    replace H:=Option.bind_eq_some_iff.mp H
    obtain ⟨t208,A200,H⟩:=H
    replace H : (if t208 = true then (some (t205,true)) else (some (([] : List (S74)),false))) = some (r1,r2):=H
    have A20:=Aside0.mk A200
    clear A200
    by_cases c21 : t208 = true
    ·subst c21
     have H1 : (some (t205,true)) = some (r1,r2):=by rw [if_pos rfl] at H;exact H
     clear H
     have H:=H1
     clear H1
     simp only [Option.some.injEq,Prod.mk.injEq] at H
     obtain ⟨rfl,rfl⟩:=H
     go_wp2_with (first|((with_reducible refine gate_callee (f:=74) rfl ?_);refine goesL_ (some 27) rfl rfl Try.func74 (by kernel_rfl) rfl #[.slice A0 l0.length c0,.slice A1 l1.length c1,.bool a2] rfl (by (try simp only [List.map_toArray,List.map_cons,List.map_nil]);first|done|rfl|(simp only [List.length_drop,List.length_take];rfl)) ?_;(with_reducible refine (spec_l1Carry.calls kj3 _ _ l0 _ _ l1 a2 t205 _ ?side1 ?side2 ?side3 ?side4 A19.out).mono ?_);(case side1=>repeat (first|exact (Kd.C_below HR0.out HB.out)|(with_reducible first|apply Kd.C_alloc|apply Kd.C_drewN|apply Kd.C_drew)));(case side2=>exact HC0.out);(case side3=>repeat (first|exact (Kd.C_below HR1.out HB.out)|(with_reducible first|apply Kd.C_alloc|apply Kd.C_drewN|apply Kd.C_drew)));(case side4=>exact HC1.out);rintro e w22 ⟨v206,rfl,ho0,hb⟩;refine ⟨_,rfl,?_⟩;have n0_:=Aside0.mk (Kd.R_lower ho0 (below_size (by repeat (first|exact HB.out|apply below_alloc|apply pw_below_drewN|apply below_drew1))));have n1_:=Aside0.mk (below_step (by repeat (first|exact HB.out|apply below_alloc|apply pw_below_drewN|apply below_drew1)) hb);clear HB;have HO207:=n0_;have HB:=n1_;clear n0_ n1_;(try clear hb);(try clear hb2);(try clear hk);(try clear hi);(try clear ho0);obtain ⟨Ao23,co23,eo23⟩:=Kd.R_slice HO207.out;subst eo23)|((with_reducible refine gate_callee (f:=16) rfl ?_);refine goesL_ (some 29) rfl rfl Try.func16 (by kernel_rfl) rfl #[.slice Ao23 t205.length co23] rfl (by (try simp only [List.map_toArray,List.map_cons,List.map_nil]);first|done|rfl|(simp only [List.length_drop,List.length_take];rfl)) ?_;(with_reducible refine (spec_GoodChange.calls kj3 _ _ t205 true _ ?side1 ?side2 A20.out).mono ?_);(case side1=>repeat (first|exact (Kd.R_reads' HO207.out).2.2|(with_reducible first|apply Kd.C_alloc|apply Kd.C_drewN|apply Kd.C_drew)));(case side2=>exact (Kd.R_reads' HO207.out).2.1);rintro e w24 ⟨rfl,hb⟩;refine ⟨_,rfl,?_⟩;have n0_:=Aside0.mk (Kd.R_below (by (with_reducible repeat (first|apply Kd.R_alloc|apply Kd.R_drewN|apply Kd.R_drew));exact HO207.out) hb);have n1_:=Aside0.mk (below_step (by repeat (first|exact HB.out|apply below_alloc|apply pw_below_drewN|apply below_drew1)) hb);clear HO207;clear HB;have HO207:=n0_;have HB:=n1_;clear n0_ n1_;(try clear hb);(try clear hb2);(try clear hk);(try clear hi)))
     go_ret2
     exact ⟨_,by first|rfl|(simp [*,errW_none,errW_some] <;> rfl),by (with_reducible repeat (first|apply Kd.R_alloc|apply Kd.R_drewN|apply Kd.R_drew));exact HO207.out,by repeat (first|exact HB.out|apply below_alloc|apply pw_below_drewN|apply below_drew1)⟩
    ·replace c21:=Bool.eq_false_iff.mpr c21
     subst c21
     have H1 : (some (([] : List (S74)),false)) = some (r1,r2):=by rw [if_neg (show ¬ (false = true) by decide)] at H;exact H
     clear H
     have H:=H1
     clear H1
     simp only [Option.some.injEq,Prod.mk.injEq] at H
     obtain ⟨rfl,rfl⟩:=H
     go_wp2_with (first|((with_reducible refine gate_callee (f:=74) rfl ?_);refine goesL_ (some 27) rfl rfl Try.func74 (by kernel_rfl) rfl #[.slice A0 l0.length c0,.slice A1 l1.length c1,.bool a2] rfl (by (try simp only [List.map_toArray,List.map_cons,List.map_nil]);first|done|rfl|(simp only [List.length_drop,List.length_take];rfl)) ?_;(with_reducible refine (spec_l1Carry.calls kj3 _ _ l0 _ _ l1 a2 t205 _ ?side1 ?side2 ?side3 ?side4 A19.out).mono ?_);(case side1=>repeat (first|exact (Kd.C_below HR0.out HB.out)|(with_reducible first|apply Kd.C_alloc|apply Kd.C_drewN|apply Kd.C_drew)));(case side2=>exact HC0.out);(case side3=>repeat (first|exact (Kd.C_below HR1.out HB.out)|(with_reducible first|apply Kd.C_alloc|apply Kd.C_drewN|apply Kd.C_drew)));(case side4=>exact HC1.out);rintro e w25 ⟨v206,rfl,ho0,hb⟩;refine ⟨_,rfl,?_⟩;have n0_:=Aside0.mk (Kd.R_lower ho0 (below_size (by repeat (first|exact HB.out|apply below_alloc|apply pw_below_drewN|apply below_drew1))));have n1_:=Aside0.mk (below_step (by repeat (first|exact HB.out|apply below_alloc|apply pw_below_drewN|apply below_drew1)) hb);clear HB;have HO207:=n0_;have HB:=n1_;clear n0_ n1_;(try clear hb);(try clear hb2);(try clear hk);(try clear hi);(try clear ho0);obtain ⟨Ao26,co26,eo26⟩:=Kd.R_slice HO207.out;subst eo26)|((with_reducible refine gate_callee (f:=16) rfl ?_);refine goesL_ (some 29) rfl rfl Try.func16 (by kernel_rfl) rfl #[.slice Ao26 t205.length co26] rfl (by (try simp only [List.map_toArray,List.map_cons,List.map_nil]);first|done|rfl|(simp only [List.length_drop,List.length_take];rfl)) ?_;(with_reducible refine (spec_GoodChange.calls kj3 _ _ t205 false _ ?side1 ?side2 A20.out).mono ?_);(case side1=>repeat (first|exact (Kd.R_reads' HO207.out).2.2|(with_reducible first|apply Kd.C_alloc|apply Kd.C_drewN|apply Kd.C_drew)));(case side2=>exact (Kd.R_reads' HO207.out).2.1);rintro e w27 ⟨rfl,hb⟩;refine ⟨_,rfl,?_⟩;have n0_:=Aside0.mk (Kd.R_below (by (with_reducible repeat (first|apply Kd.R_alloc|apply Kd.R_drewN|apply Kd.R_drew));exact HO207.out) hb);have n1_:=Aside0.mk (below_step (by repeat (first|exact HB.out|apply below_alloc|apply pw_below_drewN|apply below_drew1)) hb);clear HO207;clear HB;have HO207:=n0_;have HB:=n1_;clear n0_ n1_;(try clear hb);(try clear hb2);(try clear hk);(try clear hi)))
     go_ret2
     exact ⟨_,by first|rfl|(simp [*,errW_none,errW_some] <;> rfl),by first|exact Kd.R_nil _ _ _ _ _|exact Kd.N_nil _ _ _ _ _|exact Kd.V_nil _ _ _ _ _|exact Kd.Q_nil _ _ _ _ _|exact Kd.S_nil _ _ _ _ _,by repeat (first|exact HB.out|apply below_alloc|apply pw_below_drewN|apply below_drew1)⟩

end Go.Proofs.Ytebmncdjlmnbnaa.PFnExactCarryChange
