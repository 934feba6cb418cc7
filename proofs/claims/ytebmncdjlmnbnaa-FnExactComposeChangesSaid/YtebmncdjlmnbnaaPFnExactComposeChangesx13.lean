-- Written by a program of this session over the print of the kit (wip/t/patch_print.py).
import Derived.Test.YtebmncdjlmnbnaaPFnExactComposeChangesx0
import Derived.Test.YtebmncdjlmnbnaaPFnExactComposeChangesx12
namespace Go.Proofs.Ytebmncdjlmnbnaa.PFnExactComposeChanges
open Go.RowKit Go.Proofs.YtebmncdjlmnbnaaW.PrintWords Go.Proofs.YtebmncdjlmnbnaaW.PrintLast Go.Proofs.YtebmncdjlmnbnaaW.PrintMore
attribute [local go_sem] max2_int min2_int max_two min_two max_three min_three max_four min_four   -- for this text's walks alone
set_option linter.unusedVariables false
set_option linter.unusedSimpArgs false

/-! ### impl_told_parts: function 90 -/
mutual
def impl_told_parts.l0 : Nat → List ByteArray → Int → Int → List Bool → List ByteArray → List (S74) → Option ((List (S74)))
 | 0,_,_,_,_,_,_=>none
 | k + 1,x8,x9,x10,x289000,x289001,x290000=>if x10 < x9 then (if 0 ≤ x10 then (if x10 < (x8.length : Int) then (if (rdOf ByteArray.empty x8 x10).toList = ([] : List UInt8) then (impl_told_parts.j1 k x10 x8 x9 x10 x289000 x289001 x290000) else ((impl_builder_add.f k x290000 0 0 (rdOf ByteArray.empty x8 x10)).bind fun t291=>(impl_told_parts.j1 k x10 x8 x9 x10 x289000 x289001 t291))) else (none)) else (none)) else (some x290000)
def impl_told_parts.j1 : Nat → Int → List ByteArray → Int → Int → List Bool → List ByteArray → List (S74) → Option ((List (S74)))
 | 0,_,_,_,_,_,_,_=>none
 | k + 1,x4,x8,x9,x10,x289000,x289001,x290000=>if x4 = (x289000.length : Int) then (impl_told_parts.l0 k x8 x9 (wrap64 (x10 + 1)) x289000 x289001 x290000) else (if 0 ≤ x4 then (if x4 < (x289000.length : Int) then (if rdOf false x289000 x4 = true then ((impl_builder_add.f k x290000 1 0 (⟨#[]⟩ : ByteArray)).bind fun t295=>(impl_told_parts.l0 k x8 x9 (wrap64 (x10 + 1)) x289000 x289001 t295)) else ((impl_builder_add.f k x290000 0 1 (⟨#[]⟩ : ByteArray)).bind fun t298=>(impl_told_parts.l0 k x8 x9 (wrap64 (x10 + 1)) x289000 x289001 t298))) else (none)) else (none))
end
def impl_told_parts.f (k : Nat) (l0_0 : List Bool) (l0_1 : List ByteArray) : Option ((List (S74))):=impl_told_parts.l0 k l0_1 (l0_1.length : Int) 0 l0_0 l0_1 ([] : List (S74))
theorem impl_told_parts.mono_l : ∀ k,(∀ y0 y1 y2 y3 y4 y5,LeO (impl_told_parts.l0 k y0 y1 y2 y3 y4 y5) (impl_told_parts.l0 (k + 1) y0 y1 y2 y3 y4 y5))∧(∀ y0 y1 y2 y3 y4 y5 y6,LeO (impl_told_parts.j1 k y0 y1 y2 y3 y4 y5 y6) (impl_told_parts.j1 (k + 1) y0 y1 y2 y3 y4 y5 y6))
 | 0=>⟨fun _ _ _ _ _ _ r h=>by simp [impl_told_parts.l0] at h,fun _ _ _ _ _ _ _ r h=>by simp [impl_told_parts.j1] at h⟩
 | k + 1=>by
  obtain ⟨ih0,ih1⟩:=impl_told_parts.mono_l k
  refine ⟨?_,?_⟩
  ·intro y0 y1 y2 y3 y4 y5
   unfold impl_told_parts.l0
   repeat' first
   | (with_reducible exact ih0 _ _ _ _ _ _)
   | (with_reducible exact ih1 _ _ _ _ _ _ _)
   | (with_reducible exact impl_builder_add.mono _ _ _ _ _)
   | (with_reducible exact LeO.refl _)
   | (with_reducible exact LeO.none _)
   | (with_reducible refine LeO.ite ?_ ?_)
   | (with_reducible refine LeO.bind ?_ (fun _=>?_))
   | exact ih0 _ _ _ _ _ _
   | exact ih1 _ _ _ _ _ _ _
   | exact impl_builder_add.mono _ _ _ _ _
   | exact LeO.none _
   | refine LeO.ite ?_ ?_
   | refine LeO.bind ?_ (fun _=>?_)
  ·intro y0 y1 y2 y3 y4 y5 y6
   unfold impl_told_parts.j1
   repeat' first
   | (with_reducible exact ih0 _ _ _ _ _ _)
   | (with_reducible exact ih1 _ _ _ _ _ _ _)
   | (with_reducible exact impl_builder_add.mono _ _ _ _ _)
   | (with_reducible exact LeO.refl _)
   | (with_reducible exact LeO.none _)
   | (with_reducible refine LeO.ite ?_ ?_)
   | (with_reducible refine LeO.bind ?_ (fun _=>?_))
   | exact ih0 _ _ _ _ _ _
   | exact ih1 _ _ _ _ _ _ _
   | exact impl_builder_add.mono _ _ _ _ _
   | exact LeO.none _
   | refine LeO.ite ?_ ?_
   | refine LeO.bind ?_ (fun _=>?_)
theorem impl_told_parts.mono : ∀ a0 a1 k,LeO (impl_told_parts.f k a0 a1) (impl_told_parts.f (k + 1) a0 a1):=by
 intro a0 a1 k
 obtain ⟨ih0,ih1⟩:=impl_told_parts.mono_l k
 unfold impl_told_parts.f
 repeat' first
   | (with_reducible exact ih0 _ _ _ _ _ _)
   | (with_reducible exact ih1 _ _ _ _ _ _ _)
   | (with_reducible exact impl_builder_add.mono _ _ _ _ _)
   | (with_reducible exact LeO.refl _)
   | (with_reducible exact LeO.none _)
   | (with_reducible refine LeO.ite ?_ ?_)
   | (with_reducible refine LeO.bind ?_ (fun _=>?_))
   | exact ih0 _ _ _ _ _ _
   | exact ih1 _ _ _ _ _ _ _
   | exact impl_builder_add.mono _ _ _ _ _
   | exact LeO.none _
   | refine LeO.ite ?_ ?_
   | refine LeO.bind ?_ (fun _=>?_)
set_option maxHeartbeats 8000000 in
set_option maxRecDepth 100000 in
theorem impl_told_parts.calls (k : Nat) (A0_0 : Option Addr) (c0_0 : Nat) (l0_0 : List Bool) (A0_1 : Option Addr) (c0_1 : Nat) (l0_1 : List ByteArray) (r : List (S74)) (w : World) (hr0_0 : Kd.C Kd.bool w A0_0 l0_0.length l0_0) (hc0_0 : l0_0.length ≤ c0_0) (hr0_1 : Kd.C Kd.string w A0_1 l0_1.length l0_1) (hc0_1 : l0_1.length ≤ c0_1) (h : impl_told_parts.f k l0_0 l0_1 = some r) :
  Calls Try.prog 90 #[.agg #[.slice A0_0 l0_0.length c0_0,.slice A0_1 l0_1.length c0_1]] w fun e w'=>∃ v0_ : Value,e = .returned (v0_)∧Kd.R k74 74 w' w.heap.size (fun _=>True) v0_ r∧Below w.heap.size w w':=by
 have hu86:=Try.underlying86
 have hu92:=Try.underlying92
 have hu74:=Try.underlying74
 have HR0_0:=Aside0.mk hr0_0
 have HC0_0:=Aside0.mk hc0_0
 clear hr0_0 hc0_0
 have HR0_1:=Aside0.mk hr0_1
 have HC0_1:=Aside0.mk hc0_1
 clear hr0_1 hc0_1
 have HB:=Aside0.mk (Below.refl w.heap.size w)
 have H : (impl_told_parts.l0 k l0_1 (l0_1.length : Int) 0 l0_0 l0_1 ([] : List (S74))) = some r:=h
 clear h
 have H':=Aside0.mk H
 clear H
 go_enter Try.func90,Try.ntmps90
 go_wp2_with (first|((with_reducible refine gate_dst (N:=1) rfl ?_);refine box_event ?hg (N:=1) ?hd (cs:=#[.slice A0_0 l0_0.length c0_0,.slice A0_1 l0_1.length c0_1]) (t:=86) ?hr ?_;(case hd=>rfl);(case hg=>rfl);(case hr=>first|(go_simp;done)|(go_simp;rfl));intro gb288 hg w2 hbox hb;have n0_:=Aside0.mk (below_step (by repeat (first|exact HB.out|apply below_alloc|apply pw_below_drewN|apply below_drew1)) hb);have n1_:=Aside0.mk (hbox);have n2_:=Aside0.mk ((by rw [hg];exact (below_size (by repeat (first|exact HB.out|apply below_alloc|apply pw_below_drewN|apply below_drew1))) : w.heap.size ≤ gb288));have n3_:=Aside0.mk ((by rw [hg];exact (below_size (by repeat (first|exact HB.out|apply below_alloc|apply pw_below_drewN|apply below_drew1))) : w.heap.size ≤ gb288));clear HB;have HB:=n0_;have BK288:=n1_;have GW288:=n2_;have GE288:=n3_;clear n0_ n1_ n2_ n3_;clear hb hbox hg)|((with_reducible refine gate_dst (N:=3) rfl ?_);refine box_event ?hg (N:=3) ?hd (cs:=#[.slice none 0 0]) (t:=92) ?hr ?_;(case hd=>rfl);(case hg=>rfl);(case hr=>first|(go_simp;done)|(go_simp;rfl));intro gb289 hg w3 hbox hb;have n0_:=Aside0.mk (blk_below (g:=gb288) (o:=.cells #[.slice A0_0 l0_0.length c0_0,.slice A0_1 l0_1.length c0_1] 86 (0,0)) (by (with_reducible repeat first|apply blk_drewN|apply blk_drew|apply blk_alloc);exact BK288.out) hb);have n1_:=Aside0.mk (below_step (by repeat (first|(with_reducible first|exact HB.out|apply below_alloc|apply pw_below_drewN|apply below_drew1|refine below_set ?_ GE288.out)|exact HB.out)) hb);have n2_:=Aside0.mk (hbox);have n3_:=Aside0.mk ((by rw [hg];exact (below_size (by repeat (first|(with_reducible first|exact HB.out|apply below_alloc|apply pw_below_drewN|apply below_drew1|refine below_set ?_ GE288.out)|exact HB.out))) : w.heap.size ≤ gb289));have n4_:=Aside0.mk ((by rw [hg];exact (below_size (by repeat (first|(with_reducible first|exact HB.out|apply below_alloc|apply pw_below_drewN|apply below_drew1|refine below_set ?_ GE288.out)|exact HB.out))) : w.heap.size ≤ gb289));have n5_:=Aside0.mk ((by rw [hg];exact Nat.ne_of_lt (blk_lt (g:=gb288) (o:=.cells #[.slice A0_0 l0_0.length c0_0,.slice A0_1 l0_1.length c0_1] 86 (0,0)) (by (with_reducible repeat first|apply blk_drewN|apply blk_drew|apply blk_alloc);exact BK288.out)) : gb288 ≠ gb289));have n6_:=Aside0.mk ((by rw [hg];exact Nat.ne_of_gt (blk_lt (g:=gb288) (o:=.cells #[.slice A0_0 l0_0.length c0_0,.slice A0_1 l0_1.length c0_1] 86 (0,0)) (by (with_reducible repeat first|apply blk_drewN|apply blk_drew|apply blk_alloc);exact BK288.out)) : gb289 ≠ gb288));clear BK288;clear HB;have BK288:=n0_;have HB:=n1_;have BK289:=n2_;have GW289:=n3_;have GE289:=n4_;have NB288_289:=n5_;have NB289_288:=n6_;clear n0_ n1_ n2_ n3_ n4_ n5_ n6_;clear hb hbox hg;have hnb4:=NB289_288.out;have hnc4:=NB288_289.out;have hcz5_0 : w3.cell? ⟨gb289,0,none⟩ = some (.slice none 0 0):=(blk_cell BK289.out 0).trans rfl;have hfz5_0:=blk_frozen BK289.out 0;have hcz6_0 : w3.cell? ⟨gb288,0,none⟩ = some (.slice A0_0 l0_0.length c0_0):=(blk_cell BK288.out 0).trans rfl;have hcz6_1 : w3.cell? ⟨gb288,1,none⟩ = some (.slice A0_1 l0_1.length c0_1):=(blk_cell BK288.out 1).trans rfl;have hfz6_0:=blk_frozen BK288.out 0;have hfz6_1:=blk_frozen BK288.out 1))
 go_loopg [10] k (fun kq v10 w'=>∃ (x10_1 : Int) (x290000_1 : List (S74)) (u290000 : Value),v10 = .int .i64 x10_1∧Aside0 (impl_told_parts.l0 kq l0_1 (l0_1.length : Int) x10_1 l0_0 l0_1 x290000_1 = some r)∧Aside0 (kq ≤ k)∧Aside0 (Kd.R k74 74 w' w.heap.size (fun _=>True) u290000 x290000_1)∧Aside0 (w'.heap[gb288]? = some (.cells #[(.slice A0_0 l0_0.length c0_0),(.slice A0_1 l0_1.length c0_1)] 86 (0,0)))∧Aside0 (w'.heap[gb289]? = some (.cells #[u290000] 92 (0,0)))∧Aside0 (Below w.heap.size w w'))
 case atStart=>exact ⟨(0),(([] : List (S74))),(.slice none 0 0),(by first|rfl|(simp;done)|(simp [*];done)),H',⟨Nat.le_refl _⟩,⟨by first|exact Kd.R_nil _ _ _ _ _|exact Kd.N_nil _ _ _ _ _|exact Kd.V_nil _ _ _ _ _|exact Kd.Q_nil _ _ _ _ _|exact Kd.S_nil _ _ _ _ _⟩,⟨by (with_reducible repeat first|apply blk_drewN|apply blk_drew|apply blk_alloc);refine blk_far ?_ NB288_289.out _;(with_reducible repeat first|apply blk_drewN|apply blk_drew|apply blk_alloc);exact BK288.out⟩,⟨by (with_reducible repeat first|apply blk_drewN|apply blk_drew|apply blk_alloc);refine blk_put (cs:=#[.slice none 0 0]) ?_ 0 _ rfl;(with_reducible repeat first|apply blk_drewN|apply blk_drew|apply blk_alloc);exact BK289.out⟩,⟨by repeat (first|(with_reducible first|exact HB.out|apply below_alloc|apply pw_below_drewN|apply below_drew1|refine below_set ?_ GE288.out|refine below_set ?_ GE289.out)|exact HB.out)⟩⟩
 case round =>
  clear H'
  (try clear p2);(try clear c4);(try clear hcz5_0);(try clear hcz6_0);(try clear hcz6_1);(try clear hfz5_0);(try clear hfz6_0);(try clear hfz6_1);(try clear BK288);(try clear BK289)
  obtain ⟨x10_1,x290000_1,u290000,rfl,HA,HK1,HO_290000,BK288,BK289,HB⟩:=hrel
  cases gk with
  | zero=>exact absurd HA.out (by simp [impl_told_parts.l0])
  | succ k1 =>
   have H:=HA.out
   clear HA
   simp only [impl_told_parts.l0] at H
   by_cases c7 : x10_1 < (l0_1.length : Int)
   ·rw [if_pos c7] at H
    have c7b0 : decide (x10_1 < (l0_1.length : Int)) = true:=decide_eq_true c7
    clear c7
    by_cases c8 : 0 ≤ x10_1
    ·rw [if_pos c8] at H
     have c8b0 : decide (0 ≤ x10_1) = true:=decide_eq_true c8
     clear c8
     by_cases c9 : x10_1 < (l0_1.length : Int)
     ·rw [if_pos c9] at H
      have c9b0 : decide (x10_1 < (l0_1.length : Int)) = true:=decide_eq_true c9
      clear c9
      have HC10:=Aside0.mk H
      clear H
      have p290 : 0 ≤ (x10_1 : Int):=of_decide_eq_true (by assumption)
      have q290 : x10_1 < (l0_1.length : Int):=of_decide_eq_true (by assumption)
      obtain ⟨ad290,e290,hx290_0⟩:=Kd.at_string HR0_1.out x10_1 p290 q290
      cases e290
      (try replace hx290_0:=(HB.out.cell (World.block_lt_of_cell? w _ hx290_0)).trans hx290_0)
      replace p290:=eq_true p290
      replace q290:=eq_true q290
      go_upto_if 16 with (fail)
      go_cut [] (fun wc=>∃ (kq : Nat) (x290000_9 : List (S74)) (u290000 : Value),Aside0 (impl_told_parts.j1 kq x10_1 l0_1 (l0_1.length : Int) x10_1 l0_0 l0_1 x290000_9 = some r)∧Aside0 (kq ≤ k1)∧Aside0 (Kd.R k74 74 wc w.heap.size (fun _=>True) u290000 x290000_9)∧Aside0 (wc.heap[gb288]? = some (.cells #[(.slice A0_0 l0_0.length c0_0),(.slice (some ad290) l0_1.length c0_1)] 86 (0,0)))∧Aside0 (wc.heap[gb289]? = some (.cells #[u290000] 92 (0,0)))∧Aside0 (Below w.heap.size w wc))
      case first =>
       have H:=HC10.out
       clear HC10
       by_cases c11 : (rdOf ByteArray.empty l0_1 x10_1).toList = ([] : List UInt8)
       ·rw [if_pos c11] at H
        have c11b0 : ((rdOf ByteArray.empty l0_1 x10_1).toList == ([] : List UInt8) ) = true:=beq_iff_eq.mpr c11
        have c11b1 : ((rdOf ByteArray.empty l0_1 x10_1).toList != ([] : List UInt8) ) = false:=bne_eq_false_iff_eq.mpr c11
        (try (have c11b2 : (rdOf ByteArray.empty l0_1 x10_1).toList.isEmpty = true:=by simpa using c11))
        clear c11
        (first|rw [c11b0]|(simp only [i64_w,i32_w];rw [c11b0])|rw [c11b2]|skip)
        have H':=Aside0.mk H
        clear H
        go_wp2
        go_meet
        case rel=>exact ⟨_,(x290000_1),(u290000),H',⟨by have:=HK1.out;first|omega|exact Nat.le_refl _⟩,⟨by (with_reducible repeat (first|apply Kd.R_alloc|apply Kd.R_drewN|apply Kd.R_drew));exact HO_290000.out⟩,⟨by (with_reducible repeat first|apply blk_drewN|apply blk_drew|apply blk_alloc);exact BK288.out⟩,⟨by (with_reducible repeat first|apply blk_drewN|apply blk_drew|apply blk_alloc);exact BK289.out⟩,⟨by repeat (first|(with_reducible first|exact HB.out|apply below_alloc|apply pw_below_drewN|apply below_drew1|refine below_set ?_ GE288.out|refine below_set ?_ GE289.out)|exact HB.out)⟩⟩
       ·rw [if_neg c11] at H
        have c11b0 : ((rdOf ByteArray.empty l0_1 x10_1).toList == ([] : List UInt8) ) = false:=beq_eq_false_iff_ne.mpr c11
        have c11b1 : ((rdOf ByteArray.empty l0_1 x10_1).toList != ([] : List UInt8) ) = true:=bne_iff_ne.mpr c11
        (try (have c11b2 : (rdOf ByteArray.empty l0_1 x10_1).toList.isEmpty = false:=by simpa using c11))
        (first|rw [c11b0]|(simp only [i64_w,i32_w];rw [c11b0])|rw [c11b2]|skip)
        replace H:=Option.bind_eq_some_iff.mp H
        obtain ⟨t291,A120,H⟩:=H
        replace H : (impl_told_parts.j1 k1 x10_1 l0_1 (l0_1.length : Int) x10_1 l0_0 l0_1 t291) = some r:=H
        have A12:=Aside0.mk A120
        clear A120
        have H':=Aside0.mk H
        clear H
        obtain ⟨Ao13,co13,eo13⟩:=Kd.R_slice HO_290000.out
        subst eo13
        go_wp2_with (first|((with_reducible refine gate_callee (f:=73) rfl ?_);refine goesL_ (some 19) rfl rfl Try.func73 (by kernel_rfl) rfl #[.pointer (some ⟨gb289,0,none⟩),.agg #[.int .i64 0,.int .i64 0,.string (rdOf ByteArray.empty l0_1 x10_1)]] rfl (by (try simp only [List.map_toArray,List.map_cons,List.map_nil]);first|done|rfl|(simp only [List.length_drop,List.length_take];rfl)) ?_;(with_reducible refine (impl_builder_add.calls k1 gb289 (fun k_=>some k_ = (.slice Ao13 x290000_1.length co13 : Value).ownBlock) (.slice Ao13 x290000_1.length co13) x290000_1 0 0 (rdOf ByteArray.empty l0_1 x10_1) t291 w _ ?side1 ?side2 ?side3 ?side4 A12.out).mono ?_);(case side1=>repeat (first|(with_reducible first|exact HB.out|apply below_alloc|apply pw_below_drewN|apply below_drew1|refine below_set ?_ GE288.out|refine below_set ?_ GE289.out)|exact HB.out));(case side2=>exact by (with_reducible repeat first|apply blk_drewN|apply blk_drew|apply blk_alloc);exact BK289.out);(case side3=>exact GE289.out);(case side4=>exact Kd.R_tight rfl HO_290000.out);rintro e w14 ⟨v292,rfl,ho0,hbx,hb,hkp⟩;refine ⟨_,rfl,?_⟩;have n0_:=Aside0.mk (blk_kept (g:=gb288) (o:=.cells #[.slice A0_0 l0_0.length c0_0,.slice (some ad290) l0_1.length c0_1] 86 (0,0)) (by (with_reducible repeat first|apply blk_drewN|apply blk_drew|apply blk_alloc);exact BK288.out) hkp (fun hs_=>Or.elim hs_ (fun hs_=>(fun e_=>(Kd.R_ne HO_290000.out BK288.out (by decide)) e_) hs_) (fun e_=>NB288_289.out e_)));have n1_:=Aside0.mk (hbx);have n2_:=Aside0.mk (Kd.R_mono (ok':=fun k_=>True) ho0 (fun k_ hk_=>trivial));have n3_:=Aside0.mk (hb);clear BK288;clear BK289;clear HB;clear HO_290000;have BK288:=n0_;have BK289:=n1_;have HO293:=n2_;have HB:=n3_;clear n0_ n1_ n2_ n3_;(try clear hb);(try clear hkp);(try clear hbx);(try clear ho0)))
        go_meet
        case rel=>exact ⟨_,(t291),(v292),H',⟨by have:=HK1.out;first|omega|exact Nat.le_refl _⟩,⟨by (with_reducible repeat (first|apply Kd.R_alloc|apply Kd.R_drewN|apply Kd.R_drew));exact HO293.out⟩,⟨by (with_reducible repeat first|apply blk_drewN|apply blk_drew|apply blk_alloc);exact BK288.out⟩,⟨by (with_reducible repeat first|apply blk_drewN|apply blk_drew|apply blk_alloc);exact BK289.out⟩,⟨by repeat (first|(with_reducible first|exact HB.out|apply below_alloc|apply pw_below_drewN|apply below_drew1|refine below_set ?_ GE288.out|refine below_set ?_ GE289.out)|exact HB.out)⟩⟩
      case rest =>
       clear HC10
       try clear c1;try clear p2;try clear q2;try clear hx2;try clear c4;try clear c7;try clear c7b0;try clear c8;try clear c8b0;try clear c9;try clear c9b0;try clear c11;try clear c11b0;try clear c11b1;try clear c11b2;try clear hcz5_0;try clear hcz6_0;try clear hcz6_1;try clear hfz5_0;try clear hfz6_0;try clear hfz6_1;try clear hx290_0;try clear p2;try clear p290;try clear q290
       obtain ⟨kq,x290000_9,u290000,HA,HJ9,HO_290000,BK288,BK289,HB⟩:=hcut
       cases kq with
       | zero=>exact absurd HA.out (by simp [impl_told_parts.j1])
       | succ kj9 =>
        have H:=HA.out
        clear HA
        simp only [impl_told_parts.j1] at H
        by_cases c15 : x10_1 = (l0_0.length : Int)
        ·rw [if_pos c15] at H
         have c15b0 : (x10_1 == (l0_0.length : Int)) = true:=beq_iff_eq.mpr c15
         have c15b1 : (x10_1 != (l0_0.length : Int)) = false:=bne_eq_false_iff_eq.mpr c15
         clear c15
         have H':=Aside0.mk H
         clear H
         have hnb16:=NB288_289.out
         have hnc16:=NB289_288.out
         have hcz17_0 : wc.cell? ⟨gb288,0,none⟩ = some (.slice A0_0 l0_0.length c0_0):=(blk_cell BK288.out 0).trans rfl
         have hcz17_1 : wc.cell? ⟨gb288,1,none⟩ = some (.slice (some ad290) l0_1.length c0_1):=(blk_cell BK288.out 1).trans rfl
         have hfz17_0:=blk_frozen BK288.out 0
         have hfz17_1:=blk_frozen BK288.out 1
         go_wp2
         go_roundg kj9
         case measure=>have:=HK1.out;have:=HJ9.out;omega
         case rel=>exact ⟨(wrap64 (x10_1 + 1)),(x290000_9),(u290000),(by first|rfl|(simp;done)|(simp [*];done)),H',⟨by have:=HK1.out;have:=HJ9.out;omega⟩,⟨by (with_reducible repeat (first|apply Kd.R_alloc|apply Kd.R_drewN|apply Kd.R_drew));exact HO_290000.out⟩,⟨by (with_reducible repeat first|apply blk_drewN|apply blk_drew|apply blk_alloc);exact BK288.out⟩,⟨by (with_reducible repeat first|apply blk_drewN|apply blk_drew|apply blk_alloc);exact BK289.out⟩,⟨by repeat (first|(with_reducible first|exact HB.out|apply below_alloc|apply pw_below_drewN|apply below_drew1|refine below_set ?_ GE288.out|refine below_set ?_ GE289.out)|exact HB.out)⟩⟩
        ·rw [if_neg c15] at H
         have c15b0 : (x10_1 == (l0_0.length : Int)) = false:=beq_eq_false_iff_ne.mpr c15
         have c15b1 : (x10_1 != (l0_0.length : Int)) = true:=bne_iff_ne.mpr c15
         by_cases c18 : 0 ≤ x10_1
         ·rw [if_pos c18] at H
          have c18b0 : decide (0 ≤ x10_1) = true:=decide_eq_true c18
          clear c18
          by_cases c19 : x10_1 < (l0_0.length : Int)
          ·rw [if_pos c19] at H
           have c19b0 : decide (x10_1 < (l0_0.length : Int)) = true:=decide_eq_true c19
           clear c19
           obtain ⟨bq20,hbq20⟩ : ∃ b_ : Bool,b_ = (rdOf false l0_0 x10_1):=⟨_,rfl⟩
           replace H : (if bq20 = true then ((impl_builder_add.f kj9 x290000_9 1 0 (⟨#[]⟩ : ByteArray)).bind fun t295=>(impl_told_parts.l0 kj9 l0_1 (l0_1.length : Int) (wrap64 (x10_1 + 1)) l0_0 l0_1 t295)) else ((impl_builder_add.f kj9 x290000_9 0 1 (⟨#[]⟩ : ByteArray)).bind fun t298=>(impl_told_parts.l0 kj9 l0_1 (l0_1.length : Int) (wrap64 (x10_1 + 1)) l0_0 l0_1 t298))) = some r:=by rw [← hbq20] at H;exact H
           have Nbq20:=Aside0.mk hbq20
           clear hbq20
           by_cases c21 : bq20 = true
           ·subst c21
            have H1 : ((impl_builder_add.f kj9 x290000_9 1 0 (⟨#[]⟩ : ByteArray)).bind fun t295=>(impl_told_parts.l0 kj9 l0_1 (l0_1.length : Int) (wrap64 (x10_1 + 1)) l0_0 l0_1 t295)) = some r:=by rw [if_pos rfl] at H;exact H
            clear H
            have H:=H1
            clear H1
            replace H:=Option.bind_eq_some_iff.mp H
            obtain ⟨t295,A220,H⟩:=H
            replace H : (impl_told_parts.l0 kj9 l0_1 (l0_1.length : Int) (wrap64 (x10_1 + 1)) l0_0 l0_1 t295) = some r:=H
            have A22:=Aside0.mk A220
            clear A220
            have H':=Aside0.mk H
            clear H
            have hnb23:=NB288_289.out
            have hnc23:=NB289_288.out
            have hcz24_0 : wc.cell? ⟨gb288,0,none⟩ = some (.slice A0_0 l0_0.length c0_0):=(blk_cell BK288.out 0).trans rfl
            have hcz24_1 : wc.cell? ⟨gb288,1,none⟩ = some (.slice (some ad290) l0_1.length c0_1):=(blk_cell BK288.out 1).trans rfl
            have hfz24_0:=blk_frozen BK288.out 0
            have hfz24_1:=blk_frozen BK288.out 1
            have p294 : 0 ≤ (x10_1 : Int):=of_decide_eq_true (by assumption)
            have q294 : x10_1 < (l0_0.length : Int):=of_decide_eq_true (by assumption)
            obtain ⟨ad294,e294,hx294_0⟩:=Kd.at_bool HR0_0.out x10_1 p294 q294
            (try rw [← Nbq20.out] at hx294_0)
            cases e294
            (try replace hx294_0:=(HB.out.cell (World.block_lt_of_cell? w _ hx294_0)).trans hx294_0)
            replace p294:=eq_true p294
            replace q294:=eq_true q294
            obtain ⟨Ao25,co25,eo25⟩:=Kd.R_slice HO_290000.out
            subst eo25
            go_wp2_with (first|((with_reducible refine gate_callee (f:=73) rfl ?_);refine goesL_ (some 35) rfl rfl Try.func73 (by kernel_rfl) rfl #[.pointer (some ⟨gb289,0,none⟩),.agg #[.int .i64 1,.int .i64 0,.string (⟨#[]⟩ : ByteArray)]] rfl (by (try simp only [List.map_toArray,List.map_cons,List.map_nil]);first|done|rfl|(simp only [List.length_drop,List.length_take];rfl)) ?_;(with_reducible refine (impl_builder_add.calls kj9 gb289 (fun k_=>some k_ = (.slice Ao25 x290000_9.length co25 : Value).ownBlock) (.slice Ao25 x290000_9.length co25) x290000_9 1 0 (⟨#[]⟩ : ByteArray) t295 w _ ?side1 ?side2 ?side3 ?side4 A22.out).mono ?_);(case side1=>repeat (first|(with_reducible first|exact HB.out|apply below_alloc|apply pw_below_drewN|apply below_drew1|refine below_set ?_ GE288.out|refine below_set ?_ GE289.out)|exact HB.out));(case side2=>exact by (with_reducible repeat first|apply blk_drewN|apply blk_drew|apply blk_alloc);exact BK289.out);(case side3=>exact GE289.out);(case side4=>exact Kd.R_tight rfl HO_290000.out);rintro e w26 ⟨v296,rfl,ho0,hbx,hb,hkp⟩;refine ⟨_,rfl,?_⟩;have n0_:=Aside0.mk (blk_kept (g:=gb288) (o:=.cells #[.slice (some ad294) l0_0.length c0_0,.slice (some ad290) l0_1.length c0_1] 86 (0,0)) (by (with_reducible repeat first|apply blk_drewN|apply blk_drew|apply blk_alloc);exact BK288.out) hkp (fun hs_=>Or.elim hs_ (fun hs_=>(fun e_=>(Kd.R_ne HO_290000.out BK288.out (by decide)) e_) hs_) (fun e_=>NB288_289.out e_)));have n1_:=Aside0.mk (hbx);have n2_:=Aside0.mk (Kd.R_mono (ok':=fun k_=>True) ho0 (fun k_ hk_=>trivial));have n3_:=Aside0.mk (hb);clear BK288;clear BK289;clear HB;clear HO_290000;have BK288:=n0_;have BK289:=n1_;have HO297:=n2_;have HB:=n3_;clear n0_ n1_ n2_ n3_;(try clear hb);(try clear hkp);(try clear hbx);(try clear ho0)))
            go_roundg kj9
            case measure=>have:=HK1.out;have:=HJ9.out;omega
            case rel=>exact ⟨(wrap64 (x10_1 + 1)),(t295),(v296),(by first|rfl|(simp;done)|(simp [*];done)),H',⟨by have:=HK1.out;have:=HJ9.out;omega⟩,⟨by (with_reducible repeat (first|apply Kd.R_alloc|apply Kd.R_drewN|apply Kd.R_drew));exact HO297.out⟩,⟨by (with_reducible repeat first|apply blk_drewN|apply blk_drew|apply blk_alloc);exact BK288.out⟩,⟨by (with_reducible repeat first|apply blk_drewN|apply blk_drew|apply blk_alloc);exact BK289.out⟩,⟨by repeat (first|(with_reducible first|exact HB.out|apply below_alloc|apply pw_below_drewN|apply below_drew1|refine below_set ?_ GE288.out|refine below_set ?_ GE289.out)|exact HB.out)⟩⟩
           ·replace c21:=Bool.eq_false_iff.mpr c21
            subst c21
            have H1 : ((impl_builder_add.f kj9 x290000_9 0 1 (⟨#[]⟩ : ByteArray)).bind fun t298=>(impl_told_parts.l0 kj9 l0_1 (l0_1.length : Int) (wrap64 (x10_1 + 1)) l0_0 l0_1 t298)) = some r:=by rw [if_neg (show ¬ (false = true) by decide)] at H;exact H
            clear H
            have H:=H1
            clear H1
            replace H:=Option.bind_eq_some_iff.mp H
            obtain ⟨t298,A270,H⟩:=H
            replace H : (impl_told_parts.l0 kj9 l0_1 (l0_1.length : Int) (wrap64 (x10_1 + 1)) l0_0 l0_1 t298) = some r:=H
            have A27:=Aside0.mk A270
            clear A270
            have H':=Aside0.mk H
            clear H
            have hnb28:=NB288_289.out
            have hnc28:=NB289_288.out
            have hcz29_0 : wc.cell? ⟨gb288,0,none⟩ = some (.slice A0_0 l0_0.length c0_0):=(blk_cell BK288.out 0).trans rfl
            have hcz29_1 : wc.cell? ⟨gb288,1,none⟩ = some (.slice (some ad290) l0_1.length c0_1):=(blk_cell BK288.out 1).trans rfl
            have hfz29_0:=blk_frozen BK288.out 0
            have hfz29_1:=blk_frozen BK288.out 1
            have p294 : 0 ≤ (x10_1 : Int):=of_decide_eq_true (by assumption)
            have q294 : x10_1 < (l0_0.length : Int):=of_decide_eq_true (by assumption)
            obtain ⟨ad294,e294,hx294_0⟩:=Kd.at_bool HR0_0.out x10_1 p294 q294
            (try rw [← Nbq20.out] at hx294_0)
            cases e294
            (try replace hx294_0:=(HB.out.cell (World.block_lt_of_cell? w _ hx294_0)).trans hx294_0)
            replace p294:=eq_true p294
            replace q294:=eq_true q294
            obtain ⟨Ao30,co30,eo30⟩:=Kd.R_slice HO_290000.out
            subst eo30
            go_wp2_with (first|((with_reducible refine gate_callee (f:=73) rfl ?_);refine goesL_ (some 21) rfl rfl Try.func73 (by kernel_rfl) rfl #[.pointer (some ⟨gb289,0,none⟩),.agg #[.int .i64 0,.int .i64 1,.string (⟨#[]⟩ : ByteArray)]] rfl (by (try simp only [List.map_toArray,List.map_cons,List.map_nil]);first|done|rfl|(simp only [List.length_drop,List.length_take];rfl)) ?_;(with_reducible refine (impl_builder_add.calls kj9 gb289 (fun k_=>some k_ = (.slice Ao30 x290000_9.length co30 : Value).ownBlock) (.slice Ao30 x290000_9.length co30) x290000_9 0 1 (⟨#[]⟩ : ByteArray) t298 w _ ?side1 ?side2 ?side3 ?side4 A27.out).mono ?_);(case side1=>repeat (first|(with_reducible first|exact HB.out|apply below_alloc|apply pw_below_drewN|apply below_drew1|refine below_set ?_ GE288.out|refine below_set ?_ GE289.out)|exact HB.out));(case side2=>exact by (with_reducible repeat first|apply blk_drewN|apply blk_drew|apply blk_alloc);exact BK289.out);(case side3=>exact GE289.out);(case side4=>exact Kd.R_tight rfl HO_290000.out);rintro e w31 ⟨v299,rfl,ho0,hbx,hb,hkp⟩;refine ⟨_,rfl,?_⟩;have n0_:=Aside0.mk (blk_kept (g:=gb288) (o:=.cells #[.slice (some ad294) l0_0.length c0_0,.slice (some ad290) l0_1.length c0_1] 86 (0,0)) (by (with_reducible repeat first|apply blk_drewN|apply blk_drew|apply blk_alloc);exact BK288.out) hkp (fun hs_=>Or.elim hs_ (fun hs_=>(fun e_=>(Kd.R_ne HO_290000.out BK288.out (by decide)) e_) hs_) (fun e_=>NB288_289.out e_)));have n1_:=Aside0.mk (hbx);have n2_:=Aside0.mk (Kd.R_mono (ok':=fun k_=>True) ho0 (fun k_ hk_=>trivial));have n3_:=Aside0.mk (hb);clear BK288;clear BK289;clear HB;clear HO_290000;have BK288:=n0_;have BK289:=n1_;have HO300:=n2_;have HB:=n3_;clear n0_ n1_ n2_ n3_;(try clear hb);(try clear hkp);(try clear hbx);(try clear ho0)))
            go_roundg kj9
            case measure=>have:=HK1.out;have:=HJ9.out;omega
            case rel=>exact ⟨(wrap64 (x10_1 + 1)),(t298),(v299),(by first|rfl|(simp;done)|(simp [*];done)),H',⟨by have:=HK1.out;have:=HJ9.out;omega⟩,⟨by (with_reducible repeat (first|apply Kd.R_alloc|apply Kd.R_drewN|apply Kd.R_drew));exact HO300.out⟩,⟨by (with_reducible repeat first|apply blk_drewN|apply blk_drew|apply blk_alloc);exact BK288.out⟩,⟨by (with_reducible repeat first|apply blk_drewN|apply blk_drew|apply blk_alloc);exact BK289.out⟩,⟨by repeat (first|(with_reducible first|exact HB.out|apply below_alloc|apply pw_below_drewN|apply below_drew1|refine below_set ?_ GE288.out|refine below_set ?_ GE289.out)|exact HB.out)⟩⟩
          ·rw [if_neg c19] at H
           exact absurd H (by simp)
         ·rw [if_neg c18] at H
          exact absurd H (by simp)
     ·rw [if_neg c9] at H
      exact absurd H (by simp)
    ·rw [if_neg c8] at H
     exact absurd H (by simp)
   ·rw [if_neg c7] at H
    have c7b0 : decide (x10_1 < (l0_1.length : Int)) = false:=decide_eq_false c7
    clear c7
    obtain rfl:=Option.some.inj H
    have hnb32:=NB289_288.out
    have hnc32:=NB288_289.out
    have hcz33_0 : wr.cell? ⟨gb289,0,none⟩ = some (u290000):=(blk_cell BK289.out 0).trans rfl
    have hfz33_0:=blk_frozen BK289.out 0
    go_wp2
    go_ret
    exact ⟨_,by first|rfl|(simp [*,errW_none,errW_some] <;> rfl),by (with_reducible repeat (first|apply Kd.R_alloc|apply Kd.R_drewN|apply Kd.R_drew));exact HO_290000.out,by repeat (first|(with_reducible first|exact HB.out|apply below_alloc|apply pw_below_drewN|apply below_drew1|refine below_set ?_ GE288.out|refine below_set ?_ GE289.out)|exact HB.out)⟩

end Go.Proofs.Ytebmncdjlmnbnaa.PFnExactComposeChanges
