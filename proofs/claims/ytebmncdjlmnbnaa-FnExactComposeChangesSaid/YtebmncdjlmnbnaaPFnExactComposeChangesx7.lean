-- Written by a program of this session over the print of the kit (wip/t/patch_print.py).
import Derived.Test.YtebmncdjlmnbnaaPFnExactComposeChangesx0
import Derived.Test.YtebmncdjlmnbnaaPFnExactComposeChangesx6
namespace Go.Proofs.Ytebmncdjlmnbnaa.PFnExactComposeChanges
open Go.RowKit Go.Proofs.YtebmncdjlmnbnaaW.PrintWords Go.Proofs.YtebmncdjlmnbnaaW.PrintLast Go.Proofs.YtebmncdjlmnbnaaW.PrintMore
attribute [local go_sem] max2_int min2_int max_two min_two max_three min_three max_four min_four   -- for this text's walks alone
set_option linter.unusedVariables false
set_option linter.unusedSimpArgs false

/-! ### spec_l1Close: function 89 -/
def spec_l1Close.l0 : Nat → List (S74) → List ByteArray → Int → Int → List Bool → List ByteArray → Option ((List (S74)))
 | 0,_,_,_,_,_,_=>none
 | k + 1,x3,x7,x8,x9,x171000,x171001=>if x9 < x8 then (if 0 ≤ x9 then (if x9 < (x7.length : Int) then ((spec_l1Add.f k x3 0 0 (rdOf ByteArray.empty x7 x9)).bind fun t172=>(if x9 < (x171000.length : Int) then (if rdOf false x171000 x9 = true then ((spec_l1Add.f k t172 1 0 (⟨#[]⟩ : ByteArray)).bind fun t176=>(spec_l1Close.l0 k t176 x7 x8 (wrap64 (x9 + 1)) x171000 x171001)) else ((spec_l1Add.f k t172 0 1 (⟨#[]⟩ : ByteArray)).bind fun t179=>(spec_l1Close.l0 k t179 x7 x8 (wrap64 (x9 + 1)) x171000 x171001))) else (spec_l1Close.l0 k t172 x7 x8 (wrap64 (x9 + 1)) x171000 x171001))) else (none)) else (none)) else (some x3)
def spec_l1Close.f (k : Nat) (l0_0 : List Bool) (l0_1 : List ByteArray) : Option ((List (S74))):=spec_l1Close.l0 k ([] : List (S74)) l0_1 (l0_1.length : Int) 0 l0_0 l0_1
theorem spec_l1Close.mono_l : ∀ k,(∀ y0 y1 y2 y3 y4 y5,LeO (spec_l1Close.l0 k y0 y1 y2 y3 y4 y5) (spec_l1Close.l0 (k + 1) y0 y1 y2 y3 y4 y5))
 | 0=>fun _ _ _ _ _ _ r h=>by simp [spec_l1Close.l0] at h
 | k + 1=>by
  have ih0:=spec_l1Close.mono_l k
  ·intro y0 y1 y2 y3 y4 y5
   unfold spec_l1Close.l0
   repeat' first
   | (with_reducible exact ih0 _ _ _ _ _ _)
   | (with_reducible exact spec_l1Add.mono _ _ _ _ _)
   | (with_reducible exact LeO.refl _)
   | (with_reducible exact LeO.none _)
   | (with_reducible refine LeO.ite ?_ ?_)
   | (with_reducible refine LeO.bind ?_ (fun _=>?_))
   | exact ih0 _ _ _ _ _ _
   | exact spec_l1Add.mono _ _ _ _ _
   | exact LeO.none _
   | refine LeO.ite ?_ ?_
   | refine LeO.bind ?_ (fun _=>?_)
theorem spec_l1Close.mono : ∀ a0 a1 k,LeO (spec_l1Close.f k a0 a1) (spec_l1Close.f (k + 1) a0 a1):=by
 intro a0 a1 k
 have ih0:=spec_l1Close.mono_l k
 unfold spec_l1Close.f
 repeat' first
   | (with_reducible exact ih0 _ _ _ _ _ _)
   | (with_reducible exact spec_l1Add.mono _ _ _ _ _)
   | (with_reducible exact LeO.refl _)
   | (with_reducible exact LeO.none _)
   | (with_reducible refine LeO.ite ?_ ?_)
   | (with_reducible refine LeO.bind ?_ (fun _=>?_))
   | exact ih0 _ _ _ _ _ _
   | exact spec_l1Add.mono _ _ _ _ _
   | exact LeO.none _
   | refine LeO.ite ?_ ?_
   | refine LeO.bind ?_ (fun _=>?_)
set_option maxHeartbeats 8000000 in
set_option maxRecDepth 100000 in
theorem spec_l1Close.calls (k : Nat) (A0_0 : Option Addr) (c0_0 : Nat) (l0_0 : List Bool) (A0_1 : Option Addr) (c0_1 : Nat) (l0_1 : List ByteArray) (r : List (S74)) (w : World) (hr0_0 : Kd.C Kd.bool w A0_0 l0_0.length l0_0) (hc0_0 : l0_0.length ≤ c0_0) (hr0_1 : Kd.C Kd.string w A0_1 l0_1.length l0_1) (hc0_1 : l0_1.length ≤ c0_1) (h : spec_l1Close.f k l0_0 l0_1 = some r) :
  Calls Try.prog 89 #[.agg #[.slice A0_0 l0_0.length c0_0,.slice A0_1 l0_1.length c0_1]] w fun e w'=>∃ v0_ : Value,e = .returned (v0_)∧Kd.R k74 74 w' w.heap.size (fun _=>True) v0_ r∧Below w.heap.size w w':=by
 have hu110:=Try.underlying110
 have hu74:=Try.underlying74
 have HR0_0:=Aside0.mk hr0_0
 have HC0_0:=Aside0.mk hc0_0
 clear hr0_0 hc0_0
 have HR0_1:=Aside0.mk hr0_1
 have HC0_1:=Aside0.mk hc0_1
 clear hr0_1 hc0_1
 have HB:=Aside0.mk (Below.refl w.heap.size w)
 have H : (spec_l1Close.l0 k ([] : List (S74)) l0_1 (l0_1.length : Int) 0 l0_0 l0_1) = some r:=h
 clear h
 have H':=Aside0.mk H
 clear H
 go_enter Try.func89,Try.ntmps89
 go_wp2_with (first|((with_reducible refine gate_dst (N:=1) rfl ?_);refine box_event ?hg (N:=1) ?hd (cs:=#[.slice A0_0 l0_0.length c0_0,.slice A0_1 l0_1.length c0_1]) (t:=110) ?hr ?_;(case hd=>rfl);(case hg=>rfl);(case hr=>first|(go_simp;done)|(go_simp;rfl));intro gb170 hg w2 hbox hb;have n0_:=Aside0.mk (below_step (by repeat (first|exact HB.out|apply below_alloc|apply pw_below_drewN|apply below_drew1)) hb);have n1_:=Aside0.mk (hbox);have n2_:=Aside0.mk ((by rw [hg];exact (below_size (by repeat (first|exact HB.out|apply below_alloc|apply pw_below_drewN|apply below_drew1))) : w.heap.size ≤ gb170));have n3_:=Aside0.mk ((by rw [hg];exact (below_size (by repeat (first|exact HB.out|apply below_alloc|apply pw_below_drewN|apply below_drew1))) : w.heap.size ≤ gb170));clear HB;have HB:=n0_;have BK170:=n1_;have GW170:=n2_;have GE170:=n3_;clear n0_ n1_ n2_ n3_;clear hb hbox hg;have hcz3_0 : w2.cell? ⟨gb170,0,none⟩ = some (.slice A0_0 l0_0.length c0_0):=(blk_cell BK170.out 0).trans rfl;have hcz3_1 : w2.cell? ⟨gb170,1,none⟩ = some (.slice A0_1 l0_1.length c0_1):=(blk_cell BK170.out 1).trans rfl;have hfz3_0:=blk_frozen BK170.out 0;have hfz3_1:=blk_frozen BK170.out 1))
 go_loopg [3,9] k (fun kq v3 v9 w'=>∃ (x3_1 : List (S74)) (x9_1 : Int),v9 = .int .i64 x9_1∧Aside0 (spec_l1Close.l0 kq x3_1 l0_1 (l0_1.length : Int) x9_1 l0_0 l0_1 = some r)∧Aside0 (kq ≤ k)∧Aside0 (Kd.R k74 74 w' w.heap.size (fun _=>True) v3 x3_1)∧Aside0 (w'.heap[gb170]? = some (.cells #[(.slice A0_0 l0_0.length c0_0),(.slice A0_1 l0_1.length c0_1)] 110 (0,0)))∧Aside0 (Below w.heap.size w w'))
 case atStart=>exact ⟨(([] : List (S74))),(0),(by first|rfl|(simp;done)|(simp [*];done)),H',⟨Nat.le_refl _⟩,⟨by first|exact Kd.R_nil _ _ _ _ _|exact Kd.N_nil _ _ _ _ _|exact Kd.V_nil _ _ _ _ _|exact Kd.Q_nil _ _ _ _ _|exact Kd.S_nil _ _ _ _ _⟩,⟨by (with_reducible repeat first|apply blk_drewN|apply blk_drew|apply blk_alloc);exact BK170.out⟩,⟨by repeat (first|(with_reducible first|exact HB.out|apply below_alloc|apply pw_below_drewN|apply below_drew1|refine below_set ?_ GE170.out)|exact HB.out)⟩⟩
 case round =>
  clear H'
  (try clear p2);(try clear hcz3_0);(try clear hcz3_1);(try clear hfz3_0);(try clear hfz3_1);(try clear BK170)
  obtain ⟨x3_1,x9_1,rfl,HA,HK1,HO_3,BK170,HB⟩:=hrel
  cases gk with
  | zero=>exact absurd HA.out (by simp [spec_l1Close.l0])
  | succ k1 =>
   have H:=HA.out
   clear HA
   simp only [spec_l1Close.l0] at H
   by_cases c4 : x9_1 < (l0_1.length : Int)
   ·rw [if_pos c4] at H
    have c4b0 : decide (x9_1 < (l0_1.length : Int)) = true:=decide_eq_true c4
    clear c4
    by_cases c5 : 0 ≤ x9_1
    ·rw [if_pos c5] at H
     have c5b0 : decide (0 ≤ x9_1) = true:=decide_eq_true c5
     clear c5
     by_cases c6 : x9_1 < (l0_1.length : Int)
     ·rw [if_pos c6] at H
      have c6b0 : decide (x9_1 < (l0_1.length : Int)) = true:=decide_eq_true c6
      clear c6
      replace H:=Option.bind_eq_some_iff.mp H
      obtain ⟨t172,A70,H⟩:=H
      replace H : (if x9_1 < (l0_0.length : Int) then (if rdOf false l0_0 x9_1 = true then ((spec_l1Add.f k1 t172 1 0 (⟨#[]⟩ : ByteArray)).bind fun t176=>(spec_l1Close.l0 k1 t176 l0_1 (l0_1.length : Int) (wrap64 (x9_1 + 1)) l0_0 l0_1)) else ((spec_l1Add.f k1 t172 0 1 (⟨#[]⟩ : ByteArray)).bind fun t179=>(spec_l1Close.l0 k1 t179 l0_1 (l0_1.length : Int) (wrap64 (x9_1 + 1)) l0_0 l0_1))) else (spec_l1Close.l0 k1 t172 l0_1 (l0_1.length : Int) (wrap64 (x9_1 + 1)) l0_0 l0_1)) = some r:=H
      have A7:=Aside0.mk A70
      clear A70
      by_cases c8 : x9_1 < (l0_0.length : Int)
      ·rw [if_pos c8] at H
       have c8b0 : decide (x9_1 < (l0_0.length : Int)) = true:=decide_eq_true c8
       clear c8
       obtain ⟨bq9,hbq9⟩ : ∃ b_ : Bool,b_ = (rdOf false l0_0 x9_1):=⟨_,rfl⟩
       replace H : (if bq9 = true then ((spec_l1Add.f k1 t172 1 0 (⟨#[]⟩ : ByteArray)).bind fun t176=>(spec_l1Close.l0 k1 t176 l0_1 (l0_1.length : Int) (wrap64 (x9_1 + 1)) l0_0 l0_1)) else ((spec_l1Add.f k1 t172 0 1 (⟨#[]⟩ : ByteArray)).bind fun t179=>(spec_l1Close.l0 k1 t179 l0_1 (l0_1.length : Int) (wrap64 (x9_1 + 1)) l0_0 l0_1))) = some r:=by rw [← hbq9] at H;exact H
       have Nbq9:=Aside0.mk hbq9
       clear hbq9
       by_cases c10 : bq9 = true
       ·subst c10
        have H1 : ((spec_l1Add.f k1 t172 1 0 (⟨#[]⟩ : ByteArray)).bind fun t176=>(spec_l1Close.l0 k1 t176 l0_1 (l0_1.length : Int) (wrap64 (x9_1 + 1)) l0_0 l0_1)) = some r:=by rw [if_pos rfl] at H;exact H
        clear H
        have H:=H1
        clear H1
        replace H:=Option.bind_eq_some_iff.mp H
        obtain ⟨t176,A110,H⟩:=H
        replace H : (spec_l1Close.l0 k1 t176 l0_1 (l0_1.length : Int) (wrap64 (x9_1 + 1)) l0_0 l0_1) = some r:=H
        have A11:=Aside0.mk A110
        clear A110
        have H':=Aside0.mk H
        clear H
        have p171 : 0 ≤ (x9_1 : Int):=of_decide_eq_true (by assumption)
        have q171 : x9_1 < (l0_1.length : Int):=of_decide_eq_true (by assumption)
        obtain ⟨ad171,e171,hx171_0⟩:=Kd.at_string HR0_1.out x9_1 p171 q171
        cases e171
        (try replace hx171_0:=(HB.out.cell (World.block_lt_of_cell? w _ hx171_0)).trans hx171_0)
        replace p171:=eq_true p171
        replace q171:=eq_true q171
        obtain ⟨Ao12,co12,eo12⟩:=Kd.R_slice HO_3.out
        subst eo12
        go_wp2_with (first|((with_reducible refine gate_callee (f:=72) rfl ?_);refine goesL_ (some 17) rfl rfl Try.func72 (by kernel_rfl) rfl #[.slice Ao12 x3_1.length co12,.agg #[.int .i64 0,.int .i64 0,.string (rdOf ByteArray.empty l0_1 x9_1)]] rfl (by (try simp only [List.map_toArray,List.map_cons,List.map_nil]);first|done|rfl|(simp only [List.length_drop,List.length_take];rfl)) ?_;(with_reducible refine (spec_l1Add.calls k1 (fun k_=>some k_ = (.slice Ao12 x3_1.length co12 : Value).ownBlock) (.slice Ao12 x3_1.length co12) x3_1 0 0 (rdOf ByteArray.empty l0_1 x9_1) t172 w _ ?side1 ?side2 A7.out).mono ?_);(case side1=>repeat (first|(with_reducible first|exact HB.out|apply below_alloc|apply pw_below_drewN|apply below_drew1|refine below_set ?_ GE170.out)|exact HB.out));(case side2=>exact Kd.R_tight rfl HO_3.out);rintro e w13 ⟨v173,rfl,ho0,hb,hkp⟩;refine ⟨_,rfl,?_⟩;have n0_:=Aside0.mk (blk_kept (g:=gb170) (o:=.cells #[.slice A0_0 l0_0.length c0_0,.slice (some ad171) l0_1.length c0_1] 110 (0,0)) (by (with_reducible repeat first|apply blk_drewN|apply blk_drew|apply blk_alloc);exact BK170.out) hkp (fun hs_=>(fun e_=>(Kd.R_ne HO_3.out BK170.out (by decide)) e_) hs_));have n1_:=Aside0.mk (Kd.R_mono (ok':=fun k_=>True) ho0 (fun k_ hk_=>trivial));have n2_:=Aside0.mk (hb);clear BK170;clear HB;clear HO_3;have BK170:=n0_;have HO174:=n1_;have HB:=n2_;clear n0_ n1_ n2_;(try clear hb);(try clear hkp);(try clear hbx);(try clear ho0);have hcz14_0 : w13.cell? ⟨gb170,0,none⟩ = some (.slice A0_0 l0_0.length c0_0):=(blk_cell BK170.out 0).trans rfl;have hcz14_1 : w13.cell? ⟨gb170,1,none⟩ = some (.slice (some ad171) l0_1.length c0_1):=(blk_cell BK170.out 1).trans rfl;have hfz14_0:=blk_frozen BK170.out 0;have hfz14_1:=blk_frozen BK170.out 1;have p175 : 0 ≤ (x9_1 : Int):=of_decide_eq_true (by assumption);have q175 : x9_1 < (l0_0.length : Int):=of_decide_eq_true (by assumption);obtain ⟨ad175,e175,hx175_0⟩:=Kd.at_bool HR0_0.out x9_1 p175 q175;(try rw [← Nbq9.out] at hx175_0);cases e175;(try replace hx175_0:=(HB.out.cell (World.block_lt_of_cell? w _ hx175_0)).trans hx175_0);replace p175:=eq_true p175;replace q175:=eq_true q175;obtain ⟨Ao15,co15,eo15⟩:=Kd.R_slice HO174.out;subst eo15)|((with_reducible refine gate_callee (f:=72) rfl ?_);refine goesL_ (some 30) rfl rfl Try.func72 (by kernel_rfl) rfl #[.slice Ao15 t172.length co15,.agg #[.int .i64 1,.int .i64 0,.string (⟨#[]⟩ : ByteArray)]] rfl (by (try simp only [List.map_toArray,List.map_cons,List.map_nil]);first|done|rfl|(simp only [List.length_drop,List.length_take];rfl)) ?_;(with_reducible refine (spec_l1Add.calls k1 (fun k_=>some k_ = (.slice Ao15 t172.length co15 : Value).ownBlock) (.slice Ao15 t172.length co15) t172 1 0 (⟨#[]⟩ : ByteArray) t176 w _ ?side1 ?side2 A11.out).mono ?_);(case side1=>repeat (first|(with_reducible first|exact HB.out|apply below_alloc|apply pw_below_drewN|apply below_drew1|refine below_set ?_ GE170.out)|exact HB.out));(case side2=>exact Kd.R_tight rfl HO174.out);rintro e w16 ⟨v177,rfl,ho0,hb,hkp⟩;refine ⟨_,rfl,?_⟩;have n0_:=Aside0.mk (blk_kept (g:=gb170) (o:=.cells #[.slice (some ad175) l0_0.length c0_0,.slice (some ad171) l0_1.length c0_1] 110 (0,0)) (by (with_reducible repeat first|apply blk_drewN|apply blk_drew|apply blk_alloc);exact BK170.out) hkp (fun hs_=>(fun e_=>(Kd.R_ne HO174.out BK170.out (by decide)) e_) hs_));have n1_:=Aside0.mk (Kd.R_mono (ok':=fun k_=>True) ho0 (fun k_ hk_=>trivial));have n2_:=Aside0.mk (hb);clear BK170;clear HB;clear HO174;have BK170:=n0_;have HO178:=n1_;have HB:=n2_;clear n0_ n1_ n2_;(try clear hb);(try clear hkp);(try clear hbx);(try clear ho0)))
        go_roundg k1
        case measure=>have:=HK1.out;omega
        case rel=>exact ⟨(t176),(wrap64 (x9_1 + 1)),(by first|rfl|(simp;done)|(simp [*];done)),H',⟨by have:=HK1.out;omega⟩,⟨by (with_reducible repeat (first|apply Kd.R_alloc|apply Kd.R_drewN|apply Kd.R_drew));exact HO178.out⟩,⟨by (with_reducible repeat first|apply blk_drewN|apply blk_drew|apply blk_alloc);exact BK170.out⟩,⟨by repeat (first|(with_reducible first|exact HB.out|apply below_alloc|apply pw_below_drewN|apply below_drew1|refine below_set ?_ GE170.out)|exact HB.out)⟩⟩
       ·replace c10:=Bool.eq_false_iff.mpr c10
        subst c10
        have H1 : ((spec_l1Add.f k1 t172 0 1 (⟨#[]⟩ : ByteArray)).bind fun t179=>(spec_l1Close.l0 k1 t179 l0_1 (l0_1.length : Int) (wrap64 (x9_1 + 1)) l0_0 l0_1)) = some r:=by rw [if_neg (show ¬ (false = true) by decide)] at H;exact H
        clear H
        have H:=H1
        clear H1
        replace H:=Option.bind_eq_some_iff.mp H
        obtain ⟨t179,A170,H⟩:=H
        replace H : (spec_l1Close.l0 k1 t179 l0_1 (l0_1.length : Int) (wrap64 (x9_1 + 1)) l0_0 l0_1) = some r:=H
        have A17:=Aside0.mk A170
        clear A170
        have H':=Aside0.mk H
        clear H
        have p171 : 0 ≤ (x9_1 : Int):=of_decide_eq_true (by assumption)
        have q171 : x9_1 < (l0_1.length : Int):=of_decide_eq_true (by assumption)
        obtain ⟨ad171,e171,hx171_0⟩:=Kd.at_string HR0_1.out x9_1 p171 q171
        cases e171
        (try replace hx171_0:=(HB.out.cell (World.block_lt_of_cell? w _ hx171_0)).trans hx171_0)
        replace p171:=eq_true p171
        replace q171:=eq_true q171
        obtain ⟨Ao18,co18,eo18⟩:=Kd.R_slice HO_3.out
        subst eo18
        go_wp2_with (first|((with_reducible refine gate_callee (f:=72) rfl ?_);refine goesL_ (some 17) rfl rfl Try.func72 (by kernel_rfl) rfl #[.slice Ao18 x3_1.length co18,.agg #[.int .i64 0,.int .i64 0,.string (rdOf ByteArray.empty l0_1 x9_1)]] rfl (by (try simp only [List.map_toArray,List.map_cons,List.map_nil]);first|done|rfl|(simp only [List.length_drop,List.length_take];rfl)) ?_;(with_reducible refine (spec_l1Add.calls k1 (fun k_=>some k_ = (.slice Ao18 x3_1.length co18 : Value).ownBlock) (.slice Ao18 x3_1.length co18) x3_1 0 0 (rdOf ByteArray.empty l0_1 x9_1) t172 w _ ?side1 ?side2 A7.out).mono ?_);(case side1=>repeat (first|(with_reducible first|exact HB.out|apply below_alloc|apply pw_below_drewN|apply below_drew1|refine below_set ?_ GE170.out)|exact HB.out));(case side2=>exact Kd.R_tight rfl HO_3.out);rintro e w19 ⟨v173,rfl,ho0,hb,hkp⟩;refine ⟨_,rfl,?_⟩;have n0_:=Aside0.mk (blk_kept (g:=gb170) (o:=.cells #[.slice A0_0 l0_0.length c0_0,.slice (some ad171) l0_1.length c0_1] 110 (0,0)) (by (with_reducible repeat first|apply blk_drewN|apply blk_drew|apply blk_alloc);exact BK170.out) hkp (fun hs_=>(fun e_=>(Kd.R_ne HO_3.out BK170.out (by decide)) e_) hs_));have n1_:=Aside0.mk (Kd.R_mono (ok':=fun k_=>True) ho0 (fun k_ hk_=>trivial));have n2_:=Aside0.mk (hb);clear BK170;clear HB;clear HO_3;have BK170:=n0_;have HO174:=n1_;have HB:=n2_;clear n0_ n1_ n2_;(try clear hb);(try clear hkp);(try clear hbx);(try clear ho0);have hcz20_0 : w19.cell? ⟨gb170,0,none⟩ = some (.slice A0_0 l0_0.length c0_0):=(blk_cell BK170.out 0).trans rfl;have hcz20_1 : w19.cell? ⟨gb170,1,none⟩ = some (.slice (some ad171) l0_1.length c0_1):=(blk_cell BK170.out 1).trans rfl;have hfz20_0:=blk_frozen BK170.out 0;have hfz20_1:=blk_frozen BK170.out 1;have p175 : 0 ≤ (x9_1 : Int):=of_decide_eq_true (by assumption);have q175 : x9_1 < (l0_0.length : Int):=of_decide_eq_true (by assumption);obtain ⟨ad175,e175,hx175_0⟩:=Kd.at_bool HR0_0.out x9_1 p175 q175;(try rw [← Nbq9.out] at hx175_0);cases e175;(try replace hx175_0:=(HB.out.cell (World.block_lt_of_cell? w _ hx175_0)).trans hx175_0);replace p175:=eq_true p175;replace q175:=eq_true q175;obtain ⟨Ao21,co21,eo21⟩:=Kd.R_slice HO174.out;subst eo21)|((with_reducible refine gate_callee (f:=72) rfl ?_);refine goesL_ (some 33) rfl rfl Try.func72 (by kernel_rfl) rfl #[.slice Ao21 t172.length co21,.agg #[.int .i64 0,.int .i64 1,.string (⟨#[]⟩ : ByteArray)]] rfl (by (try simp only [List.map_toArray,List.map_cons,List.map_nil]);first|done|rfl|(simp only [List.length_drop,List.length_take];rfl)) ?_;(with_reducible refine (spec_l1Add.calls k1 (fun k_=>some k_ = (.slice Ao21 t172.length co21 : Value).ownBlock) (.slice Ao21 t172.length co21) t172 0 1 (⟨#[]⟩ : ByteArray) t179 w _ ?side1 ?side2 A17.out).mono ?_);(case side1=>repeat (first|(with_reducible first|exact HB.out|apply below_alloc|apply pw_below_drewN|apply below_drew1|refine below_set ?_ GE170.out)|exact HB.out));(case side2=>exact Kd.R_tight rfl HO174.out);rintro e w22 ⟨v180,rfl,ho0,hb,hkp⟩;refine ⟨_,rfl,?_⟩;have n0_:=Aside0.mk (blk_kept (g:=gb170) (o:=.cells #[.slice (some ad175) l0_0.length c0_0,.slice (some ad171) l0_1.length c0_1] 110 (0,0)) (by (with_reducible repeat first|apply blk_drewN|apply blk_drew|apply blk_alloc);exact BK170.out) hkp (fun hs_=>(fun e_=>(Kd.R_ne HO174.out BK170.out (by decide)) e_) hs_));have n1_:=Aside0.mk (Kd.R_mono (ok':=fun k_=>True) ho0 (fun k_ hk_=>trivial));have n2_:=Aside0.mk (hb);clear BK170;clear HB;clear HO174;have BK170:=n0_;have HO181:=n1_;have HB:=n2_;clear n0_ n1_ n2_;(try clear hb);(try clear hkp);(try clear hbx);(try clear ho0)))
        go_roundg k1
        case measure=>have:=HK1.out;omega
        case rel=>exact ⟨(t179),(wrap64 (x9_1 + 1)),(by first|rfl|(simp;done)|(simp [*];done)),H',⟨by have:=HK1.out;omega⟩,⟨by (with_reducible repeat (first|apply Kd.R_alloc|apply Kd.R_drewN|apply Kd.R_drew));exact HO181.out⟩,⟨by (with_reducible repeat first|apply blk_drewN|apply blk_drew|apply blk_alloc);exact BK170.out⟩,⟨by repeat (first|(with_reducible first|exact HB.out|apply below_alloc|apply pw_below_drewN|apply below_drew1|refine below_set ?_ GE170.out)|exact HB.out)⟩⟩
      ·rw [if_neg c8] at H
       have c8b0 : decide (x9_1 < (l0_0.length : Int)) = false:=decide_eq_false c8
       clear c8
       have H':=Aside0.mk H
       clear H
       have p171 : 0 ≤ (x9_1 : Int):=of_decide_eq_true (by assumption)
       have q171 : x9_1 < (l0_1.length : Int):=of_decide_eq_true (by assumption)
       obtain ⟨ad171,e171,hx171_0⟩:=Kd.at_string HR0_1.out x9_1 p171 q171
       cases e171
       (try replace hx171_0:=(HB.out.cell (World.block_lt_of_cell? w _ hx171_0)).trans hx171_0)
       replace p171:=eq_true p171
       replace q171:=eq_true q171
       obtain ⟨Ao23,co23,eo23⟩:=Kd.R_slice HO_3.out
       subst eo23
       go_wp2_with (first|((with_reducible refine gate_callee (f:=72) rfl ?_);refine goesL_ (some 17) rfl rfl Try.func72 (by kernel_rfl) rfl #[.slice Ao23 x3_1.length co23,.agg #[.int .i64 0,.int .i64 0,.string (rdOf ByteArray.empty l0_1 x9_1)]] rfl (by (try simp only [List.map_toArray,List.map_cons,List.map_nil]);first|done|rfl|(simp only [List.length_drop,List.length_take];rfl)) ?_;(with_reducible refine (spec_l1Add.calls k1 (fun k_=>some k_ = (.slice Ao23 x3_1.length co23 : Value).ownBlock) (.slice Ao23 x3_1.length co23) x3_1 0 0 (rdOf ByteArray.empty l0_1 x9_1) t172 w _ ?side1 ?side2 A7.out).mono ?_);(case side1=>repeat (first|(with_reducible first|exact HB.out|apply below_alloc|apply pw_below_drewN|apply below_drew1|refine below_set ?_ GE170.out)|exact HB.out));(case side2=>exact Kd.R_tight rfl HO_3.out);rintro e w24 ⟨v173,rfl,ho0,hb,hkp⟩;refine ⟨_,rfl,?_⟩;have n0_:=Aside0.mk (blk_kept (g:=gb170) (o:=.cells #[.slice A0_0 l0_0.length c0_0,.slice (some ad171) l0_1.length c0_1] 110 (0,0)) (by (with_reducible repeat first|apply blk_drewN|apply blk_drew|apply blk_alloc);exact BK170.out) hkp (fun hs_=>(fun e_=>(Kd.R_ne HO_3.out BK170.out (by decide)) e_) hs_));have n1_:=Aside0.mk (Kd.R_mono (ok':=fun k_=>True) ho0 (fun k_ hk_=>trivial));have n2_:=Aside0.mk (hb);clear BK170;clear HB;clear HO_3;have BK170:=n0_;have HO174:=n1_;have HB:=n2_;clear n0_ n1_ n2_;(try clear hb);(try clear hkp);(try clear hbx);(try clear ho0);have hcz25_0 : w24.cell? ⟨gb170,0,none⟩ = some (.slice A0_0 l0_0.length c0_0):=(blk_cell BK170.out 0).trans rfl;have hcz25_1 : w24.cell? ⟨gb170,1,none⟩ = some (.slice (some ad171) l0_1.length c0_1):=(blk_cell BK170.out 1).trans rfl;have hfz25_0:=blk_frozen BK170.out 0;have hfz25_1:=blk_frozen BK170.out 1))
       go_roundg k1
       case measure=>have:=HK1.out;omega
       case rel=>exact ⟨(t172),(wrap64 (x9_1 + 1)),(by first|rfl|(simp;done)|(simp [*];done)),H',⟨by have:=HK1.out;omega⟩,⟨by (with_reducible repeat (first|apply Kd.R_alloc|apply Kd.R_drewN|apply Kd.R_drew));exact HO174.out⟩,⟨by (with_reducible repeat first|apply blk_drewN|apply blk_drew|apply blk_alloc);exact BK170.out⟩,⟨by repeat (first|(with_reducible first|exact HB.out|apply below_alloc|apply pw_below_drewN|apply below_drew1|refine below_set ?_ GE170.out)|exact HB.out)⟩⟩
     ·rw [if_neg c6] at H
      exact absurd H (by simp)
    ·rw [if_neg c5] at H
     exact absurd H (by simp)
   ·rw [if_neg c4] at H
    have c4b0 : decide (x9_1 < (l0_1.length : Int)) = false:=decide_eq_false c4
    clear c4
    obtain rfl:=Option.some.inj H
    go_wp2
    go_ret
    exact ⟨_,by first|rfl|(simp [*,errW_none,errW_some] <;> rfl),by (with_reducible repeat (first|apply Kd.R_alloc|apply Kd.R_drewN|apply Kd.R_drew));exact HO_3.out,by repeat (first|(with_reducible first|exact HB.out|apply below_alloc|apply pw_below_drewN|apply below_drew1|refine below_set ?_ GE170.out)|exact HB.out)⟩

end Go.Proofs.Ytebmncdjlmnbnaa.PFnExactComposeChanges
