-- Written by a program of this session over the print of the kit (wip/t/patch_print.py).
import Derived.Test.YtggnbbbhlnjleaaPFnExactTextInx0
import Derived.Test.YtggnbbbhlnjleaaPFnExactTextInx3
namespace Go.Proofs.Ytggnbbbhlnjleaa.PFnExactTextIn
open Go.RowKit Go.Proofs.YtggnbbbhlnjleaaW.PrintWords Go.Proofs.YtggnbbbhlnjleaaW.PrintLast Go.Proofs.YtggnbbbhlnjleaaW.PrintMore
attribute [local go_sem] max2_int min2_int max_two min_two max_three min_three max_four min_four   -- for this text's walks alone
set_option linter.unusedVariables false
set_option linter.unusedSimpArgs false

/-! ### spec_l5Has: function 56 -/
def spec_l5Has.l0 : Nat → Int → List Int → Int → Int → Option (Bool)
 | 0,_,_,_,_=>none
 | k + 1,x1,x7,x8,x9=>if x9 < x8 then (if 0 ≤ x9 then (if x9 < (x7.length : Int) then (if (rd x7 x9) = x1 then (some true) else (spec_l5Has.l0 k x1 x7 x8 (wrap64 (x9 + 1)))) else (none)) else (none)) else (some false)
def spec_l5Has.f (k : Nat) (l0 : List Int) (a1 : Int) : Option (Bool):=spec_l5Has.l0 k a1 l0 (l0.length : Int) 0
theorem spec_l5Has.mono_l : ∀ k,(∀ y0 y1 y2 y3,LeO (spec_l5Has.l0 k y0 y1 y2 y3) (spec_l5Has.l0 (k + 1) y0 y1 y2 y3))
 | 0=>fun _ _ _ _ r h=>by simp [spec_l5Has.l0] at h
 | k + 1=>by
  have ih0:=spec_l5Has.mono_l k
  ·intro y0 y1 y2 y3
   unfold spec_l5Has.l0
   repeat' first
   | (with_reducible exact ih0 _ _ _ _)
   | (with_reducible exact LeO.refl _)
   | (with_reducible exact LeO.none _)
   | (with_reducible refine LeO.ite ?_ ?_)
   | (with_reducible refine LeO.bind ?_ (fun _=>?_))
   | exact ih0 _ _ _ _
   | exact LeO.none _
   | refine LeO.ite ?_ ?_
   | refine LeO.bind ?_ (fun _=>?_)
theorem spec_l5Has.mono : ∀ a0 a1 k,LeO (spec_l5Has.f k a0 a1) (spec_l5Has.f (k + 1) a0 a1):=by
 intro a0 a1 k
 have ih0:=spec_l5Has.mono_l k
 unfold spec_l5Has.f
 repeat' first
   | (with_reducible exact ih0 _ _ _ _)
   | (with_reducible exact LeO.refl _)
   | (with_reducible exact LeO.none _)
   | (with_reducible refine LeO.ite ?_ ?_)
   | (with_reducible refine LeO.bind ?_ (fun _=>?_))
   | exact ih0 _ _ _ _
   | exact LeO.none _
   | refine LeO.ite ?_ ?_
   | refine LeO.bind ?_ (fun _=>?_)
set_option maxHeartbeats 8000000 in
set_option maxRecDepth 100000 in
theorem spec_l5Has.calls (k : Nat) (A0 : Option Addr) (c0 : Nat) (l0 : List Int) (a1 : Int) (r : Bool) (w : World) (hr0 : Kd.C (Kd.int .i64) w A0 l0.length l0) (hc0 : l0.length ≤ c0) (h : spec_l5Has.f k l0 a1 = some r) :
  Calls Try.prog 56 #[.slice A0 l0.length c0,.int .i64 a1] w fun e w'=>e = .returned (.bool r)∧Drawn0 w w':=by
 have HR0:=Aside0.mk hr0
 have HC0:=Aside0.mk hc0
 clear hr0 hc0
 have H : (spec_l5Has.l0 k a1 l0 (l0.length : Int) 0) = some r:=h
 clear h
 have H':=Aside0.mk H
 clear H
 go_enter Try.func56,Try.ntmps56
 go_wp2
 go_loopg [9] k (fun kq v9 w'=>∃ (x9_1 : Int),v9 = .int .i64 x9_1∧Aside0 (spec_l5Has.l0 kq a1 l0 (l0.length : Int) x9_1 = some r)∧Aside0 (kq ≤ k)∧Drawn0 w w')
 case atStart=>exact ⟨(0),(by first|rfl|(simp;done)|(simp [*];done)),H',⟨Nat.le_refl _⟩,by repeat (first|exact Drawn0.refl _|apply Drawn0.step)⟩
 case round =>
  clear H'
  try clear p2
  obtain ⟨x9_1,rfl,HA,HK1,⟨m1,rfl⟩⟩:=hrel
  cases gk with
  | zero=>exact absurd HA.out (by simp [spec_l5Has.l0])
  | succ k1 =>
   have H:=HA.out
   clear HA
   simp only [spec_l5Has.l0] at H
   by_cases c3 : x9_1 < (l0.length : Int)
   ·rw [if_pos c3] at H
    have c3b0 : decide (x9_1 < (l0.length : Int)) = true:=decide_eq_true c3
    clear c3
    by_cases c4 : 0 ≤ x9_1
    ·rw [if_pos c4] at H
     have c4b0 : decide (0 ≤ x9_1) = true:=decide_eq_true c4
     clear c4
     by_cases c5 : x9_1 < (l0.length : Int)
     ·rw [if_pos c5] at H
      have c5b0 : decide (x9_1 < (l0.length : Int)) = true:=decide_eq_true c5
      clear c5
      by_cases c6 : (rd l0 x9_1) = a1
      ·rw [if_pos c6] at H
       have c6b0 : ((rd l0 x9_1) == a1) = true:=beq_iff_eq.mpr c6
       have c6b1 : ((rd l0 x9_1) != a1) = false:=bne_eq_false_iff_eq.mpr c6
       clear c6
       obtain rfl:=Option.some.inj H
       have p179 : 0 ≤ (x9_1 : Int):=of_decide_eq_true (by assumption)
       have q179 : x9_1 < (l0.length : Int):=of_decide_eq_true (by assumption)
       obtain ⟨ad179,e179,hx179_0⟩:=Kd.at_int HR0.out x9_1 p179 q179
       cases e179
       replace p179:=eq_true p179
       replace q179:=eq_true q179
       go_wp2
       go_ret
       exact ⟨by first|rfl|(simp;done)|(simp [*];done),by repeat (first|exact Drawn0.refl _|apply Drawn0.step)⟩
      ·rw [if_neg c6] at H
       have c6b0 : ((rd l0 x9_1) == a1) = false:=beq_eq_false_iff_ne.mpr c6
       have c6b1 : ((rd l0 x9_1) != a1) = true:=bne_iff_ne.mpr c6
       have H':=Aside0.mk H
       clear H
       have p179 : 0 ≤ (x9_1 : Int):=of_decide_eq_true (by assumption)
       have q179 : x9_1 < (l0.length : Int):=of_decide_eq_true (by assumption)
       obtain ⟨ad179,e179,hx179_0⟩:=Kd.at_int HR0.out x9_1 p179 q179
       cases e179
       replace p179:=eq_true p179
       replace q179:=eq_true q179
       go_wp2
       go_roundg k1
       case measure=>have:=HK1.out;omega
       case rel=>exact ⟨(wrap64 (x9_1 + 1)),(by first|rfl|(simp;done)|(simp [*];done)),H',⟨by have:=HK1.out;omega⟩,by repeat (first|exact Drawn0.refl _|apply Drawn0.step)⟩
     ·rw [if_neg c5] at H
      exact absurd H (by simp)
    ·rw [if_neg c4] at H
     exact absurd H (by simp)
   ·rw [if_neg c3] at H
    have c3b0 : decide (x9_1 < (l0.length : Int)) = false:=decide_eq_false c3
    clear c3
    obtain rfl:=Option.some.inj H
    go_wp2
    go_ret
    exact ⟨by first|rfl|(simp;done)|(simp [*];done),by repeat (first|exact Drawn0.refl _|apply Drawn0.step)⟩

/-! ### spec_l5Live: function 55 -/
def spec_l5Live.f (k : Nat) (l0_0 : List (List Int)) (l0_1 : List Int) (l0_2 : List Int) (l0_3 : List Int) (a1 : Int) : Option (Bool):=(spec_l1In.f a1 33 (wrap64 ((l0_0.length : Int) - 1))).bind fun t181=>(if t181 = true then ((spec_l5Used.f l0_1 a1).bind fun t182=>(if t182 = true then ((spec_l5Has.f k l0_2 a1).bind fun t183=>(some (!t183))) else (some false))) else (some false))
theorem spec_l5Live.mono : ∀ a0 a1 a2 a3 a4 k,LeO (spec_l5Live.f k a0 a1 a2 a3 a4) (spec_l5Live.f (k + 1) a0 a1 a2 a3 a4):=by
 intro a0 a1 a2 a3 a4 k
 unfold spec_l5Live.f
 repeat' first
   | (with_reducible exact spec_l5Has.mono _ _ _)
   | (with_reducible exact LeO.refl _)
   | (with_reducible exact LeO.none _)
   | (with_reducible refine LeO.ite ?_ ?_)
   | (with_reducible refine LeO.bind ?_ (fun _=>?_))
   | exact spec_l5Has.mono _ _ _
   | exact LeO.none _
   | refine LeO.ite ?_ ?_
   | refine LeO.bind ?_ (fun _=>?_)
set_option maxHeartbeats 8000000 in
set_option maxRecDepth 100000 in
theorem spec_l5Live.calls (k : Nat) (A0_0 : Option Addr) (c0_0 : Nat) (l0_0 : List (List Int)) (A0_1 : Option Addr) (c0_1 : Nat) (l0_1 : List Int) (A0_2 : Option Addr) (c0_2 : Nat) (l0_2 : List Int) (A0_3 : Option Addr) (c0_3 : Nat) (l0_3 : List Int) (a1 : Int) (r : Bool) (w : World) (hr0_0 : Kd.C (Kd.slice 5 (Kd.int .u8)) w A0_0 l0_0.length l0_0) (hc0_0 : l0_0.length ≤ c0_0) (hr0_1 : Kd.C (Kd.int .u8) w A0_1 l0_1.length l0_1) (hc0_1 : l0_1.length ≤ c0_1) (hr0_2 : Kd.C (Kd.int .i64) w A0_2 l0_2.length l0_2) (hc0_2 : l0_2.length ≤ c0_2) (hr0_3 : Kd.C (Kd.int .i64) w A0_3 l0_3.length l0_3) (hc0_3 : l0_3.length ≤ c0_3) (h : spec_l5Live.f k l0_0 l0_1 l0_2 l0_3 a1 = some r) :
  Calls Try.prog 55 #[.agg #[.slice A0_0 l0_0.length c0_0,.slice A0_1 l0_1.length c0_1,.slice A0_2 l0_2.length c0_2,.slice A0_3 l0_3.length c0_3],.int .i64 a1] w fun e w'=>e = .returned (.bool r)∧Below w.heap.size w w':=by
 have hu28:=Try.underlying28
 have HR0_0:=Aside0.mk hr0_0
 have HC0_0:=Aside0.mk hc0_0
 clear hr0_0 hc0_0
 have HR0_1:=Aside0.mk hr0_1
 have HC0_1:=Aside0.mk hc0_1
 clear hr0_1 hc0_1
 have HR0_2:=Aside0.mk hr0_2
 have HC0_2:=Aside0.mk hc0_2
 clear hr0_2 hc0_2
 have HR0_3:=Aside0.mk hr0_3
 have HC0_3:=Aside0.mk hc0_3
 clear hr0_3 hc0_3
 have HB:=Aside0.mk (Below.refl w.heap.size w)
 have H : ((spec_l1In.f a1 33 (wrap64 ((l0_0.length : Int) - 1))).bind fun t181=>(if t181 = true then ((spec_l5Used.f l0_1 a1).bind fun t182=>(if t182 = true then ((spec_l5Has.f k l0_2 a1).bind fun t183=>(some (!t183))) else (some false))) else (some false))) = some r:=h
 clear h
 replace H:=Option.bind_eq_some_iff.mp H
 obtain ⟨t181,A30,H⟩:=H
 replace H : (if t181 = true then ((spec_l5Used.f l0_1 a1).bind fun t182=>(if t182 = true then ((spec_l5Has.f k l0_2 a1).bind fun t183=>(some (!t183))) else (some false))) else (some false)) = some r:=H
 have A3:=Aside0.mk A30
 clear A30
 by_cases c4 : t181 = true
 ·subst c4
  have H1 : ((spec_l5Used.f l0_1 a1).bind fun t182=>(if t182 = true then ((spec_l5Has.f k l0_2 a1).bind fun t183=>(some (!t183))) else (some false))) = some r:=by rw [if_pos rfl] at H;exact H
  clear H
  have H:=H1
  clear H1
  replace H:=Option.bind_eq_some_iff.mp H
  obtain ⟨t182,A50,H⟩:=H
  replace H : (if t182 = true then ((spec_l5Has.f k l0_2 a1).bind fun t183=>(some (!t183))) else (some false)) = some r:=H
  have A5:=Aside0.mk A50
  clear A50
  by_cases c6 : t182 = true
  ·subst c6
   have H1 : ((spec_l5Has.f k l0_2 a1).bind fun t183=>(some (!t183))) = some r:=by rw [if_pos rfl] at H;exact H
   clear H
   have H:=H1
   clear H1
   replace H:=Option.bind_eq_some_iff.mp H
   obtain ⟨t183,A70,H⟩:=H
   replace H : (some (!t183)) = some r:=H
   have A7:=Aside0.mk A70
   clear A70
   obtain rfl:=Option.some.inj H
   go_enter Try.func55,Try.ntmps55
   go_wp2_with (first|((with_reducible refine gate_dst (N:=2) rfl ?_);refine box_event ?hg (N:=2) ?hd (cs:=#[.slice A0_0 l0_0.length c0_0,.slice A0_1 l0_1.length c0_1,.slice A0_2 l0_2.length c0_2,.slice A0_3 l0_3.length c0_3]) (t:=28) ?hr ?_;(case hd=>rfl);(case hg=>rfl);(case hr=>first|(go_simp;done)|(go_simp;rfl));intro gb180 hg w8 hbox hb;have n0_:=Aside0.mk (below_step (by repeat (first|exact HB.out|apply below_alloc|apply pw_below_drewN|apply below_drew1)) hb);have n1_:=Aside0.mk (hbox);have n2_:=Aside0.mk ((by rw [hg];exact (below_size (by repeat (first|exact HB.out|apply below_alloc|apply pw_below_drewN|apply below_drew1))) : w.heap.size ≤ gb180));have n3_:=Aside0.mk ((by rw [hg];exact (below_size (by repeat (first|exact HB.out|apply below_alloc|apply pw_below_drewN|apply below_drew1))) : w.heap.size ≤ gb180));clear HB;have HB:=n0_;have BK180:=n1_;have GW180:=n2_;have GE180:=n3_;clear n0_ n1_ n2_ n3_;clear hb hbox hg;have hcz9_0 : w8.cell? ⟨gb180,0,none⟩ = some (.slice A0_0 l0_0.length c0_0):=(blk_cell BK180.out 0).trans rfl;have hcz9_1 : w8.cell? ⟨gb180,1,none⟩ = some (.slice A0_1 l0_1.length c0_1):=(blk_cell BK180.out 1).trans rfl;have hcz9_2 : w8.cell? ⟨gb180,2,none⟩ = some (.slice A0_2 l0_2.length c0_2):=(blk_cell BK180.out 2).trans rfl;have hcz9_3 : w8.cell? ⟨gb180,3,none⟩ = some (.slice A0_3 l0_3.length c0_3):=(blk_cell BK180.out 3).trans rfl;have hfz9_0:=blk_frozen BK180.out 0;have hfz9_1:=blk_frozen BK180.out 1;have hfz9_2:=blk_frozen BK180.out 2;have hfz9_3:=blk_frozen BK180.out 3)|((with_reducible refine gate_callee (f:=53) rfl ?_);refine goesL_ (some 10) rfl rfl Try.func53 (by kernel_rfl) rfl #[.int .i64 a1,.int .i64 33,.int .i64 (wrap64 ((l0_0.length : Int) - 1))] rfl (by (try simp only [List.map_toArray,List.map_cons,List.map_nil]);first|done|rfl|(simp only [List.length_drop,List.length_take];rfl)) ?_;(with_reducible refine (spec_l1In.calls a1 33 (wrap64 ((l0_0.length : Int) - 1)) true _ A3.out).mono ?_);rintro e w' ⟨rfl,⟨nd,rfl⟩⟩;refine ⟨_,rfl,?_⟩)|(go_at_call 54;(with_reducible refine (spec_l5Used.calls _ _ l0_1 a1 true _ ?side1 ?side2 A5.out).mono ?_);(case side1=>repeat (first|exact (Kd.C_below HR0_1.out (by repeat (first|(with_reducible first|exact HB.out|apply below_alloc|apply pw_below_drewN|apply below_drew1|refine below_set ?_ GE180.out)|exact HB.out)))|(with_reducible first|apply Kd.C_alloc|apply Kd.C_drewN|apply Kd.C_drew)));(case side2=>exact HC0_1.out);rintro e w' ⟨rfl,⟨nd,rfl⟩⟩)|(go_at_call 56;(with_reducible refine (spec_l5Has.calls k _ _ l0_2 a1 t183 _ ?side1 ?side2 A7.out).mono ?_);(case side1=>repeat (first|exact (Kd.C_below HR0_2.out (by repeat (first|(with_reducible first|exact HB.out|apply below_alloc|apply pw_below_drewN|apply below_drew1|refine below_set ?_ GE180.out)|exact HB.out)))|(with_reducible first|apply Kd.C_alloc|apply Kd.C_drewN|apply Kd.C_drew)));(case side2=>exact HC0_2.out);rintro e w' ⟨rfl,⟨nd,rfl⟩⟩))
   go_ret
   exact ⟨by first|rfl|(simp [*,errW_none,errW_some] <;> rfl),by repeat (first|(with_reducible first|exact HB.out|apply below_alloc|apply pw_below_drewN|apply below_drew1|refine below_set ?_ GE180.out)|exact HB.out)⟩
  ·replace c6:=Bool.eq_false_iff.mpr c6
   subst c6
   have H1 : (some false) = some r:=by rw [if_neg (show ¬ (false = true) by decide)] at H;exact H
   clear H
   have H:=H1
   clear H1
   obtain rfl:=Option.some.inj H
   go_enter Try.func55,Try.ntmps55
   go_wp2_with (first|((with_reducible refine gate_dst (N:=2) rfl ?_);refine box_event ?hg (N:=2) ?hd (cs:=#[.slice A0_0 l0_0.length c0_0,.slice A0_1 l0_1.length c0_1,.slice A0_2 l0_2.length c0_2,.slice A0_3 l0_3.length c0_3]) (t:=28) ?hr ?_;(case hd=>rfl);(case hg=>rfl);(case hr=>first|(go_simp;done)|(go_simp;rfl));intro gb180 hg w10 hbox hb;have n0_:=Aside0.mk (below_step (by repeat (first|exact HB.out|apply below_alloc|apply pw_below_drewN|apply below_drew1)) hb);have n1_:=Aside0.mk (hbox);have n2_:=Aside0.mk ((by rw [hg];exact (below_size (by repeat (first|exact HB.out|apply below_alloc|apply pw_below_drewN|apply below_drew1))) : w.heap.size ≤ gb180));have n3_:=Aside0.mk ((by rw [hg];exact (below_size (by repeat (first|exact HB.out|apply below_alloc|apply pw_below_drewN|apply below_drew1))) : w.heap.size ≤ gb180));clear HB;have HB:=n0_;have BK180:=n1_;have GW180:=n2_;have GE180:=n3_;clear n0_ n1_ n2_ n3_;clear hb hbox hg;have hcz11_0 : w10.cell? ⟨gb180,0,none⟩ = some (.slice A0_0 l0_0.length c0_0):=(blk_cell BK180.out 0).trans rfl;have hcz11_1 : w10.cell? ⟨gb180,1,none⟩ = some (.slice A0_1 l0_1.length c0_1):=(blk_cell BK180.out 1).trans rfl;have hcz11_2 : w10.cell? ⟨gb180,2,none⟩ = some (.slice A0_2 l0_2.length c0_2):=(blk_cell BK180.out 2).trans rfl;have hcz11_3 : w10.cell? ⟨gb180,3,none⟩ = some (.slice A0_3 l0_3.length c0_3):=(blk_cell BK180.out 3).trans rfl;have hfz11_0:=blk_frozen BK180.out 0;have hfz11_1:=blk_frozen BK180.out 1;have hfz11_2:=blk_frozen BK180.out 2;have hfz11_3:=blk_frozen BK180.out 3)|((with_reducible refine gate_callee (f:=53) rfl ?_);refine goesL_ (some 10) rfl rfl Try.func53 (by kernel_rfl) rfl #[.int .i64 a1,.int .i64 33,.int .i64 (wrap64 ((l0_0.length : Int) - 1))] rfl (by (try simp only [List.map_toArray,List.map_cons,List.map_nil]);first|done|rfl|(simp only [List.length_drop,List.length_take];rfl)) ?_;(with_reducible refine (spec_l1In.calls a1 33 (wrap64 ((l0_0.length : Int) - 1)) true _ A3.out).mono ?_);rintro e w' ⟨rfl,⟨nd,rfl⟩⟩;refine ⟨_,rfl,?_⟩)|(go_at_call 54;(with_reducible refine (spec_l5Used.calls _ _ l0_1 a1 false _ ?side1 ?side2 A5.out).mono ?_);(case side1=>repeat (first|exact (Kd.C_below HR0_1.out (by repeat (first|(with_reducible first|exact HB.out|apply below_alloc|apply pw_below_drewN|apply below_drew1|refine below_set ?_ GE180.out)|exact HB.out)))|(with_reducible first|apply Kd.C_alloc|apply Kd.C_drewN|apply Kd.C_drew)));(case side2=>exact HC0_1.out);rintro e w' ⟨rfl,⟨nd,rfl⟩⟩))
   go_ret
   exact ⟨by first|rfl|(simp [*,errW_none,errW_some] <;> rfl),by repeat (first|(with_reducible first|exact HB.out|apply below_alloc|apply pw_below_drewN|apply below_drew1|refine below_set ?_ GE180.out)|exact HB.out)⟩
 ·replace c4:=Bool.eq_false_iff.mpr c4
  subst c4
  have H1 : (some false) = some r:=by rw [if_neg (show ¬ (false = true) by decide)] at H;exact H
  clear H
  have H:=H1
  clear H1
  obtain rfl:=Option.some.inj H
  go_enter Try.func55,Try.ntmps55
  go_wp2_with (first|((with_reducible refine gate_dst (N:=2) rfl ?_);refine box_event ?hg (N:=2) ?hd (cs:=#[.slice A0_0 l0_0.length c0_0,.slice A0_1 l0_1.length c0_1,.slice A0_2 l0_2.length c0_2,.slice A0_3 l0_3.length c0_3]) (t:=28) ?hr ?_;(case hd=>rfl);(case hg=>rfl);(case hr=>first|(go_simp;done)|(go_simp;rfl));intro gb180 hg w12 hbox hb;have n0_:=Aside0.mk (below_step (by repeat (first|exact HB.out|apply below_alloc|apply pw_below_drewN|apply below_drew1)) hb);have n1_:=Aside0.mk (hbox);have n2_:=Aside0.mk ((by rw [hg];exact (below_size (by repeat (first|exact HB.out|apply below_alloc|apply pw_below_drewN|apply below_drew1))) : w.heap.size ≤ gb180));have n3_:=Aside0.mk ((by rw [hg];exact (below_size (by repeat (first|exact HB.out|apply below_alloc|apply pw_below_drewN|apply below_drew1))) : w.heap.size ≤ gb180));clear HB;have HB:=n0_;have BK180:=n1_;have GW180:=n2_;have GE180:=n3_;clear n0_ n1_ n2_ n3_;clear hb hbox hg;have hcz13_0 : w12.cell? ⟨gb180,0,none⟩ = some (.slice A0_0 l0_0.length c0_0):=(blk_cell BK180.out 0).trans rfl;have hcz13_1 : w12.cell? ⟨gb180,1,none⟩ = some (.slice A0_1 l0_1.length c0_1):=(blk_cell BK180.out 1).trans rfl;have hcz13_2 : w12.cell? ⟨gb180,2,none⟩ = some (.slice A0_2 l0_2.length c0_2):=(blk_cell BK180.out 2).trans rfl;have hcz13_3 : w12.cell? ⟨gb180,3,none⟩ = some (.slice A0_3 l0_3.length c0_3):=(blk_cell BK180.out 3).trans rfl;have hfz13_0:=blk_frozen BK180.out 0;have hfz13_1:=blk_frozen BK180.out 1;have hfz13_2:=blk_frozen BK180.out 2;have hfz13_3:=blk_frozen BK180.out 3)|((with_reducible refine gate_callee (f:=53) rfl ?_);refine goesL_ (some 10) rfl rfl Try.func53 (by kernel_rfl) rfl #[.int .i64 a1,.int .i64 33,.int .i64 (wrap64 ((l0_0.length : Int) - 1))] rfl (by (try simp only [List.map_toArray,List.map_cons,List.map_nil]);first|done|rfl|(simp only [List.length_drop,List.length_take];rfl)) ?_;(with_reducible refine (spec_l1In.calls a1 33 (wrap64 ((l0_0.length : Int) - 1)) false _ A3.out).mono ?_);rintro e w' ⟨rfl,⟨nd,rfl⟩⟩;refine ⟨_,rfl,?_⟩))
  go_ret
  exact ⟨by first|rfl|(simp [*,errW_none,errW_some] <;> rfl),by repeat (first|(with_reducible first|exact HB.out|apply below_alloc|apply pw_below_drewN|apply below_drew1|refine below_set ?_ GE180.out)|exact HB.out)⟩

/-! ### spec_l7Rest: function 57 -/
def spec_l7Rest.l0 : Nat → List Int → Int → Int → Option (Bool)
 | 0,_,_,_=>none
 | k + 1,x9,x10,x11=>if x11 < x10 then (if 0 ≤ x11 then (if x11 < (x9.length : Int) then (if (rd x9 x11) = 0 then (spec_l7Rest.l0 k x9 x10 (wrap64 (x11 + 1))) else (some false)) else (none)) else (none)) else (some true)
def spec_l7Rest.f (k : Nat) (l0 : List Int) (a1 : Int) : Option (Bool):=if 0 ≤ a1 then (if a1 ≤ (l0.length : Int) then (spec_l7Rest.l0 k (l0.drop (a1 : Int).toNat) ((l0.drop (a1 : Int).toNat).length : Int) 0) else (none)) else (none)
theorem spec_l7Rest.mono_l : ∀ k,(∀ y0 y1 y2,LeO (spec_l7Rest.l0 k y0 y1 y2) (spec_l7Rest.l0 (k + 1) y0 y1 y2))
 | 0=>fun _ _ _ r h=>by simp [spec_l7Rest.l0] at h
 | k + 1=>by
  have ih0:=spec_l7Rest.mono_l k
  ·intro y0 y1 y2
   unfold spec_l7Rest.l0
   repeat' first
   | (with_reducible exact ih0 _ _ _)
   | (with_reducible exact LeO.refl _)
   | (with_reducible exact LeO.none _)
   | (with_reducible refine LeO.ite ?_ ?_)
   | (with_reducible refine LeO.bind ?_ (fun _=>?_))
   | exact ih0 _ _ _
   | exact LeO.none _
   | refine LeO.ite ?_ ?_
   | refine LeO.bind ?_ (fun _=>?_)
theorem spec_l7Rest.mono : ∀ a0 a1 k,LeO (spec_l7Rest.f k a0 a1) (spec_l7Rest.f (k + 1) a0 a1):=by
 intro a0 a1 k
 have ih0:=spec_l7Rest.mono_l k
 unfold spec_l7Rest.f
 repeat' first
   | (with_reducible exact ih0 _ _ _)
   | (with_reducible exact LeO.refl _)
   | (with_reducible exact LeO.none _)
   | (with_reducible refine LeO.ite ?_ ?_)
   | (with_reducible refine LeO.bind ?_ (fun _=>?_))
   | exact ih0 _ _ _
   | exact LeO.none _
   | refine LeO.ite ?_ ?_
   | refine LeO.bind ?_ (fun _=>?_)
set_option maxHeartbeats 8000000 in
set_option maxRecDepth 100000 in
theorem spec_l7Rest.calls (k : Nat) (A0 : Option Addr) (c0 : Nat) (l0 : List Int) (a1 : Int) (r : Bool) (w : World) (hr0 : Kd.C (Kd.int .u8) w A0 l0.length l0) (hc0 : l0.length ≤ c0) (h : spec_l7Rest.f k l0 a1 = some r) :
  Calls Try.prog 57 #[.slice A0 l0.length c0,.int .i64 a1] w fun e w'=>e = .returned (.bool r)∧Drawn0 w w':=by
 have HR0:=Aside0.mk hr0
 have HC0:=Aside0.mk hc0
 clear hr0 hc0
 have H : (if 0 ≤ a1 then (if a1 ≤ (l0.length : Int) then (spec_l7Rest.l0 k (l0.drop (a1 : Int).toNat) ((l0.drop (a1 : Int).toNat).length : Int) 0) else (none)) else (none)) = some r:=h
 clear h
 by_cases c3 : 0 ≤ a1
 ·rw [if_pos c3] at H
  have c3b0:=eq_true c3
  have c3b1 : decide (0 ≤ a1) = true:=decide_eq_true c3
  clear c3
  by_cases c4 : a1 ≤ (l0.length : Int)
  ·rw [if_pos c4] at H
   have c4b0:=eq_true c4
   have c4b1 : decide (a1 ≤ (l0.length : Int)) = true:=decide_eq_true c4
   clear c4
   have H':=Aside0.mk H
   clear H
   obtain ⟨i05,hi05,_,hsz5,_⟩:=info_parts info5
   obtain ⟨A5,hcut5,hA5,hC5⟩:=print_drop_of (P:=Try.prog) (Value.int .u8) 0 23 5 .i64 Try.underlying23 hi05 hsz5 A0 c0 l0 a1 (of_decide_eq_true (by assumption)) (of_decide_eq_true (by assumption)) HC0.out
   have HR184:=Aside0.mk (Kd.C_of_reads (h1:=fun _=>rfl) (hA5 _ (Kd.reads_of_C HR0.out)))
   have HC184:=Aside0.mk hC5
   clear hA5 hC5 hi05 hsz5
   go_enter Try.func57,Try.ntmps57
   go_wp2
   go_loopg [11] k (fun kq v11 w'=>∃ (x11_1 : Int),v11 = .int .i64 x11_1∧Aside0 (spec_l7Rest.l0 kq (l0.drop (a1 : Int).toNat) ((l0.drop (a1 : Int).toNat).length : Int) x11_1 = some r)∧Aside0 (kq ≤ k)∧Drawn0 w w')
   case atStart=>exact ⟨(0),(by first|rfl|(simp;done)|(simp [*];done)),H',⟨Nat.le_refl _⟩,by repeat (first|exact Drawn0.refl _|apply Drawn0.step)⟩
   case round =>
    clear H'
    try clear p2;try clear c3;try clear c3b0;try clear c3b1;try clear c4;try clear c4b0;try clear c4b1;try clear c5
    obtain ⟨x11_1,rfl,HA,HK1,⟨m1,rfl⟩⟩:=hrel
    cases gk with
    | zero=>exact absurd HA.out (by simp [spec_l7Rest.l0])
    | succ k1 =>
     have H:=HA.out
     clear HA
     simp only [spec_l7Rest.l0] at H
     by_cases c6 : x11_1 < ((l0.drop (a1 : Int).toNat).length : Int)
     ·rw [if_pos c6] at H
      have c6b0 : decide (x11_1 < ((l0.drop (a1 : Int).toNat).length : Int)) = true:=decide_eq_true c6
      have c6b0x : decide (x11_1 < ((l0.length - (a1 : Int).toNat : Nat) : Int)) = true:=by rw [← List.length_drop];exact c6b0
      clear c6
      by_cases c7 : 0 ≤ x11_1
      ·rw [if_pos c7] at H
       have c7b0 : decide (0 ≤ x11_1) = true:=decide_eq_true c7
       clear c7
       by_cases c8 : x11_1 < ((l0.drop (a1 : Int).toNat).length : Int)
       ·rw [if_pos c8] at H
        have c8b0 : decide (x11_1 < ((l0.drop (a1 : Int).toNat).length : Int)) = true:=decide_eq_true c8
        have c8b0x : decide (x11_1 < ((l0.length - (a1 : Int).toNat : Nat) : Int)) = true:=by rw [← List.length_drop];exact c8b0
        clear c8
        by_cases c9 : (rd (l0.drop (a1 : Int).toNat) x11_1) = 0
        ·rw [if_pos c9] at H
         have c9b0 : ((rd (l0.drop (a1 : Int).toNat) x11_1) == 0) = true:=beq_iff_eq.mpr c9
         have c9b1 : ((rd (l0.drop (a1 : Int).toNat) x11_1) != 0) = false:=bne_eq_false_iff_eq.mpr c9
         clear c9
         have H':=Aside0.mk H
         clear H
         have p185 : 0 ≤ (x11_1 : Int):=of_decide_eq_true (by assumption)
         have q185 : x11_1 < ((l0.drop (a1 : Int).toNat).length : Int):=of_decide_eq_true (by assumption)
         have q185x : (x11_1 < ((l0.length - (a1 : Int).toNat : Nat) : Int)) = True:=eq_true (by rw [← List.length_drop];exact q185)
         obtain ⟨ad185,e185,hx185_0⟩:=Kd.at_int HR184.out x11_1 p185 q185
         cases e185
         replace p185:=eq_true p185
         replace q185:=eq_true q185
         go_wp2
         go_roundg k1
         case measure=>have:=HK1.out;omega
         case rel=>exact ⟨(wrap64 (x11_1 + 1)),(by first|rfl|(simp;done)|(simp [*];done)),H',⟨by have:=HK1.out;omega⟩,by repeat (first|exact Drawn0.refl _|apply Drawn0.step)⟩
        ·rw [if_neg c9] at H
         have c9b0 : ((rd (l0.drop (a1 : Int).toNat) x11_1) == 0) = false:=beq_eq_false_iff_ne.mpr c9
         have c9b1 : ((rd (l0.drop (a1 : Int).toNat) x11_1) != 0) = true:=bne_iff_ne.mpr c9
         obtain rfl:=Option.some.inj H
         have p185 : 0 ≤ (x11_1 : Int):=of_decide_eq_true (by assumption)
         have q185 : x11_1 < ((l0.drop (a1 : Int).toNat).length : Int):=of_decide_eq_true (by assumption)
         have q185x : (x11_1 < ((l0.length - (a1 : Int).toNat : Nat) : Int)) = True:=eq_true (by rw [← List.length_drop];exact q185)
         obtain ⟨ad185,e185,hx185_0⟩:=Kd.at_int HR184.out x11_1 p185 q185
         cases e185
         replace p185:=eq_true p185
         replace q185:=eq_true q185
         go_wp2
         go_ret
         exact ⟨by first|rfl|(simp;done)|(simp [*];done),by repeat (first|exact Drawn0.refl _|apply Drawn0.step)⟩
       ·rw [if_neg c8] at H
        exact absurd H (by simp)
      ·rw [if_neg c7] at H
       exact absurd H (by simp)
     ·rw [if_neg c6] at H
      have c6b0 : decide (x11_1 < ((l0.drop (a1 : Int).toNat).length : Int)) = false:=decide_eq_false c6
      have c6b0x : decide (x11_1 < ((l0.length - (a1 : Int).toNat : Nat) : Int)) = false:=by rw [← List.length_drop];exact c6b0
      clear c6
      obtain rfl:=Option.some.inj H
      go_wp2
      go_ret
      exact ⟨by first|rfl|(simp;done)|(simp [*];done),by repeat (first|exact Drawn0.refl _|apply Drawn0.step)⟩
  ·rw [if_neg c4] at H
   exact absurd H (by simp)
 ·rw [if_neg c3] at H
  exact absurd H (by simp)

end Go.Proofs.Ytggnbbbhlnjleaa.PFnExactTextIn
