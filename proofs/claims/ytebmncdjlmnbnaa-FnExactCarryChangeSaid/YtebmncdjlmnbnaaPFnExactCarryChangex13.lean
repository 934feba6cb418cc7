-- Written by a program of this session over the print of the kit (wip/t/patch_print.py).
import Derived.Test.YtebmncdjlmnbnaaPFnExactCarryChangex0
import Derived.Test.YtebmncdjlmnbnaaPFnExactCarryChangex2
import Derived.Test.YtebmncdjlmnbnaaPFnExactCarryChangex3
import Derived.Test.YtebmncdjlmnbnaaPFnExactCarryChangex7
import Derived.Test.YtebmncdjlmnbnaaPFnExactCarryChangex9
import Derived.Test.YtebmncdjlmnbnaaPFnExactCarryChangex12
namespace Go.Proofs.Ytebmncdjlmnbnaa.PFnExactCarryChange
open Go.RowKit Go.Proofs.YtebmncdjlmnbnaaW.PrintWords Go.Proofs.YtebmncdjlmnbnaaW.PrintLast Go.Proofs.YtebmncdjlmnbnaaW.PrintMore
attribute [local go_sem] max2_int min2_int max_two min_two max_three min_three max_four min_four   -- for this text's walks alone
set_option linter.unusedVariables false
set_option linter.unusedSimpArgs false

/-! ### impl_CarryChange: function 41 -/
def impl_CarryChange.j0 : Nat → List (S74) → List (S74) → Bool → Bool → Option ((List (S74)) × Bool)
 | 0,_,_,_,_=>none
 | k + 1,x0,x1,x2,x25=>if x25 = true then (some (([] : List (S74)),false)) else ((impl_carry.f k x0 x1 x2).bind fun bt302=>(if bt302.2 = true then (some (bt302.1,true)) else (some (([] : List (S74)),false))))
def impl_CarryChange.f (k : Nat) (l0 : List (S74)) (l1 : List (S74)) (a2 : Bool) : Option ((List (S74)) × Bool):=(impl_LengthsOf.f k l1).bind fun bt298=>(if bt298.2.2 = true then ((impl_fits.f k l0 bt298.1).bind fun t301=>(impl_CarryChange.j0 k l0 l1 a2 (!t301))) else (impl_CarryChange.j0 k l0 l1 a2 true))
theorem impl_CarryChange.mono_l : ∀ k,(∀ y0 y1 y2 y3,LeO (impl_CarryChange.j0 k y0 y1 y2 y3) (impl_CarryChange.j0 (k + 1) y0 y1 y2 y3))
 | 0=>fun _ _ _ _ r h=>by simp [impl_CarryChange.j0] at h
 | k + 1=>by
  have ih0:=impl_CarryChange.mono_l k
  ·intro y0 y1 y2 y3
   unfold impl_CarryChange.j0
   repeat' first
   | (with_reducible exact ih0 _ _ _ _)
   | (with_reducible exact impl_LengthsOf.mono _ _)
   | (with_reducible exact impl_carry.mono _ _ _ _)
   | (with_reducible exact impl_fits.mono _ _ _)
   | (with_reducible exact LeO.refl _)
   | (with_reducible exact LeO.none _)
   | (with_reducible refine LeO.ite ?_ ?_)
   | (with_reducible refine LeO.bind ?_ (fun _=>?_))
   | exact ih0 _ _ _ _
   | exact impl_LengthsOf.mono _ _
   | exact impl_carry.mono _ _ _ _
   | exact impl_fits.mono _ _ _
   | exact LeO.none _
   | refine LeO.ite ?_ ?_
   | refine LeO.bind ?_ (fun _=>?_)
theorem impl_CarryChange.mono : ∀ a0 a1 a2 k,LeO (impl_CarryChange.f k a0 a1 a2) (impl_CarryChange.f (k + 1) a0 a1 a2):=by
 intro a0 a1 a2 k
 have ih0:=impl_CarryChange.mono_l k
 unfold impl_CarryChange.f
 repeat' first
   | (with_reducible exact ih0 _ _ _ _)
   | (with_reducible exact impl_LengthsOf.mono _ _)
   | (with_reducible exact impl_carry.mono _ _ _ _)
   | (with_reducible exact impl_fits.mono _ _ _)
   | (with_reducible exact LeO.refl _)
   | (with_reducible exact LeO.none _)
   | (with_reducible refine LeO.ite ?_ ?_)
   | (with_reducible refine LeO.bind ?_ (fun _=>?_))
   | exact ih0 _ _ _ _
   | exact impl_LengthsOf.mono _ _
   | exact impl_carry.mono _ _ _ _
   | exact impl_fits.mono _ _ _
   | exact LeO.none _
   | refine LeO.ite ?_ ?_
   | refine LeO.bind ?_ (fun _=>?_)
set_option maxHeartbeats 8000000 in
set_option maxRecDepth 100000 in
theorem impl_CarryChange.calls (k : Nat) (A0 : Option Addr) (c0 : Nat) (l0 : List (S74)) (A1 : Option Addr) (c1 : Nat) (l1 : List (S74)) (a2 : Bool) (r1 : List (S74)) (r2 : Bool) (w : World) (hr0 : Kd.C k74 w A0 l0.length l0) (hc0 : l0.length ≤ c0) (hr1 : Kd.C k74 w A1 l1.length l1) (hc1 : l1.length ≤ c1) (h : impl_CarryChange.f k l0 l1 a2 = some (r1,r2)) :
  Calls Try.prog 41 #[.slice A0 l0.length c0,.slice A1 l1.length c1,.bool a2] w fun e w'=>∃ v0_ : Value,e = .returned (.tuple #[v0_,.bool r2])∧Kd.R k74 74 w' w.heap.size (fun _=>True) v0_ r1∧Below w.heap.size w w':=by
 have HR0:=Aside0.mk hr0
 have HC0:=Aside0.mk hc0
 clear hr0 hc0
 have HR1:=Aside0.mk hr1
 have HC1:=Aside0.mk hc1
 clear hr1 hc1
 have HB:=Aside0.mk (Below.refl w.heap.size w)
 have H : ((impl_LengthsOf.f k l1).bind fun bt298=>(if bt298.2.2 = true then ((impl_fits.f k l0 bt298.1).bind fun t301=>(impl_CarryChange.j0 k l0 l1 a2 (!t301))) else (impl_CarryChange.j0 k l0 l1 a2 true))) = some (r1,r2):=h
 clear h
 replace H:=Option.bind_eq_some_iff.mp H
 obtain ⟨⟨t298,t299,t300⟩,A40,H⟩:=H
 replace H : (if t300 = true then ((impl_fits.f k l0 t298).bind fun t301=>(impl_CarryChange.j0 k l0 l1 a2 (!t301))) else (impl_CarryChange.j0 k l0 l1 a2 true)) = some (r1,r2):=H
 have A4:=Aside0.mk A40
 clear A40
 have HC5:=Aside0.mk H
 clear H
 go_enter Try.func41,Try.ntmps41
 go_upto_region 2 with (first|((with_reducible refine gate_callee (f:=21) rfl ?_);refine goesL_ (some 14) rfl rfl Try.func21 (by kernel_rfl) rfl #[.slice A1 l1.length c1] rfl (by (try simp only [List.map_toArray,List.map_cons,List.map_nil]);first|done|rfl|(simp only [List.length_drop,List.length_take];rfl)) ?_;(with_reducible refine (impl_LengthsOf.calls k _ _ l1 t298 t299 t300 _ ?side1 ?side2 A4.out).mono ?_);(case side1=>repeat (first|exact HR1.out|(with_reducible first|apply Kd.C_alloc|apply Kd.C_drewN|apply Kd.C_drew)));(case side2=>exact HC1.out);rintro e w6 ⟨rfl,hb⟩;refine ⟨_,rfl,?_⟩;have n0_:=Aside0.mk (below_step (by repeat (first|exact HB.out|apply below_alloc|apply pw_below_drewN|apply below_drew1)) hb);clear HB;have HB:=n0_;clear n0_;(try clear hb);(try clear hb2);(try clear hk);(try clear hi)))
 (try simp only [Act.put,List.setIfInBounds_toArray,List.set_cons_zero,List.set_cons_succ])
 go_cut [25] (fun v25 wc=>∃ (kq : Nat) (x25_4 : Bool),v25 = .bool x25_4∧Aside0 (impl_CarryChange.j0 kq l0 l1 a2 x25_4 = some (r1,r2))∧Aside0 (kq ≤ k)∧Aside0 (Below w.heap.size w wc))
 case first =>
  have H:=HC5.out
  clear HC5
  by_cases c7 : t300 = true
  ·subst c7
   have H1 : ((impl_fits.f k l0 t298).bind fun t301=>(impl_CarryChange.j0 k l0 l1 a2 (!t301))) = some (r1,r2):=by rw [if_pos rfl] at H;exact H
   clear H
   have H:=H1
   clear H1
   replace H:=Option.bind_eq_some_iff.mp H
   obtain ⟨t301,A80,H⟩:=H
   replace H : (impl_CarryChange.j0 k l0 l1 a2 (!t301)) = some (r1,r2):=H
   have A8:=Aside0.mk A80
   clear A80
   have H':=Aside0.mk H
   clear H
   go_wp2_with (first|(go_at_call 63;(with_reducible refine (impl_fits.calls k _ _ l0 t298 t301 _ ?side1 ?side2 A8.out).mono ?_);(case side1=>repeat (first|exact (Kd.C_below HR0.out HB.out)|(with_reducible first|apply Kd.C_alloc|apply Kd.C_drewN|apply Kd.C_drew)));(case side2=>exact HC0.out);rintro e w9 ⟨rfl,hb⟩;have n0_:=Aside0.mk (below_step (by repeat (first|exact HB.out|apply below_alloc|apply pw_below_drewN|apply below_drew1)) hb);clear HB;have HB:=n0_;clear n0_;(try clear hb);(try clear hb2);(try clear hk);(try clear hi)))
   go_meet
   case rel=>exact ⟨_,(!t301),(by first|rfl|(simp;done)|(simp [*];done)),H',⟨by first|omega|exact Nat.le_refl _⟩,⟨by repeat (first|exact HB.out|apply below_alloc|apply pw_below_drewN|apply below_drew1)⟩⟩
  ·replace c7:=Bool.eq_false_iff.mpr c7
   subst c7
   have H1 : (impl_CarryChange.j0 k l0 l1 a2 true) = some (r1,r2):=by rw [if_neg (show ¬ (false = true) by decide)] at H;exact H
   clear H
   have H:=H1
   clear H1
   have H':=Aside0.mk H
   clear H
   go_wp2
   go_meet
   case rel=>exact ⟨_,(true),(by first|rfl|(simp;done)|(simp [*];done)),H',⟨by first|omega|exact Nat.le_refl _⟩,⟨by repeat (first|exact HB.out|apply below_alloc|apply pw_below_drewN|apply below_drew1)⟩⟩
 case rest =>
  clear HC5
  try clear c1;try clear c2;try clear p2;try clear c4;try clear c7
  obtain ⟨kq,x25_4,rfl,HA,HJ4,HB⟩:=hcut
  cases kq with
  | zero=>exact absurd HA.out (by simp [impl_CarryChange.j0])
  | succ kj4 =>
   have H:=HA.out
   clear HA
   simp only [impl_CarryChange.j0] at H
   by_cases c10 : x25_4 = true
   ·subst c10
    have H1 : (some (([] : List (S74)),false)) = some (r1,r2):=by rw [if_pos rfl] at H;exact H
    clear H
    have H:=H1
    clear H1
    simp only [Option.some.injEq,Prod.mk.injEq] at H
    obtain ⟨rfl,rfl⟩:=H
    go_wp2
    go_ret2
    exact ⟨_,by first|rfl|(simp [*,errW_none,errW_some] <;> rfl),by first|exact Kd.R_nil _ _ _ _ _|exact Kd.N_nil _ _ _ _ _|exact Kd.V_nil _ _ _ _ _|exact Kd.Q_nil _ _ _ _ _|exact Kd.S_nil _ _ _ _ _,by repeat (first|exact HB.out|apply below_alloc|apply pw_below_drewN|apply below_drew1)⟩
   ·replace c10:=Bool.eq_false_iff.mpr c10
    subst c10
    have H1 : ((impl_carry.f kj4 l0 l1 a2).bind fun bt302=>(if bt302.2 = true then (some (bt302.1,true)) else (some (([] : List (S74)),false)))) = some (r1,r2):=by rw [if_neg (show ¬ (false = true) by decide)] at H;exact H
    clear H
    have H:=H1
    clear H1
    replace H:=Option.bind_eq_some_iff.mp H
    obtain ⟨⟨t302,t303⟩,A110,H⟩:=H
    replace H : (if t303 = true then (some (t302,true)) else (some (([] : List (S74)),false))) = some (r1,r2):=H
    have A11:=Aside0.mk A110
    clear A110
    by_cases c12 : t303 = true
    ·subst c12
     have H1 : (some (t302,true)) = some (r1,r2):=by rw [if_pos rfl] at H;exact H
     clear H
     have H:=H1
     clear H1
     simp only [Option.some.injEq,Prod.mk.injEq] at H
     obtain ⟨rfl,rfl⟩:=H
     go_wp2_with (first|((with_reducible refine gate_callee (f:=75) rfl ?_);refine goesL_ (some 30) rfl rfl Try.func75 (by kernel_rfl) rfl #[.slice A0 l0.length c0,.slice A1 l1.length c1,.bool a2] rfl (by (try simp only [List.map_toArray,List.map_cons,List.map_nil]);first|done|rfl|(simp only [List.length_drop,List.length_take];rfl)) ?_;(with_reducible refine (impl_carry.calls kj4 _ _ l0 _ _ l1 a2 t302 true _ ?side1 ?side2 ?side3 ?side4 A11.out).mono ?_);(case side1=>repeat (first|exact (Kd.C_below HR0.out HB.out)|(with_reducible first|apply Kd.C_alloc|apply Kd.C_drewN|apply Kd.C_drew)));(case side2=>exact HC0.out);(case side3=>repeat (first|exact (Kd.C_below HR1.out HB.out)|(with_reducible first|apply Kd.C_alloc|apply Kd.C_drewN|apply Kd.C_drew)));(case side4=>exact HC1.out);rintro e w13 ⟨v304,rfl,ho0,hb⟩;refine ⟨_,rfl,?_⟩;have n0_:=Aside0.mk (Kd.R_lower ho0 (below_size (by repeat (first|exact HB.out|apply below_alloc|apply pw_below_drewN|apply below_drew1))));have n1_:=Aside0.mk (below_step (by repeat (first|exact HB.out|apply below_alloc|apply pw_below_drewN|apply below_drew1)) hb);clear HB;have HO305:=n0_;have HB:=n1_;clear n0_ n1_;(try clear hb);(try clear hb2);(try clear hk);(try clear hi);(try clear ho0)))
     go_ret2
     exact ⟨_,by first|rfl|(simp [*,errW_none,errW_some] <;> rfl),by (with_reducible repeat (first|apply Kd.R_alloc|apply Kd.R_drewN|apply Kd.R_drew));exact HO305.out,by repeat (first|exact HB.out|apply below_alloc|apply pw_below_drewN|apply below_drew1)⟩
    ·replace c12:=Bool.eq_false_iff.mpr c12
     subst c12
     have H1 : (some (([] : List (S74)),false)) = some (r1,r2):=by rw [if_neg (show ¬ (false = true) by decide)] at H;exact H
     clear H
     have H:=H1
     clear H1
     simp only [Option.some.injEq,Prod.mk.injEq] at H
     obtain ⟨rfl,rfl⟩:=H
     go_wp2_with (first|((with_reducible refine gate_callee (f:=75) rfl ?_);refine goesL_ (some 30) rfl rfl Try.func75 (by kernel_rfl) rfl #[.slice A0 l0.length c0,.slice A1 l1.length c1,.bool a2] rfl (by (try simp only [List.map_toArray,List.map_cons,List.map_nil]);first|done|rfl|(simp only [List.length_drop,List.length_take];rfl)) ?_;(with_reducible refine (impl_carry.calls kj4 _ _ l0 _ _ l1 a2 t302 false _ ?side1 ?side2 ?side3 ?side4 A11.out).mono ?_);(case side1=>repeat (first|exact (Kd.C_below HR0.out HB.out)|(with_reducible first|apply Kd.C_alloc|apply Kd.C_drewN|apply Kd.C_drew)));(case side2=>exact HC0.out);(case side3=>repeat (first|exact (Kd.C_below HR1.out HB.out)|(with_reducible first|apply Kd.C_alloc|apply Kd.C_drewN|apply Kd.C_drew)));(case side4=>exact HC1.out);rintro e w14 ⟨v304,rfl,ho0,hb⟩;refine ⟨_,rfl,?_⟩;have n0_:=Aside0.mk (Kd.R_lower ho0 (below_size (by repeat (first|exact HB.out|apply below_alloc|apply pw_below_drewN|apply below_drew1))));have n1_:=Aside0.mk (below_step (by repeat (first|exact HB.out|apply below_alloc|apply pw_below_drewN|apply below_drew1)) hb);clear HB;have HO305:=n0_;have HB:=n1_;clear n0_ n1_;(try clear hb);(try clear hb2);(try clear hk);(try clear hi);(try clear ho0)))
     go_ret2
     exact ⟨_,by first|rfl|(simp [*,errW_none,errW_some] <;> rfl),by first|exact Kd.R_nil _ _ _ _ _|exact Kd.N_nil _ _ _ _ _|exact Kd.V_nil _ _ _ _ _|exact Kd.Q_nil _ _ _ _ _|exact Kd.S_nil _ _ _ _ _,by repeat (first|exact HB.out|apply below_alloc|apply pw_below_drewN|apply below_drew1)⟩

/-! ### laws_FnExactCarryChange: function 11 -/
mutual
def laws_FnExactCarryChange.j0 : Nat → List (S73) → List (S73) → Bool → List (S74) → Bool → List (S74) → List (S74) → List (S74) → Bool → Bool → Option (Bool)
 | 0,_,_,_,_,_,_,_,_,_,_=>none
 | k + 1,x0,x1,x2,x8,x9,x10,x11,x12,x13,x57=>if x57 = true then (some false) else ((laws_toPartS.f k x0).bind fun t329=>((laws_eqPartS.f k x10 t329).bind fun t332=>(if t332 = true then ((laws_toPartS.f k x1).bind fun t333=>((laws_eqPartS.f k x11 t333).bind fun t336=>(if t336 = true then ((laws_markPartS.f k x10 1).bind fun bt337=>((laws_markPartS.f k x11 bt337.1).bind fun bt339=>(if bt339.1 < 0 then (laws_FnExactCarryChange.j1 k x0 x1 x2 x8 x9 x12 true) else ((laws_eqPartS.f k x12 x8).bind fun t341=>(if t341 = true then (laws_FnExactCarryChange.j1 k x0 x1 x2 x8 x9 x12 (x13 != x9)) else (laws_FnExactCarryChange.j1 k x0 x1 x2 x8 x9 x12 true)))))) else (some false)))) else (some false))))
def laws_FnExactCarryChange.j1 : Nat → List (S73) → List (S73) → Bool → List (S74) → Bool → List (S74) → Bool → Option (Bool)
 | 0,_,_,_,_,_,_,_=>none
 | k + 1,x0,x1,x2,x8,x9,x12,x86=>if x86 = true then (some false) else ((laws_markPartS.f k x12 1).bind fun bt342=>((laws_heldPartS.f k bt342.2 1).bind fun t344=>(if t344 < 0 then (some false) else (if t344 = bt342.1 then ((laws_toPartS.f k x0).bind fun t345=>((laws_toPartS.f k x1).bind fun t348=>((impl_CarryChange.f k t345 t348 x2).bind fun bt351=>((laws_eqPartS.f k bt351.1 x8).bind fun t355=>(if t355 = true then (laws_FnExactCarryChange.j2 k bt342.2 bt342.1 (bt351.2 != x9)) else (laws_FnExactCarryChange.j2 k bt342.2 bt342.1 true)))))) else (some false)))))
def laws_FnExactCarryChange.j2 : Nat → List (S74) → Int → Bool → Option (Bool)
 | 0,_,_,_=>none
 | k + 1,x12,x15,x115=>if x115 = true then (some false) else ((laws_heldPartS.f k x12 1).bind fun t356=>(if t356 < 0 then (some false) else (if t356 = x15 then (some true) else (some false))))
end
def laws_FnExactCarryChange.f (k : Nat) (l0 : List (S73)) (l1 : List (S73)) (a2 : Bool) : Option (Bool):=(laws_szPartS.f k l0 1048576).bind fun t306=>(if t306 < 0 then (some true) else ((laws_szPartS.f k l1 t306).bind fun t307=>(if t307 < 0 then (some true) else ((laws_toPartS.f k l0).bind fun t308=>((laws_toPartS.f k l1).bind fun t311=>((spec_CarryChange.f k t308 t311 a2).bind fun bt314=>((laws_toPartS.f k l0).bind fun t318=>((laws_toPartS.f k l1).bind fun t321=>((impl_CarryChange.f k t318 t321 a2).bind fun bt324=>((laws_eqPartS.f k bt324.1 bt314.1).bind fun t328=>(if t328 = true then (laws_FnExactCarryChange.j0 k l0 l1 a2 bt314.1 bt314.2 t318 t321 bt324.1 bt324.2 (bt324.2 != bt314.2)) else (laws_FnExactCarryChange.j0 k l0 l1 a2 bt314.1 bt314.2 t318 t321 bt324.1 bt324.2 true))))))))))))
theorem laws_FnExactCarryChange.mono_l : ∀ k,(∀ y0 y1 y2 y3 y4 y5 y6 y7 y8 y9,LeO (laws_FnExactCarryChange.j0 k y0 y1 y2 y3 y4 y5 y6 y7 y8 y9) (laws_FnExactCarryChange.j0 (k + 1) y0 y1 y2 y3 y4 y5 y6 y7 y8 y9))∧(∀ y0 y1 y2 y3 y4 y5 y6,LeO (laws_FnExactCarryChange.j1 k y0 y1 y2 y3 y4 y5 y6) (laws_FnExactCarryChange.j1 (k + 1) y0 y1 y2 y3 y4 y5 y6))∧(∀ y0 y1 y2,LeO (laws_FnExactCarryChange.j2 k y0 y1 y2) (laws_FnExactCarryChange.j2 (k + 1) y0 y1 y2))
 | 0=>⟨fun _ _ _ _ _ _ _ _ _ _ r h=>by simp [laws_FnExactCarryChange.j0] at h,fun _ _ _ _ _ _ _ r h=>by simp [laws_FnExactCarryChange.j1] at h,fun _ _ _ r h=>by simp [laws_FnExactCarryChange.j2] at h⟩
 | k + 1=>by
  obtain ⟨ih0,ih1,ih2⟩:=laws_FnExactCarryChange.mono_l k
  refine ⟨?_,?_,?_⟩
  ·intro y0 y1 y2 y3 y4 y5 y6 y7 y8 y9
   unfold laws_FnExactCarryChange.j0
   repeat' first
   | (with_reducible exact ih0 _ _ _ _ _ _ _ _ _ _)
   | (with_reducible exact ih1 _ _ _ _ _ _ _)
   | (with_reducible exact ih2 _ _ _)
   | (with_reducible exact impl_CarryChange.mono _ _ _ _)
   | (with_reducible exact laws_eqPartS.mono _ _ _)
   | (with_reducible exact laws_heldPartS.mono _ _ _)
   | (with_reducible exact laws_markPartS.mono _ _ _)
   | (with_reducible exact laws_szPartS.mono _ _ _)
   | (with_reducible exact laws_toPartS.mono _ _)
   | (with_reducible exact spec_CarryChange.mono _ _ _ _)
   | (with_reducible exact LeO.refl _)
   | (with_reducible exact LeO.none _)
   | (with_reducible refine LeO.ite ?_ ?_)
   | (with_reducible refine LeO.bind ?_ (fun _=>?_))
   | exact ih0 _ _ _ _ _ _ _ _ _ _
   | exact ih1 _ _ _ _ _ _ _
   | exact ih2 _ _ _
   | exact impl_CarryChange.mono _ _ _ _
   | exact laws_eqPartS.mono _ _ _
   | exact laws_heldPartS.mono _ _ _
   | exact laws_markPartS.mono _ _ _
   | exact laws_szPartS.mono _ _ _
   | exact laws_toPartS.mono _ _
   | exact spec_CarryChange.mono _ _ _ _
   | exact LeO.none _
   | refine LeO.ite ?_ ?_
   | refine LeO.bind ?_ (fun _=>?_)
  ·intro y0 y1 y2 y3 y4 y5 y6
   unfold laws_FnExactCarryChange.j1
   repeat' first
   | (with_reducible exact ih0 _ _ _ _ _ _ _ _ _ _)
   | (with_reducible exact ih1 _ _ _ _ _ _ _)
   | (with_reducible exact ih2 _ _ _)
   | (with_reducible exact impl_CarryChange.mono _ _ _ _)
   | (with_reducible exact laws_eqPartS.mono _ _ _)
   | (with_reducible exact laws_heldPartS.mono _ _ _)
   | (with_reducible exact laws_markPartS.mono _ _ _)
   | (with_reducible exact laws_szPartS.mono _ _ _)
   | (with_reducible exact laws_toPartS.mono _ _)
   | (with_reducible exact spec_CarryChange.mono _ _ _ _)
   | (with_reducible exact LeO.refl _)
   | (with_reducible exact LeO.none _)
   | (with_reducible refine LeO.ite ?_ ?_)
   | (with_reducible refine LeO.bind ?_ (fun _=>?_))
   | exact ih0 _ _ _ _ _ _ _ _ _ _
   | exact ih1 _ _ _ _ _ _ _
   | exact ih2 _ _ _
   | exact impl_CarryChange.mono _ _ _ _
   | exact laws_eqPartS.mono _ _ _
   | exact laws_heldPartS.mono _ _ _
   | exact laws_markPartS.mono _ _ _
   | exact laws_szPartS.mono _ _ _
   | exact laws_toPartS.mono _ _
   | exact spec_CarryChange.mono _ _ _ _
   | exact LeO.none _
   | refine LeO.ite ?_ ?_
   | refine LeO.bind ?_ (fun _=>?_)
  ·intro y0 y1 y2
   unfold laws_FnExactCarryChange.j2
   repeat' first
   | (with_reducible exact ih0 _ _ _ _ _ _ _ _ _ _)
   | (with_reducible exact ih1 _ _ _ _ _ _ _)
   | (with_reducible exact ih2 _ _ _)
   | (with_reducible exact impl_CarryChange.mono _ _ _ _)
   | (with_reducible exact laws_eqPartS.mono _ _ _)
   | (with_reducible exact laws_heldPartS.mono _ _ _)
   | (with_reducible exact laws_markPartS.mono _ _ _)
   | (with_reducible exact laws_szPartS.mono _ _ _)
   | (with_reducible exact laws_toPartS.mono _ _)
   | (with_reducible exact spec_CarryChange.mono _ _ _ _)
   | (with_reducible exact LeO.refl _)
   | (with_reducible exact LeO.none _)
   | (with_reducible refine LeO.ite ?_ ?_)
   | (with_reducible refine LeO.bind ?_ (fun _=>?_))
   | exact ih0 _ _ _ _ _ _ _ _ _ _
   | exact ih1 _ _ _ _ _ _ _
   | exact ih2 _ _ _
   | exact impl_CarryChange.mono _ _ _ _
   | exact laws_eqPartS.mono _ _ _
   | exact laws_heldPartS.mono _ _ _
   | exact laws_markPartS.mono _ _ _
   | exact laws_szPartS.mono _ _ _
   | exact laws_toPartS.mono _ _
   | exact spec_CarryChange.mono _ _ _ _
   | exact LeO.none _
   | refine LeO.ite ?_ ?_
   | refine LeO.bind ?_ (fun _=>?_)
theorem laws_FnExactCarryChange.mono : ∀ a0 a1 a2 k,LeO (laws_FnExactCarryChange.f k a0 a1 a2) (laws_FnExactCarryChange.f (k + 1) a0 a1 a2):=by
 intro a0 a1 a2 k
 obtain ⟨ih0,ih1,ih2⟩:=laws_FnExactCarryChange.mono_l k
 unfold laws_FnExactCarryChange.f
 repeat' first
   | (with_reducible exact ih0 _ _ _ _ _ _ _ _ _ _)
   | (with_reducible exact ih1 _ _ _ _ _ _ _)
   | (with_reducible exact ih2 _ _ _)
   | (with_reducible exact impl_CarryChange.mono _ _ _ _)
   | (with_reducible exact laws_eqPartS.mono _ _ _)
   | (with_reducible exact laws_heldPartS.mono _ _ _)
   | (with_reducible exact laws_markPartS.mono _ _ _)
   | (with_reducible exact laws_szPartS.mono _ _ _)
   | (with_reducible exact laws_toPartS.mono _ _)
   | (with_reducible exact spec_CarryChange.mono _ _ _ _)
   | (with_reducible exact LeO.refl _)
   | (with_reducible exact LeO.none _)
   | (with_reducible refine LeO.ite ?_ ?_)
   | (with_reducible refine LeO.bind ?_ (fun _=>?_))
   | exact ih0 _ _ _ _ _ _ _ _ _ _
   | exact ih1 _ _ _ _ _ _ _
   | exact ih2 _ _ _
   | exact impl_CarryChange.mono _ _ _ _
   | exact laws_eqPartS.mono _ _ _
   | exact laws_heldPartS.mono _ _ _
   | exact laws_markPartS.mono _ _ _
   | exact laws_szPartS.mono _ _ _
   | exact laws_toPartS.mono _ _
   | exact spec_CarryChange.mono _ _ _ _
   | exact LeO.none _
   | refine LeO.ite ?_ ?_
   | refine LeO.bind ?_ (fun _=>?_)
set_option maxHeartbeats 8000000 in
set_option maxRecDepth 100000 in
theorem laws_FnExactCarryChange.calls (k : Nat) (A0 : Option Addr) (c0 : Nat) (l0 : List (S73)) (A1 : Option Addr) (c1 : Nat) (l1 : List (S73)) (a2 : Bool) (r : Bool) (w : World) (hr0 : Kd.C k73 w A0 l0.length l0) (hc0 : l0.length ≤ c0) (hr1 : Kd.C k73 w A1 l1.length l1) (hc1 : l1.length ≤ c1) (h : laws_FnExactCarryChange.f k l0 l1 a2 = some r) :
  Calls Try.prog 11 #[.slice A0 l0.length c0,.slice A1 l1.length c1,.bool a2] w fun e w'=>e = .returned (.bool r)∧Below w.heap.size w w':=by
 have HR0:=Aside0.mk hr0
 have HC0:=Aside0.mk hc0
 clear hr0 hc0
 have HR1:=Aside0.mk hr1
 have HC1:=Aside0.mk hc1
 clear hr1 hc1
 have HB:=Aside0.mk (Below.refl w.heap.size w)
 have H : ((laws_szPartS.f k l0 1048576).bind fun t306=>(if t306 < 0 then (some true) else ((laws_szPartS.f k l1 t306).bind fun t307=>(if t307 < 0 then (some true) else ((laws_toPartS.f k l0).bind fun t308=>((laws_toPartS.f k l1).bind fun t311=>((spec_CarryChange.f k t308 t311 a2).bind fun bt314=>((laws_toPartS.f k l0).bind fun t318=>((laws_toPartS.f k l1).bind fun t321=>((impl_CarryChange.f k t318 t321 a2).bind fun bt324=>((laws_eqPartS.f k bt324.1 bt314.1).bind fun t328=>(if t328 = true then (laws_FnExactCarryChange.j0 k l0 l1 a2 bt314.1 bt314.2 t318 t321 bt324.1 bt324.2 (bt324.2 != bt314.2)) else (laws_FnExactCarryChange.j0 k l0 l1 a2 bt314.1 bt314.2 t318 t321 bt324.1 bt324.2 true))))))))))))) = some r:=h
 clear h
 replace H:=Option.bind_eq_some_iff.mp H
 obtain ⟨t306,A40,H⟩:=H
 replace H : (if t306 < 0 then (some true) else ((laws_szPartS.f k l1 t306).bind fun t307=>(if t307 < 0 then (some true) else ((laws_toPartS.f k l0).bind fun t308=>((laws_toPartS.f k l1).bind fun t311=>((spec_CarryChange.f k t308 t311 a2).bind fun bt314=>((laws_toPartS.f k l0).bind fun t318=>((laws_toPartS.f k l1).bind fun t321=>((impl_CarryChange.f k t318 t321 a2).bind fun bt324=>((laws_eqPartS.f k bt324.1 bt314.1).bind fun t328=>(if t328 = true then (laws_FnExactCarryChange.j0 k l0 l1 a2 bt314.1 bt314.2 t318 t321 bt324.1 bt324.2 (bt324.2 != bt314.2)) else (laws_FnExactCarryChange.j0 k l0 l1 a2 bt314.1 bt314.2 t318 t321 bt324.1 bt324.2 true)))))))))))) = some r:=H
 have A4:=Aside0.mk A40
 clear A40
 by_cases c5 : t306 < 0
 ·rw [if_pos c5] at H
  have c5b0 : decide (t306 < 0) = true:=decide_eq_true c5
  clear c5
  obtain rfl:=Option.some.inj H
  go_enter Try.func11,Try.ntmps11
  go_wp2_with (first|((with_reducible refine gate_callee (f:=15) rfl ?_);refine goesL_ (some 21) rfl rfl Try.func15 (by kernel_rfl) rfl #[.slice A0 l0.length c0,.int .i64 1048576] rfl (by (try simp only [List.map_toArray,List.map_cons,List.map_nil]);first|done|rfl|(simp only [List.length_drop,List.length_take];rfl)) ?_;(with_reducible refine (laws_szPartS.calls k _ _ l0 1048576 t306 _ ?side1 ?side2 A4.out).mono ?_);(case side1=>repeat (first|exact HR0.out|(with_reducible first|apply Kd.C_alloc|apply Kd.C_drewN|apply Kd.C_drew)));(case side2=>exact HC0.out);rintro e w6 ⟨rfl,hb⟩;refine ⟨_,rfl,?_⟩;have n0_:=Aside0.mk (below_step (by repeat (first|exact HB.out|apply below_alloc|apply pw_below_drewN|apply below_drew1)) hb);clear HB;have HB:=n0_;clear n0_;(try clear hb);(try clear hb2);(try clear hk);(try clear hi)))
  go_ret
  exact ⟨by first|rfl|(simp [*,errW_none,errW_some] <;> rfl),by repeat (first|exact HB.out|apply below_alloc|apply pw_below_drewN|apply below_drew1)⟩
 ·rw [if_neg c5] at H
  have c5b0 : decide (t306 < 0) = false:=decide_eq_false c5
  clear c5
  replace H:=Option.bind_eq_some_iff.mp H
  obtain ⟨t307,A70,H⟩:=H
  replace H : (if t307 < 0 then (some true) else ((laws_toPartS.f k l0).bind fun t308=>((laws_toPartS.f k l1).bind fun t311=>((spec_CarryChange.f k t308 t311 a2).bind fun bt314=>((laws_toPartS.f k l0).bind fun t318=>((laws_toPartS.f k l1).bind fun t321=>((impl_CarryChange.f k t318 t321 a2).bind fun bt324=>((laws_eqPartS.f k bt324.1 bt314.1).bind fun t328=>(if t328 = true then (laws_FnExactCarryChange.j0 k l0 l1 a2 bt314.1 bt314.2 t318 t321 bt324.1 bt324.2 (bt324.2 != bt314.2)) else (laws_FnExactCarryChange.j0 k l0 l1 a2 bt314.1 bt314.2 t318 t321 bt324.1 bt324.2 true)))))))))) = some r:=H
  have A7:=Aside0.mk A70
  clear A70
  by_cases c8 : t307 < 0
  ·rw [if_pos c8] at H
   have c8b0 : decide (t307 < 0) = true:=decide_eq_true c8
   clear c8
   obtain rfl:=Option.some.inj H
   go_enter Try.func11,Try.ntmps11
   go_wp2_with (first|((with_reducible refine gate_callee (f:=15) rfl ?_);refine goesL_ (some 21) rfl rfl Try.func15 (by kernel_rfl) rfl #[.slice A0 l0.length c0,.int .i64 1048576] rfl (by (try simp only [List.map_toArray,List.map_cons,List.map_nil]);first|done|rfl|(simp only [List.length_drop,List.length_take];rfl)) ?_;(with_reducible refine (laws_szPartS.calls k _ _ l0 1048576 t306 _ ?side1 ?side2 A4.out).mono ?_);(case side1=>repeat (first|exact HR0.out|(with_reducible first|apply Kd.C_alloc|apply Kd.C_drewN|apply Kd.C_drew)));(case side2=>exact HC0.out);rintro e w9 ⟨rfl,hb⟩;refine ⟨_,rfl,?_⟩;have n0_:=Aside0.mk (below_step (by repeat (first|exact HB.out|apply below_alloc|apply pw_below_drewN|apply below_drew1)) hb);clear HB;have HB:=n0_;clear n0_;(try clear hb);(try clear hb2);(try clear hk);(try clear hi))|((with_reducible refine gate_callee (f:=15) rfl ?_);refine goesL_ (some 26) rfl rfl Try.func15 (by kernel_rfl) rfl #[.slice A1 l1.length c1,.int .i64 t306] rfl (by (try simp only [List.map_toArray,List.map_cons,List.map_nil]);first|done|rfl|(simp only [List.length_drop,List.length_take];rfl)) ?_;(with_reducible refine (laws_szPartS.calls k _ _ l1 t306 t307 _ ?side1 ?side2 A7.out).mono ?_);(case side1=>repeat (first|exact (Kd.C_below HR1.out HB.out)|(with_reducible first|apply Kd.C_alloc|apply Kd.C_drewN|apply Kd.C_drew)));(case side2=>exact HC1.out);rintro e w10 ⟨rfl,hb⟩;refine ⟨_,rfl,?_⟩;have n0_:=Aside0.mk (below_step (by repeat (first|exact HB.out|apply below_alloc|apply pw_below_drewN|apply below_drew1)) hb);clear HB;have HB:=n0_;clear n0_;(try clear hb);(try clear hb2);(try clear hk);(try clear hi)))
   go_ret
   exact ⟨by first|rfl|(simp [*,errW_none,errW_some] <;> rfl),by repeat (first|exact HB.out|apply below_alloc|apply pw_below_drewN|apply below_drew1)⟩
  ·rw [if_neg c8] at H
   have c8b0 : decide (t307 < 0) = false:=decide_eq_false c8
   clear c8
   replace H:=Option.bind_eq_some_iff.mp H
   obtain ⟨t308,A110,H⟩:=H
   replace H : ((laws_toPartS.f k l1).bind fun t311=>((spec_CarryChange.f k t308 t311 a2).bind fun bt314=>((laws_toPartS.f k l0).bind fun t318=>((laws_toPartS.f k l1).bind fun t321=>((impl_CarryChange.f k t318 t321 a2).bind fun bt324=>((laws_eqPartS.f k bt324.1 bt314.1).bind fun t328=>(if t328 = true then (laws_FnExactCarryChange.j0 k l0 l1 a2 bt314.1 bt314.2 t318 t321 bt324.1 bt324.2 (bt324.2 != bt314.2)) else (laws_FnExactCarryChange.j0 k l0 l1 a2 bt314.1 bt314.2 t318 t321 bt324.1 bt324.2 true)))))))) = some r:=H
   have A11:=Aside0.mk A110
   clear A110
   replace H:=Option.bind_eq_some_iff.mp H
   obtain ⟨t311,A120,H⟩:=H
   replace H : ((spec_CarryChange.f k t308 t311 a2).bind fun bt314=>((laws_toPartS.f k l0).bind fun t318=>((laws_toPartS.f k l1).bind fun t321=>((impl_CarryChange.f k t318 t321 a2).bind fun bt324=>((laws_eqPartS.f k bt324.1 bt314.1).bind fun t328=>(if t328 = true then (laws_FnExactCarryChange.j0 k l0 l1 a2 bt314.1 bt314.2 t318 t321 bt324.1 bt324.2 (bt324.2 != bt314.2)) else (laws_FnExactCarryChange.j0 k l0 l1 a2 bt314.1 bt314.2 t318 t321 bt324.1 bt324.2 true))))))) = some r:=H
   have A12:=Aside0.mk A120
   clear A120
   replace H:=Option.bind_eq_some_iff.mp H
   obtain ⟨⟨t314,t315⟩,A130,H⟩:=H
   replace H : ((laws_toPartS.f k l0).bind fun t318=>((laws_toPartS.f k l1).bind fun t321=>((impl_CarryChange.f k t318 t321 a2).bind fun bt324=>((laws_eqPartS.f k bt324.1 t314).bind fun t328=>(if t328 = true then (laws_FnExactCarryChange.j0 k l0 l1 a2 t314 t315 t318 t321 bt324.1 bt324.2 (bt324.2 != t315)) else (laws_FnExactCarryChange.j0 k l0 l1 a2 t314 t315 t318 t321 bt324.1 bt324.2 true)))))) = some r:=H
   have A13:=Aside0.mk A130
   clear A130
   replace H:=Option.bind_eq_some_iff.mp H
   obtain ⟨t318,A140,H⟩:=H
   replace H : ((laws_toPartS.f k l1).bind fun t321=>((impl_CarryChange.f k t318 t321 a2).bind fun bt324=>((laws_eqPartS.f k bt324.1 t314).bind fun t328=>(if t328 = true then (laws_FnExactCarryChange.j0 k l0 l1 a2 t314 t315 t318 t321 bt324.1 bt324.2 (bt324.2 != t315)) else (laws_FnExactCarryChange.j0 k l0 l1 a2 t314 t315 t318 t321 bt324.1 bt324.2 true))))) = some r:=H
   have A14:=Aside0.mk A140
   clear A140
   replace H:=Option.bind_eq_some_iff.mp H
   obtain ⟨t321,A150,H⟩:=H
   replace H : ((impl_CarryChange.f k t318 t321 a2).bind fun bt324=>((laws_eqPartS.f k bt324.1 t314).bind fun t328=>(if t328 = true then (laws_FnExactCarryChange.j0 k l0 l1 a2 t314 t315 t318 t321 bt324.1 bt324.2 (bt324.2 != t315)) else (laws_FnExactCarryChange.j0 k l0 l1 a2 t314 t315 t318 t321 bt324.1 bt324.2 true)))) = some r:=H
   have A15:=Aside0.mk A150
   clear A150
   replace H:=Option.bind_eq_some_iff.mp H
   obtain ⟨⟨t324,t325⟩,A160,H⟩:=H
   replace H : ((laws_eqPartS.f k t324 t314).bind fun t328=>(if t328 = true then (laws_FnExactCarryChange.j0 k l0 l1 a2 t314 t315 t318 t321 t324 t325 (t325 != t315)) else (laws_FnExactCarryChange.j0 k l0 l1 a2 t314 t315 t318 t321 t324 t325 true))) = some r:=H
   have A16:=Aside0.mk A160
   clear A160
   have HC17:=Aside0.mk H
   clear H
   go_enter Try.func11,Try.ntmps11
   go_upto_region 12 with (first|((with_reducible refine gate_callee (f:=15) rfl ?_);refine goesL_ (some 21) rfl rfl Try.func15 (by kernel_rfl) rfl #[.slice A0 l0.length c0,.int .i64 1048576] rfl (by (try simp only [List.map_toArray,List.map_cons,List.map_nil]);first|done|rfl|(simp only [List.length_drop,List.length_take];rfl)) ?_;(with_reducible refine (laws_szPartS.calls k _ _ l0 1048576 t306 _ ?side1 ?side2 A4.out).mono ?_);(case side1=>repeat (first|exact HR0.out|(with_reducible first|apply Kd.C_alloc|apply Kd.C_drewN|apply Kd.C_drew)));(case side2=>exact HC0.out);rintro e w18 ⟨rfl,hb⟩;refine ⟨_,rfl,?_⟩;have n0_:=Aside0.mk (below_step (by repeat (first|exact HB.out|apply below_alloc|apply pw_below_drewN|apply below_drew1)) hb);clear HB;have HB:=n0_;clear n0_;(try clear hb);(try clear hb2);(try clear hk);(try clear hi))|((with_reducible refine gate_callee (f:=15) rfl ?_);refine goesL_ (some 26) rfl rfl Try.func15 (by kernel_rfl) rfl #[.slice A1 l1.length c1,.int .i64 t306] rfl (by (try simp only [List.map_toArray,List.map_cons,List.map_nil]);first|done|rfl|(simp only [List.length_drop,List.length_take];rfl)) ?_;(with_reducible refine (laws_szPartS.calls k _ _ l1 t306 t307 _ ?side1 ?side2 A7.out).mono ?_);(case side1=>repeat (first|exact (Kd.C_below HR1.out HB.out)|(with_reducible first|apply Kd.C_alloc|apply Kd.C_drewN|apply Kd.C_drew)));(case side2=>exact HC1.out);rintro e w19 ⟨rfl,hb⟩;refine ⟨_,rfl,?_⟩;have n0_:=Aside0.mk (below_step (by repeat (first|exact HB.out|apply below_alloc|apply pw_below_drewN|apply below_drew1)) hb);clear HB;have HB:=n0_;clear n0_;(try clear hb);(try clear hb2);(try clear hk);(try clear hi))|((with_reducible refine gate_callee (f:=17) rfl ?_);refine goesL_ (some 31) rfl rfl Try.func17 (by kernel_rfl) rfl #[.slice A0 l0.length c0] rfl (by (try simp only [List.map_toArray,List.map_cons,List.map_nil]);first|done|rfl|(simp only [List.length_drop,List.length_take];rfl)) ?_;(with_reducible refine (laws_toPartS.calls k _ _ l0 t308 _ ?side1 ?side2 A11.out).mono ?_);(case side1=>repeat (first|exact (Kd.C_below HR0.out HB.out)|(with_reducible first|apply Kd.C_alloc|apply Kd.C_drewN|apply Kd.C_drew)));(case side2=>exact HC0.out);rintro e w20 ⟨v309,rfl,ho0,hb⟩;refine ⟨_,rfl,?_⟩;have n0_:=Aside0.mk (Kd.R_lower ho0 (below_size (by repeat (first|exact HB.out|apply below_alloc|apply pw_below_drewN|apply below_drew1))));have n1_:=Aside0.mk (below_step (by repeat (first|exact HB.out|apply below_alloc|apply pw_below_drewN|apply below_drew1)) hb);clear HB;have HO310:=n0_;have HB:=n1_;clear n0_ n1_;(try clear hb);(try clear hb2);(try clear hk);(try clear hi);(try clear ho0))|((with_reducible refine gate_callee (f:=17) rfl ?_);refine goesL_ (some 33) rfl rfl Try.func17 (by kernel_rfl) rfl #[.slice A1 l1.length c1] rfl (by (try simp only [List.map_toArray,List.map_cons,List.map_nil]);first|done|rfl|(simp only [List.length_drop,List.length_take];rfl)) ?_;(with_reducible refine (laws_toPartS.calls k _ _ l1 t311 _ ?side1 ?side2 A12.out).mono ?_);(case side1=>repeat (first|exact (Kd.C_below HR1.out HB.out)|(with_reducible first|apply Kd.C_alloc|apply Kd.C_drewN|apply Kd.C_drew)));(case side2=>exact HC1.out);rintro e w21 ⟨v312,rfl,ho0,hb⟩;refine ⟨_,rfl,?_⟩;have n0_:=Aside0.mk (Kd.R_elder' (by (with_reducible repeat (first|apply Kd.R_alloc|apply Kd.R_drewN|apply Kd.R_drew));exact HO310.out) (Kd.R_base ho0) hb);have n1_:=Aside0.mk (Kd.R_lower (Kd.R_new' ho0 (Kd.R_lt (by (with_reducible repeat (first|apply Kd.R_alloc|apply Kd.R_drewN|apply Kd.R_drew));exact HO310.out))) (below_size (by repeat (first|exact HB.out|apply below_alloc|apply pw_below_drewN|apply below_drew1))));have n2_:=Aside0.mk (below_step (by repeat (first|exact HB.out|apply below_alloc|apply pw_below_drewN|apply below_drew1)) hb);clear HO310;clear HB;have HO310:=n0_;have HO313:=n1_;have HB:=n2_;clear n0_ n1_ n2_;(try clear hb);(try clear hb2);(try clear hk);(try clear hi);(try clear ho0);obtain ⟨Ao22,co22,eo22⟩:=Kd.R_slice HO310.out;subst eo22;obtain ⟨Ao23,co23,eo23⟩:=Kd.R_slice HO313.out;subst eo23)|((with_reducible refine gate_callee (f:=40) rfl ?_);refine goesL_ (some 35) rfl rfl Try.func40 (by kernel_rfl) rfl #[.slice Ao22 t308.length co22,.slice Ao23 t311.length co23,.bool a2] rfl (by (try simp only [List.map_toArray,List.map_cons,List.map_nil]);first|done|rfl|(simp only [List.length_drop,List.length_take];rfl)) ?_;(with_reducible refine (spec_CarryChange.calls k _ _ t308 _ _ t311 a2 t314 t315 _ ?side1 ?side2 ?side3 ?side4 A13.out).mono ?_);(case side1=>repeat (first|exact (Kd.R_reads' HO310.out).2.2|(with_reducible first|apply Kd.C_alloc|apply Kd.C_drewN|apply Kd.C_drew)));(case side2=>exact (Kd.R_reads' HO310.out).2.1);(case side3=>repeat (first|exact (Kd.R_reads' HO313.out).2.2|(with_reducible first|apply Kd.C_alloc|apply Kd.C_drewN|apply Kd.C_drew)));(case side4=>exact (Kd.R_reads' HO313.out).2.1);rintro e w24 ⟨v316,rfl,ho0,hb⟩;refine ⟨_,rfl,?_⟩;have n0_:=Aside0.mk (Kd.R_elder' (by (with_reducible repeat (first|apply Kd.R_alloc|apply Kd.R_drewN|apply Kd.R_drew));exact HO310.out) (Kd.R_base ho0) hb);have n1_:=Aside0.mk (Kd.R_elder' (by (with_reducible repeat (first|apply Kd.R_alloc|apply Kd.R_drewN|apply Kd.R_drew));exact HO313.out) (Kd.R_base ho0) hb);have n2_:=Aside0.mk (Kd.R_lower (Kd.R_new' (Kd.R_new' ho0 (Kd.R_lt (by (with_reducible repeat (first|apply Kd.R_alloc|apply Kd.R_drewN|apply Kd.R_drew));exact HO310.out))) (Kd.R_lt (by (with_reducible repeat (first|apply Kd.R_alloc|apply Kd.R_drewN|apply Kd.R_drew));exact HO313.out))) (below_size (by repeat (first|exact HB.out|apply below_alloc|apply pw_below_drewN|apply below_drew1))));have n3_:=Aside0.mk (below_step (by repeat (first|exact HB.out|apply below_alloc|apply pw_below_drewN|apply below_drew1)) hb);clear HO310;clear HO313;clear HB;have HO310:=n0_;have HO313:=n1_;have HO317:=n2_;have HB:=n3_;clear n0_ n1_ n2_ n3_;(try clear hb);(try clear hb2);(try clear hk);(try clear hi);(try clear ho0))|((with_reducible refine gate_callee (f:=17) rfl ?_);refine goesL_ (some 39) rfl rfl Try.func17 (by kernel_rfl) rfl #[.slice A0 l0.length c0] rfl (by (try simp only [List.map_toArray,List.map_cons,List.map_nil]);first|done|rfl|(simp only [List.length_drop,List.length_take];rfl)) ?_;(with_reducible refine (laws_toPartS.calls k _ _ l0 t318 _ ?side1 ?side2 A14.out).mono ?_);(case side1=>repeat (first|exact (Kd.C_below HR0.out HB.out)|(with_reducible first|apply Kd.C_alloc|apply Kd.C_drewN|apply Kd.C_drew)));(case side2=>exact HC0.out);rintro e w25 ⟨v319,rfl,ho0,hb⟩;refine ⟨_,rfl,?_⟩;have n0_:=Aside0.mk (Kd.R_elder' (by (with_reducible repeat (first|apply Kd.R_alloc|apply Kd.R_drewN|apply Kd.R_drew));exact HO310.out) (Kd.R_base ho0) hb);have n1_:=Aside0.mk (Kd.R_elder' (by (with_reducible repeat (first|apply Kd.R_alloc|apply Kd.R_drewN|apply Kd.R_drew));exact HO313.out) (Kd.R_base ho0) hb);have n2_:=Aside0.mk (Kd.R_elder' (by (with_reducible repeat (first|apply Kd.R_alloc|apply Kd.R_drewN|apply Kd.R_drew));exact HO317.out) (Kd.R_base ho0) hb);have n3_:=Aside0.mk (Kd.R_lower (Kd.R_new' (Kd.R_new' (Kd.R_new' ho0 (Kd.R_lt (by (with_reducible repeat (first|apply Kd.R_alloc|apply Kd.R_drewN|apply Kd.R_drew));exact HO310.out))) (Kd.R_lt (by (with_reducible repeat (first|apply Kd.R_alloc|apply Kd.R_drewN|apply Kd.R_drew));exact HO313.out))) (Kd.R_lt (by (with_reducible repeat (first|apply Kd.R_alloc|apply Kd.R_drewN|apply Kd.R_drew));exact HO317.out))) (below_size (by repeat (first|exact HB.out|apply below_alloc|apply pw_below_drewN|apply below_drew1))));have n4_:=Aside0.mk (below_step (by repeat (first|exact HB.out|apply below_alloc|apply pw_below_drewN|apply below_drew1)) hb);clear HO310;clear HO313;clear HO317;clear HB;have HO310:=n0_;have HO313:=n1_;have HO317:=n2_;have HO320:=n3_;have HB:=n4_;clear n0_ n1_ n2_ n3_ n4_;(try clear hb);(try clear hb2);(try clear hk);(try clear hi);(try clear ho0))|((with_reducible refine gate_callee (f:=17) rfl ?_);refine goesL_ (some 41) rfl rfl Try.func17 (by kernel_rfl) rfl #[.slice A1 l1.length c1] rfl (by (try simp only [List.map_toArray,List.map_cons,List.map_nil]);first|done|rfl|(simp only [List.length_drop,List.length_take];rfl)) ?_;(with_reducible refine (laws_toPartS.calls k _ _ l1 t321 _ ?side1 ?side2 A15.out).mono ?_);(case side1=>repeat (first|exact (Kd.C_below HR1.out HB.out)|(with_reducible first|apply Kd.C_alloc|apply Kd.C_drewN|apply Kd.C_drew)));(case side2=>exact HC1.out);rintro e w26 ⟨v322,rfl,ho0,hb⟩;refine ⟨_,rfl,?_⟩;have n0_:=Aside0.mk (Kd.R_elder' (by (with_reducible repeat (first|apply Kd.R_alloc|apply Kd.R_drewN|apply Kd.R_drew));exact HO310.out) (Kd.R_base ho0) hb);have n1_:=Aside0.mk (Kd.R_elder' (by (with_reducible repeat (first|apply Kd.R_alloc|apply Kd.R_drewN|apply Kd.R_drew));exact HO313.out) (Kd.R_base ho0) hb);have n2_:=Aside0.mk (Kd.R_elder' (by (with_reducible repeat (first|apply Kd.R_alloc|apply Kd.R_drewN|apply Kd.R_drew));exact HO317.out) (Kd.R_base ho0) hb);have n3_:=Aside0.mk (Kd.R_elder' (by (with_reducible repeat (first|apply Kd.R_alloc|apply Kd.R_drewN|apply Kd.R_drew));exact HO320.out) (Kd.R_base ho0) hb);have n4_:=Aside0.mk (Kd.R_lower (Kd.R_new' (Kd.R_new' (Kd.R_new' (Kd.R_new' ho0 (Kd.R_lt (by (with_reducible repeat (first|apply Kd.R_alloc|apply Kd.R_drewN|apply Kd.R_drew));exact HO310.out))) (Kd.R_lt (by (with_reducible repeat (first|apply Kd.R_alloc|apply Kd.R_drewN|apply Kd.R_drew));exact HO313.out))) (Kd.R_lt (by (with_reducible repeat (first|apply Kd.R_alloc|apply Kd.R_drewN|apply Kd.R_drew));exact HO317.out))) (Kd.R_lt (by (with_reducible repeat (first|apply Kd.R_alloc|apply Kd.R_drewN|apply Kd.R_drew));exact HO320.out))) (below_size (by repeat (first|exact HB.out|apply below_alloc|apply pw_below_drewN|apply below_drew1))));have n5_:=Aside0.mk (below_step (by repeat (first|exact HB.out|apply below_alloc|apply pw_below_drewN|apply below_drew1)) hb);clear HO310;clear HO313;clear HO317;clear HO320;clear HB;have HO310:=n0_;have HO313:=n1_;have HO317:=n2_;have HO320:=n3_;have HO323:=n4_;have HB:=n5_;clear n0_ n1_ n2_ n3_ n4_ n5_;(try clear hb);(try clear hb2);(try clear hk);(try clear hi);(try clear ho0);obtain ⟨Ao27,co27,eo27⟩:=Kd.R_slice HO320.out;subst eo27;obtain ⟨Ao28,co28,eo28⟩:=Kd.R_slice HO323.out;subst eo28)|((with_reducible refine gate_callee (f:=41) rfl ?_);refine goesL_ (some 46) rfl rfl Try.func41 (by kernel_rfl) rfl #[.slice Ao27 t318.length co27,.slice Ao28 t321.length co28,.bool a2] rfl (by (try simp only [List.map_toArray,List.map_cons,List.map_nil]);first|done|rfl|(simp only [List.length_drop,List.length_take];rfl)) ?_;(with_reducible refine (impl_CarryChange.calls k _ _ t318 _ _ t321 a2 t324 t325 _ ?side1 ?side2 ?side3 ?side4 A16.out).mono ?_);(case side1=>repeat (first|exact (Kd.R_reads' HO320.out).2.2|(with_reducible first|apply Kd.C_alloc|apply Kd.C_drewN|apply Kd.C_drew)));(case side2=>exact (Kd.R_reads' HO320.out).2.1);(case side3=>repeat (first|exact (Kd.R_reads' HO323.out).2.2|(with_reducible first|apply Kd.C_alloc|apply Kd.C_drewN|apply Kd.C_drew)));(case side4=>exact (Kd.R_reads' HO323.out).2.1);rintro e w29 ⟨v326,rfl,ho0,hb⟩;refine ⟨_,rfl,?_⟩;have n0_:=Aside0.mk (Kd.R_elder' (by (with_reducible repeat (first|apply Kd.R_alloc|apply Kd.R_drewN|apply Kd.R_drew));exact HO310.out) (Kd.R_base ho0) hb);have n1_:=Aside0.mk (Kd.R_elder' (by (with_reducible repeat (first|apply Kd.R_alloc|apply Kd.R_drewN|apply Kd.R_drew));exact HO313.out) (Kd.R_base ho0) hb);have n2_:=Aside0.mk (Kd.R_elder' (by (with_reducible repeat (first|apply Kd.R_alloc|apply Kd.R_drewN|apply Kd.R_drew));exact HO317.out) (Kd.R_base ho0) hb);have n3_:=Aside0.mk (Kd.R_elder' (by (with_reducible repeat (first|apply Kd.R_alloc|apply Kd.R_drewN|apply Kd.R_drew));exact HO320.out) (Kd.R_base ho0) hb);have n4_:=Aside0.mk (Kd.R_elder' (by (with_reducible repeat (first|apply Kd.R_alloc|apply Kd.R_drewN|apply Kd.R_drew));exact HO323.out) (Kd.R_base ho0) hb);have n5_:=Aside0.mk (Kd.R_lower (Kd.R_new' (Kd.R_new' (Kd.R_new' (Kd.R_new' (Kd.R_new' ho0 (Kd.R_lt (by (with_reducible repeat (first|apply Kd.R_alloc|apply Kd.R_drewN|apply Kd.R_drew));exact HO310.out))) (Kd.R_lt (by (with_reducible repeat (first|apply Kd.R_alloc|apply Kd.R_drewN|apply Kd.R_drew));exact HO313.out))) (Kd.R_lt (by (with_reducible repeat (first|apply Kd.R_alloc|apply Kd.R_drewN|apply Kd.R_drew));exact HO317.out))) (Kd.R_lt (by (with_reducible repeat (first|apply Kd.R_alloc|apply Kd.R_drewN|apply Kd.R_drew));exact HO320.out))) (Kd.R_lt (by (with_reducible repeat (first|apply Kd.R_alloc|apply Kd.R_drewN|apply Kd.R_drew));exact HO323.out))) (below_size (by repeat (first|exact HB.out|apply below_alloc|apply pw_below_drewN|apply below_drew1))));have n6_:=Aside0.mk (below_step (by repeat (first|exact HB.out|apply below_alloc|apply pw_below_drewN|apply below_drew1)) hb);clear HO310;clear HO313;clear HO317;clear HO320;clear HO323;clear HB;have HO310:=n0_;have HO313:=n1_;have HO317:=n2_;have HO320:=n3_;have HO323:=n4_;have HO327:=n5_;have HB:=n6_;clear n0_ n1_ n2_ n3_ n4_ n5_ n6_;(try clear hb);(try clear hb2);(try clear hk);(try clear hi);(try clear ho0)))
   (try simp only [Act.put,List.setIfInBounds_toArray,List.set_cons_zero,List.set_cons_succ])
   go_cut [57] (fun v57 wc=>∃ (kq : Nat) (x57_16 : Bool),v57 = .bool x57_16∧Aside0 (laws_FnExactCarryChange.j0 kq l0 l1 a2 t314 t315 t318 t321 t324 t325 x57_16 = some r)∧Aside0 (kq ≤ k)∧Aside0 (Kd.R k74 74 wc w.heap.size (fun k_=>some k_ ≠ ((.slice Ao27 t318.length co27) : Value).ownBlock∧some k_ ≠ ((.slice Ao28 t321.length co28) : Value).ownBlock∧some k_ ≠ (v326 : Value).ownBlock) v316 t314)∧Aside0 (Kd.R k74 74 wc w.heap.size (fun k_=>some k_ ≠ (v316 : Value).ownBlock∧some k_ ≠ ((.slice Ao28 t321.length co28) : Value).ownBlock∧some k_ ≠ (v326 : Value).ownBlock) (.slice Ao27 t318.length co27) t318)∧Aside0 (Kd.R k74 74 wc w.heap.size (fun k_=>some k_ ≠ (v316 : Value).ownBlock∧some k_ ≠ ((.slice Ao27 t318.length co27) : Value).ownBlock∧some k_ ≠ (v326 : Value).ownBlock) (.slice Ao28 t321.length co28) t321)∧Aside0 (Kd.R k74 74 wc w.heap.size (fun k_=>some k_ ≠ (v316 : Value).ownBlock∧some k_ ≠ ((.slice Ao27 t318.length co27) : Value).ownBlock∧some k_ ≠ ((.slice Ao28 t321.length co28) : Value).ownBlock) v326 t324)∧Aside0 (Below w.heap.size w wc))
   case first =>
    have H:=HC17.out
    clear HC17
    replace H:=Option.bind_eq_some_iff.mp H
    obtain ⟨t328,A300,H⟩:=H
    replace H : (if t328 = true then (laws_FnExactCarryChange.j0 k l0 l1 a2 t314 t315 t318 t321 t324 t325 (t325 != t315)) else (laws_FnExactCarryChange.j0 k l0 l1 a2 t314 t315 t318 t321 t324 t325 true)) = some r:=H
    have A30:=Aside0.mk A300
    clear A300
    by_cases c31 : t328 = true
    ·subst c31
     have H1 : (laws_FnExactCarryChange.j0 k l0 l1 a2 t314 t315 t318 t321 t324 t325 (t325 != t315)) = some r:=by rw [if_pos rfl] at H;exact H
     clear H
     have H:=H1
     clear H1
     have H':=Aside0.mk H
     clear H
     obtain ⟨Ao32,co32,eo32⟩:=Kd.R_slice HO327.out
     subst eo32
     obtain ⟨Ao33,co33,eo33⟩:=Kd.R_slice HO317.out
     subst eo33
     go_wp2_with (first|((with_reducible refine gate_callee (f:=19) rfl ?_);refine goesL_ (some 51) rfl rfl Try.func19 (by kernel_rfl) rfl #[.slice Ao32 t324.length co32,.slice Ao33 t314.length co33] rfl (by (try simp only [List.map_toArray,List.map_cons,List.map_nil]);first|done|rfl|(simp only [List.length_drop,List.length_take];rfl)) ?_;(with_reducible refine (laws_eqPartS.calls k _ _ t324 _ _ t314 true _ ?side1 ?side2 ?side3 ?side4 A30.out).mono ?_);(case side1=>repeat (first|exact (Kd.R_reads' HO327.out).2.2|(with_reducible first|apply Kd.C_alloc|apply Kd.C_drewN|apply Kd.C_drew)));(case side2=>exact (Kd.R_reads' HO327.out).2.1);(case side3=>repeat (first|exact (Kd.R_reads' HO317.out).2.2|(with_reducible first|apply Kd.C_alloc|apply Kd.C_drewN|apply Kd.C_drew)));(case side4=>exact (Kd.R_reads' HO317.out).2.1);rintro e w34 ⟨rfl,hb⟩;refine ⟨_,rfl,?_⟩;have n0_:=Aside0.mk (Kd.R_below (by (with_reducible repeat (first|apply Kd.R_alloc|apply Kd.R_drewN|apply Kd.R_drew));exact HO310.out) hb);have n1_:=Aside0.mk (Kd.R_below (by (with_reducible repeat (first|apply Kd.R_alloc|apply Kd.R_drewN|apply Kd.R_drew));exact HO313.out) hb);have n2_:=Aside0.mk (Kd.R_below (by (with_reducible repeat (first|apply Kd.R_alloc|apply Kd.R_drewN|apply Kd.R_drew));exact HO317.out) hb);have n3_:=Aside0.mk (Kd.R_below (by (with_reducible repeat (first|apply Kd.R_alloc|apply Kd.R_drewN|apply Kd.R_drew));exact HO320.out) hb);have n4_:=Aside0.mk (Kd.R_below (by (with_reducible repeat (first|apply Kd.R_alloc|apply Kd.R_drewN|apply Kd.R_drew));exact HO323.out) hb);have n5_:=Aside0.mk (Kd.R_below (by (with_reducible repeat (first|apply Kd.R_alloc|apply Kd.R_drewN|apply Kd.R_drew));exact HO327.out) hb);have n6_:=Aside0.mk (below_step (by repeat (first|exact HB.out|apply below_alloc|apply pw_below_drewN|apply below_drew1)) hb);clear HO310;clear HO313;clear HO317;clear HO320;clear HO323;clear HO327;clear HB;have HO310:=n0_;have HO313:=n1_;have HO317:=n2_;have HO320:=n3_;have HO323:=n4_;have HO327:=n5_;have HB:=n6_;clear n0_ n1_ n2_ n3_ n4_ n5_ n6_;(try clear hb);(try clear hb2);(try clear hk);(try clear hi)))
     go_meet
     case rel=>exact ⟨_,((t325 != t315)),(by first|rfl|(simp;done)|(simp [*];done)),H',⟨by first|omega|exact Nat.le_refl _⟩,⟨by (with_reducible repeat (first|apply Kd.R_alloc|apply Kd.R_drewN|apply Kd.R_drew));exact Kd.R_mono HO317.out (fun _ hk=>⟨hk.1.1.2,⟨hk.1.2,hk.2⟩⟩)⟩,⟨by (with_reducible repeat (first|apply Kd.R_alloc|apply Kd.R_drewN|apply Kd.R_drew));exact Kd.R_mono HO320.out (fun _ hk=>⟨hk.1.1.2,⟨hk.1.2,hk.2⟩⟩)⟩,⟨by (with_reducible repeat (first|apply Kd.R_alloc|apply Kd.R_drewN|apply Kd.R_drew));exact Kd.R_mono HO323.out (fun _ hk=>⟨hk.1.1.2,⟨hk.1.2,hk.2⟩⟩)⟩,⟨by (with_reducible repeat (first|apply Kd.R_alloc|apply Kd.R_drewN|apply Kd.R_drew));exact Kd.R_mono HO327.out (fun _ hk=>⟨hk.1.1.2,⟨hk.1.2,hk.2⟩⟩)⟩,⟨by repeat (first|exact HB.out|apply below_alloc|apply pw_below_drewN|apply below_drew1)⟩⟩
    ·replace c31:=Bool.eq_false_iff.mpr c31
     subst c31
     have H1 : (laws_FnExactCarryChange.j0 k l0 l1 a2 t314 t315 t318 t321 t324 t325 true) = some r:=by rw [if_neg (show ¬ (false = true) by decide)] at H;exact H
     clear H
     have H:=H1
     clear H1
     have H':=Aside0.mk H
     clear H
     obtain ⟨Ao35,co35,eo35⟩:=Kd.R_slice HO327.out
     subst eo35
     obtain ⟨Ao36,co36,eo36⟩:=Kd.R_slice HO317.out
     subst eo36
     go_wp2_with (first|((with_reducible refine gate_callee (f:=19) rfl ?_);refine goesL_ (some 51) rfl rfl Try.func19 (by kernel_rfl) rfl #[.slice Ao35 t324.length co35,.slice Ao36 t314.length co36] rfl (by (try simp only [List.map_toArray,List.map_cons,List.map_nil]);first|done|rfl|(simp only [List.length_drop,List.length_take];rfl)) ?_;(with_reducible refine (laws_eqPartS.calls k _ _ t324 _ _ t314 false _ ?side1 ?side2 ?side3 ?side4 A30.out).mono ?_);(case side1=>repeat (first|exact (Kd.R_reads' HO327.out).2.2|(with_reducible first|apply Kd.C_alloc|apply Kd.C_drewN|apply Kd.C_drew)));(case side2=>exact (Kd.R_reads' HO327.out).2.1);(case side3=>repeat (first|exact (Kd.R_reads' HO317.out).2.2|(with_reducible first|apply Kd.C_alloc|apply Kd.C_drewN|apply Kd.C_drew)));(case side4=>exact (Kd.R_reads' HO317.out).2.1);rintro e w37 ⟨rfl,hb⟩;refine ⟨_,rfl,?_⟩;have n0_:=Aside0.mk (Kd.R_below (by (with_reducible repeat (first|apply Kd.R_alloc|apply Kd.R_drewN|apply Kd.R_drew));exact HO310.out) hb);have n1_:=Aside0.mk (Kd.R_below (by (with_reducible repeat (first|apply Kd.R_alloc|apply Kd.R_drewN|apply Kd.R_drew));exact HO313.out) hb);have n2_:=Aside0.mk (Kd.R_below (by (with_reducible repeat (first|apply Kd.R_alloc|apply Kd.R_drewN|apply Kd.R_drew));exact HO317.out) hb);have n3_:=Aside0.mk (Kd.R_below (by (with_reducible repeat (first|apply Kd.R_alloc|apply Kd.R_drewN|apply Kd.R_drew));exact HO320.out) hb);have n4_:=Aside0.mk (Kd.R_below (by (with_reducible repeat (first|apply Kd.R_alloc|apply Kd.R_drewN|apply Kd.R_drew));exact HO323.out) hb);have n5_:=Aside0.mk (Kd.R_below (by (with_reducible repeat (first|apply Kd.R_alloc|apply Kd.R_drewN|apply Kd.R_drew));exact HO327.out) hb);have n6_:=Aside0.mk (below_step (by repeat (first|exact HB.out|apply below_alloc|apply pw_below_drewN|apply below_drew1)) hb);clear HO310;clear HO313;clear HO317;clear HO320;clear HO323;clear HO327;clear HB;have HO310:=n0_;have HO313:=n1_;have HO317:=n2_;have HO320:=n3_;have HO323:=n4_;have HO327:=n5_;have HB:=n6_;clear n0_ n1_ n2_ n3_ n4_ n5_ n6_;(try clear hb);(try clear hb2);(try clear hk);(try clear hi)))
     go_meet
     case rel=>exact ⟨_,(true),(by first|rfl|(simp;done)|(simp [*];done)),H',⟨by first|omega|exact Nat.le_refl _⟩,⟨by (with_reducible repeat (first|apply Kd.R_alloc|apply Kd.R_drewN|apply Kd.R_drew));exact Kd.R_mono HO317.out (fun _ hk=>⟨hk.1.1.2,⟨hk.1.2,hk.2⟩⟩)⟩,⟨by (with_reducible repeat (first|apply Kd.R_alloc|apply Kd.R_drewN|apply Kd.R_drew));exact Kd.R_mono HO320.out (fun _ hk=>⟨hk.1.1.2,⟨hk.1.2,hk.2⟩⟩)⟩,⟨by (with_reducible repeat (first|apply Kd.R_alloc|apply Kd.R_drewN|apply Kd.R_drew));exact Kd.R_mono HO323.out (fun _ hk=>⟨hk.1.1.2,⟨hk.1.2,hk.2⟩⟩)⟩,⟨by (with_reducible repeat (first|apply Kd.R_alloc|apply Kd.R_drewN|apply Kd.R_drew));exact Kd.R_mono HO327.out (fun _ hk=>⟨hk.1.1.2,⟨hk.1.2,hk.2⟩⟩)⟩,⟨by repeat (first|exact HB.out|apply below_alloc|apply pw_below_drewN|apply below_drew1)⟩⟩
   case rest =>
    clear HC17
    try clear c1;try clear p2;try clear c3;try clear c4;try clear c5;try clear c5b0;try clear c8;try clear c8b0;try clear c11;try clear c15;try clear c17;try clear c19;try clear c31
    obtain ⟨kq,x57_16,rfl,HA,HJ16,HO_8,HO_10,HO_11,HO_12,HB⟩:=hcut
    cases kq with
    | zero=>exact absurd HA.out (by simp [laws_FnExactCarryChange.j0])
    | succ kj16 =>
     have H:=HA.out
     clear HA
     simp only [laws_FnExactCarryChange.j0] at H
     by_cases c38 : x57_16 = true
     ·subst c38
      have H1 : (some false) = some r:=by rw [if_pos rfl] at H;exact H
      clear H
      have H:=H1
      clear H1
      obtain rfl:=Option.some.inj H
      go_wp2
      go_ret
      exact ⟨by first|rfl|(simp [*,errW_none,errW_some] <;> rfl),by repeat (first|exact HB.out|apply below_alloc|apply pw_below_drewN|apply below_drew1)⟩
     ·replace c38:=Bool.eq_false_iff.mpr c38
      subst c38
      have H1 : ((laws_toPartS.f kj16 l0).bind fun t329=>((laws_eqPartS.f kj16 t318 t329).bind fun t332=>(if t332 = true then ((laws_toPartS.f kj16 l1).bind fun t333=>((laws_eqPartS.f kj16 t321 t333).bind fun t336=>(if t336 = true then ((laws_markPartS.f kj16 t318 1).bind fun bt337=>((laws_markPartS.f kj16 t321 bt337.1).bind fun bt339=>(if bt339.1 < 0 then (laws_FnExactCarryChange.j1 kj16 l0 l1 a2 t314 t315 t324 true) else ((laws_eqPartS.f kj16 t324 t314).bind fun t341=>(if t341 = true then (laws_FnExactCarryChange.j1 kj16 l0 l1 a2 t314 t315 t324 (t325 != t315)) else (laws_FnExactCarryChange.j1 kj16 l0 l1 a2 t314 t315 t324 true)))))) else (some false)))) else (some false)))) = some r:=by rw [if_neg (show ¬ (false = true) by decide)] at H;exact H
      clear H
      have H:=H1
      clear H1
      replace H:=Option.bind_eq_some_iff.mp H
      obtain ⟨t329,A390,H⟩:=H
      replace H : ((laws_eqPartS.f kj16 t318 t329).bind fun t332=>(if t332 = true then ((laws_toPartS.f kj16 l1).bind fun t333=>((laws_eqPartS.f kj16 t321 t333).bind fun t336=>(if t336 = true then ((laws_markPartS.f kj16 t318 1).bind fun bt337=>((laws_markPartS.f kj16 t321 bt337.1).bind fun bt339=>(if bt339.1 < 0 then (laws_FnExactCarryChange.j1 kj16 l0 l1 a2 t314 t315 t324 true) else ((laws_eqPartS.f kj16 t324 t314).bind fun t341=>(if t341 = true then (laws_FnExactCarryChange.j1 kj16 l0 l1 a2 t314 t315 t324 (t325 != t315)) else (laws_FnExactCarryChange.j1 kj16 l0 l1 a2 t314 t315 t324 true)))))) else (some false)))) else (some false))) = some r:=H
      have A39:=Aside0.mk A390
      clear A390
      replace H:=Option.bind_eq_some_iff.mp H
      obtain ⟨t332,A400,H⟩:=H
      replace H : (if t332 = true then ((laws_toPartS.f kj16 l1).bind fun t333=>((laws_eqPartS.f kj16 t321 t333).bind fun t336=>(if t336 = true then ((laws_markPartS.f kj16 t318 1).bind fun bt337=>((laws_markPartS.f kj16 t321 bt337.1).bind fun bt339=>(if bt339.1 < 0 then (laws_FnExactCarryChange.j1 kj16 l0 l1 a2 t314 t315 t324 true) else ((laws_eqPartS.f kj16 t324 t314).bind fun t341=>(if t341 = true then (laws_FnExactCarryChange.j1 kj16 l0 l1 a2 t314 t315 t324 (t325 != t315)) else (laws_FnExactCarryChange.j1 kj16 l0 l1 a2 t314 t315 t324 true)))))) else (some false)))) else (some false)) = some r:=H
      have A40:=Aside0.mk A400
      clear A400
      by_cases c41 : t332 = true
      ·subst c41
       have H1 : ((laws_toPartS.f kj16 l1).bind fun t333=>((laws_eqPartS.f kj16 t321 t333).bind fun t336=>(if t336 = true then ((laws_markPartS.f kj16 t318 1).bind fun bt337=>((laws_markPartS.f kj16 t321 bt337.1).bind fun bt339=>(if bt339.1 < 0 then (laws_FnExactCarryChange.j1 kj16 l0 l1 a2 t314 t315 t324 true) else ((laws_eqPartS.f kj16 t324 t314).bind fun t341=>(if t341 = true then (laws_FnExactCarryChange.j1 kj16 l0 l1 a2 t314 t315 t324 (t325 != t315)) else (laws_FnExactCarryChange.j1 kj16 l0 l1 a2 t314 t315 t324 true)))))) else (some false)))) = some r:=by rw [if_pos rfl] at H;exact H
       clear H
       have H:=H1
       clear H1
       replace H:=Option.bind_eq_some_iff.mp H
       obtain ⟨t333,A420,H⟩:=H
       replace H : ((laws_eqPartS.f kj16 t321 t333).bind fun t336=>(if t336 = true then ((laws_markPartS.f kj16 t318 1).bind fun bt337=>((laws_markPartS.f kj16 t321 bt337.1).bind fun bt339=>(if bt339.1 < 0 then (laws_FnExactCarryChange.j1 kj16 l0 l1 a2 t314 t315 t324 true) else ((laws_eqPartS.f kj16 t324 t314).bind fun t341=>(if t341 = true then (laws_FnExactCarryChange.j1 kj16 l0 l1 a2 t314 t315 t324 (t325 != t315)) else (laws_FnExactCarryChange.j1 kj16 l0 l1 a2 t314 t315 t324 true)))))) else (some false))) = some r:=H
       have A42:=Aside0.mk A420
       clear A420
       replace H:=Option.bind_eq_some_iff.mp H
       obtain ⟨t336,A430,H⟩:=H
       replace H : (if t336 = true then ((laws_markPartS.f kj16 t318 1).bind fun bt337=>((laws_markPartS.f kj16 t321 bt337.1).bind fun bt339=>(if bt339.1 < 0 then (laws_FnExactCarryChange.j1 kj16 l0 l1 a2 t314 t315 t324 true) else ((laws_eqPartS.f kj16 t324 t314).bind fun t341=>(if t341 = true then (laws_FnExactCarryChange.j1 kj16 l0 l1 a2 t314 t315 t324 (t325 != t315)) else (laws_FnExactCarryChange.j1 kj16 l0 l1 a2 t314 t315 t324 true)))))) else (some false)) = some r:=H
       have A43:=Aside0.mk A430
       clear A430
       by_cases c44 : t336 = true
       ·subst c44
        have H1 : ((laws_markPartS.f kj16 t318 1).bind fun bt337=>((laws_markPartS.f kj16 t321 bt337.1).bind fun bt339=>(if bt339.1 < 0 then (laws_FnExactCarryChange.j1 kj16 l0 l1 a2 t314 t315 t324 true) else ((laws_eqPartS.f kj16 t324 t314).bind fun t341=>(if t341 = true then (laws_FnExactCarryChange.j1 kj16 l0 l1 a2 t314 t315 t324 (t325 != t315)) else (laws_FnExactCarryChange.j1 kj16 l0 l1 a2 t314 t315 t324 true)))))) = some r:=by rw [if_pos rfl] at H;exact H
        clear H
        have H:=H1
        clear H1
        replace H:=Option.bind_eq_some_iff.mp H
        obtain ⟨⟨t337,t338⟩,A450,H⟩:=H
        replace H : ((laws_markPartS.f kj16 t321 t337).bind fun bt339=>(if bt339.1 < 0 then (laws_FnExactCarryChange.j1 kj16 l0 l1 a2 t314 t315 t324 true) else ((laws_eqPartS.f kj16 t324 t314).bind fun t341=>(if t341 = true then (laws_FnExactCarryChange.j1 kj16 l0 l1 a2 t314 t315 t324 (t325 != t315)) else (laws_FnExactCarryChange.j1 kj16 l0 l1 a2 t314 t315 t324 true))))) = some r:=H
        have A45:=Aside0.mk A450
        clear A450
        replace H:=Option.bind_eq_some_iff.mp H
        obtain ⟨⟨t339,t340⟩,A460,H⟩:=H
        replace H : (if t339 < 0 then (laws_FnExactCarryChange.j1 kj16 l0 l1 a2 t314 t315 t324 true) else ((laws_eqPartS.f kj16 t324 t314).bind fun t341=>(if t341 = true then (laws_FnExactCarryChange.j1 kj16 l0 l1 a2 t314 t315 t324 (t325 != t315)) else (laws_FnExactCarryChange.j1 kj16 l0 l1 a2 t314 t315 t324 true)))) = some r:=H
        have A46:=Aside0.mk A460
        clear A460
        have HC47:=Aside0.mk H
        clear H
        go_upto_region 21 with (first|((with_reducible refine gate_callee (f:=17) rfl ?_);refine goesL_ (some 60) rfl rfl Try.func17 (by kernel_rfl) rfl #[.slice A0 l0.length c0] rfl (by (try simp only [List.map_toArray,List.map_cons,List.map_nil]);first|done|rfl|(simp only [List.length_drop,List.length_take];rfl)) ?_;(with_reducible refine (laws_toPartS.calls kj16 _ _ l0 t329 _ ?side1 ?side2 A39.out).mono ?_);(case side1=>repeat (first|exact (Kd.C_below HR0.out HB.out)|(with_reducible first|apply Kd.C_alloc|apply Kd.C_drewN|apply Kd.C_drew)));(case side2=>exact HC0.out);rintro e w48 ⟨v330,rfl,ho0,hb⟩;refine ⟨_,rfl,?_⟩;have n0_:=Aside0.mk (Kd.R_elder' (by (with_reducible repeat (first|apply Kd.R_alloc|apply Kd.R_drewN|apply Kd.R_drew));exact HO_8.out) (Kd.R_base ho0) hb);have n1_:=Aside0.mk (Kd.R_elder' (by (with_reducible repeat (first|apply Kd.R_alloc|apply Kd.R_drewN|apply Kd.R_drew));exact HO_10.out) (Kd.R_base ho0) hb);have n2_:=Aside0.mk (Kd.R_elder' (by (with_reducible repeat (first|apply Kd.R_alloc|apply Kd.R_drewN|apply Kd.R_drew));exact HO_11.out) (Kd.R_base ho0) hb);have n3_:=Aside0.mk (Kd.R_elder' (by (with_reducible repeat (first|apply Kd.R_alloc|apply Kd.R_drewN|apply Kd.R_drew));exact HO_12.out) (Kd.R_base ho0) hb);have n4_:=Aside0.mk (Kd.R_lower (Kd.R_new' (Kd.R_new' (Kd.R_new' (Kd.R_new' ho0 (Kd.R_lt (by (with_reducible repeat (first|apply Kd.R_alloc|apply Kd.R_drewN|apply Kd.R_drew));exact HO_8.out))) (Kd.R_lt (by (with_reducible repeat (first|apply Kd.R_alloc|apply Kd.R_drewN|apply Kd.R_drew));exact HO_10.out))) (Kd.R_lt (by (with_reducible repeat (first|apply Kd.R_alloc|apply Kd.R_drewN|apply Kd.R_drew));exact HO_11.out))) (Kd.R_lt (by (with_reducible repeat (first|apply Kd.R_alloc|apply Kd.R_drewN|apply Kd.R_drew));exact HO_12.out))) (below_size (by repeat (first|exact HB.out|apply below_alloc|apply pw_below_drewN|apply below_drew1))));have n5_:=Aside0.mk (below_step (by repeat (first|exact HB.out|apply below_alloc|apply pw_below_drewN|apply below_drew1)) hb);clear HO_8;clear HO_10;clear HO_11;clear HO_12;clear HB;have HO_8:=n0_;have HO_10:=n1_;have HO_11:=n2_;have HO_12:=n3_;have HO331:=n4_;have HB:=n5_;clear n0_ n1_ n2_ n3_ n4_ n5_;(try clear hb);(try clear hb2);(try clear hk);(try clear hi);(try clear ho0);obtain ⟨Ao49,co49,eo49⟩:=Kd.R_slice HO331.out;subst eo49)|((with_reducible refine gate_callee (f:=19) rfl ?_);refine goesL_ (some 61) rfl rfl Try.func19 (by kernel_rfl) rfl #[.slice Ao27 t318.length co27,.slice Ao49 t329.length co49] rfl (by (try simp only [List.map_toArray,List.map_cons,List.map_nil]);first|done|rfl|(simp only [List.length_drop,List.length_take];rfl)) ?_;(with_reducible refine (laws_eqPartS.calls kj16 _ _ t318 _ _ t329 true _ ?side1 ?side2 ?side3 ?side4 A40.out).mono ?_);(case side1=>repeat (first|exact (Kd.R_reads' HO_10.out).2.2|(with_reducible first|apply Kd.C_alloc|apply Kd.C_drewN|apply Kd.C_drew)));(case side2=>exact (Kd.R_reads' HO_10.out).2.1);(case side3=>repeat (first|exact (Kd.R_reads' HO331.out).2.2|(with_reducible first|apply Kd.C_alloc|apply Kd.C_drewN|apply Kd.C_drew)));(case side4=>exact (Kd.R_reads' HO331.out).2.1);rintro e w50 ⟨rfl,hb⟩;refine ⟨_,rfl,?_⟩;have n0_:=Aside0.mk (Kd.R_below (by (with_reducible repeat (first|apply Kd.R_alloc|apply Kd.R_drewN|apply Kd.R_drew));exact HO_8.out) hb);have n1_:=Aside0.mk (Kd.R_below (by (with_reducible repeat (first|apply Kd.R_alloc|apply Kd.R_drewN|apply Kd.R_drew));exact HO_10.out) hb);have n2_:=Aside0.mk (Kd.R_below (by (with_reducible repeat (first|apply Kd.R_alloc|apply Kd.R_drewN|apply Kd.R_drew));exact HO_11.out) hb);have n3_:=Aside0.mk (Kd.R_below (by (with_reducible repeat (first|apply Kd.R_alloc|apply Kd.R_drewN|apply Kd.R_drew));exact HO_12.out) hb);have n4_:=Aside0.mk (Kd.R_below (by (with_reducible repeat (first|apply Kd.R_alloc|apply Kd.R_drewN|apply Kd.R_drew));exact HO331.out) hb);have n5_:=Aside0.mk (below_step (by repeat (first|exact HB.out|apply below_alloc|apply pw_below_drewN|apply below_drew1)) hb);clear HO_8;clear HO_10;clear HO_11;clear HO_12;clear HO331;clear HB;have HO_8:=n0_;have HO_10:=n1_;have HO_11:=n2_;have HO_12:=n3_;have HO331:=n4_;have HB:=n5_;clear n0_ n1_ n2_ n3_ n4_ n5_;(try clear hb);(try clear hb2);(try clear hk);(try clear hi))|((with_reducible refine gate_callee (f:=17) rfl ?_);refine goesL_ (some 65) rfl rfl Try.func17 (by kernel_rfl) rfl #[.slice A1 l1.length c1] rfl (by (try simp only [List.map_toArray,List.map_cons,List.map_nil]);first|done|rfl|(simp only [List.length_drop,List.length_take];rfl)) ?_;(with_reducible refine (laws_toPartS.calls kj16 _ _ l1 t333 _ ?side1 ?side2 A42.out).mono ?_);(case side1=>repeat (first|exact (Kd.C_below HR1.out HB.out)|(with_reducible first|apply Kd.C_alloc|apply Kd.C_drewN|apply Kd.C_drew)));(case side2=>exact HC1.out);rintro e w51 ⟨v334,rfl,ho0,hb⟩;refine ⟨_,rfl,?_⟩;have n0_:=Aside0.mk (Kd.R_elder' (by (with_reducible repeat (first|apply Kd.R_alloc|apply Kd.R_drewN|apply Kd.R_drew));exact HO_8.out) (Kd.R_base ho0) hb);have n1_:=Aside0.mk (Kd.R_elder' (by (with_reducible repeat (first|apply Kd.R_alloc|apply Kd.R_drewN|apply Kd.R_drew));exact HO_10.out) (Kd.R_base ho0) hb);have n2_:=Aside0.mk (Kd.R_elder' (by (with_reducible repeat (first|apply Kd.R_alloc|apply Kd.R_drewN|apply Kd.R_drew));exact HO_11.out) (Kd.R_base ho0) hb);have n3_:=Aside0.mk (Kd.R_elder' (by (with_reducible repeat (first|apply Kd.R_alloc|apply Kd.R_drewN|apply Kd.R_drew));exact HO_12.out) (Kd.R_base ho0) hb);have n4_:=Aside0.mk (Kd.R_elder' (by (with_reducible repeat (first|apply Kd.R_alloc|apply Kd.R_drewN|apply Kd.R_drew));exact HO331.out) (Kd.R_base ho0) hb);have n5_:=Aside0.mk (Kd.R_lower (Kd.R_new' (Kd.R_new' (Kd.R_new' (Kd.R_new' (Kd.R_new' ho0 (Kd.R_lt (by (with_reducible repeat (first|apply Kd.R_alloc|apply Kd.R_drewN|apply Kd.R_drew));exact HO_8.out))) (Kd.R_lt (by (with_reducible repeat (first|apply Kd.R_alloc|apply Kd.R_drewN|apply Kd.R_drew));exact HO_10.out))) (Kd.R_lt (by (with_reducible repeat (first|apply Kd.R_alloc|apply Kd.R_drewN|apply Kd.R_drew));exact HO_11.out))) (Kd.R_lt (by (with_reducible repeat (first|apply Kd.R_alloc|apply Kd.R_drewN|apply Kd.R_drew));exact HO_12.out))) (Kd.R_lt (by (with_reducible repeat (first|apply Kd.R_alloc|apply Kd.R_drewN|apply Kd.R_drew));exact HO331.out))) (below_size (by repeat (first|exact HB.out|apply below_alloc|apply pw_below_drewN|apply below_drew1))));have n6_:=Aside0.mk (below_step (by repeat (first|exact HB.out|apply below_alloc|apply pw_below_drewN|apply below_drew1)) hb);clear HO_8;clear HO_10;clear HO_11;clear HO_12;clear HO331;clear HB;have HO_8:=n0_;have HO_10:=n1_;have HO_11:=n2_;have HO_12:=n3_;have HO331:=n4_;have HO335:=n5_;have HB:=n6_;clear n0_ n1_ n2_ n3_ n4_ n5_ n6_;(try clear hb);(try clear hb2);(try clear hk);(try clear hi);(try clear ho0);obtain ⟨Ao52,co52,eo52⟩:=Kd.R_slice HO335.out;subst eo52)|((with_reducible refine gate_callee (f:=19) rfl ?_);refine goesL_ (some 66) rfl rfl Try.func19 (by kernel_rfl) rfl #[.slice Ao28 t321.length co28,.slice Ao52 t333.length co52] rfl (by (try simp only [List.map_toArray,List.map_cons,List.map_nil]);first|done|rfl|(simp only [List.length_drop,List.length_take];rfl)) ?_;(with_reducible refine (laws_eqPartS.calls kj16 _ _ t321 _ _ t333 true _ ?side1 ?side2 ?side3 ?side4 A43.out).mono ?_);(case side1=>repeat (first|exact (Kd.R_reads' HO_11.out).2.2|(with_reducible first|apply Kd.C_alloc|apply Kd.C_drewN|apply Kd.C_drew)));(case side2=>exact (Kd.R_reads' HO_11.out).2.1);(case side3=>repeat (first|exact (Kd.R_reads' HO335.out).2.2|(with_reducible first|apply Kd.C_alloc|apply Kd.C_drewN|apply Kd.C_drew)));(case side4=>exact (Kd.R_reads' HO335.out).2.1);rintro e w53 ⟨rfl,hb⟩;refine ⟨_,rfl,?_⟩;have n0_:=Aside0.mk (Kd.R_below (by (with_reducible repeat (first|apply Kd.R_alloc|apply Kd.R_drewN|apply Kd.R_drew));exact HO_8.out) hb);have n1_:=Aside0.mk (Kd.R_below (by (with_reducible repeat (first|apply Kd.R_alloc|apply Kd.R_drewN|apply Kd.R_drew));exact HO_10.out) hb);have n2_:=Aside0.mk (Kd.R_below (by (with_reducible repeat (first|apply Kd.R_alloc|apply Kd.R_drewN|apply Kd.R_drew));exact HO_11.out) hb);have n3_:=Aside0.mk (Kd.R_below (by (with_reducible repeat (first|apply Kd.R_alloc|apply Kd.R_drewN|apply Kd.R_drew));exact HO_12.out) hb);have n4_:=Aside0.mk (Kd.R_below (by (with_reducible repeat (first|apply Kd.R_alloc|apply Kd.R_drewN|apply Kd.R_drew));exact HO331.out) hb);have n5_:=Aside0.mk (Kd.R_below (by (with_reducible repeat (first|apply Kd.R_alloc|apply Kd.R_drewN|apply Kd.R_drew));exact HO335.out) hb);have n6_:=Aside0.mk (below_step (by repeat (first|exact HB.out|apply below_alloc|apply pw_below_drewN|apply below_drew1)) hb);clear HO_8;clear HO_10;clear HO_11;clear HO_12;clear HO331;clear HO335;clear HB;have HO_8:=n0_;have HO_10:=n1_;have HO_11:=n2_;have HO_12:=n3_;have HO331:=n4_;have HO335:=n5_;have HB:=n6_;clear n0_ n1_ n2_ n3_ n4_ n5_ n6_;(try clear hb);(try clear hb2);(try clear hk);(try clear hi))|((with_reducible refine gate_callee (f:=29) rfl ?_);refine goesL_ (some 70) rfl rfl Try.func29 (by kernel_rfl) rfl #[.slice Ao27 t318.length co27,.int .i64 1] rfl (by (try simp only [List.map_toArray,List.map_cons,List.map_nil]);first|done|rfl|(simp only [List.length_drop,List.length_take];rfl)) ?_;(with_reducible refine (laws_markPartS.calls kj16 (fun k_=>some k_ = (.slice Ao27 t318.length co27 : Value).ownBlock) (.slice Ao27 t318.length co27) t318 1 t337 t338 w _ ?side1 ?side2 A45.out).mono ?_);(case side1=>repeat (first|exact HB.out|apply below_alloc|apply pw_below_drewN|apply below_drew1));(case side2=>exact Kd.R_tight rfl HO_10.out);rintro e w54 ⟨rfl,hy0,hb,hkp⟩;refine ⟨_,rfl,?_⟩;have n0_:=Aside0.mk (Kd.R_mono (ok':=fun k_=>some k_ ≠ (.slice Ao27 t318.length co27 : Value).ownBlock∧some k_ ≠ (.slice Ao28 t321.length co28 : Value).ownBlock∧some k_ ≠ (v326 : Value).ownBlock∧some k_ ≠ (.slice Ao49 t329.length co49 : Value).ownBlock∧some k_ ≠ (.slice Ao52 t333.length co52 : Value).ownBlock) (Kd.R_keptB (HO_8.out) hkp (fun k_ hk_ hs_=>(hk_.1.1.1) hs_)) (fun k_ hk_=>⟨hk_.1.1.1.1,hk_.1.1.1.2.1,hk_.1.1.1.2.2,hk_.1.1.2,hk_.1.2⟩));have n1_:=Aside0.mk (Kd.R_reok rfl hy0 (fun k_ e_=>HO_10.out.1 k_ e_));have n2_:=Aside0.mk (Kd.R_mono (ok':=fun k_=>some k_ ≠ (v316 : Value).ownBlock∧some k_ ≠ (.slice Ao27 t318.length co27 : Value).ownBlock∧some k_ ≠ (v326 : Value).ownBlock∧some k_ ≠ (.slice Ao49 t329.length co49 : Value).ownBlock∧some k_ ≠ (.slice Ao52 t333.length co52 : Value).ownBlock) (Kd.R_keptB (HO_11.out) hkp (fun k_ hk_ hs_=>(hk_.1.1.2.1) hs_)) (fun k_ hk_=>⟨hk_.1.1.1.1,hk_.1.1.1.2.1,hk_.1.1.1.2.2,hk_.1.1.2,hk_.1.2⟩));have n3_:=Aside0.mk (Kd.R_mono (ok':=fun k_=>some k_ ≠ (v316 : Value).ownBlock∧some k_ ≠ (.slice Ao27 t318.length co27 : Value).ownBlock∧some k_ ≠ (.slice Ao28 t321.length co28 : Value).ownBlock∧some k_ ≠ (.slice Ao49 t329.length co49 : Value).ownBlock∧some k_ ≠ (.slice Ao52 t333.length co52 : Value).ownBlock) (Kd.R_keptB (HO_12.out) hkp (fun k_ hk_ hs_=>(hk_.1.1.2.1) hs_)) (fun k_ hk_=>⟨hk_.1.1.1.1,hk_.1.1.1.2.1,hk_.1.1.1.2.2,hk_.1.1.2,hk_.1.2⟩));have n4_:=Aside0.mk (Kd.R_mono (ok':=fun k_=>some k_ ≠ (v316 : Value).ownBlock∧some k_ ≠ (.slice Ao27 t318.length co27 : Value).ownBlock∧some k_ ≠ (.slice Ao28 t321.length co28 : Value).ownBlock∧some k_ ≠ (v326 : Value).ownBlock∧some k_ ≠ (.slice Ao52 t333.length co52 : Value).ownBlock) (Kd.R_keptB (HO331.out) hkp (fun k_ hk_ hs_=>(hk_.1.1.1.2) hs_)) (fun k_ hk_=>⟨hk_.1.1.1.1.1.2,hk_.1.1.1.1.2,hk_.1.1.1.2,hk_.1.1.2,hk_.1.2⟩));have n5_:=Aside0.mk (Kd.R_mono (ok':=fun k_=>some k_ ≠ (v316 : Value).ownBlock∧some k_ ≠ (.slice Ao27 t318.length co27 : Value).ownBlock∧some k_ ≠ (.slice Ao28 t321.length co28 : Value).ownBlock∧some k_ ≠ (v326 : Value).ownBlock∧some k_ ≠ (.slice Ao49 t329.length co49 : Value).ownBlock) (Kd.R_keptB (HO335.out) hkp (fun k_ hk_ hs_=>(hk_.1.1.1.2) hs_)) (fun k_ hk_=>⟨hk_.1.1.1.1.1.2,hk_.1.1.1.1.2,hk_.1.1.1.2,hk_.1.1.2,hk_.1.2⟩));have n6_:=Aside0.mk (hb);clear HO_8;clear HO_10;clear HO_11;clear HO_12;clear HO331;clear HO335;clear HB;have HO_8:=n0_;have HO_10:=n1_;have HO_11:=n2_;have HO_12:=n3_;have HO331:=n4_;have HO335:=n5_;have HB:=n6_;clear n0_ n1_ n2_ n3_ n4_ n5_ n6_;(try clear hb);(try clear hkp);(try clear hbx);(try clear hy0))|((with_reducible refine gate_callee (f:=29) rfl ?_);refine goesL_ (some 73) rfl rfl Try.func29 (by kernel_rfl) rfl #[.slice Ao28 t321.length co28,.int .i64 t337] rfl (by (try simp only [List.map_toArray,List.map_cons,List.map_nil]);first|done|rfl|(simp only [List.length_drop,List.length_take];rfl)) ?_;(with_reducible refine (laws_markPartS.calls kj16 (fun k_=>some k_ = (.slice Ao28 t321.length co28 : Value).ownBlock) (.slice Ao28 t321.length co28) t321 t337 t339 t340 w _ ?side1 ?side2 A46.out).mono ?_);(case side1=>repeat (first|exact HB.out|apply below_alloc|apply pw_below_drewN|apply below_drew1));(case side2=>exact Kd.R_tight rfl HO_11.out);rintro e w55 ⟨rfl,hy0,hb,hkp⟩;refine ⟨_,rfl,?_⟩;have n0_:=Aside0.mk (Kd.R_mono (ok':=fun k_=>some k_ ≠ (.slice Ao27 t318.length co27 : Value).ownBlock∧some k_ ≠ (.slice Ao28 t321.length co28 : Value).ownBlock∧some k_ ≠ (v326 : Value).ownBlock∧some k_ ≠ (.slice Ao49 t329.length co49 : Value).ownBlock∧some k_ ≠ (.slice Ao52 t333.length co52 : Value).ownBlock) (Kd.R_keptB (HO_8.out) hkp (fun k_ hk_ hs_=>(hk_.2.1) hs_)) (fun k_ hk_=>⟨hk_.1.1,hk_.1.2.1,hk_.1.2.2.1,hk_.1.2.2.2.1,hk_.1.2.2.2.2⟩));have n1_:=Aside0.mk (Kd.R_mono (ok':=fun k_=>some k_ ≠ (v316 : Value).ownBlock∧some k_ ≠ (.slice Ao28 t321.length co28 : Value).ownBlock∧some k_ ≠ (v326 : Value).ownBlock∧some k_ ≠ (.slice Ao49 t329.length co49 : Value).ownBlock∧some k_ ≠ (.slice Ao52 t333.length co52 : Value).ownBlock) (Kd.R_keptB (HO_10.out) hkp (fun k_ hk_ hs_=>(hk_.1.1.2.1) hs_)) (fun k_ hk_=>⟨hk_.1.1.1.1,hk_.1.1.1.2.1,hk_.1.1.1.2.2,hk_.1.1.2,hk_.1.2⟩));have n2_:=Aside0.mk (Kd.R_reok rfl hy0 (fun k_ e_=>HO_11.out.1 k_ e_));have n3_:=Aside0.mk (Kd.R_mono (ok':=fun k_=>some k_ ≠ (v316 : Value).ownBlock∧some k_ ≠ (.slice Ao27 t318.length co27 : Value).ownBlock∧some k_ ≠ (.slice Ao28 t321.length co28 : Value).ownBlock∧some k_ ≠ (.slice Ao49 t329.length co49 : Value).ownBlock∧some k_ ≠ (.slice Ao52 t333.length co52 : Value).ownBlock) (Kd.R_keptB (HO_12.out) hkp (fun k_ hk_ hs_=>(hk_.2.2.1) hs_)) (fun k_ hk_=>⟨hk_.1.1,hk_.1.2.1,hk_.1.2.2.1,hk_.1.2.2.2.1,hk_.1.2.2.2.2⟩));have n4_:=Aside0.mk (Kd.R_mono (ok':=fun k_=>some k_ ≠ (v316 : Value).ownBlock∧some k_ ≠ (.slice Ao27 t318.length co27 : Value).ownBlock∧some k_ ≠ (.slice Ao28 t321.length co28 : Value).ownBlock∧some k_ ≠ (v326 : Value).ownBlock∧some k_ ≠ (.slice Ao52 t333.length co52 : Value).ownBlock) (Kd.R_keptB (HO331.out) hkp (fun k_ hk_ hs_=>(hk_.2.2.1) hs_)) (fun k_ hk_=>⟨hk_.1.1,hk_.1.2.1,hk_.1.2.2.1,hk_.1.2.2.2.1,hk_.1.2.2.2.2⟩));have n5_:=Aside0.mk (Kd.R_mono (ok':=fun k_=>some k_ ≠ (v316 : Value).ownBlock∧some k_ ≠ (.slice Ao27 t318.length co27 : Value).ownBlock∧some k_ ≠ (.slice Ao28 t321.length co28 : Value).ownBlock∧some k_ ≠ (v326 : Value).ownBlock∧some k_ ≠ (.slice Ao49 t329.length co49 : Value).ownBlock) (Kd.R_keptB (HO335.out) hkp (fun k_ hk_ hs_=>(hk_.2.2.1) hs_)) (fun k_ hk_=>⟨hk_.1.1,hk_.1.2.1,hk_.1.2.2.1,hk_.1.2.2.2.1,hk_.1.2.2.2.2⟩));have n6_:=Aside0.mk (hb);clear HO_8;clear HO_10;clear HO_11;clear HO_12;clear HO331;clear HO335;clear HB;have HO_8:=n0_;have HO_10:=n1_;have HO_11:=n2_;have HO_12:=n3_;have HO331:=n4_;have HO335:=n5_;have HB:=n6_;clear n0_ n1_ n2_ n3_ n4_ n5_ n6_;(try clear hb);(try clear hkp);(try clear hbx);(try clear hy0)))
        (try simp only [Act.put,List.setIfInBounds_toArray,List.set_cons_zero,List.set_cons_succ])
        go_cut [86] (fun v86 wc=>∃ (kq : Nat) (x86_46 : Bool),v86 = .bool x86_46∧Aside0 (laws_FnExactCarryChange.j1 kq l0 l1 a2 t314 t315 t324 x86_46 = some r)∧Aside0 (kq ≤ kj16)∧Aside0 (Kd.R k74 74 wc w.heap.size (fun k_=>some k_ ≠ (v326 : Value).ownBlock) v316 t314)∧Aside0 (Kd.R k74 74 wc w.heap.size (fun k_=>some k_ ≠ (v316 : Value).ownBlock) v326 t324)∧Aside0 (Below w.heap.size w wc))
        case first =>
         have H:=HC47.out
         clear HC47
         by_cases c56 : t339 < 0
         ·rw [if_pos c56] at H
          have c56b0 : decide (t339 < 0) = true:=decide_eq_true c56
          clear c56
          (first|rw [c56b0]|(simp only [i64_w,i32_w];rw [c56b0])|skip)
          have H':=Aside0.mk H
          clear H
          go_wp2
          go_meet
          case rel=>exact ⟨_,(true),(by first|rfl|(simp;done)|(simp [*];done)),H',⟨by have:=HJ16.out;first|omega|exact Nat.le_refl _⟩,⟨by (with_reducible repeat (first|apply Kd.R_alloc|apply Kd.R_drewN|apply Kd.R_drew));exact Kd.R_mono HO_8.out (fun _ hk=>hk.2.2.1)⟩,⟨by (with_reducible repeat (first|apply Kd.R_alloc|apply Kd.R_drewN|apply Kd.R_drew));exact Kd.R_mono HO_12.out (fun _ hk=>hk.1)⟩,⟨by repeat (first|exact HB.out|apply below_alloc|apply pw_below_drewN|apply below_drew1)⟩⟩
         ·rw [if_neg c56] at H
          have c56b0 : decide (t339 < 0) = false:=decide_eq_false c56
          clear c56
          (first|rw [c56b0]|(simp only [i64_w,i32_w];rw [c56b0])|skip)
          replace H:=Option.bind_eq_some_iff.mp H
          obtain ⟨t341,A570,H⟩:=H
          replace H : (if t341 = true then (laws_FnExactCarryChange.j1 kj16 l0 l1 a2 t314 t315 t324 (t325 != t315)) else (laws_FnExactCarryChange.j1 kj16 l0 l1 a2 t314 t315 t324 true)) = some r:=H
          have A57:=Aside0.mk A570
          clear A570
          by_cases c58 : t341 = true
          ·subst c58
           have H1 : (laws_FnExactCarryChange.j1 kj16 l0 l1 a2 t314 t315 t324 (t325 != t315)) = some r:=by rw [if_pos rfl] at H;exact H
           clear H
           have H:=H1
           clear H1
           have H':=Aside0.mk H
           clear H
           obtain ⟨Ao59,co59,eo59⟩:=Kd.R_slice HO_12.out
           subst eo59
           obtain ⟨Ao60,co60,eo60⟩:=Kd.R_slice HO_8.out
           subst eo60
           go_wp2_with (first|(go_at_call 19;(with_reducible refine (laws_eqPartS.calls kj16 _ _ t324 _ _ t314 true _ ?side1 ?side2 ?side3 ?side4 A57.out).mono ?_);(case side1=>repeat (first|exact (Kd.R_reads' HO_12.out).2.2|(with_reducible first|apply Kd.C_alloc|apply Kd.C_drewN|apply Kd.C_drew)));(case side2=>exact (Kd.R_reads' HO_12.out).2.1);(case side3=>repeat (first|exact (Kd.R_reads' HO_8.out).2.2|(with_reducible first|apply Kd.C_alloc|apply Kd.C_drewN|apply Kd.C_drew)));(case side4=>exact (Kd.R_reads' HO_8.out).2.1);rintro e w61 ⟨rfl,hb⟩;have n0_:=Aside0.mk (Kd.R_below (by (with_reducible repeat (first|apply Kd.R_alloc|apply Kd.R_drewN|apply Kd.R_drew));exact HO_8.out) hb);have n1_:=Aside0.mk (Kd.R_below (by (with_reducible repeat (first|apply Kd.R_alloc|apply Kd.R_drewN|apply Kd.R_drew));exact HO_10.out) hb);have n2_:=Aside0.mk (Kd.R_below (by (with_reducible repeat (first|apply Kd.R_alloc|apply Kd.R_drewN|apply Kd.R_drew));exact HO_11.out) hb);have n3_:=Aside0.mk (Kd.R_below (by (with_reducible repeat (first|apply Kd.R_alloc|apply Kd.R_drewN|apply Kd.R_drew));exact HO_12.out) hb);have n4_:=Aside0.mk (Kd.R_below (by (with_reducible repeat (first|apply Kd.R_alloc|apply Kd.R_drewN|apply Kd.R_drew));exact HO331.out) hb);have n5_:=Aside0.mk (Kd.R_below (by (with_reducible repeat (first|apply Kd.R_alloc|apply Kd.R_drewN|apply Kd.R_drew));exact HO335.out) hb);have n6_:=Aside0.mk (below_step (by repeat (first|exact HB.out|apply below_alloc|apply pw_below_drewN|apply below_drew1)) hb);clear HO_8;clear HO_10;clear HO_11;clear HO_12;clear HO331;clear HO335;clear HB;have HO_8:=n0_;have HO_10:=n1_;have HO_11:=n2_;have HO_12:=n3_;have HO331:=n4_;have HO335:=n5_;have HB:=n6_;clear n0_ n1_ n2_ n3_ n4_ n5_ n6_;(try clear hb);(try clear hb2);(try clear hk);(try clear hi)))
           go_meet
           case rel=>exact ⟨_,((t325 != t315)),(by first|rfl|(simp;done)|(simp [*];done)),H',⟨by have:=HJ16.out;first|omega|exact Nat.le_refl _⟩,⟨by (with_reducible repeat (first|apply Kd.R_alloc|apply Kd.R_drewN|apply Kd.R_drew));exact Kd.R_mono HO_8.out (fun _ hk=>hk.2.2.1)⟩,⟨by (with_reducible repeat (first|apply Kd.R_alloc|apply Kd.R_drewN|apply Kd.R_drew));exact Kd.R_mono HO_12.out (fun _ hk=>hk.1)⟩,⟨by repeat (first|exact HB.out|apply below_alloc|apply pw_below_drewN|apply below_drew1)⟩⟩
          ·replace c58:=Bool.eq_false_iff.mpr c58
           subst c58
           have H1 : (laws_FnExactCarryChange.j1 kj16 l0 l1 a2 t314 t315 t324 true) = some r:=by rw [if_neg (show ¬ (false = true) by decide)] at H;exact H
           clear H
           have H:=H1
           clear H1
           have H':=Aside0.mk H
           clear H
           obtain ⟨Ao62,co62,eo62⟩:=Kd.R_slice HO_12.out
           subst eo62
           obtain ⟨Ao63,co63,eo63⟩:=Kd.R_slice HO_8.out
           subst eo63
           go_wp2_with (first|(go_at_call 19;(with_reducible refine (laws_eqPartS.calls kj16 _ _ t324 _ _ t314 false _ ?side1 ?side2 ?side3 ?side4 A57.out).mono ?_);(case side1=>repeat (first|exact (Kd.R_reads' HO_12.out).2.2|(with_reducible first|apply Kd.C_alloc|apply Kd.C_drewN|apply Kd.C_drew)));(case side2=>exact (Kd.R_reads' HO_12.out).2.1);(case side3=>repeat (first|exact (Kd.R_reads' HO_8.out).2.2|(with_reducible first|apply Kd.C_alloc|apply Kd.C_drewN|apply Kd.C_drew)));(case side4=>exact (Kd.R_reads' HO_8.out).2.1);rintro e w64 ⟨rfl,hb⟩;have n0_:=Aside0.mk (Kd.R_below (by (with_reducible repeat (first|apply Kd.R_alloc|apply Kd.R_drewN|apply Kd.R_drew));exact HO_8.out) hb);have n1_:=Aside0.mk (Kd.R_below (by (with_reducible repeat (first|apply Kd.R_alloc|apply Kd.R_drewN|apply Kd.R_drew));exact HO_10.out) hb);have n2_:=Aside0.mk (Kd.R_below (by (with_reducible repeat (first|apply Kd.R_alloc|apply Kd.R_drewN|apply Kd.R_drew));exact HO_11.out) hb);have n3_:=Aside0.mk (Kd.R_below (by (with_reducible repeat (first|apply Kd.R_alloc|apply Kd.R_drewN|apply Kd.R_drew));exact HO_12.out) hb);have n4_:=Aside0.mk (Kd.R_below (by (with_reducible repeat (first|apply Kd.R_alloc|apply Kd.R_drewN|apply Kd.R_drew));exact HO331.out) hb);have n5_:=Aside0.mk (Kd.R_below (by (with_reducible repeat (first|apply Kd.R_alloc|apply Kd.R_drewN|apply Kd.R_drew));exact HO335.out) hb);have n6_:=Aside0.mk (below_step (by repeat (first|exact HB.out|apply below_alloc|apply pw_below_drewN|apply below_drew1)) hb);clear HO_8;clear HO_10;clear HO_11;clear HO_12;clear HO331;clear HO335;clear HB;have HO_8:=n0_;have HO_10:=n1_;have HO_11:=n2_;have HO_12:=n3_;have HO331:=n4_;have HO335:=n5_;have HB:=n6_;clear n0_ n1_ n2_ n3_ n4_ n5_ n6_;(try clear hb);(try clear hb2);(try clear hk);(try clear hi)))
           go_meet
           case rel=>exact ⟨_,(true),(by first|rfl|(simp;done)|(simp [*];done)),H',⟨by have:=HJ16.out;first|omega|exact Nat.le_refl _⟩,⟨by (with_reducible repeat (first|apply Kd.R_alloc|apply Kd.R_drewN|apply Kd.R_drew));exact Kd.R_mono HO_8.out (fun _ hk=>hk.2.2.1)⟩,⟨by (with_reducible repeat (first|apply Kd.R_alloc|apply Kd.R_drewN|apply Kd.R_drew));exact Kd.R_mono HO_12.out (fun _ hk=>hk.1)⟩,⟨by repeat (first|exact HB.out|apply below_alloc|apply pw_below_drewN|apply below_drew1)⟩⟩
        case rest =>
         clear HC47
         try clear c1;try clear c2;try clear p2;try clear c3;try clear c4;try clear c5;try clear c5b0;try clear c8;try clear c8b0;try clear c11;try clear c15;try clear c17;try clear c19;try clear c29;try clear c31;try clear c38;try clear c40;try clear c41;try clear c44;try clear c56;try clear c56b0;try clear c58;try clear p2
         obtain ⟨kq,x86_46,rfl,HA,HJ46,HO_8,HO_12,HB⟩:=hcut
         cases kq with
         | zero=>exact absurd HA.out (by simp [laws_FnExactCarryChange.j1])
         | succ kj46 =>
          have H:=HA.out
          clear HA
          simp only [laws_FnExactCarryChange.j1] at H
          by_cases c65 : x86_46 = true
          ·subst c65
           have H1 : (some false) = some r:=by rw [if_pos rfl] at H;exact H
           clear H
           have H:=H1
           clear H1
           obtain rfl:=Option.some.inj H
           go_wp2
           go_ret
           exact ⟨by first|rfl|(simp [*,errW_none,errW_some] <;> rfl),by repeat (first|exact HB.out|apply below_alloc|apply pw_below_drewN|apply below_drew1)⟩
          ·replace c65:=Bool.eq_false_iff.mpr c65
           subst c65
           have H1 : ((laws_markPartS.f kj46 t324 1).bind fun bt342=>((laws_heldPartS.f kj46 bt342.2 1).bind fun t344=>(if t344 < 0 then (some false) else (if t344 = bt342.1 then ((laws_toPartS.f kj46 l0).bind fun t345=>((laws_toPartS.f kj46 l1).bind fun t348=>((impl_CarryChange.f kj46 t345 t348 a2).bind fun bt351=>((laws_eqPartS.f kj46 bt351.1 t314).bind fun t355=>(if t355 = true then (laws_FnExactCarryChange.j2 kj46 bt342.2 bt342.1 (bt351.2 != t315)) else (laws_FnExactCarryChange.j2 kj46 bt342.2 bt342.1 true)))))) else (some false))))) = some r:=by rw [if_neg (show ¬ (false = true) by decide)] at H;exact H
           clear H
           have H:=H1
           clear H1
           replace H:=Option.bind_eq_some_iff.mp H
           obtain ⟨⟨t342,t343⟩,A660,H⟩:=H
           replace H : ((laws_heldPartS.f kj46 t343 1).bind fun t344=>(if t344 < 0 then (some false) else (if t344 = t342 then ((laws_toPartS.f kj46 l0).bind fun t345=>((laws_toPartS.f kj46 l1).bind fun t348=>((impl_CarryChange.f kj46 t345 t348 a2).bind fun bt351=>((laws_eqPartS.f kj46 bt351.1 t314).bind fun t355=>(if t355 = true then (laws_FnExactCarryChange.j2 kj46 t343 t342 (bt351.2 != t315)) else (laws_FnExactCarryChange.j2 kj46 t343 t342 true)))))) else (some false)))) = some r:=H
           have A66:=Aside0.mk A660
           clear A660
           replace H:=Option.bind_eq_some_iff.mp H
           obtain ⟨t344,A670,H⟩:=H
           replace H : (if t344 < 0 then (some false) else (if t344 = t342 then ((laws_toPartS.f kj46 l0).bind fun t345=>((laws_toPartS.f kj46 l1).bind fun t348=>((impl_CarryChange.f kj46 t345 t348 a2).bind fun bt351=>((laws_eqPartS.f kj46 bt351.1 t314).bind fun t355=>(if t355 = true then (laws_FnExactCarryChange.j2 kj46 t343 t342 (bt351.2 != t315)) else (laws_FnExactCarryChange.j2 kj46 t343 t342 true)))))) else (some false))) = some r:=H
           have A67:=Aside0.mk A670
           clear A670
           by_cases c68 : t344 < 0
           ·rw [if_pos c68] at H
            have c68b0 : decide (t344 < 0) = true:=decide_eq_true c68
            clear c68
            obtain rfl:=Option.some.inj H
            obtain ⟨Ao69,co69,eo69⟩:=Kd.R_slice HO_12.out
            subst eo69
            go_wp2_with (first|((with_reducible refine gate_callee (f:=29) rfl ?_);refine goesL_ (some 89) rfl rfl Try.func29 (by kernel_rfl) rfl #[.slice Ao69 t324.length co69,.int .i64 1] rfl (by (try simp only [List.map_toArray,List.map_cons,List.map_nil]);first|done|rfl|(simp only [List.length_drop,List.length_take];rfl)) ?_;(with_reducible refine (laws_markPartS.calls kj46 (fun k_=>some k_ = (.slice Ao69 t324.length co69 : Value).ownBlock) (.slice Ao69 t324.length co69) t324 1 t342 t343 w _ ?side1 ?side2 A66.out).mono ?_);(case side1=>repeat (first|exact HB.out|apply below_alloc|apply pw_below_drewN|apply below_drew1));(case side2=>exact Kd.R_tight rfl HO_12.out);rintro e w70 ⟨rfl,hy0,hb,hkp⟩;refine ⟨_,rfl,?_⟩;have n0_:=Aside0.mk (Kd.R_mono (ok':=fun k_=>some k_ ≠ (.slice Ao69 t324.length co69 : Value).ownBlock) (Kd.R_keptB (HO_8.out) hkp (fun k_ hk_ hs_=>(hk_) hs_)) (fun k_ hk_=>hk_.1));have n1_:=Aside0.mk (Kd.R_reok rfl hy0 (fun k_ e_=>HO_12.out.1 k_ e_));have n2_:=Aside0.mk (hb);clear HO_8;clear HO_12;clear HB;have HO_8:=n0_;have HO_12:=n1_;have HB:=n2_;clear n0_ n1_ n2_;(try clear hb);(try clear hkp);(try clear hbx);(try clear hy0))|((with_reducible refine gate_callee (f:=35) rfl ?_);refine goesL_ (some 92) rfl rfl Try.func35 (by kernel_rfl) rfl #[.slice Ao69 t343.length co69,.int .i64 1] rfl (by (try simp only [List.map_toArray,List.map_cons,List.map_nil]);first|done|(rw [show t343.length = t324.length from (Kd.R_reads' HO_12.out).1.symm] <;> rfl)|rfl|(simp only [List.length_drop,List.length_take];rfl)) ?_;(with_reducible refine (laws_heldPartS.calls kj46 _ _ t343 1 t344 _ ?side1 ?side2 A67.out).mono ?_);(case side1=>repeat (first|exact (Kd.R_reads' HO_12.out).2.2|(with_reducible first|apply Kd.C_alloc|apply Kd.C_drewN|apply Kd.C_drew)));(case side2=>rw [show t343.length = t324.length from (Kd.R_reads' HO_12.out).1.symm];exact (Kd.R_reads' HO_12.out).2.1);rintro e w71 ⟨rfl,hb⟩;refine ⟨_,rfl,?_⟩;have n0_:=Aside0.mk (Kd.R_below (by (with_reducible repeat (first|apply Kd.R_alloc|apply Kd.R_drewN|apply Kd.R_drew));exact HO_8.out) hb);have n1_:=Aside0.mk (Kd.R_below (by (with_reducible repeat (first|apply Kd.R_alloc|apply Kd.R_drewN|apply Kd.R_drew));exact HO_12.out) hb);have n2_:=Aside0.mk (below_step (by repeat (first|exact HB.out|apply below_alloc|apply pw_below_drewN|apply below_drew1)) hb);clear HO_8;clear HO_12;clear HB;have HO_8:=n0_;have HO_12:=n1_;have HB:=n2_;clear n0_ n1_ n2_;(try clear hb);(try clear hb2);(try clear hk);(try clear hi)))
            go_ret
            exact ⟨by first|rfl|(simp [*,errW_none,errW_some] <;> rfl),by repeat (first|exact HB.out|apply below_alloc|apply pw_below_drewN|apply below_drew1)⟩
           ·rw [if_neg c68] at H
            have c68b0 : decide (t344 < 0) = false:=decide_eq_false c68
            clear c68
            by_cases c72 : t344 = t342
            ·rw [if_pos c72] at H
             have c72b0 : (t344 == t342) = true:=beq_iff_eq.mpr c72
             have c72b1 : (t344 != t342) = false:=bne_eq_false_iff_eq.mpr c72
             clear c72
             replace H:=Option.bind_eq_some_iff.mp H
             obtain ⟨t345,A730,H⟩:=H
             replace H : ((laws_toPartS.f kj46 l1).bind fun t348=>((impl_CarryChange.f kj46 t345 t348 a2).bind fun bt351=>((laws_eqPartS.f kj46 bt351.1 t314).bind fun t355=>(if t355 = true then (laws_FnExactCarryChange.j2 kj46 t343 t342 (bt351.2 != t315)) else (laws_FnExactCarryChange.j2 kj46 t343 t342 true))))) = some r:=H
             have A73:=Aside0.mk A730
             clear A730
             replace H:=Option.bind_eq_some_iff.mp H
             obtain ⟨t348,A740,H⟩:=H
             replace H : ((impl_CarryChange.f kj46 t345 t348 a2).bind fun bt351=>((laws_eqPartS.f kj46 bt351.1 t314).bind fun t355=>(if t355 = true then (laws_FnExactCarryChange.j2 kj46 t343 t342 (bt351.2 != t315)) else (laws_FnExactCarryChange.j2 kj46 t343 t342 true)))) = some r:=H
             have A74:=Aside0.mk A740
             clear A740
             replace H:=Option.bind_eq_some_iff.mp H
             obtain ⟨⟨t351,t352⟩,A750,H⟩:=H
             replace H : ((laws_eqPartS.f kj46 t351 t314).bind fun t355=>(if t355 = true then (laws_FnExactCarryChange.j2 kj46 t343 t342 (t352 != t315)) else (laws_FnExactCarryChange.j2 kj46 t343 t342 true))) = some r:=H
             have A75:=Aside0.mk A750
             clear A750
             have HC76:=Aside0.mk H
             clear H
             obtain ⟨Ao77,co77,eo77⟩:=Kd.R_slice HO_12.out
             subst eo77
             go_upto_region 32 with (first|((with_reducible refine gate_callee (f:=29) rfl ?_);refine goesL_ (some 89) rfl rfl Try.func29 (by kernel_rfl) rfl #[.slice Ao77 t324.length co77,.int .i64 1] rfl (by (try simp only [List.map_toArray,List.map_cons,List.map_nil]);first|done|rfl|(simp only [List.length_drop,List.length_take];rfl)) ?_;(with_reducible refine (laws_markPartS.calls kj46 (fun k_=>some k_ = (.slice Ao77 t324.length co77 : Value).ownBlock) (.slice Ao77 t324.length co77) t324 1 t342 t343 w _ ?side1 ?side2 A66.out).mono ?_);(case side1=>repeat (first|exact HB.out|apply below_alloc|apply pw_below_drewN|apply below_drew1));(case side2=>exact Kd.R_tight rfl HO_12.out);rintro e w78 ⟨rfl,hy0,hb,hkp⟩;refine ⟨_,rfl,?_⟩;have n0_:=Aside0.mk (Kd.R_mono (ok':=fun k_=>some k_ ≠ (.slice Ao77 t324.length co77 : Value).ownBlock) (Kd.R_keptB (HO_8.out) hkp (fun k_ hk_ hs_=>(hk_) hs_)) (fun k_ hk_=>hk_.1));have n1_:=Aside0.mk (Kd.R_reok rfl hy0 (fun k_ e_=>HO_12.out.1 k_ e_));have n2_:=Aside0.mk (hb);clear HO_8;clear HO_12;clear HB;have HO_8:=n0_;have HO_12:=n1_;have HB:=n2_;clear n0_ n1_ n2_;(try clear hb);(try clear hkp);(try clear hbx);(try clear hy0))|((with_reducible refine gate_callee (f:=35) rfl ?_);refine goesL_ (some 92) rfl rfl Try.func35 (by kernel_rfl) rfl #[.slice Ao77 t343.length co77,.int .i64 1] rfl (by (try simp only [List.map_toArray,List.map_cons,List.map_nil]);first|done|(rw [show t343.length = t324.length from (Kd.R_reads' HO_12.out).1.symm] <;> rfl)|rfl|(simp only [List.length_drop,List.length_take];rfl)) ?_;(with_reducible refine (laws_heldPartS.calls kj46 _ _ t343 1 t344 _ ?side1 ?side2 A67.out).mono ?_);(case side1=>repeat (first|exact (Kd.R_reads' HO_12.out).2.2|(with_reducible first|apply Kd.C_alloc|apply Kd.C_drewN|apply Kd.C_drew)));(case side2=>rw [show t343.length = t324.length from (Kd.R_reads' HO_12.out).1.symm];exact (Kd.R_reads' HO_12.out).2.1);rintro e w79 ⟨rfl,hb⟩;refine ⟨_,rfl,?_⟩;have n0_:=Aside0.mk (Kd.R_below (by (with_reducible repeat (first|apply Kd.R_alloc|apply Kd.R_drewN|apply Kd.R_drew));exact HO_8.out) hb);have n1_:=Aside0.mk (Kd.R_below (by (with_reducible repeat (first|apply Kd.R_alloc|apply Kd.R_drewN|apply Kd.R_drew));exact HO_12.out) hb);have n2_:=Aside0.mk (below_step (by repeat (first|exact HB.out|apply below_alloc|apply pw_below_drewN|apply below_drew1)) hb);clear HO_8;clear HO_12;clear HB;have HO_8:=n0_;have HO_12:=n1_;have HB:=n2_;clear n0_ n1_ n2_;(try clear hb);(try clear hb2);(try clear hk);(try clear hi))|((with_reducible refine gate_callee (f:=17) rfl ?_);refine goesL_ (some 100) rfl rfl Try.func17 (by kernel_rfl) rfl #[.slice A0 l0.length c0] rfl (by (try simp only [List.map_toArray,List.map_cons,List.map_nil]);first|done|rfl|(simp only [List.length_drop,List.length_take];rfl)) ?_;(with_reducible refine (laws_toPartS.calls kj46 _ _ l0 t345 _ ?side1 ?side2 A73.out).mono ?_);(case side1=>repeat (first|exact (Kd.C_below HR0.out HB.out)|(with_reducible first|apply Kd.C_alloc|apply Kd.C_drewN|apply Kd.C_drew)));(case side2=>exact HC0.out);rintro e w80 ⟨v346,rfl,ho0,hb⟩;refine ⟨_,rfl,?_⟩;have n0_:=Aside0.mk (Kd.R_elder' (by (with_reducible repeat (first|apply Kd.R_alloc|apply Kd.R_drewN|apply Kd.R_drew));exact HO_8.out) (Kd.R_base ho0) hb);have n1_:=Aside0.mk (Kd.R_elder' (by (with_reducible repeat (first|apply Kd.R_alloc|apply Kd.R_drewN|apply Kd.R_drew));exact HO_12.out) (Kd.R_base ho0) hb);have n2_:=Aside0.mk (Kd.R_lower (Kd.R_new' (Kd.R_new' ho0 (Kd.R_lt (by (with_reducible repeat (first|apply Kd.R_alloc|apply Kd.R_drewN|apply Kd.R_drew));exact HO_8.out))) (Kd.R_lt (by (with_reducible repeat (first|apply Kd.R_alloc|apply Kd.R_drewN|apply Kd.R_drew));exact HO_12.out))) (below_size (by repeat (first|exact HB.out|apply below_alloc|apply pw_below_drewN|apply below_drew1))));have n3_:=Aside0.mk (below_step (by repeat (first|exact HB.out|apply below_alloc|apply pw_below_drewN|apply below_drew1)) hb);clear HO_8;clear HO_12;clear HB;have HO_8:=n0_;have HO_12:=n1_;have HO347:=n2_;have HB:=n3_;clear n0_ n1_ n2_ n3_;(try clear hb);(try clear hb2);(try clear hk);(try clear hi);(try clear ho0))|((with_reducible refine gate_callee (f:=17) rfl ?_);refine goesL_ (some 102) rfl rfl Try.func17 (by kernel_rfl) rfl #[.slice A1 l1.length c1] rfl (by (try simp only [List.map_toArray,List.map_cons,List.map_nil]);first|done|rfl|(simp only [List.length_drop,List.length_take];rfl)) ?_;(with_reducible refine (laws_toPartS.calls kj46 _ _ l1 t348 _ ?side1 ?side2 A74.out).mono ?_);(case side1=>repeat (first|exact (Kd.C_below HR1.out HB.out)|(with_reducible first|apply Kd.C_alloc|apply Kd.C_drewN|apply Kd.C_drew)));(case side2=>exact HC1.out);rintro e w81 ⟨v349,rfl,ho0,hb⟩;refine ⟨_,rfl,?_⟩;have n0_:=Aside0.mk (Kd.R_elder' (by (with_reducible repeat (first|apply Kd.R_alloc|apply Kd.R_drewN|apply Kd.R_drew));exact HO_8.out) (Kd.R_base ho0) hb);have n1_:=Aside0.mk (Kd.R_elder' (by (with_reducible repeat (first|apply Kd.R_alloc|apply Kd.R_drewN|apply Kd.R_drew));exact HO_12.out) (Kd.R_base ho0) hb);have n2_:=Aside0.mk (Kd.R_elder' (by (with_reducible repeat (first|apply Kd.R_alloc|apply Kd.R_drewN|apply Kd.R_drew));exact HO347.out) (Kd.R_base ho0) hb);have n3_:=Aside0.mk (Kd.R_lower (Kd.R_new' (Kd.R_new' (Kd.R_new' ho0 (Kd.R_lt (by (with_reducible repeat (first|apply Kd.R_alloc|apply Kd.R_drewN|apply Kd.R_drew));exact HO_8.out))) (Kd.R_lt (by (with_reducible repeat (first|apply Kd.R_alloc|apply Kd.R_drewN|apply Kd.R_drew));exact HO_12.out))) (Kd.R_lt (by (with_reducible repeat (first|apply Kd.R_alloc|apply Kd.R_drewN|apply Kd.R_drew));exact HO347.out))) (below_size (by repeat (first|exact HB.out|apply below_alloc|apply pw_below_drewN|apply below_drew1))));have n4_:=Aside0.mk (below_step (by repeat (first|exact HB.out|apply below_alloc|apply pw_below_drewN|apply below_drew1)) hb);clear HO_8;clear HO_12;clear HO347;clear HB;have HO_8:=n0_;have HO_12:=n1_;have HO347:=n2_;have HO350:=n3_;have HB:=n4_;clear n0_ n1_ n2_ n3_ n4_;(try clear hb);(try clear hb2);(try clear hk);(try clear hi);(try clear ho0);obtain ⟨Ao82,co82,eo82⟩:=Kd.R_slice HO347.out;subst eo82;obtain ⟨Ao83,co83,eo83⟩:=Kd.R_slice HO350.out;subst eo83)|((with_reducible refine gate_callee (f:=41) rfl ?_);refine goesL_ (some 104) rfl rfl Try.func41 (by kernel_rfl) rfl #[.slice Ao82 t345.length co82,.slice Ao83 t348.length co83,.bool a2] rfl (by (try simp only [List.map_toArray,List.map_cons,List.map_nil]);first|done|rfl|(simp only [List.length_drop,List.length_take];rfl)) ?_;(with_reducible refine (impl_CarryChange.calls kj46 _ _ t345 _ _ t348 a2 t351 t352 _ ?side1 ?side2 ?side3 ?side4 A75.out).mono ?_);(case side1=>repeat (first|exact (Kd.R_reads' HO347.out).2.2|(with_reducible first|apply Kd.C_alloc|apply Kd.C_drewN|apply Kd.C_drew)));(case side2=>exact (Kd.R_reads' HO347.out).2.1);(case side3=>repeat (first|exact (Kd.R_reads' HO350.out).2.2|(with_reducible first|apply Kd.C_alloc|apply Kd.C_drewN|apply Kd.C_drew)));(case side4=>exact (Kd.R_reads' HO350.out).2.1);rintro e w84 ⟨v353,rfl,ho0,hb⟩;refine ⟨_,rfl,?_⟩;have n0_:=Aside0.mk (Kd.R_elder' (by (with_reducible repeat (first|apply Kd.R_alloc|apply Kd.R_drewN|apply Kd.R_drew));exact HO_8.out) (Kd.R_base ho0) hb);have n1_:=Aside0.mk (Kd.R_elder' (by (with_reducible repeat (first|apply Kd.R_alloc|apply Kd.R_drewN|apply Kd.R_drew));exact HO_12.out) (Kd.R_base ho0) hb);have n2_:=Aside0.mk (Kd.R_elder' (by (with_reducible repeat (first|apply Kd.R_alloc|apply Kd.R_drewN|apply Kd.R_drew));exact HO347.out) (Kd.R_base ho0) hb);have n3_:=Aside0.mk (Kd.R_elder' (by (with_reducible repeat (first|apply Kd.R_alloc|apply Kd.R_drewN|apply Kd.R_drew));exact HO350.out) (Kd.R_base ho0) hb);have n4_:=Aside0.mk (Kd.R_lower (Kd.R_new' (Kd.R_new' (Kd.R_new' (Kd.R_new' ho0 (Kd.R_lt (by (with_reducible repeat (first|apply Kd.R_alloc|apply Kd.R_drewN|apply Kd.R_drew));exact HO_8.out))) (Kd.R_lt (by (with_reducible repeat (first|apply Kd.R_alloc|apply Kd.R_drewN|apply Kd.R_drew));exact HO_12.out))) (Kd.R_lt (by (with_reducible repeat (first|apply Kd.R_alloc|apply Kd.R_drewN|apply Kd.R_drew));exact HO347.out))) (Kd.R_lt (by (with_reducible repeat (first|apply Kd.R_alloc|apply Kd.R_drewN|apply Kd.R_drew));exact HO350.out))) (below_size (by repeat (first|exact HB.out|apply below_alloc|apply pw_below_drewN|apply below_drew1))));have n5_:=Aside0.mk (below_step (by repeat (first|exact HB.out|apply below_alloc|apply pw_below_drewN|apply below_drew1)) hb);clear HO_8;clear HO_12;clear HO347;clear HO350;clear HB;have HO_8:=n0_;have HO_12:=n1_;have HO347:=n2_;have HO350:=n3_;have HO354:=n4_;have HB:=n5_;clear n0_ n1_ n2_ n3_ n4_ n5_;(try clear hb);(try clear hb2);(try clear hk);(try clear hi);(try clear ho0)))
             (try simp only [Act.put,List.setIfInBounds_toArray,List.set_cons_zero,List.set_cons_succ])
             go_cut [115] (fun v115 wc=>∃ (kq : Nat) (x115_75 : Bool),v115 = .bool x115_75∧Aside0 (laws_FnExactCarryChange.j2 kq t343 t342 x115_75 = some r)∧Aside0 (kq ≤ kj46)∧Aside0 (Kd.R k74 74 wc w.heap.size (fun _=>True) (.slice Ao77 t324.length co77) t343)∧Aside0 (Below w.heap.size w wc))
             case first =>
              have H:=HC76.out
              clear HC76
              replace H:=Option.bind_eq_some_iff.mp H
              obtain ⟨t355,A850,H⟩:=H
              replace H : (if t355 = true then (laws_FnExactCarryChange.j2 kj46 t343 t342 (t352 != t315)) else (laws_FnExactCarryChange.j2 kj46 t343 t342 true)) = some r:=H
              have A85:=Aside0.mk A850
              clear A850
              by_cases c86 : t355 = true
              ·subst c86
               have H1 : (laws_FnExactCarryChange.j2 kj46 t343 t342 (t352 != t315)) = some r:=by rw [if_pos rfl] at H;exact H
               clear H
               have H:=H1
               clear H1
               have H':=Aside0.mk H
               clear H
               obtain ⟨Ao87,co87,eo87⟩:=Kd.R_slice HO354.out
               subst eo87
               obtain ⟨Ao88,co88,eo88⟩:=Kd.R_slice HO_8.out
               subst eo88
               go_wp2_with (first|((with_reducible refine gate_callee (f:=19) rfl ?_);refine goesL_ (some 109) rfl rfl Try.func19 (by kernel_rfl) rfl #[.slice Ao87 t351.length co87,.slice Ao88 t314.length co88] rfl (by (try simp only [List.map_toArray,List.map_cons,List.map_nil]);first|done|rfl|(simp only [List.length_drop,List.length_take];rfl)) ?_;(with_reducible refine (laws_eqPartS.calls kj46 _ _ t351 _ _ t314 true _ ?side1 ?side2 ?side3 ?side4 A85.out).mono ?_);(case side1=>repeat (first|exact (Kd.R_reads' HO354.out).2.2|(with_reducible first|apply Kd.C_alloc|apply Kd.C_drewN|apply Kd.C_drew)));(case side2=>exact (Kd.R_reads' HO354.out).2.1);(case side3=>repeat (first|exact (Kd.R_reads' HO_8.out).2.2|(with_reducible first|apply Kd.C_alloc|apply Kd.C_drewN|apply Kd.C_drew)));(case side4=>exact (Kd.R_reads' HO_8.out).2.1);rintro e w89 ⟨rfl,hb⟩;refine ⟨_,rfl,?_⟩;have n0_:=Aside0.mk (Kd.R_below (by (with_reducible repeat (first|apply Kd.R_alloc|apply Kd.R_drewN|apply Kd.R_drew));exact HO_8.out) hb);have n1_:=Aside0.mk (Kd.R_below (by (with_reducible repeat (first|apply Kd.R_alloc|apply Kd.R_drewN|apply Kd.R_drew));exact HO_12.out) hb);have n2_:=Aside0.mk (Kd.R_below (by (with_reducible repeat (first|apply Kd.R_alloc|apply Kd.R_drewN|apply Kd.R_drew));exact HO347.out) hb);have n3_:=Aside0.mk (Kd.R_below (by (with_reducible repeat (first|apply Kd.R_alloc|apply Kd.R_drewN|apply Kd.R_drew));exact HO350.out) hb);have n4_:=Aside0.mk (Kd.R_below (by (with_reducible repeat (first|apply Kd.R_alloc|apply Kd.R_drewN|apply Kd.R_drew));exact HO354.out) hb);have n5_:=Aside0.mk (below_step (by repeat (first|exact HB.out|apply below_alloc|apply pw_below_drewN|apply below_drew1)) hb);clear HO_8;clear HO_12;clear HO347;clear HO350;clear HO354;clear HB;have HO_8:=n0_;have HO_12:=n1_;have HO347:=n2_;have HO350:=n3_;have HO354:=n4_;have HB:=n5_;clear n0_ n1_ n2_ n3_ n4_ n5_;(try clear hb);(try clear hb2);(try clear hk);(try clear hi)))
               go_meet
               case rel=>exact ⟨_,((t352 != t315)),(by first|rfl|(simp;done)|(simp [*];done)),H',⟨by have:=HJ16.out;have:=HJ46.out;first|omega|exact Nat.le_refl _⟩,⟨by (with_reducible repeat (first|apply Kd.R_alloc|apply Kd.R_drewN|apply Kd.R_drew));exact Kd.R_mono HO_12.out (fun _ hk=>trivial)⟩,⟨by repeat (first|exact HB.out|apply below_alloc|apply pw_below_drewN|apply below_drew1)⟩⟩
              ·replace c86:=Bool.eq_false_iff.mpr c86
               subst c86
               have H1 : (laws_FnExactCarryChange.j2 kj46 t343 t342 true) = some r:=by rw [if_neg (show ¬ (false = true) by decide)] at H;exact H
               clear H
               have H:=H1
               clear H1
               have H':=Aside0.mk H
               clear H
               obtain ⟨Ao90,co90,eo90⟩:=Kd.R_slice HO354.out
               subst eo90
               obtain ⟨Ao91,co91,eo91⟩:=Kd.R_slice HO_8.out
               subst eo91
               go_wp2_with (first|((with_reducible refine gate_callee (f:=19) rfl ?_);refine goesL_ (some 109) rfl rfl Try.func19 (by kernel_rfl) rfl #[.slice Ao90 t351.length co90,.slice Ao91 t314.length co91] rfl (by (try simp only [List.map_toArray,List.map_cons,List.map_nil]);first|done|rfl|(simp only [List.length_drop,List.length_take];rfl)) ?_;(with_reducible refine (laws_eqPartS.calls kj46 _ _ t351 _ _ t314 false _ ?side1 ?side2 ?side3 ?side4 A85.out).mono ?_);(case side1=>repeat (first|exact (Kd.R_reads' HO354.out).2.2|(with_reducible first|apply Kd.C_alloc|apply Kd.C_drewN|apply Kd.C_drew)));(case side2=>exact (Kd.R_reads' HO354.out).2.1);(case side3=>repeat (first|exact (Kd.R_reads' HO_8.out).2.2|(with_reducible first|apply Kd.C_alloc|apply Kd.C_drewN|apply Kd.C_drew)));(case side4=>exact (Kd.R_reads' HO_8.out).2.1);rintro e w92 ⟨rfl,hb⟩;refine ⟨_,rfl,?_⟩;have n0_:=Aside0.mk (Kd.R_below (by (with_reducible repeat (first|apply Kd.R_alloc|apply Kd.R_drewN|apply Kd.R_drew));exact HO_8.out) hb);have n1_:=Aside0.mk (Kd.R_below (by (with_reducible repeat (first|apply Kd.R_alloc|apply Kd.R_drewN|apply Kd.R_drew));exact HO_12.out) hb);have n2_:=Aside0.mk (Kd.R_below (by (with_reducible repeat (first|apply Kd.R_alloc|apply Kd.R_drewN|apply Kd.R_drew));exact HO347.out) hb);have n3_:=Aside0.mk (Kd.R_below (by (with_reducible repeat (first|apply Kd.R_alloc|apply Kd.R_drewN|apply Kd.R_drew));exact HO350.out) hb);have n4_:=Aside0.mk (Kd.R_below (by (with_reducible repeat (first|apply Kd.R_alloc|apply Kd.R_drewN|apply Kd.R_drew));exact HO354.out) hb);have n5_:=Aside0.mk (below_step (by repeat (first|exact HB.out|apply below_alloc|apply pw_below_drewN|apply below_drew1)) hb);clear HO_8;clear HO_12;clear HO347;clear HO350;clear HO354;clear HB;have HO_8:=n0_;have HO_12:=n1_;have HO347:=n2_;have HO350:=n3_;have HO354:=n4_;have HB:=n5_;clear n0_ n1_ n2_ n3_ n4_ n5_;(try clear hb);(try clear hb2);(try clear hk);(try clear hi)))
               go_meet
               case rel=>exact ⟨_,(true),(by first|rfl|(simp;done)|(simp [*];done)),H',⟨by have:=HJ16.out;have:=HJ46.out;first|omega|exact Nat.le_refl _⟩,⟨by (with_reducible repeat (first|apply Kd.R_alloc|apply Kd.R_drewN|apply Kd.R_drew));exact Kd.R_mono HO_12.out (fun _ hk=>trivial)⟩,⟨by repeat (first|exact HB.out|apply below_alloc|apply pw_below_drewN|apply below_drew1)⟩⟩
             case rest =>
              clear HC76
              try clear c1;try clear c2;try clear p2;try clear c3;try clear c4;try clear c5;try clear c5b0;try clear c6;try clear c7;try clear c8;try clear c8b0;try clear c11;try clear c15;try clear c17;try clear c19;try clear c29;try clear c31;try clear c35;try clear c38;try clear c40;try clear c41;try clear c44;try clear c56;try clear c56b0;try clear c58;try clear c65;try clear c68;try clear c68b0;try clear c72;try clear c72b0;try clear c72b1;try clear c86;try clear p2
              obtain ⟨kq,x115_75,rfl,HA,HJ75,HO_12,HB⟩:=hcut
              have hl12_75:=(Kd.R_reads' HO_12.out).1
              rw [hl12_75] at HO_12
              (try simp only [hl12_75])
              cases kq with
              | zero=>exact absurd HA.out (by simp [laws_FnExactCarryChange.j2])
              | succ kj75 =>
               have H:=HA.out
               clear HA
               simp only [laws_FnExactCarryChange.j2] at H
               by_cases c93 : x115_75 = true
               ·subst c93
                have H1 : (some false) = some r:=by rw [if_pos rfl] at H;exact H
                clear H
                have H:=H1
                clear H1
                obtain rfl:=Option.some.inj H
                go_wp2
                go_ret
                exact ⟨by first|rfl|(simp [*,errW_none,errW_some] <;> rfl),by repeat (first|exact HB.out|apply below_alloc|apply pw_below_drewN|apply below_drew1)⟩
               ·replace c93:=Bool.eq_false_iff.mpr c93
                subst c93
                have H1 : ((laws_heldPartS.f kj75 t343 1).bind fun t356=>(if t356 < 0 then (some false) else (if t356 = t342 then (some true) else (some false)))) = some r:=by rw [if_neg (show ¬ (false = true) by decide)] at H;exact H
                clear H
                have H:=H1
                clear H1
                replace H:=Option.bind_eq_some_iff.mp H
                obtain ⟨t356,A940,H⟩:=H
                replace H : (if t356 < 0 then (some false) else (if t356 = t342 then (some true) else (some false))) = some r:=H
                have A94:=Aside0.mk A940
                clear A940
                by_cases c95 : t356 < 0
                ·rw [if_pos c95] at H
                 have c95b0 : decide (t356 < 0) = true:=decide_eq_true c95
                 clear c95
                 obtain rfl:=Option.some.inj H
                 go_wp2_with (first|((with_reducible refine gate_callee (f:=35) rfl ?_);refine goesL_ (some 118) rfl rfl Try.func35 (by kernel_rfl) rfl #[.slice Ao77 t343.length co77,.int .i64 1] rfl (by (try simp only [List.map_toArray,List.map_cons,List.map_nil]);first|done|rfl|(simp only [List.length_drop,List.length_take];rfl)) ?_;(with_reducible refine (laws_heldPartS.calls kj75 _ _ t343 1 t356 _ ?side1 ?side2 A94.out).mono ?_);(case side1=>repeat (first|exact (Kd.R_reads' HO_12.out).2.2|(with_reducible first|apply Kd.C_alloc|apply Kd.C_drewN|apply Kd.C_drew)));(case side2=>exact (Kd.R_reads' HO_12.out).2.1);rintro e w96 ⟨rfl,hb⟩;refine ⟨_,rfl,?_⟩;have n0_:=Aside0.mk (Kd.R_below (by (with_reducible repeat (first|apply Kd.R_alloc|apply Kd.R_drewN|apply Kd.R_drew));exact HO_12.out) hb);have n1_:=Aside0.mk (below_step (by repeat (first|exact HB.out|apply below_alloc|apply pw_below_drewN|apply below_drew1)) hb);clear HO_12;clear HB;have HO_12:=n0_;have HB:=n1_;clear n0_ n1_;(try clear hb);(try clear hb2);(try clear hk);(try clear hi)))
                 go_ret
                 exact ⟨by first|rfl|(simp [*,errW_none,errW_some] <;> rfl),by repeat (first|exact HB.out|apply below_alloc|apply pw_below_drewN|apply below_drew1)⟩
                ·rw [if_neg c95] at H
                 have c95b0 : decide (t356 < 0) = false:=decide_eq_false c95
                 clear c95
                 by_cases c97 : t356 = t342
                 ·rw [if_pos c97] at H
                  have c97b0 : (t356 == t342) = true:=beq_iff_eq.mpr c97
                  have c97b1 : (t356 != t342) = false:=bne_eq_false_iff_eq.mpr c97
                  clear c97
                  obtain rfl:=Option.some.inj H
                  go_wp2_with (first|((with_reducible refine gate_callee (f:=35) rfl ?_);refine goesL_ (some 118) rfl rfl Try.func35 (by kernel_rfl) rfl #[.slice Ao77 t343.length co77,.int .i64 1] rfl (by (try simp only [List.map_toArray,List.map_cons,List.map_nil]);first|done|rfl|(simp only [List.length_drop,List.length_take];rfl)) ?_;(with_reducible refine (laws_heldPartS.calls kj75 _ _ t343 1 t356 _ ?side1 ?side2 A94.out).mono ?_);(case side1=>repeat (first|exact (Kd.R_reads' HO_12.out).2.2|(with_reducible first|apply Kd.C_alloc|apply Kd.C_drewN|apply Kd.C_drew)));(case side2=>exact (Kd.R_reads' HO_12.out).2.1);rintro e w98 ⟨rfl,hb⟩;refine ⟨_,rfl,?_⟩;have n0_:=Aside0.mk (Kd.R_below (by (with_reducible repeat (first|apply Kd.R_alloc|apply Kd.R_drewN|apply Kd.R_drew));exact HO_12.out) hb);have n1_:=Aside0.mk (below_step (by repeat (first|exact HB.out|apply below_alloc|apply pw_below_drewN|apply below_drew1)) hb);clear HO_12;clear HB;have HO_12:=n0_;have HB:=n1_;clear n0_ n1_;(try clear hb);(try clear hb2);(try clear hk);(try clear hi)))
                  go_ret
                  exact ⟨by first|rfl|(simp [*,errW_none,errW_some] <;> rfl),by repeat (first|exact HB.out|apply below_alloc|apply pw_below_drewN|apply below_drew1)⟩
                 ·rw [if_neg c97] at H
                  have c97b0 : (t356 == t342) = false:=beq_eq_false_iff_ne.mpr c97
                  have c97b1 : (t356 != t342) = true:=bne_iff_ne.mpr c97
                  obtain rfl:=Option.some.inj H
                  go_wp2_with (first|((with_reducible refine gate_callee (f:=35) rfl ?_);refine goesL_ (some 118) rfl rfl Try.func35 (by kernel_rfl) rfl #[.slice Ao77 t343.length co77,.int .i64 1] rfl (by (try simp only [List.map_toArray,List.map_cons,List.map_nil]);first|done|rfl|(simp only [List.length_drop,List.length_take];rfl)) ?_;(with_reducible refine (laws_heldPartS.calls kj75 _ _ t343 1 t356 _ ?side1 ?side2 A94.out).mono ?_);(case side1=>repeat (first|exact (Kd.R_reads' HO_12.out).2.2|(with_reducible first|apply Kd.C_alloc|apply Kd.C_drewN|apply Kd.C_drew)));(case side2=>exact (Kd.R_reads' HO_12.out).2.1);rintro e w99 ⟨rfl,hb⟩;refine ⟨_,rfl,?_⟩;have n0_:=Aside0.mk (Kd.R_below (by (with_reducible repeat (first|apply Kd.R_alloc|apply Kd.R_drewN|apply Kd.R_drew));exact HO_12.out) hb);have n1_:=Aside0.mk (below_step (by repeat (first|exact HB.out|apply below_alloc|apply pw_below_drewN|apply below_drew1)) hb);clear HO_12;clear HB;have HO_12:=n0_;have HB:=n1_;clear n0_ n1_;(try clear hb);(try clear hb2);(try clear hk);(try clear hi)))
                  go_ret
                  exact ⟨by first|rfl|(simp [*,errW_none,errW_some] <;> rfl),by repeat (first|exact HB.out|apply below_alloc|apply pw_below_drewN|apply below_drew1)⟩
            ·rw [if_neg c72] at H
             have c72b0 : (t344 == t342) = false:=beq_eq_false_iff_ne.mpr c72
             have c72b1 : (t344 != t342) = true:=bne_iff_ne.mpr c72
             obtain rfl:=Option.some.inj H
             obtain ⟨Ao100,co100,eo100⟩:=Kd.R_slice HO_12.out
             subst eo100
             go_wp2_with (first|((with_reducible refine gate_callee (f:=29) rfl ?_);refine goesL_ (some 89) rfl rfl Try.func29 (by kernel_rfl) rfl #[.slice Ao100 t324.length co100,.int .i64 1] rfl (by (try simp only [List.map_toArray,List.map_cons,List.map_nil]);first|done|rfl|(simp only [List.length_drop,List.length_take];rfl)) ?_;(with_reducible refine (laws_markPartS.calls kj46 (fun k_=>some k_ = (.slice Ao100 t324.length co100 : Value).ownBlock) (.slice Ao100 t324.length co100) t324 1 t342 t343 w _ ?side1 ?side2 A66.out).mono ?_);(case side1=>repeat (first|exact HB.out|apply below_alloc|apply pw_below_drewN|apply below_drew1));(case side2=>exact Kd.R_tight rfl HO_12.out);rintro e w101 ⟨rfl,hy0,hb,hkp⟩;refine ⟨_,rfl,?_⟩;have n0_:=Aside0.mk (Kd.R_mono (ok':=fun k_=>some k_ ≠ (.slice Ao100 t324.length co100 : Value).ownBlock) (Kd.R_keptB (HO_8.out) hkp (fun k_ hk_ hs_=>(hk_) hs_)) (fun k_ hk_=>hk_.1));have n1_:=Aside0.mk (Kd.R_reok rfl hy0 (fun k_ e_=>HO_12.out.1 k_ e_));have n2_:=Aside0.mk (hb);clear HO_8;clear HO_12;clear HB;have HO_8:=n0_;have HO_12:=n1_;have HB:=n2_;clear n0_ n1_ n2_;(try clear hb);(try clear hkp);(try clear hbx);(try clear hy0))|((with_reducible refine gate_callee (f:=35) rfl ?_);refine goesL_ (some 92) rfl rfl Try.func35 (by kernel_rfl) rfl #[.slice Ao100 t343.length co100,.int .i64 1] rfl (by (try simp only [List.map_toArray,List.map_cons,List.map_nil]);first|done|(rw [show t343.length = t324.length from (Kd.R_reads' HO_12.out).1.symm] <;> rfl)|rfl|(simp only [List.length_drop,List.length_take];rfl)) ?_;(with_reducible refine (laws_heldPartS.calls kj46 _ _ t343 1 t344 _ ?side1 ?side2 A67.out).mono ?_);(case side1=>repeat (first|exact (Kd.R_reads' HO_12.out).2.2|(with_reducible first|apply Kd.C_alloc|apply Kd.C_drewN|apply Kd.C_drew)));(case side2=>rw [show t343.length = t324.length from (Kd.R_reads' HO_12.out).1.symm];exact (Kd.R_reads' HO_12.out).2.1);rintro e w102 ⟨rfl,hb⟩;refine ⟨_,rfl,?_⟩;have n0_:=Aside0.mk (Kd.R_below (by (with_reducible repeat (first|apply Kd.R_alloc|apply Kd.R_drewN|apply Kd.R_drew));exact HO_8.out) hb);have n1_:=Aside0.mk (Kd.R_below (by (with_reducible repeat (first|apply Kd.R_alloc|apply Kd.R_drewN|apply Kd.R_drew));exact HO_12.out) hb);have n2_:=Aside0.mk (below_step (by repeat (first|exact HB.out|apply below_alloc|apply pw_below_drewN|apply below_drew1)) hb);clear HO_8;clear HO_12;clear HB;have HO_8:=n0_;have HO_12:=n1_;have HB:=n2_;clear n0_ n1_ n2_;(try clear hb);(try clear hb2);(try clear hk);(try clear hi)))
             go_ret
             exact ⟨by first|rfl|(simp [*,errW_none,errW_some] <;> rfl),by repeat (first|exact HB.out|apply below_alloc|apply pw_below_drewN|apply below_drew1)⟩
       ·replace c44:=Bool.eq_false_iff.mpr c44
        subst c44
        have H1 : (some false) = some r:=by rw [if_neg (show ¬ (false = true) by decide)] at H;exact H
        clear H
        have H:=H1
        clear H1
        obtain rfl:=Option.some.inj H
        go_wp2_with (first|((with_reducible refine gate_callee (f:=17) rfl ?_);refine goesL_ (some 60) rfl rfl Try.func17 (by kernel_rfl) rfl #[.slice A0 l0.length c0] rfl (by (try simp only [List.map_toArray,List.map_cons,List.map_nil]);first|done|rfl|(simp only [List.length_drop,List.length_take];rfl)) ?_;(with_reducible refine (laws_toPartS.calls kj16 _ _ l0 t329 _ ?side1 ?side2 A39.out).mono ?_);(case side1=>repeat (first|exact (Kd.C_below HR0.out HB.out)|(with_reducible first|apply Kd.C_alloc|apply Kd.C_drewN|apply Kd.C_drew)));(case side2=>exact HC0.out);rintro e w103 ⟨v330,rfl,ho0,hb⟩;refine ⟨_,rfl,?_⟩;have n0_:=Aside0.mk (Kd.R_elder' (by (with_reducible repeat (first|apply Kd.R_alloc|apply Kd.R_drewN|apply Kd.R_drew));exact HO_8.out) (Kd.R_base ho0) hb);have n1_:=Aside0.mk (Kd.R_elder' (by (with_reducible repeat (first|apply Kd.R_alloc|apply Kd.R_drewN|apply Kd.R_drew));exact HO_10.out) (Kd.R_base ho0) hb);have n2_:=Aside0.mk (Kd.R_elder' (by (with_reducible repeat (first|apply Kd.R_alloc|apply Kd.R_drewN|apply Kd.R_drew));exact HO_11.out) (Kd.R_base ho0) hb);have n3_:=Aside0.mk (Kd.R_elder' (by (with_reducible repeat (first|apply Kd.R_alloc|apply Kd.R_drewN|apply Kd.R_drew));exact HO_12.out) (Kd.R_base ho0) hb);have n4_:=Aside0.mk (Kd.R_lower (Kd.R_new' (Kd.R_new' (Kd.R_new' (Kd.R_new' ho0 (Kd.R_lt (by (with_reducible repeat (first|apply Kd.R_alloc|apply Kd.R_drewN|apply Kd.R_drew));exact HO_8.out))) (Kd.R_lt (by (with_reducible repeat (first|apply Kd.R_alloc|apply Kd.R_drewN|apply Kd.R_drew));exact HO_10.out))) (Kd.R_lt (by (with_reducible repeat (first|apply Kd.R_alloc|apply Kd.R_drewN|apply Kd.R_drew));exact HO_11.out))) (Kd.R_lt (by (with_reducible repeat (first|apply Kd.R_alloc|apply Kd.R_drewN|apply Kd.R_drew));exact HO_12.out))) (below_size (by repeat (first|exact HB.out|apply below_alloc|apply pw_below_drewN|apply below_drew1))));have n5_:=Aside0.mk (below_step (by repeat (first|exact HB.out|apply below_alloc|apply pw_below_drewN|apply below_drew1)) hb);clear HO_8;clear HO_10;clear HO_11;clear HO_12;clear HB;have HO_8:=n0_;have HO_10:=n1_;have HO_11:=n2_;have HO_12:=n3_;have HO331:=n4_;have HB:=n5_;clear n0_ n1_ n2_ n3_ n4_ n5_;(try clear hb);(try clear hb2);(try clear hk);(try clear hi);(try clear ho0);obtain ⟨Ao104,co104,eo104⟩:=Kd.R_slice HO331.out;subst eo104)|((with_reducible refine gate_callee (f:=19) rfl ?_);refine goesL_ (some 61) rfl rfl Try.func19 (by kernel_rfl) rfl #[.slice Ao27 t318.length co27,.slice Ao104 t329.length co104] rfl (by (try simp only [List.map_toArray,List.map_cons,List.map_nil]);first|done|rfl|(simp only [List.length_drop,List.length_take];rfl)) ?_;(with_reducible refine (laws_eqPartS.calls kj16 _ _ t318 _ _ t329 true _ ?side1 ?side2 ?side3 ?side4 A40.out).mono ?_);(case side1=>repeat (first|exact (Kd.R_reads' HO_10.out).2.2|(with_reducible first|apply Kd.C_alloc|apply Kd.C_drewN|apply Kd.C_drew)));(case side2=>exact (Kd.R_reads' HO_10.out).2.1);(case side3=>repeat (first|exact (Kd.R_reads' HO331.out).2.2|(with_reducible first|apply Kd.C_alloc|apply Kd.C_drewN|apply Kd.C_drew)));(case side4=>exact (Kd.R_reads' HO331.out).2.1);rintro e w105 ⟨rfl,hb⟩;refine ⟨_,rfl,?_⟩;have n0_:=Aside0.mk (Kd.R_below (by (with_reducible repeat (first|apply Kd.R_alloc|apply Kd.R_drewN|apply Kd.R_drew));exact HO_8.out) hb);have n1_:=Aside0.mk (Kd.R_below (by (with_reducible repeat (first|apply Kd.R_alloc|apply Kd.R_drewN|apply Kd.R_drew));exact HO_10.out) hb);have n2_:=Aside0.mk (Kd.R_below (by (with_reducible repeat (first|apply Kd.R_alloc|apply Kd.R_drewN|apply Kd.R_drew));exact HO_11.out) hb);have n3_:=Aside0.mk (Kd.R_below (by (with_reducible repeat (first|apply Kd.R_alloc|apply Kd.R_drewN|apply Kd.R_drew));exact HO_12.out) hb);have n4_:=Aside0.mk (Kd.R_below (by (with_reducible repeat (first|apply Kd.R_alloc|apply Kd.R_drewN|apply Kd.R_drew));exact HO331.out) hb);have n5_:=Aside0.mk (below_step (by repeat (first|exact HB.out|apply below_alloc|apply pw_below_drewN|apply below_drew1)) hb);clear HO_8;clear HO_10;clear HO_11;clear HO_12;clear HO331;clear HB;have HO_8:=n0_;have HO_10:=n1_;have HO_11:=n2_;have HO_12:=n3_;have HO331:=n4_;have HB:=n5_;clear n0_ n1_ n2_ n3_ n4_ n5_;(try clear hb);(try clear hb2);(try clear hk);(try clear hi))|((with_reducible refine gate_callee (f:=17) rfl ?_);refine goesL_ (some 65) rfl rfl Try.func17 (by kernel_rfl) rfl #[.slice A1 l1.length c1] rfl (by (try simp only [List.map_toArray,List.map_cons,List.map_nil]);first|done|rfl|(simp only [List.length_drop,List.length_take];rfl)) ?_;(with_reducible refine (laws_toPartS.calls kj16 _ _ l1 t333 _ ?side1 ?side2 A42.out).mono ?_);(case side1=>repeat (first|exact (Kd.C_below HR1.out HB.out)|(with_reducible first|apply Kd.C_alloc|apply Kd.C_drewN|apply Kd.C_drew)));(case side2=>exact HC1.out);rintro e w106 ⟨v334,rfl,ho0,hb⟩;refine ⟨_,rfl,?_⟩;have n0_:=Aside0.mk (Kd.R_elder' (by (with_reducible repeat (first|apply Kd.R_alloc|apply Kd.R_drewN|apply Kd.R_drew));exact HO_8.out) (Kd.R_base ho0) hb);have n1_:=Aside0.mk (Kd.R_elder' (by (with_reducible repeat (first|apply Kd.R_alloc|apply Kd.R_drewN|apply Kd.R_drew));exact HO_10.out) (Kd.R_base ho0) hb);have n2_:=Aside0.mk (Kd.R_elder' (by (with_reducible repeat (first|apply Kd.R_alloc|apply Kd.R_drewN|apply Kd.R_drew));exact HO_11.out) (Kd.R_base ho0) hb);have n3_:=Aside0.mk (Kd.R_elder' (by (with_reducible repeat (first|apply Kd.R_alloc|apply Kd.R_drewN|apply Kd.R_drew));exact HO_12.out) (Kd.R_base ho0) hb);have n4_:=Aside0.mk (Kd.R_elder' (by (with_reducible repeat (first|apply Kd.R_alloc|apply Kd.R_drewN|apply Kd.R_drew));exact HO331.out) (Kd.R_base ho0) hb);have n5_:=Aside0.mk (Kd.R_lower (Kd.R_new' (Kd.R_new' (Kd.R_new' (Kd.R_new' (Kd.R_new' ho0 (Kd.R_lt (by (with_reducible repeat (first|apply Kd.R_alloc|apply Kd.R_drewN|apply Kd.R_drew));exact HO_8.out))) (Kd.R_lt (by (with_reducible repeat (first|apply Kd.R_alloc|apply Kd.R_drewN|apply Kd.R_drew));exact HO_10.out))) (Kd.R_lt (by (with_reducible repeat (first|apply Kd.R_alloc|apply Kd.R_drewN|apply Kd.R_drew));exact HO_11.out))) (Kd.R_lt (by (with_reducible repeat (first|apply Kd.R_alloc|apply Kd.R_drewN|apply Kd.R_drew));exact HO_12.out))) (Kd.R_lt (by (with_reducible repeat (first|apply Kd.R_alloc|apply Kd.R_drewN|apply Kd.R_drew));exact HO331.out))) (below_size (by repeat (first|exact HB.out|apply below_alloc|apply pw_below_drewN|apply below_drew1))));have n6_:=Aside0.mk (below_step (by repeat (first|exact HB.out|apply below_alloc|apply pw_below_drewN|apply below_drew1)) hb);clear HO_8;clear HO_10;clear HO_11;clear HO_12;clear HO331;clear HB;have HO_8:=n0_;have HO_10:=n1_;have HO_11:=n2_;have HO_12:=n3_;have HO331:=n4_;have HO335:=n5_;have HB:=n6_;clear n0_ n1_ n2_ n3_ n4_ n5_ n6_;(try clear hb);(try clear hb2);(try clear hk);(try clear hi);(try clear ho0);obtain ⟨Ao107,co107,eo107⟩:=Kd.R_slice HO335.out;subst eo107)|((with_reducible refine gate_callee (f:=19) rfl ?_);refine goesL_ (some 66) rfl rfl Try.func19 (by kernel_rfl) rfl #[.slice Ao28 t321.length co28,.slice Ao107 t333.length co107] rfl (by (try simp only [List.map_toArray,List.map_cons,List.map_nil]);first|done|rfl|(simp only [List.length_drop,List.length_take];rfl)) ?_;(with_reducible refine (laws_eqPartS.calls kj16 _ _ t321 _ _ t333 false _ ?side1 ?side2 ?side3 ?side4 A43.out).mono ?_);(case side1=>repeat (first|exact (Kd.R_reads' HO_11.out).2.2|(with_reducible first|apply Kd.C_alloc|apply Kd.C_drewN|apply Kd.C_drew)));(case side2=>exact (Kd.R_reads' HO_11.out).2.1);(case side3=>repeat (first|exact (Kd.R_reads' HO335.out).2.2|(with_reducible first|apply Kd.C_alloc|apply Kd.C_drewN|apply Kd.C_drew)));(case side4=>exact (Kd.R_reads' HO335.out).2.1);rintro e w108 ⟨rfl,hb⟩;refine ⟨_,rfl,?_⟩;have n0_:=Aside0.mk (Kd.R_below (by (with_reducible repeat (first|apply Kd.R_alloc|apply Kd.R_drewN|apply Kd.R_drew));exact HO_8.out) hb);have n1_:=Aside0.mk (Kd.R_below (by (with_reducible repeat (first|apply Kd.R_alloc|apply Kd.R_drewN|apply Kd.R_drew));exact HO_10.out) hb);have n2_:=Aside0.mk (Kd.R_below (by (with_reducible repeat (first|apply Kd.R_alloc|apply Kd.R_drewN|apply Kd.R_drew));exact HO_11.out) hb);have n3_:=Aside0.mk (Kd.R_below (by (with_reducible repeat (first|apply Kd.R_alloc|apply Kd.R_drewN|apply Kd.R_drew));exact HO_12.out) hb);have n4_:=Aside0.mk (Kd.R_below (by (with_reducible repeat (first|apply Kd.R_alloc|apply Kd.R_drewN|apply Kd.R_drew));exact HO331.out) hb);have n5_:=Aside0.mk (Kd.R_below (by (with_reducible repeat (first|apply Kd.R_alloc|apply Kd.R_drewN|apply Kd.R_drew));exact HO335.out) hb);have n6_:=Aside0.mk (below_step (by repeat (first|exact HB.out|apply below_alloc|apply pw_below_drewN|apply below_drew1)) hb);clear HO_8;clear HO_10;clear HO_11;clear HO_12;clear HO331;clear HO335;clear HB;have HO_8:=n0_;have HO_10:=n1_;have HO_11:=n2_;have HO_12:=n3_;have HO331:=n4_;have HO335:=n5_;have HB:=n6_;clear n0_ n1_ n2_ n3_ n4_ n5_ n6_;(try clear hb);(try clear hb2);(try clear hk);(try clear hi)))
        go_ret
        exact ⟨by first|rfl|(simp [*,errW_none,errW_some] <;> rfl),by repeat (first|exact HB.out|apply below_alloc|apply pw_below_drewN|apply below_drew1)⟩
      ·replace c41:=Bool.eq_false_iff.mpr c41
       subst c41
       have H1 : (some false) = some r:=by rw [if_neg (show ¬ (false = true) by decide)] at H;exact H
       clear H
       have H:=H1
       clear H1
       obtain rfl:=Option.some.inj H
       go_wp2_with (first|((with_reducible refine gate_callee (f:=17) rfl ?_);refine goesL_ (some 60) rfl rfl Try.func17 (by kernel_rfl) rfl #[.slice A0 l0.length c0] rfl (by (try simp only [List.map_toArray,List.map_cons,List.map_nil]);first|done|rfl|(simp only [List.length_drop,List.length_take];rfl)) ?_;(with_reducible refine (laws_toPartS.calls kj16 _ _ l0 t329 _ ?side1 ?side2 A39.out).mono ?_);(case side1=>repeat (first|exact (Kd.C_below HR0.out HB.out)|(with_reducible first|apply Kd.C_alloc|apply Kd.C_drewN|apply Kd.C_drew)));(case side2=>exact HC0.out);rintro e w109 ⟨v330,rfl,ho0,hb⟩;refine ⟨_,rfl,?_⟩;have n0_:=Aside0.mk (Kd.R_elder' (by (with_reducible repeat (first|apply Kd.R_alloc|apply Kd.R_drewN|apply Kd.R_drew));exact HO_8.out) (Kd.R_base ho0) hb);have n1_:=Aside0.mk (Kd.R_elder' (by (with_reducible repeat (first|apply Kd.R_alloc|apply Kd.R_drewN|apply Kd.R_drew));exact HO_10.out) (Kd.R_base ho0) hb);have n2_:=Aside0.mk (Kd.R_elder' (by (with_reducible repeat (first|apply Kd.R_alloc|apply Kd.R_drewN|apply Kd.R_drew));exact HO_11.out) (Kd.R_base ho0) hb);have n3_:=Aside0.mk (Kd.R_elder' (by (with_reducible repeat (first|apply Kd.R_alloc|apply Kd.R_drewN|apply Kd.R_drew));exact HO_12.out) (Kd.R_base ho0) hb);have n4_:=Aside0.mk (Kd.R_lower (Kd.R_new' (Kd.R_new' (Kd.R_new' (Kd.R_new' ho0 (Kd.R_lt (by (with_reducible repeat (first|apply Kd.R_alloc|apply Kd.R_drewN|apply Kd.R_drew));exact HO_8.out))) (Kd.R_lt (by (with_reducible repeat (first|apply Kd.R_alloc|apply Kd.R_drewN|apply Kd.R_drew));exact HO_10.out))) (Kd.R_lt (by (with_reducible repeat (first|apply Kd.R_alloc|apply Kd.R_drewN|apply Kd.R_drew));exact HO_11.out))) (Kd.R_lt (by (with_reducible repeat (first|apply Kd.R_alloc|apply Kd.R_drewN|apply Kd.R_drew));exact HO_12.out))) (below_size (by repeat (first|exact HB.out|apply below_alloc|apply pw_below_drewN|apply below_drew1))));have n5_:=Aside0.mk (below_step (by repeat (first|exact HB.out|apply below_alloc|apply pw_below_drewN|apply below_drew1)) hb);clear HO_8;clear HO_10;clear HO_11;clear HO_12;clear HB;have HO_8:=n0_;have HO_10:=n1_;have HO_11:=n2_;have HO_12:=n3_;have HO331:=n4_;have HB:=n5_;clear n0_ n1_ n2_ n3_ n4_ n5_;(try clear hb);(try clear hb2);(try clear hk);(try clear hi);(try clear ho0);obtain ⟨Ao110,co110,eo110⟩:=Kd.R_slice HO331.out;subst eo110)|((with_reducible refine gate_callee (f:=19) rfl ?_);refine goesL_ (some 61) rfl rfl Try.func19 (by kernel_rfl) rfl #[.slice Ao27 t318.length co27,.slice Ao110 t329.length co110] rfl (by (try simp only [List.map_toArray,List.map_cons,List.map_nil]);first|done|rfl|(simp only [List.length_drop,List.length_take];rfl)) ?_;(with_reducible refine (laws_eqPartS.calls kj16 _ _ t318 _ _ t329 false _ ?side1 ?side2 ?side3 ?side4 A40.out).mono ?_);(case side1=>repeat (first|exact (Kd.R_reads' HO_10.out).2.2|(with_reducible first|apply Kd.C_alloc|apply Kd.C_drewN|apply Kd.C_drew)));(case side2=>exact (Kd.R_reads' HO_10.out).2.1);(case side3=>repeat (first|exact (Kd.R_reads' HO331.out).2.2|(with_reducible first|apply Kd.C_alloc|apply Kd.C_drewN|apply Kd.C_drew)));(case side4=>exact (Kd.R_reads' HO331.out).2.1);rintro e w111 ⟨rfl,hb⟩;refine ⟨_,rfl,?_⟩;have n0_:=Aside0.mk (Kd.R_below (by (with_reducible repeat (first|apply Kd.R_alloc|apply Kd.R_drewN|apply Kd.R_drew));exact HO_8.out) hb);have n1_:=Aside0.mk (Kd.R_below (by (with_reducible repeat (first|apply Kd.R_alloc|apply Kd.R_drewN|apply Kd.R_drew));exact HO_10.out) hb);have n2_:=Aside0.mk (Kd.R_below (by (with_reducible repeat (first|apply Kd.R_alloc|apply Kd.R_drewN|apply Kd.R_drew));exact HO_11.out) hb);have n3_:=Aside0.mk (Kd.R_below (by (with_reducible repeat (first|apply Kd.R_alloc|apply Kd.R_drewN|apply Kd.R_drew));exact HO_12.out) hb);have n4_:=Aside0.mk (Kd.R_below (by (with_reducible repeat (first|apply Kd.R_alloc|apply Kd.R_drewN|apply Kd.R_drew));exact HO331.out) hb);have n5_:=Aside0.mk (below_step (by repeat (first|exact HB.out|apply below_alloc|apply pw_below_drewN|apply below_drew1)) hb);clear HO_8;clear HO_10;clear HO_11;clear HO_12;clear HO331;clear HB;have HO_8:=n0_;have HO_10:=n1_;have HO_11:=n2_;have HO_12:=n3_;have HO331:=n4_;have HB:=n5_;clear n0_ n1_ n2_ n3_ n4_ n5_;(try clear hb);(try clear hb2);(try clear hk);(try clear hi)))
       go_ret
       exact ⟨by first|rfl|(simp [*,errW_none,errW_some] <;> rfl),by repeat (first|exact HB.out|apply below_alloc|apply pw_below_drewN|apply below_drew1)⟩

end Go.Proofs.Ytebmncdjlmnbnaa.PFnExactCarryChange
