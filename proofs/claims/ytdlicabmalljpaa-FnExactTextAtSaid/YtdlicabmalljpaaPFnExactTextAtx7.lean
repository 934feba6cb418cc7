-- Written by a program of this session over the print of the kit (wip/t/patch_print.py).
import Derived.Test.YtdlicabmalljpaaPFnExactTextAtx0
import Derived.Test.YtdlicabmalljpaaPFnExactTextAtx5
import Derived.Test.YtdlicabmalljpaaPFnExactTextAtx6
namespace Go.Proofs.Ytdlicabmalljpaa.PFnExactTextAt
open Go.RowKit Go.Proofs.YtdlicabmalljpaaW.PrintWords Go.Proofs.YtdlicabmalljpaaW.PrintLast Go.Proofs.YtdlicabmalljpaaW.PrintMore
attribute [local go_sem] max2_int min2_int max_two min_two max_three min_three max_four min_four   -- for this text's walks alone
set_option linter.unusedVariables false
set_option linter.unusedSimpArgs false

/-! ### impl_LengthsOf: function 60 -/
def impl_LengthsOf.f (k : Nat) (l0 : List (S89)) : Option (Int × Int × Bool):=(impl_GoodChange.f k l0).bind fun t219=>(if t219 = true then ((impl_lengths.f k l0).bind fun bt220=>(some (bt220.1,bt220.2.1,bt220.2.2))) else (some (0,0,false)))
theorem impl_LengthsOf.mono : ∀ a0 k,LeO (impl_LengthsOf.f k a0) (impl_LengthsOf.f (k + 1) a0):=by
 intro a0 k
 unfold impl_LengthsOf.f
 repeat' first
   | (with_reducible exact impl_GoodChange.mono _ _)
   | (with_reducible exact impl_lengths.mono _ _)
   | (with_reducible exact LeO.refl _)
   | (with_reducible exact LeO.none _)
   | (with_reducible refine LeO.ite ?_ ?_)
   | (with_reducible refine LeO.bind ?_ (fun _=>?_))
   | exact impl_GoodChange.mono _ _
   | exact impl_lengths.mono _ _
   | exact LeO.none _
   | refine LeO.ite ?_ ?_
   | refine LeO.bind ?_ (fun _=>?_)
set_option maxHeartbeats 8000000 in
set_option maxRecDepth 100000 in
theorem impl_LengthsOf.calls (k : Nat) (A0 : Option Addr) (c0 : Nat) (l0 : List (S89)) (r1 : Int) (r2 : Int) (r3 : Bool) (w : World) (hr0 : Kd.C k89 w A0 l0.length l0) (hc0 : l0.length ≤ c0) (h : impl_LengthsOf.f k l0 = some (r1,r2,r3)) :
  Calls Try.prog 60 #[.slice A0 l0.length c0] w fun e w'=>e = .returned (.tuple #[.int .i64 r1,.int .i64 r2,.bool r3])∧Below w.heap.size w w':=by
 have HR0:=Aside0.mk hr0
 have HC0:=Aside0.mk hc0
 clear hr0 hc0
 have HB:=Aside0.mk (Below.refl w.heap.size w)
 have H : ((impl_GoodChange.f k l0).bind fun t219=>(if t219 = true then ((impl_lengths.f k l0).bind fun bt220=>(some (bt220.1,bt220.2.1,bt220.2.2))) else (some (0,0,false)))) = some (r1,r2,r3):=h
 clear h
 replace H:=Option.bind_eq_some_iff.mp H
 obtain ⟨t219,A20,H⟩:=H
 replace H : (if t219 = true then ((impl_lengths.f k l0).bind fun bt220=>(some (bt220.1,bt220.2.1,bt220.2.2))) else (some (0,0,false))) = some (r1,r2,r3):=H
 have A2:=Aside0.mk A20
 clear A20
 by_cases c3 : t219 = true
 ·subst c3
  have H1 : ((impl_lengths.f k l0).bind fun bt220=>(some (bt220.1,bt220.2.1,bt220.2.2))) = some (r1,r2,r3):=by rw [if_pos rfl] at H;exact H
  clear H
  have H:=H1
  clear H1
  replace H:=Option.bind_eq_some_iff.mp H
  obtain ⟨⟨t220,t221,t222⟩,A40,H⟩:=H
  replace H : (some (t220,t221,t222)) = some (r1,r2,r3):=H
  have A4:=Aside0.mk A40
  clear A40
  simp only [Option.some.injEq,Prod.mk.injEq] at H
  obtain ⟨rfl,rfl,rfl⟩:=H
  go_enter Try.func60,Try.ntmps60
  go_wp2_with (first|((with_reducible refine gate_callee (f:=80) rfl ?_);refine goesL_ (some 6) rfl rfl Try.func80 (by kernel_rfl) rfl #[.slice A0 l0.length c0] rfl (by (try simp only [List.map_toArray,List.map_cons,List.map_nil]);first|done|rfl|(simp only [List.length_drop,List.length_take];rfl)) ?_;(with_reducible refine (impl_GoodChange.calls k _ _ l0 true _ ?side1 ?side2 A2.out).mono ?_);(case side1=>repeat (first|exact HR0.out|(with_reducible first|apply Kd.C_alloc|apply Kd.C_drewN|apply Kd.C_drew)));(case side2=>exact HC0.out);rintro e w5 ⟨rfl,hb⟩;refine ⟨_,rfl,?_⟩;have n0_:=Aside0.mk (below_step (by repeat (first|exact HB.out|apply below_alloc|apply pw_below_drewN|apply below_drew1)) hb);clear HB;have HB:=n0_;clear n0_;(try clear hb);(try clear hb2);(try clear hk);(try clear hi))|((with_reducible refine gate_callee (f:=81) rfl ?_);refine goesL_ (some 9) rfl rfl Try.func81 (by kernel_rfl) rfl #[.slice A0 l0.length c0] rfl (by (try simp only [List.map_toArray,List.map_cons,List.map_nil]);first|done|rfl|(simp only [List.length_drop,List.length_take];rfl)) ?_;(with_reducible refine (impl_lengths.calls k _ _ l0 t220 t221 t222 _ ?side1 ?side2 A4.out).mono ?_);(case side1=>repeat (first|exact (Kd.C_below HR0.out HB.out)|(with_reducible first|apply Kd.C_alloc|apply Kd.C_drewN|apply Kd.C_drew)));(case side2=>exact HC0.out);rintro e w6 ⟨rfl,hb⟩;refine ⟨_,rfl,?_⟩;have n0_:=Aside0.mk (below_step (by repeat (first|exact HB.out|apply below_alloc|apply pw_below_drewN|apply below_drew1)) hb);clear HB;have HB:=n0_;clear n0_;(try clear hb);(try clear hb2);(try clear hk);(try clear hi)))
  go_ret3
  exact ⟨by first|rfl|(simp [*,errW_none,errW_some] <;> rfl),by repeat (first|exact HB.out|apply below_alloc|apply pw_below_drewN|apply below_drew1)⟩
 ·replace c3:=Bool.eq_false_iff.mpr c3
  subst c3
  have H1 : (some (0,0,false)) = some (r1,r2,r3):=by rw [if_neg (show ¬ (false = true) by decide)] at H;exact H
  clear H
  have H:=H1
  clear H1
  simp only [Option.some.injEq,Prod.mk.injEq] at H
  obtain ⟨rfl,rfl,rfl⟩:=H
  go_enter Try.func60,Try.ntmps60
  go_wp2_with (first|((with_reducible refine gate_callee (f:=80) rfl ?_);refine goesL_ (some 6) rfl rfl Try.func80 (by kernel_rfl) rfl #[.slice A0 l0.length c0] rfl (by (try simp only [List.map_toArray,List.map_cons,List.map_nil]);first|done|rfl|(simp only [List.length_drop,List.length_take];rfl)) ?_;(with_reducible refine (impl_GoodChange.calls k _ _ l0 false _ ?side1 ?side2 A2.out).mono ?_);(case side1=>repeat (first|exact HR0.out|(with_reducible first|apply Kd.C_alloc|apply Kd.C_drewN|apply Kd.C_drew)));(case side2=>exact HC0.out);rintro e w7 ⟨rfl,hb⟩;refine ⟨_,rfl,?_⟩;have n0_:=Aside0.mk (below_step (by repeat (first|exact HB.out|apply below_alloc|apply pw_below_drewN|apply below_drew1)) hb);clear HB;have HB:=n0_;clear n0_;(try clear hb);(try clear hb2);(try clear hk);(try clear hi)))
  go_ret3
  exact ⟨by first|rfl|(simp [*,errW_none,errW_some] <;> rfl),by repeat (first|exact HB.out|apply below_alloc|apply pw_below_drewN|apply below_drew1)⟩

/-! ### impl_chained: function 102 -/
def impl_chained.l0 : Nat → Int → List (S112) → Int → Int → Option (Bool)
 | 0,_,_,_,_=>none
 | k + 1,x0,x10,x11,x12=>if x12 < x11 then (if 0 ≤ x12 then (if x12 < (x10.length : Int) then ((impl_LengthsOf.f k ((rd_T112 x10 x12).f0)).bind fun bt225=>(if bt225.2.2 = true then (if bt225.1 = x0 then (impl_chained.l0 k bt225.2.1 x10 x11 (wrap64 (x12 + 1))) else (some false)) else (some false))) else (none)) else (none)) else (some true)
def impl_chained.f (k : Nat) (a0 : Int) (l1 : List (S112)) : Option (Bool):=impl_chained.l0 k a0 l1 (l1.length : Int) 0
theorem impl_chained.mono_l : ∀ k,(∀ y0 y1 y2 y3,LeO (impl_chained.l0 k y0 y1 y2 y3) (impl_chained.l0 (k + 1) y0 y1 y2 y3))
 | 0=>fun _ _ _ _ r h=>by simp [impl_chained.l0] at h
 | k + 1=>by
  have ih0:=impl_chained.mono_l k
  ·intro y0 y1 y2 y3
   unfold impl_chained.l0
   repeat' first
   | (with_reducible exact ih0 _ _ _ _)
   | (with_reducible exact impl_LengthsOf.mono _ _)
   | (with_reducible exact LeO.refl _)
   | (with_reducible exact LeO.none _)
   | (with_reducible refine LeO.ite ?_ ?_)
   | (with_reducible refine LeO.bind ?_ (fun _=>?_))
   | exact ih0 _ _ _ _
   | exact impl_LengthsOf.mono _ _
   | exact LeO.none _
   | refine LeO.ite ?_ ?_
   | refine LeO.bind ?_ (fun _=>?_)
theorem impl_chained.mono : ∀ a0 a1 k,LeO (impl_chained.f k a0 a1) (impl_chained.f (k + 1) a0 a1):=by
 intro a0 a1 k
 have ih0:=impl_chained.mono_l k
 unfold impl_chained.f
 repeat' first
   | (with_reducible exact ih0 _ _ _ _)
   | (with_reducible exact impl_LengthsOf.mono _ _)
   | (with_reducible exact LeO.refl _)
   | (with_reducible exact LeO.none _)
   | (with_reducible refine LeO.ite ?_ ?_)
   | (with_reducible refine LeO.bind ?_ (fun _=>?_))
   | exact ih0 _ _ _ _
   | exact impl_LengthsOf.mono _ _
   | exact LeO.none _
   | refine LeO.ite ?_ ?_
   | refine LeO.bind ?_ (fun _=>?_)
set_option maxHeartbeats 8000000 in
set_option maxRecDepth 100000 in
theorem impl_chained.calls (k : Nat) (a0 : Int) (A1 : Option Addr) (c1 : Nat) (l1 : List (S112)) (r : Bool) (w : World) (hr1 : Kd.C k112 w A1 l1.length l1) (hc1 : l1.length ≤ c1) (h : impl_chained.f k a0 l1 = some r) :
  Calls Try.prog 102 #[.int .i64 a0,.slice A1 l1.length c1] w fun e w'=>e = .returned (.bool r)∧Below w.heap.size w w':=by
 have hu112:=Try.underlying112
 have HR1:=Aside0.mk hr1
 have HC1:=Aside0.mk hc1
 clear hr1 hc1
 have HB:=Aside0.mk (Below.refl w.heap.size w)
 have H : (impl_chained.l0 k a0 l1 (l1.length : Int) 0) = some r:=h
 clear h
 have H':=Aside0.mk H
 clear H
 go_enter Try.func102,Try.ntmps102
 go_wp2
 go_loopg [0,12] k (fun kq v0 v12 w'=>∃ (x0_1 : Int) (x12_1 : Int),v0 = .int .i64 x0_1∧v12 = .int .i64 x12_1∧Aside0 (impl_chained.l0 kq x0_1 l1 (l1.length : Int) x12_1 = some r)∧Aside0 (kq ≤ k)∧Aside0 (Below w.heap.size w w'))
 case atStart=>exact ⟨(a0),(0),(by first|rfl|(simp;done)|(simp [*];done)),(by first|rfl|(simp;done)|(simp [*];done)),H',⟨Nat.le_refl _⟩,⟨by repeat (first|exact HB.out|apply below_alloc|apply pw_below_drewN|apply below_drew1)⟩⟩
 case round =>
  clear H'
  try clear c1;try clear p2
  obtain ⟨x0_1,x12_1,rfl,rfl,HA,HK1,HB⟩:=hrel
  cases gk with
  | zero=>exact absurd HA.out (by simp [impl_chained.l0])
  | succ k1 =>
   have H:=HA.out
   clear HA
   simp only [impl_chained.l0] at H
   by_cases c3 : x12_1 < (l1.length : Int)
   ·rw [if_pos c3] at H
    have c3b0 : decide (x12_1 < (l1.length : Int)) = true:=decide_eq_true c3
    clear c3
    by_cases c4 : 0 ≤ x12_1
    ·rw [if_pos c4] at H
     have c4b0 : decide (0 ≤ x12_1) = true:=decide_eq_true c4
     clear c4
     by_cases c5 : x12_1 < (l1.length : Int)
     ·rw [if_pos c5] at H
      have c5b0 : decide (x12_1 < (l1.length : Int)) = true:=decide_eq_true c5
      clear c5
      replace H:=Option.bind_eq_some_iff.mp H
      obtain ⟨⟨t225,t226,t227⟩,A60,H⟩:=H
      replace H : (if t227 = true then (if t225 = x0_1 then (impl_chained.l0 k1 t226 l1 (l1.length : Int) (wrap64 (x12_1 + 1))) else (some false)) else (some false)) = some r:=H
      have A6:=Aside0.mk A60
      clear A60
      by_cases c7 : t227 = true
      ·subst c7
       have H1 : (if t225 = x0_1 then (impl_chained.l0 k1 t226 l1 (l1.length : Int) (wrap64 (x12_1 + 1))) else (some false)) = some r:=by rw [if_pos rfl] at H;exact H
       clear H
       have H:=H1
       clear H1
       by_cases c8 : t225 = x0_1
       ·rw [if_pos c8] at H
        have c8b0 : (t225 == x0_1) = true:=beq_iff_eq.mpr c8
        have c8b1 : (t225 != x0_1) = false:=bne_eq_false_iff_eq.mpr c8
        clear c8
        have H':=Aside0.mk H
        clear H
        have p223 : 0 ≤ (x12_1 : Int):=of_decide_eq_true (by assumption)
        have q223 : x12_1 < (l1.length : Int):=of_decide_eq_true (by assumption)
        obtain ⟨ad223,A223_0,c223_0,e223,hx223_0,hl223_0,hi223_0⟩:=at_T112 HR1.out x12_1 p223 q223
        cases e223
        replace hx223_0:=(HB.out.cell (World.block_lt_of_cell? w _ hx223_0)).trans hx223_0
        have HR223_0:=Aside0.mk hi223_0
        have HC223_0:=Aside0.mk hl223_0
        clear hi223_0 hl223_0
        replace p223:=eq_true p223
        replace q223:=eq_true q223
        go_wp2_with (first|((with_reducible refine gate_dst (N:=6) rfl ?_);refine box_event ?hg (N:=6) ?hd (cs:=#[.slice none 0 0]) (t:=112) ?hr ?_;(case hd=>rfl);(case hg=>rfl);(case hr=>first|(go_simp;done)|(go_simp;rfl));intro gb224 hg w9 hbox hb;have n0_:=Aside0.mk (below_step (by repeat (first|exact HB.out|apply below_alloc|apply pw_below_drewN|apply below_drew1)) hb);have n1_:=Aside0.mk (hbox);have n2_:=Aside0.mk ((by rw [hg];exact (below_size (by repeat (first|exact HB.out|apply below_alloc|apply pw_below_drewN|apply below_drew1))) : w.heap.size ≤ gb224));have n3_:=Aside0.mk ((by rw [hg];exact (below_size (by repeat (first|exact HB.out|apply below_alloc|apply pw_below_drewN|apply below_drew1))) : w.heap.size ≤ gb224));clear HB;have HB:=n0_;have BK224:=n1_;have GW224:=n2_;have GE224:=n3_;clear n0_ n1_ n2_ n3_;clear hb hbox hg;have hcz10_0 : w9.cell? ⟨gb224,0,none⟩ = some (.slice none 0 0):=(blk_cell BK224.out 0).trans rfl;have hfz10_0:=blk_frozen BK224.out 0)|((with_reducible refine gate_callee (f:=60) rfl ?_);refine goesL_ (some 19) rfl rfl Try.func60 (by kernel_rfl) rfl #[.slice A223_0 ((rd_T112 l1 x12_1).f0).length c223_0] rfl (by (try simp only [List.map_toArray,List.map_cons,List.map_nil]);first|done|rfl|(simp only [List.length_drop,List.length_take];rfl)) ?_;(with_reducible refine (impl_LengthsOf.calls k1 _ _ ((rd_T112 l1 x12_1).f0) t225 t226 true _ ?side1 ?side2 A6.out).mono ?_);(case side1=>exact Kd.C_below HR223_0.out (by repeat (first|(with_reducible first|exact HB.out|apply below_alloc|apply pw_below_drewN|apply below_drew1|refine below_set ?_ GE224.out)|exact HB.out)));(case side2=>exact HC223_0.out);rintro e w11 ⟨rfl,hb⟩;refine ⟨_,rfl,?_⟩;have n0_:=Aside0.mk (blk_below (g:=gb224) (o:=.cells #[.slice A223_0 ((rd_T112 l1 x12_1).f0).length c223_0] 112 (0,0)) (by (with_reducible repeat first|apply blk_drewN|apply blk_drew|apply blk_alloc);refine blk_put (cs:=#[.slice none 0 0]) ?_ 0 _ rfl;(with_reducible repeat first|apply blk_drewN|apply blk_drew|apply blk_alloc);exact BK224.out) hb);have n1_:=Aside0.mk (below_step (by repeat (first|(with_reducible first|exact HB.out|apply below_alloc|apply pw_below_drewN|apply below_drew1|refine below_set ?_ GE224.out)|exact HB.out)) hb);clear BK224;clear HB;have BK224:=n0_;have HB:=n1_;clear n0_ n1_;(try clear hb);(try clear hb2);(try clear hk);(try clear hi)))
        go_roundg k1
        case measure=>have:=HK1.out;omega
        case rel=>exact ⟨(t226),(wrap64 (x12_1 + 1)),(by first|rfl|(simp;done)|(simp [*];done)),(by first|rfl|(simp;done)|(simp [*];done)),H',⟨by have:=HK1.out;omega⟩,⟨by repeat (first|(with_reducible first|exact HB.out|apply below_alloc|apply pw_below_drewN|apply below_drew1|refine below_set ?_ GE224.out)|exact HB.out)⟩⟩
       ·rw [if_neg c8] at H
        have c8b0 : (t225 == x0_1) = false:=beq_eq_false_iff_ne.mpr c8
        have c8b1 : (t225 != x0_1) = true:=bne_iff_ne.mpr c8
        obtain rfl:=Option.some.inj H
        have p223 : 0 ≤ (x12_1 : Int):=of_decide_eq_true (by assumption)
        have q223 : x12_1 < (l1.length : Int):=of_decide_eq_true (by assumption)
        obtain ⟨ad223,A223_0,c223_0,e223,hx223_0,hl223_0,hi223_0⟩:=at_T112 HR1.out x12_1 p223 q223
        cases e223
        replace hx223_0:=(HB.out.cell (World.block_lt_of_cell? w _ hx223_0)).trans hx223_0
        have HR223_0:=Aside0.mk hi223_0
        have HC223_0:=Aside0.mk hl223_0
        clear hi223_0 hl223_0
        replace p223:=eq_true p223
        replace q223:=eq_true q223
        go_wp2_with (first|((with_reducible refine gate_dst (N:=6) rfl ?_);refine box_event ?hg (N:=6) ?hd (cs:=#[.slice none 0 0]) (t:=112) ?hr ?_;(case hd=>rfl);(case hg=>rfl);(case hr=>first|(go_simp;done)|(go_simp;rfl));intro gb224 hg w12 hbox hb;have n0_:=Aside0.mk (below_step (by repeat (first|exact HB.out|apply below_alloc|apply pw_below_drewN|apply below_drew1)) hb);have n1_:=Aside0.mk (hbox);have n2_:=Aside0.mk ((by rw [hg];exact (below_size (by repeat (first|exact HB.out|apply below_alloc|apply pw_below_drewN|apply below_drew1))) : w.heap.size ≤ gb224));have n3_:=Aside0.mk ((by rw [hg];exact (below_size (by repeat (first|exact HB.out|apply below_alloc|apply pw_below_drewN|apply below_drew1))) : w.heap.size ≤ gb224));clear HB;have HB:=n0_;have BK224:=n1_;have GW224:=n2_;have GE224:=n3_;clear n0_ n1_ n2_ n3_;clear hb hbox hg;have hcz13_0 : w12.cell? ⟨gb224,0,none⟩ = some (.slice none 0 0):=(blk_cell BK224.out 0).trans rfl;have hfz13_0:=blk_frozen BK224.out 0)|((with_reducible refine gate_callee (f:=60) rfl ?_);refine goesL_ (some 19) rfl rfl Try.func60 (by kernel_rfl) rfl #[.slice A223_0 ((rd_T112 l1 x12_1).f0).length c223_0] rfl (by (try simp only [List.map_toArray,List.map_cons,List.map_nil]);first|done|rfl|(simp only [List.length_drop,List.length_take];rfl)) ?_;(with_reducible refine (impl_LengthsOf.calls k1 _ _ ((rd_T112 l1 x12_1).f0) t225 t226 true _ ?side1 ?side2 A6.out).mono ?_);(case side1=>exact Kd.C_below HR223_0.out (by repeat (first|(with_reducible first|exact HB.out|apply below_alloc|apply pw_below_drewN|apply below_drew1|refine below_set ?_ GE224.out)|exact HB.out)));(case side2=>exact HC223_0.out);rintro e w14 ⟨rfl,hb⟩;refine ⟨_,rfl,?_⟩;have n0_:=Aside0.mk (blk_below (g:=gb224) (o:=.cells #[.slice A223_0 ((rd_T112 l1 x12_1).f0).length c223_0] 112 (0,0)) (by (with_reducible repeat first|apply blk_drewN|apply blk_drew|apply blk_alloc);refine blk_put (cs:=#[.slice none 0 0]) ?_ 0 _ rfl;(with_reducible repeat first|apply blk_drewN|apply blk_drew|apply blk_alloc);exact BK224.out) hb);have n1_:=Aside0.mk (below_step (by repeat (first|(with_reducible first|exact HB.out|apply below_alloc|apply pw_below_drewN|apply below_drew1|refine below_set ?_ GE224.out)|exact HB.out)) hb);clear BK224;clear HB;have BK224:=n0_;have HB:=n1_;clear n0_ n1_;(try clear hb);(try clear hb2);(try clear hk);(try clear hi)))
        go_ret
        exact ⟨by first|rfl|(simp [*,errW_none,errW_some] <;> rfl),by repeat (first|(with_reducible first|exact HB.out|apply below_alloc|apply pw_below_drewN|apply below_drew1|refine below_set ?_ GE224.out)|exact HB.out)⟩
      ·replace c7:=Bool.eq_false_iff.mpr c7
       subst c7
       have H1 : (some false) = some r:=by rw [if_neg (show ¬ (false = true) by decide)] at H;exact H
       clear H
       have H:=H1
       clear H1
       obtain rfl:=Option.some.inj H
       have p223 : 0 ≤ (x12_1 : Int):=of_decide_eq_true (by assumption)
       have q223 : x12_1 < (l1.length : Int):=of_decide_eq_true (by assumption)
       obtain ⟨ad223,A223_0,c223_0,e223,hx223_0,hl223_0,hi223_0⟩:=at_T112 HR1.out x12_1 p223 q223
       cases e223
       replace hx223_0:=(HB.out.cell (World.block_lt_of_cell? w _ hx223_0)).trans hx223_0
       have HR223_0:=Aside0.mk hi223_0
       have HC223_0:=Aside0.mk hl223_0
       clear hi223_0 hl223_0
       replace p223:=eq_true p223
       replace q223:=eq_true q223
       go_wp2_with (first|((with_reducible refine gate_dst (N:=6) rfl ?_);refine box_event ?hg (N:=6) ?hd (cs:=#[.slice none 0 0]) (t:=112) ?hr ?_;(case hd=>rfl);(case hg=>rfl);(case hr=>first|(go_simp;done)|(go_simp;rfl));intro gb224 hg w15 hbox hb;have n0_:=Aside0.mk (below_step (by repeat (first|exact HB.out|apply below_alloc|apply pw_below_drewN|apply below_drew1)) hb);have n1_:=Aside0.mk (hbox);have n2_:=Aside0.mk ((by rw [hg];exact (below_size (by repeat (first|exact HB.out|apply below_alloc|apply pw_below_drewN|apply below_drew1))) : w.heap.size ≤ gb224));have n3_:=Aside0.mk ((by rw [hg];exact (below_size (by repeat (first|exact HB.out|apply below_alloc|apply pw_below_drewN|apply below_drew1))) : w.heap.size ≤ gb224));clear HB;have HB:=n0_;have BK224:=n1_;have GW224:=n2_;have GE224:=n3_;clear n0_ n1_ n2_ n3_;clear hb hbox hg;have hcz16_0 : w15.cell? ⟨gb224,0,none⟩ = some (.slice none 0 0):=(blk_cell BK224.out 0).trans rfl;have hfz16_0:=blk_frozen BK224.out 0)|((with_reducible refine gate_callee (f:=60) rfl ?_);refine goesL_ (some 19) rfl rfl Try.func60 (by kernel_rfl) rfl #[.slice A223_0 ((rd_T112 l1 x12_1).f0).length c223_0] rfl (by (try simp only [List.map_toArray,List.map_cons,List.map_nil]);first|done|rfl|(simp only [List.length_drop,List.length_take];rfl)) ?_;(with_reducible refine (impl_LengthsOf.calls k1 _ _ ((rd_T112 l1 x12_1).f0) t225 t226 false _ ?side1 ?side2 A6.out).mono ?_);(case side1=>exact Kd.C_below HR223_0.out (by repeat (first|(with_reducible first|exact HB.out|apply below_alloc|apply pw_below_drewN|apply below_drew1|refine below_set ?_ GE224.out)|exact HB.out)));(case side2=>exact HC223_0.out);rintro e w17 ⟨rfl,hb⟩;refine ⟨_,rfl,?_⟩;have n0_:=Aside0.mk (blk_below (g:=gb224) (o:=.cells #[.slice A223_0 ((rd_T112 l1 x12_1).f0).length c223_0] 112 (0,0)) (by (with_reducible repeat first|apply blk_drewN|apply blk_drew|apply blk_alloc);refine blk_put (cs:=#[.slice none 0 0]) ?_ 0 _ rfl;(with_reducible repeat first|apply blk_drewN|apply blk_drew|apply blk_alloc);exact BK224.out) hb);have n1_:=Aside0.mk (below_step (by repeat (first|(with_reducible first|exact HB.out|apply below_alloc|apply pw_below_drewN|apply below_drew1|refine below_set ?_ GE224.out)|exact HB.out)) hb);clear BK224;clear HB;have BK224:=n0_;have HB:=n1_;clear n0_ n1_;(try clear hb);(try clear hb2);(try clear hk);(try clear hi)))
       go_ret
       exact ⟨by first|rfl|(simp [*,errW_none,errW_some] <;> rfl),by repeat (first|(with_reducible first|exact HB.out|apply below_alloc|apply pw_below_drewN|apply below_drew1|refine below_set ?_ GE224.out)|exact HB.out)⟩
     ·rw [if_neg c5] at H
      exact absurd H (by simp)
    ·rw [if_neg c4] at H
     exact absurd H (by simp)
   ·rw [if_neg c3] at H
    have c3b0 : decide (x12_1 < (l1.length : Int)) = false:=decide_eq_false c3
    clear c3
    obtain rfl:=Option.some.inj H
    go_wp2
    go_ret
    exact ⟨by first|rfl|(simp [*,errW_none,errW_some] <;> rfl),by repeat (first|exact HB.out|apply below_alloc|apply pw_below_drewN|apply below_drew1)⟩

/-! ### impl_GoodHistory: function 88 -/
def impl_GoodHistory.f (k : Nat) (a0_0 : Int) (a0_1 : ByteArray) (l0_2 : List (S74)) (l0_3 : List (S112)) : Option (Bool):=(impl_within.f a0_0 0 60).bind fun t229=>(if t229 = true then (if (a0_1.size : Int) ≤ 120 then ((impl_GoodRuns.f k l0_2 (a0_1.size : Int) a0_0).bind fun t230=>(if t230 = true then (if (l0_3.length : Int) ≤ (wrap64 (60 - a0_0)) then ((impl_chained.f k (a0_1.size : Int) l0_3).bind fun t231=>(some t231)) else (some false)) else (some false))) else (some false)) else (some false))
theorem impl_GoodHistory.mono : ∀ a0 a1 a2 a3 k,LeO (impl_GoodHistory.f k a0 a1 a2 a3) (impl_GoodHistory.f (k + 1) a0 a1 a2 a3):=by
 intro a0 a1 a2 a3 k
 unfold impl_GoodHistory.f
 repeat' first
   | (with_reducible exact impl_GoodRuns.mono _ _ _ _)
   | (with_reducible exact impl_chained.mono _ _ _)
   | (with_reducible exact LeO.refl _)
   | (with_reducible exact LeO.none _)
   | (with_reducible refine LeO.ite ?_ ?_)
   | (with_reducible refine LeO.bind ?_ (fun _=>?_))
   | exact impl_GoodRuns.mono _ _ _ _
   | exact impl_chained.mono _ _ _
   | exact LeO.none _
   | refine LeO.ite ?_ ?_
   | refine LeO.bind ?_ (fun _=>?_)
set_option maxHeartbeats 8000000 in
set_option maxRecDepth 100000 in
theorem impl_GoodHistory.calls (k : Nat) (a0_0 : Int) (a0_1 : ByteArray) (A0_2 : Option Addr) (c0_2 : Nat) (l0_2 : List (S74)) (A0_3 : Option Addr) (c0_3 : Nat) (l0_3 : List (S112)) (r : Bool) (w : World) (hr0_2 : Kd.C k74 w A0_2 l0_2.length l0_2) (hc0_2 : l0_2.length ≤ c0_2) (hr0_3 : Kd.C k112 w A0_3 l0_3.length l0_3) (hc0_3 : l0_3.length ≤ c0_3) (h : impl_GoodHistory.f k a0_0 a0_1 l0_2 l0_3 = some r) :
  Calls Try.prog 88 #[.agg #[.int .i64 a0_0,.string a0_1,.slice A0_2 l0_2.length c0_2,.slice A0_3 l0_3.length c0_3]] w fun e w'=>e = .returned (.bool r)∧Below w.heap.size w w':=by
 have hu55:=Try.underlying55
 have HR0_2:=Aside0.mk hr0_2
 have HC0_2:=Aside0.mk hc0_2
 clear hr0_2 hc0_2
 have HR0_3:=Aside0.mk hr0_3
 have HC0_3:=Aside0.mk hc0_3
 clear hr0_3 hc0_3
 have HB:=Aside0.mk (Below.refl w.heap.size w)
 have H : ((impl_within.f a0_0 0 60).bind fun t229=>(if t229 = true then (if (a0_1.size : Int) ≤ 120 then ((impl_GoodRuns.f k l0_2 (a0_1.size : Int) a0_0).bind fun t230=>(if t230 = true then (if (l0_3.length : Int) ≤ (wrap64 (60 - a0_0)) then ((impl_chained.f k (a0_1.size : Int) l0_3).bind fun t231=>(some t231)) else (some false)) else (some false))) else (some false)) else (some false))) = some r:=h
 clear h
 replace H:=Option.bind_eq_some_iff.mp H
 obtain ⟨t229,A20,H⟩:=H
 replace H : (if t229 = true then (if (a0_1.size : Int) ≤ 120 then ((impl_GoodRuns.f k l0_2 (a0_1.size : Int) a0_0).bind fun t230=>(if t230 = true then (if (l0_3.length : Int) ≤ (wrap64 (60 - a0_0)) then ((impl_chained.f k (a0_1.size : Int) l0_3).bind fun t231=>(some t231)) else (some false)) else (some false))) else (some false)) else (some false)) = some r:=H
 have A2:=Aside0.mk A20
 clear A20
 by_cases c3 : t229 = true
 ·subst c3
  have H1 : (if (a0_1.size : Int) ≤ 120 then ((impl_GoodRuns.f k l0_2 (a0_1.size : Int) a0_0).bind fun t230=>(if t230 = true then (if (l0_3.length : Int) ≤ (wrap64 (60 - a0_0)) then ((impl_chained.f k (a0_1.size : Int) l0_3).bind fun t231=>(some t231)) else (some false)) else (some false))) else (some false)) = some r:=by rw [if_pos rfl] at H;exact H
  clear H
  have H:=H1
  clear H1
  by_cases c4 : (a0_1.size : Int) ≤ 120
  ·rw [if_pos c4] at H
   have c4b0 : decide ((a0_1.size : Int) ≤ 120) = true:=decide_eq_true c4
   have c4b1 : decide (a0_1.size ≤ 120) = true:=decide_eq_true (by omega)
   clear c4
   replace H:=Option.bind_eq_some_iff.mp H
   obtain ⟨t230,A50,H⟩:=H
   replace H : (if t230 = true then (if (l0_3.length : Int) ≤ (wrap64 (60 - a0_0)) then ((impl_chained.f k (a0_1.size : Int) l0_3).bind fun t231=>(some t231)) else (some false)) else (some false)) = some r:=H
   have A5:=Aside0.mk A50
   clear A50
   by_cases c6 : t230 = true
   ·subst c6
    have H1 : (if (l0_3.length : Int) ≤ (wrap64 (60 - a0_0)) then ((impl_chained.f k (a0_1.size : Int) l0_3).bind fun t231=>(some t231)) else (some false)) = some r:=by rw [if_pos rfl] at H;exact H
    clear H
    have H:=H1
    clear H1
    by_cases c7 : (l0_3.length : Int) ≤ (wrap64 (60 - a0_0))
    ·rw [if_pos c7] at H
     have c7b0 : decide ((l0_3.length : Int) ≤ (wrap64 (60 - a0_0))) = true:=decide_eq_true c7
     clear c7
     replace H:=Option.bind_eq_some_iff.mp H
     obtain ⟨t231,A80,H⟩:=H
     replace H : (some t231) = some r:=H
     have A8:=Aside0.mk A80
     clear A80
     obtain rfl:=Option.some.inj H
     go_enter Try.func88,Try.ntmps88
     go_wp2_with (first|((with_reducible refine gate_dst (N:=1) rfl ?_);(try (refine gate_guard (by rfl) ?_;dsimp only));refine box_event ?hg (N:=1) ?hd (cs:=#[.int .i64 a0_0,.string a0_1,.slice A0_2 l0_2.length c0_2,.slice A0_3 l0_3.length c0_3]) (t:=55) ?hr ?_;(case hd=>rfl);(case hg=>rfl);(case hr=>first|(go_simp;done)|(go_simp;rfl));intro gb228 hg w9 hbox hb;have n0_:=Aside0.mk (below_step (by repeat (first|exact HB.out|apply below_alloc|apply pw_below_drewN|apply below_drew1)) hb);have n1_:=Aside0.mk (hbox);have n2_:=Aside0.mk ((by rw [hg];exact (below_size (by repeat (first|exact HB.out|apply below_alloc|apply pw_below_drewN|apply below_drew1))) : w.heap.size ≤ gb228));have n3_:=Aside0.mk ((by rw [hg];exact (below_size (by repeat (first|exact HB.out|apply below_alloc|apply pw_below_drewN|apply below_drew1))) : w.heap.size ≤ gb228));clear HB;have HB:=n0_;have BK228:=n1_;have GW228:=n2_;have GE228:=n3_;clear n0_ n1_ n2_ n3_;clear hb hbox hg;have hcz10_0 : w9.cell? ⟨gb228,0,none⟩ = some (.int .i64 a0_0):=(blk_cell BK228.out 0).trans rfl;have hcz10_1 : w9.cell? ⟨gb228,1,none⟩ = some (.string a0_1):=(blk_cell BK228.out 1).trans rfl;have hcz10_2 : w9.cell? ⟨gb228,2,none⟩ = some (.slice A0_2 l0_2.length c0_2):=(blk_cell BK228.out 2).trans rfl;have hcz10_3 : w9.cell? ⟨gb228,3,none⟩ = some (.slice A0_3 l0_3.length c0_3):=(blk_cell BK228.out 3).trans rfl;have hfz10_0:=blk_frozen BK228.out 0;have hfz10_1:=blk_frozen BK228.out 1;have hfz10_2:=blk_frozen BK228.out 2;have hfz10_3:=blk_frozen BK228.out 3)|((with_reducible refine gate_callee (f:=49) rfl ?_);refine goesL_ (some 5) rfl rfl Try.func49 (by kernel_rfl) rfl #[.int .i64 a0_0,.int .i64 0,.int .i64 60] rfl (by (try simp only [List.map_toArray,List.map_cons,List.map_nil]);first|done|rfl|(simp only [List.length_drop,List.length_take];rfl)) ?_;(with_reducible refine (impl_within.calls a0_0 0 60 true _ A2.out).mono ?_);rintro e w' ⟨rfl,⟨nd,rfl⟩⟩;refine ⟨_,rfl,?_⟩)|(go_at_call 61;(with_reducible refine (impl_GoodRuns.calls k _ _ l0_2 (a0_1.size : Int) a0_0 true _ ?side1 ?side2 A5.out).mono ?_);(case side1=>repeat (first|exact (Kd.C_below HR0_2.out (by repeat (first|(with_reducible first|exact HB.out|apply below_alloc|apply pw_below_drewN|apply below_drew1|refine below_set ?_ GE228.out)|exact HB.out)))|(with_reducible first|apply Kd.C_alloc|apply Kd.C_drewN|apply Kd.C_drew)));(case side2=>exact HC0_2.out);rintro e w11 ⟨rfl,hb⟩;have n0_:=Aside0.mk (blk_below (g:=gb228) (o:=.cells #[.int .i64 a0_0,.string a0_1,.slice A0_2 l0_2.length c0_2,.slice A0_3 l0_3.length c0_3] 55 (0,0)) (by (with_reducible repeat first|apply blk_drewN|apply blk_drew|apply blk_alloc);exact BK228.out) hb);have n1_:=Aside0.mk (below_step (by repeat (first|(with_reducible first|exact HB.out|apply below_alloc|apply pw_below_drewN|apply below_drew1|refine below_set ?_ GE228.out)|exact HB.out)) hb);clear BK228;clear HB;have BK228:=n0_;have HB:=n1_;clear n0_ n1_;(try clear hb);(try clear hb2);(try clear hk);(try clear hi);have hcz12_0 : w11.cell? ⟨gb228,0,none⟩ = some (.int .i64 a0_0):=(blk_cell BK228.out 0).trans rfl;have hcz12_1 : w11.cell? ⟨gb228,1,none⟩ = some (.string a0_1):=(blk_cell BK228.out 1).trans rfl;have hcz12_2 : w11.cell? ⟨gb228,2,none⟩ = some (.slice A0_2 l0_2.length c0_2):=(blk_cell BK228.out 2).trans rfl;have hcz12_3 : w11.cell? ⟨gb228,3,none⟩ = some (.slice A0_3 l0_3.length c0_3):=(blk_cell BK228.out 3).trans rfl;have hfz12_0:=blk_frozen BK228.out 0;have hfz12_1:=blk_frozen BK228.out 1;have hfz12_2:=blk_frozen BK228.out 2;have hfz12_3:=blk_frozen BK228.out 3)|(go_at_call 102;(with_reducible refine (impl_chained.calls k (a0_1.size : Int) _ _ l0_3 t231 _ ?side1 ?side2 A8.out).mono ?_);(case side1=>repeat (first|exact (Kd.C_below HR0_3.out HB.out)|(with_reducible first|apply Kd.C_alloc|apply Kd.C_drewN|apply Kd.C_drew)));(case side2=>exact HC0_3.out);rintro e w13 ⟨rfl,hb⟩;have n0_:=Aside0.mk (blk_below (g:=gb228) (o:=.cells #[.int .i64 a0_0,.string a0_1,.slice A0_2 l0_2.length c0_2,.slice A0_3 l0_3.length c0_3] 55 (0,0)) (by (with_reducible repeat first|apply blk_drewN|apply blk_drew|apply blk_alloc);exact BK228.out) hb);have n1_:=Aside0.mk (below_step (by repeat (first|(with_reducible first|exact HB.out|apply below_alloc|apply pw_below_drewN|apply below_drew1|refine below_set ?_ GE228.out)|exact HB.out)) hb);clear BK228;clear HB;have BK228:=n0_;have HB:=n1_;clear n0_ n1_;(try clear hb);(try clear hb2);(try clear hk);(try clear hi)))
     go_ret
     exact ⟨by first|rfl|(simp [*,errW_none,errW_some] <;> rfl),by repeat (first|(with_reducible first|exact HB.out|apply below_alloc|apply pw_below_drewN|apply below_drew1|refine below_set ?_ GE228.out)|exact HB.out)⟩
    ·rw [if_neg c7] at H
     have c7b0 : decide ((l0_3.length : Int) ≤ (wrap64 (60 - a0_0))) = false:=decide_eq_false c7
     clear c7
     obtain rfl:=Option.some.inj H
     go_enter Try.func88,Try.ntmps88
     go_wp2_with (first|((with_reducible refine gate_dst (N:=1) rfl ?_);(try (refine gate_guard (by rfl) ?_;dsimp only));refine box_event ?hg (N:=1) ?hd (cs:=#[.int .i64 a0_0,.string a0_1,.slice A0_2 l0_2.length c0_2,.slice A0_3 l0_3.length c0_3]) (t:=55) ?hr ?_;(case hd=>rfl);(case hg=>rfl);(case hr=>first|(go_simp;done)|(go_simp;rfl));intro gb228 hg w14 hbox hb;have n0_:=Aside0.mk (below_step (by repeat (first|exact HB.out|apply below_alloc|apply pw_below_drewN|apply below_drew1)) hb);have n1_:=Aside0.mk (hbox);have n2_:=Aside0.mk ((by rw [hg];exact (below_size (by repeat (first|exact HB.out|apply below_alloc|apply pw_below_drewN|apply below_drew1))) : w.heap.size ≤ gb228));have n3_:=Aside0.mk ((by rw [hg];exact (below_size (by repeat (first|exact HB.out|apply below_alloc|apply pw_below_drewN|apply below_drew1))) : w.heap.size ≤ gb228));clear HB;have HB:=n0_;have BK228:=n1_;have GW228:=n2_;have GE228:=n3_;clear n0_ n1_ n2_ n3_;clear hb hbox hg;have hcz15_0 : w14.cell? ⟨gb228,0,none⟩ = some (.int .i64 a0_0):=(blk_cell BK228.out 0).trans rfl;have hcz15_1 : w14.cell? ⟨gb228,1,none⟩ = some (.string a0_1):=(blk_cell BK228.out 1).trans rfl;have hcz15_2 : w14.cell? ⟨gb228,2,none⟩ = some (.slice A0_2 l0_2.length c0_2):=(blk_cell BK228.out 2).trans rfl;have hcz15_3 : w14.cell? ⟨gb228,3,none⟩ = some (.slice A0_3 l0_3.length c0_3):=(blk_cell BK228.out 3).trans rfl;have hfz15_0:=blk_frozen BK228.out 0;have hfz15_1:=blk_frozen BK228.out 1;have hfz15_2:=blk_frozen BK228.out 2;have hfz15_3:=blk_frozen BK228.out 3)|((with_reducible refine gate_callee (f:=49) rfl ?_);refine goesL_ (some 5) rfl rfl Try.func49 (by kernel_rfl) rfl #[.int .i64 a0_0,.int .i64 0,.int .i64 60] rfl (by (try simp only [List.map_toArray,List.map_cons,List.map_nil]);first|done|rfl|(simp only [List.length_drop,List.length_take];rfl)) ?_;(with_reducible refine (impl_within.calls a0_0 0 60 true _ A2.out).mono ?_);rintro e w' ⟨rfl,⟨nd,rfl⟩⟩;refine ⟨_,rfl,?_⟩)|(go_at_call 61;(with_reducible refine (impl_GoodRuns.calls k _ _ l0_2 (a0_1.size : Int) a0_0 true _ ?side1 ?side2 A5.out).mono ?_);(case side1=>repeat (first|exact (Kd.C_below HR0_2.out (by repeat (first|(with_reducible first|exact HB.out|apply below_alloc|apply pw_below_drewN|apply below_drew1|refine below_set ?_ GE228.out)|exact HB.out)))|(with_reducible first|apply Kd.C_alloc|apply Kd.C_drewN|apply Kd.C_drew)));(case side2=>exact HC0_2.out);rintro e w16 ⟨rfl,hb⟩;have n0_:=Aside0.mk (blk_below (g:=gb228) (o:=.cells #[.int .i64 a0_0,.string a0_1,.slice A0_2 l0_2.length c0_2,.slice A0_3 l0_3.length c0_3] 55 (0,0)) (by (with_reducible repeat first|apply blk_drewN|apply blk_drew|apply blk_alloc);exact BK228.out) hb);have n1_:=Aside0.mk (below_step (by repeat (first|(with_reducible first|exact HB.out|apply below_alloc|apply pw_below_drewN|apply below_drew1|refine below_set ?_ GE228.out)|exact HB.out)) hb);clear BK228;clear HB;have BK228:=n0_;have HB:=n1_;clear n0_ n1_;(try clear hb);(try clear hb2);(try clear hk);(try clear hi);have hcz17_0 : w16.cell? ⟨gb228,0,none⟩ = some (.int .i64 a0_0):=(blk_cell BK228.out 0).trans rfl;have hcz17_1 : w16.cell? ⟨gb228,1,none⟩ = some (.string a0_1):=(blk_cell BK228.out 1).trans rfl;have hcz17_2 : w16.cell? ⟨gb228,2,none⟩ = some (.slice A0_2 l0_2.length c0_2):=(blk_cell BK228.out 2).trans rfl;have hcz17_3 : w16.cell? ⟨gb228,3,none⟩ = some (.slice A0_3 l0_3.length c0_3):=(blk_cell BK228.out 3).trans rfl;have hfz17_0:=blk_frozen BK228.out 0;have hfz17_1:=blk_frozen BK228.out 1;have hfz17_2:=blk_frozen BK228.out 2;have hfz17_3:=blk_frozen BK228.out 3))
     go_ret
     exact ⟨by first|rfl|(simp [*,errW_none,errW_some] <;> rfl),by repeat (first|(with_reducible first|exact HB.out|apply below_alloc|apply pw_below_drewN|apply below_drew1|refine below_set ?_ GE228.out)|exact HB.out)⟩
   ·replace c6:=Bool.eq_false_iff.mpr c6
    subst c6
    have H1 : (some false) = some r:=by rw [if_neg (show ¬ (false = true) by decide)] at H;exact H
    clear H
    have H:=H1
    clear H1
    obtain rfl:=Option.some.inj H
    go_enter Try.func88,Try.ntmps88
    go_wp2_with (first|((with_reducible refine gate_dst (N:=1) rfl ?_);(try (refine gate_guard (by rfl) ?_;dsimp only));refine box_event ?hg (N:=1) ?hd (cs:=#[.int .i64 a0_0,.string a0_1,.slice A0_2 l0_2.length c0_2,.slice A0_3 l0_3.length c0_3]) (t:=55) ?hr ?_;(case hd=>rfl);(case hg=>rfl);(case hr=>first|(go_simp;done)|(go_simp;rfl));intro gb228 hg w18 hbox hb;have n0_:=Aside0.mk (below_step (by repeat (first|exact HB.out|apply below_alloc|apply pw_below_drewN|apply below_drew1)) hb);have n1_:=Aside0.mk (hbox);have n2_:=Aside0.mk ((by rw [hg];exact (below_size (by repeat (first|exact HB.out|apply below_alloc|apply pw_below_drewN|apply below_drew1))) : w.heap.size ≤ gb228));have n3_:=Aside0.mk ((by rw [hg];exact (below_size (by repeat (first|exact HB.out|apply below_alloc|apply pw_below_drewN|apply below_drew1))) : w.heap.size ≤ gb228));clear HB;have HB:=n0_;have BK228:=n1_;have GW228:=n2_;have GE228:=n3_;clear n0_ n1_ n2_ n3_;clear hb hbox hg;have hcz19_0 : w18.cell? ⟨gb228,0,none⟩ = some (.int .i64 a0_0):=(blk_cell BK228.out 0).trans rfl;have hcz19_1 : w18.cell? ⟨gb228,1,none⟩ = some (.string a0_1):=(blk_cell BK228.out 1).trans rfl;have hcz19_2 : w18.cell? ⟨gb228,2,none⟩ = some (.slice A0_2 l0_2.length c0_2):=(blk_cell BK228.out 2).trans rfl;have hcz19_3 : w18.cell? ⟨gb228,3,none⟩ = some (.slice A0_3 l0_3.length c0_3):=(blk_cell BK228.out 3).trans rfl;have hfz19_0:=blk_frozen BK228.out 0;have hfz19_1:=blk_frozen BK228.out 1;have hfz19_2:=blk_frozen BK228.out 2;have hfz19_3:=blk_frozen BK228.out 3)|((with_reducible refine gate_callee (f:=49) rfl ?_);refine goesL_ (some 5) rfl rfl Try.func49 (by kernel_rfl) rfl #[.int .i64 a0_0,.int .i64 0,.int .i64 60] rfl (by (try simp only [List.map_toArray,List.map_cons,List.map_nil]);first|done|rfl|(simp only [List.length_drop,List.length_take];rfl)) ?_;(with_reducible refine (impl_within.calls a0_0 0 60 true _ A2.out).mono ?_);rintro e w' ⟨rfl,⟨nd,rfl⟩⟩;refine ⟨_,rfl,?_⟩)|(go_at_call 61;(with_reducible refine (impl_GoodRuns.calls k _ _ l0_2 (a0_1.size : Int) a0_0 false _ ?side1 ?side2 A5.out).mono ?_);(case side1=>repeat (first|exact (Kd.C_below HR0_2.out (by repeat (first|(with_reducible first|exact HB.out|apply below_alloc|apply pw_below_drewN|apply below_drew1|refine below_set ?_ GE228.out)|exact HB.out)))|(with_reducible first|apply Kd.C_alloc|apply Kd.C_drewN|apply Kd.C_drew)));(case side2=>exact HC0_2.out);rintro e w20 ⟨rfl,hb⟩;have n0_:=Aside0.mk (blk_below (g:=gb228) (o:=.cells #[.int .i64 a0_0,.string a0_1,.slice A0_2 l0_2.length c0_2,.slice A0_3 l0_3.length c0_3] 55 (0,0)) (by (with_reducible repeat first|apply blk_drewN|apply blk_drew|apply blk_alloc);exact BK228.out) hb);have n1_:=Aside0.mk (below_step (by repeat (first|(with_reducible first|exact HB.out|apply below_alloc|apply pw_below_drewN|apply below_drew1|refine below_set ?_ GE228.out)|exact HB.out)) hb);clear BK228;clear HB;have BK228:=n0_;have HB:=n1_;clear n0_ n1_;(try clear hb);(try clear hb2);(try clear hk);(try clear hi)))
    go_ret
    exact ⟨by first|rfl|(simp [*,errW_none,errW_some] <;> rfl),by repeat (first|(with_reducible first|exact HB.out|apply below_alloc|apply pw_below_drewN|apply below_drew1|refine below_set ?_ GE228.out)|exact HB.out)⟩
  ·rw [if_neg c4] at H
   have c4b0 : decide ((a0_1.size : Int) ≤ 120) = false:=decide_eq_false c4
   have c4b1 : decide (a0_1.size ≤ 120) = false:=decide_eq_false (by omega)
   clear c4
   obtain rfl:=Option.some.inj H
   go_enter Try.func88,Try.ntmps88
   go_wp2_with (first|((with_reducible refine gate_dst (N:=1) rfl ?_);(try (refine gate_guard (by rfl) ?_;dsimp only));refine box_event ?hg (N:=1) ?hd (cs:=#[.int .i64 a0_0,.string a0_1,.slice A0_2 l0_2.length c0_2,.slice A0_3 l0_3.length c0_3]) (t:=55) ?hr ?_;(case hd=>rfl);(case hg=>rfl);(case hr=>first|(go_simp;done)|(go_simp;rfl));intro gb228 hg w21 hbox hb;have n0_:=Aside0.mk (below_step (by repeat (first|exact HB.out|apply below_alloc|apply pw_below_drewN|apply below_drew1)) hb);have n1_:=Aside0.mk (hbox);have n2_:=Aside0.mk ((by rw [hg];exact (below_size (by repeat (first|exact HB.out|apply below_alloc|apply pw_below_drewN|apply below_drew1))) : w.heap.size ≤ gb228));have n3_:=Aside0.mk ((by rw [hg];exact (below_size (by repeat (first|exact HB.out|apply below_alloc|apply pw_below_drewN|apply below_drew1))) : w.heap.size ≤ gb228));clear HB;have HB:=n0_;have BK228:=n1_;have GW228:=n2_;have GE228:=n3_;clear n0_ n1_ n2_ n3_;clear hb hbox hg;have hcz22_0 : w21.cell? ⟨gb228,0,none⟩ = some (.int .i64 a0_0):=(blk_cell BK228.out 0).trans rfl;have hcz22_1 : w21.cell? ⟨gb228,1,none⟩ = some (.string a0_1):=(blk_cell BK228.out 1).trans rfl;have hcz22_2 : w21.cell? ⟨gb228,2,none⟩ = some (.slice A0_2 l0_2.length c0_2):=(blk_cell BK228.out 2).trans rfl;have hcz22_3 : w21.cell? ⟨gb228,3,none⟩ = some (.slice A0_3 l0_3.length c0_3):=(blk_cell BK228.out 3).trans rfl;have hfz22_0:=blk_frozen BK228.out 0;have hfz22_1:=blk_frozen BK228.out 1;have hfz22_2:=blk_frozen BK228.out 2;have hfz22_3:=blk_frozen BK228.out 3)|((with_reducible refine gate_callee (f:=49) rfl ?_);refine goesL_ (some 5) rfl rfl Try.func49 (by kernel_rfl) rfl #[.int .i64 a0_0,.int .i64 0,.int .i64 60] rfl (by (try simp only [List.map_toArray,List.map_cons,List.map_nil]);first|done|rfl|(simp only [List.length_drop,List.length_take];rfl)) ?_;(with_reducible refine (impl_within.calls a0_0 0 60 true _ A2.out).mono ?_);rintro e w' ⟨rfl,⟨nd,rfl⟩⟩;refine ⟨_,rfl,?_⟩))
   go_ret
   exact ⟨by first|rfl|(simp [*,errW_none,errW_some] <;> rfl),by repeat (first|(with_reducible first|exact HB.out|apply below_alloc|apply pw_below_drewN|apply below_drew1|refine below_set ?_ GE228.out)|exact HB.out)⟩
 ·replace c3:=Bool.eq_false_iff.mpr c3
  subst c3
  have H1 : (some false) = some r:=by rw [if_neg (show ¬ (false = true) by decide)] at H;exact H
  clear H
  have H:=H1
  clear H1
  obtain rfl:=Option.some.inj H
  go_enter Try.func88,Try.ntmps88
  go_wp2_with (first|((with_reducible refine gate_dst (N:=1) rfl ?_);(try (refine gate_guard (by rfl) ?_;dsimp only));refine box_event ?hg (N:=1) ?hd (cs:=#[.int .i64 a0_0,.string a0_1,.slice A0_2 l0_2.length c0_2,.slice A0_3 l0_3.length c0_3]) (t:=55) ?hr ?_;(case hd=>rfl);(case hg=>rfl);(case hr=>first|(go_simp;done)|(go_simp;rfl));intro gb228 hg w23 hbox hb;have n0_:=Aside0.mk (below_step (by repeat (first|exact HB.out|apply below_alloc|apply pw_below_drewN|apply below_drew1)) hb);have n1_:=Aside0.mk (hbox);have n2_:=Aside0.mk ((by rw [hg];exact (below_size (by repeat (first|exact HB.out|apply below_alloc|apply pw_below_drewN|apply below_drew1))) : w.heap.size ≤ gb228));have n3_:=Aside0.mk ((by rw [hg];exact (below_size (by repeat (first|exact HB.out|apply below_alloc|apply pw_below_drewN|apply below_drew1))) : w.heap.size ≤ gb228));clear HB;have HB:=n0_;have BK228:=n1_;have GW228:=n2_;have GE228:=n3_;clear n0_ n1_ n2_ n3_;clear hb hbox hg;have hcz24_0 : w23.cell? ⟨gb228,0,none⟩ = some (.int .i64 a0_0):=(blk_cell BK228.out 0).trans rfl;have hcz24_1 : w23.cell? ⟨gb228,1,none⟩ = some (.string a0_1):=(blk_cell BK228.out 1).trans rfl;have hcz24_2 : w23.cell? ⟨gb228,2,none⟩ = some (.slice A0_2 l0_2.length c0_2):=(blk_cell BK228.out 2).trans rfl;have hcz24_3 : w23.cell? ⟨gb228,3,none⟩ = some (.slice A0_3 l0_3.length c0_3):=(blk_cell BK228.out 3).trans rfl;have hfz24_0:=blk_frozen BK228.out 0;have hfz24_1:=blk_frozen BK228.out 1;have hfz24_2:=blk_frozen BK228.out 2;have hfz24_3:=blk_frozen BK228.out 3)|((with_reducible refine gate_callee (f:=49) rfl ?_);refine goesL_ (some 5) rfl rfl Try.func49 (by kernel_rfl) rfl #[.int .i64 a0_0,.int .i64 0,.int .i64 60] rfl (by (try simp only [List.map_toArray,List.map_cons,List.map_nil]);first|done|rfl|(simp only [List.length_drop,List.length_take];rfl)) ?_;(with_reducible refine (impl_within.calls a0_0 0 60 false _ A2.out).mono ?_);rintro e w' ⟨rfl,⟨nd,rfl⟩⟩;refine ⟨_,rfl,?_⟩))
  go_ret
  exact ⟨by first|rfl|(simp [*,errW_none,errW_some] <;> rfl),by repeat (first|(with_reducible first|exact HB.out|apply below_alloc|apply pw_below_drewN|apply below_drew1|refine below_set ?_ GE228.out)|exact HB.out)⟩

/-! ### impl_History_head: function 89 -/
def impl_History_head.f (a0_0 : Int) (a0_1 : ByteArray) (l0_2 : List (S74)) (l0_3 : List (S112)) : Option (Int):=some (wrap64 (a0_0 + (l0_3.length : Int)))
set_option maxHeartbeats 8000000 in
set_option maxRecDepth 100000 in
theorem impl_History_head.calls (a0_0 : Int) (a0_1 : ByteArray) (A0_2 : Option Addr) (c0_2 : Nat) (l0_2 : List (S74)) (A0_3 : Option Addr) (c0_3 : Nat) (l0_3 : List (S112)) (r : Int) (w : World) (hr0_2 : Kd.C k74 w A0_2 l0_2.length l0_2) (hc0_2 : l0_2.length ≤ c0_2) (hr0_3 : Kd.C k112 w A0_3 l0_3.length l0_3) (hc0_3 : l0_3.length ≤ c0_3) (h : impl_History_head.f a0_0 a0_1 l0_2 l0_3 = some r) :
  Calls Try.prog 89 #[.agg #[.int .i64 a0_0,.string a0_1,.slice A0_2 l0_2.length c0_2,.slice A0_3 l0_3.length c0_3]] w fun e w'=>e = .returned (.int .i64 r)∧Below w.heap.size w w':=by
 have hu55:=Try.underlying55
 have HR0_2:=Aside0.mk hr0_2
 have HC0_2:=Aside0.mk hc0_2
 clear hr0_2 hc0_2
 have HR0_3:=Aside0.mk hr0_3
 have HC0_3:=Aside0.mk hc0_3
 clear hr0_3 hc0_3
 have HB:=Aside0.mk (Below.refl w.heap.size w)
 have H : (some (wrap64 (a0_0 + (l0_3.length : Int)))) = some r:=h
 clear h
 obtain rfl:=Option.some.inj H
 go_enter Try.func89,Try.ntmps89
 go_wp2_with (first|((with_reducible refine gate_dst (N:=1) rfl ?_);refine box_event ?hg (N:=1) ?hd (cs:=#[.int .i64 a0_0,.string a0_1,.slice A0_2 l0_2.length c0_2,.slice A0_3 l0_3.length c0_3]) (t:=55) ?hr ?_;(case hd=>rfl);(case hg=>rfl);(case hr=>first|(go_simp;done)|(go_simp;rfl));intro gb232 hg w2 hbox hb;have n0_:=Aside0.mk (below_step (by repeat (first|exact HB.out|apply below_alloc|apply pw_below_drewN|apply below_drew1)) hb);have n1_:=Aside0.mk (hbox);have n2_:=Aside0.mk ((by rw [hg];exact (below_size (by repeat (first|exact HB.out|apply below_alloc|apply pw_below_drewN|apply below_drew1))) : w.heap.size ≤ gb232));have n3_:=Aside0.mk ((by rw [hg];exact (below_size (by repeat (first|exact HB.out|apply below_alloc|apply pw_below_drewN|apply below_drew1))) : w.heap.size ≤ gb232));clear HB;have HB:=n0_;have BK232:=n1_;have GW232:=n2_;have GE232:=n3_;clear n0_ n1_ n2_ n3_;clear hb hbox hg;have hcz3_0 : w2.cell? ⟨gb232,0,none⟩ = some (.int .i64 a0_0):=(blk_cell BK232.out 0).trans rfl;have hcz3_1 : w2.cell? ⟨gb232,1,none⟩ = some (.string a0_1):=(blk_cell BK232.out 1).trans rfl;have hcz3_2 : w2.cell? ⟨gb232,2,none⟩ = some (.slice A0_2 l0_2.length c0_2):=(blk_cell BK232.out 2).trans rfl;have hcz3_3 : w2.cell? ⟨gb232,3,none⟩ = some (.slice A0_3 l0_3.length c0_3):=(blk_cell BK232.out 3).trans rfl;have hfz3_0:=blk_frozen BK232.out 0;have hfz3_1:=blk_frozen BK232.out 1;have hfz3_2:=blk_frozen BK232.out 2;have hfz3_3:=blk_frozen BK232.out 3))
 go_ret
 exact ⟨by first|rfl|(simp [*,errW_none,errW_some] <;> rfl),by repeat (first|(with_reducible first|exact HB.out|apply below_alloc|apply pw_below_drewN|apply below_drew1|refine below_set ?_ GE232.out)|exact HB.out)⟩

/-! ### impl_History_code: function 69 -/
def impl_History_code.f (k : Nat) (a0_0 : Int) (a0_1 : ByteArray) (l0_2 : List (S74)) (l0_3 : List (S112)) (a1 : Int) (a2 : Int) : Option (Int):=(impl_GoodHistory.f k a0_0 a0_1 l0_2 l0_3).bind fun t234=>(if t234 = true then (if a1 < a0_0 then (some 2) else (if a1 > a2 then (some 2) else ((impl_History_head.f a0_0 a0_1 l0_2 l0_3).bind fun t235=>(if a2 > t235 then (some 2) else (some 0))))) else (some 1))
theorem impl_History_code.mono : ∀ a0 a1 a2 a3 a4 a5 k,LeO (impl_History_code.f k a0 a1 a2 a3 a4 a5) (impl_History_code.f (k + 1) a0 a1 a2 a3 a4 a5):=by
 intro a0 a1 a2 a3 a4 a5 k
 unfold impl_History_code.f
 repeat' first
   | (with_reducible exact impl_GoodHistory.mono _ _ _ _ _)
   | (with_reducible exact LeO.refl _)
   | (with_reducible exact LeO.none _)
   | (with_reducible refine LeO.ite ?_ ?_)
   | (with_reducible refine LeO.bind ?_ (fun _=>?_))
   | exact impl_GoodHistory.mono _ _ _ _ _
   | exact LeO.none _
   | refine LeO.ite ?_ ?_
   | refine LeO.bind ?_ (fun _=>?_)
set_option maxHeartbeats 8000000 in
set_option maxRecDepth 100000 in
theorem impl_History_code.calls (k : Nat) (a0_0 : Int) (a0_1 : ByteArray) (A0_2 : Option Addr) (c0_2 : Nat) (l0_2 : List (S74)) (A0_3 : Option Addr) (c0_3 : Nat) (l0_3 : List (S112)) (a1 : Int) (a2 : Int) (r : Int) (w : World) (hr0_2 : Kd.C k74 w A0_2 l0_2.length l0_2) (hc0_2 : l0_2.length ≤ c0_2) (hr0_3 : Kd.C k112 w A0_3 l0_3.length l0_3) (hc0_3 : l0_3.length ≤ c0_3) (h : impl_History_code.f k a0_0 a0_1 l0_2 l0_3 a1 a2 = some r) :
  Calls Try.prog 69 #[.agg #[.int .i64 a0_0,.string a0_1,.slice A0_2 l0_2.length c0_2,.slice A0_3 l0_3.length c0_3],.int .i64 a1,.int .i64 a2] w fun e w'=>e = .returned (.int .i64 r)∧Below w.heap.size w w':=by
 have hu55:=Try.underlying55
 have HR0_2:=Aside0.mk hr0_2
 have HC0_2:=Aside0.mk hc0_2
 clear hr0_2 hc0_2
 have HR0_3:=Aside0.mk hr0_3
 have HC0_3:=Aside0.mk hc0_3
 clear hr0_3 hc0_3
 have HB:=Aside0.mk (Below.refl w.heap.size w)
 have H : ((impl_GoodHistory.f k a0_0 a0_1 l0_2 l0_3).bind fun t234=>(if t234 = true then (if a1 < a0_0 then (some 2) else (if a1 > a2 then (some 2) else ((impl_History_head.f a0_0 a0_1 l0_2 l0_3).bind fun t235=>(if a2 > t235 then (some 2) else (some 0))))) else (some 1))) = some r:=h
 clear h
 replace H:=Option.bind_eq_some_iff.mp H
 obtain ⟨t234,A40,H⟩:=H
 replace H : (if t234 = true then (if a1 < a0_0 then (some 2) else (if a1 > a2 then (some 2) else ((impl_History_head.f a0_0 a0_1 l0_2 l0_3).bind fun t235=>(if a2 > t235 then (some 2) else (some 0))))) else (some 1)) = some r:=H
 have A4:=Aside0.mk A40
 clear A40
 by_cases c5 : t234 = true
 ·subst c5
  have H1 : (if a1 < a0_0 then (some 2) else (if a1 > a2 then (some 2) else ((impl_History_head.f a0_0 a0_1 l0_2 l0_3).bind fun t235=>(if a2 > t235 then (some 2) else (some 0))))) = some r:=by rw [if_pos rfl] at H;exact H
  clear H
  have H:=H1
  clear H1
  by_cases c6 : a1 < a0_0
  ·rw [if_pos c6] at H
   have c6b0 : decide (a1 < a0_0) = true:=decide_eq_true c6
   clear c6
   obtain rfl:=Option.some.inj H
   go_enter Try.func69,Try.ntmps69
   go_wp2_with (first|((with_reducible refine gate_dst (N:=3) rfl ?_);refine box_event ?hg (N:=3) ?hd (cs:=#[.int .i64 a0_0,.string a0_1,.slice A0_2 l0_2.length c0_2,.slice A0_3 l0_3.length c0_3]) (t:=55) ?hr ?_;(case hd=>rfl);(case hg=>rfl);(case hr=>first|(go_simp;done)|(go_simp;rfl));intro gb233 hg w7 hbox hb;have n0_:=Aside0.mk (below_step (by repeat (first|exact HB.out|apply below_alloc|apply pw_below_drewN|apply below_drew1)) hb);have n1_:=Aside0.mk (hbox);have n2_:=Aside0.mk ((by rw [hg];exact (below_size (by repeat (first|exact HB.out|apply below_alloc|apply pw_below_drewN|apply below_drew1))) : w.heap.size ≤ gb233));have n3_:=Aside0.mk ((by rw [hg];exact (below_size (by repeat (first|exact HB.out|apply below_alloc|apply pw_below_drewN|apply below_drew1))) : w.heap.size ≤ gb233));clear HB;have HB:=n0_;have BK233:=n1_;have GW233:=n2_;have GE233:=n3_;clear n0_ n1_ n2_ n3_;clear hb hbox hg;have hcz8_0 : w7.cell? ⟨gb233,0,none⟩ = some (.int .i64 a0_0):=(blk_cell BK233.out 0).trans rfl;have hcz8_1 : w7.cell? ⟨gb233,1,none⟩ = some (.string a0_1):=(blk_cell BK233.out 1).trans rfl;have hcz8_2 : w7.cell? ⟨gb233,2,none⟩ = some (.slice A0_2 l0_2.length c0_2):=(blk_cell BK233.out 2).trans rfl;have hcz8_3 : w7.cell? ⟨gb233,3,none⟩ = some (.slice A0_3 l0_3.length c0_3):=(blk_cell BK233.out 3).trans rfl;have hfz8_0:=blk_frozen BK233.out 0;have hfz8_1:=blk_frozen BK233.out 1;have hfz8_2:=blk_frozen BK233.out 2;have hfz8_3:=blk_frozen BK233.out 3)|((with_reducible refine gate_callee (f:=88) rfl ?_);refine goesL_ (some 9) rfl rfl Try.func88 (by kernel_rfl) rfl #[.agg #[.int .i64 a0_0,.string a0_1,.slice A0_2 l0_2.length c0_2,.slice A0_3 l0_3.length c0_3]] rfl (by (try simp only [List.map_toArray,List.map_cons,List.map_nil]);first|done|rfl|(simp only [List.length_drop,List.length_take];rfl)) ?_;(with_reducible refine (impl_GoodHistory.calls k a0_0 a0_1 _ _ l0_2 _ _ l0_3 true _ ?side1 ?side2 ?side3 ?side4 A4.out).mono ?_);(case side1=>repeat (first|exact (Kd.C_below HR0_2.out HB.out)|(with_reducible first|apply Kd.C_alloc|apply Kd.C_drewN|apply Kd.C_drew)));(case side2=>exact HC0_2.out);(case side3=>repeat (first|exact (Kd.C_below HR0_3.out HB.out)|(with_reducible first|apply Kd.C_alloc|apply Kd.C_drewN|apply Kd.C_drew)));(case side4=>exact HC0_3.out);rintro e w9 ⟨rfl,hb⟩;refine ⟨_,rfl,?_⟩;have n0_:=Aside0.mk (blk_below (g:=gb233) (o:=.cells #[.int .i64 a0_0,.string a0_1,.slice A0_2 l0_2.length c0_2,.slice A0_3 l0_3.length c0_3] 55 (0,0)) (by (with_reducible repeat first|apply blk_drewN|apply blk_drew|apply blk_alloc);exact BK233.out) hb);have n1_:=Aside0.mk (below_step (by repeat (first|(with_reducible first|exact HB.out|apply below_alloc|apply pw_below_drewN|apply below_drew1|refine below_set ?_ GE233.out)|exact HB.out)) hb);clear BK233;clear HB;have BK233:=n0_;have HB:=n1_;clear n0_ n1_;(try clear hb);(try clear hb2);(try clear hk);(try clear hi);have hcz10_0 : w9.cell? ⟨gb233,0,none⟩ = some (.int .i64 a0_0):=(blk_cell BK233.out 0).trans rfl;have hcz10_1 : w9.cell? ⟨gb233,1,none⟩ = some (.string a0_1):=(blk_cell BK233.out 1).trans rfl;have hcz10_2 : w9.cell? ⟨gb233,2,none⟩ = some (.slice A0_2 l0_2.length c0_2):=(blk_cell BK233.out 2).trans rfl;have hcz10_3 : w9.cell? ⟨gb233,3,none⟩ = some (.slice A0_3 l0_3.length c0_3):=(blk_cell BK233.out 3).trans rfl;have hfz10_0:=blk_frozen BK233.out 0;have hfz10_1:=blk_frozen BK233.out 1;have hfz10_2:=blk_frozen BK233.out 2;have hfz10_3:=blk_frozen BK233.out 3))
   go_ret
   exact ⟨by first|rfl|(simp [*,errW_none,errW_some] <;> rfl),by repeat (first|(with_reducible first|exact HB.out|apply below_alloc|apply pw_below_drewN|apply below_drew1|refine below_set ?_ GE233.out)|exact HB.out)⟩
  ·rw [if_neg c6] at H
   have c6b0 : decide (a1 < a0_0) = false:=decide_eq_false c6
   clear c6
   by_cases c11 : a1 > a2
   ·rw [if_pos c11] at H
    have c11b0 : decide (a2 < a1) = true:=decide_eq_true c11
    clear c11
    obtain rfl:=Option.some.inj H
    go_enter Try.func69,Try.ntmps69
    go_wp2_with (first|((with_reducible refine gate_dst (N:=3) rfl ?_);refine box_event ?hg (N:=3) ?hd (cs:=#[.int .i64 a0_0,.string a0_1,.slice A0_2 l0_2.length c0_2,.slice A0_3 l0_3.length c0_3]) (t:=55) ?hr ?_;(case hd=>rfl);(case hg=>rfl);(case hr=>first|(go_simp;done)|(go_simp;rfl));intro gb233 hg w12 hbox hb;have n0_:=Aside0.mk (below_step (by repeat (first|exact HB.out|apply below_alloc|apply pw_below_drewN|apply below_drew1)) hb);have n1_:=Aside0.mk (hbox);have n2_:=Aside0.mk ((by rw [hg];exact (below_size (by repeat (first|exact HB.out|apply below_alloc|apply pw_below_drewN|apply below_drew1))) : w.heap.size ≤ gb233));have n3_:=Aside0.mk ((by rw [hg];exact (below_size (by repeat (first|exact HB.out|apply below_alloc|apply pw_below_drewN|apply below_drew1))) : w.heap.size ≤ gb233));clear HB;have HB:=n0_;have BK233:=n1_;have GW233:=n2_;have GE233:=n3_;clear n0_ n1_ n2_ n3_;clear hb hbox hg;have hcz13_0 : w12.cell? ⟨gb233,0,none⟩ = some (.int .i64 a0_0):=(blk_cell BK233.out 0).trans rfl;have hcz13_1 : w12.cell? ⟨gb233,1,none⟩ = some (.string a0_1):=(blk_cell BK233.out 1).trans rfl;have hcz13_2 : w12.cell? ⟨gb233,2,none⟩ = some (.slice A0_2 l0_2.length c0_2):=(blk_cell BK233.out 2).trans rfl;have hcz13_3 : w12.cell? ⟨gb233,3,none⟩ = some (.slice A0_3 l0_3.length c0_3):=(blk_cell BK233.out 3).trans rfl;have hfz13_0:=blk_frozen BK233.out 0;have hfz13_1:=blk_frozen BK233.out 1;have hfz13_2:=blk_frozen BK233.out 2;have hfz13_3:=blk_frozen BK233.out 3)|((with_reducible refine gate_callee (f:=88) rfl ?_);refine goesL_ (some 9) rfl rfl Try.func88 (by kernel_rfl) rfl #[.agg #[.int .i64 a0_0,.string a0_1,.slice A0_2 l0_2.length c0_2,.slice A0_3 l0_3.length c0_3]] rfl (by (try simp only [List.map_toArray,List.map_cons,List.map_nil]);first|done|rfl|(simp only [List.length_drop,List.length_take];rfl)) ?_;(with_reducible refine (impl_GoodHistory.calls k a0_0 a0_1 _ _ l0_2 _ _ l0_3 true _ ?side1 ?side2 ?side3 ?side4 A4.out).mono ?_);(case side1=>repeat (first|exact (Kd.C_below HR0_2.out HB.out)|(with_reducible first|apply Kd.C_alloc|apply Kd.C_drewN|apply Kd.C_drew)));(case side2=>exact HC0_2.out);(case side3=>repeat (first|exact (Kd.C_below HR0_3.out HB.out)|(with_reducible first|apply Kd.C_alloc|apply Kd.C_drewN|apply Kd.C_drew)));(case side4=>exact HC0_3.out);rintro e w14 ⟨rfl,hb⟩;refine ⟨_,rfl,?_⟩;have n0_:=Aside0.mk (blk_below (g:=gb233) (o:=.cells #[.int .i64 a0_0,.string a0_1,.slice A0_2 l0_2.length c0_2,.slice A0_3 l0_3.length c0_3] 55 (0,0)) (by (with_reducible repeat first|apply blk_drewN|apply blk_drew|apply blk_alloc);exact BK233.out) hb);have n1_:=Aside0.mk (below_step (by repeat (first|(with_reducible first|exact HB.out|apply below_alloc|apply pw_below_drewN|apply below_drew1|refine below_set ?_ GE233.out)|exact HB.out)) hb);clear BK233;clear HB;have BK233:=n0_;have HB:=n1_;clear n0_ n1_;(try clear hb);(try clear hb2);(try clear hk);(try clear hi);have hcz15_0 : w14.cell? ⟨gb233,0,none⟩ = some (.int .i64 a0_0):=(blk_cell BK233.out 0).trans rfl;have hcz15_1 : w14.cell? ⟨gb233,1,none⟩ = some (.string a0_1):=(blk_cell BK233.out 1).trans rfl;have hcz15_2 : w14.cell? ⟨gb233,2,none⟩ = some (.slice A0_2 l0_2.length c0_2):=(blk_cell BK233.out 2).trans rfl;have hcz15_3 : w14.cell? ⟨gb233,3,none⟩ = some (.slice A0_3 l0_3.length c0_3):=(blk_cell BK233.out 3).trans rfl;have hfz15_0:=blk_frozen BK233.out 0;have hfz15_1:=blk_frozen BK233.out 1;have hfz15_2:=blk_frozen BK233.out 2;have hfz15_3:=blk_frozen BK233.out 3))
    go_ret
    exact ⟨by first|rfl|(simp [*,errW_none,errW_some] <;> rfl),by repeat (first|(with_reducible first|exact HB.out|apply below_alloc|apply pw_below_drewN|apply below_drew1|refine below_set ?_ GE233.out)|exact HB.out)⟩
   ·rw [if_neg c11] at H
    have c11b0 : decide (a2 < a1) = false:=decide_eq_false c11
    clear c11
    replace H:=Option.bind_eq_some_iff.mp H
    obtain ⟨t235,A160,H⟩:=H
    replace H : (if a2 > t235 then (some 2) else (some 0)) = some r:=H
    have A16:=Aside0.mk A160
    clear A160
    by_cases c17 : a2 > t235
    ·rw [if_pos c17] at H
     have c17b0 : decide (t235 < a2) = true:=decide_eq_true c17
     clear c17
     obtain rfl:=Option.some.inj H
     go_enter Try.func69,Try.ntmps69
     go_wp2_with (first|((with_reducible refine gate_dst (N:=3) rfl ?_);refine box_event ?hg (N:=3) ?hd (cs:=#[.int .i64 a0_0,.string a0_1,.slice A0_2 l0_2.length c0_2,.slice A0_3 l0_3.length c0_3]) (t:=55) ?hr ?_;(case hd=>rfl);(case hg=>rfl);(case hr=>first|(go_simp;done)|(go_simp;rfl));intro gb233 hg w18 hbox hb;have n0_:=Aside0.mk (below_step (by repeat (first|exact HB.out|apply below_alloc|apply pw_below_drewN|apply below_drew1)) hb);have n1_:=Aside0.mk (hbox);have n2_:=Aside0.mk ((by rw [hg];exact (below_size (by repeat (first|exact HB.out|apply below_alloc|apply pw_below_drewN|apply below_drew1))) : w.heap.size ≤ gb233));have n3_:=Aside0.mk ((by rw [hg];exact (below_size (by repeat (first|exact HB.out|apply below_alloc|apply pw_below_drewN|apply below_drew1))) : w.heap.size ≤ gb233));clear HB;have HB:=n0_;have BK233:=n1_;have GW233:=n2_;have GE233:=n3_;clear n0_ n1_ n2_ n3_;clear hb hbox hg;have hcz19_0 : w18.cell? ⟨gb233,0,none⟩ = some (.int .i64 a0_0):=(blk_cell BK233.out 0).trans rfl;have hcz19_1 : w18.cell? ⟨gb233,1,none⟩ = some (.string a0_1):=(blk_cell BK233.out 1).trans rfl;have hcz19_2 : w18.cell? ⟨gb233,2,none⟩ = some (.slice A0_2 l0_2.length c0_2):=(blk_cell BK233.out 2).trans rfl;have hcz19_3 : w18.cell? ⟨gb233,3,none⟩ = some (.slice A0_3 l0_3.length c0_3):=(blk_cell BK233.out 3).trans rfl;have hfz19_0:=blk_frozen BK233.out 0;have hfz19_1:=blk_frozen BK233.out 1;have hfz19_2:=blk_frozen BK233.out 2;have hfz19_3:=blk_frozen BK233.out 3)|((with_reducible refine gate_callee (f:=88) rfl ?_);refine goesL_ (some 9) rfl rfl Try.func88 (by kernel_rfl) rfl #[.agg #[.int .i64 a0_0,.string a0_1,.slice A0_2 l0_2.length c0_2,.slice A0_3 l0_3.length c0_3]] rfl (by (try simp only [List.map_toArray,List.map_cons,List.map_nil]);first|done|rfl|(simp only [List.length_drop,List.length_take];rfl)) ?_;(with_reducible refine (impl_GoodHistory.calls k a0_0 a0_1 _ _ l0_2 _ _ l0_3 true _ ?side1 ?side2 ?side3 ?side4 A4.out).mono ?_);(case side1=>repeat (first|exact (Kd.C_below HR0_2.out HB.out)|(with_reducible first|apply Kd.C_alloc|apply Kd.C_drewN|apply Kd.C_drew)));(case side2=>exact HC0_2.out);(case side3=>repeat (first|exact (Kd.C_below HR0_3.out HB.out)|(with_reducible first|apply Kd.C_alloc|apply Kd.C_drewN|apply Kd.C_drew)));(case side4=>exact HC0_3.out);rintro e w20 ⟨rfl,hb⟩;refine ⟨_,rfl,?_⟩;have n0_:=Aside0.mk (blk_below (g:=gb233) (o:=.cells #[.int .i64 a0_0,.string a0_1,.slice A0_2 l0_2.length c0_2,.slice A0_3 l0_3.length c0_3] 55 (0,0)) (by (with_reducible repeat first|apply blk_drewN|apply blk_drew|apply blk_alloc);exact BK233.out) hb);have n1_:=Aside0.mk (below_step (by repeat (first|(with_reducible first|exact HB.out|apply below_alloc|apply pw_below_drewN|apply below_drew1|refine below_set ?_ GE233.out)|exact HB.out)) hb);clear BK233;clear HB;have BK233:=n0_;have HB:=n1_;clear n0_ n1_;(try clear hb);(try clear hb2);(try clear hk);(try clear hi);have hcz21_0 : w20.cell? ⟨gb233,0,none⟩ = some (.int .i64 a0_0):=(blk_cell BK233.out 0).trans rfl;have hcz21_1 : w20.cell? ⟨gb233,1,none⟩ = some (.string a0_1):=(blk_cell BK233.out 1).trans rfl;have hcz21_2 : w20.cell? ⟨gb233,2,none⟩ = some (.slice A0_2 l0_2.length c0_2):=(blk_cell BK233.out 2).trans rfl;have hcz21_3 : w20.cell? ⟨gb233,3,none⟩ = some (.slice A0_3 l0_3.length c0_3):=(blk_cell BK233.out 3).trans rfl;have hfz21_0:=blk_frozen BK233.out 0;have hfz21_1:=blk_frozen BK233.out 1;have hfz21_2:=blk_frozen BK233.out 2;have hfz21_3:=blk_frozen BK233.out 3)|(go_at_call 89;(with_reducible refine (impl_History_head.calls a0_0 a0_1 _ _ l0_2 _ _ l0_3 t235 _ ?side1 ?side2 ?side3 ?side4 A16.out).mono ?_);(case side1=>repeat (first|exact (Kd.C_below HR0_2.out HB.out)|(with_reducible first|apply Kd.C_alloc|apply Kd.C_drewN|apply Kd.C_drew)));(case side2=>exact HC0_2.out);(case side3=>repeat (first|exact (Kd.C_below HR0_3.out HB.out)|(with_reducible first|apply Kd.C_alloc|apply Kd.C_drewN|apply Kd.C_drew)));(case side4=>exact HC0_3.out);rintro e w22 ⟨rfl,hb⟩;have n0_:=Aside0.mk (blk_below (g:=gb233) (o:=.cells #[.int .i64 a0_0,.string a0_1,.slice A0_2 l0_2.length c0_2,.slice A0_3 l0_3.length c0_3] 55 (0,0)) (by (with_reducible repeat first|apply blk_drewN|apply blk_drew|apply blk_alloc);exact BK233.out) hb);have n1_:=Aside0.mk (below_step (by repeat (first|(with_reducible first|exact HB.out|apply below_alloc|apply pw_below_drewN|apply below_drew1|refine below_set ?_ GE233.out)|exact HB.out)) hb);clear BK233;clear HB;have BK233:=n0_;have HB:=n1_;clear n0_ n1_;(try clear hb);(try clear hb2);(try clear hk);(try clear hi)))
     go_ret
     exact ⟨by first|rfl|(simp [*,errW_none,errW_some] <;> rfl),by repeat (first|(with_reducible first|exact HB.out|apply below_alloc|apply pw_below_drewN|apply below_drew1|refine below_set ?_ GE233.out)|exact HB.out)⟩
    ·rw [if_neg c17] at H
     have c17b0 : decide (t235 < a2) = false:=decide_eq_false c17
     clear c17
     obtain rfl:=Option.some.inj H
     go_enter Try.func69,Try.ntmps69
     go_wp2_with (first|((with_reducible refine gate_dst (N:=3) rfl ?_);refine box_event ?hg (N:=3) ?hd (cs:=#[.int .i64 a0_0,.string a0_1,.slice A0_2 l0_2.length c0_2,.slice A0_3 l0_3.length c0_3]) (t:=55) ?hr ?_;(case hd=>rfl);(case hg=>rfl);(case hr=>first|(go_simp;done)|(go_simp;rfl));intro gb233 hg w23 hbox hb;have n0_:=Aside0.mk (below_step (by repeat (first|exact HB.out|apply below_alloc|apply pw_below_drewN|apply below_drew1)) hb);have n1_:=Aside0.mk (hbox);have n2_:=Aside0.mk ((by rw [hg];exact (below_size (by repeat (first|exact HB.out|apply below_alloc|apply pw_below_drewN|apply below_drew1))) : w.heap.size ≤ gb233));have n3_:=Aside0.mk ((by rw [hg];exact (below_size (by repeat (first|exact HB.out|apply below_alloc|apply pw_below_drewN|apply below_drew1))) : w.heap.size ≤ gb233));clear HB;have HB:=n0_;have BK233:=n1_;have GW233:=n2_;have GE233:=n3_;clear n0_ n1_ n2_ n3_;clear hb hbox hg;have hcz24_0 : w23.cell? ⟨gb233,0,none⟩ = some (.int .i64 a0_0):=(blk_cell BK233.out 0).trans rfl;have hcz24_1 : w23.cell? ⟨gb233,1,none⟩ = some (.string a0_1):=(blk_cell BK233.out 1).trans rfl;have hcz24_2 : w23.cell? ⟨gb233,2,none⟩ = some (.slice A0_2 l0_2.length c0_2):=(blk_cell BK233.out 2).trans rfl;have hcz24_3 : w23.cell? ⟨gb233,3,none⟩ = some (.slice A0_3 l0_3.length c0_3):=(blk_cell BK233.out 3).trans rfl;have hfz24_0:=blk_frozen BK233.out 0;have hfz24_1:=blk_frozen BK233.out 1;have hfz24_2:=blk_frozen BK233.out 2;have hfz24_3:=blk_frozen BK233.out 3)|((with_reducible refine gate_callee (f:=88) rfl ?_);refine goesL_ (some 9) rfl rfl Try.func88 (by kernel_rfl) rfl #[.agg #[.int .i64 a0_0,.string a0_1,.slice A0_2 l0_2.length c0_2,.slice A0_3 l0_3.length c0_3]] rfl (by (try simp only [List.map_toArray,List.map_cons,List.map_nil]);first|done|rfl|(simp only [List.length_drop,List.length_take];rfl)) ?_;(with_reducible refine (impl_GoodHistory.calls k a0_0 a0_1 _ _ l0_2 _ _ l0_3 true _ ?side1 ?side2 ?side3 ?side4 A4.out).mono ?_);(case side1=>repeat (first|exact (Kd.C_below HR0_2.out HB.out)|(with_reducible first|apply Kd.C_alloc|apply Kd.C_drewN|apply Kd.C_drew)));(case side2=>exact HC0_2.out);(case side3=>repeat (first|exact (Kd.C_below HR0_3.out HB.out)|(with_reducible first|apply Kd.C_alloc|apply Kd.C_drewN|apply Kd.C_drew)));(case side4=>exact HC0_3.out);rintro e w25 ⟨rfl,hb⟩;refine ⟨_,rfl,?_⟩;have n0_:=Aside0.mk (blk_below (g:=gb233) (o:=.cells #[.int .i64 a0_0,.string a0_1,.slice A0_2 l0_2.length c0_2,.slice A0_3 l0_3.length c0_3] 55 (0,0)) (by (with_reducible repeat first|apply blk_drewN|apply blk_drew|apply blk_alloc);exact BK233.out) hb);have n1_:=Aside0.mk (below_step (by repeat (first|(with_reducible first|exact HB.out|apply below_alloc|apply pw_below_drewN|apply below_drew1|refine below_set ?_ GE233.out)|exact HB.out)) hb);clear BK233;clear HB;have BK233:=n0_;have HB:=n1_;clear n0_ n1_;(try clear hb);(try clear hb2);(try clear hk);(try clear hi);have hcz26_0 : w25.cell? ⟨gb233,0,none⟩ = some (.int .i64 a0_0):=(blk_cell BK233.out 0).trans rfl;have hcz26_1 : w25.cell? ⟨gb233,1,none⟩ = some (.string a0_1):=(blk_cell BK233.out 1).trans rfl;have hcz26_2 : w25.cell? ⟨gb233,2,none⟩ = some (.slice A0_2 l0_2.length c0_2):=(blk_cell BK233.out 2).trans rfl;have hcz26_3 : w25.cell? ⟨gb233,3,none⟩ = some (.slice A0_3 l0_3.length c0_3):=(blk_cell BK233.out 3).trans rfl;have hfz26_0:=blk_frozen BK233.out 0;have hfz26_1:=blk_frozen BK233.out 1;have hfz26_2:=blk_frozen BK233.out 2;have hfz26_3:=blk_frozen BK233.out 3)|(go_at_call 89;(with_reducible refine (impl_History_head.calls a0_0 a0_1 _ _ l0_2 _ _ l0_3 t235 _ ?side1 ?side2 ?side3 ?side4 A16.out).mono ?_);(case side1=>repeat (first|exact (Kd.C_below HR0_2.out HB.out)|(with_reducible first|apply Kd.C_alloc|apply Kd.C_drewN|apply Kd.C_drew)));(case side2=>exact HC0_2.out);(case side3=>repeat (first|exact (Kd.C_below HR0_3.out HB.out)|(with_reducible first|apply Kd.C_alloc|apply Kd.C_drewN|apply Kd.C_drew)));(case side4=>exact HC0_3.out);rintro e w27 ⟨rfl,hb⟩;have n0_:=Aside0.mk (blk_below (g:=gb233) (o:=.cells #[.int .i64 a0_0,.string a0_1,.slice A0_2 l0_2.length c0_2,.slice A0_3 l0_3.length c0_3] 55 (0,0)) (by (with_reducible repeat first|apply blk_drewN|apply blk_drew|apply blk_alloc);exact BK233.out) hb);have n1_:=Aside0.mk (below_step (by repeat (first|(with_reducible first|exact HB.out|apply below_alloc|apply pw_below_drewN|apply below_drew1|refine below_set ?_ GE233.out)|exact HB.out)) hb);clear BK233;clear HB;have BK233:=n0_;have HB:=n1_;clear n0_ n1_;(try clear hb);(try clear hb2);(try clear hk);(try clear hi)))
     go_ret
     exact ⟨by first|rfl|(simp [*,errW_none,errW_some] <;> rfl),by repeat (first|(with_reducible first|exact HB.out|apply below_alloc|apply pw_below_drewN|apply below_drew1|refine below_set ?_ GE233.out)|exact HB.out)⟩
 ·replace c5:=Bool.eq_false_iff.mpr c5
  subst c5
  have H1 : (some 1) = some r:=by rw [if_neg (show ¬ (false = true) by decide)] at H;exact H
  clear H
  have H:=H1
  clear H1
  obtain rfl:=Option.some.inj H
  go_enter Try.func69,Try.ntmps69
  go_wp2_with (first|((with_reducible refine gate_dst (N:=3) rfl ?_);refine box_event ?hg (N:=3) ?hd (cs:=#[.int .i64 a0_0,.string a0_1,.slice A0_2 l0_2.length c0_2,.slice A0_3 l0_3.length c0_3]) (t:=55) ?hr ?_;(case hd=>rfl);(case hg=>rfl);(case hr=>first|(go_simp;done)|(go_simp;rfl));intro gb233 hg w28 hbox hb;have n0_:=Aside0.mk (below_step (by repeat (first|exact HB.out|apply below_alloc|apply pw_below_drewN|apply below_drew1)) hb);have n1_:=Aside0.mk (hbox);have n2_:=Aside0.mk ((by rw [hg];exact (below_size (by repeat (first|exact HB.out|apply below_alloc|apply pw_below_drewN|apply below_drew1))) : w.heap.size ≤ gb233));have n3_:=Aside0.mk ((by rw [hg];exact (below_size (by repeat (first|exact HB.out|apply below_alloc|apply pw_below_drewN|apply below_drew1))) : w.heap.size ≤ gb233));clear HB;have HB:=n0_;have BK233:=n1_;have GW233:=n2_;have GE233:=n3_;clear n0_ n1_ n2_ n3_;clear hb hbox hg;have hcz29_0 : w28.cell? ⟨gb233,0,none⟩ = some (.int .i64 a0_0):=(blk_cell BK233.out 0).trans rfl;have hcz29_1 : w28.cell? ⟨gb233,1,none⟩ = some (.string a0_1):=(blk_cell BK233.out 1).trans rfl;have hcz29_2 : w28.cell? ⟨gb233,2,none⟩ = some (.slice A0_2 l0_2.length c0_2):=(blk_cell BK233.out 2).trans rfl;have hcz29_3 : w28.cell? ⟨gb233,3,none⟩ = some (.slice A0_3 l0_3.length c0_3):=(blk_cell BK233.out 3).trans rfl;have hfz29_0:=blk_frozen BK233.out 0;have hfz29_1:=blk_frozen BK233.out 1;have hfz29_2:=blk_frozen BK233.out 2;have hfz29_3:=blk_frozen BK233.out 3)|((with_reducible refine gate_callee (f:=88) rfl ?_);refine goesL_ (some 9) rfl rfl Try.func88 (by kernel_rfl) rfl #[.agg #[.int .i64 a0_0,.string a0_1,.slice A0_2 l0_2.length c0_2,.slice A0_3 l0_3.length c0_3]] rfl (by (try simp only [List.map_toArray,List.map_cons,List.map_nil]);first|done|rfl|(simp only [List.length_drop,List.length_take];rfl)) ?_;(with_reducible refine (impl_GoodHistory.calls k a0_0 a0_1 _ _ l0_2 _ _ l0_3 false _ ?side1 ?side2 ?side3 ?side4 A4.out).mono ?_);(case side1=>repeat (first|exact (Kd.C_below HR0_2.out HB.out)|(with_reducible first|apply Kd.C_alloc|apply Kd.C_drewN|apply Kd.C_drew)));(case side2=>exact HC0_2.out);(case side3=>repeat (first|exact (Kd.C_below HR0_3.out HB.out)|(with_reducible first|apply Kd.C_alloc|apply Kd.C_drewN|apply Kd.C_drew)));(case side4=>exact HC0_3.out);rintro e w30 ⟨rfl,hb⟩;refine ⟨_,rfl,?_⟩;have n0_:=Aside0.mk (blk_below (g:=gb233) (o:=.cells #[.int .i64 a0_0,.string a0_1,.slice A0_2 l0_2.length c0_2,.slice A0_3 l0_3.length c0_3] 55 (0,0)) (by (with_reducible repeat first|apply blk_drewN|apply blk_drew|apply blk_alloc);exact BK233.out) hb);have n1_:=Aside0.mk (below_step (by repeat (first|(with_reducible first|exact HB.out|apply below_alloc|apply pw_below_drewN|apply below_drew1|refine below_set ?_ GE233.out)|exact HB.out)) hb);clear BK233;clear HB;have BK233:=n0_;have HB:=n1_;clear n0_ n1_;(try clear hb);(try clear hb2);(try clear hk);(try clear hi)))
  go_ret
  exact ⟨by first|rfl|(simp [*,errW_none,errW_some] <;> rfl),by repeat (first|(with_reducible first|exact HB.out|apply below_alloc|apply pw_below_drewN|apply below_drew1|refine below_set ?_ GE233.out)|exact HB.out)⟩

/-! ### impl_apply: function 90 -/
def impl_apply.l0 : Nat → ByteArray → ByteArray → Int → List (S89) → Int → Int → Option (ByteArray)
 | 0,_,_,_,_,_,_=>none
 | k + 1,x0,x5,x6,x9,x10,x11=>if x11 < x10 then (if 0 ≤ x11 then (if x11 < (x9.length : Int) then (if 0 ≤ x6 then (if x6 ≤ (wrap64 (x6 + ((rd_T89 x9 x11).f0))) then (if (wrap64 (x6 + ((rd_T89 x9 x11).f0))) ≤ (x0.size : Int) then (if (x0.extract (x6 : Int).toNat ((wrap64 (x6 + ((rd_T89 x9 x11).f0))) : Int).toNat).size + ((rd_T89 x9 x11).f2).size ≤ 9223372036854775807 then (if x5.size + ((x0.extract (x6 : Int).toNat ((wrap64 (x6 + ((rd_T89 x9 x11).f0))) : Int).toNat) ++ ((rd_T89 x9 x11).f2)).size ≤ 9223372036854775807 then (impl_apply.l0 k x0 (x5 ++ ((x0.extract (x6 : Int).toNat ((wrap64 (x6 + ((rd_T89 x9 x11).f0))) : Int).toNat) ++ ((rd_T89 x9 x11).f2))) (wrap64 (x6 + (wrap64 (((rd_T89 x9 x11).f0) + ((rd_T89 x9 x11).f1))))) x9 x10 (wrap64 (x11 + 1))) else (none)) else (none)) else (none)) else (none)) else (none)) else (none)) else (none)) else (some x5)
def impl_apply.f (k : Nat) (a0 : ByteArray) (l1 : List (S89)) : Option (ByteArray):=impl_apply.l0 k a0 (⟨#[]⟩ : ByteArray) 0 l1 (l1.length : Int) 0
theorem impl_apply.mono_l : ∀ k,(∀ y0 y1 y2 y3 y4 y5,LeO (impl_apply.l0 k y0 y1 y2 y3 y4 y5) (impl_apply.l0 (k + 1) y0 y1 y2 y3 y4 y5))
 | 0=>fun _ _ _ _ _ _ r h=>by simp [impl_apply.l0] at h
 | k + 1=>by
  have ih0:=impl_apply.mono_l k
  ·intro y0 y1 y2 y3 y4 y5
   unfold impl_apply.l0
   repeat' first
   | (with_reducible exact ih0 _ _ _ _ _ _)
   | (with_reducible exact LeO.refl _)
   | (with_reducible exact LeO.none _)
   | (with_reducible refine LeO.ite ?_ ?_)
   | (with_reducible refine LeO.bind ?_ (fun _=>?_))
   | exact ih0 _ _ _ _ _ _
   | exact LeO.none _
   | refine LeO.ite ?_ ?_
   | refine LeO.bind ?_ (fun _=>?_)
theorem impl_apply.mono : ∀ a0 a1 k,LeO (impl_apply.f k a0 a1) (impl_apply.f (k + 1) a0 a1):=by
 intro a0 a1 k
 have ih0:=impl_apply.mono_l k
 unfold impl_apply.f
 repeat' first
   | (with_reducible exact ih0 _ _ _ _ _ _)
   | (with_reducible exact LeO.refl _)
   | (with_reducible exact LeO.none _)
   | (with_reducible refine LeO.ite ?_ ?_)
   | (with_reducible refine LeO.bind ?_ (fun _=>?_))
   | exact ih0 _ _ _ _ _ _
   | exact LeO.none _
   | refine LeO.ite ?_ ?_
   | refine LeO.bind ?_ (fun _=>?_)
set_option maxHeartbeats 8000000 in
set_option maxRecDepth 100000 in
theorem impl_apply.calls (k : Nat) (a0 : ByteArray) (A1 : Option Addr) (c1 : Nat) (l1 : List (S89)) (r : ByteArray) (w : World) (hr1 : Kd.C k89 w A1 l1.length l1) (hc1 : l1.length ≤ c1) (h : impl_apply.f k a0 l1 = some r) :
  Calls Try.prog 90 #[.string a0,.slice A1 l1.length c1] w fun e w'=>e = .returned (.string r)∧Below w.heap.size w w':=by
 have hu89:=Try.underlying89
 have HR1:=Aside0.mk hr1
 have HC1:=Aside0.mk hc1
 clear hr1 hc1
 have HB:=Aside0.mk (Below.refl w.heap.size w)
 have H : (impl_apply.l0 k a0 (⟨#[]⟩ : ByteArray) 0 l1 (l1.length : Int) 0) = some r:=h
 clear h
 have H':=Aside0.mk H
 clear H
 go_enter Try.func90,Try.ntmps90
 go_wp2
 repeat (go_quiet (fail);try go_wp2)
 go_loopg [5,6,11] k (fun kq v5 v6 v11 w'=>∃ (x5_1 : ByteArray) (x6_1 : Int) (x11_1 : Int),v5 = .string x5_1∧v6 = .int .i64 x6_1∧v11 = .int .i64 x11_1∧Aside0 (impl_apply.l0 kq a0 x5_1 x6_1 l1 (l1.length : Int) x11_1 = some r)∧Aside0 (kq ≤ k)∧Aside0 (Below w.heap.size w w'))
 case atStart=>exact ⟨((⟨#[]⟩ : ByteArray)),(0),(0),(by first|rfl|(simp;done)|(simp [*];done)),(by first|rfl|(simp;done)|(simp [*];done)),(by first|rfl|(simp;done)|(simp [*];done)),H',⟨Nat.le_refl _⟩,⟨by repeat (first|exact HB.out|apply below_alloc|apply pw_below_drewN|apply below_drew1)⟩⟩
 case round =>
  clear H'
  try clear c1;try clear p2
  obtain ⟨x5_1,x6_1,x11_1,rfl,rfl,rfl,HA,HK1,HB⟩:=hrel
  cases gk with
  | zero=>exact absurd HA.out (by simp [impl_apply.l0])
  | succ k1 =>
   have H:=HA.out
   clear HA
   simp only [impl_apply.l0] at H
   by_cases c3 : x11_1 < (l1.length : Int)
   ·rw [if_pos c3] at H
    have c3b0 : decide (x11_1 < (l1.length : Int)) = true:=decide_eq_true c3
    clear c3
    by_cases c4 : 0 ≤ x11_1
    ·rw [if_pos c4] at H
     have c4b0 : decide (0 ≤ x11_1) = true:=decide_eq_true c4
     clear c4
     by_cases c5 : x11_1 < (l1.length : Int)
     ·rw [if_pos c5] at H
      have c5b0 : decide (x11_1 < (l1.length : Int)) = true:=decide_eq_true c5
      clear c5
      by_cases c6 : 0 ≤ x6_1
      ·rw [if_pos c6] at H
       have c6b0:=eq_true c6
       have c6b1 : decide (0 ≤ x6_1) = true:=decide_eq_true c6
       clear c6
       by_cases c7 : x6_1 ≤ (wrap64 (x6_1 + ((rd_T89 l1 x11_1).f0)))
       ·rw [if_pos c7] at H
        have c7b0:=eq_true c7
        have c7b1 : decide (x6_1 ≤ (wrap64 (x6_1 + ((rd_T89 l1 x11_1).f0)))) = true:=decide_eq_true c7
        by_cases c8 : (wrap64 (x6_1 + ((rd_T89 l1 x11_1).f0))) ≤ (a0.size : Int)
        ·rw [if_pos c8] at H
         have c8b0:=eq_true c8
         have c8b1 : decide ((wrap64 (x6_1 + ((rd_T89 l1 x11_1).f0))) ≤ (a0.size : Int)) = true:=decide_eq_true c8
         by_cases c9 : (a0.extract (x6_1 : Int).toNat ((wrap64 (x6_1 + ((rd_T89 l1 x11_1).f0))) : Int).toNat).size + ((rd_T89 l1 x11_1).f2).size ≤ 9223372036854775807
         ·rw [if_pos c9] at H
          have c9b0:=eq_true c9
          have c9b1 : decide ((a0.extract (x6_1 : Int).toNat ((wrap64 (x6_1 + ((rd_T89 l1 x11_1).f0))) : Int).toNat).size + ((rd_T89 l1 x11_1).f2).size ≤ 9223372036854775807) = true:=decide_eq_true c9
          try have c9b2 : (9223372036854775807 < (a0.extract (x6_1 : Int).toNat ((wrap64 (x6_1 + ((rd_T89 l1 x11_1).f0))) : Int).toNat).size + ((rd_T89 l1 x11_1).f2).size) = False:=eq_false (Nat.not_lt.2 c9)
          by_cases c10 : x5_1.size + ((a0.extract (x6_1 : Int).toNat ((wrap64 (x6_1 + ((rd_T89 l1 x11_1).f0))) : Int).toNat) ++ ((rd_T89 l1 x11_1).f2)).size ≤ 9223372036854775807
          ·rw [if_pos c10] at H
           have c10b0:=eq_true c10
           have c10b1 : decide (x5_1.size + ((a0.extract (x6_1 : Int).toNat ((wrap64 (x6_1 + ((rd_T89 l1 x11_1).f0))) : Int).toNat) ++ ((rd_T89 l1 x11_1).f2)).size ≤ 9223372036854775807) = true:=decide_eq_true c10
           try have c10b2 : (9223372036854775807 < x5_1.size + ((a0.extract (x6_1 : Int).toNat ((wrap64 (x6_1 + ((rd_T89 l1 x11_1).f0))) : Int).toNat) ++ ((rd_T89 l1 x11_1).f2)).size) = False:=eq_false (Nat.not_lt.2 c10)
           have H':=Aside0.mk H
           clear H
           have p236 : 0 ≤ (x11_1 : Int):=of_decide_eq_true (by assumption)
           have q236 : x11_1 < (l1.length : Int):=of_decide_eq_true (by assumption)
           obtain ⟨ad236,e236,hx236_0,hx236_1,hx236_2⟩:=at_T89 HR1.out x11_1 p236 q236
           cases e236
           replace hx236_0:=(HB.out.cell (World.block_lt_of_cell? w _ hx236_0)).trans hx236_0
           replace hx236_1:=(HB.out.cell (World.block_lt_of_cell? w _ hx236_1)).trans hx236_1
           replace hx236_2:=(HB.out.cell (World.block_lt_of_cell? w _ hx236_2)).trans hx236_2
           replace p236:=eq_true p236
           replace q236:=eq_true q236
           go_wp2_with (first|((with_reducible refine gate_dst (N:=8) rfl ?_);refine box_event ?hg (N:=8) ?hd (cs:=#[.int .i64 0,.int .i64 0,.string (⟨#[]⟩ : ByteArray)]) (t:=89) ?hr ?_;(case hd=>rfl);(case hg=>rfl);(case hr=>first|(go_simp;done)|(go_simp;rfl));intro gb237 hg w11 hbox hb;have n0_:=Aside0.mk (below_step (by repeat (first|exact HB.out|apply below_alloc|apply pw_below_drewN|apply below_drew1)) hb);have n1_:=Aside0.mk (hbox);have n2_:=Aside0.mk ((by rw [hg];exact (below_size (by repeat (first|exact HB.out|apply below_alloc|apply pw_below_drewN|apply below_drew1))) : w.heap.size ≤ gb237));have n3_:=Aside0.mk ((by rw [hg];exact (below_size (by repeat (first|exact HB.out|apply below_alloc|apply pw_below_drewN|apply below_drew1))) : w.heap.size ≤ gb237));clear HB;have HB:=n0_;have BK237:=n1_;have GW237:=n2_;have GE237:=n3_;clear n0_ n1_ n2_ n3_;clear hb hbox hg;have hcz12_0 : w11.cell? ⟨gb237,0,none⟩ = some (.int .i64 0):=(blk_cell BK237.out 0).trans rfl;have hcz12_1 : w11.cell? ⟨gb237,1,none⟩ = some (.int .i64 0):=(blk_cell BK237.out 1).trans rfl;have hcz12_2 : w11.cell? ⟨gb237,2,none⟩ = some (.string (⟨#[]⟩ : ByteArray)):=(blk_cell BK237.out 2).trans rfl;have hfz12_0:=blk_frozen BK237.out 0;have hfz12_1:=blk_frozen BK237.out 1;have hfz12_2:=blk_frozen BK237.out 2))
           repeat (go_quiet (first|((with_reducible refine gate_dst (N:=8) rfl ?_);refine box_event ?hg (N:=8) ?hd (cs:=#[.int .i64 0,.int .i64 0,.string (⟨#[]⟩ : ByteArray)]) (t:=89) ?hr ?_;(case hd=>rfl);(case hg=>rfl);(case hr=>first|(go_simp;done)|(go_simp;rfl));intro gb237 hg w11 hbox hb;have n0_:=Aside0.mk (below_step (by repeat (first|exact HB.out|apply below_alloc|apply pw_below_drewN|apply below_drew1)) hb);have n1_:=Aside0.mk (hbox);have n2_:=Aside0.mk ((by rw [hg];exact (below_size (by repeat (first|exact HB.out|apply below_alloc|apply pw_below_drewN|apply below_drew1))) : w.heap.size ≤ gb237));have n3_:=Aside0.mk ((by rw [hg];exact (below_size (by repeat (first|exact HB.out|apply below_alloc|apply pw_below_drewN|apply below_drew1))) : w.heap.size ≤ gb237));clear HB;have HB:=n0_;have BK237:=n1_;have GW237:=n2_;have GE237:=n3_;clear n0_ n1_ n2_ n3_;clear hb hbox hg;have hcz12_0 : w11.cell? ⟨gb237,0,none⟩ = some (.int .i64 0):=(blk_cell BK237.out 0).trans rfl;have hcz12_1 : w11.cell? ⟨gb237,1,none⟩ = some (.int .i64 0):=(blk_cell BK237.out 1).trans rfl;have hcz12_2 : w11.cell? ⟨gb237,2,none⟩ = some (.string (⟨#[]⟩ : ByteArray)):=(blk_cell BK237.out 2).trans rfl;have hfz12_0:=blk_frozen BK237.out 0;have hfz12_1:=blk_frozen BK237.out 1;have hfz12_2:=blk_frozen BK237.out 2));try go_wp2_with (first|((with_reducible refine gate_dst (N:=8) rfl ?_);refine box_event ?hg (N:=8) ?hd (cs:=#[.int .i64 0,.int .i64 0,.string (⟨#[]⟩ : ByteArray)]) (t:=89) ?hr ?_;(case hd=>rfl);(case hg=>rfl);(case hr=>first|(go_simp;done)|(go_simp;rfl));intro gb237 hg w11 hbox hb;have n0_:=Aside0.mk (below_step (by repeat (first|exact HB.out|apply below_alloc|apply pw_below_drewN|apply below_drew1)) hb);have n1_:=Aside0.mk (hbox);have n2_:=Aside0.mk ((by rw [hg];exact (below_size (by repeat (first|exact HB.out|apply below_alloc|apply pw_below_drewN|apply below_drew1))) : w.heap.size ≤ gb237));have n3_:=Aside0.mk ((by rw [hg];exact (below_size (by repeat (first|exact HB.out|apply below_alloc|apply pw_below_drewN|apply below_drew1))) : w.heap.size ≤ gb237));clear HB;have HB:=n0_;have BK237:=n1_;have GW237:=n2_;have GE237:=n3_;clear n0_ n1_ n2_ n3_;clear hb hbox hg;have hcz12_0 : w11.cell? ⟨gb237,0,none⟩ = some (.int .i64 0):=(blk_cell BK237.out 0).trans rfl;have hcz12_1 : w11.cell? ⟨gb237,1,none⟩ = some (.int .i64 0):=(blk_cell BK237.out 1).trans rfl;have hcz12_2 : w11.cell? ⟨gb237,2,none⟩ = some (.string (⟨#[]⟩ : ByteArray)):=(blk_cell BK237.out 2).trans rfl;have hfz12_0:=blk_frozen BK237.out 0;have hfz12_1:=blk_frozen BK237.out 1;have hfz12_2:=blk_frozen BK237.out 2)))
           go_roundg k1
           case measure=>have:=HK1.out;omega
           case rel=>exact ⟨(x5_1 ++ ((a0.extract (x6_1 : Int).toNat ((wrap64 (x6_1 + ((rd_T89 l1 x11_1).f0))) : Int).toNat) ++ ((rd_T89 l1 x11_1).f2))),(wrap64 (x6_1 + (wrap64 (((rd_T89 l1 x11_1).f0) + ((rd_T89 l1 x11_1).f1))))),(wrap64 (x11_1 + 1)),(by first|rfl|(simp;done)|(simp [*];done)),(by first|rfl|(simp;done)|(simp [*];done)),(by first|rfl|(simp;done)|(simp [*];done)),H',⟨by have:=HK1.out;omega⟩,⟨by repeat (first|(with_reducible first|exact HB.out|apply below_alloc|apply pw_below_drewN|apply below_drew1|refine below_set ?_ GE237.out)|exact HB.out)⟩⟩
          ·rw [if_neg c10] at H
           exact absurd H (by simp)
         ·rw [if_neg c9] at H
          exact absurd H (by simp)
        ·rw [if_neg c8] at H
         exact absurd H (by simp)
       ·rw [if_neg c7] at H
        exact absurd H (by simp)
      ·rw [if_neg c6] at H
       exact absurd H (by simp)
     ·rw [if_neg c5] at H
      exact absurd H (by simp)
    ·rw [if_neg c4] at H
     exact absurd H (by simp)
   ·rw [if_neg c3] at H
    have c3b0 : decide (x11_1 < (l1.length : Int)) = false:=decide_eq_false c3
    clear c3
    obtain rfl:=Option.some.inj H
    go_wp2
    repeat (go_quiet (fail);try go_wp2)
    go_ret
    exact ⟨by first|rfl|(simp [*,errW_none,errW_some] <;> rfl),by repeat (first|exact HB.out|apply below_alloc|apply pw_below_drewN|apply below_drew1)⟩

/-! ### impl_History_text: function 70 -/
def impl_History_text.l0 : Nat → ByteArray → List (S112) → Int → Int → Option (ByteArray)
 | 0,_,_,_,_=>none
 | k + 1,x5,x16,x17,x18=>if x18 < x17 then (if 0 ≤ x18 then (if x18 < (x16.length : Int) then ((impl_apply.f k x5 ((rd_T112 x16 x18).f0)).bind fun t245=>(impl_History_text.l0 k t245 x16 x17 (wrap64 (x18 + 1)))) else (none)) else (none)) else (some x5)
def impl_History_text.f (k : Nat) (a0_0 : Int) (a0_1 : ByteArray) (l0_2 : List (S74)) (l0_3 : List (S112)) (a1 : Int) : Option (ByteArray):=if 0 ≤ (wrap64 (a1 - a0_0)) then (if (wrap64 (a1 - a0_0)) ≤ (l0_3.length : Int) then ((some (l0_3.take ((wrap64 (a1 - a0_0)) : Int).toNat : List (S112))).bind fun y239=>(impl_History_text.l0 k a0_1 y239 (y239.length : Int) 0)) else (none)) else (none)
theorem impl_History_text.mono_l : ∀ k,(∀ y0 y1 y2 y3,LeO (impl_History_text.l0 k y0 y1 y2 y3) (impl_History_text.l0 (k + 1) y0 y1 y2 y3))
 | 0=>fun _ _ _ _ r h=>by simp [impl_History_text.l0] at h
 | k + 1=>by
  have ih0:=impl_History_text.mono_l k
  ·intro y0 y1 y2 y3
   unfold impl_History_text.l0
   repeat' first
   | (with_reducible exact ih0 _ _ _ _)
   | (with_reducible exact impl_apply.mono _ _ _)
   | (with_reducible exact LeO.refl _)
   | (with_reducible exact LeO.none _)
   | (with_reducible refine LeO.ite ?_ ?_)
   | (with_reducible refine LeO.bind ?_ (fun _=>?_))
   | exact ih0 _ _ _ _
   | exact impl_apply.mono _ _ _
   | exact LeO.none _
   | refine LeO.ite ?_ ?_
   | refine LeO.bind ?_ (fun _=>?_)
theorem impl_History_text.mono : ∀ a0 a1 a2 a3 a4 k,LeO (impl_History_text.f k a0 a1 a2 a3 a4) (impl_History_text.f (k + 1) a0 a1 a2 a3 a4):=by
 intro a0 a1 a2 a3 a4 k
 have ih0:=impl_History_text.mono_l k
 unfold impl_History_text.f
 repeat' first
   | (with_reducible exact ih0 _ _ _ _)
   | (with_reducible exact impl_apply.mono _ _ _)
   | (with_reducible exact LeO.refl _)
   | (with_reducible exact LeO.none _)
   | (with_reducible refine LeO.ite ?_ ?_)
   | (with_reducible refine LeO.bind ?_ (fun _=>?_))
   | exact ih0 _ _ _ _
   | exact impl_apply.mono _ _ _
   | exact LeO.none _
   | refine LeO.ite ?_ ?_
   | refine LeO.bind ?_ (fun _=>?_)
set_option maxHeartbeats 8000000 in
set_option maxRecDepth 100000 in
theorem impl_History_text.calls (k : Nat) (a0_0 : Int) (a0_1 : ByteArray) (A0_2 : Option Addr) (c0_2 : Nat) (l0_2 : List (S74)) (A0_3 : Option Addr) (c0_3 : Nat) (l0_3 : List (S112)) (a1 : Int) (r : ByteArray) (w : World) (hr0_2 : Kd.C k74 w A0_2 l0_2.length l0_2) (hc0_2 : l0_2.length ≤ c0_2) (hr0_3 : Kd.C k112 w A0_3 l0_3.length l0_3) (hc0_3 : l0_3.length ≤ c0_3) (h : impl_History_text.f k a0_0 a0_1 l0_2 l0_3 a1 = some r) :
  Calls Try.prog 70 #[.agg #[.int .i64 a0_0,.string a0_1,.slice A0_2 l0_2.length c0_2,.slice A0_3 l0_3.length c0_3],.int .i64 a1] w fun e w'=>e = .returned (.string r)∧Below w.heap.size w w':=by
 have hu55:=Try.underlying55
 have hu112:=Try.underlying112
 have HR0_2:=Aside0.mk hr0_2
 have HC0_2:=Aside0.mk hc0_2
 clear hr0_2 hc0_2
 have HR0_3:=Aside0.mk hr0_3
 have HC0_3:=Aside0.mk hc0_3
 clear hr0_3 hc0_3
 have HB:=Aside0.mk (Below.refl w.heap.size w)
 have H : (if 0 ≤ (wrap64 (a1 - a0_0)) then (if (wrap64 (a1 - a0_0)) ≤ (l0_3.length : Int) then ((some (l0_3.take ((wrap64 (a1 - a0_0)) : Int).toNat : List (S112))).bind fun y239=>(impl_History_text.l0 k a0_1 y239 (y239.length : Int) 0)) else (none)) else (none)) = some r:=h
 clear h
 obtain ⟨ji3,hji3⟩ : ∃ j_ : Int,(wrap64 (a1 - a0_0)) = j_:=⟨_,rfl⟩
 replace H : (if 0 ≤ (ji3) then (if (ji3) ≤ (l0_3.length : Int) then ((some (l0_3.take ((ji3) : Int).toNat : List (S112))).bind fun y239=>(impl_History_text.l0 k a0_1 y239 (y239.length : Int) 0)) else (none)) else (none)) = some r:=by first|(rw [hji3] at H;exact H)|(simp only [hji3] at H ⊢;exact H)
 have hji3w : (IntKind.i64.wrap (a1 - a0_0)) = ji3:=(i64_w _).trans hji3
 by_cases c4 : 0 ≤ (ji3)
 ·rw [if_pos c4] at H
  have c4b0:=eq_true c4
  have c4b1 : decide (0 ≤ (ji3)) = true:=decide_eq_true c4
  clear c4
  by_cases c5 : (ji3) ≤ (l0_3.length : Int)
  ·rw [if_pos c5] at H
   have c5b0:=eq_true c5
   have c5b1 : decide ((ji3) ≤ (l0_3.length : Int)) = true:=decide_eq_true c5
   clear c5
   obtain ⟨y239,hy239⟩ : ∃ y_ : List (S112),y_ = (l0_3.take ((ji3) : Int).toNat):=⟨_,rfl⟩
   replace H : (impl_History_text.l0 k a0_1 y239 (y239.length : Int) 0) = some r:=by first|(rw [hy239];with_reducible exact H)|(have H2_:=(Option.bind_some _ _).symm.trans H;rw [hy239];with_reducible exact H2_)|(have H2_:=(Option.bind_some _ _).symm.trans H;with_reducible exact H2_)|with_reducible exact H|(rw [hy239];exact H)|exact H
   have Ny239:=Aside0.mk hy239
   clear hy239
   have H':=Aside0.mk H
   clear H
   go_enter Try.func70,Try.ntmps70
   go_wp2_with (first|((with_reducible refine gate_dst (N:=2) rfl ?_);refine box_event ?hg (N:=2) ?hd (cs:=#[.int .i64 a0_0,.string a0_1,.slice A0_2 l0_2.length c0_2,.slice A0_3 l0_3.length c0_3]) (t:=55) ?hr ?_;(case hd=>rfl);(case hg=>rfl);(case hr=>first|(go_simp;done)|(go_simp;rfl));intro gb238 hg w6 hbox hb;have n0_:=Aside0.mk (below_step (by repeat (first|exact HB.out|apply below_alloc|apply pw_below_drewN|apply below_drew1)) hb);have n1_:=Aside0.mk (hbox);have n2_:=Aside0.mk ((by rw [hg];exact (below_size (by repeat (first|exact HB.out|apply below_alloc|apply pw_below_drewN|apply below_drew1))) : w.heap.size ≤ gb238));have n3_:=Aside0.mk ((by rw [hg];exact (below_size (by repeat (first|exact HB.out|apply below_alloc|apply pw_below_drewN|apply below_drew1))) : w.heap.size ≤ gb238));clear HB;have HB:=n0_;have BK238:=n1_;have GW238:=n2_;have GE238:=n3_;clear n0_ n1_ n2_ n3_;clear hb hbox hg;have hcz7_0 : w6.cell? ⟨gb238,0,none⟩ = some (.int .i64 a0_0):=(blk_cell BK238.out 0).trans rfl;have hcz7_1 : w6.cell? ⟨gb238,1,none⟩ = some (.string a0_1):=(blk_cell BK238.out 1).trans rfl;have hcz7_2 : w6.cell? ⟨gb238,2,none⟩ = some (.slice A0_2 l0_2.length c0_2):=(blk_cell BK238.out 2).trans rfl;have hcz7_3 : w6.cell? ⟨gb238,3,none⟩ = some (.slice A0_3 l0_3.length c0_3):=(blk_cell BK238.out 3).trans rfl;have hfz7_0:=blk_frozen BK238.out 0;have hfz7_1:=blk_frozen BK238.out 1;have hfz7_2:=blk_frozen BK238.out 2;have hfz7_3:=blk_frozen BK238.out 3;have q8 : ((ji3) : Int) ≤ ((l0_3.length : Int) : Int):=of_decide_eq_true (by assumption);obtain ⟨i08,hi08,_,hsz8,_⟩:=info_parts info112;have hroom8 : l0_3.length ≤ c0_3:=HC0_3.out;have hC8 : Kd.C k112 _ A0_3 l0_3.length l0_3:=HR0_3.out;have hcut8:=cut_to (P:=Try.prog) 53 112 .i64 Try.underlying53 hi08 A0_3 l0_3.length c0_3 (ji3) (of_decide_eq_true (by assumption)) q8 hroom8;have hr8:=Kd.C_take (m:=((ji3) : Int).toNat) hC8 (by omega);have hy8 : y239.length = ((ji3) : Int).toNat:=(by rw [Ny239.out,List.length_take];omega);rw [← Ny239.out] at hr8;rw [← hy8] at hcut8;have HR242:=Aside0.mk hr8;have HC242:=Aside0.mk (show y239.length ≤ c0_3 from by omega);clear hr8 hC8 hroom8 hi08 hsz8;have KY8:=Aside0.mk hy8;clear hy8;replace q8:=eq_true q8))
   go_loopg [5,18] k (fun kq v5 v18 w'=>∃ (x5_1 : ByteArray) (x18_1 : Int),v5 = .string x5_1∧v18 = .int .i64 x18_1∧Aside0 (impl_History_text.l0 kq x5_1 y239 (y239.length : Int) x18_1 = some r)∧Aside0 (kq ≤ k)∧Aside0 (w'.heap[gb238]? = some (.cells #[.int .i64 a0_0,.string a0_1,(.slice A0_2 l0_2.length c0_2),(.slice A0_3 l0_3.length c0_3)] 55 (0,0)))∧Aside0 (Below w.heap.size w w'))
   case atStart=>exact ⟨(a0_1),(0),(by first|rfl|(simp;done)|(simp [*];done)),(by first|rfl|(simp;done)|(simp [*];done)),H',⟨Nat.le_refl _⟩,⟨by (with_reducible repeat first|apply blk_drewN|apply blk_drew|apply blk_alloc);exact BK238.out⟩,⟨by repeat (first|(with_reducible first|exact HB.out|apply below_alloc|apply pw_below_drewN|apply below_drew1|refine below_set ?_ GE238.out)|exact HB.out)⟩⟩
   case round =>
    clear H'
    try clear p2;try clear c4;try clear c4b0;try clear c4b1;try clear c5;try clear c5b0;try clear c5b1;try clear p6;try clear c7;try clear q8;try clear hcz7_0;try clear hcz7_1;try clear hcz7_2;try clear hcz7_3;try clear hfz7_0;try clear hfz7_1;try clear hfz7_2;try clear hfz7_3;try clear q8
    obtain ⟨x5_1,x18_1,rfl,rfl,HA,HK1,BK238,HB⟩:=hrel
    cases gk with
    | zero=>exact absurd HA.out (by simp [impl_History_text.l0])
    | succ k1 =>
     have H:=HA.out
     clear HA
     simp only [impl_History_text.l0] at H
     by_cases c9 : x18_1 < (y239.length : Int)
     ·rw [if_pos c9] at H
      have c9b0 : decide (x18_1 < (y239.length : Int)) = true:=decide_eq_true c9
      clear c9
      by_cases c10 : 0 ≤ x18_1
      ·rw [if_pos c10] at H
       have c10b0 : decide (0 ≤ x18_1) = true:=decide_eq_true c10
       clear c10
       by_cases c11 : x18_1 < (y239.length : Int)
       ·rw [if_pos c11] at H
        have c11b0 : decide (x18_1 < (y239.length : Int)) = true:=decide_eq_true c11
        clear c11
        replace H:=Option.bind_eq_some_iff.mp H
        obtain ⟨t245,A120,H⟩:=H
        replace H : (impl_History_text.l0 k1 t245 y239 (y239.length : Int) (wrap64 (x18_1 + 1))) = some r:=H
        have A12:=Aside0.mk A120
        clear A120
        have H':=Aside0.mk H
        clear H
        have p243 : 0 ≤ (x18_1 : Int):=of_decide_eq_true (by assumption)
        have q243 : x18_1 < (y239.length : Int):=of_decide_eq_true (by assumption)
        obtain ⟨ad243,A243_0,c243_0,e243,hx243_0,hl243_0,hi243_0⟩:=at_T112 HR242.out x18_1 p243 q243
        cases e243
        replace hx243_0:=(HB.out.cell (World.block_lt_of_cell? w _ hx243_0)).trans hx243_0
        have HR243_0:=Aside0.mk hi243_0
        have HC243_0:=Aside0.mk hl243_0
        clear hi243_0 hl243_0
        replace p243:=eq_true p243
        replace q243:=eq_true q243
        go_wp2_with (first|((with_reducible refine gate_dst (N:=7) rfl ?_);refine box_event ?hg (N:=7) ?hd (cs:=#[.slice none 0 0]) (t:=112) ?hr ?_;(case hd=>rfl);(case hg=>rfl);(case hr=>first|(go_simp;done)|(go_simp;rfl));intro gb244 hg w13 hbox hb;have n0_:=Aside0.mk (blk_below (g:=gb238) (o:=.cells #[.int .i64 a0_0,.string a0_1,.slice A0_2 l0_2.length c0_2,.slice (some ad243) l0_3.length c0_3] 55 (0,0)) (by (with_reducible repeat first|apply blk_drewN|apply blk_drew|apply blk_alloc);exact BK238.out) hb);have n1_:=Aside0.mk (below_step (by repeat (first|(with_reducible first|exact HB.out|apply below_alloc|apply pw_below_drewN|apply below_drew1|refine below_set ?_ GE238.out)|exact HB.out)) hb);have n2_:=Aside0.mk (hbox);have n3_:=Aside0.mk ((by rw [hg];exact (below_size (by repeat (first|(with_reducible first|exact HB.out|apply below_alloc|apply pw_below_drewN|apply below_drew1|refine below_set ?_ GE238.out)|exact HB.out))) : w.heap.size ≤ gb244));have n4_:=Aside0.mk ((by rw [hg];exact (below_size (by repeat (first|(with_reducible first|exact HB.out|apply below_alloc|apply pw_below_drewN|apply below_drew1|refine below_set ?_ GE238.out)|exact HB.out))) : w.heap.size ≤ gb244));have n5_:=Aside0.mk ((by rw [hg];exact Nat.ne_of_lt (blk_lt (g:=gb238) (o:=.cells #[.int .i64 a0_0,.string a0_1,.slice A0_2 l0_2.length c0_2,.slice (some ad243) l0_3.length c0_3] 55 (0,0)) (by (with_reducible repeat first|apply blk_drewN|apply blk_drew|apply blk_alloc);exact BK238.out)) : gb238 ≠ gb244));have n6_:=Aside0.mk ((by rw [hg];exact Nat.ne_of_gt (blk_lt (g:=gb238) (o:=.cells #[.int .i64 a0_0,.string a0_1,.slice A0_2 l0_2.length c0_2,.slice (some ad243) l0_3.length c0_3] 55 (0,0)) (by (with_reducible repeat first|apply blk_drewN|apply blk_drew|apply blk_alloc);exact BK238.out)) : gb244 ≠ gb238));clear BK238;clear HB;have BK238:=n0_;have HB:=n1_;have BK244:=n2_;have GW244:=n3_;have GE244:=n4_;have NB238_244:=n5_;have NB244_238:=n6_;clear n0_ n1_ n2_ n3_ n4_ n5_ n6_;clear hb hbox hg;have hnb14:=NB244_238.out;have hnc14:=NB238_244.out;have hcz15_0 : w13.cell? ⟨gb244,0,none⟩ = some (.slice none 0 0):=(blk_cell BK244.out 0).trans rfl;have hfz15_0:=blk_frozen BK244.out 0)|((with_reducible refine gate_callee (f:=90) rfl ?_);refine goesL_ (some 25) rfl rfl Try.func90 (by kernel_rfl) rfl #[.string x5_1,.slice A243_0 ((rd_T112 y239 x18_1).f0).length c243_0] rfl (by (try simp only [List.map_toArray,List.map_cons,List.map_nil]);first|done|rfl|(simp only [List.length_drop,List.length_take];rfl)) ?_;(with_reducible refine (impl_apply.calls k1 x5_1 _ _ ((rd_T112 y239 x18_1).f0) t245 _ ?side1 ?side2 A12.out).mono ?_);(case side1=>exact Kd.C_below HR243_0.out (by repeat (first|(with_reducible first|exact HB.out|apply below_alloc|apply pw_below_drewN|apply below_drew1|refine below_set ?_ GE238.out|refine below_set ?_ GE244.out)|exact HB.out)));(case side2=>exact HC243_0.out);rintro e w16 ⟨rfl,hb⟩;refine ⟨_,rfl,?_⟩;have n0_:=Aside0.mk (blk_below (g:=gb238) (o:=.cells #[.int .i64 a0_0,.string a0_1,.slice A0_2 l0_2.length c0_2,.slice (some ad243) l0_3.length c0_3] 55 (0,0)) (by (with_reducible repeat first|apply blk_drewN|apply blk_drew|apply blk_alloc);refine blk_far ?_ NB238_244.out _;(with_reducible repeat first|apply blk_drewN|apply blk_drew|apply blk_alloc);exact BK238.out) hb);have n1_:=Aside0.mk (blk_below (g:=gb244) (o:=.cells #[.slice A243_0 ((rd_T112 y239 x18_1).f0).length c243_0] 112 (0,0)) (by (with_reducible repeat first|apply blk_drewN|apply blk_drew|apply blk_alloc);refine blk_put (cs:=#[.slice none 0 0]) ?_ 0 _ rfl;(with_reducible repeat first|apply blk_drewN|apply blk_drew|apply blk_alloc);exact BK244.out) hb);have n2_:=Aside0.mk (below_step (by repeat (first|(with_reducible first|exact HB.out|apply below_alloc|apply pw_below_drewN|apply below_drew1|refine below_set ?_ GE238.out|refine below_set ?_ GE244.out)|exact HB.out)) hb);clear BK238;clear BK244;clear HB;have BK238:=n0_;have BK244:=n1_;have HB:=n2_;clear n0_ n1_ n2_;(try clear hb);(try clear hb2);(try clear hk);(try clear hi)))
        go_roundg k1
        case measure=>have:=HK1.out;omega
        case rel=>exact ⟨(t245),(wrap64 (x18_1 + 1)),(by first|rfl|(simp;done)|(simp [*];done)),(by first|rfl|(simp;done)|(simp [*];done)),H',⟨by have:=HK1.out;omega⟩,⟨by (with_reducible repeat first|apply blk_drewN|apply blk_drew|apply blk_alloc);exact BK238.out⟩,⟨by repeat (first|(with_reducible first|exact HB.out|apply below_alloc|apply pw_below_drewN|apply below_drew1|refine below_set ?_ GE238.out|refine below_set ?_ GE244.out)|exact HB.out)⟩⟩
       ·rw [if_neg c11] at H
        exact absurd H (by simp)
      ·rw [if_neg c10] at H
       exact absurd H (by simp)
     ·rw [if_neg c9] at H
      have c9b0 : decide (x18_1 < (y239.length : Int)) = false:=decide_eq_false c9
      clear c9
      obtain rfl:=Option.some.inj H
      go_wp2
      go_ret
      exact ⟨by first|rfl|(simp [errW_none,errW_some] <;> rfl)|(simp only [← hji3];first|rfl|(simp [errW_none,errW_some] <;> rfl))|(simp [*,errW_none,errW_some] <;> rfl),by repeat (first|(with_reducible first|exact HB.out|apply below_alloc|apply pw_below_drewN|apply below_drew1|refine below_set ?_ GE238.out)|exact HB.out)⟩
  ·rw [if_neg c5] at H
   exact absurd H (by simp)
 ·rw [if_neg c4] at H
  exact absurd H (by simp)

/-! ### impl_TextAt: function 34 -/
def impl_TextAt.f (k : Nat) (a0_0 : Int) (a0_1 : ByteArray) (l0_2 : List (S74)) (l0_3 : List (S112)) (a1 : Int) : Option (ByteArray × Int):=(impl_History_code.f k a0_0 a0_1 l0_2 l0_3 a1 a1).bind fun t247=>(if t247 = 0 then ((impl_History_text.f k a0_0 a0_1 l0_2 l0_3 a1).bind fun t248=>(some (t248,0))) else (some ((⟨#[]⟩ : ByteArray),t247)))
theorem impl_TextAt.mono : ∀ a0 a1 a2 a3 a4 k,LeO (impl_TextAt.f k a0 a1 a2 a3 a4) (impl_TextAt.f (k + 1) a0 a1 a2 a3 a4):=by
 intro a0 a1 a2 a3 a4 k
 unfold impl_TextAt.f
 repeat' first
   | (with_reducible exact impl_History_code.mono _ _ _ _ _ _ _)
   | (with_reducible exact impl_History_text.mono _ _ _ _ _ _)
   | (with_reducible exact LeO.refl _)
   | (with_reducible exact LeO.none _)
   | (with_reducible refine LeO.ite ?_ ?_)
   | (with_reducible refine LeO.bind ?_ (fun _=>?_))
   | exact impl_History_code.mono _ _ _ _ _ _ _
   | exact impl_History_text.mono _ _ _ _ _ _
   | exact LeO.none _
   | refine LeO.ite ?_ ?_
   | refine LeO.bind ?_ (fun _=>?_)
set_option maxHeartbeats 8000000 in
set_option maxRecDepth 100000 in
theorem impl_TextAt.calls (k : Nat) (a0_0 : Int) (a0_1 : ByteArray) (A0_2 : Option Addr) (c0_2 : Nat) (l0_2 : List (S74)) (A0_3 : Option Addr) (c0_3 : Nat) (l0_3 : List (S112)) (a1 : Int) (r1 : ByteArray) (r2 : Int) (w : World) (hr0_2 : Kd.C k74 w A0_2 l0_2.length l0_2) (hc0_2 : l0_2.length ≤ c0_2) (hr0_3 : Kd.C k112 w A0_3 l0_3.length l0_3) (hc0_3 : l0_3.length ≤ c0_3) (h : impl_TextAt.f k a0_0 a0_1 l0_2 l0_3 a1 = some (r1,r2)) :
  Calls Try.prog 34 #[.agg #[.int .i64 a0_0,.string a0_1,.slice A0_2 l0_2.length c0_2,.slice A0_3 l0_3.length c0_3],.int .i64 a1] w fun e w'=>e = .returned (.tuple #[.string r1,.int .i64 r2])∧Below w.heap.size w w':=by
 have hu55:=Try.underlying55
 have HR0_2:=Aside0.mk hr0_2
 have HC0_2:=Aside0.mk hc0_2
 clear hr0_2 hc0_2
 have HR0_3:=Aside0.mk hr0_3
 have HC0_3:=Aside0.mk hc0_3
 clear hr0_3 hc0_3
 have HB:=Aside0.mk (Below.refl w.heap.size w)
 have H : ((impl_History_code.f k a0_0 a0_1 l0_2 l0_3 a1 a1).bind fun t247=>(if t247 = 0 then ((impl_History_text.f k a0_0 a0_1 l0_2 l0_3 a1).bind fun t248=>(some (t248,0))) else (some ((⟨#[]⟩ : ByteArray),t247)))) = some (r1,r2):=h
 clear h
 replace H:=Option.bind_eq_some_iff.mp H
 obtain ⟨t247,A30,H⟩:=H
 replace H : (if t247 = 0 then ((impl_History_text.f k a0_0 a0_1 l0_2 l0_3 a1).bind fun t248=>(some (t248,0))) else (some ((⟨#[]⟩ : ByteArray),t247))) = some (r1,r2):=H
 have A3:=Aside0.mk A30
 clear A30
 by_cases c4 : t247 = 0
 ·rw [if_pos c4] at H
  have c4b0 : (t247 == 0) = true:=beq_iff_eq.mpr c4
  have c4b1 : (t247 != 0) = false:=bne_eq_false_iff_eq.mpr c4
  clear c4
  replace H:=Option.bind_eq_some_iff.mp H
  obtain ⟨t248,A50,H⟩:=H
  replace H : (some (t248,0)) = some (r1,r2):=H
  have A5:=Aside0.mk A50
  clear A50
  simp only [Option.some.injEq,Prod.mk.injEq] at H
  obtain ⟨rfl,rfl⟩:=H
  go_enter Try.func34,Try.ntmps34
  go_wp2_with (first|((with_reducible refine gate_dst (N:=2) rfl ?_);refine box_event ?hg (N:=2) ?hd (cs:=#[.int .i64 a0_0,.string a0_1,.slice A0_2 l0_2.length c0_2,.slice A0_3 l0_3.length c0_3]) (t:=55) ?hr ?_;(case hd=>rfl);(case hg=>rfl);(case hr=>first|(go_simp;done)|(go_simp;rfl));intro gb246 hg w6 hbox hb;have n0_:=Aside0.mk (below_step (by repeat (first|exact HB.out|apply below_alloc|apply pw_below_drewN|apply below_drew1)) hb);have n1_:=Aside0.mk (hbox);have n2_:=Aside0.mk ((by rw [hg];exact (below_size (by repeat (first|exact HB.out|apply below_alloc|apply pw_below_drewN|apply below_drew1))) : w.heap.size ≤ gb246));have n3_:=Aside0.mk ((by rw [hg];exact (below_size (by repeat (first|exact HB.out|apply below_alloc|apply pw_below_drewN|apply below_drew1))) : w.heap.size ≤ gb246));clear HB;have HB:=n0_;have BK246:=n1_;have GW246:=n2_;have GE246:=n3_;clear n0_ n1_ n2_ n3_;clear hb hbox hg;have hcz7_0 : w6.cell? ⟨gb246,0,none⟩ = some (.int .i64 a0_0):=(blk_cell BK246.out 0).trans rfl;have hcz7_1 : w6.cell? ⟨gb246,1,none⟩ = some (.string a0_1):=(blk_cell BK246.out 1).trans rfl;have hcz7_2 : w6.cell? ⟨gb246,2,none⟩ = some (.slice A0_2 l0_2.length c0_2):=(blk_cell BK246.out 2).trans rfl;have hcz7_3 : w6.cell? ⟨gb246,3,none⟩ = some (.slice A0_3 l0_3.length c0_3):=(blk_cell BK246.out 3).trans rfl;have hfz7_0:=blk_frozen BK246.out 0;have hfz7_1:=blk_frozen BK246.out 1;have hfz7_2:=blk_frozen BK246.out 2;have hfz7_3:=blk_frozen BK246.out 3)|((with_reducible refine gate_callee (f:=69) rfl ?_);refine goesL_ (some 10) rfl rfl Try.func69 (by kernel_rfl) rfl #[.agg #[.int .i64 a0_0,.string a0_1,.slice A0_2 l0_2.length c0_2,.slice A0_3 l0_3.length c0_3],.int .i64 a1,.int .i64 a1] rfl (by (try simp only [List.map_toArray,List.map_cons,List.map_nil]);first|done|rfl|(simp only [List.length_drop,List.length_take];rfl)) ?_;(with_reducible refine (impl_History_code.calls k a0_0 a0_1 _ _ l0_2 _ _ l0_3 a1 a1 t247 _ ?side1 ?side2 ?side3 ?side4 A3.out).mono ?_);(case side1=>repeat (first|exact (Kd.C_below HR0_2.out HB.out)|(with_reducible first|apply Kd.C_alloc|apply Kd.C_drewN|apply Kd.C_drew)));(case side2=>exact HC0_2.out);(case side3=>repeat (first|exact (Kd.C_below HR0_3.out HB.out)|(with_reducible first|apply Kd.C_alloc|apply Kd.C_drewN|apply Kd.C_drew)));(case side4=>exact HC0_3.out);rintro e w8 ⟨rfl,hb⟩;refine ⟨_,rfl,?_⟩;have n0_:=Aside0.mk (blk_below (g:=gb246) (o:=.cells #[.int .i64 a0_0,.string a0_1,.slice A0_2 l0_2.length c0_2,.slice A0_3 l0_3.length c0_3] 55 (0,0)) (by (with_reducible repeat first|apply blk_drewN|apply blk_drew|apply blk_alloc);exact BK246.out) hb);have n1_:=Aside0.mk (below_step (by repeat (first|(with_reducible first|exact HB.out|apply below_alloc|apply pw_below_drewN|apply below_drew1|refine below_set ?_ GE246.out)|exact HB.out)) hb);clear BK246;clear HB;have BK246:=n0_;have HB:=n1_;clear n0_ n1_;(try clear hb);(try clear hb2);(try clear hk);(try clear hi);have hcz9_0 : w8.cell? ⟨gb246,0,none⟩ = some (.int .i64 a0_0):=(blk_cell BK246.out 0).trans rfl;have hcz9_1 : w8.cell? ⟨gb246,1,none⟩ = some (.string a0_1):=(blk_cell BK246.out 1).trans rfl;have hcz9_2 : w8.cell? ⟨gb246,2,none⟩ = some (.slice A0_2 l0_2.length c0_2):=(blk_cell BK246.out 2).trans rfl;have hcz9_3 : w8.cell? ⟨gb246,3,none⟩ = some (.slice A0_3 l0_3.length c0_3):=(blk_cell BK246.out 3).trans rfl;have hfz9_0:=blk_frozen BK246.out 0;have hfz9_1:=blk_frozen BK246.out 1;have hfz9_2:=blk_frozen BK246.out 2;have hfz9_3:=blk_frozen BK246.out 3)|((with_reducible refine gate_callee (f:=70) rfl ?_);refine goesL_ (some 16) rfl rfl Try.func70 (by kernel_rfl) rfl #[.agg #[.int .i64 a0_0,.string a0_1,.slice A0_2 l0_2.length c0_2,.slice A0_3 l0_3.length c0_3],.int .i64 a1] rfl (by (try simp only [List.map_toArray,List.map_cons,List.map_nil]);first|done|rfl|(simp only [List.length_drop,List.length_take];rfl)) ?_;(with_reducible refine (impl_History_text.calls k a0_0 a0_1 _ _ l0_2 _ _ l0_3 a1 t248 _ ?side1 ?side2 ?side3 ?side4 A5.out).mono ?_);(case side1=>repeat (first|exact (Kd.C_below HR0_2.out HB.out)|(with_reducible first|apply Kd.C_alloc|apply Kd.C_drewN|apply Kd.C_drew)));(case side2=>exact HC0_2.out);(case side3=>repeat (first|exact (Kd.C_below HR0_3.out HB.out)|(with_reducible first|apply Kd.C_alloc|apply Kd.C_drewN|apply Kd.C_drew)));(case side4=>exact HC0_3.out);rintro e w10 ⟨rfl,hb⟩;refine ⟨_,rfl,?_⟩;have n0_:=Aside0.mk (blk_below (g:=gb246) (o:=.cells #[.int .i64 a0_0,.string a0_1,.slice A0_2 l0_2.length c0_2,.slice A0_3 l0_3.length c0_3] 55 (0,0)) (by (with_reducible repeat first|apply blk_drewN|apply blk_drew|apply blk_alloc);exact BK246.out) hb);have n1_:=Aside0.mk (below_step (by repeat (first|(with_reducible first|exact HB.out|apply below_alloc|apply pw_below_drewN|apply below_drew1|refine below_set ?_ GE246.out)|exact HB.out)) hb);clear BK246;clear HB;have BK246:=n0_;have HB:=n1_;clear n0_ n1_;(try clear hb);(try clear hb2);(try clear hk);(try clear hi)))
  go_ret2
  exact ⟨by first|rfl|(simp [*,errW_none,errW_some] <;> rfl),by repeat (first|(with_reducible first|exact HB.out|apply below_alloc|apply pw_below_drewN|apply below_drew1|refine below_set ?_ GE246.out)|exact HB.out)⟩
 ·rw [if_neg c4] at H
  have c4b0 : (t247 == 0) = false:=beq_eq_false_iff_ne.mpr c4
  have c4b1 : (t247 != 0) = true:=bne_iff_ne.mpr c4
  simp only [Option.some.injEq,Prod.mk.injEq] at H
  obtain ⟨rfl,rfl⟩:=H
  go_enter Try.func34,Try.ntmps34
  go_wp2_with (first|((with_reducible refine gate_dst (N:=2) rfl ?_);refine box_event ?hg (N:=2) ?hd (cs:=#[.int .i64 a0_0,.string a0_1,.slice A0_2 l0_2.length c0_2,.slice A0_3 l0_3.length c0_3]) (t:=55) ?hr ?_;(case hd=>rfl);(case hg=>rfl);(case hr=>first|(go_simp;done)|(go_simp;rfl));intro gb246 hg w11 hbox hb;have n0_:=Aside0.mk (below_step (by repeat (first|exact HB.out|apply below_alloc|apply pw_below_drewN|apply below_drew1)) hb);have n1_:=Aside0.mk (hbox);have n2_:=Aside0.mk ((by rw [hg];exact (below_size (by repeat (first|exact HB.out|apply below_alloc|apply pw_below_drewN|apply below_drew1))) : w.heap.size ≤ gb246));have n3_:=Aside0.mk ((by rw [hg];exact (below_size (by repeat (first|exact HB.out|apply below_alloc|apply pw_below_drewN|apply below_drew1))) : w.heap.size ≤ gb246));clear HB;have HB:=n0_;have BK246:=n1_;have GW246:=n2_;have GE246:=n3_;clear n0_ n1_ n2_ n3_;clear hb hbox hg;have hcz12_0 : w11.cell? ⟨gb246,0,none⟩ = some (.int .i64 a0_0):=(blk_cell BK246.out 0).trans rfl;have hcz12_1 : w11.cell? ⟨gb246,1,none⟩ = some (.string a0_1):=(blk_cell BK246.out 1).trans rfl;have hcz12_2 : w11.cell? ⟨gb246,2,none⟩ = some (.slice A0_2 l0_2.length c0_2):=(blk_cell BK246.out 2).trans rfl;have hcz12_3 : w11.cell? ⟨gb246,3,none⟩ = some (.slice A0_3 l0_3.length c0_3):=(blk_cell BK246.out 3).trans rfl;have hfz12_0:=blk_frozen BK246.out 0;have hfz12_1:=blk_frozen BK246.out 1;have hfz12_2:=blk_frozen BK246.out 2;have hfz12_3:=blk_frozen BK246.out 3)|((with_reducible refine gate_callee (f:=69) rfl ?_);refine goesL_ (some 10) rfl rfl Try.func69 (by kernel_rfl) rfl #[.agg #[.int .i64 a0_0,.string a0_1,.slice A0_2 l0_2.length c0_2,.slice A0_3 l0_3.length c0_3],.int .i64 a1,.int .i64 a1] rfl (by (try simp only [List.map_toArray,List.map_cons,List.map_nil]);first|done|rfl|(simp only [List.length_drop,List.length_take];rfl)) ?_;(with_reducible refine (impl_History_code.calls k a0_0 a0_1 _ _ l0_2 _ _ l0_3 a1 a1 t247 _ ?side1 ?side2 ?side3 ?side4 A3.out).mono ?_);(case side1=>repeat (first|exact (Kd.C_below HR0_2.out HB.out)|(with_reducible first|apply Kd.C_alloc|apply Kd.C_drewN|apply Kd.C_drew)));(case side2=>exact HC0_2.out);(case side3=>repeat (first|exact (Kd.C_below HR0_3.out HB.out)|(with_reducible first|apply Kd.C_alloc|apply Kd.C_drewN|apply Kd.C_drew)));(case side4=>exact HC0_3.out);rintro e w13 ⟨rfl,hb⟩;refine ⟨_,rfl,?_⟩;have n0_:=Aside0.mk (blk_below (g:=gb246) (o:=.cells #[.int .i64 a0_0,.string a0_1,.slice A0_2 l0_2.length c0_2,.slice A0_3 l0_3.length c0_3] 55 (0,0)) (by (with_reducible repeat first|apply blk_drewN|apply blk_drew|apply blk_alloc);exact BK246.out) hb);have n1_:=Aside0.mk (below_step (by repeat (first|(with_reducible first|exact HB.out|apply below_alloc|apply pw_below_drewN|apply below_drew1|refine below_set ?_ GE246.out)|exact HB.out)) hb);clear BK246;clear HB;have BK246:=n0_;have HB:=n1_;clear n0_ n1_;(try clear hb);(try clear hb2);(try clear hk);(try clear hi)))
  go_ret2
  exact ⟨by first|rfl|(simp [*,errW_none,errW_some] <;> rfl),by repeat (first|(with_reducible first|exact HB.out|apply below_alloc|apply pw_below_drewN|apply below_drew1|refine below_set ?_ GE246.out)|exact HB.out)⟩

/-! ### laws_eqRun: function 50 -/
def laws_eqRun.f (a0_0 : Int) (a0_1 : Int) (a1_0 : Int) (a1_1 : Int) : Option (Bool):=if a0_0 = a1_0 then (if a0_1 = a1_1 then (some true) else (some false)) else (some false)
set_option maxHeartbeats 8000000 in
set_option maxRecDepth 100000 in
theorem laws_eqRun.calls (a0_0 : Int) (a0_1 : Int) (a1_0 : Int) (a1_1 : Int) (r : Bool) (w : World) (h : laws_eqRun.f a0_0 a0_1 a1_0 a1_1 = some r) :
  Calls Try.prog 50 #[.agg #[.int .i64 a0_0,.int .i64 a0_1],.agg #[.int .i64 a1_0,.int .i64 a1_1]] w fun e w'=>e = .returned (.bool r)∧Below w.heap.size w w':=by
 have hu74:=Try.underlying74
 have HB:=Aside0.mk (Below.refl w.heap.size w)
 have H : (if a0_0 = a1_0 then (if a0_1 = a1_1 then (some true) else (some false)) else (some false)) = some r:=h
 clear h
 by_cases c3 : a0_0 = a1_0
 ·rw [if_pos c3] at H
  have c3b0 : (a0_0 == a1_0) = true:=beq_iff_eq.mpr c3
  have c3b1 : (a0_0 != a1_0) = false:=bne_eq_false_iff_eq.mpr c3
  clear c3
  by_cases c4 : a0_1 = a1_1
  ·rw [if_pos c4] at H
   have c4b0 : (a0_1 == a1_1) = true:=beq_iff_eq.mpr c4
   have c4b1 : (a0_1 != a1_1) = false:=bne_eq_false_iff_eq.mpr c4
   clear c4
   obtain rfl:=Option.some.inj H
   go_enter Try.func50,Try.ntmps50
   go_wp2_with (first|((with_reducible refine gate_dst (N:=2) rfl ?_);refine box_event ?hg (N:=2) ?hd (cs:=#[.int .i64 a0_0,.int .i64 a0_1]) (t:=74) ?hr ?_;(case hd=>rfl);(case hg=>rfl);(case hr=>first|(go_simp;done)|(go_simp;rfl));intro gb249 hg w5 hbox hb;have n0_:=Aside0.mk (below_step (by repeat (first|exact HB.out|apply below_alloc|apply pw_below_drewN|apply below_drew1)) hb);have n1_:=Aside0.mk (hbox);have n2_:=Aside0.mk ((by rw [hg];exact (below_size (by repeat (first|exact HB.out|apply below_alloc|apply pw_below_drewN|apply below_drew1))) : w.heap.size ≤ gb249));have n3_:=Aside0.mk ((by rw [hg];exact (below_size (by repeat (first|exact HB.out|apply below_alloc|apply pw_below_drewN|apply below_drew1))) : w.heap.size ≤ gb249));clear HB;have HB:=n0_;have BK249:=n1_;have GW249:=n2_;have GE249:=n3_;clear n0_ n1_ n2_ n3_;clear hb hbox hg)|((with_reducible refine gate_dst (N:=3) rfl ?_);refine box_event ?hg (N:=3) ?hd (cs:=#[.int .i64 a1_0,.int .i64 a1_1]) (t:=74) ?hr ?_;(case hd=>rfl);(case hg=>rfl);(case hr=>first|(go_simp;done)|(go_simp;rfl));intro gb250 hg w6 hbox hb;have n0_:=Aside0.mk (blk_below (g:=gb249) (o:=.cells #[.int .i64 a0_0,.int .i64 a0_1] 74 (0,0)) (by (with_reducible repeat first|apply blk_drewN|apply blk_drew|apply blk_alloc);exact BK249.out) hb);have n1_:=Aside0.mk (below_step (by repeat (first|(with_reducible first|exact HB.out|apply below_alloc|apply pw_below_drewN|apply below_drew1|refine below_set ?_ GE249.out)|exact HB.out)) hb);have n2_:=Aside0.mk (hbox);have n3_:=Aside0.mk ((by rw [hg];exact (below_size (by repeat (first|(with_reducible first|exact HB.out|apply below_alloc|apply pw_below_drewN|apply below_drew1|refine below_set ?_ GE249.out)|exact HB.out))) : w.heap.size ≤ gb250));have n4_:=Aside0.mk ((by rw [hg];exact (below_size (by repeat (first|(with_reducible first|exact HB.out|apply below_alloc|apply pw_below_drewN|apply below_drew1|refine below_set ?_ GE249.out)|exact HB.out))) : w.heap.size ≤ gb250));have n5_:=Aside0.mk ((by rw [hg];exact Nat.ne_of_lt (blk_lt (g:=gb249) (o:=.cells #[.int .i64 a0_0,.int .i64 a0_1] 74 (0,0)) (by (with_reducible repeat first|apply blk_drewN|apply blk_drew|apply blk_alloc);exact BK249.out)) : gb249 ≠ gb250));have n6_:=Aside0.mk ((by rw [hg];exact Nat.ne_of_gt (blk_lt (g:=gb249) (o:=.cells #[.int .i64 a0_0,.int .i64 a0_1] 74 (0,0)) (by (with_reducible repeat first|apply blk_drewN|apply blk_drew|apply blk_alloc);exact BK249.out)) : gb250 ≠ gb249));clear BK249;clear HB;have BK249:=n0_;have HB:=n1_;have BK250:=n2_;have GW250:=n3_;have GE250:=n4_;have NB249_250:=n5_;have NB250_249:=n6_;clear n0_ n1_ n2_ n3_ n4_ n5_ n6_;clear hb hbox hg;have hnb7:=NB249_250.out;have hnc7:=NB250_249.out;have hcz8_0 : w6.cell? ⟨gb249,0,none⟩ = some (.int .i64 a0_0):=(blk_cell BK249.out 0).trans rfl;have hcz8_1 : w6.cell? ⟨gb249,1,none⟩ = some (.int .i64 a0_1):=(blk_cell BK249.out 1).trans rfl;have hfz8_0:=blk_frozen BK249.out 0;have hfz8_1:=blk_frozen BK249.out 1;have hcz9_0 : w6.cell? ⟨gb250,0,none⟩ = some (.int .i64 a1_0):=(blk_cell BK250.out 0).trans rfl;have hcz9_1 : w6.cell? ⟨gb250,1,none⟩ = some (.int .i64 a1_1):=(blk_cell BK250.out 1).trans rfl;have hfz9_0:=blk_frozen BK250.out 0;have hfz9_1:=blk_frozen BK250.out 1))
   go_ret
   exact ⟨by first|rfl|(simp [*,errW_none,errW_some] <;> rfl),by repeat (first|(with_reducible first|exact HB.out|apply below_alloc|apply pw_below_drewN|apply below_drew1|refine below_set ?_ GE249.out|refine below_set ?_ GE250.out)|exact HB.out)⟩
  ·rw [if_neg c4] at H
   have c4b0 : (a0_1 == a1_1) = false:=beq_eq_false_iff_ne.mpr c4
   have c4b1 : (a0_1 != a1_1) = true:=bne_iff_ne.mpr c4
   obtain rfl:=Option.some.inj H
   go_enter Try.func50,Try.ntmps50
   go_wp2_with (first|((with_reducible refine gate_dst (N:=2) rfl ?_);refine box_event ?hg (N:=2) ?hd (cs:=#[.int .i64 a0_0,.int .i64 a0_1]) (t:=74) ?hr ?_;(case hd=>rfl);(case hg=>rfl);(case hr=>first|(go_simp;done)|(go_simp;rfl));intro gb249 hg w10 hbox hb;have n0_:=Aside0.mk (below_step (by repeat (first|exact HB.out|apply below_alloc|apply pw_below_drewN|apply below_drew1)) hb);have n1_:=Aside0.mk (hbox);have n2_:=Aside0.mk ((by rw [hg];exact (below_size (by repeat (first|exact HB.out|apply below_alloc|apply pw_below_drewN|apply below_drew1))) : w.heap.size ≤ gb249));have n3_:=Aside0.mk ((by rw [hg];exact (below_size (by repeat (first|exact HB.out|apply below_alloc|apply pw_below_drewN|apply below_drew1))) : w.heap.size ≤ gb249));clear HB;have HB:=n0_;have BK249:=n1_;have GW249:=n2_;have GE249:=n3_;clear n0_ n1_ n2_ n3_;clear hb hbox hg)|((with_reducible refine gate_dst (N:=3) rfl ?_);refine box_event ?hg (N:=3) ?hd (cs:=#[.int .i64 a1_0,.int .i64 a1_1]) (t:=74) ?hr ?_;(case hd=>rfl);(case hg=>rfl);(case hr=>first|(go_simp;done)|(go_simp;rfl));intro gb250 hg w11 hbox hb;have n0_:=Aside0.mk (blk_below (g:=gb249) (o:=.cells #[.int .i64 a0_0,.int .i64 a0_1] 74 (0,0)) (by (with_reducible repeat first|apply blk_drewN|apply blk_drew|apply blk_alloc);exact BK249.out) hb);have n1_:=Aside0.mk (below_step (by repeat (first|(with_reducible first|exact HB.out|apply below_alloc|apply pw_below_drewN|apply below_drew1|refine below_set ?_ GE249.out)|exact HB.out)) hb);have n2_:=Aside0.mk (hbox);have n3_:=Aside0.mk ((by rw [hg];exact (below_size (by repeat (first|(with_reducible first|exact HB.out|apply below_alloc|apply pw_below_drewN|apply below_drew1|refine below_set ?_ GE249.out)|exact HB.out))) : w.heap.size ≤ gb250));have n4_:=Aside0.mk ((by rw [hg];exact (below_size (by repeat (first|(with_reducible first|exact HB.out|apply below_alloc|apply pw_below_drewN|apply below_drew1|refine below_set ?_ GE249.out)|exact HB.out))) : w.heap.size ≤ gb250));have n5_:=Aside0.mk ((by rw [hg];exact Nat.ne_of_lt (blk_lt (g:=gb249) (o:=.cells #[.int .i64 a0_0,.int .i64 a0_1] 74 (0,0)) (by (with_reducible repeat first|apply blk_drewN|apply blk_drew|apply blk_alloc);exact BK249.out)) : gb249 ≠ gb250));have n6_:=Aside0.mk ((by rw [hg];exact Nat.ne_of_gt (blk_lt (g:=gb249) (o:=.cells #[.int .i64 a0_0,.int .i64 a0_1] 74 (0,0)) (by (with_reducible repeat first|apply blk_drewN|apply blk_drew|apply blk_alloc);exact BK249.out)) : gb250 ≠ gb249));clear BK249;clear HB;have BK249:=n0_;have HB:=n1_;have BK250:=n2_;have GW250:=n3_;have GE250:=n4_;have NB249_250:=n5_;have NB250_249:=n6_;clear n0_ n1_ n2_ n3_ n4_ n5_ n6_;clear hb hbox hg;have hnb12:=NB249_250.out;have hnc12:=NB250_249.out;have hcz13_0 : w11.cell? ⟨gb249,0,none⟩ = some (.int .i64 a0_0):=(blk_cell BK249.out 0).trans rfl;have hcz13_1 : w11.cell? ⟨gb249,1,none⟩ = some (.int .i64 a0_1):=(blk_cell BK249.out 1).trans rfl;have hfz13_0:=blk_frozen BK249.out 0;have hfz13_1:=blk_frozen BK249.out 1;have hcz14_0 : w11.cell? ⟨gb250,0,none⟩ = some (.int .i64 a1_0):=(blk_cell BK250.out 0).trans rfl;have hcz14_1 : w11.cell? ⟨gb250,1,none⟩ = some (.int .i64 a1_1):=(blk_cell BK250.out 1).trans rfl;have hfz14_0:=blk_frozen BK250.out 0;have hfz14_1:=blk_frozen BK250.out 1))
   go_ret
   exact ⟨by first|rfl|(simp [*,errW_none,errW_some] <;> rfl),by repeat (first|(with_reducible first|exact HB.out|apply below_alloc|apply pw_below_drewN|apply below_drew1|refine below_set ?_ GE249.out|refine below_set ?_ GE250.out)|exact HB.out)⟩
 ·rw [if_neg c3] at H
  have c3b0 : (a0_0 == a1_0) = false:=beq_eq_false_iff_ne.mpr c3
  have c3b1 : (a0_0 != a1_0) = true:=bne_iff_ne.mpr c3
  obtain rfl:=Option.some.inj H
  go_enter Try.func50,Try.ntmps50
  go_wp2_with (first|((with_reducible refine gate_dst (N:=2) rfl ?_);refine box_event ?hg (N:=2) ?hd (cs:=#[.int .i64 a0_0,.int .i64 a0_1]) (t:=74) ?hr ?_;(case hd=>rfl);(case hg=>rfl);(case hr=>first|(go_simp;done)|(go_simp;rfl));intro gb249 hg w15 hbox hb;have n0_:=Aside0.mk (below_step (by repeat (first|exact HB.out|apply below_alloc|apply pw_below_drewN|apply below_drew1)) hb);have n1_:=Aside0.mk (hbox);have n2_:=Aside0.mk ((by rw [hg];exact (below_size (by repeat (first|exact HB.out|apply below_alloc|apply pw_below_drewN|apply below_drew1))) : w.heap.size ≤ gb249));have n3_:=Aside0.mk ((by rw [hg];exact (below_size (by repeat (first|exact HB.out|apply below_alloc|apply pw_below_drewN|apply below_drew1))) : w.heap.size ≤ gb249));clear HB;have HB:=n0_;have BK249:=n1_;have GW249:=n2_;have GE249:=n3_;clear n0_ n1_ n2_ n3_;clear hb hbox hg)|((with_reducible refine gate_dst (N:=3) rfl ?_);refine box_event ?hg (N:=3) ?hd (cs:=#[.int .i64 a1_0,.int .i64 a1_1]) (t:=74) ?hr ?_;(case hd=>rfl);(case hg=>rfl);(case hr=>first|(go_simp;done)|(go_simp;rfl));intro gb250 hg w16 hbox hb;have n0_:=Aside0.mk (blk_below (g:=gb249) (o:=.cells #[.int .i64 a0_0,.int .i64 a0_1] 74 (0,0)) (by (with_reducible repeat first|apply blk_drewN|apply blk_drew|apply blk_alloc);exact BK249.out) hb);have n1_:=Aside0.mk (below_step (by repeat (first|(with_reducible first|exact HB.out|apply below_alloc|apply pw_below_drewN|apply below_drew1|refine below_set ?_ GE249.out)|exact HB.out)) hb);have n2_:=Aside0.mk (hbox);have n3_:=Aside0.mk ((by rw [hg];exact (below_size (by repeat (first|(with_reducible first|exact HB.out|apply below_alloc|apply pw_below_drewN|apply below_drew1|refine below_set ?_ GE249.out)|exact HB.out))) : w.heap.size ≤ gb250));have n4_:=Aside0.mk ((by rw [hg];exact (below_size (by repeat (first|(with_reducible first|exact HB.out|apply below_alloc|apply pw_below_drewN|apply below_drew1|refine below_set ?_ GE249.out)|exact HB.out))) : w.heap.size ≤ gb250));have n5_:=Aside0.mk ((by rw [hg];exact Nat.ne_of_lt (blk_lt (g:=gb249) (o:=.cells #[.int .i64 a0_0,.int .i64 a0_1] 74 (0,0)) (by (with_reducible repeat first|apply blk_drewN|apply blk_drew|apply blk_alloc);exact BK249.out)) : gb249 ≠ gb250));have n6_:=Aside0.mk ((by rw [hg];exact Nat.ne_of_gt (blk_lt (g:=gb249) (o:=.cells #[.int .i64 a0_0,.int .i64 a0_1] 74 (0,0)) (by (with_reducible repeat first|apply blk_drewN|apply blk_drew|apply blk_alloc);exact BK249.out)) : gb250 ≠ gb249));clear BK249;clear HB;have BK249:=n0_;have HB:=n1_;have BK250:=n2_;have GW250:=n3_;have GE250:=n4_;have NB249_250:=n5_;have NB250_249:=n6_;clear n0_ n1_ n2_ n3_ n4_ n5_ n6_;clear hb hbox hg;have hnb17:=NB249_250.out;have hnc17:=NB250_249.out;have hcz18_0 : w16.cell? ⟨gb249,0,none⟩ = some (.int .i64 a0_0):=(blk_cell BK249.out 0).trans rfl;have hcz18_1 : w16.cell? ⟨gb249,1,none⟩ = some (.int .i64 a0_1):=(blk_cell BK249.out 1).trans rfl;have hfz18_0:=blk_frozen BK249.out 0;have hfz18_1:=blk_frozen BK249.out 1;have hcz19_0 : w16.cell? ⟨gb250,0,none⟩ = some (.int .i64 a1_0):=(blk_cell BK250.out 0).trans rfl;have hcz19_1 : w16.cell? ⟨gb250,1,none⟩ = some (.int .i64 a1_1):=(blk_cell BK250.out 1).trans rfl;have hfz19_0:=blk_frozen BK250.out 0;have hfz19_1:=blk_frozen BK250.out 1))
  go_ret
  exact ⟨by first|rfl|(simp [*,errW_none,errW_some] <;> rfl),by repeat (first|(with_reducible first|exact HB.out|apply below_alloc|apply pw_below_drewN|apply below_drew1|refine below_set ?_ GE249.out|refine below_set ?_ GE250.out)|exact HB.out)⟩

end Go.Proofs.Ytdlicabmalljpaa.PFnExactTextAt
