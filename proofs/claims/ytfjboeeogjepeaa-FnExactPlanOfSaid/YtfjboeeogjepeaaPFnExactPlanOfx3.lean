-- Written by a program of this session over the print of the kit (wip/t/patch_print.py).
import Derived.Test.YtfjboeeogjepeaaPFnExactPlanOfx0
import Derived.Test.YtfjboeeogjepeaaPFnExactPlanOfx1
namespace Go.Proofs.Ytfjboeeogjepeaa.PFnExactPlanOf
open Go.RowKit Go.Proofs.YtfjboeeogjepeaaW.PrintWords Go.Proofs.YtfjboeeogjepeaaW.PrintLast Go.Proofs.YtfjboeeogjepeaaW.PrintMore
attribute [local go_sem] max2_int min2_int max_two min_two max_three min_three max_four min_four   -- for this text's walks alone
set_option linter.unusedVariables false
set_option linter.unusedSimpArgs false

/-! ### laws_toByteSS: function 48 -/
def laws_toByteSS.l0 : Nat → List (List Int) → List (List Int) → Int → Option ((List (List Int)))
 | 0,_,_,_=>none
 | k + 1,x0,x3,x4=>if x4 < (x0.length : Int) then (if 0 ≤ x4 then ((laws_toByteS.f k (rd_L2 x0 x4)).bind fun t142=>(if x4 < (x3.length : Int) then (laws_toByteSS.l0 k x0 (x3.set (x4 : Int).toNat t142) (wrap64 (x4 + 1))) else (none))) else (none)) else (some x3)
def laws_toByteSS.f (k : Nat) (l0 : List (List Int)) : Option ((List (List Int))):=if 0 ≤ (l0.length : Int) then (if ((l0.length : Int) : Int).toNat ≤ 11728124029610 then (laws_toByteSS.l0 k l0 (List.replicate ((l0.length : Int) : Int).toNat []) 0) else (none)) else (none)
theorem laws_toByteSS.mono_l : ∀ k,(∀ y0 y1 y2,LeO (laws_toByteSS.l0 k y0 y1 y2) (laws_toByteSS.l0 (k + 1) y0 y1 y2))
 | 0=>fun _ _ _ r h=>by simp [laws_toByteSS.l0] at h
 | k + 1=>by
  have ih0:=laws_toByteSS.mono_l k
  ·intro y0 y1 y2
   unfold laws_toByteSS.l0
   repeat' first
   | (with_reducible exact ih0 _ _ _)
   | (with_reducible exact laws_toByteS.mono _ _)
   | (with_reducible exact LeO.refl _)
   | (with_reducible exact LeO.none _)
   | (with_reducible refine LeO.ite ?_ ?_)
   | (with_reducible refine LeO.bind ?_ (fun _=>?_))
   | exact ih0 _ _ _
   | exact laws_toByteS.mono _ _
   | exact LeO.none _
   | refine LeO.ite ?_ ?_
   | refine LeO.bind ?_ (fun _=>?_)
theorem laws_toByteSS.mono : ∀ a0 k,LeO (laws_toByteSS.f k a0) (laws_toByteSS.f (k + 1) a0):=by
 intro a0 k
 have ih0:=laws_toByteSS.mono_l k
 unfold laws_toByteSS.f
 repeat' first
   | (with_reducible exact ih0 _ _ _)
   | (with_reducible exact laws_toByteS.mono _ _)
   | (with_reducible exact LeO.refl _)
   | (with_reducible exact LeO.none _)
   | (with_reducible refine LeO.ite ?_ ?_)
   | (with_reducible refine LeO.bind ?_ (fun _=>?_))
   | exact ih0 _ _ _
   | exact laws_toByteS.mono _ _
   | exact LeO.none _
   | refine LeO.ite ?_ ?_
   | refine LeO.bind ?_ (fun _=>?_)
set_option maxHeartbeats 8000000 in
set_option maxRecDepth 100000 in
theorem laws_toByteSS.calls (k : Nat) (A0 : Option Addr) (c0 : Nat) (l0 : List (List Int)) (r : List (List Int)) (w : World) (hr0 : Kd.C (Kd.slice 5 (Kd.int .u8)) w A0 l0.length l0) (hc0 : l0.length ≤ c0) (h : laws_toByteSS.f k l0 = some r) :
  Calls Try.prog 48 #[.slice A0 l0.length c0] w fun e w'=>∃ v0_ : Value,e = .returned (v0_)∧Kd.S (Kd.slice 5 (Kd.int .u8)) 24 w' w.heap.size (fun _=>True) v0_ r∧Below w.heap.size w w':=by
 have HR0:=Aside0.mk hr0
 have HC0:=Aside0.mk hc0
 clear hr0 hc0
 have HB:=Aside0.mk (Below.refl w.heap.size w)
 have H : (if 0 ≤ (l0.length : Int) then (if ((l0.length : Int) : Int).toNat ≤ 11728124029610 then (laws_toByteSS.l0 k l0 (List.replicate ((l0.length : Int) : Int).toNat []) 0) else (none)) else (none)) = some r:=h
 clear h
 by_cases c2 : 0 ≤ (l0.length : Int)
 ·rw [if_pos c2] at H
  have c2b0:=eq_true c2
  have c2b1 : decide (0 ≤ (l0.length : Int)) = true:=decide_eq_true c2
  clear c2
  by_cases c3 : ((l0.length : Int) : Int).toNat ≤ 11728124029610
  ·rw [if_pos c3] at H
   have c3b0:=eq_true c3
   have c3b1 : decide (((l0.length : Int) : Int).toNat ≤ 11728124029610) = true:=decide_eq_true c3
   clear c3
   obtain ⟨y138,hy138⟩ : ∃ y_ : List (List Int),y_ = (List.replicate ((l0.length : Int) : Int).toNat []):=⟨_,rfl⟩
   replace H : (laws_toByteSS.l0 k l0 y138 0) = some r:=by first|(rw [hy138];with_reducible exact H)|(have H2_:=(Option.bind_some _ _).symm.trans H;rw [hy138];with_reducible exact H2_)|(have H2_:=(Option.bind_some _ _).symm.trans H;with_reducible exact H2_)|with_reducible exact H|(rw [hy138];exact H)|exact H
   have Ny138:=Aside0.mk hy138
   clear hy138
   have H':=Aside0.mk H
   clear H
   go_enter Try.func48,Try.ntmps48
   go_wp2_with (first|((with_reducible refine gate_dst (N:=7) rfl ?_);refine Kd.S_make (Kd.slice 5 (Kd.int .u8)) _ 24 rfl (N:=7) rfl 34 _ _ rfl (l0.length : Int) rfl rfl Try.underlying34 (.slice none 0 0) 24 info24 rfl (by decide) (by omega) [] (ok:=fun _=>True) (okp:=fun _=>True) ⟨_,rfl,Kd.R_nil _ _ _ _ _⟩ (fun _ hk=>hk) trivial (of_decide_eq_true (by assumption)) (Nat.le_trans (Nat.mul_le_mul_right _ (of_decide_eq_true (by assumption) : (l0.length : Int).toNat ≤ 11728124029610)) (by omega)) (Below.refl _ _) (Nat.le_refl _) ?_;intro v139 w4 ho5 hb hg_ hnew_;clear hg_ hnew_;(first|rw [← Ny138.out] at ho5|(simp only [Int.reduceToNat] at ho5;rw [← Ny138.out] at ho5));have n0_:=Aside0.mk (Kd.S_lower ho5 (below_size (by repeat (first|exact HB.out|apply below_alloc|apply pw_below_drewN|apply below_drew1))));have n1_:=Aside0.mk (below_step (by repeat (first|exact HB.out|apply below_alloc|apply pw_below_drewN|apply below_drew1)) hb);clear HB;have HO140:=n0_;have HB:=n1_;clear n0_ n1_;clear hb ho5))
   go_loopg [4] k (fun kq v4 w'=>∃ (x3_1 : List (List Int)) (x4_1 : Int),v4 = .int .i64 x4_1∧Aside0 (laws_toByteSS.l0 kq l0 x3_1 x4_1 = some r)∧Aside0 (kq ≤ k)∧Aside0 (Kd.S (Kd.slice 5 (Kd.int .u8)) 24 w' w.heap.size (fun _=>True) v139 x3_1)∧Aside0 (Below w.heap.size w w'))
   case atStart=>exact ⟨(y138),(0),(by first|rfl|(simp;done)|(simp [*];done)),H',⟨Nat.le_refl _⟩,⟨by (with_reducible repeat (first|apply Kd.S_alloc|apply Kd.S_drewN|apply Kd.S_drew));exact HO140.out⟩,⟨by repeat (first|exact HB.out|apply below_alloc|apply pw_below_drewN|apply below_drew1)⟩⟩
   case round =>
    clear H'
    try clear c2;try clear c2b0;try clear c2b1;try clear p2;try clear c3;try clear c3b0;try clear c3b1;try clear c4
    obtain ⟨x3_1,x4_1,rfl,HA,HK1,HO_3,HB⟩:=hrel
    cases gk with
    | zero=>exact absurd HA.out (by simp [laws_toByteSS.l0])
    | succ k1 =>
     have H:=HA.out
     clear HA
     simp only [laws_toByteSS.l0] at H
     by_cases c6 : x4_1 < (l0.length : Int)
     ·rw [if_pos c6] at H
      have c6b0 : decide (x4_1 < (l0.length : Int)) = true:=decide_eq_true c6
      clear c6
      by_cases c7 : 0 ≤ x4_1
      ·rw [if_pos c7] at H
       have c7b0 : decide (0 ≤ x4_1) = true:=decide_eq_true c7
       clear c7
       replace H:=Option.bind_eq_some_iff.mp H
       obtain ⟨t142,A80,H⟩:=H
       replace H : (if x4_1 < (x3_1.length : Int) then (laws_toByteSS.l0 k1 l0 (x3_1.set (x4_1 : Int).toNat t142) (wrap64 (x4_1 + 1))) else (none)) = some r:=H
       have A8:=Aside0.mk A80
       clear A80
       by_cases c9 : x4_1 < (x3_1.length : Int)
       ·rw [if_pos c9] at H
        have c9b0 : decide (x4_1 < (x3_1.length : Int)) = true:=decide_eq_true c9
        clear c9
        obtain ⟨y145,hy145⟩ : ∃ y_ : List (List Int),y_ = (x3_1.set (x4_1 : Int).toNat t142):=⟨_,rfl⟩
        replace H : (laws_toByteSS.l0 k1 l0 y145 (wrap64 (x4_1 + 1))) = some r:=by first|(rw [hy145];with_reducible exact H)|(have H2_:=(Option.bind_some _ _).symm.trans H;rw [hy145];with_reducible exact H2_)|(have H2_:=(Option.bind_some _ _).symm.trans H;with_reducible exact H2_)|with_reducible exact H|(rw [hy145];exact H)|exact H
        have Ny145:=Aside0.mk hy145
        clear hy145
        have H':=Aside0.mk H
        clear H
        have p141 : 0 ≤ (x4_1 : Int):=of_decide_eq_true (by assumption)
        have q141 : x4_1 < (l0.length : Int):=of_decide_eq_true (by assumption)
        obtain ⟨ad141,A141_0,c141_0,e141,hx141_0,hl141_0,hi141_0⟩:=at_L2 HR0.out x4_1 p141 q141
        cases e141
        (try replace hx141_0:=(HB.out.cell (World.block_lt_of_cell? w _ hx141_0)).trans hx141_0)
        have HR141_0:=Aside0.mk hi141_0
        have HC141_0:=Aside0.mk hl141_0
        clear hi141_0 hl141_0
        replace p141:=eq_true p141
        replace q141:=eq_true q141
        go_wp2_with (first|((with_reducible refine gate_callee (f:=71) rfl ?_);refine goesL_ (some 20) rfl rfl Try.func71 (by kernel_rfl) rfl #[.slice A141_0 (rd_L2 l0 x4_1).length c141_0] rfl (by (try simp only [List.map_toArray,List.map_cons,List.map_nil]);first|done|rfl|(simp only [List.length_drop,List.length_take];rfl)) ?_;(with_reducible refine (laws_toByteS.calls k1 _ _ (rd_L2 l0 x4_1) t142 _ ?side1 ?side2 A8.out).mono ?_);(case side1=>repeat (first|exact (Kd.C_below HR141_0.out HB.out)|(with_reducible first|apply Kd.C_alloc|apply Kd.C_drewN|apply Kd.C_drew)));(case side2=>exact HC141_0.out);rintro e w11 ⟨v143,rfl,ho0,hb⟩;refine ⟨_,rfl,?_⟩;have n0_:=Aside0.mk (Kd.S_elder' (by (with_reducible repeat (first|apply Kd.S_alloc|apply Kd.S_drewN|apply Kd.S_drew));exact HO_3.out) (Kd.R_base ho0) hb);have n1_:=Aside0.mk (Kd.R_lower ho0 (below_size (by repeat (first|exact HB.out|apply below_alloc|apply pw_below_drewN|apply below_drew1))));have n2_:=Aside0.mk (below_step (by repeat (first|exact HB.out|apply below_alloc|apply pw_below_drewN|apply below_drew1)) hb);clear HO_3;clear HB;have HO_3:=n0_;have HO144:=n1_;have HB:=n2_;clear n0_ n1_ n2_;(try clear hb);(try clear hb2);(try clear hk);(try clear hi);(try clear ho0);have p10 : 0 ≤ (x4_1 : Int):=of_decide_eq_true (by assumption);have q10 : (x4_1 : Int) < ((x3_1.length : Int) : Int):=of_decide_eq_true (by assumption);obtain ⟨go10,co10,eo10,gb10,gl10,cl10,HG10⟩:=Kd.S_form HO_3.out (by omega);(first|cases eo10|(injection eo10 with ea_ en_ ec_;(first|subst ea_|(injection ea_ with ea_;subst ea_));subst ec_;clear en_));have GB10:=Aside0.mk gb10;have GG10:=Aside0.mk HG10;clear gb10 gl10 HG10;obtain ⟨_,ce10,hcl10,hM10,hcc10,hfr10,_,_⟩:=Kd.S_elem HO_3.out [] (x4_1 : Int) p10 q10;obtain ⟨ve10_0,rfl,ge10_0⟩:=hM10;have hx10_0:=hcc10 0 _ rfl;have hf10_0:=hfr10 0;(try simp only [show ((Kd.slice 5 (Kd.int .u8))).sz = 1 from rfl,Nat.mul_one,Nat.add_zero] at hx10_0);(try simp only [show ((Kd.slice 5 (Kd.int .u8))).sz = 1 from rfl,Nat.mul_one,Nat.add_zero] at hf10_0);(try clear hM10);clear hcl10 hcc10 hfr10;replace p10:=eq_true p10;replace q10:=eq_true q10;obtain ⟨Ao12,co12,eo12⟩:=Kd.R_slice HO144.out;subst eo12;have n_:=Aside0.mk (Kd.S_mono (ok':=(fun k_=>some k_ ≠ (.slice Ao12 t142.length co12 : Value).ownBlock)) HO_3.out (fun k_ hk=>hk.2));clear HO_3;have HO_3:=n_;clear n_;have HX13:=Aside0.mk (show Kd.S (Kd.slice 5 (Kd.int .u8)) 24 w11 w.heap.size (fun k_=>((fun _=>True)) k_∧¬ ((fun k_=>some k_ = (.slice Ao12 t142.length co12 : Value).ownBlock)) k_) (.slice (some ⟨go10,0,none⟩) x3_1.length co10) x3_1 from (by (with_reducible repeat (first|apply Kd.S_alloc|apply Kd.S_drewN|apply Kd.S_drew));exact Kd.S_mono HO_3.out (fun k_ hk=>⟨trivial,fun e_=>hk e_⟩)));obtain ⟨oki13,ce13,hcl13,hM13,hcc13,hfr13,hoki13,hH13⟩:=Kd.S_elem HX13.out [] (x4_1 : Int) (of_decide_eq_true (by assumption)) (by have h_ : (x4_1 : Int) < ((x3_1.length : Int) : Int):=of_decide_eq_true (by assumption);first|exact h_|(have e_:=(Kd.S_reads' HO_3.out).1;omega)|simpa using h_);obtain ⟨ve13_0,rfl,ge13_0⟩:=hM13;have HP13:=Kd.S_seg hH13 (of_decide_eq_true (by assumption)) (by have h_ : (x4_1 : Int) < ((x3_1.length : Int) : Int):=of_decide_eq_true (by assumption);first|exact h_|(have e_:=(Kd.S_reads' HO_3.out).1;omega)|simpa using h_) (seg:=[.slice Ao12 t142.length co12]) (j:=0) (show 1 ≤ 1 from by decide) (x':=t142) (Kd.M_row (Kd.R_mono (Kd.R_tight rfl (Kd.R_mono (ok':=fun k_=>((fun _=>True)) k_∧k_ ≠ go10) (Kd.R_apart' (HO144.out) (Kd.S_typed HO_3.out) (by decide)) (fun k_ hk=>⟨trivial,fun e_=>(hk.2) (by rw [e_];rfl)⟩))) (fun _ h_=>Or.inr (h_)))) (fun _ hk=>hk) (fun k_ hk_=>((Kd.R_mono (ok':=fun k_=>((fun _=>True)) k_∧k_ ≠ go10) (Kd.R_apart' (HO144.out) (Kd.S_typed HO_3.out) (by decide)) (fun k_ hk=>⟨trivial,fun e_=>(hk.2) (by rw [e_];rfl)⟩))).1 k_ hk_.symm);have hx13_0:=hcc13 0 _ rfl;(try simp only [show ((Kd.slice 5 (Kd.int .u8))).sz = 1 from rfl,Nat.mul_one,Nat.add_zero] at hx13_0);have hf13_0:=hfr13 0;(try simp only [show ((Kd.slice 5 (Kd.int .u8))).sz = 1 from rfl,Nat.mul_one,Nat.add_zero] at hf13_0);(try clear hM13);clear hcl13 hcc13 hfr13 hoki13 hH13;(try simp only [show ((Kd.slice 5 (Kd.int .u8))).sz = 1 from rfl,Nat.mul_one,Nat.add_zero] at HP13))|((with_reducible refine gate_store (t:=24) (p:=21) rfl ?_);refine store_event (t:=24) (p:=21) (v:=?vo_w14) (w1:=(w11.setCell ⟨go10,(x4_1 : Int).toNat,none⟩ (.slice Ao12 t142.length co12))) ?hg ?ho ?hn ?hr ?_;(case ho=>rfl);(case hg=>rfl);(case hn=>rfl);(case hr=>first|(go_simp;done)|(go_simp;rfl));intro w14 hw;have hg : w11.grownBy w14 (some go10):=(by rw [hw];exact HP13.2);have hp_ : Kd.S (Kd.slice 5 (Kd.int .u8)) 24 w14 w.heap.size (fun _=>True) (.slice (some ⟨go10,0,none⟩) x3_1.length co10) y145:=(by rw [hw,Ny145.out];exact HP13.1);clear HP13;have n0_:=Aside0.mk (hp_);have n1_:=Aside0.mk ((by rw [hw];exact below_set (HB.out) GB10.out : Below w.heap.size w w14));clear HO_3;clear HB;clear HO144;have HO_3:=n0_;have HB:=n1_;clear n0_ n1_;clear hg hw hp_))
        go_roundg k1
        case measure=>have:=HK1.out;omega
        case rel=>exact ⟨(y145),(wrap64 (x4_1 + 1)),(by first|rfl|(simp;done)|(simp [*];done)),H',⟨by have:=HK1.out;omega⟩,⟨by (with_reducible repeat (first|apply Kd.S_alloc|apply Kd.S_drewN|apply Kd.S_drew));exact HO_3.out⟩,⟨by repeat (first|exact HB.out|apply below_alloc|apply pw_below_drewN|apply below_drew1)⟩⟩
       ·rw [if_neg c9] at H
        exact absurd H (by simp)
      ·rw [if_neg c7] at H
       exact absurd H (by simp)
     ·rw [if_neg c6] at H
      have c6b0 : decide (x4_1 < (l0.length : Int)) = false:=decide_eq_false c6
      clear c6
      obtain rfl:=Option.some.inj H
      go_wp2
      go_ret
      exact ⟨_,by first|rfl|(simp [*,errW_none,errW_some] <;> rfl),by (with_reducible repeat (first|apply Kd.S_alloc|apply Kd.S_drewN|apply Kd.S_drew));exact HO_3.out,by repeat (first|exact HB.out|apply below_alloc|apply pw_below_drewN|apply below_drew1)⟩
  ·rw [if_neg c3] at H
   exact absurd H (by simp)
 ·rw [if_neg c2] at H
  exact absurd H (by simp)

/-! ### laws_toDisk: function 21 -/
def laws_toDisk.f (k : Nat) (l0_0 : List (List Int)) (a0_1 : Int) (a0_2 : Bool) (a0_3 : Int) : Option ((List (List Int)) × Int × Bool × Int):=(laws_toByteSS.f k l0_0).bind fun t149=>(some (t149,a0_1,a0_2,a0_3))
theorem laws_toDisk.mono : ∀ a0 a1 a2 a3 k,LeO (laws_toDisk.f k a0 a1 a2 a3) (laws_toDisk.f (k + 1) a0 a1 a2 a3):=by
 intro a0 a1 a2 a3 k
 unfold laws_toDisk.f
 repeat' first
   | (with_reducible exact laws_toByteSS.mono _ _)
   | (with_reducible exact LeO.refl _)
   | (with_reducible exact LeO.none _)
   | (with_reducible refine LeO.ite ?_ ?_)
   | (with_reducible refine LeO.bind ?_ (fun _=>?_))
   | exact laws_toByteSS.mono _ _
   | exact LeO.none _
   | refine LeO.ite ?_ ?_
   | refine LeO.bind ?_ (fun _=>?_)
set_option maxHeartbeats 8000000 in
set_option maxRecDepth 100000 in
theorem laws_toDisk.calls (k : Nat) (A0_0 : Option Addr) (c0_0 : Nat) (l0_0 : List (List Int)) (a0_1 : Int) (a0_2 : Bool) (a0_3 : Int) (r1 : List (List Int)) (r2 : Int) (r3 : Bool) (r4 : Int) (w : World) (hr0_0 : Kd.C (Kd.slice 5 (Kd.int .u8)) w A0_0 l0_0.length l0_0) (hc0_0 : l0_0.length ≤ c0_0) (h : laws_toDisk.f k l0_0 a0_1 a0_2 a0_3 = some (r1,r2,r3,r4)) :
  Calls Try.prog 21 #[.agg #[.slice A0_0 l0_0.length c0_0,.int .i64 a0_1,.bool a0_2,.int .i64 a0_3]] w fun e w'=>∃ v0_ : Value,e = .returned (.agg #[v0_,.int .i64 r2,.bool r3,.int .i64 r4])∧Kd.S (Kd.slice 5 (Kd.int .u8)) 24 w' w.heap.size (fun _=>True) v0_ r1∧Below w.heap.size w w':=by
 have hu36:=Try.underlying36
 have hu39:=Try.underlying39
 have HR0_0:=Aside0.mk hr0_0
 have HC0_0:=Aside0.mk hc0_0
 clear hr0_0 hc0_0
 have HB:=Aside0.mk (Below.refl w.heap.size w)
 have H : ((laws_toByteSS.f k l0_0).bind fun t149=>(some (t149,a0_1,a0_2,a0_3))) = some (r1,r2,r3,r4):=h
 clear h
 replace H:=Option.bind_eq_some_iff.mp H
 obtain ⟨t149,A20,H⟩:=H
 replace H : (some (t149,a0_1,a0_2,a0_3)) = some (r1,r2,r3,r4):=H
 have A2:=Aside0.mk A20
 clear A20
 simp only [Option.some.injEq,Prod.mk.injEq] at H
 obtain ⟨rfl,rfl,rfl,rfl⟩:=H
 go_enter Try.func21,Try.ntmps21
 go_wp2_with (first|((with_reducible refine gate_dst (N:=1) rfl ?_);refine box_event ?hg (N:=1) ?hd (cs:=#[.slice A0_0 l0_0.length c0_0,.int .i64 a0_1,.bool a0_2,.int .i64 a0_3]) (t:=36) ?hr ?_;(case hd=>rfl);(case hg=>rfl);(case hr=>first|(go_simp;done)|(go_simp;rfl));intro gb146 hg w3 hbox hb;have n0_:=Aside0.mk (below_step (by repeat (first|exact HB.out|apply below_alloc|apply pw_below_drewN|apply below_drew1)) hb);have n1_:=Aside0.mk (hbox);have n2_:=Aside0.mk ((by rw [hg];exact (below_size (by repeat (first|exact HB.out|apply below_alloc|apply pw_below_drewN|apply below_drew1))) : w.heap.size ≤ gb146));have n3_:=Aside0.mk ((by rw [hg];exact (below_size (by repeat (first|exact HB.out|apply below_alloc|apply pw_below_drewN|apply below_drew1))) : w.heap.size ≤ gb146));clear HB;have HB:=n0_;have BK146:=n1_;have GW146:=n2_;have GE146:=n3_;clear n0_ n1_ n2_ n3_;clear hb hbox hg)|((with_reducible refine gate_dst (N:=2) rfl ?_);refine box_event ?hg (N:=2) ?hd (cs:=#[.slice none 0 0,.int .i64 0,.bool false,.int .i64 0]) (t:=39) ?hr ?_;(case hd=>rfl);(case hg=>rfl);(case hr=>first|(go_simp;done)|(go_simp;rfl));intro gb147 hg w4 hbox hb;have n0_:=Aside0.mk (blk_below (g:=gb146) (o:=.cells #[.slice A0_0 l0_0.length c0_0,.int .i64 a0_1,.bool a0_2,.int .i64 a0_3] 36 (0,0)) (by (with_reducible repeat first|apply blk_drewN|apply blk_drew|apply blk_alloc);exact BK146.out) hb);have n1_:=Aside0.mk (below_step (by repeat (first|(with_reducible first|exact HB.out|apply below_alloc|apply pw_below_drewN|apply below_drew1|refine below_set ?_ GE146.out)|exact HB.out)) hb);have n2_:=Aside0.mk (hbox);have n3_:=Aside0.mk ((by rw [hg];exact (below_size (by repeat (first|(with_reducible first|exact HB.out|apply below_alloc|apply pw_below_drewN|apply below_drew1|refine below_set ?_ GE146.out)|exact HB.out))) : w.heap.size ≤ gb147));have n4_:=Aside0.mk ((by rw [hg];exact (below_size (by repeat (first|(with_reducible first|exact HB.out|apply below_alloc|apply pw_below_drewN|apply below_drew1|refine below_set ?_ GE146.out)|exact HB.out))) : w.heap.size ≤ gb147));have n5_:=Aside0.mk ((by rw [hg];exact Nat.ne_of_lt (blk_lt (g:=gb146) (o:=.cells #[.slice A0_0 l0_0.length c0_0,.int .i64 a0_1,.bool a0_2,.int .i64 a0_3] 36 (0,0)) (by (with_reducible repeat first|apply blk_drewN|apply blk_drew|apply blk_alloc);exact BK146.out)) : gb146 ≠ gb147));have n6_:=Aside0.mk ((by rw [hg];exact Nat.ne_of_gt (blk_lt (g:=gb146) (o:=.cells #[.slice A0_0 l0_0.length c0_0,.int .i64 a0_1,.bool a0_2,.int .i64 a0_3] 36 (0,0)) (by (with_reducible repeat first|apply blk_drewN|apply blk_drew|apply blk_alloc);exact BK146.out)) : gb147 ≠ gb146));clear BK146;clear HB;have BK146:=n0_;have HB:=n1_;have BK147:=n2_;have GW147:=n3_;have GE147:=n4_;have NB146_147:=n5_;have NB147_146:=n6_;clear n0_ n1_ n2_ n3_ n4_ n5_ n6_;clear hb hbox hg)|((with_reducible refine gate_dst (N:=3) rfl ?_);refine box_event ?hg (N:=3) ?hd (cs:=#[.slice none 0 0,.int .i64 0,.bool false,.int .i64 0]) (t:=39) ?hr ?_;(case hd=>rfl);(case hg=>rfl);(case hr=>first|(go_simp;done)|(go_simp;rfl));intro gb148 hg w5 hbox hb;have n0_:=Aside0.mk (blk_below (g:=gb146) (o:=.cells #[.slice A0_0 l0_0.length c0_0,.int .i64 a0_1,.bool a0_2,.int .i64 a0_3] 36 (0,0)) (by (with_reducible repeat first|apply blk_drewN|apply blk_drew|apply blk_alloc);exact BK146.out) hb);have n1_:=Aside0.mk (blk_below (g:=gb147) (o:=.cells #[.slice none 0 0,.int .i64 0,.bool false,.int .i64 0] 39 (0,0)) (by (with_reducible repeat first|apply blk_drewN|apply blk_drew|apply blk_alloc);exact BK147.out) hb);have n2_:=Aside0.mk (below_step (by repeat (first|(with_reducible first|exact HB.out|apply below_alloc|apply pw_below_drewN|apply below_drew1|refine below_set ?_ GE146.out|refine below_set ?_ GE147.out)|exact HB.out)) hb);have n3_:=Aside0.mk (hbox);have n4_:=Aside0.mk ((by rw [hg];exact (below_size (by repeat (first|(with_reducible first|exact HB.out|apply below_alloc|apply pw_below_drewN|apply below_drew1|refine below_set ?_ GE146.out|refine below_set ?_ GE147.out)|exact HB.out))) : w.heap.size ≤ gb148));have n5_:=Aside0.mk ((by rw [hg];exact (below_size (by repeat (first|(with_reducible first|exact HB.out|apply below_alloc|apply pw_below_drewN|apply below_drew1|refine below_set ?_ GE146.out|refine below_set ?_ GE147.out)|exact HB.out))) : w.heap.size ≤ gb148));have n6_:=Aside0.mk ((by rw [hg];exact Nat.ne_of_lt (blk_lt (g:=gb146) (o:=.cells #[.slice A0_0 l0_0.length c0_0,.int .i64 a0_1,.bool a0_2,.int .i64 a0_3] 36 (0,0)) (by (with_reducible repeat first|apply blk_drewN|apply blk_drew|apply blk_alloc);exact BK146.out)) : gb146 ≠ gb148));have n7_:=Aside0.mk ((by rw [hg];exact Nat.ne_of_gt (blk_lt (g:=gb146) (o:=.cells #[.slice A0_0 l0_0.length c0_0,.int .i64 a0_1,.bool a0_2,.int .i64 a0_3] 36 (0,0)) (by (with_reducible repeat first|apply blk_drewN|apply blk_drew|apply blk_alloc);exact BK146.out)) : gb148 ≠ gb146));have n8_:=Aside0.mk ((by rw [hg];exact Nat.ne_of_lt (blk_lt (g:=gb147) (o:=.cells #[.slice none 0 0,.int .i64 0,.bool false,.int .i64 0] 39 (0,0)) (by (with_reducible repeat first|apply blk_drewN|apply blk_drew|apply blk_alloc);exact BK147.out)) : gb147 ≠ gb148));have n9_:=Aside0.mk ((by rw [hg];exact Nat.ne_of_gt (blk_lt (g:=gb147) (o:=.cells #[.slice none 0 0,.int .i64 0,.bool false,.int .i64 0] 39 (0,0)) (by (with_reducible repeat first|apply blk_drewN|apply blk_drew|apply blk_alloc);exact BK147.out)) : gb148 ≠ gb147));clear BK146;clear BK147;clear HB;have BK146:=n0_;have BK147:=n1_;have HB:=n2_;have BK148:=n3_;have GW148:=n4_;have GE148:=n5_;have NB146_148:=n6_;have NB148_146:=n7_;have NB147_148:=n8_;have NB148_147:=n9_;clear n0_ n1_ n2_ n3_ n4_ n5_ n6_ n7_ n8_ n9_;clear hb hbox hg;have hnb6:=NB146_147.out;have hnc6:=NB147_146.out;have hnb7:=NB146_148.out;have hnc7:=NB148_146.out;have hcz8_0 : w5.cell? ⟨gb146,0,none⟩ = some (.slice A0_0 l0_0.length c0_0):=(blk_cell BK146.out 0).trans rfl;have hcz8_1 : w5.cell? ⟨gb146,1,none⟩ = some (.int .i64 a0_1):=(blk_cell BK146.out 1).trans rfl;have hcz8_2 : w5.cell? ⟨gb146,2,none⟩ = some (.bool a0_2):=(blk_cell BK146.out 2).trans rfl;have hcz8_3 : w5.cell? ⟨gb146,3,none⟩ = some (.int .i64 a0_3):=(blk_cell BK146.out 3).trans rfl;have hfz8_0:=blk_frozen BK146.out 0;have hfz8_1:=blk_frozen BK146.out 1;have hfz8_2:=blk_frozen BK146.out 2;have hfz8_3:=blk_frozen BK146.out 3)|((with_reducible refine gate_callee (f:=48) rfl ?_);refine goesL_ (some 6) rfl rfl Try.func48 (by kernel_rfl) rfl #[.slice A0_0 l0_0.length c0_0] rfl (by (try simp only [List.map_toArray,List.map_cons,List.map_nil]);first|done|rfl|(simp only [List.length_drop,List.length_take];rfl)) ?_;(with_reducible refine (laws_toByteSS.calls k _ _ l0_0 t149 _ ?side1 ?side2 A2.out).mono ?_);(case side1=>repeat (first|exact (Kd.C_below HR0_0.out HB.out)|(with_reducible first|apply Kd.C_alloc|apply Kd.C_drewN|apply Kd.C_drew)));(case side2=>exact HC0_0.out);rintro e w9 ⟨v150,rfl,ho0,hb⟩;refine ⟨_,rfl,?_⟩;have n0_:=Aside0.mk (Kd.S_lower ho0 (below_size (by repeat (first|(with_reducible first|exact HB.out|apply below_alloc|apply pw_below_drewN|apply below_drew1|refine below_set ?_ GE146.out|refine below_set ?_ GE147.out|refine below_set ?_ GE148.out)|exact HB.out))));have n1_:=Aside0.mk (blk_below (g:=gb146) (o:=.cells #[.slice A0_0 l0_0.length c0_0,.int .i64 a0_1,.bool a0_2,.int .i64 a0_3] 36 (0,0)) (by (with_reducible repeat first|apply blk_drewN|apply blk_drew|apply blk_alloc);exact BK146.out) hb);have n2_:=Aside0.mk (blk_below (g:=gb147) (o:=.cells #[.slice none 0 0,.int .i64 0,.bool false,.int .i64 0] 39 (0,0)) (by (with_reducible repeat first|apply blk_drewN|apply blk_drew|apply blk_alloc);exact BK147.out) hb);have n3_:=Aside0.mk (blk_below (g:=gb148) (o:=.cells #[.slice none 0 0,.int .i64 0,.bool false,.int .i64 0] 39 (0,0)) (by (with_reducible repeat first|apply blk_drewN|apply blk_drew|apply blk_alloc);exact BK148.out) hb);have n4_:=Aside0.mk (below_step (by repeat (first|(with_reducible first|exact HB.out|apply below_alloc|apply pw_below_drewN|apply below_drew1|refine below_set ?_ GE146.out|refine below_set ?_ GE147.out|refine below_set ?_ GE148.out)|exact HB.out)) hb);clear BK146;clear BK147;clear BK148;clear HB;have HO151:=n0_;have BK146:=n1_;have BK147:=n2_;have BK148:=n3_;have HB:=n4_;clear n0_ n1_ n2_ n3_ n4_;(try clear hb);(try clear hb2);(try clear hk);(try clear hi);(try clear ho0);obtain ⟨Ao10,co10,eo10⟩:=Kd.S_slice HO151.out;subst eo10;have hnb11:=NB148_147.out;have hnc11:=NB147_148.out;have hcz12_0 : w9.cell? ⟨gb148,0,none⟩ = some (.slice none 0 0):=(blk_cell BK148.out 0).trans rfl;have hcz12_1 : w9.cell? ⟨gb148,1,none⟩ = some (.int .i64 0):=(blk_cell BK148.out 1).trans rfl;have hcz12_2 : w9.cell? ⟨gb148,2,none⟩ = some (.bool false):=(blk_cell BK148.out 2).trans rfl;have hcz12_3 : w9.cell? ⟨gb148,3,none⟩ = some (.int .i64 0):=(blk_cell BK148.out 3).trans rfl;have hfz12_0:=blk_frozen BK148.out 0;have hfz12_1:=blk_frozen BK148.out 1;have hfz12_2:=blk_frozen BK148.out 2;have hfz12_3:=blk_frozen BK148.out 3;have hcz13_0 : w9.cell? ⟨gb146,0,none⟩ = some (.slice A0_0 l0_0.length c0_0):=(blk_cell BK146.out 0).trans rfl;have hcz13_1 : w9.cell? ⟨gb146,1,none⟩ = some (.int .i64 a0_1):=(blk_cell BK146.out 1).trans rfl;have hcz13_2 : w9.cell? ⟨gb146,2,none⟩ = some (.bool a0_2):=(blk_cell BK146.out 2).trans rfl;have hcz13_3 : w9.cell? ⟨gb146,3,none⟩ = some (.int .i64 a0_3):=(blk_cell BK146.out 3).trans rfl;have hfz13_0:=blk_frozen BK146.out 0;have hfz13_1:=blk_frozen BK146.out 1;have hfz13_2:=blk_frozen BK146.out 2;have hfz13_3:=blk_frozen BK146.out 3;have hcz14_0 : w9.cell? ⟨gb147,0,none⟩ = some (.slice none 0 0):=(blk_cell BK147.out 0).trans rfl;have hcz14_1 : w9.cell? ⟨gb147,1,none⟩ = some (.int .i64 0):=(blk_cell BK147.out 1).trans rfl;have hcz14_2 : w9.cell? ⟨gb147,2,none⟩ = some (.bool false):=(blk_cell BK147.out 2).trans rfl;have hcz14_3 : w9.cell? ⟨gb147,3,none⟩ = some (.int .i64 0):=(blk_cell BK147.out 3).trans rfl;have hfz14_0:=blk_frozen BK147.out 0;have hfz14_1:=blk_frozen BK147.out 1;have hfz14_2:=blk_frozen BK147.out 2;have hfz14_3:=blk_frozen BK147.out 3))
 refine bodyPost_ret (results_cell_row rfl _ _ gb147 39 #[.slice Ao10 t149.length co10,.int .i64 a0_1,.bool a0_2,.int .i64 a0_3] (0,0) _ rfl (by (with_reducible repeat first|apply blk_drewN|apply blk_drew|apply blk_alloc);refine blk_put (cs:=#[.slice Ao10 t149.length co10,.int .i64 a0_1,.bool a0_2,.int .i64 0]) ?_ 3 _ rfl;(with_reducible repeat first|apply blk_drewN|apply blk_drew|apply blk_alloc);refine blk_put (cs:=#[.slice Ao10 t149.length co10,.int .i64 a0_1,.bool false,.int .i64 0]) ?_ 2 _ rfl;(with_reducible repeat first|apply blk_drewN|apply blk_drew|apply blk_alloc);refine blk_put (cs:=#[.slice Ao10 t149.length co10,.int .i64 0,.bool false,.int .i64 0]) ?_ 1 _ rfl;(with_reducible repeat first|apply blk_drewN|apply blk_drew|apply blk_alloc);refine blk_put (cs:=#[.slice none 0 0,.int .i64 0,.bool false,.int .i64 0]) ?_ 0 _ rfl;(with_reducible repeat first|apply blk_drewN|apply blk_drew|apply blk_alloc);refine blk_far ?_ NB147_148.out _;(with_reducible repeat first|apply blk_drewN|apply blk_drew|apply blk_alloc);refine blk_far ?_ NB147_148.out _;(with_reducible repeat first|apply blk_drewN|apply blk_drew|apply blk_alloc);refine blk_far ?_ NB147_148.out _;(with_reducible repeat first|apply blk_drewN|apply blk_drew|apply blk_alloc);refine blk_far ?_ NB147_148.out _;(with_reducible repeat first|apply blk_drewN|apply blk_drew|apply blk_alloc);exact BK147.out) Try.underlying39 rfl (by kernel_rfl)) rfl ?_
 exact ⟨_,by first|rfl|(simp [*,errW_none,errW_some] <;> rfl),by (with_reducible repeat (first|apply Kd.S_alloc|apply Kd.S_drewN|apply Kd.S_drew));exact Kd.S_mono (Kd.S_far (p:=⟨gb147,3,none⟩) (Kd.S_far (p:=⟨gb147,2,none⟩) (Kd.S_far (p:=⟨gb147,1,none⟩) (Kd.S_far (p:=⟨gb147,0,none⟩) (Kd.S_far (p:=⟨gb148,3,none⟩) (Kd.S_far (p:=⟨gb148,2,none⟩) (Kd.S_far (p:=⟨gb148,1,none⟩) (Kd.S_far (p:=⟨gb148,0,none⟩) (Kd.S_types (Kd.S_types HO151.out BK148.out (by decide)) BK147.out (by decide)) (fun _ hk=>hk.1.2) (.slice Ao10 t149.length co10)) (fun _ hk=>hk.1.2) (.int .i64 a0_1)) (fun _ hk=>hk.1.2) (.bool a0_2)) (fun _ hk=>hk.1.2) (.int .i64 a0_3)) (fun _ hk=>hk.2) (.slice Ao10 t149.length co10)) (fun _ hk=>hk.2) (.int .i64 a0_1)) (fun _ hk=>hk.2) (.bool a0_2)) (fun _ hk=>hk.2) (.int .i64 a0_3)) (fun _ hk=>trivial),by repeat (first|(with_reducible first|exact HB.out|apply below_alloc|apply pw_below_drewN|apply below_drew1|refine below_set ?_ GE146.out|refine below_set ?_ GE147.out|refine below_set ?_ GE148.out)|exact HB.out)⟩

/-! ### laws_eqByteSS: function 51 -/
def laws_eqByteSS.l0 : Nat → List (List Int) → List (List Int) → Int → Option (Bool)
 | 0,_,_,_=>none
 | k + 1,x0,x1,x5=>if x5 < (x0.length : Int) then (if 0 ≤ x5 then (if x5 < (x1.length : Int) then ((laws_eqByteS.f k (rd_L2 x0 x5) (rd_L2 x1 x5)).bind fun t154=>(if t154 = true then (laws_eqByteSS.l0 k x0 x1 (wrap64 (x5 + 1))) else (some false))) else (none)) else (none)) else (some true)
def laws_eqByteSS.f (k : Nat) (l0 : List (List Int)) (l1 : List (List Int)) : Option (Bool):=if (l0.length : Int) = (l1.length : Int) then (laws_eqByteSS.l0 k l0 l1 0) else (some false)
theorem laws_eqByteSS.mono_l : ∀ k,(∀ y0 y1 y2,LeO (laws_eqByteSS.l0 k y0 y1 y2) (laws_eqByteSS.l0 (k + 1) y0 y1 y2))
 | 0=>fun _ _ _ r h=>by simp [laws_eqByteSS.l0] at h
 | k + 1=>by
  have ih0:=laws_eqByteSS.mono_l k
  ·intro y0 y1 y2
   unfold laws_eqByteSS.l0
   repeat' first
   | (with_reducible exact ih0 _ _ _)
   | (with_reducible exact laws_eqByteS.mono _ _ _)
   | (with_reducible exact LeO.refl _)
   | (with_reducible exact LeO.none _)
   | (with_reducible refine LeO.ite ?_ ?_)
   | (with_reducible refine LeO.bind ?_ (fun _=>?_))
   | exact ih0 _ _ _
   | exact laws_eqByteS.mono _ _ _
   | exact LeO.none _
   | refine LeO.ite ?_ ?_
   | refine LeO.bind ?_ (fun _=>?_)
theorem laws_eqByteSS.mono : ∀ a0 a1 k,LeO (laws_eqByteSS.f k a0 a1) (laws_eqByteSS.f (k + 1) a0 a1):=by
 intro a0 a1 k
 have ih0:=laws_eqByteSS.mono_l k
 unfold laws_eqByteSS.f
 repeat' first
   | (with_reducible exact ih0 _ _ _)
   | (with_reducible exact laws_eqByteS.mono _ _ _)
   | (with_reducible exact LeO.refl _)
   | (with_reducible exact LeO.none _)
   | (with_reducible refine LeO.ite ?_ ?_)
   | (with_reducible refine LeO.bind ?_ (fun _=>?_))
   | exact ih0 _ _ _
   | exact laws_eqByteS.mono _ _ _
   | exact LeO.none _
   | refine LeO.ite ?_ ?_
   | refine LeO.bind ?_ (fun _=>?_)
set_option maxHeartbeats 8000000 in
set_option maxRecDepth 100000 in
theorem laws_eqByteSS.calls (k : Nat) (A0 : Option Addr) (c0 : Nat) (l0 : List (List Int)) (A1 : Option Addr) (c1 : Nat) (l1 : List (List Int)) (r : Bool) (w : World) (hr0 : Kd.C (Kd.slice 5 (Kd.int .u8)) w A0 l0.length l0) (hc0 : l0.length ≤ c0) (hr1 : Kd.C (Kd.slice 5 (Kd.int .u8)) w A1 l1.length l1) (hc1 : l1.length ≤ c1) (h : laws_eqByteSS.f k l0 l1 = some r) :
  Calls Try.prog 51 #[.slice A0 l0.length c0,.slice A1 l1.length c1] w fun e w'=>e = .returned (.bool r)∧Drawn0 w w':=by
 have HR0:=Aside0.mk hr0
 have HC0:=Aside0.mk hc0
 clear hr0 hc0
 have HR1:=Aside0.mk hr1
 have HC1:=Aside0.mk hc1
 clear hr1 hc1
 have H : (if (l0.length : Int) = (l1.length : Int) then (laws_eqByteSS.l0 k l0 l1 0) else (some false)) = some r:=h
 clear h
 by_cases c3 : (l0.length : Int) = (l1.length : Int)
 ·rw [if_pos c3] at H
  have c3b0 : ((l0.length : Int) == (l1.length : Int)) = true:=beq_iff_eq.mpr c3
  have c3b1 : ((l0.length : Int) != (l1.length : Int)) = false:=bne_eq_false_iff_eq.mpr c3
  have c3b2 : (l0.length == l1.length) = true:=by first|simpa using c3|(simp at c3 ⊢;omega)
  clear c3
  have H':=Aside0.mk H
  clear H
  go_enter Try.func51,Try.ntmps51
  go_wp2
  repeat (go_quiet (fail);try go_wp2)
  go_loopg [5] k (fun kq v5 w'=>∃ (x5_1 : Int),v5 = .int .i64 x5_1∧Aside0 (laws_eqByteSS.l0 kq l0 l1 x5_1 = some r)∧Aside0 (kq ≤ k)∧Drawn0 w w')
  case atStart=>exact ⟨(0),(by first|rfl|(simp;done)|(simp [*];done)),H',⟨Nat.le_refl _⟩,by repeat (first|exact Drawn0.refl _|apply Drawn0.step)⟩
  case round =>
   clear H'
   try clear c1;try clear p2;try clear c3;try clear c3b0;try clear c3b1;try clear c3b2
   obtain ⟨x5_1,rfl,HA,HK1,⟨m1,rfl⟩⟩:=hrel
   cases gk with
   | zero=>exact absurd HA.out (by simp [laws_eqByteSS.l0])
   | succ k1 =>
    have H:=HA.out
    clear HA
    simp only [laws_eqByteSS.l0] at H
    by_cases c4 : x5_1 < (l0.length : Int)
    ·rw [if_pos c4] at H
     have c4b0 : decide (x5_1 < (l0.length : Int)) = true:=decide_eq_true c4
     clear c4
     by_cases c5 : 0 ≤ x5_1
     ·rw [if_pos c5] at H
      have c5b0 : decide (0 ≤ x5_1) = true:=decide_eq_true c5
      clear c5
      by_cases c6 : x5_1 < (l1.length : Int)
      ·rw [if_pos c6] at H
       have c6b0 : decide (x5_1 < (l1.length : Int)) = true:=decide_eq_true c6
       clear c6
       replace H:=Option.bind_eq_some_iff.mp H
       obtain ⟨t154,A70,H⟩:=H
       replace H : (if t154 = true then (laws_eqByteSS.l0 k1 l0 l1 (wrap64 (x5_1 + 1))) else (some false)) = some r:=H
       have A7:=Aside0.mk A70
       clear A70
       by_cases c8 : t154 = true
       ·subst c8
        have H1 : (laws_eqByteSS.l0 k1 l0 l1 (wrap64 (x5_1 + 1))) = some r:=by rw [if_pos rfl] at H;exact H
        clear H
        have H:=H1
        clear H1
        have H':=Aside0.mk H
        clear H
        have p152 : 0 ≤ (x5_1 : Int):=of_decide_eq_true (by assumption)
        have q152 : x5_1 < (l0.length : Int):=of_decide_eq_true (by assumption)
        obtain ⟨ad152,A152_0,c152_0,e152,hx152_0,hl152_0,hi152_0⟩:=at_L2 HR0.out x5_1 p152 q152
        cases e152
        have HR152_0:=Aside0.mk hi152_0
        have HC152_0:=Aside0.mk hl152_0
        clear hi152_0 hl152_0
        replace p152:=eq_true p152
        replace q152:=eq_true q152
        have p153 : 0 ≤ (x5_1 : Int):=of_decide_eq_true (by assumption)
        have q153 : x5_1 < (l1.length : Int):=of_decide_eq_true (by assumption)
        obtain ⟨ad153,A153_0,c153_0,e153,hx153_0,hl153_0,hi153_0⟩:=at_L2 HR1.out x5_1 p153 q153
        cases e153
        have HR153_0:=Aside0.mk hi153_0
        have HC153_0:=Aside0.mk hl153_0
        clear hi153_0 hl153_0
        replace p153:=eq_true p153
        replace q153:=eq_true q153
        go_wp2_with (first|(go_at_call 14;(with_reducible refine (laws_eqByteS.calls k1 _ _ (rd_L2 l0 x5_1) _ _ (rd_L2 l1 x5_1) true _ ?side1 ?side2 ?side3 ?side4 A7.out).mono ?_);(case side1=>repeat (first|exact HR152_0.out|(with_reducible first|apply Kd.C_alloc|apply Kd.C_drewN|apply Kd.C_drew)));(case side2=>exact HC152_0.out);(case side3=>repeat (first|exact HR153_0.out|(with_reducible first|apply Kd.C_alloc|apply Kd.C_drewN|apply Kd.C_drew)));(case side4=>exact HC153_0.out);rintro e w' ⟨rfl,⟨nd,rfl⟩⟩;(try first|exact ⟨rfl,_,World.drewN_drewN _ _ _⟩|exact ⟨rfl,_,Eq.trans (World.drewN_drewN _ _ _) (congrArg (World.drewN _) (Nat.add_assoc _ _ _))⟩)))
        repeat (go_quiet (first|(go_at_call 14;(with_reducible refine (laws_eqByteS.calls k1 _ _ (rd_L2 l0 x5_1) _ _ (rd_L2 l1 x5_1) true _ ?side1 ?side2 ?side3 ?side4 A7.out).mono ?_);(case side1=>repeat (first|exact HR152_0.out|(with_reducible first|apply Kd.C_alloc|apply Kd.C_drewN|apply Kd.C_drew)));(case side2=>exact HC152_0.out);(case side3=>repeat (first|exact HR153_0.out|(with_reducible first|apply Kd.C_alloc|apply Kd.C_drewN|apply Kd.C_drew)));(case side4=>exact HC153_0.out);rintro e w' ⟨rfl,⟨nd,rfl⟩⟩;(try first|exact ⟨rfl,_,World.drewN_drewN _ _ _⟩|exact ⟨rfl,_,Eq.trans (World.drewN_drewN _ _ _) (congrArg (World.drewN _) (Nat.add_assoc _ _ _))⟩)));try go_wp2_with (first|(go_at_call 14;(with_reducible refine (laws_eqByteS.calls k1 _ _ (rd_L2 l0 x5_1) _ _ (rd_L2 l1 x5_1) true _ ?side1 ?side2 ?side3 ?side4 A7.out).mono ?_);(case side1=>repeat (first|exact HR152_0.out|(with_reducible first|apply Kd.C_alloc|apply Kd.C_drewN|apply Kd.C_drew)));(case side2=>exact HC152_0.out);(case side3=>repeat (first|exact HR153_0.out|(with_reducible first|apply Kd.C_alloc|apply Kd.C_drewN|apply Kd.C_drew)));(case side4=>exact HC153_0.out);rintro e w' ⟨rfl,⟨nd,rfl⟩⟩;(try first|exact ⟨rfl,_,World.drewN_drewN _ _ _⟩|exact ⟨rfl,_,Eq.trans (World.drewN_drewN _ _ _) (congrArg (World.drewN _) (Nat.add_assoc _ _ _))⟩))))
        go_roundg k1
        case measure=>have:=HK1.out;omega
        case rel=>exact ⟨(wrap64 (x5_1 + 1)),(by first|rfl|(simp;done)|(simp [*];done)),H',⟨by have:=HK1.out;omega⟩,by repeat (first|exact Drawn0.refl _|apply Drawn0.step)⟩
       ·replace c8:=Bool.eq_false_iff.mpr c8
        subst c8
        have H1 : (some false) = some r:=by rw [if_neg (show ¬ (false = true) by decide)] at H;exact H
        clear H
        have H:=H1
        clear H1
        obtain rfl:=Option.some.inj H
        have p152 : 0 ≤ (x5_1 : Int):=of_decide_eq_true (by assumption)
        have q152 : x5_1 < (l0.length : Int):=of_decide_eq_true (by assumption)
        obtain ⟨ad152,A152_0,c152_0,e152,hx152_0,hl152_0,hi152_0⟩:=at_L2 HR0.out x5_1 p152 q152
        cases e152
        have HR152_0:=Aside0.mk hi152_0
        have HC152_0:=Aside0.mk hl152_0
        clear hi152_0 hl152_0
        replace p152:=eq_true p152
        replace q152:=eq_true q152
        have p153 : 0 ≤ (x5_1 : Int):=of_decide_eq_true (by assumption)
        have q153 : x5_1 < (l1.length : Int):=of_decide_eq_true (by assumption)
        obtain ⟨ad153,A153_0,c153_0,e153,hx153_0,hl153_0,hi153_0⟩:=at_L2 HR1.out x5_1 p153 q153
        cases e153
        have HR153_0:=Aside0.mk hi153_0
        have HC153_0:=Aside0.mk hl153_0
        clear hi153_0 hl153_0
        replace p153:=eq_true p153
        replace q153:=eq_true q153
        go_wp2_with (first|(go_at_call 14;(with_reducible refine (laws_eqByteS.calls k1 _ _ (rd_L2 l0 x5_1) _ _ (rd_L2 l1 x5_1) false _ ?side1 ?side2 ?side3 ?side4 A7.out).mono ?_);(case side1=>repeat (first|exact HR152_0.out|(with_reducible first|apply Kd.C_alloc|apply Kd.C_drewN|apply Kd.C_drew)));(case side2=>exact HC152_0.out);(case side3=>repeat (first|exact HR153_0.out|(with_reducible first|apply Kd.C_alloc|apply Kd.C_drewN|apply Kd.C_drew)));(case side4=>exact HC153_0.out);rintro e w' ⟨rfl,⟨nd,rfl⟩⟩;(try first|exact ⟨rfl,_,World.drewN_drewN _ _ _⟩|exact ⟨rfl,_,Eq.trans (World.drewN_drewN _ _ _) (congrArg (World.drewN _) (Nat.add_assoc _ _ _))⟩)))
        repeat (go_quiet (first|(go_at_call 14;(with_reducible refine (laws_eqByteS.calls k1 _ _ (rd_L2 l0 x5_1) _ _ (rd_L2 l1 x5_1) false _ ?side1 ?side2 ?side3 ?side4 A7.out).mono ?_);(case side1=>repeat (first|exact HR152_0.out|(with_reducible first|apply Kd.C_alloc|apply Kd.C_drewN|apply Kd.C_drew)));(case side2=>exact HC152_0.out);(case side3=>repeat (first|exact HR153_0.out|(with_reducible first|apply Kd.C_alloc|apply Kd.C_drewN|apply Kd.C_drew)));(case side4=>exact HC153_0.out);rintro e w' ⟨rfl,⟨nd,rfl⟩⟩;(try first|exact ⟨rfl,_,World.drewN_drewN _ _ _⟩|exact ⟨rfl,_,Eq.trans (World.drewN_drewN _ _ _) (congrArg (World.drewN _) (Nat.add_assoc _ _ _))⟩)));try go_wp2_with (first|(go_at_call 14;(with_reducible refine (laws_eqByteS.calls k1 _ _ (rd_L2 l0 x5_1) _ _ (rd_L2 l1 x5_1) false _ ?side1 ?side2 ?side3 ?side4 A7.out).mono ?_);(case side1=>repeat (first|exact HR152_0.out|(with_reducible first|apply Kd.C_alloc|apply Kd.C_drewN|apply Kd.C_drew)));(case side2=>exact HC152_0.out);(case side3=>repeat (first|exact HR153_0.out|(with_reducible first|apply Kd.C_alloc|apply Kd.C_drewN|apply Kd.C_drew)));(case side4=>exact HC153_0.out);rintro e w' ⟨rfl,⟨nd,rfl⟩⟩;(try first|exact ⟨rfl,_,World.drewN_drewN _ _ _⟩|exact ⟨rfl,_,Eq.trans (World.drewN_drewN _ _ _) (congrArg (World.drewN _) (Nat.add_assoc _ _ _))⟩))))
        go_ret
        exact ⟨by first|rfl|(simp;done)|(simp [*];done),by repeat (first|exact Drawn0.refl _|apply Drawn0.step)⟩
      ·rw [if_neg c6] at H
       exact absurd H (by simp)
     ·rw [if_neg c5] at H
      exact absurd H (by simp)
    ·rw [if_neg c4] at H
     have c4b0 : decide (x5_1 < (l0.length : Int)) = false:=decide_eq_false c4
     clear c4
     obtain rfl:=Option.some.inj H
     go_wp2
     repeat (go_quiet (fail);try go_wp2)
     go_ret
     exact ⟨by first|rfl|(simp;done)|(simp [*];done),by repeat (first|exact Drawn0.refl _|apply Drawn0.step)⟩
 ·rw [if_neg c3] at H
  have c3b0 : ((l0.length : Int) == (l1.length : Int)) = false:=beq_eq_false_iff_ne.mpr c3
  have c3b1 : ((l0.length : Int) != (l1.length : Int)) = true:=bne_iff_ne.mpr c3
  have c3b2 : (l0.length == l1.length) = false:=by first|simpa using c3|(simp at c3 ⊢;omega)
  obtain rfl:=Option.some.inj H
  go_enter Try.func51,Try.ntmps51
  go_wp2
  repeat (go_quiet (fail);try go_wp2)
  go_ret
  exact ⟨by first|rfl|(simp;done)|(simp [*];done),by repeat (first|exact Drawn0.refl _|apply Drawn0.step)⟩

/-! ### laws_eqDisk: function 23 -/
def laws_eqDisk.f (k : Nat) (l0_0 : List (List Int)) (a0_1 : Int) (a0_2 : Bool) (a0_3 : Int) (l1_0 : List (List Int)) (a1_1 : Int) (a1_2 : Bool) (a1_3 : Int) : Option (Bool):=(laws_eqByteSS.f k l0_0 l1_0).bind fun t157=>(if t157 = true then (if a0_1 = a1_1 then (if (a0_2 != a1_2) = true then (some false) else (if a0_3 = a1_3 then (some true) else (some false))) else (some false)) else (some false))
theorem laws_eqDisk.mono : ∀ a0 a1 a2 a3 a4 a5 a6 a7 k,LeO (laws_eqDisk.f k a0 a1 a2 a3 a4 a5 a6 a7) (laws_eqDisk.f (k + 1) a0 a1 a2 a3 a4 a5 a6 a7):=by
 intro a0 a1 a2 a3 a4 a5 a6 a7 k
 unfold laws_eqDisk.f
 repeat' first
   | (with_reducible exact laws_eqByteSS.mono _ _ _)
   | (with_reducible exact LeO.refl _)
   | (with_reducible exact LeO.none _)
   | (with_reducible refine LeO.ite ?_ ?_)
   | (with_reducible refine LeO.bind ?_ (fun _=>?_))
   | exact laws_eqByteSS.mono _ _ _
   | exact LeO.none _
   | refine LeO.ite ?_ ?_
   | refine LeO.bind ?_ (fun _=>?_)
set_option maxHeartbeats 8000000 in
set_option maxRecDepth 100000 in
theorem laws_eqDisk.calls (k : Nat) (A0_0 : Option Addr) (c0_0 : Nat) (l0_0 : List (List Int)) (a0_1 : Int) (a0_2 : Bool) (a0_3 : Int) (A1_0 : Option Addr) (c1_0 : Nat) (l1_0 : List (List Int)) (a1_1 : Int) (a1_2 : Bool) (a1_3 : Int) (r : Bool) (w : World) (hr0_0 : Kd.C (Kd.slice 5 (Kd.int .u8)) w A0_0 l0_0.length l0_0) (hc0_0 : l0_0.length ≤ c0_0) (hr1_0 : Kd.C (Kd.slice 5 (Kd.int .u8)) w A1_0 l1_0.length l1_0) (hc1_0 : l1_0.length ≤ c1_0) (h : laws_eqDisk.f k l0_0 a0_1 a0_2 a0_3 l1_0 a1_1 a1_2 a1_3 = some r) :
  Calls Try.prog 23 #[.agg #[.slice A0_0 l0_0.length c0_0,.int .i64 a0_1,.bool a0_2,.int .i64 a0_3],.agg #[.slice A1_0 l1_0.length c1_0,.int .i64 a1_1,.bool a1_2,.int .i64 a1_3]] w fun e w'=>e = .returned (.bool r)∧Below w.heap.size w w':=by
 have hu39:=Try.underlying39
 have HR0_0:=Aside0.mk hr0_0
 have HC0_0:=Aside0.mk hc0_0
 clear hr0_0 hc0_0
 have HR1_0:=Aside0.mk hr1_0
 have HC1_0:=Aside0.mk hc1_0
 clear hr1_0 hc1_0
 have HB:=Aside0.mk (Below.refl w.heap.size w)
 have H : ((laws_eqByteSS.f k l0_0 l1_0).bind fun t157=>(if t157 = true then (if a0_1 = a1_1 then (if (a0_2 != a1_2) = true then (some false) else (if a0_3 = a1_3 then (some true) else (some false))) else (some false)) else (some false))) = some r:=h
 clear h
 replace H:=Option.bind_eq_some_iff.mp H
 obtain ⟨t157,A30,H⟩:=H
 replace H : (if t157 = true then (if a0_1 = a1_1 then (if (a0_2 != a1_2) = true then (some false) else (if a0_3 = a1_3 then (some true) else (some false))) else (some false)) else (some false)) = some r:=H
 have A3:=Aside0.mk A30
 clear A30
 by_cases c4 : t157 = true
 ·subst c4
  have H1 : (if a0_1 = a1_1 then (if (a0_2 != a1_2) = true then (some false) else (if a0_3 = a1_3 then (some true) else (some false))) else (some false)) = some r:=by rw [if_pos rfl] at H;exact H
  clear H
  have H:=H1
  clear H1
  by_cases c5 : a0_1 = a1_1
  ·rw [if_pos c5] at H
   have c5b0 : (a0_1 == a1_1) = true:=beq_iff_eq.mpr c5
   have c5b1 : (a0_1 != a1_1) = false:=bne_eq_false_iff_eq.mpr c5
   clear c5
   by_cases c6 : (a0_2 != a1_2) = true
   ·rw [if_pos c6] at H
    have c6b0 : (a0_2 != a1_2) = true:=c6
    (try (have c6b1 : decide (a0_2 = a1_2) = false:=by simpa using c6))
    (try (have c6b2 : (a0_2 == a1_2) = false:=by simpa using c6))
    (try (have c6b3 : ¬ (a0_2 = a1_2):=by simpa using c6))
    clear c6
    obtain rfl:=Option.some.inj H
    go_enter Try.func23,Try.ntmps23
    go_wp2_with (first|((with_reducible refine gate_dst (N:=2) rfl ?_);refine box_event ?hg (N:=2) ?hd (cs:=#[.slice A0_0 l0_0.length c0_0,.int .i64 a0_1,.bool a0_2,.int .i64 a0_3]) (t:=39) ?hr ?_;(case hd=>rfl);(case hg=>rfl);(case hr=>first|(go_simp;done)|(go_simp;rfl));intro gb155 hg w7 hbox hb;have n0_:=Aside0.mk (below_step (by repeat (first|exact HB.out|apply below_alloc|apply pw_below_drewN|apply below_drew1)) hb);have n1_:=Aside0.mk (hbox);have n2_:=Aside0.mk ((by rw [hg];exact (below_size (by repeat (first|exact HB.out|apply below_alloc|apply pw_below_drewN|apply below_drew1))) : w.heap.size ≤ gb155));have n3_:=Aside0.mk ((by rw [hg];exact (below_size (by repeat (first|exact HB.out|apply below_alloc|apply pw_below_drewN|apply below_drew1))) : w.heap.size ≤ gb155));clear HB;have HB:=n0_;have BK155:=n1_;have GW155:=n2_;have GE155:=n3_;clear n0_ n1_ n2_ n3_;clear hb hbox hg)|((with_reducible refine gate_dst (N:=3) rfl ?_);refine box_event ?hg (N:=3) ?hd (cs:=#[.slice A1_0 l1_0.length c1_0,.int .i64 a1_1,.bool a1_2,.int .i64 a1_3]) (t:=39) ?hr ?_;(case hd=>rfl);(case hg=>rfl);(case hr=>first|(go_simp;done)|(go_simp;rfl));intro gb156 hg w8 hbox hb;have n0_:=Aside0.mk (blk_below (g:=gb155) (o:=.cells #[.slice A0_0 l0_0.length c0_0,.int .i64 a0_1,.bool a0_2,.int .i64 a0_3] 39 (0,0)) (by (with_reducible repeat first|apply blk_drewN|apply blk_drew|apply blk_alloc);exact BK155.out) hb);have n1_:=Aside0.mk (below_step (by repeat (first|(with_reducible first|exact HB.out|apply below_alloc|apply pw_below_drewN|apply below_drew1|refine below_set ?_ GE155.out)|exact HB.out)) hb);have n2_:=Aside0.mk (hbox);have n3_:=Aside0.mk ((by rw [hg];exact (below_size (by repeat (first|(with_reducible first|exact HB.out|apply below_alloc|apply pw_below_drewN|apply below_drew1|refine below_set ?_ GE155.out)|exact HB.out))) : w.heap.size ≤ gb156));have n4_:=Aside0.mk ((by rw [hg];exact (below_size (by repeat (first|(with_reducible first|exact HB.out|apply below_alloc|apply pw_below_drewN|apply below_drew1|refine below_set ?_ GE155.out)|exact HB.out))) : w.heap.size ≤ gb156));have n5_:=Aside0.mk ((by rw [hg];exact Nat.ne_of_lt (blk_lt (g:=gb155) (o:=.cells #[.slice A0_0 l0_0.length c0_0,.int .i64 a0_1,.bool a0_2,.int .i64 a0_3] 39 (0,0)) (by (with_reducible repeat first|apply blk_drewN|apply blk_drew|apply blk_alloc);exact BK155.out)) : gb155 ≠ gb156));have n6_:=Aside0.mk ((by rw [hg];exact Nat.ne_of_gt (blk_lt (g:=gb155) (o:=.cells #[.slice A0_0 l0_0.length c0_0,.int .i64 a0_1,.bool a0_2,.int .i64 a0_3] 39 (0,0)) (by (with_reducible repeat first|apply blk_drewN|apply blk_drew|apply blk_alloc);exact BK155.out)) : gb156 ≠ gb155));clear BK155;clear HB;have BK155:=n0_;have HB:=n1_;have BK156:=n2_;have GW156:=n3_;have GE156:=n4_;have NB155_156:=n5_;have NB156_155:=n6_;clear n0_ n1_ n2_ n3_ n4_ n5_ n6_;clear hb hbox hg;have hnb9:=NB155_156.out;have hnc9:=NB156_155.out;have hcz10_0 : w8.cell? ⟨gb155,0,none⟩ = some (.slice A0_0 l0_0.length c0_0):=(blk_cell BK155.out 0).trans rfl;have hcz10_1 : w8.cell? ⟨gb155,1,none⟩ = some (.int .i64 a0_1):=(blk_cell BK155.out 1).trans rfl;have hcz10_2 : w8.cell? ⟨gb155,2,none⟩ = some (.bool a0_2):=(blk_cell BK155.out 2).trans rfl;have hcz10_3 : w8.cell? ⟨gb155,3,none⟩ = some (.int .i64 a0_3):=(blk_cell BK155.out 3).trans rfl;have hfz10_0:=blk_frozen BK155.out 0;have hfz10_1:=blk_frozen BK155.out 1;have hfz10_2:=blk_frozen BK155.out 2;have hfz10_3:=blk_frozen BK155.out 3;have hcz11_0 : w8.cell? ⟨gb156,0,none⟩ = some (.slice A1_0 l1_0.length c1_0):=(blk_cell BK156.out 0).trans rfl;have hcz11_1 : w8.cell? ⟨gb156,1,none⟩ = some (.int .i64 a1_1):=(blk_cell BK156.out 1).trans rfl;have hcz11_2 : w8.cell? ⟨gb156,2,none⟩ = some (.bool a1_2):=(blk_cell BK156.out 2).trans rfl;have hcz11_3 : w8.cell? ⟨gb156,3,none⟩ = some (.int .i64 a1_3):=(blk_cell BK156.out 3).trans rfl;have hfz11_0:=blk_frozen BK156.out 0;have hfz11_1:=blk_frozen BK156.out 1;have hfz11_2:=blk_frozen BK156.out 2;have hfz11_3:=blk_frozen BK156.out 3)|((with_reducible refine gate_callee (f:=51) rfl ?_);refine goesL_ (some 9) rfl rfl Try.func51 (by kernel_rfl) rfl #[.slice A0_0 l0_0.length c0_0,.slice A1_0 l1_0.length c1_0] rfl (by (try simp only [List.map_toArray,List.map_cons,List.map_nil]);first|done|rfl|(simp only [List.length_drop,List.length_take];rfl)) ?_;(with_reducible refine (laws_eqByteSS.calls k _ _ l0_0 _ _ l1_0 true _ ?side1 ?side2 ?side3 ?side4 A3.out).mono ?_);(case side1=>repeat (first|exact (Kd.C_below HR0_0.out HB.out)|(with_reducible first|apply Kd.C_alloc|apply Kd.C_drewN|apply Kd.C_drew)));(case side2=>exact HC0_0.out);(case side3=>repeat (first|exact (Kd.C_below HR1_0.out HB.out)|(with_reducible first|apply Kd.C_alloc|apply Kd.C_drewN|apply Kd.C_drew)));(case side4=>exact HC1_0.out);rintro e w' ⟨rfl,⟨nd,rfl⟩⟩;refine ⟨_,rfl,?_⟩))
    go_ret
    exact ⟨by first|rfl|(simp [*,errW_none,errW_some] <;> rfl),by repeat (first|(with_reducible first|exact HB.out|apply below_alloc|apply pw_below_drewN|apply below_drew1|refine below_set ?_ GE155.out|refine below_set ?_ GE156.out)|exact HB.out)⟩
   ·rw [if_neg c6] at H
    have c6b0 : (a0_2 != a1_2) = false:=by simpa using c6
    (try (have c6b1 : decide (a0_2 = a1_2) = true:=by simpa using c6))
    (try (have c6b2 : (a0_2 == a1_2) = true:=by simpa using c6))
    clear c6
    by_cases c12 : a0_3 = a1_3
    ·rw [if_pos c12] at H
     have c12b0 : (a0_3 == a1_3) = true:=beq_iff_eq.mpr c12
     have c12b1 : (a0_3 != a1_3) = false:=bne_eq_false_iff_eq.mpr c12
     clear c12
     obtain rfl:=Option.some.inj H
     go_enter Try.func23,Try.ntmps23
     go_wp2_with (first|((with_reducible refine gate_dst (N:=2) rfl ?_);refine box_event ?hg (N:=2) ?hd (cs:=#[.slice A0_0 l0_0.length c0_0,.int .i64 a0_1,.bool a0_2,.int .i64 a0_3]) (t:=39) ?hr ?_;(case hd=>rfl);(case hg=>rfl);(case hr=>first|(go_simp;done)|(go_simp;rfl));intro gb155 hg w13 hbox hb;have n0_:=Aside0.mk (below_step (by repeat (first|exact HB.out|apply below_alloc|apply pw_below_drewN|apply below_drew1)) hb);have n1_:=Aside0.mk (hbox);have n2_:=Aside0.mk ((by rw [hg];exact (below_size (by repeat (first|exact HB.out|apply below_alloc|apply pw_below_drewN|apply below_drew1))) : w.heap.size ≤ gb155));have n3_:=Aside0.mk ((by rw [hg];exact (below_size (by repeat (first|exact HB.out|apply below_alloc|apply pw_below_drewN|apply below_drew1))) : w.heap.size ≤ gb155));clear HB;have HB:=n0_;have BK155:=n1_;have GW155:=n2_;have GE155:=n3_;clear n0_ n1_ n2_ n3_;clear hb hbox hg)|((with_reducible refine gate_dst (N:=3) rfl ?_);refine box_event ?hg (N:=3) ?hd (cs:=#[.slice A1_0 l1_0.length c1_0,.int .i64 a1_1,.bool a1_2,.int .i64 a1_3]) (t:=39) ?hr ?_;(case hd=>rfl);(case hg=>rfl);(case hr=>first|(go_simp;done)|(go_simp;rfl));intro gb156 hg w14 hbox hb;have n0_:=Aside0.mk (blk_below (g:=gb155) (o:=.cells #[.slice A0_0 l0_0.length c0_0,.int .i64 a0_1,.bool a0_2,.int .i64 a0_3] 39 (0,0)) (by (with_reducible repeat first|apply blk_drewN|apply blk_drew|apply blk_alloc);exact BK155.out) hb);have n1_:=Aside0.mk (below_step (by repeat (first|(with_reducible first|exact HB.out|apply below_alloc|apply pw_below_drewN|apply below_drew1|refine below_set ?_ GE155.out)|exact HB.out)) hb);have n2_:=Aside0.mk (hbox);have n3_:=Aside0.mk ((by rw [hg];exact (below_size (by repeat (first|(with_reducible first|exact HB.out|apply below_alloc|apply pw_below_drewN|apply below_drew1|refine below_set ?_ GE155.out)|exact HB.out))) : w.heap.size ≤ gb156));have n4_:=Aside0.mk ((by rw [hg];exact (below_size (by repeat (first|(with_reducible first|exact HB.out|apply below_alloc|apply pw_below_drewN|apply below_drew1|refine below_set ?_ GE155.out)|exact HB.out))) : w.heap.size ≤ gb156));have n5_:=Aside0.mk ((by rw [hg];exact Nat.ne_of_lt (blk_lt (g:=gb155) (o:=.cells #[.slice A0_0 l0_0.length c0_0,.int .i64 a0_1,.bool a0_2,.int .i64 a0_3] 39 (0,0)) (by (with_reducible repeat first|apply blk_drewN|apply blk_drew|apply blk_alloc);exact BK155.out)) : gb155 ≠ gb156));have n6_:=Aside0.mk ((by rw [hg];exact Nat.ne_of_gt (blk_lt (g:=gb155) (o:=.cells #[.slice A0_0 l0_0.length c0_0,.int .i64 a0_1,.bool a0_2,.int .i64 a0_3] 39 (0,0)) (by (with_reducible repeat first|apply blk_drewN|apply blk_drew|apply blk_alloc);exact BK155.out)) : gb156 ≠ gb155));clear BK155;clear HB;have BK155:=n0_;have HB:=n1_;have BK156:=n2_;have GW156:=n3_;have GE156:=n4_;have NB155_156:=n5_;have NB156_155:=n6_;clear n0_ n1_ n2_ n3_ n4_ n5_ n6_;clear hb hbox hg;have hnb15:=NB155_156.out;have hnc15:=NB156_155.out;have hcz16_0 : w14.cell? ⟨gb155,0,none⟩ = some (.slice A0_0 l0_0.length c0_0):=(blk_cell BK155.out 0).trans rfl;have hcz16_1 : w14.cell? ⟨gb155,1,none⟩ = some (.int .i64 a0_1):=(blk_cell BK155.out 1).trans rfl;have hcz16_2 : w14.cell? ⟨gb155,2,none⟩ = some (.bool a0_2):=(blk_cell BK155.out 2).trans rfl;have hcz16_3 : w14.cell? ⟨gb155,3,none⟩ = some (.int .i64 a0_3):=(blk_cell BK155.out 3).trans rfl;have hfz16_0:=blk_frozen BK155.out 0;have hfz16_1:=blk_frozen BK155.out 1;have hfz16_2:=blk_frozen BK155.out 2;have hfz16_3:=blk_frozen BK155.out 3;have hcz17_0 : w14.cell? ⟨gb156,0,none⟩ = some (.slice A1_0 l1_0.length c1_0):=(blk_cell BK156.out 0).trans rfl;have hcz17_1 : w14.cell? ⟨gb156,1,none⟩ = some (.int .i64 a1_1):=(blk_cell BK156.out 1).trans rfl;have hcz17_2 : w14.cell? ⟨gb156,2,none⟩ = some (.bool a1_2):=(blk_cell BK156.out 2).trans rfl;have hcz17_3 : w14.cell? ⟨gb156,3,none⟩ = some (.int .i64 a1_3):=(blk_cell BK156.out 3).trans rfl;have hfz17_0:=blk_frozen BK156.out 0;have hfz17_1:=blk_frozen BK156.out 1;have hfz17_2:=blk_frozen BK156.out 2;have hfz17_3:=blk_frozen BK156.out 3)|((with_reducible refine gate_callee (f:=51) rfl ?_);refine goesL_ (some 9) rfl rfl Try.func51 (by kernel_rfl) rfl #[.slice A0_0 l0_0.length c0_0,.slice A1_0 l1_0.length c1_0] rfl (by (try simp only [List.map_toArray,List.map_cons,List.map_nil]);first|done|rfl|(simp only [List.length_drop,List.length_take];rfl)) ?_;(with_reducible refine (laws_eqByteSS.calls k _ _ l0_0 _ _ l1_0 true _ ?side1 ?side2 ?side3 ?side4 A3.out).mono ?_);(case side1=>repeat (first|exact (Kd.C_below HR0_0.out HB.out)|(with_reducible first|apply Kd.C_alloc|apply Kd.C_drewN|apply Kd.C_drew)));(case side2=>exact HC0_0.out);(case side3=>repeat (first|exact (Kd.C_below HR1_0.out HB.out)|(with_reducible first|apply Kd.C_alloc|apply Kd.C_drewN|apply Kd.C_drew)));(case side4=>exact HC1_0.out);rintro e w' ⟨rfl,⟨nd,rfl⟩⟩;refine ⟨_,rfl,?_⟩))
     go_ret
     exact ⟨by first|rfl|(simp [*,errW_none,errW_some] <;> rfl),by repeat (first|(with_reducible first|exact HB.out|apply below_alloc|apply pw_below_drewN|apply below_drew1|refine below_set ?_ GE155.out|refine below_set ?_ GE156.out)|exact HB.out)⟩
    ·rw [if_neg c12] at H
     have c12b0 : (a0_3 == a1_3) = false:=beq_eq_false_iff_ne.mpr c12
     have c12b1 : (a0_3 != a1_3) = true:=bne_iff_ne.mpr c12
     obtain rfl:=Option.some.inj H
     go_enter Try.func23,Try.ntmps23
     go_wp2_with (first|((with_reducible refine gate_dst (N:=2) rfl ?_);refine box_event ?hg (N:=2) ?hd (cs:=#[.slice A0_0 l0_0.length c0_0,.int .i64 a0_1,.bool a0_2,.int .i64 a0_3]) (t:=39) ?hr ?_;(case hd=>rfl);(case hg=>rfl);(case hr=>first|(go_simp;done)|(go_simp;rfl));intro gb155 hg w18 hbox hb;have n0_:=Aside0.mk (below_step (by repeat (first|exact HB.out|apply below_alloc|apply pw_below_drewN|apply below_drew1)) hb);have n1_:=Aside0.mk (hbox);have n2_:=Aside0.mk ((by rw [hg];exact (below_size (by repeat (first|exact HB.out|apply below_alloc|apply pw_below_drewN|apply below_drew1))) : w.heap.size ≤ gb155));have n3_:=Aside0.mk ((by rw [hg];exact (below_size (by repeat (first|exact HB.out|apply below_alloc|apply pw_below_drewN|apply below_drew1))) : w.heap.size ≤ gb155));clear HB;have HB:=n0_;have BK155:=n1_;have GW155:=n2_;have GE155:=n3_;clear n0_ n1_ n2_ n3_;clear hb hbox hg)|((with_reducible refine gate_dst (N:=3) rfl ?_);refine box_event ?hg (N:=3) ?hd (cs:=#[.slice A1_0 l1_0.length c1_0,.int .i64 a1_1,.bool a1_2,.int .i64 a1_3]) (t:=39) ?hr ?_;(case hd=>rfl);(case hg=>rfl);(case hr=>first|(go_simp;done)|(go_simp;rfl));intro gb156 hg w19 hbox hb;have n0_:=Aside0.mk (blk_below (g:=gb155) (o:=.cells #[.slice A0_0 l0_0.length c0_0,.int .i64 a0_1,.bool a0_2,.int .i64 a0_3] 39 (0,0)) (by (with_reducible repeat first|apply blk_drewN|apply blk_drew|apply blk_alloc);exact BK155.out) hb);have n1_:=Aside0.mk (below_step (by repeat (first|(with_reducible first|exact HB.out|apply below_alloc|apply pw_below_drewN|apply below_drew1|refine below_set ?_ GE155.out)|exact HB.out)) hb);have n2_:=Aside0.mk (hbox);have n3_:=Aside0.mk ((by rw [hg];exact (below_size (by repeat (first|(with_reducible first|exact HB.out|apply below_alloc|apply pw_below_drewN|apply below_drew1|refine below_set ?_ GE155.out)|exact HB.out))) : w.heap.size ≤ gb156));have n4_:=Aside0.mk ((by rw [hg];exact (below_size (by repeat (first|(with_reducible first|exact HB.out|apply below_alloc|apply pw_below_drewN|apply below_drew1|refine below_set ?_ GE155.out)|exact HB.out))) : w.heap.size ≤ gb156));have n5_:=Aside0.mk ((by rw [hg];exact Nat.ne_of_lt (blk_lt (g:=gb155) (o:=.cells #[.slice A0_0 l0_0.length c0_0,.int .i64 a0_1,.bool a0_2,.int .i64 a0_3] 39 (0,0)) (by (with_reducible repeat first|apply blk_drewN|apply blk_drew|apply blk_alloc);exact BK155.out)) : gb155 ≠ gb156));have n6_:=Aside0.mk ((by rw [hg];exact Nat.ne_of_gt (blk_lt (g:=gb155) (o:=.cells #[.slice A0_0 l0_0.length c0_0,.int .i64 a0_1,.bool a0_2,.int .i64 a0_3] 39 (0,0)) (by (with_reducible repeat first|apply blk_drewN|apply blk_drew|apply blk_alloc);exact BK155.out)) : gb156 ≠ gb155));clear BK155;clear HB;have BK155:=n0_;have HB:=n1_;have BK156:=n2_;have GW156:=n3_;have GE156:=n4_;have NB155_156:=n5_;have NB156_155:=n6_;clear n0_ n1_ n2_ n3_ n4_ n5_ n6_;clear hb hbox hg;have hnb20:=NB155_156.out;have hnc20:=NB156_155.out;have hcz21_0 : w19.cell? ⟨gb155,0,none⟩ = some (.slice A0_0 l0_0.length c0_0):=(blk_cell BK155.out 0).trans rfl;have hcz21_1 : w19.cell? ⟨gb155,1,none⟩ = some (.int .i64 a0_1):=(blk_cell BK155.out 1).trans rfl;have hcz21_2 : w19.cell? ⟨gb155,2,none⟩ = some (.bool a0_2):=(blk_cell BK155.out 2).trans rfl;have hcz21_3 : w19.cell? ⟨gb155,3,none⟩ = some (.int .i64 a0_3):=(blk_cell BK155.out 3).trans rfl;have hfz21_0:=blk_frozen BK155.out 0;have hfz21_1:=blk_frozen BK155.out 1;have hfz21_2:=blk_frozen BK155.out 2;have hfz21_3:=blk_frozen BK155.out 3;have hcz22_0 : w19.cell? ⟨gb156,0,none⟩ = some (.slice A1_0 l1_0.length c1_0):=(blk_cell BK156.out 0).trans rfl;have hcz22_1 : w19.cell? ⟨gb156,1,none⟩ = some (.int .i64 a1_1):=(blk_cell BK156.out 1).trans rfl;have hcz22_2 : w19.cell? ⟨gb156,2,none⟩ = some (.bool a1_2):=(blk_cell BK156.out 2).trans rfl;have hcz22_3 : w19.cell? ⟨gb156,3,none⟩ = some (.int .i64 a1_3):=(blk_cell BK156.out 3).trans rfl;have hfz22_0:=blk_frozen BK156.out 0;have hfz22_1:=blk_frozen BK156.out 1;have hfz22_2:=blk_frozen BK156.out 2;have hfz22_3:=blk_frozen BK156.out 3)|((with_reducible refine gate_callee (f:=51) rfl ?_);refine goesL_ (some 9) rfl rfl Try.func51 (by kernel_rfl) rfl #[.slice A0_0 l0_0.length c0_0,.slice A1_0 l1_0.length c1_0] rfl (by (try simp only [List.map_toArray,List.map_cons,List.map_nil]);first|done|rfl|(simp only [List.length_drop,List.length_take];rfl)) ?_;(with_reducible refine (laws_eqByteSS.calls k _ _ l0_0 _ _ l1_0 true _ ?side1 ?side2 ?side3 ?side4 A3.out).mono ?_);(case side1=>repeat (first|exact (Kd.C_below HR0_0.out HB.out)|(with_reducible first|apply Kd.C_alloc|apply Kd.C_drewN|apply Kd.C_drew)));(case side2=>exact HC0_0.out);(case side3=>repeat (first|exact (Kd.C_below HR1_0.out HB.out)|(with_reducible first|apply Kd.C_alloc|apply Kd.C_drewN|apply Kd.C_drew)));(case side4=>exact HC1_0.out);rintro e w' ⟨rfl,⟨nd,rfl⟩⟩;refine ⟨_,rfl,?_⟩))
     go_ret
     exact ⟨by first|rfl|(simp [*,errW_none,errW_some] <;> rfl),by repeat (first|(with_reducible first|exact HB.out|apply below_alloc|apply pw_below_drewN|apply below_drew1|refine below_set ?_ GE155.out|refine below_set ?_ GE156.out)|exact HB.out)⟩
  ·rw [if_neg c5] at H
   have c5b0 : (a0_1 == a1_1) = false:=beq_eq_false_iff_ne.mpr c5
   have c5b1 : (a0_1 != a1_1) = true:=bne_iff_ne.mpr c5
   obtain rfl:=Option.some.inj H
   go_enter Try.func23,Try.ntmps23
   go_wp2_with (first|((with_reducible refine gate_dst (N:=2) rfl ?_);refine box_event ?hg (N:=2) ?hd (cs:=#[.slice A0_0 l0_0.length c0_0,.int .i64 a0_1,.bool a0_2,.int .i64 a0_3]) (t:=39) ?hr ?_;(case hd=>rfl);(case hg=>rfl);(case hr=>first|(go_simp;done)|(go_simp;rfl));intro gb155 hg w23 hbox hb;have n0_:=Aside0.mk (below_step (by repeat (first|exact HB.out|apply below_alloc|apply pw_below_drewN|apply below_drew1)) hb);have n1_:=Aside0.mk (hbox);have n2_:=Aside0.mk ((by rw [hg];exact (below_size (by repeat (first|exact HB.out|apply below_alloc|apply pw_below_drewN|apply below_drew1))) : w.heap.size ≤ gb155));have n3_:=Aside0.mk ((by rw [hg];exact (below_size (by repeat (first|exact HB.out|apply below_alloc|apply pw_below_drewN|apply below_drew1))) : w.heap.size ≤ gb155));clear HB;have HB:=n0_;have BK155:=n1_;have GW155:=n2_;have GE155:=n3_;clear n0_ n1_ n2_ n3_;clear hb hbox hg)|((with_reducible refine gate_dst (N:=3) rfl ?_);refine box_event ?hg (N:=3) ?hd (cs:=#[.slice A1_0 l1_0.length c1_0,.int .i64 a1_1,.bool a1_2,.int .i64 a1_3]) (t:=39) ?hr ?_;(case hd=>rfl);(case hg=>rfl);(case hr=>first|(go_simp;done)|(go_simp;rfl));intro gb156 hg w24 hbox hb;have n0_:=Aside0.mk (blk_below (g:=gb155) (o:=.cells #[.slice A0_0 l0_0.length c0_0,.int .i64 a0_1,.bool a0_2,.int .i64 a0_3] 39 (0,0)) (by (with_reducible repeat first|apply blk_drewN|apply blk_drew|apply blk_alloc);exact BK155.out) hb);have n1_:=Aside0.mk (below_step (by repeat (first|(with_reducible first|exact HB.out|apply below_alloc|apply pw_below_drewN|apply below_drew1|refine below_set ?_ GE155.out)|exact HB.out)) hb);have n2_:=Aside0.mk (hbox);have n3_:=Aside0.mk ((by rw [hg];exact (below_size (by repeat (first|(with_reducible first|exact HB.out|apply below_alloc|apply pw_below_drewN|apply below_drew1|refine below_set ?_ GE155.out)|exact HB.out))) : w.heap.size ≤ gb156));have n4_:=Aside0.mk ((by rw [hg];exact (below_size (by repeat (first|(with_reducible first|exact HB.out|apply below_alloc|apply pw_below_drewN|apply below_drew1|refine below_set ?_ GE155.out)|exact HB.out))) : w.heap.size ≤ gb156));have n5_:=Aside0.mk ((by rw [hg];exact Nat.ne_of_lt (blk_lt (g:=gb155) (o:=.cells #[.slice A0_0 l0_0.length c0_0,.int .i64 a0_1,.bool a0_2,.int .i64 a0_3] 39 (0,0)) (by (with_reducible repeat first|apply blk_drewN|apply blk_drew|apply blk_alloc);exact BK155.out)) : gb155 ≠ gb156));have n6_:=Aside0.mk ((by rw [hg];exact Nat.ne_of_gt (blk_lt (g:=gb155) (o:=.cells #[.slice A0_0 l0_0.length c0_0,.int .i64 a0_1,.bool a0_2,.int .i64 a0_3] 39 (0,0)) (by (with_reducible repeat first|apply blk_drewN|apply blk_drew|apply blk_alloc);exact BK155.out)) : gb156 ≠ gb155));clear BK155;clear HB;have BK155:=n0_;have HB:=n1_;have BK156:=n2_;have GW156:=n3_;have GE156:=n4_;have NB155_156:=n5_;have NB156_155:=n6_;clear n0_ n1_ n2_ n3_ n4_ n5_ n6_;clear hb hbox hg;have hnb25:=NB155_156.out;have hnc25:=NB156_155.out;have hcz26_0 : w24.cell? ⟨gb155,0,none⟩ = some (.slice A0_0 l0_0.length c0_0):=(blk_cell BK155.out 0).trans rfl;have hcz26_1 : w24.cell? ⟨gb155,1,none⟩ = some (.int .i64 a0_1):=(blk_cell BK155.out 1).trans rfl;have hcz26_2 : w24.cell? ⟨gb155,2,none⟩ = some (.bool a0_2):=(blk_cell BK155.out 2).trans rfl;have hcz26_3 : w24.cell? ⟨gb155,3,none⟩ = some (.int .i64 a0_3):=(blk_cell BK155.out 3).trans rfl;have hfz26_0:=blk_frozen BK155.out 0;have hfz26_1:=blk_frozen BK155.out 1;have hfz26_2:=blk_frozen BK155.out 2;have hfz26_3:=blk_frozen BK155.out 3;have hcz27_0 : w24.cell? ⟨gb156,0,none⟩ = some (.slice A1_0 l1_0.length c1_0):=(blk_cell BK156.out 0).trans rfl;have hcz27_1 : w24.cell? ⟨gb156,1,none⟩ = some (.int .i64 a1_1):=(blk_cell BK156.out 1).trans rfl;have hcz27_2 : w24.cell? ⟨gb156,2,none⟩ = some (.bool a1_2):=(blk_cell BK156.out 2).trans rfl;have hcz27_3 : w24.cell? ⟨gb156,3,none⟩ = some (.int .i64 a1_3):=(blk_cell BK156.out 3).trans rfl;have hfz27_0:=blk_frozen BK156.out 0;have hfz27_1:=blk_frozen BK156.out 1;have hfz27_2:=blk_frozen BK156.out 2;have hfz27_3:=blk_frozen BK156.out 3)|((with_reducible refine gate_callee (f:=51) rfl ?_);refine goesL_ (some 9) rfl rfl Try.func51 (by kernel_rfl) rfl #[.slice A0_0 l0_0.length c0_0,.slice A1_0 l1_0.length c1_0] rfl (by (try simp only [List.map_toArray,List.map_cons,List.map_nil]);first|done|rfl|(simp only [List.length_drop,List.length_take];rfl)) ?_;(with_reducible refine (laws_eqByteSS.calls k _ _ l0_0 _ _ l1_0 true _ ?side1 ?side2 ?side3 ?side4 A3.out).mono ?_);(case side1=>repeat (first|exact (Kd.C_below HR0_0.out HB.out)|(with_reducible first|apply Kd.C_alloc|apply Kd.C_drewN|apply Kd.C_drew)));(case side2=>exact HC0_0.out);(case side3=>repeat (first|exact (Kd.C_below HR1_0.out HB.out)|(with_reducible first|apply Kd.C_alloc|apply Kd.C_drewN|apply Kd.C_drew)));(case side4=>exact HC1_0.out);rintro e w' ⟨rfl,⟨nd,rfl⟩⟩;refine ⟨_,rfl,?_⟩))
   go_ret
   exact ⟨by first|rfl|(simp [*,errW_none,errW_some] <;> rfl),by repeat (first|(with_reducible first|exact HB.out|apply below_alloc|apply pw_below_drewN|apply below_drew1|refine below_set ?_ GE155.out|refine below_set ?_ GE156.out)|exact HB.out)⟩
 ·replace c4:=Bool.eq_false_iff.mpr c4
  subst c4
  have H1 : (some false) = some r:=by rw [if_neg (show ¬ (false = true) by decide)] at H;exact H
  clear H
  have H:=H1
  clear H1
  obtain rfl:=Option.some.inj H
  go_enter Try.func23,Try.ntmps23
  go_wp2_with (first|((with_reducible refine gate_dst (N:=2) rfl ?_);refine box_event ?hg (N:=2) ?hd (cs:=#[.slice A0_0 l0_0.length c0_0,.int .i64 a0_1,.bool a0_2,.int .i64 a0_3]) (t:=39) ?hr ?_;(case hd=>rfl);(case hg=>rfl);(case hr=>first|(go_simp;done)|(go_simp;rfl));intro gb155 hg w28 hbox hb;have n0_:=Aside0.mk (below_step (by repeat (first|exact HB.out|apply below_alloc|apply pw_below_drewN|apply below_drew1)) hb);have n1_:=Aside0.mk (hbox);have n2_:=Aside0.mk ((by rw [hg];exact (below_size (by repeat (first|exact HB.out|apply below_alloc|apply pw_below_drewN|apply below_drew1))) : w.heap.size ≤ gb155));have n3_:=Aside0.mk ((by rw [hg];exact (below_size (by repeat (first|exact HB.out|apply below_alloc|apply pw_below_drewN|apply below_drew1))) : w.heap.size ≤ gb155));clear HB;have HB:=n0_;have BK155:=n1_;have GW155:=n2_;have GE155:=n3_;clear n0_ n1_ n2_ n3_;clear hb hbox hg)|((with_reducible refine gate_dst (N:=3) rfl ?_);refine box_event ?hg (N:=3) ?hd (cs:=#[.slice A1_0 l1_0.length c1_0,.int .i64 a1_1,.bool a1_2,.int .i64 a1_3]) (t:=39) ?hr ?_;(case hd=>rfl);(case hg=>rfl);(case hr=>first|(go_simp;done)|(go_simp;rfl));intro gb156 hg w29 hbox hb;have n0_:=Aside0.mk (blk_below (g:=gb155) (o:=.cells #[.slice A0_0 l0_0.length c0_0,.int .i64 a0_1,.bool a0_2,.int .i64 a0_3] 39 (0,0)) (by (with_reducible repeat first|apply blk_drewN|apply blk_drew|apply blk_alloc);exact BK155.out) hb);have n1_:=Aside0.mk (below_step (by repeat (first|(with_reducible first|exact HB.out|apply below_alloc|apply pw_below_drewN|apply below_drew1|refine below_set ?_ GE155.out)|exact HB.out)) hb);have n2_:=Aside0.mk (hbox);have n3_:=Aside0.mk ((by rw [hg];exact (below_size (by repeat (first|(with_reducible first|exact HB.out|apply below_alloc|apply pw_below_drewN|apply below_drew1|refine below_set ?_ GE155.out)|exact HB.out))) : w.heap.size ≤ gb156));have n4_:=Aside0.mk ((by rw [hg];exact (below_size (by repeat (first|(with_reducible first|exact HB.out|apply below_alloc|apply pw_below_drewN|apply below_drew1|refine below_set ?_ GE155.out)|exact HB.out))) : w.heap.size ≤ gb156));have n5_:=Aside0.mk ((by rw [hg];exact Nat.ne_of_lt (blk_lt (g:=gb155) (o:=.cells #[.slice A0_0 l0_0.length c0_0,.int .i64 a0_1,.bool a0_2,.int .i64 a0_3] 39 (0,0)) (by (with_reducible repeat first|apply blk_drewN|apply blk_drew|apply blk_alloc);exact BK155.out)) : gb155 ≠ gb156));have n6_:=Aside0.mk ((by rw [hg];exact Nat.ne_of_gt (blk_lt (g:=gb155) (o:=.cells #[.slice A0_0 l0_0.length c0_0,.int .i64 a0_1,.bool a0_2,.int .i64 a0_3] 39 (0,0)) (by (with_reducible repeat first|apply blk_drewN|apply blk_drew|apply blk_alloc);exact BK155.out)) : gb156 ≠ gb155));clear BK155;clear HB;have BK155:=n0_;have HB:=n1_;have BK156:=n2_;have GW156:=n3_;have GE156:=n4_;have NB155_156:=n5_;have NB156_155:=n6_;clear n0_ n1_ n2_ n3_ n4_ n5_ n6_;clear hb hbox hg;have hnb30:=NB155_156.out;have hnc30:=NB156_155.out;have hcz31_0 : w29.cell? ⟨gb155,0,none⟩ = some (.slice A0_0 l0_0.length c0_0):=(blk_cell BK155.out 0).trans rfl;have hcz31_1 : w29.cell? ⟨gb155,1,none⟩ = some (.int .i64 a0_1):=(blk_cell BK155.out 1).trans rfl;have hcz31_2 : w29.cell? ⟨gb155,2,none⟩ = some (.bool a0_2):=(blk_cell BK155.out 2).trans rfl;have hcz31_3 : w29.cell? ⟨gb155,3,none⟩ = some (.int .i64 a0_3):=(blk_cell BK155.out 3).trans rfl;have hfz31_0:=blk_frozen BK155.out 0;have hfz31_1:=blk_frozen BK155.out 1;have hfz31_2:=blk_frozen BK155.out 2;have hfz31_3:=blk_frozen BK155.out 3;have hcz32_0 : w29.cell? ⟨gb156,0,none⟩ = some (.slice A1_0 l1_0.length c1_0):=(blk_cell BK156.out 0).trans rfl;have hcz32_1 : w29.cell? ⟨gb156,1,none⟩ = some (.int .i64 a1_1):=(blk_cell BK156.out 1).trans rfl;have hcz32_2 : w29.cell? ⟨gb156,2,none⟩ = some (.bool a1_2):=(blk_cell BK156.out 2).trans rfl;have hcz32_3 : w29.cell? ⟨gb156,3,none⟩ = some (.int .i64 a1_3):=(blk_cell BK156.out 3).trans rfl;have hfz32_0:=blk_frozen BK156.out 0;have hfz32_1:=blk_frozen BK156.out 1;have hfz32_2:=blk_frozen BK156.out 2;have hfz32_3:=blk_frozen BK156.out 3)|((with_reducible refine gate_callee (f:=51) rfl ?_);refine goesL_ (some 9) rfl rfl Try.func51 (by kernel_rfl) rfl #[.slice A0_0 l0_0.length c0_0,.slice A1_0 l1_0.length c1_0] rfl (by (try simp only [List.map_toArray,List.map_cons,List.map_nil]);first|done|rfl|(simp only [List.length_drop,List.length_take];rfl)) ?_;(with_reducible refine (laws_eqByteSS.calls k _ _ l0_0 _ _ l1_0 false _ ?side1 ?side2 ?side3 ?side4 A3.out).mono ?_);(case side1=>repeat (first|exact (Kd.C_below HR0_0.out HB.out)|(with_reducible first|apply Kd.C_alloc|apply Kd.C_drewN|apply Kd.C_drew)));(case side2=>exact HC0_0.out);(case side3=>repeat (first|exact (Kd.C_below HR1_0.out HB.out)|(with_reducible first|apply Kd.C_alloc|apply Kd.C_drewN|apply Kd.C_drew)));(case side4=>exact HC1_0.out);rintro e w' ⟨rfl,⟨nd,rfl⟩⟩;refine ⟨_,rfl,?_⟩))
  go_ret
  exact ⟨by first|rfl|(simp [*,errW_none,errW_some] <;> rfl),by repeat (first|(with_reducible first|exact HB.out|apply below_alloc|apply pw_below_drewN|apply below_drew1|refine below_set ?_ GE155.out|refine below_set ?_ GE156.out)|exact HB.out)⟩

/-! ### spec_l1In: function 68 -/
def spec_l1In.f (a0 : Int) (a1 : Int) (a2 : Int) : Option (Bool):=if a0 ≥ a1 then (some (decide (a0 ≤ a2))) else (some false)
set_option maxHeartbeats 8000000 in
set_option maxRecDepth 100000 in
theorem spec_l1In.calls (a0 : Int) (a1 : Int) (a2 : Int) (r : Bool) (w : World) (h : spec_l1In.f a0 a1 a2 = some r) :
  Calls Try.prog 68 #[.int .i64 a0,.int .i64 a1,.int .i64 a2] w fun e w'=>e = .returned (.bool r)∧Drawn0 w w':=by
 have H : (if a0 ≥ a1 then (some (decide (a0 ≤ a2))) else (some false)) = some r:=h
 clear h
 by_cases c4 : a0 ≥ a1
 ·rw [if_pos c4] at H
  have c4b0 : decide (a1 ≤ a0) = true:=decide_eq_true c4
  clear c4
  obtain rfl:=Option.some.inj H
  go_enter Try.func68,Try.ntmps68
  go_wp2
  go_ret
  exact ⟨by first|rfl|(simp;done)|(simp [*];done),by repeat (first|exact Drawn0.refl _|apply Drawn0.step)⟩
 ·rw [if_neg c4] at H
  have c4b0 : decide (a1 ≤ a0) = false:=decide_eq_false c4
  clear c4
  obtain rfl:=Option.some.inj H
  go_enter Try.func68,Try.ntmps68
  go_wp2
  go_ret
  exact ⟨by first|rfl|(simp;done)|(simp [*];done),by repeat (first|exact Drawn0.refl _|apply Drawn0.step)⟩

/-! ### spec_l4At: function 69 -/
def spec_l4At.f (a0 : Int) (a1 : Int) : Option (Bool):=if a0 = 0 then (some true) else (if a0 = 1 then (some true) else ((spec_l1In.f a0 33 (wrap64 (a1 - 1))).bind fun t158=>(some t158)))
set_option maxHeartbeats 8000000 in
set_option maxRecDepth 100000 in
theorem spec_l4At.calls (a0 : Int) (a1 : Int) (r : Bool) (w : World) (h : spec_l4At.f a0 a1 = some r) :
  Calls Try.prog 69 #[.int .i64 a0,.int .i64 a1] w fun e w'=>e = .returned (.bool r)∧Drawn0 w w':=by
 have H : (if a0 = 0 then (some true) else (if a0 = 1 then (some true) else ((spec_l1In.f a0 33 (wrap64 (a1 - 1))).bind fun t158=>(some t158)))) = some r:=h
 clear h
 by_cases c3 : a0 = 0
 ·rw [if_pos c3] at H
  have c3b0 : (a0 == 0) = true:=beq_iff_eq.mpr c3
  have c3b1 : (a0 != 0) = false:=bne_eq_false_iff_eq.mpr c3
  clear c3
  obtain rfl:=Option.some.inj H
  go_enter Try.func69,Try.ntmps69
  go_wp2
  go_ret
  exact ⟨by first|rfl|(simp;done)|(simp [*];done),by repeat (first|exact Drawn0.refl _|apply Drawn0.step)⟩
 ·rw [if_neg c3] at H
  have c3b0 : (a0 == 0) = false:=beq_eq_false_iff_ne.mpr c3
  have c3b1 : (a0 != 0) = true:=bne_iff_ne.mpr c3
  by_cases c4 : a0 = 1
  ·rw [if_pos c4] at H
   have c4b0 : (a0 == 1) = true:=beq_iff_eq.mpr c4
   have c4b1 : (a0 != 1) = false:=bne_eq_false_iff_eq.mpr c4
   clear c4
   obtain rfl:=Option.some.inj H
   go_enter Try.func69,Try.ntmps69
   go_wp2
   go_ret
   exact ⟨by first|rfl|(simp;done)|(simp [*];done),by repeat (first|exact Drawn0.refl _|apply Drawn0.step)⟩
  ·rw [if_neg c4] at H
   have c4b0 : (a0 == 1) = false:=beq_eq_false_iff_ne.mpr c4
   have c4b1 : (a0 != 1) = true:=bne_iff_ne.mpr c4
   replace H:=Option.bind_eq_some_iff.mp H
   obtain ⟨t158,A50,H⟩:=H
   replace H : (some t158) = some r:=H
   have A5:=Aside0.mk A50
   clear A50
   obtain rfl:=Option.some.inj H
   go_enter Try.func69,Try.ntmps69
   go_wp2_with (first|(go_at_call 68;(with_reducible refine (spec_l1In.calls a0 33 (wrap64 (a1 - 1)) t158 _ A5.out).mono ?_);rintro e w' ⟨rfl,⟨nd,rfl⟩⟩))
   go_ret
   exact ⟨by first|rfl|(simp;done)|(simp [*];done),by repeat (first|exact Drawn0.refl _|apply Drawn0.step)⟩

/-! ### spec_l4Group: function 40 -/
def spec_l4Group.l0 : Nat → List (S59) → Int → List (S59) → Int → Int → Option (Bool)
 | 0,_,_,_,_,_=>none
 | k + 1,x0,x1,x11,x12,x13=>if x13 < x12 then (if 0 ≤ x13 then (if x13 < (x11.length : Int) then ((spec_l4At.f ((rd_T59 x11 x13).f0) x1).bind fun t162=>(if t162 = true then (if (((rd_T59 x11 x13).f1).length : Int) = 128 then (if x13 > 0 then (if 0 ≤ (wrap64 (x13 - 1)) then (if (wrap64 (x13 - 1)) < (x0.length : Int) then (if ((rd_T59 x0 (wrap64 (x13 - 1))).f0) ≥ ((rd_T59 x11 x13).f0) then (some false) else (spec_l4Group.l0 k x0 x1 x11 x12 (wrap64 (x13 + 1)))) else (none)) else (none)) else (spec_l4Group.l0 k x0 x1 x11 x12 (wrap64 (x13 + 1)))) else (some false)) else (some false))) else (none)) else (none)) else (some true)
def spec_l4Group.f (k : Nat) (l0 : List (S59)) (a1 : Int) : Option (Bool):=(spec_l1In.f (l0.length : Int) 1 30).bind fun t159=>(if t159 = true then (spec_l4Group.l0 k l0 a1 l0 (l0.length : Int) 0) else (some false))
theorem spec_l4Group.mono_l : ∀ k,(∀ y0 y1 y2 y3 y4,LeO (spec_l4Group.l0 k y0 y1 y2 y3 y4) (spec_l4Group.l0 (k + 1) y0 y1 y2 y3 y4))
 | 0=>fun _ _ _ _ _ r h=>by simp [spec_l4Group.l0] at h
 | k + 1=>by
  have ih0:=spec_l4Group.mono_l k
  ·intro y0 y1 y2 y3 y4
   unfold spec_l4Group.l0
   repeat' first
   | (with_reducible exact ih0 _ _ _ _ _)
   | (with_reducible exact LeO.refl _)
   | (with_reducible exact LeO.none _)
   | (with_reducible refine LeO.ite ?_ ?_)
   | (with_reducible refine LeO.bind ?_ (fun _=>?_))
   | exact ih0 _ _ _ _ _
   | exact LeO.none _
   | refine LeO.ite ?_ ?_
   | refine LeO.bind ?_ (fun _=>?_)
theorem spec_l4Group.mono : ∀ a0 a1 k,LeO (spec_l4Group.f k a0 a1) (spec_l4Group.f (k + 1) a0 a1):=by
 intro a0 a1 k
 have ih0:=spec_l4Group.mono_l k
 unfold spec_l4Group.f
 repeat' first
   | (with_reducible exact ih0 _ _ _ _ _)
   | (with_reducible exact LeO.refl _)
   | (with_reducible exact LeO.none _)
   | (with_reducible refine LeO.ite ?_ ?_)
   | (with_reducible refine LeO.bind ?_ (fun _=>?_))
   | exact ih0 _ _ _ _ _
   | exact LeO.none _
   | refine LeO.ite ?_ ?_
   | refine LeO.bind ?_ (fun _=>?_)
set_option maxHeartbeats 8000000 in
set_option maxRecDepth 100000 in
theorem spec_l4Group.calls (k : Nat) (A0 : Option Addr) (c0 : Nat) (l0 : List (S59)) (a1 : Int) (r : Bool) (w : World) (hr0 : Kd.C k59 w A0 l0.length l0) (hc0 : l0.length ≤ c0) (h : spec_l4Group.f k l0 a1 = some r) :
  Calls Try.prog 40 #[.slice A0 l0.length c0,.int .i64 a1] w fun e w'=>e = .returned (.bool r)∧Below w.heap.size w w':=by
 have hu59:=Try.underlying59
 have HR0:=Aside0.mk hr0
 have HC0:=Aside0.mk hc0
 clear hr0 hc0
 have HB:=Aside0.mk (Below.refl w.heap.size w)
 have H : ((spec_l1In.f (l0.length : Int) 1 30).bind fun t159=>(if t159 = true then (spec_l4Group.l0 k l0 a1 l0 (l0.length : Int) 0) else (some false))) = some r:=h
 clear h
 replace H:=Option.bind_eq_some_iff.mp H
 obtain ⟨t159,A30,H⟩:=H
 replace H : (if t159 = true then (spec_l4Group.l0 k l0 a1 l0 (l0.length : Int) 0) else (some false)) = some r:=H
 have A3:=Aside0.mk A30
 clear A30
 by_cases c4 : t159 = true
 ·subst c4
  have H1 : (spec_l4Group.l0 k l0 a1 l0 (l0.length : Int) 0) = some r:=by rw [if_pos rfl] at H;exact H
  clear H
  have H:=H1
  clear H1
  have H':=Aside0.mk H
  clear H
  go_enter Try.func40,Try.ntmps40
  go_wp2_with (first|(go_at_call 68;(with_reducible refine (spec_l1In.calls (l0.length : Int) 1 30 true _ A3.out).mono ?_);rintro e w' ⟨rfl,⟨nd,rfl⟩⟩;(try first|exact ⟨rfl,_,World.drewN_drewN _ _ _⟩|exact ⟨rfl,_,Eq.trans (World.drewN_drewN _ _ _) (congrArg (World.drewN _) (Nat.add_assoc _ _ _))⟩)))
  repeat (go_quiet (first|(go_at_call 68;(with_reducible refine (spec_l1In.calls (l0.length : Int) 1 30 true _ A3.out).mono ?_);rintro e w' ⟨rfl,⟨nd,rfl⟩⟩;(try first|exact ⟨rfl,_,World.drewN_drewN _ _ _⟩|exact ⟨rfl,_,Eq.trans (World.drewN_drewN _ _ _) (congrArg (World.drewN _) (Nat.add_assoc _ _ _))⟩)));try go_wp2_with (first|(go_at_call 68;(with_reducible refine (spec_l1In.calls (l0.length : Int) 1 30 true _ A3.out).mono ?_);rintro e w' ⟨rfl,⟨nd,rfl⟩⟩;(try first|exact ⟨rfl,_,World.drewN_drewN _ _ _⟩|exact ⟨rfl,_,Eq.trans (World.drewN_drewN _ _ _) (congrArg (World.drewN _) (Nat.add_assoc _ _ _))⟩))))
  go_loopg [13] k (fun kq v13 w'=>∃ (x13_1 : Int),v13 = .int .i64 x13_1∧Aside0 (spec_l4Group.l0 kq l0 a1 l0 (l0.length : Int) x13_1 = some r)∧Aside0 (kq ≤ k)∧Aside0 (Below w.heap.size w w'))
  case atStart=>exact ⟨(0),(by first|rfl|(simp;done)|(simp [*];done)),H',⟨Nat.le_refl _⟩,⟨by repeat (first|exact HB.out|apply below_alloc|apply pw_below_drewN|apply below_drew1)⟩⟩
  case round =>
   clear H'
   try clear p2;try clear c4
   obtain ⟨x13_1,rfl,HA,HK1,HB⟩:=hrel
   cases gk with
   | zero=>exact absurd HA.out (by simp [spec_l4Group.l0])
   | succ k1 =>
    have H:=HA.out
    clear HA
    simp only [spec_l4Group.l0] at H
    by_cases c5 : x13_1 < (l0.length : Int)
    ·rw [if_pos c5] at H
     have c5b0 : decide (x13_1 < (l0.length : Int)) = true:=decide_eq_true c5
     clear c5
     by_cases c6 : 0 ≤ x13_1
     ·rw [if_pos c6] at H
      have c6b0 : decide (0 ≤ x13_1) = true:=decide_eq_true c6
      clear c6
      by_cases c7 : x13_1 < (l0.length : Int)
      ·rw [if_pos c7] at H
       have c7b0 : decide (x13_1 < (l0.length : Int)) = true:=decide_eq_true c7
       clear c7
       replace H:=Option.bind_eq_some_iff.mp H
       obtain ⟨t162,A80,H⟩:=H
       replace H : (if t162 = true then (if (((rd_T59 l0 x13_1).f1).length : Int) = 128 then (if x13_1 > 0 then (if 0 ≤ (wrap64 (x13_1 - 1)) then (if (wrap64 (x13_1 - 1)) < (l0.length : Int) then (if ((rd_T59 l0 (wrap64 (x13_1 - 1))).f0) ≥ ((rd_T59 l0 x13_1).f0) then (some false) else (spec_l4Group.l0 k1 l0 a1 l0 (l0.length : Int) (wrap64 (x13_1 + 1)))) else (none)) else (none)) else (spec_l4Group.l0 k1 l0 a1 l0 (l0.length : Int) (wrap64 (x13_1 + 1)))) else (some false)) else (some false)) = some r:=H
       have A8:=Aside0.mk A80
       clear A80
       by_cases c9 : t162 = true
       ·subst c9
        have H1 : (if (((rd_T59 l0 x13_1).f1).length : Int) = 128 then (if x13_1 > 0 then (if 0 ≤ (wrap64 (x13_1 - 1)) then (if (wrap64 (x13_1 - 1)) < (l0.length : Int) then (if ((rd_T59 l0 (wrap64 (x13_1 - 1))).f0) ≥ ((rd_T59 l0 x13_1).f0) then (some false) else (spec_l4Group.l0 k1 l0 a1 l0 (l0.length : Int) (wrap64 (x13_1 + 1)))) else (none)) else (none)) else (spec_l4Group.l0 k1 l0 a1 l0 (l0.length : Int) (wrap64 (x13_1 + 1)))) else (some false)) = some r:=by rw [if_pos rfl] at H;exact H
        clear H
        have H:=H1
        clear H1
        by_cases c10 : (((rd_T59 l0 x13_1).f1).length : Int) = 128
        ·rw [if_pos c10] at H
         have c10b0 : ((((rd_T59 l0 x13_1).f1).length : Int) == 128) = true:=beq_iff_eq.mpr c10
         have c10b1 : ((((rd_T59 l0 x13_1).f1).length : Int) != 128) = false:=bne_eq_false_iff_eq.mpr c10
         clear c10
         by_cases c11 : x13_1 > 0
         ·rw [if_pos c11] at H
          have c11b0 : decide (0 < x13_1) = true:=decide_eq_true c11
          clear c11
          obtain ⟨ji12,hji12⟩ : ∃ j_ : Int,(wrap64 (x13_1 - 1)) = j_:=⟨_,rfl⟩
          replace H : (if 0 ≤ (ji12) then (if (ji12) < (l0.length : Int) then (if ((rd_T59 l0 (ji12)).f0) ≥ ((rd_T59 l0 x13_1).f0) then (some false) else (spec_l4Group.l0 k1 l0 a1 l0 (l0.length : Int) (wrap64 (x13_1 + 1)))) else (none)) else (none)) = some r:=by first|(rw [hji12] at H;exact H)|(simp only [hji12] at H ⊢;exact H)
          (try rw [hji12] at A8)
          have hji12w : (IntKind.i64.wrap (x13_1 - 1)) = ji12:=(i64_w _).trans hji12
          by_cases c13 : 0 ≤ (ji12)
          ·rw [if_pos c13] at H
           have c13b0 : decide (0 ≤ (ji12)) = true:=decide_eq_true c13
           clear c13
           by_cases c14 : (ji12) < (l0.length : Int)
           ·rw [if_pos c14] at H
            have c14b0 : decide ((ji12) < (l0.length : Int)) = true:=decide_eq_true c14
            clear c14
            by_cases c15 : ((rd_T59 l0 (ji12)).f0) ≥ ((rd_T59 l0 x13_1).f0)
            ·rw [if_pos c15] at H
             have c15b0 : decide (((rd_T59 l0 x13_1).f0) ≤ ((rd_T59 l0 (ji12)).f0)) = true:=decide_eq_true c15
             clear c15
             obtain rfl:=Option.some.inj H
             have p160 : 0 ≤ (x13_1 : Int):=of_decide_eq_true (by assumption)
             have q160 : x13_1 < (l0.length : Int):=of_decide_eq_true (by assumption)
             obtain ⟨ad160,A160_1,c160_1,e160,hx160_0,hx160_1,hl160_1,hi160_1⟩:=at_T59 HR0.out x13_1 p160 q160
             cases e160
             (try replace hx160_0:=(HB.out.cell (World.block_lt_of_cell? w _ hx160_0)).trans hx160_0)
             (try replace hx160_1:=(HB.out.cell (World.block_lt_of_cell? w _ hx160_1)).trans hx160_1)
             have HR160_1:=Aside0.mk hi160_1
             have HC160_1:=Aside0.mk hl160_1
             clear hi160_1 hl160_1
             replace p160:=eq_true p160
             replace q160:=eq_true q160
             go_wp2_with (first|((with_reducible refine gate_dst (N:=6) rfl ?_);(try (refine gate_guard (by rfl) ?_;dsimp only));refine box_event ?hg (N:=6) ?hd (cs:=#[.int .i64 0,.slice none 0 0]) (t:=59) ?hr ?_;(case hd=>rfl);(case hg=>rfl);(case hr=>first|(go_simp;done)|(go_simp;rfl));intro gb161 hg w16 hbox hb;have n0_:=Aside0.mk (below_step (by repeat (first|exact HB.out|apply below_alloc|apply pw_below_drewN|apply below_drew1)) hb);have n1_:=Aside0.mk (hbox);have n2_:=Aside0.mk ((by rw [hg];exact (below_size (by repeat (first|exact HB.out|apply below_alloc|apply pw_below_drewN|apply below_drew1))) : w.heap.size ≤ gb161));have n3_:=Aside0.mk ((by rw [hg];exact (below_size (by repeat (first|exact HB.out|apply below_alloc|apply pw_below_drewN|apply below_drew1))) : w.heap.size ≤ gb161));clear HB;have HB:=n0_;have BK161:=n1_;have GW161:=n2_;have GE161:=n3_;clear n0_ n1_ n2_ n3_;clear hb hbox hg;have hcz17_0 : w16.cell? ⟨gb161,0,none⟩ = some (.int .i64 0):=(blk_cell BK161.out 0).trans rfl;have hcz17_1 : w16.cell? ⟨gb161,1,none⟩ = some (.slice none 0 0):=(blk_cell BK161.out 1).trans rfl;have hfz17_0:=blk_frozen BK161.out 0;have hfz17_1:=blk_frozen BK161.out 1)|(go_at_call 69;(with_reducible refine (spec_l4At.calls ((rd_T59 l0 x13_1).f0) a1 true _ A8.out).mono ?_);rintro e w' ⟨rfl,⟨nd,rfl⟩⟩;(try first|exact ⟨rfl,_,World.drewN_drewN _ _ _⟩|exact ⟨rfl,_,Eq.trans (World.drewN_drewN _ _ _) (congrArg (World.drewN _) (Nat.add_assoc _ _ _))⟩);have p163 : 0 ≤ ((ji12) : Int):=of_decide_eq_true (by assumption);have q163 : (ji12) < (l0.length : Int):=of_decide_eq_true (by assumption);obtain ⟨ad163,A163_1,c163_1,e163,hx163_0,hx163_1,hl163_1,hi163_1⟩:=at_T59 HR0.out (ji12) p163 q163;obtain rfl : ad160 = ad163:=(by injection e163);have hn163_0 : ad160.block ≠ gb161:=Nat.ne_of_lt (Nat.lt_of_lt_of_le (by have:=World.block_lt_of_cell? _ _ hx163_0;first|rwa [add_block] at this|exact this) GW161.out);have hn163_1 : ad160.block ≠ gb161:=Nat.ne_of_lt (Nat.lt_of_lt_of_le (by have:=World.block_lt_of_cell? _ _ hx163_0;first|rwa [add_block] at this|exact this) GW161.out);(try replace hx163_0:=(HB.out.cell (World.block_lt_of_cell? w _ hx163_0)).trans hx163_0);(try replace hx163_1:=(HB.out.cell (World.block_lt_of_cell? w _ hx163_1)).trans hx163_1);have HR163_1:=Aside0.mk hi163_1;have HC163_1:=Aside0.mk hl163_1;clear hi163_1 hl163_1;replace hx163_0:=(cell_far (p:=⟨gb161,0,none⟩) (by first|(rw [add_block];exact hn163_0)|(show (Addr.add _ _).block ≠ _;rw [add_block];exact hn163_0)|exact hn163_0) (.int .i64 ((rd_T59 l0 x13_1).f0))).trans hx163_0;replace hx163_1:=(cell_far (p:=⟨gb161,0,none⟩) (by first|(rw [add_block];exact hn163_0)|(show (Addr.add _ _).block ≠ _;rw [add_block];exact hn163_0)|exact hn163_0) (.int .i64 ((rd_T59 l0 x13_1).f0))).trans hx163_1;replace hx163_0:=(cell_far (p:=⟨gb161,1,none⟩) (by first|(rw [add_block];exact hn163_1)|(show (Addr.add _ _).block ≠ _;rw [add_block];exact hn163_1)|exact hn163_1) (.slice A160_1 ((rd_T59 l0 x13_1).f1).length c160_1)).trans hx163_0;replace hx163_1:=(cell_far (p:=⟨gb161,1,none⟩) (by first|(rw [add_block];exact hn163_1)|(show (Addr.add _ _).block ≠ _;rw [add_block];exact hn163_1)|exact hn163_1) (.slice A160_1 ((rd_T59 l0 x13_1).f1).length c160_1)).trans hx163_1;(try have hy163_0:=fun (n_ : Nat)=>(show ((((w16.drewN n_).setCell ⟨gb161,0,none⟩ (.int .i64 ((rd_T59 l0 x13_1).f0))).setCell ⟨gb161,1,none⟩ (.slice A160_1 ((rd_T59 l0 x13_1).f1).length c160_1))).cell? _ = some _ from hx163_0));(try have hy163_1:=fun (n_ : Nat)=>(show ((((w16.drewN n_).setCell ⟨gb161,0,none⟩ (.int .i64 ((rd_T59 l0 x13_1).f0))).setCell ⟨gb161,1,none⟩ (.slice A160_1 ((rd_T59 l0 x13_1).f1).length c160_1))).cell? _ = some _ from hx163_1));clear hn163_0;clear hn163_1;replace p163:=eq_true p163;replace q163:=eq_true q163))
             repeat (go_quiet (first|((with_reducible refine gate_dst (N:=6) rfl ?_);(try (refine gate_guard (by rfl) ?_;dsimp only));refine box_event ?hg (N:=6) ?hd (cs:=#[.int .i64 0,.slice none 0 0]) (t:=59) ?hr ?_;(case hd=>rfl);(case hg=>rfl);(case hr=>first|(go_simp;done)|(go_simp;rfl));intro gb161 hg w16 hbox hb;have n0_:=Aside0.mk (below_step (by repeat (first|exact HB.out|apply below_alloc|apply pw_below_drewN|apply below_drew1)) hb);have n1_:=Aside0.mk (hbox);have n2_:=Aside0.mk ((by rw [hg];exact (below_size (by repeat (first|exact HB.out|apply below_alloc|apply pw_below_drewN|apply below_drew1))) : w.heap.size ≤ gb161));have n3_:=Aside0.mk ((by rw [hg];exact (below_size (by repeat (first|exact HB.out|apply below_alloc|apply pw_below_drewN|apply below_drew1))) : w.heap.size ≤ gb161));clear HB;have HB:=n0_;have BK161:=n1_;have GW161:=n2_;have GE161:=n3_;clear n0_ n1_ n2_ n3_;clear hb hbox hg;have hcz17_0 : w16.cell? ⟨gb161,0,none⟩ = some (.int .i64 0):=(blk_cell BK161.out 0).trans rfl;have hcz17_1 : w16.cell? ⟨gb161,1,none⟩ = some (.slice none 0 0):=(blk_cell BK161.out 1).trans rfl;have hfz17_0:=blk_frozen BK161.out 0;have hfz17_1:=blk_frozen BK161.out 1)|(go_at_call 69;(with_reducible refine (spec_l4At.calls ((rd_T59 l0 x13_1).f0) a1 true _ A8.out).mono ?_);rintro e w' ⟨rfl,⟨nd,rfl⟩⟩;(try first|exact ⟨rfl,_,World.drewN_drewN _ _ _⟩|exact ⟨rfl,_,Eq.trans (World.drewN_drewN _ _ _) (congrArg (World.drewN _) (Nat.add_assoc _ _ _))⟩);have p163 : 0 ≤ ((ji12) : Int):=of_decide_eq_true (by assumption);have q163 : (ji12) < (l0.length : Int):=of_decide_eq_true (by assumption);obtain ⟨ad163,A163_1,c163_1,e163,hx163_0,hx163_1,hl163_1,hi163_1⟩:=at_T59 HR0.out (ji12) p163 q163;obtain rfl : ad160 = ad163:=(by injection e163);have hn163_0 : ad160.block ≠ gb161:=Nat.ne_of_lt (Nat.lt_of_lt_of_le (by have:=World.block_lt_of_cell? _ _ hx163_0;first|rwa [add_block] at this|exact this) GW161.out);have hn163_1 : ad160.block ≠ gb161:=Nat.ne_of_lt (Nat.lt_of_lt_of_le (by have:=World.block_lt_of_cell? _ _ hx163_0;first|rwa [add_block] at this|exact this) GW161.out);(try replace hx163_0:=(HB.out.cell (World.block_lt_of_cell? w _ hx163_0)).trans hx163_0);(try replace hx163_1:=(HB.out.cell (World.block_lt_of_cell? w _ hx163_1)).trans hx163_1);have HR163_1:=Aside0.mk hi163_1;have HC163_1:=Aside0.mk hl163_1;clear hi163_1 hl163_1;replace hx163_0:=(cell_far (p:=⟨gb161,0,none⟩) (by first|(rw [add_block];exact hn163_0)|(show (Addr.add _ _).block ≠ _;rw [add_block];exact hn163_0)|exact hn163_0) (.int .i64 ((rd_T59 l0 x13_1).f0))).trans hx163_0;replace hx163_1:=(cell_far (p:=⟨gb161,0,none⟩) (by first|(rw [add_block];exact hn163_0)|(show (Addr.add _ _).block ≠ _;rw [add_block];exact hn163_0)|exact hn163_0) (.int .i64 ((rd_T59 l0 x13_1).f0))).trans hx163_1;replace hx163_0:=(cell_far (p:=⟨gb161,1,none⟩) (by first|(rw [add_block];exact hn163_1)|(show (Addr.add _ _).block ≠ _;rw [add_block];exact hn163_1)|exact hn163_1) (.slice A160_1 ((rd_T59 l0 x13_1).f1).length c160_1)).trans hx163_0;replace hx163_1:=(cell_far (p:=⟨gb161,1,none⟩) (by first|(rw [add_block];exact hn163_1)|(show (Addr.add _ _).block ≠ _;rw [add_block];exact hn163_1)|exact hn163_1) (.slice A160_1 ((rd_T59 l0 x13_1).f1).length c160_1)).trans hx163_1;(try have hy163_0:=fun (n_ : Nat)=>(show ((((w16.drewN n_).setCell ⟨gb161,0,none⟩ (.int .i64 ((rd_T59 l0 x13_1).f0))).setCell ⟨gb161,1,none⟩ (.slice A160_1 ((rd_T59 l0 x13_1).f1).length c160_1))).cell? _ = some _ from hx163_0));(try have hy163_1:=fun (n_ : Nat)=>(show ((((w16.drewN n_).setCell ⟨gb161,0,none⟩ (.int .i64 ((rd_T59 l0 x13_1).f0))).setCell ⟨gb161,1,none⟩ (.slice A160_1 ((rd_T59 l0 x13_1).f1).length c160_1))).cell? _ = some _ from hx163_1));clear hn163_0;clear hn163_1;replace p163:=eq_true p163;replace q163:=eq_true q163));try go_wp2_with (first|((with_reducible refine gate_dst (N:=6) rfl ?_);(try (refine gate_guard (by rfl) ?_;dsimp only));refine box_event ?hg (N:=6) ?hd (cs:=#[.int .i64 0,.slice none 0 0]) (t:=59) ?hr ?_;(case hd=>rfl);(case hg=>rfl);(case hr=>first|(go_simp;done)|(go_simp;rfl));intro gb161 hg w16 hbox hb;have n0_:=Aside0.mk (below_step (by repeat (first|exact HB.out|apply below_alloc|apply pw_below_drewN|apply below_drew1)) hb);have n1_:=Aside0.mk (hbox);have n2_:=Aside0.mk ((by rw [hg];exact (below_size (by repeat (first|exact HB.out|apply below_alloc|apply pw_below_drewN|apply below_drew1))) : w.heap.size ≤ gb161));have n3_:=Aside0.mk ((by rw [hg];exact (below_size (by repeat (first|exact HB.out|apply below_alloc|apply pw_below_drewN|apply below_drew1))) : w.heap.size ≤ gb161));clear HB;have HB:=n0_;have BK161:=n1_;have GW161:=n2_;have GE161:=n3_;clear n0_ n1_ n2_ n3_;clear hb hbox hg;have hcz17_0 : w16.cell? ⟨gb161,0,none⟩ = some (.int .i64 0):=(blk_cell BK161.out 0).trans rfl;have hcz17_1 : w16.cell? ⟨gb161,1,none⟩ = some (.slice none 0 0):=(blk_cell BK161.out 1).trans rfl;have hfz17_0:=blk_frozen BK161.out 0;have hfz17_1:=blk_frozen BK161.out 1)|(go_at_call 69;(with_reducible refine (spec_l4At.calls ((rd_T59 l0 x13_1).f0) a1 true _ A8.out).mono ?_);rintro e w' ⟨rfl,⟨nd,rfl⟩⟩;(try first|exact ⟨rfl,_,World.drewN_drewN _ _ _⟩|exact ⟨rfl,_,Eq.trans (World.drewN_drewN _ _ _) (congrArg (World.drewN _) (Nat.add_assoc _ _ _))⟩);have p163 : 0 ≤ ((ji12) : Int):=of_decide_eq_true (by assumption);have q163 : (ji12) < (l0.length : Int):=of_decide_eq_true (by assumption);obtain ⟨ad163,A163_1,c163_1,e163,hx163_0,hx163_1,hl163_1,hi163_1⟩:=at_T59 HR0.out (ji12) p163 q163;obtain rfl : ad160 = ad163:=(by injection e163);have hn163_0 : ad160.block ≠ gb161:=Nat.ne_of_lt (Nat.lt_of_lt_of_le (by have:=World.block_lt_of_cell? _ _ hx163_0;first|rwa [add_block] at this|exact this) GW161.out);have hn163_1 : ad160.block ≠ gb161:=Nat.ne_of_lt (Nat.lt_of_lt_of_le (by have:=World.block_lt_of_cell? _ _ hx163_0;first|rwa [add_block] at this|exact this) GW161.out);(try replace hx163_0:=(HB.out.cell (World.block_lt_of_cell? w _ hx163_0)).trans hx163_0);(try replace hx163_1:=(HB.out.cell (World.block_lt_of_cell? w _ hx163_1)).trans hx163_1);have HR163_1:=Aside0.mk hi163_1;have HC163_1:=Aside0.mk hl163_1;clear hi163_1 hl163_1;replace hx163_0:=(cell_far (p:=⟨gb161,0,none⟩) (by first|(rw [add_block];exact hn163_0)|(show (Addr.add _ _).block ≠ _;rw [add_block];exact hn163_0)|exact hn163_0) (.int .i64 ((rd_T59 l0 x13_1).f0))).trans hx163_0;replace hx163_1:=(cell_far (p:=⟨gb161,0,none⟩) (by first|(rw [add_block];exact hn163_0)|(show (Addr.add _ _).block ≠ _;rw [add_block];exact hn163_0)|exact hn163_0) (.int .i64 ((rd_T59 l0 x13_1).f0))).trans hx163_1;replace hx163_0:=(cell_far (p:=⟨gb161,1,none⟩) (by first|(rw [add_block];exact hn163_1)|(show (Addr.add _ _).block ≠ _;rw [add_block];exact hn163_1)|exact hn163_1) (.slice A160_1 ((rd_T59 l0 x13_1).f1).length c160_1)).trans hx163_0;replace hx163_1:=(cell_far (p:=⟨gb161,1,none⟩) (by first|(rw [add_block];exact hn163_1)|(show (Addr.add _ _).block ≠ _;rw [add_block];exact hn163_1)|exact hn163_1) (.slice A160_1 ((rd_T59 l0 x13_1).f1).length c160_1)).trans hx163_1;(try have hy163_0:=fun (n_ : Nat)=>(show ((((w16.drewN n_).setCell ⟨gb161,0,none⟩ (.int .i64 ((rd_T59 l0 x13_1).f0))).setCell ⟨gb161,1,none⟩ (.slice A160_1 ((rd_T59 l0 x13_1).f1).length c160_1))).cell? _ = some _ from hx163_0));(try have hy163_1:=fun (n_ : Nat)=>(show ((((w16.drewN n_).setCell ⟨gb161,0,none⟩ (.int .i64 ((rd_T59 l0 x13_1).f0))).setCell ⟨gb161,1,none⟩ (.slice A160_1 ((rd_T59 l0 x13_1).f1).length c160_1))).cell? _ = some _ from hx163_1));clear hn163_0;clear hn163_1;replace p163:=eq_true p163;replace q163:=eq_true q163)))
             go_ret
             exact ⟨by first|rfl|(simp [errW_none,errW_some] <;> rfl)|(simp only [← hji12];first|rfl|(simp [errW_none,errW_some] <;> rfl))|(simp [*,errW_none,errW_some] <;> rfl),by repeat (first|(with_reducible first|exact HB.out|apply below_alloc|apply pw_below_drewN|apply below_drew1|refine below_set ?_ GE161.out)|exact HB.out)⟩
            ·rw [if_neg c15] at H
             have c15b0 : decide (((rd_T59 l0 x13_1).f0) ≤ ((rd_T59 l0 (ji12)).f0)) = false:=decide_eq_false c15
             clear c15
             have H':=Aside0.mk H
             clear H
             have p160 : 0 ≤ (x13_1 : Int):=of_decide_eq_true (by assumption)
             have q160 : x13_1 < (l0.length : Int):=of_decide_eq_true (by assumption)
             obtain ⟨ad160,A160_1,c160_1,e160,hx160_0,hx160_1,hl160_1,hi160_1⟩:=at_T59 HR0.out x13_1 p160 q160
             cases e160
             (try replace hx160_0:=(HB.out.cell (World.block_lt_of_cell? w _ hx160_0)).trans hx160_0)
             (try replace hx160_1:=(HB.out.cell (World.block_lt_of_cell? w _ hx160_1)).trans hx160_1)
             have HR160_1:=Aside0.mk hi160_1
             have HC160_1:=Aside0.mk hl160_1
             clear hi160_1 hl160_1
             replace p160:=eq_true p160
             replace q160:=eq_true q160
             go_wp2_with (first|((with_reducible refine gate_dst (N:=6) rfl ?_);(try (refine gate_guard (by rfl) ?_;dsimp only));refine box_event ?hg (N:=6) ?hd (cs:=#[.int .i64 0,.slice none 0 0]) (t:=59) ?hr ?_;(case hd=>rfl);(case hg=>rfl);(case hr=>first|(go_simp;done)|(go_simp;rfl));intro gb161 hg w18 hbox hb;have n0_:=Aside0.mk (below_step (by repeat (first|exact HB.out|apply below_alloc|apply pw_below_drewN|apply below_drew1)) hb);have n1_:=Aside0.mk (hbox);have n2_:=Aside0.mk ((by rw [hg];exact (below_size (by repeat (first|exact HB.out|apply below_alloc|apply pw_below_drewN|apply below_drew1))) : w.heap.size ≤ gb161));have n3_:=Aside0.mk ((by rw [hg];exact (below_size (by repeat (first|exact HB.out|apply below_alloc|apply pw_below_drewN|apply below_drew1))) : w.heap.size ≤ gb161));clear HB;have HB:=n0_;have BK161:=n1_;have GW161:=n2_;have GE161:=n3_;clear n0_ n1_ n2_ n3_;clear hb hbox hg;have hcz19_0 : w18.cell? ⟨gb161,0,none⟩ = some (.int .i64 0):=(blk_cell BK161.out 0).trans rfl;have hcz19_1 : w18.cell? ⟨gb161,1,none⟩ = some (.slice none 0 0):=(blk_cell BK161.out 1).trans rfl;have hfz19_0:=blk_frozen BK161.out 0;have hfz19_1:=blk_frozen BK161.out 1)|(go_at_call 69;(with_reducible refine (spec_l4At.calls ((rd_T59 l0 x13_1).f0) a1 true _ A8.out).mono ?_);rintro e w' ⟨rfl,⟨nd,rfl⟩⟩;(try first|exact ⟨rfl,_,World.drewN_drewN _ _ _⟩|exact ⟨rfl,_,Eq.trans (World.drewN_drewN _ _ _) (congrArg (World.drewN _) (Nat.add_assoc _ _ _))⟩);have p163 : 0 ≤ ((ji12) : Int):=of_decide_eq_true (by assumption);have q163 : (ji12) < (l0.length : Int):=of_decide_eq_true (by assumption);obtain ⟨ad163,A163_1,c163_1,e163,hx163_0,hx163_1,hl163_1,hi163_1⟩:=at_T59 HR0.out (ji12) p163 q163;obtain rfl : ad160 = ad163:=(by injection e163);have hn163_0 : ad160.block ≠ gb161:=Nat.ne_of_lt (Nat.lt_of_lt_of_le (by have:=World.block_lt_of_cell? _ _ hx163_0;first|rwa [add_block] at this|exact this) GW161.out);have hn163_1 : ad160.block ≠ gb161:=Nat.ne_of_lt (Nat.lt_of_lt_of_le (by have:=World.block_lt_of_cell? _ _ hx163_0;first|rwa [add_block] at this|exact this) GW161.out);(try replace hx163_0:=(HB.out.cell (World.block_lt_of_cell? w _ hx163_0)).trans hx163_0);(try replace hx163_1:=(HB.out.cell (World.block_lt_of_cell? w _ hx163_1)).trans hx163_1);have HR163_1:=Aside0.mk hi163_1;have HC163_1:=Aside0.mk hl163_1;clear hi163_1 hl163_1;replace hx163_0:=(cell_far (p:=⟨gb161,0,none⟩) (by first|(rw [add_block];exact hn163_0)|(show (Addr.add _ _).block ≠ _;rw [add_block];exact hn163_0)|exact hn163_0) (.int .i64 ((rd_T59 l0 x13_1).f0))).trans hx163_0;replace hx163_1:=(cell_far (p:=⟨gb161,0,none⟩) (by first|(rw [add_block];exact hn163_0)|(show (Addr.add _ _).block ≠ _;rw [add_block];exact hn163_0)|exact hn163_0) (.int .i64 ((rd_T59 l0 x13_1).f0))).trans hx163_1;replace hx163_0:=(cell_far (p:=⟨gb161,1,none⟩) (by first|(rw [add_block];exact hn163_1)|(show (Addr.add _ _).block ≠ _;rw [add_block];exact hn163_1)|exact hn163_1) (.slice A160_1 ((rd_T59 l0 x13_1).f1).length c160_1)).trans hx163_0;replace hx163_1:=(cell_far (p:=⟨gb161,1,none⟩) (by first|(rw [add_block];exact hn163_1)|(show (Addr.add _ _).block ≠ _;rw [add_block];exact hn163_1)|exact hn163_1) (.slice A160_1 ((rd_T59 l0 x13_1).f1).length c160_1)).trans hx163_1;(try have hy163_0:=fun (n_ : Nat)=>(show ((((w18.drewN n_).setCell ⟨gb161,0,none⟩ (.int .i64 ((rd_T59 l0 x13_1).f0))).setCell ⟨gb161,1,none⟩ (.slice A160_1 ((rd_T59 l0 x13_1).f1).length c160_1))).cell? _ = some _ from hx163_0));(try have hy163_1:=fun (n_ : Nat)=>(show ((((w18.drewN n_).setCell ⟨gb161,0,none⟩ (.int .i64 ((rd_T59 l0 x13_1).f0))).setCell ⟨gb161,1,none⟩ (.slice A160_1 ((rd_T59 l0 x13_1).f1).length c160_1))).cell? _ = some _ from hx163_1));clear hn163_0;clear hn163_1;replace p163:=eq_true p163;replace q163:=eq_true q163))
             repeat (go_quiet (first|((with_reducible refine gate_dst (N:=6) rfl ?_);(try (refine gate_guard (by rfl) ?_;dsimp only));refine box_event ?hg (N:=6) ?hd (cs:=#[.int .i64 0,.slice none 0 0]) (t:=59) ?hr ?_;(case hd=>rfl);(case hg=>rfl);(case hr=>first|(go_simp;done)|(go_simp;rfl));intro gb161 hg w18 hbox hb;have n0_:=Aside0.mk (below_step (by repeat (first|exact HB.out|apply below_alloc|apply pw_below_drewN|apply below_drew1)) hb);have n1_:=Aside0.mk (hbox);have n2_:=Aside0.mk ((by rw [hg];exact (below_size (by repeat (first|exact HB.out|apply below_alloc|apply pw_below_drewN|apply below_drew1))) : w.heap.size ≤ gb161));have n3_:=Aside0.mk ((by rw [hg];exact (below_size (by repeat (first|exact HB.out|apply below_alloc|apply pw_below_drewN|apply below_drew1))) : w.heap.size ≤ gb161));clear HB;have HB:=n0_;have BK161:=n1_;have GW161:=n2_;have GE161:=n3_;clear n0_ n1_ n2_ n3_;clear hb hbox hg;have hcz19_0 : w18.cell? ⟨gb161,0,none⟩ = some (.int .i64 0):=(blk_cell BK161.out 0).trans rfl;have hcz19_1 : w18.cell? ⟨gb161,1,none⟩ = some (.slice none 0 0):=(blk_cell BK161.out 1).trans rfl;have hfz19_0:=blk_frozen BK161.out 0;have hfz19_1:=blk_frozen BK161.out 1)|(go_at_call 69;(with_reducible refine (spec_l4At.calls ((rd_T59 l0 x13_1).f0) a1 true _ A8.out).mono ?_);rintro e w' ⟨rfl,⟨nd,rfl⟩⟩;(try first|exact ⟨rfl,_,World.drewN_drewN _ _ _⟩|exact ⟨rfl,_,Eq.trans (World.drewN_drewN _ _ _) (congrArg (World.drewN _) (Nat.add_assoc _ _ _))⟩);have p163 : 0 ≤ ((ji12) : Int):=of_decide_eq_true (by assumption);have q163 : (ji12) < (l0.length : Int):=of_decide_eq_true (by assumption);obtain ⟨ad163,A163_1,c163_1,e163,hx163_0,hx163_1,hl163_1,hi163_1⟩:=at_T59 HR0.out (ji12) p163 q163;obtain rfl : ad160 = ad163:=(by injection e163);have hn163_0 : ad160.block ≠ gb161:=Nat.ne_of_lt (Nat.lt_of_lt_of_le (by have:=World.block_lt_of_cell? _ _ hx163_0;first|rwa [add_block] at this|exact this) GW161.out);have hn163_1 : ad160.block ≠ gb161:=Nat.ne_of_lt (Nat.lt_of_lt_of_le (by have:=World.block_lt_of_cell? _ _ hx163_0;first|rwa [add_block] at this|exact this) GW161.out);(try replace hx163_0:=(HB.out.cell (World.block_lt_of_cell? w _ hx163_0)).trans hx163_0);(try replace hx163_1:=(HB.out.cell (World.block_lt_of_cell? w _ hx163_1)).trans hx163_1);have HR163_1:=Aside0.mk hi163_1;have HC163_1:=Aside0.mk hl163_1;clear hi163_1 hl163_1;replace hx163_0:=(cell_far (p:=⟨gb161,0,none⟩) (by first|(rw [add_block];exact hn163_0)|(show (Addr.add _ _).block ≠ _;rw [add_block];exact hn163_0)|exact hn163_0) (.int .i64 ((rd_T59 l0 x13_1).f0))).trans hx163_0;replace hx163_1:=(cell_far (p:=⟨gb161,0,none⟩) (by first|(rw [add_block];exact hn163_0)|(show (Addr.add _ _).block ≠ _;rw [add_block];exact hn163_0)|exact hn163_0) (.int .i64 ((rd_T59 l0 x13_1).f0))).trans hx163_1;replace hx163_0:=(cell_far (p:=⟨gb161,1,none⟩) (by first|(rw [add_block];exact hn163_1)|(show (Addr.add _ _).block ≠ _;rw [add_block];exact hn163_1)|exact hn163_1) (.slice A160_1 ((rd_T59 l0 x13_1).f1).length c160_1)).trans hx163_0;replace hx163_1:=(cell_far (p:=⟨gb161,1,none⟩) (by first|(rw [add_block];exact hn163_1)|(show (Addr.add _ _).block ≠ _;rw [add_block];exact hn163_1)|exact hn163_1) (.slice A160_1 ((rd_T59 l0 x13_1).f1).length c160_1)).trans hx163_1;(try have hy163_0:=fun (n_ : Nat)=>(show ((((w18.drewN n_).setCell ⟨gb161,0,none⟩ (.int .i64 ((rd_T59 l0 x13_1).f0))).setCell ⟨gb161,1,none⟩ (.slice A160_1 ((rd_T59 l0 x13_1).f1).length c160_1))).cell? _ = some _ from hx163_0));(try have hy163_1:=fun (n_ : Nat)=>(show ((((w18.drewN n_).setCell ⟨gb161,0,none⟩ (.int .i64 ((rd_T59 l0 x13_1).f0))).setCell ⟨gb161,1,none⟩ (.slice A160_1 ((rd_T59 l0 x13_1).f1).length c160_1))).cell? _ = some _ from hx163_1));clear hn163_0;clear hn163_1;replace p163:=eq_true p163;replace q163:=eq_true q163));try go_wp2_with (first|((with_reducible refine gate_dst (N:=6) rfl ?_);(try (refine gate_guard (by rfl) ?_;dsimp only));refine box_event ?hg (N:=6) ?hd (cs:=#[.int .i64 0,.slice none 0 0]) (t:=59) ?hr ?_;(case hd=>rfl);(case hg=>rfl);(case hr=>first|(go_simp;done)|(go_simp;rfl));intro gb161 hg w18 hbox hb;have n0_:=Aside0.mk (below_step (by repeat (first|exact HB.out|apply below_alloc|apply pw_below_drewN|apply below_drew1)) hb);have n1_:=Aside0.mk (hbox);have n2_:=Aside0.mk ((by rw [hg];exact (below_size (by repeat (first|exact HB.out|apply below_alloc|apply pw_below_drewN|apply below_drew1))) : w.heap.size ≤ gb161));have n3_:=Aside0.mk ((by rw [hg];exact (below_size (by repeat (first|exact HB.out|apply below_alloc|apply pw_below_drewN|apply below_drew1))) : w.heap.size ≤ gb161));clear HB;have HB:=n0_;have BK161:=n1_;have GW161:=n2_;have GE161:=n3_;clear n0_ n1_ n2_ n3_;clear hb hbox hg;have hcz19_0 : w18.cell? ⟨gb161,0,none⟩ = some (.int .i64 0):=(blk_cell BK161.out 0).trans rfl;have hcz19_1 : w18.cell? ⟨gb161,1,none⟩ = some (.slice none 0 0):=(blk_cell BK161.out 1).trans rfl;have hfz19_0:=blk_frozen BK161.out 0;have hfz19_1:=blk_frozen BK161.out 1)|(go_at_call 69;(with_reducible refine (spec_l4At.calls ((rd_T59 l0 x13_1).f0) a1 true _ A8.out).mono ?_);rintro e w' ⟨rfl,⟨nd,rfl⟩⟩;(try first|exact ⟨rfl,_,World.drewN_drewN _ _ _⟩|exact ⟨rfl,_,Eq.trans (World.drewN_drewN _ _ _) (congrArg (World.drewN _) (Nat.add_assoc _ _ _))⟩);have p163 : 0 ≤ ((ji12) : Int):=of_decide_eq_true (by assumption);have q163 : (ji12) < (l0.length : Int):=of_decide_eq_true (by assumption);obtain ⟨ad163,A163_1,c163_1,e163,hx163_0,hx163_1,hl163_1,hi163_1⟩:=at_T59 HR0.out (ji12) p163 q163;obtain rfl : ad160 = ad163:=(by injection e163);have hn163_0 : ad160.block ≠ gb161:=Nat.ne_of_lt (Nat.lt_of_lt_of_le (by have:=World.block_lt_of_cell? _ _ hx163_0;first|rwa [add_block] at this|exact this) GW161.out);have hn163_1 : ad160.block ≠ gb161:=Nat.ne_of_lt (Nat.lt_of_lt_of_le (by have:=World.block_lt_of_cell? _ _ hx163_0;first|rwa [add_block] at this|exact this) GW161.out);(try replace hx163_0:=(HB.out.cell (World.block_lt_of_cell? w _ hx163_0)).trans hx163_0);(try replace hx163_1:=(HB.out.cell (World.block_lt_of_cell? w _ hx163_1)).trans hx163_1);have HR163_1:=Aside0.mk hi163_1;have HC163_1:=Aside0.mk hl163_1;clear hi163_1 hl163_1;replace hx163_0:=(cell_far (p:=⟨gb161,0,none⟩) (by first|(rw [add_block];exact hn163_0)|(show (Addr.add _ _).block ≠ _;rw [add_block];exact hn163_0)|exact hn163_0) (.int .i64 ((rd_T59 l0 x13_1).f0))).trans hx163_0;replace hx163_1:=(cell_far (p:=⟨gb161,0,none⟩) (by first|(rw [add_block];exact hn163_0)|(show (Addr.add _ _).block ≠ _;rw [add_block];exact hn163_0)|exact hn163_0) (.int .i64 ((rd_T59 l0 x13_1).f0))).trans hx163_1;replace hx163_0:=(cell_far (p:=⟨gb161,1,none⟩) (by first|(rw [add_block];exact hn163_1)|(show (Addr.add _ _).block ≠ _;rw [add_block];exact hn163_1)|exact hn163_1) (.slice A160_1 ((rd_T59 l0 x13_1).f1).length c160_1)).trans hx163_0;replace hx163_1:=(cell_far (p:=⟨gb161,1,none⟩) (by first|(rw [add_block];exact hn163_1)|(show (Addr.add _ _).block ≠ _;rw [add_block];exact hn163_1)|exact hn163_1) (.slice A160_1 ((rd_T59 l0 x13_1).f1).length c160_1)).trans hx163_1;(try have hy163_0:=fun (n_ : Nat)=>(show ((((w18.drewN n_).setCell ⟨gb161,0,none⟩ (.int .i64 ((rd_T59 l0 x13_1).f0))).setCell ⟨gb161,1,none⟩ (.slice A160_1 ((rd_T59 l0 x13_1).f1).length c160_1))).cell? _ = some _ from hx163_0));(try have hy163_1:=fun (n_ : Nat)=>(show ((((w18.drewN n_).setCell ⟨gb161,0,none⟩ (.int .i64 ((rd_T59 l0 x13_1).f0))).setCell ⟨gb161,1,none⟩ (.slice A160_1 ((rd_T59 l0 x13_1).f1).length c160_1))).cell? _ = some _ from hx163_1));clear hn163_0;clear hn163_1;replace p163:=eq_true p163;replace q163:=eq_true q163)))
             go_roundg k1
             case measure=>have:=HK1.out;omega
             case rel=>exact ⟨(wrap64 (x13_1 + 1)),(by first|rfl|(simp;done)|(simp [*];done)),H',⟨by have:=HK1.out;omega⟩,⟨by repeat (first|(with_reducible first|exact HB.out|apply below_alloc|apply pw_below_drewN|apply below_drew1|refine below_set ?_ GE161.out)|exact HB.out)⟩⟩
           ·rw [if_neg c14] at H
            exact absurd H (by simp)
          ·rw [if_neg c13] at H
           exact absurd H (by simp)
         ·rw [if_neg c11] at H
          have c11b0 : decide (0 < x13_1) = false:=decide_eq_false c11
          clear c11
          have H':=Aside0.mk H
          clear H
          have p160 : 0 ≤ (x13_1 : Int):=of_decide_eq_true (by assumption)
          have q160 : x13_1 < (l0.length : Int):=of_decide_eq_true (by assumption)
          obtain ⟨ad160,A160_1,c160_1,e160,hx160_0,hx160_1,hl160_1,hi160_1⟩:=at_T59 HR0.out x13_1 p160 q160
          cases e160
          (try replace hx160_0:=(HB.out.cell (World.block_lt_of_cell? w _ hx160_0)).trans hx160_0)
          (try replace hx160_1:=(HB.out.cell (World.block_lt_of_cell? w _ hx160_1)).trans hx160_1)
          have HR160_1:=Aside0.mk hi160_1
          have HC160_1:=Aside0.mk hl160_1
          clear hi160_1 hl160_1
          replace p160:=eq_true p160
          replace q160:=eq_true q160
          go_wp2_with (first|((with_reducible refine gate_dst (N:=6) rfl ?_);(try (refine gate_guard (by rfl) ?_;dsimp only));refine box_event ?hg (N:=6) ?hd (cs:=#[.int .i64 0,.slice none 0 0]) (t:=59) ?hr ?_;(case hd=>rfl);(case hg=>rfl);(case hr=>first|(go_simp;done)|(go_simp;rfl));intro gb161 hg w20 hbox hb;have n0_:=Aside0.mk (below_step (by repeat (first|exact HB.out|apply below_alloc|apply pw_below_drewN|apply below_drew1)) hb);have n1_:=Aside0.mk (hbox);have n2_:=Aside0.mk ((by rw [hg];exact (below_size (by repeat (first|exact HB.out|apply below_alloc|apply pw_below_drewN|apply below_drew1))) : w.heap.size ≤ gb161));have n3_:=Aside0.mk ((by rw [hg];exact (below_size (by repeat (first|exact HB.out|apply below_alloc|apply pw_below_drewN|apply below_drew1))) : w.heap.size ≤ gb161));clear HB;have HB:=n0_;have BK161:=n1_;have GW161:=n2_;have GE161:=n3_;clear n0_ n1_ n2_ n3_;clear hb hbox hg;have hcz21_0 : w20.cell? ⟨gb161,0,none⟩ = some (.int .i64 0):=(blk_cell BK161.out 0).trans rfl;have hcz21_1 : w20.cell? ⟨gb161,1,none⟩ = some (.slice none 0 0):=(blk_cell BK161.out 1).trans rfl;have hfz21_0:=blk_frozen BK161.out 0;have hfz21_1:=blk_frozen BK161.out 1)|(go_at_call 69;(with_reducible refine (spec_l4At.calls ((rd_T59 l0 x13_1).f0) a1 true _ A8.out).mono ?_);rintro e w' ⟨rfl,⟨nd,rfl⟩⟩;(try first|exact ⟨rfl,_,World.drewN_drewN _ _ _⟩|exact ⟨rfl,_,Eq.trans (World.drewN_drewN _ _ _) (congrArg (World.drewN _) (Nat.add_assoc _ _ _))⟩)))
          repeat (go_quiet (first|((with_reducible refine gate_dst (N:=6) rfl ?_);(try (refine gate_guard (by rfl) ?_;dsimp only));refine box_event ?hg (N:=6) ?hd (cs:=#[.int .i64 0,.slice none 0 0]) (t:=59) ?hr ?_;(case hd=>rfl);(case hg=>rfl);(case hr=>first|(go_simp;done)|(go_simp;rfl));intro gb161 hg w20 hbox hb;have n0_:=Aside0.mk (below_step (by repeat (first|exact HB.out|apply below_alloc|apply pw_below_drewN|apply below_drew1)) hb);have n1_:=Aside0.mk (hbox);have n2_:=Aside0.mk ((by rw [hg];exact (below_size (by repeat (first|exact HB.out|apply below_alloc|apply pw_below_drewN|apply below_drew1))) : w.heap.size ≤ gb161));have n3_:=Aside0.mk ((by rw [hg];exact (below_size (by repeat (first|exact HB.out|apply below_alloc|apply pw_below_drewN|apply below_drew1))) : w.heap.size ≤ gb161));clear HB;have HB:=n0_;have BK161:=n1_;have GW161:=n2_;have GE161:=n3_;clear n0_ n1_ n2_ n3_;clear hb hbox hg;have hcz21_0 : w20.cell? ⟨gb161,0,none⟩ = some (.int .i64 0):=(blk_cell BK161.out 0).trans rfl;have hcz21_1 : w20.cell? ⟨gb161,1,none⟩ = some (.slice none 0 0):=(blk_cell BK161.out 1).trans rfl;have hfz21_0:=blk_frozen BK161.out 0;have hfz21_1:=blk_frozen BK161.out 1)|(go_at_call 69;(with_reducible refine (spec_l4At.calls ((rd_T59 l0 x13_1).f0) a1 true _ A8.out).mono ?_);rintro e w' ⟨rfl,⟨nd,rfl⟩⟩;(try first|exact ⟨rfl,_,World.drewN_drewN _ _ _⟩|exact ⟨rfl,_,Eq.trans (World.drewN_drewN _ _ _) (congrArg (World.drewN _) (Nat.add_assoc _ _ _))⟩)));try go_wp2_with (first|((with_reducible refine gate_dst (N:=6) rfl ?_);(try (refine gate_guard (by rfl) ?_;dsimp only));refine box_event ?hg (N:=6) ?hd (cs:=#[.int .i64 0,.slice none 0 0]) (t:=59) ?hr ?_;(case hd=>rfl);(case hg=>rfl);(case hr=>first|(go_simp;done)|(go_simp;rfl));intro gb161 hg w20 hbox hb;have n0_:=Aside0.mk (below_step (by repeat (first|exact HB.out|apply below_alloc|apply pw_below_drewN|apply below_drew1)) hb);have n1_:=Aside0.mk (hbox);have n2_:=Aside0.mk ((by rw [hg];exact (below_size (by repeat (first|exact HB.out|apply below_alloc|apply pw_below_drewN|apply below_drew1))) : w.heap.size ≤ gb161));have n3_:=Aside0.mk ((by rw [hg];exact (below_size (by repeat (first|exact HB.out|apply below_alloc|apply pw_below_drewN|apply below_drew1))) : w.heap.size ≤ gb161));clear HB;have HB:=n0_;have BK161:=n1_;have GW161:=n2_;have GE161:=n3_;clear n0_ n1_ n2_ n3_;clear hb hbox hg;have hcz21_0 : w20.cell? ⟨gb161,0,none⟩ = some (.int .i64 0):=(blk_cell BK161.out 0).trans rfl;have hcz21_1 : w20.cell? ⟨gb161,1,none⟩ = some (.slice none 0 0):=(blk_cell BK161.out 1).trans rfl;have hfz21_0:=blk_frozen BK161.out 0;have hfz21_1:=blk_frozen BK161.out 1)|(go_at_call 69;(with_reducible refine (spec_l4At.calls ((rd_T59 l0 x13_1).f0) a1 true _ A8.out).mono ?_);rintro e w' ⟨rfl,⟨nd,rfl⟩⟩;(try first|exact ⟨rfl,_,World.drewN_drewN _ _ _⟩|exact ⟨rfl,_,Eq.trans (World.drewN_drewN _ _ _) (congrArg (World.drewN _) (Nat.add_assoc _ _ _))⟩))))
          go_roundg k1
          case measure=>have:=HK1.out;omega
          case rel=>exact ⟨(wrap64 (x13_1 + 1)),(by first|rfl|(simp;done)|(simp [*];done)),H',⟨by have:=HK1.out;omega⟩,⟨by repeat (first|(with_reducible first|exact HB.out|apply below_alloc|apply pw_below_drewN|apply below_drew1|refine below_set ?_ GE161.out)|exact HB.out)⟩⟩
        ·rw [if_neg c10] at H
         have c10b0 : ((((rd_T59 l0 x13_1).f1).length : Int) == 128) = false:=beq_eq_false_iff_ne.mpr c10
         have c10b1 : ((((rd_T59 l0 x13_1).f1).length : Int) != 128) = true:=bne_iff_ne.mpr c10
         obtain rfl:=Option.some.inj H
         have p160 : 0 ≤ (x13_1 : Int):=of_decide_eq_true (by assumption)
         have q160 : x13_1 < (l0.length : Int):=of_decide_eq_true (by assumption)
         obtain ⟨ad160,A160_1,c160_1,e160,hx160_0,hx160_1,hl160_1,hi160_1⟩:=at_T59 HR0.out x13_1 p160 q160
         cases e160
         (try replace hx160_0:=(HB.out.cell (World.block_lt_of_cell? w _ hx160_0)).trans hx160_0)
         (try replace hx160_1:=(HB.out.cell (World.block_lt_of_cell? w _ hx160_1)).trans hx160_1)
         have HR160_1:=Aside0.mk hi160_1
         have HC160_1:=Aside0.mk hl160_1
         clear hi160_1 hl160_1
         replace p160:=eq_true p160
         replace q160:=eq_true q160
         go_wp2_with (first|((with_reducible refine gate_dst (N:=6) rfl ?_);(try (refine gate_guard (by rfl) ?_;dsimp only));refine box_event ?hg (N:=6) ?hd (cs:=#[.int .i64 0,.slice none 0 0]) (t:=59) ?hr ?_;(case hd=>rfl);(case hg=>rfl);(case hr=>first|(go_simp;done)|(go_simp;rfl));intro gb161 hg w22 hbox hb;have n0_:=Aside0.mk (below_step (by repeat (first|exact HB.out|apply below_alloc|apply pw_below_drewN|apply below_drew1)) hb);have n1_:=Aside0.mk (hbox);have n2_:=Aside0.mk ((by rw [hg];exact (below_size (by repeat (first|exact HB.out|apply below_alloc|apply pw_below_drewN|apply below_drew1))) : w.heap.size ≤ gb161));have n3_:=Aside0.mk ((by rw [hg];exact (below_size (by repeat (first|exact HB.out|apply below_alloc|apply pw_below_drewN|apply below_drew1))) : w.heap.size ≤ gb161));clear HB;have HB:=n0_;have BK161:=n1_;have GW161:=n2_;have GE161:=n3_;clear n0_ n1_ n2_ n3_;clear hb hbox hg;have hcz23_0 : w22.cell? ⟨gb161,0,none⟩ = some (.int .i64 0):=(blk_cell BK161.out 0).trans rfl;have hcz23_1 : w22.cell? ⟨gb161,1,none⟩ = some (.slice none 0 0):=(blk_cell BK161.out 1).trans rfl;have hfz23_0:=blk_frozen BK161.out 0;have hfz23_1:=blk_frozen BK161.out 1)|(go_at_call 69;(with_reducible refine (spec_l4At.calls ((rd_T59 l0 x13_1).f0) a1 true _ A8.out).mono ?_);rintro e w' ⟨rfl,⟨nd,rfl⟩⟩;(try first|exact ⟨rfl,_,World.drewN_drewN _ _ _⟩|exact ⟨rfl,_,Eq.trans (World.drewN_drewN _ _ _) (congrArg (World.drewN _) (Nat.add_assoc _ _ _))⟩)))
         repeat (go_quiet (first|((with_reducible refine gate_dst (N:=6) rfl ?_);(try (refine gate_guard (by rfl) ?_;dsimp only));refine box_event ?hg (N:=6) ?hd (cs:=#[.int .i64 0,.slice none 0 0]) (t:=59) ?hr ?_;(case hd=>rfl);(case hg=>rfl);(case hr=>first|(go_simp;done)|(go_simp;rfl));intro gb161 hg w22 hbox hb;have n0_:=Aside0.mk (below_step (by repeat (first|exact HB.out|apply below_alloc|apply pw_below_drewN|apply below_drew1)) hb);have n1_:=Aside0.mk (hbox);have n2_:=Aside0.mk ((by rw [hg];exact (below_size (by repeat (first|exact HB.out|apply below_alloc|apply pw_below_drewN|apply below_drew1))) : w.heap.size ≤ gb161));have n3_:=Aside0.mk ((by rw [hg];exact (below_size (by repeat (first|exact HB.out|apply below_alloc|apply pw_below_drewN|apply below_drew1))) : w.heap.size ≤ gb161));clear HB;have HB:=n0_;have BK161:=n1_;have GW161:=n2_;have GE161:=n3_;clear n0_ n1_ n2_ n3_;clear hb hbox hg;have hcz23_0 : w22.cell? ⟨gb161,0,none⟩ = some (.int .i64 0):=(blk_cell BK161.out 0).trans rfl;have hcz23_1 : w22.cell? ⟨gb161,1,none⟩ = some (.slice none 0 0):=(blk_cell BK161.out 1).trans rfl;have hfz23_0:=blk_frozen BK161.out 0;have hfz23_1:=blk_frozen BK161.out 1)|(go_at_call 69;(with_reducible refine (spec_l4At.calls ((rd_T59 l0 x13_1).f0) a1 true _ A8.out).mono ?_);rintro e w' ⟨rfl,⟨nd,rfl⟩⟩;(try first|exact ⟨rfl,_,World.drewN_drewN _ _ _⟩|exact ⟨rfl,_,Eq.trans (World.drewN_drewN _ _ _) (congrArg (World.drewN _) (Nat.add_assoc _ _ _))⟩)));try go_wp2_with (first|((with_reducible refine gate_dst (N:=6) rfl ?_);(try (refine gate_guard (by rfl) ?_;dsimp only));refine box_event ?hg (N:=6) ?hd (cs:=#[.int .i64 0,.slice none 0 0]) (t:=59) ?hr ?_;(case hd=>rfl);(case hg=>rfl);(case hr=>first|(go_simp;done)|(go_simp;rfl));intro gb161 hg w22 hbox hb;have n0_:=Aside0.mk (below_step (by repeat (first|exact HB.out|apply below_alloc|apply pw_below_drewN|apply below_drew1)) hb);have n1_:=Aside0.mk (hbox);have n2_:=Aside0.mk ((by rw [hg];exact (below_size (by repeat (first|exact HB.out|apply below_alloc|apply pw_below_drewN|apply below_drew1))) : w.heap.size ≤ gb161));have n3_:=Aside0.mk ((by rw [hg];exact (below_size (by repeat (first|exact HB.out|apply below_alloc|apply pw_below_drewN|apply below_drew1))) : w.heap.size ≤ gb161));clear HB;have HB:=n0_;have BK161:=n1_;have GW161:=n2_;have GE161:=n3_;clear n0_ n1_ n2_ n3_;clear hb hbox hg;have hcz23_0 : w22.cell? ⟨gb161,0,none⟩ = some (.int .i64 0):=(blk_cell BK161.out 0).trans rfl;have hcz23_1 : w22.cell? ⟨gb161,1,none⟩ = some (.slice none 0 0):=(blk_cell BK161.out 1).trans rfl;have hfz23_0:=blk_frozen BK161.out 0;have hfz23_1:=blk_frozen BK161.out 1)|(go_at_call 69;(with_reducible refine (spec_l4At.calls ((rd_T59 l0 x13_1).f0) a1 true _ A8.out).mono ?_);rintro e w' ⟨rfl,⟨nd,rfl⟩⟩;(try first|exact ⟨rfl,_,World.drewN_drewN _ _ _⟩|exact ⟨rfl,_,Eq.trans (World.drewN_drewN _ _ _) (congrArg (World.drewN _) (Nat.add_assoc _ _ _))⟩))))
         go_ret
         exact ⟨by first|rfl|(simp [*,errW_none,errW_some] <;> rfl),by repeat (first|(with_reducible first|exact HB.out|apply below_alloc|apply pw_below_drewN|apply below_drew1|refine below_set ?_ GE161.out)|exact HB.out)⟩
       ·replace c9:=Bool.eq_false_iff.mpr c9
        subst c9
        have H1 : (some false) = some r:=by rw [if_neg (show ¬ (false = true) by decide)] at H;exact H
        clear H
        have H:=H1
        clear H1
        obtain rfl:=Option.some.inj H
        have p160 : 0 ≤ (x13_1 : Int):=of_decide_eq_true (by assumption)
        have q160 : x13_1 < (l0.length : Int):=of_decide_eq_true (by assumption)
        obtain ⟨ad160,A160_1,c160_1,e160,hx160_0,hx160_1,hl160_1,hi160_1⟩:=at_T59 HR0.out x13_1 p160 q160
        cases e160
        (try replace hx160_0:=(HB.out.cell (World.block_lt_of_cell? w _ hx160_0)).trans hx160_0)
        (try replace hx160_1:=(HB.out.cell (World.block_lt_of_cell? w _ hx160_1)).trans hx160_1)
        have HR160_1:=Aside0.mk hi160_1
        have HC160_1:=Aside0.mk hl160_1
        clear hi160_1 hl160_1
        replace p160:=eq_true p160
        replace q160:=eq_true q160
        go_wp2_with (first|((with_reducible refine gate_dst (N:=6) rfl ?_);(try (refine gate_guard (by rfl) ?_;dsimp only));refine box_event ?hg (N:=6) ?hd (cs:=#[.int .i64 0,.slice none 0 0]) (t:=59) ?hr ?_;(case hd=>rfl);(case hg=>rfl);(case hr=>first|(go_simp;done)|(go_simp;rfl));intro gb161 hg w24 hbox hb;have n0_:=Aside0.mk (below_step (by repeat (first|exact HB.out|apply below_alloc|apply pw_below_drewN|apply below_drew1)) hb);have n1_:=Aside0.mk (hbox);have n2_:=Aside0.mk ((by rw [hg];exact (below_size (by repeat (first|exact HB.out|apply below_alloc|apply pw_below_drewN|apply below_drew1))) : w.heap.size ≤ gb161));have n3_:=Aside0.mk ((by rw [hg];exact (below_size (by repeat (first|exact HB.out|apply below_alloc|apply pw_below_drewN|apply below_drew1))) : w.heap.size ≤ gb161));clear HB;have HB:=n0_;have BK161:=n1_;have GW161:=n2_;have GE161:=n3_;clear n0_ n1_ n2_ n3_;clear hb hbox hg;have hcz25_0 : w24.cell? ⟨gb161,0,none⟩ = some (.int .i64 0):=(blk_cell BK161.out 0).trans rfl;have hcz25_1 : w24.cell? ⟨gb161,1,none⟩ = some (.slice none 0 0):=(blk_cell BK161.out 1).trans rfl;have hfz25_0:=blk_frozen BK161.out 0;have hfz25_1:=blk_frozen BK161.out 1)|(go_at_call 69;(with_reducible refine (spec_l4At.calls ((rd_T59 l0 x13_1).f0) a1 false _ A8.out).mono ?_);rintro e w' ⟨rfl,⟨nd,rfl⟩⟩;(try first|exact ⟨rfl,_,World.drewN_drewN _ _ _⟩|exact ⟨rfl,_,Eq.trans (World.drewN_drewN _ _ _) (congrArg (World.drewN _) (Nat.add_assoc _ _ _))⟩)))
        repeat (go_quiet (first|((with_reducible refine gate_dst (N:=6) rfl ?_);(try (refine gate_guard (by rfl) ?_;dsimp only));refine box_event ?hg (N:=6) ?hd (cs:=#[.int .i64 0,.slice none 0 0]) (t:=59) ?hr ?_;(case hd=>rfl);(case hg=>rfl);(case hr=>first|(go_simp;done)|(go_simp;rfl));intro gb161 hg w24 hbox hb;have n0_:=Aside0.mk (below_step (by repeat (first|exact HB.out|apply below_alloc|apply pw_below_drewN|apply below_drew1)) hb);have n1_:=Aside0.mk (hbox);have n2_:=Aside0.mk ((by rw [hg];exact (below_size (by repeat (first|exact HB.out|apply below_alloc|apply pw_below_drewN|apply below_drew1))) : w.heap.size ≤ gb161));have n3_:=Aside0.mk ((by rw [hg];exact (below_size (by repeat (first|exact HB.out|apply below_alloc|apply pw_below_drewN|apply below_drew1))) : w.heap.size ≤ gb161));clear HB;have HB:=n0_;have BK161:=n1_;have GW161:=n2_;have GE161:=n3_;clear n0_ n1_ n2_ n3_;clear hb hbox hg;have hcz25_0 : w24.cell? ⟨gb161,0,none⟩ = some (.int .i64 0):=(blk_cell BK161.out 0).trans rfl;have hcz25_1 : w24.cell? ⟨gb161,1,none⟩ = some (.slice none 0 0):=(blk_cell BK161.out 1).trans rfl;have hfz25_0:=blk_frozen BK161.out 0;have hfz25_1:=blk_frozen BK161.out 1)|(go_at_call 69;(with_reducible refine (spec_l4At.calls ((rd_T59 l0 x13_1).f0) a1 false _ A8.out).mono ?_);rintro e w' ⟨rfl,⟨nd,rfl⟩⟩;(try first|exact ⟨rfl,_,World.drewN_drewN _ _ _⟩|exact ⟨rfl,_,Eq.trans (World.drewN_drewN _ _ _) (congrArg (World.drewN _) (Nat.add_assoc _ _ _))⟩)));try go_wp2_with (first|((with_reducible refine gate_dst (N:=6) rfl ?_);(try (refine gate_guard (by rfl) ?_;dsimp only));refine box_event ?hg (N:=6) ?hd (cs:=#[.int .i64 0,.slice none 0 0]) (t:=59) ?hr ?_;(case hd=>rfl);(case hg=>rfl);(case hr=>first|(go_simp;done)|(go_simp;rfl));intro gb161 hg w24 hbox hb;have n0_:=Aside0.mk (below_step (by repeat (first|exact HB.out|apply below_alloc|apply pw_below_drewN|apply below_drew1)) hb);have n1_:=Aside0.mk (hbox);have n2_:=Aside0.mk ((by rw [hg];exact (below_size (by repeat (first|exact HB.out|apply below_alloc|apply pw_below_drewN|apply below_drew1))) : w.heap.size ≤ gb161));have n3_:=Aside0.mk ((by rw [hg];exact (below_size (by repeat (first|exact HB.out|apply below_alloc|apply pw_below_drewN|apply below_drew1))) : w.heap.size ≤ gb161));clear HB;have HB:=n0_;have BK161:=n1_;have GW161:=n2_;have GE161:=n3_;clear n0_ n1_ n2_ n3_;clear hb hbox hg;have hcz25_0 : w24.cell? ⟨gb161,0,none⟩ = some (.int .i64 0):=(blk_cell BK161.out 0).trans rfl;have hcz25_1 : w24.cell? ⟨gb161,1,none⟩ = some (.slice none 0 0):=(blk_cell BK161.out 1).trans rfl;have hfz25_0:=blk_frozen BK161.out 0;have hfz25_1:=blk_frozen BK161.out 1)|(go_at_call 69;(with_reducible refine (spec_l4At.calls ((rd_T59 l0 x13_1).f0) a1 false _ A8.out).mono ?_);rintro e w' ⟨rfl,⟨nd,rfl⟩⟩;(try first|exact ⟨rfl,_,World.drewN_drewN _ _ _⟩|exact ⟨rfl,_,Eq.trans (World.drewN_drewN _ _ _) (congrArg (World.drewN _) (Nat.add_assoc _ _ _))⟩))))
        go_ret
        exact ⟨by first|rfl|(simp [*,errW_none,errW_some] <;> rfl),by repeat (first|(with_reducible first|exact HB.out|apply below_alloc|apply pw_below_drewN|apply below_drew1|refine below_set ?_ GE161.out)|exact HB.out)⟩
      ·rw [if_neg c7] at H
       exact absurd H (by simp)
     ·rw [if_neg c6] at H
      exact absurd H (by simp)
    ·rw [if_neg c5] at H
     have c5b0 : decide (x13_1 < (l0.length : Int)) = false:=decide_eq_false c5
     clear c5
     obtain rfl:=Option.some.inj H
     go_wp2
     repeat (go_quiet (fail);try go_wp2)
     go_ret
     exact ⟨by first|rfl|(simp [*,errW_none,errW_some] <;> rfl),by repeat (first|exact HB.out|apply below_alloc|apply pw_below_drewN|apply below_drew1)⟩
 ·replace c4:=Bool.eq_false_iff.mpr c4
  subst c4
  have H1 : (some false) = some r:=by rw [if_neg (show ¬ (false = true) by decide)] at H;exact H
  clear H
  have H:=H1
  clear H1
  obtain rfl:=Option.some.inj H
  go_enter Try.func40,Try.ntmps40
  go_wp2_with (first|(go_at_call 68;(with_reducible refine (spec_l1In.calls (l0.length : Int) 1 30 false _ A3.out).mono ?_);rintro e w' ⟨rfl,⟨nd,rfl⟩⟩;(try first|exact ⟨rfl,_,World.drewN_drewN _ _ _⟩|exact ⟨rfl,_,Eq.trans (World.drewN_drewN _ _ _) (congrArg (World.drewN _) (Nat.add_assoc _ _ _))⟩)))
  repeat (go_quiet (first|(go_at_call 68;(with_reducible refine (spec_l1In.calls (l0.length : Int) 1 30 false _ A3.out).mono ?_);rintro e w' ⟨rfl,⟨nd,rfl⟩⟩;(try first|exact ⟨rfl,_,World.drewN_drewN _ _ _⟩|exact ⟨rfl,_,Eq.trans (World.drewN_drewN _ _ _) (congrArg (World.drewN _) (Nat.add_assoc _ _ _))⟩)));try go_wp2_with (first|(go_at_call 68;(with_reducible refine (spec_l1In.calls (l0.length : Int) 1 30 false _ A3.out).mono ?_);rintro e w' ⟨rfl,⟨nd,rfl⟩⟩;(try first|exact ⟨rfl,_,World.drewN_drewN _ _ _⟩|exact ⟨rfl,_,Eq.trans (World.drewN_drewN _ _ _) (congrArg (World.drewN _) (Nat.add_assoc _ _ _))⟩))))
  go_ret
  exact ⟨by first|rfl|(simp [*,errW_none,errW_some] <;> rfl),by repeat (first|exact HB.out|apply below_alloc|apply pw_below_drewN|apply below_drew1)⟩

end Go.Proofs.Ytfjboeeogjepeaa.PFnExactPlanOf
