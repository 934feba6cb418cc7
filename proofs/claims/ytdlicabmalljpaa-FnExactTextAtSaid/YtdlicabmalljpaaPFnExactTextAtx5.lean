-- Written by a program of this session over the print of the kit (wip/t/patch_print.py).
import Derived.Test.YtdlicabmalljpaaPFnExactTextAtx0
import Derived.Test.YtdlicabmalljpaaPFnExactTextAtx4
namespace Go.Proofs.Ytdlicabmalljpaa.PFnExactTextAt
open Go.RowKit Go.Proofs.YtdlicabmalljpaaW.PrintWords Go.Proofs.YtdlicabmalljpaaW.PrintLast Go.Proofs.YtdlicabmalljpaaW.PrintMore
attribute [local go_sem] max2_int min2_int max_two min_two max_three min_three max_four min_four   -- for this text's walks alone
set_option linter.unusedVariables false
set_option linter.unusedSimpArgs false

/-! ### laws_toChangeS: function 68 -/
def laws_toChangeS.l0 : Nat → List (S108) → List (S112) → Int → Option ((List (S112)))
 | 0,_,_,_=>none
 | k + 1,x0,x3,x4=>if x4 < (x0.length : Int) then (if 0 ≤ x4 then ((laws_toChange.f k ((rd_T108 x0 x4).f0)).bind fun t188=>(if x4 < (x3.length : Int) then (laws_toChangeS.l0 k x0 (x3.set (x4 : Int).toNat (⟨t188⟩ : S112)) (wrap64 (x4 + 1))) else (none))) else (none)) else (some x3)
def laws_toChangeS.f (k : Nat) (l0 : List (S108)) : Option ((List (S112))):=if 0 ≤ (l0.length : Int) then (if ((l0.length : Int) : Int).toNat ≤ 11728124029610 then (laws_toChangeS.l0 k l0 (List.replicate ((l0.length : Int) : Int).toNat z112) 0) else (none)) else (none)
theorem laws_toChangeS.mono_l : ∀ k,(∀ y0 y1 y2,LeO (laws_toChangeS.l0 k y0 y1 y2) (laws_toChangeS.l0 (k + 1) y0 y1 y2))
 | 0=>fun _ _ _ r h=>by simp [laws_toChangeS.l0] at h
 | k + 1=>by
  have ih0:=laws_toChangeS.mono_l k
  ·intro y0 y1 y2
   unfold laws_toChangeS.l0
   repeat' first
   | (with_reducible exact ih0 _ _ _)
   | (with_reducible exact laws_toChange.mono _ _)
   | (with_reducible exact LeO.refl _)
   | (with_reducible exact LeO.none _)
   | (with_reducible refine LeO.ite ?_ ?_)
   | (with_reducible refine LeO.bind ?_ (fun _=>?_))
   | exact ih0 _ _ _
   | exact laws_toChange.mono _ _
   | exact LeO.none _
   | refine LeO.ite ?_ ?_
   | refine LeO.bind ?_ (fun _=>?_)
theorem laws_toChangeS.mono : ∀ a0 k,LeO (laws_toChangeS.f k a0) (laws_toChangeS.f (k + 1) a0):=by
 intro a0 k
 have ih0:=laws_toChangeS.mono_l k
 unfold laws_toChangeS.f
 repeat' first
   | (with_reducible exact ih0 _ _ _)
   | (with_reducible exact laws_toChange.mono _ _)
   | (with_reducible exact LeO.refl _)
   | (with_reducible exact LeO.none _)
   | (with_reducible refine LeO.ite ?_ ?_)
   | (with_reducible refine LeO.bind ?_ (fun _=>?_))
   | exact ih0 _ _ _
   | exact laws_toChange.mono _ _
   | exact LeO.none _
   | refine LeO.ite ?_ ?_
   | refine LeO.bind ?_ (fun _=>?_)
set_option maxHeartbeats 8000000 in
set_option maxRecDepth 100000 in
theorem laws_toChangeS.calls (k : Nat) (A0 : Option Addr) (c0 : Nat) (l0 : List (S108)) (r : List (S112)) (w : World) (hr0 : Kd.C k108 w A0 l0.length l0) (hc0 : l0.length ≤ c0) (h : laws_toChangeS.f k l0 = some r) :
  Calls Try.prog 68 #[.slice A0 l0.length c0] w fun e w'=>∃ v0_ : Value,e = .returned (v0_)∧Kd.S k112 112 w' w.heap.size (fun _=>True) v0_ r∧Below w.heap.size w w':=by
 have hu108:=Try.underlying108
 have hu112:=Try.underlying112
 have HR0:=Aside0.mk hr0
 have HC0:=Aside0.mk hc0
 clear hr0 hc0
 have HB:=Aside0.mk (Below.refl w.heap.size w)
 have H : (if 0 ≤ (l0.length : Int) then (if ((l0.length : Int) : Int).toNat ≤ 11728124029610 then (laws_toChangeS.l0 k l0 (List.replicate ((l0.length : Int) : Int).toNat z112) 0) else (none)) else (none)) = some r:=h
 clear h
 by_cases c2 : 0 ≤ (l0.length : Int)
 ·rw [if_pos c2] at H
  have c2b0:=eq_true c2
  have c2b1 : decide (0 ≤ (l0.length : Int)) = true:=decide_eq_true c2
  clear c2
  by_cases c3 : ((l0.length : Int) : Int).toNat ≤ 11728124029610
  ·rw [if_pos c3] at H
   have c3b0:=eq_true c3
   have c3b1 : decide (((l0.length : Int) : Int).toNat ≤ 11728124029610) = true:=decide_eq_true c3
   clear c3
   obtain ⟨y184,hy184⟩ : ∃ y_ : List (S112),y_ = (List.replicate ((l0.length : Int) : Int).toNat z112):=⟨_,rfl⟩
   replace H : (laws_toChangeS.l0 k l0 y184 0) = some r:=by first|(rw [hy184];with_reducible exact H)|(have H2_:=(Option.bind_some _ _).symm.trans H;rw [hy184];with_reducible exact H2_)|(have H2_:=(Option.bind_some _ _).symm.trans H;with_reducible exact H2_)|with_reducible exact H|(rw [hy184];exact H)|exact H
   have Ny184:=Aside0.mk hy184
   clear hy184
   have H':=Aside0.mk H
   clear H
   go_enter Try.func68,Try.ntmps68
   go_wp2_with (first|((with_reducible refine gate_dst (N:=7) rfl ?_);refine Kd.S_make k112 _ 112 rfl (N:=7) rfl 53 _ _ rfl (l0.length : Int) rfl rfl Try.underlying53 (.agg #[(.slice none 0 0)]) 24 info112 rfl (by decide) (by omega) z112 (ok:=fun _=>True) (okp:=fun _=>True) (k112_mkM _ _ _ z112 (Kd.R_nil _ _ _ _ _)) (fun _ hk=>hk) trivial (of_decide_eq_true (by assumption)) (Nat.le_trans (Nat.mul_le_mul_right _ (of_decide_eq_true (by assumption) : (l0.length : Int).toNat ≤ 11728124029610)) (by omega)) (Below.refl _ _) (Nat.le_refl _) ?_;intro v185 w4 ho5 hb hg_ hnew_;clear hg_ hnew_;(first|rw [← Ny184.out] at ho5|(simp only [Int.reduceToNat] at ho5;rw [← Ny184.out] at ho5));have n0_:=Aside0.mk (Kd.S_lower ho5 (below_size (by repeat (first|exact HB.out|apply below_alloc|apply pw_below_drewN|apply below_drew1))));have n1_:=Aside0.mk (below_step (by repeat (first|exact HB.out|apply below_alloc|apply pw_below_drewN|apply below_drew1)) hb);clear HB;have HO186:=n0_;have HB:=n1_;clear n0_ n1_;clear hb ho5))
   go_loopg [4] k (fun kq v4 w'=>∃ (x3_1 : List (S112)) (x4_1 : Int),v4 = .int .i64 x4_1∧Aside0 (laws_toChangeS.l0 kq l0 x3_1 x4_1 = some r)∧Aside0 (kq ≤ k)∧Aside0 (Kd.S k112 112 w' w.heap.size (fun _=>True) v185 x3_1)∧Aside0 (Below w.heap.size w w'))
   case atStart=>exact ⟨(y184),(0),(by first|rfl|(simp;done)|(simp [*];done)),H',⟨Nat.le_refl _⟩,⟨by (with_reducible repeat (first|apply Kd.S_alloc|apply Kd.S_drewN|apply Kd.S_drew));exact HO186.out⟩,⟨by repeat (first|exact HB.out|apply below_alloc|apply pw_below_drewN|apply below_drew1)⟩⟩
   case round =>
    clear H'
    try clear c2;try clear c2b0;try clear c2b1;try clear p2;try clear c3;try clear c3b0;try clear c3b1
    obtain ⟨x3_1,x4_1,rfl,HA,HK1,HO_3,HB⟩:=hrel
    cases gk with
    | zero=>exact absurd HA.out (by simp [laws_toChangeS.l0])
    | succ k1 =>
     have H:=HA.out
     clear HA
     simp only [laws_toChangeS.l0] at H
     by_cases c6 : x4_1 < (l0.length : Int)
     ·rw [if_pos c6] at H
      have c6b0 : decide (x4_1 < (l0.length : Int)) = true:=decide_eq_true c6
      clear c6
      by_cases c7 : 0 ≤ x4_1
      ·rw [if_pos c7] at H
       have c7b0 : decide (0 ≤ x4_1) = true:=decide_eq_true c7
       clear c7
       replace H:=Option.bind_eq_some_iff.mp H
       obtain ⟨t188,A80,H⟩:=H
       replace H : (if x4_1 < (x3_1.length : Int) then (laws_toChangeS.l0 k1 l0 (x3_1.set (x4_1 : Int).toNat (⟨t188⟩ : S112)) (wrap64 (x4_1 + 1))) else (none)) = some r:=H
       have A8:=Aside0.mk A80
       clear A80
       by_cases c9 : x4_1 < (x3_1.length : Int)
       ·rw [if_pos c9] at H
        have c9b0 : decide (x4_1 < (x3_1.length : Int)) = true:=decide_eq_true c9
        clear c9
        obtain ⟨y191,hy191⟩ : ∃ y_ : List (S112),y_ = (x3_1.set (x4_1 : Int).toNat (⟨t188⟩ : S112)):=⟨_,rfl⟩
        replace H : (laws_toChangeS.l0 k1 l0 y191 (wrap64 (x4_1 + 1))) = some r:=by first|(rw [hy191];with_reducible exact H)|(have H2_:=(Option.bind_some _ _).symm.trans H;rw [hy191];with_reducible exact H2_)|(have H2_:=(Option.bind_some _ _).symm.trans H;with_reducible exact H2_)|with_reducible exact H|(rw [hy191];exact H)|exact H
        have Ny191:=Aside0.mk hy191
        clear hy191
        have H':=Aside0.mk H
        clear H
        have p187 : 0 ≤ (x4_1 : Int):=of_decide_eq_true (by assumption)
        have q187 : x4_1 < (l0.length : Int):=of_decide_eq_true (by assumption)
        obtain ⟨ad187,A187_0,c187_0,e187,hx187_0,hl187_0,hi187_0⟩:=at_T108 HR0.out x4_1 p187 q187
        cases e187
        replace hx187_0:=(HB.out.cell (World.block_lt_of_cell? w _ hx187_0)).trans hx187_0
        have HR187_0:=Aside0.mk hi187_0
        have HC187_0:=Aside0.mk hl187_0
        clear hi187_0 hl187_0
        replace p187:=eq_true p187
        replace q187:=eq_true q187
        go_wp2_with (first|((with_reducible refine gate_callee (f:=87) rfl ?_);refine goesL_ (some 20) rfl rfl Try.func87 (by kernel_rfl) rfl #[.agg #[.slice A187_0 ((rd_T108 l0 x4_1).f0).length c187_0]] rfl (by (try simp only [List.map_toArray,List.map_cons,List.map_nil]);first|done|rfl|(simp only [List.length_drop,List.length_take];rfl)) ?_;(with_reducible refine (laws_toChange.calls k1 _ _ ((rd_T108 l0 x4_1).f0) t188 _ ?side1 ?side2 A8.out).mono ?_);(case side1=>repeat (first|exact (Kd.C_below HR187_0.out HB.out)|(with_reducible first|apply Kd.C_alloc|apply Kd.C_drewN|apply Kd.C_drew)));(case side2=>exact HC187_0.out);rintro e w11 ⟨v189,rfl,ho0,hb⟩;refine ⟨_,rfl,?_⟩;have n0_:=Aside0.mk (Kd.S_elder' (by (with_reducible repeat (first|apply Kd.S_alloc|apply Kd.S_drewN|apply Kd.S_drew));exact HO_3.out) (Kd.R_base ho0) hb);have n1_:=Aside0.mk (Kd.R_lower ho0 (below_size (by repeat (first|exact HB.out|apply below_alloc|apply pw_below_drewN|apply below_drew1))));have n2_:=Aside0.mk (below_step (by repeat (first|exact HB.out|apply below_alloc|apply pw_below_drewN|apply below_drew1)) hb);clear HO_3;clear HB;have HO_3:=n0_;have HO190:=n1_;have HB:=n2_;clear n0_ n1_ n2_;(try clear hb);(try clear hb2);(try clear hk);(try clear hi);(try clear ho0);have p10 : 0 ≤ (x4_1 : Int):=of_decide_eq_true (by assumption);have q10 : (x4_1 : Int) < ((x3_1.length : Int) : Int):=of_decide_eq_true (by assumption);obtain ⟨go10,co10,eo10,gb10,gl10,cl10,HG10⟩:=Kd.S_form HO_3.out (by omega);(first|cases eo10|(injection eo10 with ea_ en_ ec_;(first|subst ea_|(injection ea_ with ea_;subst ea_));subst ec_;clear en_));have GB10:=Aside0.mk gb10;have GG10:=Aside0.mk HG10;clear gb10 gl10 HG10;obtain ⟨_,ce10,hcl10,hM10,hcc10,hfr10,_,_⟩:=Kd.S_elem HO_3.out z112 (x4_1 : Int) p10 q10;obtain ⟨ve10_0,rfl,ge10_0⟩:=k112_openM hM10;have hx10_0:=hcc10 0 _ rfl;have hf10_0:=hfr10 0;(try simp only [show (k112).sz = 1 from rfl,Nat.mul_one,Nat.add_zero] at hx10_0);(try simp only [show (k112).sz = 1 from rfl,Nat.mul_one,Nat.add_zero] at hf10_0);clear hcl10 hcc10 hfr10 hM10;replace p10:=eq_true p10;replace q10:=eq_true q10;obtain ⟨Ao12,co12,eo12⟩:=Kd.R_slice HO190.out;subst eo12;have n_:=Aside0.mk (Kd.S_mono (ok':=(fun k_=>some k_ ≠ (.slice Ao12 t188.length co12 : Value).ownBlock)) HO_3.out (fun k_ hk=>hk.2));clear HO_3;have HO_3:=n_;clear n_;have HX13:=Aside0.mk (show Kd.S k112 112 w11 w.heap.size (fun k_=>((fun _=>True)) k_∧¬ ((fun k_=>some k_ = (.slice Ao12 t188.length co12 : Value).ownBlock)) k_) (.slice (some ⟨go10,0,none⟩) x3_1.length co10) x3_1 from (by (with_reducible repeat (first|apply Kd.S_alloc|apply Kd.S_drewN|apply Kd.S_drew));exact Kd.S_mono HO_3.out (fun k_ hk=>⟨trivial,fun e_=>hk e_⟩)));obtain ⟨oki13,ce13,hcl13,hM13,hcc13,hfr13,hoki13,hH13⟩:=Kd.S_elem HX13.out z112 (x4_1 : Int) (of_decide_eq_true (by assumption)) (by have h_ : (x4_1 : Int) < ((x3_1.length : Int) : Int):=of_decide_eq_true (by assumption);first|exact h_|(have e_:=(Kd.S_reads' HO_3.out).1;omega)|simpa using h_);obtain ⟨ve13_0,rfl,ge13_0⟩:=k112_openM hM13;have HP13:=Kd.S_seg hH13 (of_decide_eq_true (by assumption)) (by have h_ : (x4_1 : Int) < ((x3_1.length : Int) : Int):=of_decide_eq_true (by assumption);first|exact h_|(have e_:=(Kd.S_reads' HO_3.out).1;omega)|simpa using h_) (seg:=[.slice Ao12 t188.length co12]) (j:=0) (show 1 ≤ 1 from by decide) (x':=(⟨t188⟩ : S112)) (k112_mkM _ _ _ (⟨t188⟩ : S112) (Kd.R_mono (Kd.R_tight rfl (Kd.R_mono (ok':=fun k_=>((fun _=>True)) k_∧k_ ≠ go10) (Kd.R_apart' (HO190.out) (Kd.S_typed HO_3.out) (by decide)) (fun k_ hk=>⟨trivial,fun e_=>(hk.2) (by rw [e_];rfl)⟩))) (fun _ h_=>Or.inr (h_)))) (fun _ hk=>hk) (fun k_ hk_=>((Kd.R_mono (ok':=fun k_=>((fun _=>True)) k_∧k_ ≠ go10) (Kd.R_apart' (HO190.out) (Kd.S_typed HO_3.out) (by decide)) (fun k_ hk=>⟨trivial,fun e_=>(hk.2) (by rw [e_];rfl)⟩))).1 k_ hk_.symm);have hx13_0:=hcc13 0 _ rfl;(try simp only [show (k112).sz = 1 from rfl,Nat.mul_one,Nat.add_zero] at hx13_0);have hf13_0:=hfr13 0;(try simp only [show (k112).sz = 1 from rfl,Nat.mul_one,Nat.add_zero] at hf13_0);clear hcl13 hcc13 hfr13 hM13 hoki13 hH13;(try simp only [show (k112).sz = 1 from rfl,Nat.mul_one,Nat.add_zero] at HP13))|((with_reducible refine gate_store (t:=112) (p:=21) rfl ?_);refine store_event (t:=112) (p:=21) (v:=?vo_w14) (w1:=(w11.setCell ⟨go10,(x4_1 : Int).toNat,none⟩ (.slice Ao12 t188.length co12))) ?hg ?ho ?hn ?hr ?_;(case ho=>rfl);(case hg=>rfl);(case hn=>rfl);(case hr=>first|(go_simp;done)|(go_simp;rfl));intro w14 hw;have hg : w11.grownBy w14 (some go10):=(by rw [hw];exact HP13.2);have hp_ : Kd.S k112 112 w14 w.heap.size (fun _=>True) (.slice (some ⟨go10,0,none⟩) x3_1.length co10) y191:=(by rw [hw,Ny191.out];exact HP13.1);clear HP13;have n0_:=Aside0.mk (hp_);have n1_:=Aside0.mk ((by rw [hw];exact below_set (HB.out) GB10.out : Below w.heap.size w w14));clear HO_3;clear HB;clear HO190;have HO_3:=n0_;have HB:=n1_;clear n0_ n1_;clear hg hw hp_))
        go_roundg k1
        case measure=>have:=HK1.out;omega
        case rel=>exact ⟨(y191),(wrap64 (x4_1 + 1)),(by first|rfl|(simp;done)|(simp [*];done)),H',⟨by have:=HK1.out;omega⟩,⟨by (with_reducible repeat (first|apply Kd.S_alloc|apply Kd.S_drewN|apply Kd.S_drew));exact HO_3.out⟩,⟨by repeat (first|exact HB.out|apply below_alloc|apply pw_below_drewN|apply below_drew1)⟩⟩
       ·rw [if_neg c9] at H
        exact absurd H (by simp)
      ·rw [if_neg c7] at H
       exact absurd H (by simp)
     ·rw [if_neg c6] at H
      have c6b0 : decide (x4_1 < (l0.length : Int)) = false:=decide_eq_false c6
      clear c6
      obtain rfl:=Option.some.inj H
      go_wp2
      go_ret
      exact ⟨_,by first|rfl|(simp [*,errW_none,errW_some] <;> rfl),by (with_reducible repeat (first|apply Kd.S_alloc|apply Kd.S_drewN|apply Kd.S_drew));exact HO_3.out,by repeat (first|exact HB.out|apply below_alloc|apply pw_below_drewN|apply below_drew1)⟩
  ·rw [if_neg c3] at H
   exact absurd H (by simp)
 ·rw [if_neg c2] at H
  exact absurd H (by simp)

/-! ### laws_toHistory: function 33 -/
def laws_toHistory.f (k : Nat) (a0_0 : Int) (a0_1 : ByteArray) (l0_2 : List (S76)) (l0_3 : List (S108)) : Option (Int × ByteArray × (List (S74)) × (List (S112))):=(laws_toRunS.f k l0_2).bind fun t195=>((laws_toChangeS.f k l0_3).bind fun t198=>(some (a0_0,a0_1,t195,t198)))
theorem laws_toHistory.mono : ∀ a0 a1 a2 a3 k,LeO (laws_toHistory.f k a0 a1 a2 a3) (laws_toHistory.f (k + 1) a0 a1 a2 a3):=by
 intro a0 a1 a2 a3 k
 unfold laws_toHistory.f
 repeat' first
   | (with_reducible exact laws_toChangeS.mono _ _)
   | (with_reducible exact laws_toRunS.mono _ _)
   | (with_reducible exact LeO.refl _)
   | (with_reducible exact LeO.none _)
   | (with_reducible refine LeO.ite ?_ ?_)
   | (with_reducible refine LeO.bind ?_ (fun _=>?_))
   | exact laws_toChangeS.mono _ _
   | exact laws_toRunS.mono _ _
   | exact LeO.none _
   | refine LeO.ite ?_ ?_
   | refine LeO.bind ?_ (fun _=>?_)
set_option maxHeartbeats 8000000 in
set_option maxRecDepth 100000 in
theorem laws_toHistory.calls (k : Nat) (a0_0 : Int) (a0_1 : ByteArray) (A0_2 : Option Addr) (c0_2 : Nat) (l0_2 : List (S76)) (A0_3 : Option Addr) (c0_3 : Nat) (l0_3 : List (S108)) (r1 : Int) (r2 : ByteArray) (r3 : List (S74)) (r4 : List (S112)) (w : World) (hr0_2 : Kd.C k76 w A0_2 l0_2.length l0_2) (hc0_2 : l0_2.length ≤ c0_2) (hr0_3 : Kd.C k108 w A0_3 l0_3.length l0_3) (hc0_3 : l0_3.length ≤ c0_3) (h : laws_toHistory.f k a0_0 a0_1 l0_2 l0_3 = some (r1,r2,r3,r4)) :
  Calls Try.prog 33 #[.agg #[.int .i64 a0_0,.string a0_1,.slice A0_2 l0_2.length c0_2,.slice A0_3 l0_3.length c0_3]] w fun e w'=>∃ v2_ v3_ : Value,e = .returned (.agg #[.int .i64 r1,.string r2,v2_,v3_])∧Kd.R k74 74 w' w.heap.size (fun _=>True) v2_ r3∧Kd.S k112 112 w' w.heap.size (fun _=>True) v3_ r4∧Below w.heap.size w w':=by
 have hu49:=Try.underlying49
 have hu55:=Try.underlying55
 have HR0_2:=Aside0.mk hr0_2
 have HC0_2:=Aside0.mk hc0_2
 clear hr0_2 hc0_2
 have HR0_3:=Aside0.mk hr0_3
 have HC0_3:=Aside0.mk hc0_3
 clear hr0_3 hc0_3
 have HB:=Aside0.mk (Below.refl w.heap.size w)
 have H : ((laws_toRunS.f k l0_2).bind fun t195=>((laws_toChangeS.f k l0_3).bind fun t198=>(some (a0_0,a0_1,t195,t198)))) = some (r1,r2,r3,r4):=h
 clear h
 replace H:=Option.bind_eq_some_iff.mp H
 obtain ⟨t195,A20,H⟩:=H
 replace H : ((laws_toChangeS.f k l0_3).bind fun t198=>(some (a0_0,a0_1,t195,t198))) = some (r1,r2,r3,r4):=H
 have A2:=Aside0.mk A20
 clear A20
 replace H:=Option.bind_eq_some_iff.mp H
 obtain ⟨t198,A30,H⟩:=H
 replace H : (some (a0_0,a0_1,t195,t198)) = some (r1,r2,r3,r4):=H
 have A3:=Aside0.mk A30
 clear A30
 simp only [Option.some.injEq,Prod.mk.injEq] at H
 obtain ⟨rfl,rfl,rfl,rfl⟩:=H
 go_enter Try.func33,Try.ntmps33
 go_wp2_with (first|((with_reducible refine gate_dst (N:=1) rfl ?_);refine box_event ?hg (N:=1) ?hd (cs:=#[.int .i64 a0_0,.string a0_1,.slice A0_2 l0_2.length c0_2,.slice A0_3 l0_3.length c0_3]) (t:=49) ?hr ?_;(case hd=>rfl);(case hg=>rfl);(case hr=>first|(go_simp;done)|(go_simp;rfl));intro gb192 hg w4 hbox hb;have n0_:=Aside0.mk (below_step (by repeat (first|exact HB.out|apply below_alloc|apply pw_below_drewN|apply below_drew1)) hb);have n1_:=Aside0.mk (hbox);have n2_:=Aside0.mk ((by rw [hg];exact (below_size (by repeat (first|exact HB.out|apply below_alloc|apply pw_below_drewN|apply below_drew1))) : w.heap.size ≤ gb192));have n3_:=Aside0.mk ((by rw [hg];exact (below_size (by repeat (first|exact HB.out|apply below_alloc|apply pw_below_drewN|apply below_drew1))) : w.heap.size ≤ gb192));clear HB;have HB:=n0_;have BK192:=n1_;have GW192:=n2_;have GE192:=n3_;clear n0_ n1_ n2_ n3_;clear hb hbox hg)|((with_reducible refine gate_dst (N:=2) rfl ?_);refine box_event ?hg (N:=2) ?hd (cs:=#[.int .i64 0,.string (⟨#[]⟩ : ByteArray),.slice none 0 0,.slice none 0 0]) (t:=55) ?hr ?_;(case hd=>rfl);(case hg=>rfl);(case hr=>first|(go_simp;done)|(go_simp;rfl));intro gb193 hg w5 hbox hb;have n0_:=Aside0.mk (blk_below (g:=gb192) (o:=.cells #[.int .i64 a0_0,.string a0_1,.slice A0_2 l0_2.length c0_2,.slice A0_3 l0_3.length c0_3] 49 (0,0)) (by (with_reducible repeat first|apply blk_drewN|apply blk_drew|apply blk_alloc);exact BK192.out) hb);have n1_:=Aside0.mk (below_step (by repeat (first|(with_reducible first|exact HB.out|apply below_alloc|apply pw_below_drewN|apply below_drew1|refine below_set ?_ GE192.out)|exact HB.out)) hb);have n2_:=Aside0.mk (hbox);have n3_:=Aside0.mk ((by rw [hg];exact (below_size (by repeat (first|(with_reducible first|exact HB.out|apply below_alloc|apply pw_below_drewN|apply below_drew1|refine below_set ?_ GE192.out)|exact HB.out))) : w.heap.size ≤ gb193));have n4_:=Aside0.mk ((by rw [hg];exact (below_size (by repeat (first|(with_reducible first|exact HB.out|apply below_alloc|apply pw_below_drewN|apply below_drew1|refine below_set ?_ GE192.out)|exact HB.out))) : w.heap.size ≤ gb193));have n5_:=Aside0.mk ((by rw [hg];exact Nat.ne_of_lt (blk_lt (g:=gb192) (o:=.cells #[.int .i64 a0_0,.string a0_1,.slice A0_2 l0_2.length c0_2,.slice A0_3 l0_3.length c0_3] 49 (0,0)) (by (with_reducible repeat first|apply blk_drewN|apply blk_drew|apply blk_alloc);exact BK192.out)) : gb192 ≠ gb193));have n6_:=Aside0.mk ((by rw [hg];exact Nat.ne_of_gt (blk_lt (g:=gb192) (o:=.cells #[.int .i64 a0_0,.string a0_1,.slice A0_2 l0_2.length c0_2,.slice A0_3 l0_3.length c0_3] 49 (0,0)) (by (with_reducible repeat first|apply blk_drewN|apply blk_drew|apply blk_alloc);exact BK192.out)) : gb193 ≠ gb192));clear BK192;clear HB;have BK192:=n0_;have HB:=n1_;have BK193:=n2_;have GW193:=n3_;have GE193:=n4_;have NB192_193:=n5_;have NB193_192:=n6_;clear n0_ n1_ n2_ n3_ n4_ n5_ n6_;clear hb hbox hg)|((with_reducible refine gate_dst (N:=3) rfl ?_);refine box_event ?hg (N:=3) ?hd (cs:=#[.int .i64 0,.string (⟨#[]⟩ : ByteArray),.slice none 0 0,.slice none 0 0]) (t:=55) ?hr ?_;(case hd=>rfl);(case hg=>rfl);(case hr=>first|(go_simp;done)|(go_simp;rfl));intro gb194 hg w6 hbox hb;have n0_:=Aside0.mk (blk_below (g:=gb192) (o:=.cells #[.int .i64 a0_0,.string a0_1,.slice A0_2 l0_2.length c0_2,.slice A0_3 l0_3.length c0_3] 49 (0,0)) (by (with_reducible repeat first|apply blk_drewN|apply blk_drew|apply blk_alloc);exact BK192.out) hb);have n1_:=Aside0.mk (blk_below (g:=gb193) (o:=.cells #[.int .i64 0,.string (⟨#[]⟩ : ByteArray),.slice none 0 0,.slice none 0 0] 55 (0,0)) (by (with_reducible repeat first|apply blk_drewN|apply blk_drew|apply blk_alloc);exact BK193.out) hb);have n2_:=Aside0.mk (below_step (by repeat (first|(with_reducible first|exact HB.out|apply below_alloc|apply pw_below_drewN|apply below_drew1|refine below_set ?_ GE192.out|refine below_set ?_ GE193.out)|exact HB.out)) hb);have n3_:=Aside0.mk (hbox);have n4_:=Aside0.mk ((by rw [hg];exact (below_size (by repeat (first|(with_reducible first|exact HB.out|apply below_alloc|apply pw_below_drewN|apply below_drew1|refine below_set ?_ GE192.out|refine below_set ?_ GE193.out)|exact HB.out))) : w.heap.size ≤ gb194));have n5_:=Aside0.mk ((by rw [hg];exact (below_size (by repeat (first|(with_reducible first|exact HB.out|apply below_alloc|apply pw_below_drewN|apply below_drew1|refine below_set ?_ GE192.out|refine below_set ?_ GE193.out)|exact HB.out))) : w.heap.size ≤ gb194));have n6_:=Aside0.mk ((by rw [hg];exact Nat.ne_of_lt (blk_lt (g:=gb192) (o:=.cells #[.int .i64 a0_0,.string a0_1,.slice A0_2 l0_2.length c0_2,.slice A0_3 l0_3.length c0_3] 49 (0,0)) (by (with_reducible repeat first|apply blk_drewN|apply blk_drew|apply blk_alloc);exact BK192.out)) : gb192 ≠ gb194));have n7_:=Aside0.mk ((by rw [hg];exact Nat.ne_of_gt (blk_lt (g:=gb192) (o:=.cells #[.int .i64 a0_0,.string a0_1,.slice A0_2 l0_2.length c0_2,.slice A0_3 l0_3.length c0_3] 49 (0,0)) (by (with_reducible repeat first|apply blk_drewN|apply blk_drew|apply blk_alloc);exact BK192.out)) : gb194 ≠ gb192));have n8_:=Aside0.mk ((by rw [hg];exact Nat.ne_of_lt (blk_lt (g:=gb193) (o:=.cells #[.int .i64 0,.string (⟨#[]⟩ : ByteArray),.slice none 0 0,.slice none 0 0] 55 (0,0)) (by (with_reducible repeat first|apply blk_drewN|apply blk_drew|apply blk_alloc);exact BK193.out)) : gb193 ≠ gb194));have n9_:=Aside0.mk ((by rw [hg];exact Nat.ne_of_gt (blk_lt (g:=gb193) (o:=.cells #[.int .i64 0,.string (⟨#[]⟩ : ByteArray),.slice none 0 0,.slice none 0 0] 55 (0,0)) (by (with_reducible repeat first|apply blk_drewN|apply blk_drew|apply blk_alloc);exact BK193.out)) : gb194 ≠ gb193));clear BK192;clear BK193;clear HB;have BK192:=n0_;have BK193:=n1_;have HB:=n2_;have BK194:=n3_;have GW194:=n4_;have GE194:=n5_;have NB192_194:=n6_;have NB194_192:=n7_;have NB193_194:=n8_;have NB194_193:=n9_;clear n0_ n1_ n2_ n3_ n4_ n5_ n6_ n7_ n8_ n9_;clear hb hbox hg;have hnb7:=NB192_193.out;have hnc7:=NB193_192.out;have hnb8:=NB192_194.out;have hnc8:=NB194_192.out;have hcz9_0 : w6.cell? ⟨gb192,0,none⟩ = some (.int .i64 a0_0):=(blk_cell BK192.out 0).trans rfl;have hcz9_1 : w6.cell? ⟨gb192,1,none⟩ = some (.string a0_1):=(blk_cell BK192.out 1).trans rfl;have hcz9_2 : w6.cell? ⟨gb192,2,none⟩ = some (.slice A0_2 l0_2.length c0_2):=(blk_cell BK192.out 2).trans rfl;have hcz9_3 : w6.cell? ⟨gb192,3,none⟩ = some (.slice A0_3 l0_3.length c0_3):=(blk_cell BK192.out 3).trans rfl;have hfz9_0:=blk_frozen BK192.out 0;have hfz9_1:=blk_frozen BK192.out 1;have hfz9_2:=blk_frozen BK192.out 2;have hfz9_3:=blk_frozen BK192.out 3;have hnb10:=NB194_193.out;have hnc10:=NB193_194.out;have hcz11_0 : w6.cell? ⟨gb194,0,none⟩ = some (.int .i64 0):=(blk_cell BK194.out 0).trans rfl;have hcz11_1 : w6.cell? ⟨gb194,1,none⟩ = some (.string (⟨#[]⟩ : ByteArray)):=(blk_cell BK194.out 1).trans rfl;have hcz11_2 : w6.cell? ⟨gb194,2,none⟩ = some (.slice none 0 0):=(blk_cell BK194.out 2).trans rfl;have hcz11_3 : w6.cell? ⟨gb194,3,none⟩ = some (.slice none 0 0):=(blk_cell BK194.out 3).trans rfl;have hfz11_0:=blk_frozen BK194.out 0;have hfz11_1:=blk_frozen BK194.out 1;have hfz11_2:=blk_frozen BK194.out 2;have hfz11_3:=blk_frozen BK194.out 3)|((with_reducible refine gate_callee (f:=12) rfl ?_);refine goesL_ (some 12) rfl rfl Try.func12 (by kernel_rfl) rfl #[.slice A0_2 l0_2.length c0_2] rfl (by (try simp only [List.map_toArray,List.map_cons,List.map_nil]);first|done|rfl|(simp only [List.length_drop,List.length_take];rfl)) ?_;(with_reducible refine (laws_toRunS.calls k _ _ l0_2 t195 _ ?side1 ?side2 A2.out).mono ?_);(case side1=>exact Kd.C_below HR0_2.out (by repeat (first|(with_reducible first|exact HB.out|apply below_alloc|apply pw_below_drewN|apply below_drew1|refine below_set ?_ GE192.out|refine below_set ?_ GE193.out|refine below_set ?_ GE194.out)|exact HB.out)));(case side2=>exact HC0_2.out);rintro e w12 ⟨v196,rfl,ho0,hb⟩;refine ⟨_,rfl,?_⟩;have n0_:=Aside0.mk (Kd.R_lower ho0 (below_size (by repeat (first|(with_reducible first|exact HB.out|apply below_alloc|apply pw_below_drewN|apply below_drew1|refine below_set ?_ GE192.out|refine below_set ?_ GE193.out|refine below_set ?_ GE194.out)|exact HB.out))));have n1_:=Aside0.mk (blk_below (g:=gb192) (o:=.cells #[.int .i64 a0_0,.string a0_1,.slice A0_2 l0_2.length c0_2,.slice A0_3 l0_3.length c0_3] 49 (0,0)) (by (with_reducible repeat first|apply blk_drewN|apply blk_drew|apply blk_alloc);refine blk_far ?_ NB192_194.out _;(with_reducible repeat first|apply blk_drewN|apply blk_drew|apply blk_alloc);refine blk_far ?_ NB192_194.out _;(with_reducible repeat first|apply blk_drewN|apply blk_drew|apply blk_alloc);exact BK192.out) hb);have n2_:=Aside0.mk (blk_below (g:=gb193) (o:=.cells #[.int .i64 0,.string (⟨#[]⟩ : ByteArray),.slice none 0 0,.slice none 0 0] 55 (0,0)) (by (with_reducible repeat first|apply blk_drewN|apply blk_drew|apply blk_alloc);refine blk_far ?_ NB193_194.out _;(with_reducible repeat first|apply blk_drewN|apply blk_drew|apply blk_alloc);refine blk_far ?_ NB193_194.out _;(with_reducible repeat first|apply blk_drewN|apply blk_drew|apply blk_alloc);exact BK193.out) hb);have n3_:=Aside0.mk (blk_below (g:=gb194) (o:=.cells #[.int .i64 a0_0,.string a0_1,.slice none 0 0,.slice none 0 0] 55 (0,0)) (by (with_reducible repeat first|apply blk_drewN|apply blk_drew|apply blk_alloc);refine blk_put (cs:=#[.int .i64 a0_0,.string (⟨#[]⟩ : ByteArray),.slice none 0 0,.slice none 0 0]) ?_ 1 _ rfl;(with_reducible repeat first|apply blk_drewN|apply blk_drew|apply blk_alloc);refine blk_put (cs:=#[.int .i64 0,.string (⟨#[]⟩ : ByteArray),.slice none 0 0,.slice none 0 0]) ?_ 0 _ rfl;(with_reducible repeat first|apply blk_drewN|apply blk_drew|apply blk_alloc);exact BK194.out) hb);have n4_:=Aside0.mk (below_step (by repeat (first|(with_reducible first|exact HB.out|apply below_alloc|apply pw_below_drewN|apply below_drew1|refine below_set ?_ GE192.out|refine below_set ?_ GE193.out|refine below_set ?_ GE194.out)|exact HB.out)) hb);clear BK192;clear BK193;clear BK194;clear HB;have HO197:=n0_;have BK192:=n1_;have BK193:=n2_;have BK194:=n3_;have HB:=n4_;clear n0_ n1_ n2_ n3_ n4_;(try clear hb);(try clear hb2);(try clear hk);(try clear hi);(try clear ho0);obtain ⟨Ao13,co13,eo13⟩:=Kd.R_slice HO197.out;subst eo13;have hcz14_0 : w12.cell? ⟨gb194,0,none⟩ = some (.int .i64 a0_0):=(blk_cell BK194.out 0).trans rfl;have hcz14_1 : w12.cell? ⟨gb194,1,none⟩ = some (.string a0_1):=(blk_cell BK194.out 1).trans rfl;have hcz14_2 : w12.cell? ⟨gb194,2,none⟩ = some (.slice none 0 0):=(blk_cell BK194.out 2).trans rfl;have hcz14_3 : w12.cell? ⟨gb194,3,none⟩ = some (.slice none 0 0):=(blk_cell BK194.out 3).trans rfl;have hfz14_0:=blk_frozen BK194.out 0;have hfz14_1:=blk_frozen BK194.out 1;have hfz14_2:=blk_frozen BK194.out 2;have hfz14_3:=blk_frozen BK194.out 3;have hcz15_0 : w12.cell? ⟨gb192,0,none⟩ = some (.int .i64 a0_0):=(blk_cell BK192.out 0).trans rfl;have hcz15_1 : w12.cell? ⟨gb192,1,none⟩ = some (.string a0_1):=(blk_cell BK192.out 1).trans rfl;have hcz15_2 : w12.cell? ⟨gb192,2,none⟩ = some (.slice A0_2 l0_2.length c0_2):=(blk_cell BK192.out 2).trans rfl;have hcz15_3 : w12.cell? ⟨gb192,3,none⟩ = some (.slice A0_3 l0_3.length c0_3):=(blk_cell BK192.out 3).trans rfl;have hfz15_0:=blk_frozen BK192.out 0;have hfz15_1:=blk_frozen BK192.out 1;have hfz15_2:=blk_frozen BK192.out 2;have hfz15_3:=blk_frozen BK192.out 3)|((with_reducible refine gate_callee (f:=68) rfl ?_);refine goesL_ (some 16) rfl rfl Try.func68 (by kernel_rfl) rfl #[.slice A0_3 l0_3.length c0_3] rfl (by (try simp only [List.map_toArray,List.map_cons,List.map_nil]);first|done|rfl|(simp only [List.length_drop,List.length_take];rfl)) ?_;(with_reducible refine (laws_toChangeS.calls k _ _ l0_3 t198 _ ?side1 ?side2 A3.out).mono ?_);(case side1=>exact Kd.C_below HR0_3.out (by repeat (first|(with_reducible first|exact HB.out|apply below_alloc|apply pw_below_drewN|apply below_drew1|refine below_set ?_ GE192.out|refine below_set ?_ GE193.out|refine below_set ?_ GE194.out)|exact HB.out)));(case side2=>exact HC0_3.out);rintro e w16 ⟨v199,rfl,ho0,hb⟩;refine ⟨_,rfl,?_⟩;have n0_:=Aside0.mk (Kd.R_below (by (with_reducible repeat (first|apply Kd.R_alloc|apply Kd.R_drewN|apply Kd.R_drew));exact (Kd.R_mono (Kd.R_far (p:=⟨gb194,2,none⟩) (Kd.R_types HO197.out BK194.out (by decide)) (fun _ hk=>hk.2) (.slice Ao13 t195.length co13)) (fun _ h_=>h_.1))) hb);have n1_:=Aside0.mk (Kd.S_lower ho0 (below_size (by repeat (first|(with_reducible first|exact HB.out|apply below_alloc|apply pw_below_drewN|apply below_drew1|refine below_set ?_ GE192.out|refine below_set ?_ GE193.out|refine below_set ?_ GE194.out)|exact HB.out))));have n2_:=Aside0.mk (blk_below (g:=gb192) (o:=.cells #[.int .i64 a0_0,.string a0_1,.slice A0_2 l0_2.length c0_2,.slice A0_3 l0_3.length c0_3] 49 (0,0)) (by (with_reducible repeat first|apply blk_drewN|apply blk_drew|apply blk_alloc);refine blk_far ?_ NB192_194.out _;(with_reducible repeat first|apply blk_drewN|apply blk_drew|apply blk_alloc);exact BK192.out) hb);have n3_:=Aside0.mk (blk_below (g:=gb193) (o:=.cells #[.int .i64 0,.string (⟨#[]⟩ : ByteArray),.slice none 0 0,.slice none 0 0] 55 (0,0)) (by (with_reducible repeat first|apply blk_drewN|apply blk_drew|apply blk_alloc);refine blk_far ?_ NB193_194.out _;(with_reducible repeat first|apply blk_drewN|apply blk_drew|apply blk_alloc);exact BK193.out) hb);have n4_:=Aside0.mk (blk_below (g:=gb194) (o:=.cells #[.int .i64 a0_0,.string a0_1,.slice Ao13 t195.length co13,.slice none 0 0] 55 (0,0)) (by (with_reducible repeat first|apply blk_drewN|apply blk_drew|apply blk_alloc);refine blk_put (cs:=#[.int .i64 a0_0,.string a0_1,.slice none 0 0,.slice none 0 0]) ?_ 2 _ rfl;(with_reducible repeat first|apply blk_drewN|apply blk_drew|apply blk_alloc);exact BK194.out) hb);have n5_:=Aside0.mk (below_step (by repeat (first|(with_reducible first|exact HB.out|apply below_alloc|apply pw_below_drewN|apply below_drew1|refine below_set ?_ GE192.out|refine below_set ?_ GE193.out|refine below_set ?_ GE194.out)|exact HB.out)) hb);clear HO197;clear BK192;clear BK193;clear BK194;clear HB;have HO197:=n0_;have HO200:=n1_;have BK192:=n2_;have BK193:=n3_;have BK194:=n4_;have HB:=n5_;clear n0_ n1_ n2_ n3_ n4_ n5_;(try clear hb);(try clear hb2);(try clear hk);(try clear hi);(try clear ho0);obtain ⟨Ao17,co17,eo17⟩:=Kd.S_slice HO200.out;subst eo17;have hcz18_0 : w16.cell? ⟨gb194,0,none⟩ = some (.int .i64 a0_0):=(blk_cell BK194.out 0).trans rfl;have hcz18_1 : w16.cell? ⟨gb194,1,none⟩ = some (.string a0_1):=(blk_cell BK194.out 1).trans rfl;have hcz18_2 : w16.cell? ⟨gb194,2,none⟩ = some (.slice Ao13 t195.length co13):=(blk_cell BK194.out 2).trans rfl;have hcz18_3 : w16.cell? ⟨gb194,3,none⟩ = some (.slice none 0 0):=(blk_cell BK194.out 3).trans rfl;have hfz18_0:=blk_frozen BK194.out 0;have hfz18_1:=blk_frozen BK194.out 1;have hfz18_2:=blk_frozen BK194.out 2;have hfz18_3:=blk_frozen BK194.out 3;have hcz19_0 : w16.cell? ⟨gb193,0,none⟩ = some (.int .i64 0):=(blk_cell BK193.out 0).trans rfl;have hcz19_1 : w16.cell? ⟨gb193,1,none⟩ = some (.string (⟨#[]⟩ : ByteArray)):=(blk_cell BK193.out 1).trans rfl;have hcz19_2 : w16.cell? ⟨gb193,2,none⟩ = some (.slice none 0 0):=(blk_cell BK193.out 2).trans rfl;have hcz19_3 : w16.cell? ⟨gb193,3,none⟩ = some (.slice none 0 0):=(blk_cell BK193.out 3).trans rfl;have hfz19_0:=blk_frozen BK193.out 0;have hfz19_1:=blk_frozen BK193.out 1;have hfz19_2:=blk_frozen BK193.out 2;have hfz19_3:=blk_frozen BK193.out 3))
 refine bodyPost_ret (results_cell_row rfl _ _ gb193 55 #[.int .i64 a0_0,.string a0_1,.slice Ao13 t195.length co13,.slice Ao17 t198.length co17] (0,0) _ rfl (by (with_reducible repeat first|apply blk_drewN|apply blk_drew|apply blk_alloc);refine blk_put (cs:=#[.int .i64 a0_0,.string a0_1,.slice Ao13 t195.length co13,.slice none 0 0]) ?_ 3 _ rfl;(with_reducible repeat first|apply blk_drewN|apply blk_drew|apply blk_alloc);refine blk_put (cs:=#[.int .i64 a0_0,.string a0_1,.slice none 0 0,.slice none 0 0]) ?_ 2 _ rfl;(with_reducible repeat first|apply blk_drewN|apply blk_drew|apply blk_alloc);refine blk_put (cs:=#[.int .i64 a0_0,.string (⟨#[]⟩ : ByteArray),.slice none 0 0,.slice none 0 0]) ?_ 1 _ rfl;(with_reducible repeat first|apply blk_drewN|apply blk_drew|apply blk_alloc);refine blk_put (cs:=#[.int .i64 0,.string (⟨#[]⟩ : ByteArray),.slice none 0 0,.slice none 0 0]) ?_ 0 _ rfl;(with_reducible repeat first|apply blk_drewN|apply blk_drew|apply blk_alloc);refine blk_far ?_ NB193_194.out _;(with_reducible repeat first|apply blk_drewN|apply blk_drew|apply blk_alloc);exact BK193.out) Try.underlying55 rfl (by kernel_rfl)) rfl ?_
 exact ⟨_,_,by first|rfl|(simp [*,errW_none,errW_some] <;> rfl),by (with_reducible repeat (first|apply Kd.R_alloc|apply Kd.R_drewN|apply Kd.R_drew));exact Kd.R_mono (Kd.R_far (p:=⟨gb193,3,none⟩) (Kd.R_far (p:=⟨gb193,2,none⟩) (Kd.R_far (p:=⟨gb193,1,none⟩) (Kd.R_far (p:=⟨gb193,0,none⟩) (Kd.R_far (p:=⟨gb194,3,none⟩) (Kd.R_types (Kd.R_types HO197.out BK194.out (by decide)) BK193.out (by decide)) (fun _ hk=>hk.1.2) (.slice Ao17 t198.length co17)) (fun _ hk=>hk.2) (.int .i64 a0_0)) (fun _ hk=>hk.2) (.string a0_1)) (fun _ hk=>hk.2) (.slice Ao13 t195.length co13)) (fun _ hk=>hk.2) (.slice Ao17 t198.length co17)) (fun _ hk=>trivial),by (with_reducible repeat (first|apply Kd.S_alloc|apply Kd.S_drewN|apply Kd.S_drew));exact Kd.S_mono (Kd.S_far (p:=⟨gb193,3,none⟩) (Kd.S_far (p:=⟨gb193,2,none⟩) (Kd.S_far (p:=⟨gb193,1,none⟩) (Kd.S_far (p:=⟨gb193,0,none⟩) (Kd.S_far (p:=⟨gb194,3,none⟩) (Kd.S_types (Kd.S_types HO200.out BK194.out (by decide)) BK193.out (by decide)) (fun _ hk=>hk.1.2) (.slice Ao17 t198.length co17)) (fun _ hk=>hk.2) (.int .i64 a0_0)) (fun _ hk=>hk.2) (.string a0_1)) (fun _ hk=>hk.2) (.slice Ao13 t195.length co13)) (fun _ hk=>hk.2) (.slice Ao17 t198.length co17)) (fun _ hk=>trivial),by repeat (first|(with_reducible first|exact HB.out|apply below_alloc|apply pw_below_drewN|apply below_drew1|refine below_set ?_ GE192.out|refine below_set ?_ GE193.out|refine below_set ?_ GE194.out)|exact HB.out)⟩

/-! ### impl_within: function 49 -/
def impl_within.f (a0 : Int) (a1 : Int) (a2 : Int) : Option (Bool):=if a1 ≤ a0 then (some (decide (a0 ≤ a2))) else (some false)
set_option maxHeartbeats 8000000 in
set_option maxRecDepth 100000 in
theorem impl_within.calls (a0 : Int) (a1 : Int) (a2 : Int) (r : Bool) (w : World) (h : impl_within.f a0 a1 a2 = some r) :
  Calls Try.prog 49 #[.int .i64 a0,.int .i64 a1,.int .i64 a2] w fun e w'=>e = .returned (.bool r)∧Drawn0 w w':=by
 have H : (if a1 ≤ a0 then (some (decide (a0 ≤ a2))) else (some false)) = some r:=h
 clear h
 by_cases c4 : a1 ≤ a0
 ·rw [if_pos c4] at H
  have c4b0 : decide (a1 ≤ a0) = true:=decide_eq_true c4
  clear c4
  obtain rfl:=Option.some.inj H
  go_enter Try.func49,Try.ntmps49
  go_wp2
  go_ret
  exact ⟨by first|rfl|(simp;done)|(simp [*];done),by repeat (first|exact Drawn0.refl _|apply Drawn0.step)⟩
 ·rw [if_neg c4] at H
  have c4b0 : decide (a1 ≤ a0) = false:=decide_eq_false c4
  clear c4
  obtain rfl:=Option.some.inj H
  go_enter Try.func49,Try.ntmps49
  go_wp2
  go_ret
  exact ⟨by first|rfl|(simp;done)|(simp [*];done),by repeat (first|exact Drawn0.refl _|apply Drawn0.step)⟩

/-! ### impl_GoodRuns: function 61 -/
mutual
def impl_GoodRuns.j0 : Nat → List (S74) → Int → Int → Bool → Option (Bool)
 | 0,_,_,_,_=>none
 | k + 1,x0,x1,x2,x17=>if x17 = true then (some false) else (impl_GoodRuns.l0 k x0 x1 x2 0 x0 (x0.length : Int) 0)
def impl_GoodRuns.l0 : Nat → List (S74) → Int → Int → Int → List (S74) → Int → Int → Option (Bool)
 | 0,_,_,_,_,_,_,_=>none
 | k + 1,x0,x1,x2,x7,x18,x19,x20=>if x20 < x19 then (if 0 ≤ x20 then (if x20 < (x18.length : Int) then ((impl_within.f ((rd_T74 x18 x20).f0) 0 x2).bind fun t205=>(if t205 = true then ((impl_within.f ((rd_T74 x18 x20).f1) 1 120).bind fun t206=>(if t206 = true then (if x20 > 0 then (if 0 ≤ (wrap64 (x20 - 1)) then (if (wrap64 (x20 - 1)) < (x0.length : Int) then (impl_GoodRuns.j2 k x0 x1 x2 x7 x18 x19 x20 (((rd_T74 x0 (wrap64 (x20 - 1))).f0) == ((rd_T74 x18 x20).f0)) ((rd_T74 x18 x20).f0) ((rd_T74 x18 x20).f1)) else (none)) else (none)) else (impl_GoodRuns.j2 k x0 x1 x2 x7 x18 x19 x20 false ((rd_T74 x18 x20).f0) ((rd_T74 x18 x20).f1))) else (impl_GoodRuns.j2 k x0 x1 x2 x7 x18 x19 x20 true ((rd_T74 x18 x20).f0) ((rd_T74 x18 x20).f1)))) else (impl_GoodRuns.j2 k x0 x1 x2 x7 x18 x19 x20 true ((rd_T74 x18 x20).f0) ((rd_T74 x18 x20).f1)))) else (none)) else (none)) else (some (x7 == x1))
def impl_GoodRuns.j2 : Nat → List (S74) → Int → Int → Int → List (S74) → Int → Int → Bool → Int → Int → Option (Bool)
 | 0,_,_,_,_,_,_,_,_,_,_=>none
 | k + 1,x0,x1,x2,x7,x18,x19,x20,x50,x205000,x205001=>if x50 = true then (some false) else (if (wrap64 (x7 + x205001)) > x1 then (some false) else (impl_GoodRuns.l0 k x0 x1 x2 (wrap64 (x7 + x205001)) x18 x19 (wrap64 (x20 + 1))))
end
def impl_GoodRuns.f (k : Nat) (l0 : List (S74)) (a1 : Int) (a2 : Int) : Option (Bool):=(impl_within.f a1 0 120).bind fun t201=>(if t201 = true then ((impl_within.f a2 0 60).bind fun t202=>(impl_GoodRuns.j0 k l0 a1 a2 (!t202))) else (impl_GoodRuns.j0 k l0 a1 a2 true))
theorem impl_GoodRuns.mono_l : ∀ k,(∀ y0 y1 y2 y3,LeO (impl_GoodRuns.j0 k y0 y1 y2 y3) (impl_GoodRuns.j0 (k + 1) y0 y1 y2 y3))∧(∀ y0 y1 y2 y3 y4 y5 y6,LeO (impl_GoodRuns.l0 k y0 y1 y2 y3 y4 y5 y6) (impl_GoodRuns.l0 (k + 1) y0 y1 y2 y3 y4 y5 y6))∧(∀ y0 y1 y2 y3 y4 y5 y6 y7 y8 y9,LeO (impl_GoodRuns.j2 k y0 y1 y2 y3 y4 y5 y6 y7 y8 y9) (impl_GoodRuns.j2 (k + 1) y0 y1 y2 y3 y4 y5 y6 y7 y8 y9))
 | 0=>⟨fun _ _ _ _ r h=>by simp [impl_GoodRuns.j0] at h,fun _ _ _ _ _ _ _ r h=>by simp [impl_GoodRuns.l0] at h,fun _ _ _ _ _ _ _ _ _ _ r h=>by simp [impl_GoodRuns.j2] at h⟩
 | k + 1=>by
  obtain ⟨ih0,ih1,ih2⟩:=impl_GoodRuns.mono_l k
  refine ⟨?_,?_,?_⟩
  ·intro y0 y1 y2 y3
   unfold impl_GoodRuns.j0
   repeat' first
   | (with_reducible exact ih0 _ _ _ _)
   | (with_reducible exact ih1 _ _ _ _ _ _ _)
   | (with_reducible exact ih2 _ _ _ _ _ _ _ _ _ _)
   | (with_reducible exact LeO.refl _)
   | (with_reducible exact LeO.none _)
   | (with_reducible refine LeO.ite ?_ ?_)
   | (with_reducible refine LeO.bind ?_ (fun _=>?_))
   | exact ih0 _ _ _ _
   | exact ih1 _ _ _ _ _ _ _
   | exact ih2 _ _ _ _ _ _ _ _ _ _
   | exact LeO.none _
   | refine LeO.ite ?_ ?_
   | refine LeO.bind ?_ (fun _=>?_)
  ·intro y0 y1 y2 y3 y4 y5 y6
   unfold impl_GoodRuns.l0
   repeat' first
   | (with_reducible exact ih0 _ _ _ _)
   | (with_reducible exact ih1 _ _ _ _ _ _ _)
   | (with_reducible exact ih2 _ _ _ _ _ _ _ _ _ _)
   | (with_reducible exact LeO.refl _)
   | (with_reducible exact LeO.none _)
   | (with_reducible refine LeO.ite ?_ ?_)
   | (with_reducible refine LeO.bind ?_ (fun _=>?_))
   | exact ih0 _ _ _ _
   | exact ih1 _ _ _ _ _ _ _
   | exact ih2 _ _ _ _ _ _ _ _ _ _
   | exact LeO.none _
   | refine LeO.ite ?_ ?_
   | refine LeO.bind ?_ (fun _=>?_)
  ·intro y0 y1 y2 y3 y4 y5 y6 y7 y8 y9
   unfold impl_GoodRuns.j2
   repeat' first
   | (with_reducible exact ih0 _ _ _ _)
   | (with_reducible exact ih1 _ _ _ _ _ _ _)
   | (with_reducible exact ih2 _ _ _ _ _ _ _ _ _ _)
   | (with_reducible exact LeO.refl _)
   | (with_reducible exact LeO.none _)
   | (with_reducible refine LeO.ite ?_ ?_)
   | (with_reducible refine LeO.bind ?_ (fun _=>?_))
   | exact ih0 _ _ _ _
   | exact ih1 _ _ _ _ _ _ _
   | exact ih2 _ _ _ _ _ _ _ _ _ _
   | exact LeO.none _
   | refine LeO.ite ?_ ?_
   | refine LeO.bind ?_ (fun _=>?_)
theorem impl_GoodRuns.mono : ∀ a0 a1 a2 k,LeO (impl_GoodRuns.f k a0 a1 a2) (impl_GoodRuns.f (k + 1) a0 a1 a2):=by
 intro a0 a1 a2 k
 obtain ⟨ih0,ih1,ih2⟩:=impl_GoodRuns.mono_l k
 unfold impl_GoodRuns.f
 repeat' first
   | (with_reducible exact ih0 _ _ _ _)
   | (with_reducible exact ih1 _ _ _ _ _ _ _)
   | (with_reducible exact ih2 _ _ _ _ _ _ _ _ _ _)
   | (with_reducible exact LeO.refl _)
   | (with_reducible exact LeO.none _)
   | (with_reducible refine LeO.ite ?_ ?_)
   | (with_reducible refine LeO.bind ?_ (fun _=>?_))
   | exact ih0 _ _ _ _
   | exact ih1 _ _ _ _ _ _ _
   | exact ih2 _ _ _ _ _ _ _ _ _ _
   | exact LeO.none _
   | refine LeO.ite ?_ ?_
   | refine LeO.bind ?_ (fun _=>?_)
set_option maxHeartbeats 8000000 in
set_option maxRecDepth 100000 in
theorem impl_GoodRuns.calls (k : Nat) (A0 : Option Addr) (c0 : Nat) (l0 : List (S74)) (a1 : Int) (a2 : Int) (r : Bool) (w : World) (hr0 : Kd.C k74 w A0 l0.length l0) (hc0 : l0.length ≤ c0) (h : impl_GoodRuns.f k l0 a1 a2 = some r) :
  Calls Try.prog 61 #[.slice A0 l0.length c0,.int .i64 a1,.int .i64 a2] w fun e w'=>e = .returned (.bool r)∧Below w.heap.size w w':=by
 have hu74:=Try.underlying74
 have HR0:=Aside0.mk hr0
 have HC0:=Aside0.mk hc0
 clear hr0 hc0
 have HB:=Aside0.mk (Below.refl w.heap.size w)
 have H : ((impl_within.f a1 0 120).bind fun t201=>(if t201 = true then ((impl_within.f a2 0 60).bind fun t202=>(impl_GoodRuns.j0 k l0 a1 a2 (!t202))) else (impl_GoodRuns.j0 k l0 a1 a2 true))) = some r:=h
 clear h
 have HC4:=Aside0.mk H
 clear H
 go_enter Try.func61,Try.ntmps61
 go_upto_region 1 with (fail)
 repeat (go_quiet (fail);go_upto_region 1 with (fail))
 go_cut [17] (fun v17 wc=>∃ (kq : Nat) (x17_3 : Bool),v17 = .bool x17_3∧Aside0 (impl_GoodRuns.j0 kq l0 a1 a2 x17_3 = some r)∧Aside0 (kq ≤ k)∧Aside0 (Below w.heap.size w wc))
 case first =>
  have H:=HC4.out
  clear HC4
  replace H:=Option.bind_eq_some_iff.mp H
  obtain ⟨t201,A50,H⟩:=H
  replace H : (if t201 = true then ((impl_within.f a2 0 60).bind fun t202=>(impl_GoodRuns.j0 k l0 a1 a2 (!t202))) else (impl_GoodRuns.j0 k l0 a1 a2 true)) = some r:=H
  have A5:=Aside0.mk A50
  clear A50
  by_cases c6 : t201 = true
  ·subst c6
   have H1 : ((impl_within.f a2 0 60).bind fun t202=>(impl_GoodRuns.j0 k l0 a1 a2 (!t202))) = some r:=by rw [if_pos rfl] at H;exact H
   clear H
   have H:=H1
   clear H1
   replace H:=Option.bind_eq_some_iff.mp H
   obtain ⟨t202,A70,H⟩:=H
   replace H : (impl_GoodRuns.j0 k l0 a1 a2 (!t202)) = some r:=H
   have A7:=Aside0.mk A70
   clear A70
   have H':=Aside0.mk H
   clear H
   go_wp2_with (first|(go_at_call 49;(with_reducible refine (impl_within.calls a1 0 120 true _ A5.out).mono ?_);rintro e w' ⟨rfl,⟨nd,rfl⟩⟩;(try first|exact ⟨rfl,_,World.drewN_drewN _ _ _⟩|exact ⟨rfl,_,Eq.trans (World.drewN_drewN _ _ _) (congrArg (World.drewN _) (Nat.add_assoc _ _ _))⟩))|(go_at_call 49;(with_reducible refine (impl_within.calls a2 0 60 t202 _ A7.out).mono ?_);rintro e w' ⟨rfl,⟨nd,rfl⟩⟩;(try first|exact ⟨rfl,_,World.drewN_drewN _ _ _⟩|exact ⟨rfl,_,Eq.trans (World.drewN_drewN _ _ _) (congrArg (World.drewN _) (Nat.add_assoc _ _ _))⟩)))
   repeat (go_quiet (first|(go_at_call 49;(with_reducible refine (impl_within.calls a1 0 120 true _ A5.out).mono ?_);rintro e w' ⟨rfl,⟨nd,rfl⟩⟩;(try first|exact ⟨rfl,_,World.drewN_drewN _ _ _⟩|exact ⟨rfl,_,Eq.trans (World.drewN_drewN _ _ _) (congrArg (World.drewN _) (Nat.add_assoc _ _ _))⟩))|(go_at_call 49;(with_reducible refine (impl_within.calls a2 0 60 t202 _ A7.out).mono ?_);rintro e w' ⟨rfl,⟨nd,rfl⟩⟩;(try first|exact ⟨rfl,_,World.drewN_drewN _ _ _⟩|exact ⟨rfl,_,Eq.trans (World.drewN_drewN _ _ _) (congrArg (World.drewN _) (Nat.add_assoc _ _ _))⟩)));try go_wp2_with (first|(go_at_call 49;(with_reducible refine (impl_within.calls a1 0 120 true _ A5.out).mono ?_);rintro e w' ⟨rfl,⟨nd,rfl⟩⟩;(try first|exact ⟨rfl,_,World.drewN_drewN _ _ _⟩|exact ⟨rfl,_,Eq.trans (World.drewN_drewN _ _ _) (congrArg (World.drewN _) (Nat.add_assoc _ _ _))⟩))|(go_at_call 49;(with_reducible refine (impl_within.calls a2 0 60 t202 _ A7.out).mono ?_);rintro e w' ⟨rfl,⟨nd,rfl⟩⟩;(try first|exact ⟨rfl,_,World.drewN_drewN _ _ _⟩|exact ⟨rfl,_,Eq.trans (World.drewN_drewN _ _ _) (congrArg (World.drewN _) (Nat.add_assoc _ _ _))⟩))))
   go_meet
   case rel=>exact ⟨_,(!t202),(by first|rfl|(simp;done)|(simp [*];done)),H',⟨by first|omega|exact Nat.le_refl _⟩,⟨by repeat (first|exact HB.out|apply below_alloc|apply pw_below_drewN|apply below_drew1)⟩⟩
  ·replace c6:=Bool.eq_false_iff.mpr c6
   subst c6
   have H1 : (impl_GoodRuns.j0 k l0 a1 a2 true) = some r:=by rw [if_neg (show ¬ (false = true) by decide)] at H;exact H
   clear H
   have H:=H1
   clear H1
   have H':=Aside0.mk H
   clear H
   go_wp2_with (first|(go_at_call 49;(with_reducible refine (impl_within.calls a1 0 120 false _ A5.out).mono ?_);rintro e w' ⟨rfl,⟨nd,rfl⟩⟩;(try first|exact ⟨rfl,_,World.drewN_drewN _ _ _⟩|exact ⟨rfl,_,Eq.trans (World.drewN_drewN _ _ _) (congrArg (World.drewN _) (Nat.add_assoc _ _ _))⟩)))
   repeat (go_quiet (first|(go_at_call 49;(with_reducible refine (impl_within.calls a1 0 120 false _ A5.out).mono ?_);rintro e w' ⟨rfl,⟨nd,rfl⟩⟩;(try first|exact ⟨rfl,_,World.drewN_drewN _ _ _⟩|exact ⟨rfl,_,Eq.trans (World.drewN_drewN _ _ _) (congrArg (World.drewN _) (Nat.add_assoc _ _ _))⟩)));try go_wp2_with (first|(go_at_call 49;(with_reducible refine (impl_within.calls a1 0 120 false _ A5.out).mono ?_);rintro e w' ⟨rfl,⟨nd,rfl⟩⟩;(try first|exact ⟨rfl,_,World.drewN_drewN _ _ _⟩|exact ⟨rfl,_,Eq.trans (World.drewN_drewN _ _ _) (congrArg (World.drewN _) (Nat.add_assoc _ _ _))⟩))))
   go_meet
   case rel=>exact ⟨_,(true),(by first|rfl|(simp;done)|(simp [*];done)),H',⟨by first|omega|exact Nat.le_refl _⟩,⟨by repeat (first|exact HB.out|apply below_alloc|apply pw_below_drewN|apply below_drew1)⟩⟩
 case rest =>
  clear HC4
  try clear p2;try clear c6
  obtain ⟨kq,x17_3,rfl,HA,HJ3,HB⟩:=hcut
  cases kq with
  | zero=>exact absurd HA.out (by simp [impl_GoodRuns.j0])
  | succ kj3 =>
   have H:=HA.out
   clear HA
   simp only [impl_GoodRuns.j0] at H
   by_cases c8 : x17_3 = true
   ·subst c8
    have H1 : (some false) = some r:=by rw [if_pos rfl] at H;exact H
    clear H
    have H:=H1
    clear H1
    obtain rfl:=Option.some.inj H
    go_wp2
    repeat (go_quiet (fail);try go_wp2)
    go_ret
    exact ⟨by first|rfl|(simp [*,errW_none,errW_some] <;> rfl),by repeat (first|exact HB.out|apply below_alloc|apply pw_below_drewN|apply below_drew1)⟩
   ·replace c8:=Bool.eq_false_iff.mpr c8
    subst c8
    have H1 : (impl_GoodRuns.l0 kj3 l0 a1 a2 0 l0 (l0.length : Int) 0) = some r:=by rw [if_neg (show ¬ (false = true) by decide)] at H;exact H
    clear H
    have H:=H1
    clear H1
    have H':=Aside0.mk H
    clear H
    go_wp2
    repeat (go_quiet (fail);try go_wp2)
    go_loopg [7,20] kj3 (fun kq v7 v20 w'=>∃ (x7_2 : Int) (x20_2 : Int),v7 = .int .i64 x7_2∧v20 = .int .i64 x20_2∧Aside0 (impl_GoodRuns.l0 kq l0 a1 a2 x7_2 l0 (l0.length : Int) x20_2 = some r)∧Aside0 (kq ≤ kj3)∧Aside0 (Below w.heap.size w w'))
    case atStart=>exact ⟨(0),(0),(by first|rfl|(simp;done)|(simp [*];done)),(by first|rfl|(simp;done)|(simp [*];done)),H',⟨Nat.le_refl _⟩,⟨by repeat (first|exact HB.out|apply below_alloc|apply pw_below_drewN|apply below_drew1)⟩⟩
    case round =>
     clear H'
     try clear p2;try clear c6;try clear c8;try clear p2
     obtain ⟨x7_2,x20_2,rfl,rfl,HA,HK2,HB⟩:=hrel
     cases gk with
     | zero=>exact absurd HA.out (by simp [impl_GoodRuns.l0])
     | succ k2 =>
      have H:=HA.out
      clear HA
      simp only [impl_GoodRuns.l0] at H
      by_cases c9 : x20_2 < (l0.length : Int)
      ·rw [if_pos c9] at H
       have c9b0 : decide (x20_2 < (l0.length : Int)) = true:=decide_eq_true c9
       clear c9
       by_cases c10 : 0 ≤ x20_2
       ·rw [if_pos c10] at H
        have c10b0 : decide (0 ≤ x20_2) = true:=decide_eq_true c10
        clear c10
        by_cases c11 : x20_2 < (l0.length : Int)
        ·rw [if_pos c11] at H
         have c11b0 : decide (x20_2 < (l0.length : Int)) = true:=decide_eq_true c11
         clear c11
         have HC12:=Aside0.mk H
         clear H
         have p203 : 0 ≤ (x20_2 : Int):=of_decide_eq_true (by assumption)
         have q203 : x20_2 < (l0.length : Int):=of_decide_eq_true (by assumption)
         obtain ⟨ad203,e203,hx203_0,hx203_1⟩:=at_T74 HR0.out x20_2 p203 q203
         cases e203
         replace hx203_0:=(HB.out.cell (World.block_lt_of_cell? w _ hx203_0)).trans hx203_0
         replace hx203_1:=(HB.out.cell (World.block_lt_of_cell? w _ hx203_1)).trans hx203_1
         replace p203:=eq_true p203
         replace q203:=eq_true q203
         go_upto_region 7 with (first|((with_reducible refine gate_dst (N:=9) rfl ?_);refine box_event ?hg (N:=9) ?hd (cs:=#[.int .i64 0,.int .i64 0]) (t:=74) ?hr ?_;(case hd=>rfl);(case hg=>rfl);(case hr=>first|(go_simp;done)|(go_simp;rfl));intro gb204 hg w13 hbox hb;have n0_:=Aside0.mk (below_step (by repeat (first|exact HB.out|apply below_alloc|apply pw_below_drewN|apply below_drew1)) hb);have n1_:=Aside0.mk (hbox);have n2_:=Aside0.mk ((by rw [hg];exact (below_size (by repeat (first|exact HB.out|apply below_alloc|apply pw_below_drewN|apply below_drew1))) : w.heap.size ≤ gb204));have n3_:=Aside0.mk ((by rw [hg];exact (below_size (by repeat (first|exact HB.out|apply below_alloc|apply pw_below_drewN|apply below_drew1))) : w.heap.size ≤ gb204));clear HB;have HB:=n0_;have BK204:=n1_;have GW204:=n2_;have GE204:=n3_;clear n0_ n1_ n2_ n3_;clear hb hbox hg;have hcz14_0 : w13.cell? ⟨gb204,0,none⟩ = some (.int .i64 0):=(blk_cell BK204.out 0).trans rfl;have hcz14_1 : w13.cell? ⟨gb204,1,none⟩ = some (.int .i64 0):=(blk_cell BK204.out 1).trans rfl;have hfz14_0:=blk_frozen BK204.out 0;have hfz14_1:=blk_frozen BK204.out 1))
         repeat (go_quiet (first|((with_reducible refine gate_dst (N:=9) rfl ?_);refine box_event ?hg (N:=9) ?hd (cs:=#[.int .i64 0,.int .i64 0]) (t:=74) ?hr ?_;(case hd=>rfl);(case hg=>rfl);(case hr=>first|(go_simp;done)|(go_simp;rfl));intro gb204 hg w13 hbox hb;have n0_:=Aside0.mk (below_step (by repeat (first|exact HB.out|apply below_alloc|apply pw_below_drewN|apply below_drew1)) hb);have n1_:=Aside0.mk (hbox);have n2_:=Aside0.mk ((by rw [hg];exact (below_size (by repeat (first|exact HB.out|apply below_alloc|apply pw_below_drewN|apply below_drew1))) : w.heap.size ≤ gb204));have n3_:=Aside0.mk ((by rw [hg];exact (below_size (by repeat (first|exact HB.out|apply below_alloc|apply pw_below_drewN|apply below_drew1))) : w.heap.size ≤ gb204));clear HB;have HB:=n0_;have BK204:=n1_;have GW204:=n2_;have GE204:=n3_;clear n0_ n1_ n2_ n3_;clear hb hbox hg;have hcz14_0 : w13.cell? ⟨gb204,0,none⟩ = some (.int .i64 0):=(blk_cell BK204.out 0).trans rfl;have hcz14_1 : w13.cell? ⟨gb204,1,none⟩ = some (.int .i64 0):=(blk_cell BK204.out 1).trans rfl;have hfz14_0:=blk_frozen BK204.out 0;have hfz14_1:=blk_frozen BK204.out 1));go_upto_region 7 with (first|((with_reducible refine gate_dst (N:=9) rfl ?_);refine box_event ?hg (N:=9) ?hd (cs:=#[.int .i64 0,.int .i64 0]) (t:=74) ?hr ?_;(case hd=>rfl);(case hg=>rfl);(case hr=>first|(go_simp;done)|(go_simp;rfl));intro gb204 hg w13 hbox hb;have n0_:=Aside0.mk (below_step (by repeat (first|exact HB.out|apply below_alloc|apply pw_below_drewN|apply below_drew1)) hb);have n1_:=Aside0.mk (hbox);have n2_:=Aside0.mk ((by rw [hg];exact (below_size (by repeat (first|exact HB.out|apply below_alloc|apply pw_below_drewN|apply below_drew1))) : w.heap.size ≤ gb204));have n3_:=Aside0.mk ((by rw [hg];exact (below_size (by repeat (first|exact HB.out|apply below_alloc|apply pw_below_drewN|apply below_drew1))) : w.heap.size ≤ gb204));clear HB;have HB:=n0_;have BK204:=n1_;have GW204:=n2_;have GE204:=n3_;clear n0_ n1_ n2_ n3_;clear hb hbox hg;have hcz14_0 : w13.cell? ⟨gb204,0,none⟩ = some (.int .i64 0):=(blk_cell BK204.out 0).trans rfl;have hcz14_1 : w13.cell? ⟨gb204,1,none⟩ = some (.int .i64 0):=(blk_cell BK204.out 1).trans rfl;have hfz14_0:=blk_frozen BK204.out 0;have hfz14_1:=blk_frozen BK204.out 1)))
         (try simp only [Act.put,List.setIfInBounds_toArray,List.set_cons_zero,List.set_cons_succ])
         go_cut [50] (fun v50 wc=>∃ (kq : Nat) (x50_11 : Bool),v50 = .bool x50_11∧Aside0 (impl_GoodRuns.j2 kq l0 a1 a2 x7_2 l0 (l0.length : Int) x20_2 x50_11 ((rd_T74 l0 x20_2).f0) ((rd_T74 l0 x20_2).f1) = some r)∧Aside0 (kq ≤ k2)∧Aside0 (wc.heap[gb204]? = some (.cells #[.int .i64 ((rd_T74 l0 x20_2).f0),.int .i64 ((rd_T74 l0 x20_2).f1)] 74 (0,0)))∧Aside0 (Below w.heap.size w wc))
         case first =>
          have H:=HC12.out
          clear HC12
          replace H:=Option.bind_eq_some_iff.mp H
          obtain ⟨t205,A150,H⟩:=H
          replace H : (if t205 = true then ((impl_within.f ((rd_T74 l0 x20_2).f1) 1 120).bind fun t206=>(if t206 = true then (if x20_2 > 0 then (if 0 ≤ (wrap64 (x20_2 - 1)) then (if (wrap64 (x20_2 - 1)) < (l0.length : Int) then (impl_GoodRuns.j2 k2 l0 a1 a2 x7_2 l0 (l0.length : Int) x20_2 (((rd_T74 l0 (wrap64 (x20_2 - 1))).f0) == ((rd_T74 l0 x20_2).f0)) ((rd_T74 l0 x20_2).f0) ((rd_T74 l0 x20_2).f1)) else (none)) else (none)) else (impl_GoodRuns.j2 k2 l0 a1 a2 x7_2 l0 (l0.length : Int) x20_2 false ((rd_T74 l0 x20_2).f0) ((rd_T74 l0 x20_2).f1))) else (impl_GoodRuns.j2 k2 l0 a1 a2 x7_2 l0 (l0.length : Int) x20_2 true ((rd_T74 l0 x20_2).f0) ((rd_T74 l0 x20_2).f1)))) else (impl_GoodRuns.j2 k2 l0 a1 a2 x7_2 l0 (l0.length : Int) x20_2 true ((rd_T74 l0 x20_2).f0) ((rd_T74 l0 x20_2).f1))) = some r:=H
          have A15:=Aside0.mk A150
          clear A150
          by_cases c16 : t205 = true
          ·subst c16
           have H1 : ((impl_within.f ((rd_T74 l0 x20_2).f1) 1 120).bind fun t206=>(if t206 = true then (if x20_2 > 0 then (if 0 ≤ (wrap64 (x20_2 - 1)) then (if (wrap64 (x20_2 - 1)) < (l0.length : Int) then (impl_GoodRuns.j2 k2 l0 a1 a2 x7_2 l0 (l0.length : Int) x20_2 (((rd_T74 l0 (wrap64 (x20_2 - 1))).f0) == ((rd_T74 l0 x20_2).f0)) ((rd_T74 l0 x20_2).f0) ((rd_T74 l0 x20_2).f1)) else (none)) else (none)) else (impl_GoodRuns.j2 k2 l0 a1 a2 x7_2 l0 (l0.length : Int) x20_2 false ((rd_T74 l0 x20_2).f0) ((rd_T74 l0 x20_2).f1))) else (impl_GoodRuns.j2 k2 l0 a1 a2 x7_2 l0 (l0.length : Int) x20_2 true ((rd_T74 l0 x20_2).f0) ((rd_T74 l0 x20_2).f1)))) = some r:=by rw [if_pos rfl] at H;exact H
           clear H
           have H:=H1
           clear H1
           replace H:=Option.bind_eq_some_iff.mp H
           obtain ⟨t206,A170,H⟩:=H
           replace H : (if t206 = true then (if x20_2 > 0 then (if 0 ≤ (wrap64 (x20_2 - 1)) then (if (wrap64 (x20_2 - 1)) < (l0.length : Int) then (impl_GoodRuns.j2 k2 l0 a1 a2 x7_2 l0 (l0.length : Int) x20_2 (((rd_T74 l0 (wrap64 (x20_2 - 1))).f0) == ((rd_T74 l0 x20_2).f0)) ((rd_T74 l0 x20_2).f0) ((rd_T74 l0 x20_2).f1)) else (none)) else (none)) else (impl_GoodRuns.j2 k2 l0 a1 a2 x7_2 l0 (l0.length : Int) x20_2 false ((rd_T74 l0 x20_2).f0) ((rd_T74 l0 x20_2).f1))) else (impl_GoodRuns.j2 k2 l0 a1 a2 x7_2 l0 (l0.length : Int) x20_2 true ((rd_T74 l0 x20_2).f0) ((rd_T74 l0 x20_2).f1))) = some r:=H
           have A17:=Aside0.mk A170
           clear A170
           by_cases c18 : t206 = true
           ·subst c18
            have H1 : (if x20_2 > 0 then (if 0 ≤ (wrap64 (x20_2 - 1)) then (if (wrap64 (x20_2 - 1)) < (l0.length : Int) then (impl_GoodRuns.j2 k2 l0 a1 a2 x7_2 l0 (l0.length : Int) x20_2 (((rd_T74 l0 (wrap64 (x20_2 - 1))).f0) == ((rd_T74 l0 x20_2).f0)) ((rd_T74 l0 x20_2).f0) ((rd_T74 l0 x20_2).f1)) else (none)) else (none)) else (impl_GoodRuns.j2 k2 l0 a1 a2 x7_2 l0 (l0.length : Int) x20_2 false ((rd_T74 l0 x20_2).f0) ((rd_T74 l0 x20_2).f1))) = some r:=by rw [if_pos rfl] at H;exact H
            clear H
            have H:=H1
            clear H1
            by_cases c19 : x20_2 > 0
            ·rw [if_pos c19] at H
             have c19b0 : decide (0 < x20_2) = true:=decide_eq_true c19
             clear c19
             (first|rw [c19b0]|(simp only [i64_w,i32_w];rw [c19b0])|skip)
             obtain ⟨ji20,hji20⟩ : ∃ j_ : Int,(wrap64 (x20_2 - 1)) = j_:=⟨_,rfl⟩
             replace H : (if 0 ≤ (ji20) then (if (ji20) < (l0.length : Int) then (impl_GoodRuns.j2 k2 l0 a1 a2 x7_2 l0 (l0.length : Int) x20_2 (((rd_T74 l0 (ji20)).f0) == ((rd_T74 l0 x20_2).f0)) ((rd_T74 l0 x20_2).f0) ((rd_T74 l0 x20_2).f1)) else (none)) else (none)) = some r:=by first|(rw [hji20] at H;exact H)|(simp only [hji20] at H ⊢;exact H)
             (try rw [hji20] at A15)
             (try rw [hji20] at A17)
             have hji20w : (IntKind.i64.wrap (x20_2 - 1)) = ji20:=(i64_w _).trans hji20
             by_cases c21 : 0 ≤ (ji20)
             ·rw [if_pos c21] at H
              have c21b0 : decide (0 ≤ (ji20)) = true:=decide_eq_true c21
              clear c21
              by_cases c22 : (ji20) < (l0.length : Int)
              ·rw [if_pos c22] at H
               have c22b0 : decide ((ji20) < (l0.length : Int)) = true:=decide_eq_true c22
               clear c22
               have H':=Aside0.mk H
               clear H
               have hcz23_0 : w13.cell? ⟨gb204,0,none⟩ = some (.int .i64 0):=(blk_cell BK204.out 0).trans rfl
               have hcz23_1 : w13.cell? ⟨gb204,1,none⟩ = some (.int .i64 0):=(blk_cell BK204.out 1).trans rfl
               have hfz23_0:=blk_frozen BK204.out 0
               have hfz23_1:=blk_frozen BK204.out 1
               go_wp2_with (first|(go_at_call 49;(with_reducible refine (impl_within.calls ((rd_T74 l0 x20_2).f0) 0 a2 true _ A15.out).mono ?_);rintro e w' ⟨rfl,⟨nd,rfl⟩⟩;(try first|exact ⟨rfl,_,World.drewN_drewN _ _ _⟩|exact ⟨rfl,_,Eq.trans (World.drewN_drewN _ _ _) (congrArg (World.drewN _) (Nat.add_assoc _ _ _))⟩))|(go_at_call 49;(with_reducible refine (impl_within.calls ((rd_T74 l0 x20_2).f1) 1 120 true _ A17.out).mono ?_);rintro e w' ⟨rfl,⟨nd,rfl⟩⟩;(try first|exact ⟨rfl,_,World.drewN_drewN _ _ _⟩|exact ⟨rfl,_,Eq.trans (World.drewN_drewN _ _ _) (congrArg (World.drewN _) (Nat.add_assoc _ _ _))⟩);have p207 : 0 ≤ ((ji20) : Int):=of_decide_eq_true (by assumption);have q207 : (ji20) < (l0.length : Int):=of_decide_eq_true (by assumption);obtain ⟨ad207,e207,hx207_0,hx207_1⟩:=at_T74 HR0.out (ji20) p207 q207;obtain rfl : ad203 = ad207:=(by injection e207);have hn207_0 : ad203.block ≠ gb204:=Nat.ne_of_lt (Nat.lt_of_lt_of_le (by have:=World.block_lt_of_cell? _ _ hx207_0;first|rwa [add_block] at this|exact this) GW204.out);have hn207_1 : ad203.block ≠ gb204:=Nat.ne_of_lt (Nat.lt_of_lt_of_le (by have:=World.block_lt_of_cell? _ _ hx207_0;first|rwa [add_block] at this|exact this) GW204.out);replace hx207_0:=(HB.out.cell (World.block_lt_of_cell? w _ hx207_0)).trans hx207_0;replace hx207_1:=(HB.out.cell (World.block_lt_of_cell? w _ hx207_1)).trans hx207_1;replace hx207_0:=(cell_far (p:=⟨gb204,0,none⟩) (by first|(rw [add_block];exact hn207_0)|(show (Addr.add _ _).block ≠ _;rw [add_block];exact hn207_0)|exact hn207_0) (.int .i64 ((rd_T74 l0 x20_2).f0))).trans hx207_0;replace hx207_1:=(cell_far (p:=⟨gb204,0,none⟩) (by first|(rw [add_block];exact hn207_0)|(show (Addr.add _ _).block ≠ _;rw [add_block];exact hn207_0)|exact hn207_0) (.int .i64 ((rd_T74 l0 x20_2).f0))).trans hx207_1;replace hx207_0:=(cell_far (p:=⟨gb204,1,none⟩) (by first|(rw [add_block];exact hn207_1)|(show (Addr.add _ _).block ≠ _;rw [add_block];exact hn207_1)|exact hn207_1) (.int .i64 ((rd_T74 l0 x20_2).f1))).trans hx207_0;replace hx207_1:=(cell_far (p:=⟨gb204,1,none⟩) (by first|(rw [add_block];exact hn207_1)|(show (Addr.add _ _).block ≠ _;rw [add_block];exact hn207_1)|exact hn207_1) (.int .i64 ((rd_T74 l0 x20_2).f1))).trans hx207_1;(try have hy207_0:=fun (n_ : Nat)=>(show ((((w13.drewN n_).setCell ⟨gb204,0,none⟩ (.int .i64 ((rd_T74 l0 x20_2).f0))).setCell ⟨gb204,1,none⟩ (.int .i64 ((rd_T74 l0 x20_2).f1)))).cell? _ = some _ from hx207_0));(try have hy207_1:=fun (n_ : Nat)=>(show ((((w13.drewN n_).setCell ⟨gb204,0,none⟩ (.int .i64 ((rd_T74 l0 x20_2).f0))).setCell ⟨gb204,1,none⟩ (.int .i64 ((rd_T74 l0 x20_2).f1)))).cell? _ = some _ from hx207_1));clear hn207_0;clear hn207_1;replace p207:=eq_true p207;replace q207:=eq_true q207))
               repeat (go_quiet (first|(go_at_call 49;(with_reducible refine (impl_within.calls ((rd_T74 l0 x20_2).f0) 0 a2 true _ A15.out).mono ?_);rintro e w' ⟨rfl,⟨nd,rfl⟩⟩;(try first|exact ⟨rfl,_,World.drewN_drewN _ _ _⟩|exact ⟨rfl,_,Eq.trans (World.drewN_drewN _ _ _) (congrArg (World.drewN _) (Nat.add_assoc _ _ _))⟩))|(go_at_call 49;(with_reducible refine (impl_within.calls ((rd_T74 l0 x20_2).f1) 1 120 true _ A17.out).mono ?_);rintro e w' ⟨rfl,⟨nd,rfl⟩⟩;(try first|exact ⟨rfl,_,World.drewN_drewN _ _ _⟩|exact ⟨rfl,_,Eq.trans (World.drewN_drewN _ _ _) (congrArg (World.drewN _) (Nat.add_assoc _ _ _))⟩);have p207 : 0 ≤ ((ji20) : Int):=of_decide_eq_true (by assumption);have q207 : (ji20) < (l0.length : Int):=of_decide_eq_true (by assumption);obtain ⟨ad207,e207,hx207_0,hx207_1⟩:=at_T74 HR0.out (ji20) p207 q207;obtain rfl : ad203 = ad207:=(by injection e207);have hn207_0 : ad203.block ≠ gb204:=Nat.ne_of_lt (Nat.lt_of_lt_of_le (by have:=World.block_lt_of_cell? _ _ hx207_0;first|rwa [add_block] at this|exact this) GW204.out);have hn207_1 : ad203.block ≠ gb204:=Nat.ne_of_lt (Nat.lt_of_lt_of_le (by have:=World.block_lt_of_cell? _ _ hx207_0;first|rwa [add_block] at this|exact this) GW204.out);replace hx207_0:=(HB.out.cell (World.block_lt_of_cell? w _ hx207_0)).trans hx207_0;replace hx207_1:=(HB.out.cell (World.block_lt_of_cell? w _ hx207_1)).trans hx207_1;replace hx207_0:=(cell_far (p:=⟨gb204,0,none⟩) (by first|(rw [add_block];exact hn207_0)|(show (Addr.add _ _).block ≠ _;rw [add_block];exact hn207_0)|exact hn207_0) (.int .i64 ((rd_T74 l0 x20_2).f0))).trans hx207_0;replace hx207_1:=(cell_far (p:=⟨gb204,0,none⟩) (by first|(rw [add_block];exact hn207_0)|(show (Addr.add _ _).block ≠ _;rw [add_block];exact hn207_0)|exact hn207_0) (.int .i64 ((rd_T74 l0 x20_2).f0))).trans hx207_1;replace hx207_0:=(cell_far (p:=⟨gb204,1,none⟩) (by first|(rw [add_block];exact hn207_1)|(show (Addr.add _ _).block ≠ _;rw [add_block];exact hn207_1)|exact hn207_1) (.int .i64 ((rd_T74 l0 x20_2).f1))).trans hx207_0;replace hx207_1:=(cell_far (p:=⟨gb204,1,none⟩) (by first|(rw [add_block];exact hn207_1)|(show (Addr.add _ _).block ≠ _;rw [add_block];exact hn207_1)|exact hn207_1) (.int .i64 ((rd_T74 l0 x20_2).f1))).trans hx207_1;(try have hy207_0:=fun (n_ : Nat)=>(show ((((w13.drewN n_).setCell ⟨gb204,0,none⟩ (.int .i64 ((rd_T74 l0 x20_2).f0))).setCell ⟨gb204,1,none⟩ (.int .i64 ((rd_T74 l0 x20_2).f1)))).cell? _ = some _ from hx207_0));(try have hy207_1:=fun (n_ : Nat)=>(show ((((w13.drewN n_).setCell ⟨gb204,0,none⟩ (.int .i64 ((rd_T74 l0 x20_2).f0))).setCell ⟨gb204,1,none⟩ (.int .i64 ((rd_T74 l0 x20_2).f1)))).cell? _ = some _ from hx207_1));clear hn207_0;clear hn207_1;replace p207:=eq_true p207;replace q207:=eq_true q207));try go_wp2_with (first|(go_at_call 49;(with_reducible refine (impl_within.calls ((rd_T74 l0 x20_2).f0) 0 a2 true _ A15.out).mono ?_);rintro e w' ⟨rfl,⟨nd,rfl⟩⟩;(try first|exact ⟨rfl,_,World.drewN_drewN _ _ _⟩|exact ⟨rfl,_,Eq.trans (World.drewN_drewN _ _ _) (congrArg (World.drewN _) (Nat.add_assoc _ _ _))⟩))|(go_at_call 49;(with_reducible refine (impl_within.calls ((rd_T74 l0 x20_2).f1) 1 120 true _ A17.out).mono ?_);rintro e w' ⟨rfl,⟨nd,rfl⟩⟩;(try first|exact ⟨rfl,_,World.drewN_drewN _ _ _⟩|exact ⟨rfl,_,Eq.trans (World.drewN_drewN _ _ _) (congrArg (World.drewN _) (Nat.add_assoc _ _ _))⟩);have p207 : 0 ≤ ((ji20) : Int):=of_decide_eq_true (by assumption);have q207 : (ji20) < (l0.length : Int):=of_decide_eq_true (by assumption);obtain ⟨ad207,e207,hx207_0,hx207_1⟩:=at_T74 HR0.out (ji20) p207 q207;obtain rfl : ad203 = ad207:=(by injection e207);have hn207_0 : ad203.block ≠ gb204:=Nat.ne_of_lt (Nat.lt_of_lt_of_le (by have:=World.block_lt_of_cell? _ _ hx207_0;first|rwa [add_block] at this|exact this) GW204.out);have hn207_1 : ad203.block ≠ gb204:=Nat.ne_of_lt (Nat.lt_of_lt_of_le (by have:=World.block_lt_of_cell? _ _ hx207_0;first|rwa [add_block] at this|exact this) GW204.out);replace hx207_0:=(HB.out.cell (World.block_lt_of_cell? w _ hx207_0)).trans hx207_0;replace hx207_1:=(HB.out.cell (World.block_lt_of_cell? w _ hx207_1)).trans hx207_1;replace hx207_0:=(cell_far (p:=⟨gb204,0,none⟩) (by first|(rw [add_block];exact hn207_0)|(show (Addr.add _ _).block ≠ _;rw [add_block];exact hn207_0)|exact hn207_0) (.int .i64 ((rd_T74 l0 x20_2).f0))).trans hx207_0;replace hx207_1:=(cell_far (p:=⟨gb204,0,none⟩) (by first|(rw [add_block];exact hn207_0)|(show (Addr.add _ _).block ≠ _;rw [add_block];exact hn207_0)|exact hn207_0) (.int .i64 ((rd_T74 l0 x20_2).f0))).trans hx207_1;replace hx207_0:=(cell_far (p:=⟨gb204,1,none⟩) (by first|(rw [add_block];exact hn207_1)|(show (Addr.add _ _).block ≠ _;rw [add_block];exact hn207_1)|exact hn207_1) (.int .i64 ((rd_T74 l0 x20_2).f1))).trans hx207_0;replace hx207_1:=(cell_far (p:=⟨gb204,1,none⟩) (by first|(rw [add_block];exact hn207_1)|(show (Addr.add _ _).block ≠ _;rw [add_block];exact hn207_1)|exact hn207_1) (.int .i64 ((rd_T74 l0 x20_2).f1))).trans hx207_1;(try have hy207_0:=fun (n_ : Nat)=>(show ((((w13.drewN n_).setCell ⟨gb204,0,none⟩ (.int .i64 ((rd_T74 l0 x20_2).f0))).setCell ⟨gb204,1,none⟩ (.int .i64 ((rd_T74 l0 x20_2).f1)))).cell? _ = some _ from hx207_0));(try have hy207_1:=fun (n_ : Nat)=>(show ((((w13.drewN n_).setCell ⟨gb204,0,none⟩ (.int .i64 ((rd_T74 l0 x20_2).f0))).setCell ⟨gb204,1,none⟩ (.int .i64 ((rd_T74 l0 x20_2).f1)))).cell? _ = some _ from hx207_1));clear hn207_0;clear hn207_1;replace p207:=eq_true p207;replace q207:=eq_true q207)))
               go_meet
               case rel=>exact ⟨_,((((rd_T74 l0 (ji20)).f0) == ((rd_T74 l0 x20_2).f0))),(by first|rfl|(simp;done)|(simp only [← hji20] <;> (first|rfl|simp))|(simp [*];done)),H',⟨by have:=HJ3.out;have:=HK2.out;first|omega|exact Nat.le_refl _⟩,⟨by (with_reducible repeat first|apply blk_drewN|apply blk_drew|apply blk_alloc);refine blk_put (cs:=#[.int .i64 ((rd_T74 l0 x20_2).f0),.int .i64 0]) ?_ 1 _ rfl;(with_reducible repeat first|apply blk_drewN|apply blk_drew|apply blk_alloc);refine blk_put (cs:=#[.int .i64 0,.int .i64 0]) ?_ 0 _ rfl;(with_reducible repeat first|apply blk_drewN|apply blk_drew|apply blk_alloc);exact BK204.out⟩,⟨by repeat (first|(with_reducible first|exact HB.out|apply below_alloc|apply pw_below_drewN|apply below_drew1|refine below_set ?_ GE204.out)|exact HB.out)⟩⟩
              ·rw [if_neg c22] at H
               exact absurd H (by simp)
             ·rw [if_neg c21] at H
              exact absurd H (by simp)
            ·rw [if_neg c19] at H
             have c19b0 : decide (0 < x20_2) = false:=decide_eq_false c19
             clear c19
             (first|rw [c19b0]|(simp only [i64_w,i32_w];rw [c19b0])|skip)
             have H':=Aside0.mk H
             clear H
             have hcz24_0 : w13.cell? ⟨gb204,0,none⟩ = some (.int .i64 0):=(blk_cell BK204.out 0).trans rfl
             have hcz24_1 : w13.cell? ⟨gb204,1,none⟩ = some (.int .i64 0):=(blk_cell BK204.out 1).trans rfl
             have hfz24_0:=blk_frozen BK204.out 0
             have hfz24_1:=blk_frozen BK204.out 1
             go_wp2_with (first|(go_at_call 49;(with_reducible refine (impl_within.calls ((rd_T74 l0 x20_2).f0) 0 a2 true _ A15.out).mono ?_);rintro e w' ⟨rfl,⟨nd,rfl⟩⟩;(try first|exact ⟨rfl,_,World.drewN_drewN _ _ _⟩|exact ⟨rfl,_,Eq.trans (World.drewN_drewN _ _ _) (congrArg (World.drewN _) (Nat.add_assoc _ _ _))⟩))|(go_at_call 49;(with_reducible refine (impl_within.calls ((rd_T74 l0 x20_2).f1) 1 120 true _ A17.out).mono ?_);rintro e w' ⟨rfl,⟨nd,rfl⟩⟩;(try first|exact ⟨rfl,_,World.drewN_drewN _ _ _⟩|exact ⟨rfl,_,Eq.trans (World.drewN_drewN _ _ _) (congrArg (World.drewN _) (Nat.add_assoc _ _ _))⟩)))
             repeat (go_quiet (first|(go_at_call 49;(with_reducible refine (impl_within.calls ((rd_T74 l0 x20_2).f0) 0 a2 true _ A15.out).mono ?_);rintro e w' ⟨rfl,⟨nd,rfl⟩⟩;(try first|exact ⟨rfl,_,World.drewN_drewN _ _ _⟩|exact ⟨rfl,_,Eq.trans (World.drewN_drewN _ _ _) (congrArg (World.drewN _) (Nat.add_assoc _ _ _))⟩))|(go_at_call 49;(with_reducible refine (impl_within.calls ((rd_T74 l0 x20_2).f1) 1 120 true _ A17.out).mono ?_);rintro e w' ⟨rfl,⟨nd,rfl⟩⟩;(try first|exact ⟨rfl,_,World.drewN_drewN _ _ _⟩|exact ⟨rfl,_,Eq.trans (World.drewN_drewN _ _ _) (congrArg (World.drewN _) (Nat.add_assoc _ _ _))⟩)));try go_wp2_with (first|(go_at_call 49;(with_reducible refine (impl_within.calls ((rd_T74 l0 x20_2).f0) 0 a2 true _ A15.out).mono ?_);rintro e w' ⟨rfl,⟨nd,rfl⟩⟩;(try first|exact ⟨rfl,_,World.drewN_drewN _ _ _⟩|exact ⟨rfl,_,Eq.trans (World.drewN_drewN _ _ _) (congrArg (World.drewN _) (Nat.add_assoc _ _ _))⟩))|(go_at_call 49;(with_reducible refine (impl_within.calls ((rd_T74 l0 x20_2).f1) 1 120 true _ A17.out).mono ?_);rintro e w' ⟨rfl,⟨nd,rfl⟩⟩;(try first|exact ⟨rfl,_,World.drewN_drewN _ _ _⟩|exact ⟨rfl,_,Eq.trans (World.drewN_drewN _ _ _) (congrArg (World.drewN _) (Nat.add_assoc _ _ _))⟩))))
             go_meet
             case rel=>exact ⟨_,(false),(by first|rfl|(simp;done)|(simp [*];done)),H',⟨by have:=HJ3.out;have:=HK2.out;first|omega|exact Nat.le_refl _⟩,⟨by (with_reducible repeat first|apply blk_drewN|apply blk_drew|apply blk_alloc);refine blk_put (cs:=#[.int .i64 ((rd_T74 l0 x20_2).f0),.int .i64 0]) ?_ 1 _ rfl;(with_reducible repeat first|apply blk_drewN|apply blk_drew|apply blk_alloc);refine blk_put (cs:=#[.int .i64 0,.int .i64 0]) ?_ 0 _ rfl;(with_reducible repeat first|apply blk_drewN|apply blk_drew|apply blk_alloc);exact BK204.out⟩,⟨by repeat (first|(with_reducible first|exact HB.out|apply below_alloc|apply pw_below_drewN|apply below_drew1|refine below_set ?_ GE204.out)|exact HB.out)⟩⟩
           ·replace c18:=Bool.eq_false_iff.mpr c18
            subst c18
            have H1 : (impl_GoodRuns.j2 k2 l0 a1 a2 x7_2 l0 (l0.length : Int) x20_2 true ((rd_T74 l0 x20_2).f0) ((rd_T74 l0 x20_2).f1)) = some r:=by rw [if_neg (show ¬ (false = true) by decide)] at H;exact H
            clear H
            have H:=H1
            clear H1
            have H':=Aside0.mk H
            clear H
            have hcz25_0 : w13.cell? ⟨gb204,0,none⟩ = some (.int .i64 0):=(blk_cell BK204.out 0).trans rfl
            have hcz25_1 : w13.cell? ⟨gb204,1,none⟩ = some (.int .i64 0):=(blk_cell BK204.out 1).trans rfl
            have hfz25_0:=blk_frozen BK204.out 0
            have hfz25_1:=blk_frozen BK204.out 1
            go_wp2_with (first|(go_at_call 49;(with_reducible refine (impl_within.calls ((rd_T74 l0 x20_2).f0) 0 a2 true _ A15.out).mono ?_);rintro e w' ⟨rfl,⟨nd,rfl⟩⟩;(try first|exact ⟨rfl,_,World.drewN_drewN _ _ _⟩|exact ⟨rfl,_,Eq.trans (World.drewN_drewN _ _ _) (congrArg (World.drewN _) (Nat.add_assoc _ _ _))⟩))|(go_at_call 49;(with_reducible refine (impl_within.calls ((rd_T74 l0 x20_2).f1) 1 120 false _ A17.out).mono ?_);rintro e w' ⟨rfl,⟨nd,rfl⟩⟩;(try first|exact ⟨rfl,_,World.drewN_drewN _ _ _⟩|exact ⟨rfl,_,Eq.trans (World.drewN_drewN _ _ _) (congrArg (World.drewN _) (Nat.add_assoc _ _ _))⟩)))
            repeat (go_quiet (first|(go_at_call 49;(with_reducible refine (impl_within.calls ((rd_T74 l0 x20_2).f0) 0 a2 true _ A15.out).mono ?_);rintro e w' ⟨rfl,⟨nd,rfl⟩⟩;(try first|exact ⟨rfl,_,World.drewN_drewN _ _ _⟩|exact ⟨rfl,_,Eq.trans (World.drewN_drewN _ _ _) (congrArg (World.drewN _) (Nat.add_assoc _ _ _))⟩))|(go_at_call 49;(with_reducible refine (impl_within.calls ((rd_T74 l0 x20_2).f1) 1 120 false _ A17.out).mono ?_);rintro e w' ⟨rfl,⟨nd,rfl⟩⟩;(try first|exact ⟨rfl,_,World.drewN_drewN _ _ _⟩|exact ⟨rfl,_,Eq.trans (World.drewN_drewN _ _ _) (congrArg (World.drewN _) (Nat.add_assoc _ _ _))⟩)));try go_wp2_with (first|(go_at_call 49;(with_reducible refine (impl_within.calls ((rd_T74 l0 x20_2).f0) 0 a2 true _ A15.out).mono ?_);rintro e w' ⟨rfl,⟨nd,rfl⟩⟩;(try first|exact ⟨rfl,_,World.drewN_drewN _ _ _⟩|exact ⟨rfl,_,Eq.trans (World.drewN_drewN _ _ _) (congrArg (World.drewN _) (Nat.add_assoc _ _ _))⟩))|(go_at_call 49;(with_reducible refine (impl_within.calls ((rd_T74 l0 x20_2).f1) 1 120 false _ A17.out).mono ?_);rintro e w' ⟨rfl,⟨nd,rfl⟩⟩;(try first|exact ⟨rfl,_,World.drewN_drewN _ _ _⟩|exact ⟨rfl,_,Eq.trans (World.drewN_drewN _ _ _) (congrArg (World.drewN _) (Nat.add_assoc _ _ _))⟩))))
            go_meet
            case rel=>exact ⟨_,(true),(by first|rfl|(simp;done)|(simp [*];done)),H',⟨by have:=HJ3.out;have:=HK2.out;first|omega|exact Nat.le_refl _⟩,⟨by (with_reducible repeat first|apply blk_drewN|apply blk_drew|apply blk_alloc);refine blk_put (cs:=#[.int .i64 ((rd_T74 l0 x20_2).f0),.int .i64 0]) ?_ 1 _ rfl;(with_reducible repeat first|apply blk_drewN|apply blk_drew|apply blk_alloc);refine blk_put (cs:=#[.int .i64 0,.int .i64 0]) ?_ 0 _ rfl;(with_reducible repeat first|apply blk_drewN|apply blk_drew|apply blk_alloc);exact BK204.out⟩,⟨by repeat (first|(with_reducible first|exact HB.out|apply below_alloc|apply pw_below_drewN|apply below_drew1|refine below_set ?_ GE204.out)|exact HB.out)⟩⟩
          ·replace c16:=Bool.eq_false_iff.mpr c16
           subst c16
           have H1 : (impl_GoodRuns.j2 k2 l0 a1 a2 x7_2 l0 (l0.length : Int) x20_2 true ((rd_T74 l0 x20_2).f0) ((rd_T74 l0 x20_2).f1)) = some r:=by rw [if_neg (show ¬ (false = true) by decide)] at H;exact H
           clear H
           have H:=H1
           clear H1
           have H':=Aside0.mk H
           clear H
           have hcz26_0 : w13.cell? ⟨gb204,0,none⟩ = some (.int .i64 0):=(blk_cell BK204.out 0).trans rfl
           have hcz26_1 : w13.cell? ⟨gb204,1,none⟩ = some (.int .i64 0):=(blk_cell BK204.out 1).trans rfl
           have hfz26_0:=blk_frozen BK204.out 0
           have hfz26_1:=blk_frozen BK204.out 1
           go_wp2_with (first|(go_at_call 49;(with_reducible refine (impl_within.calls ((rd_T74 l0 x20_2).f0) 0 a2 false _ A15.out).mono ?_);rintro e w' ⟨rfl,⟨nd,rfl⟩⟩;(try first|exact ⟨rfl,_,World.drewN_drewN _ _ _⟩|exact ⟨rfl,_,Eq.trans (World.drewN_drewN _ _ _) (congrArg (World.drewN _) (Nat.add_assoc _ _ _))⟩)))
           repeat (go_quiet (first|(go_at_call 49;(with_reducible refine (impl_within.calls ((rd_T74 l0 x20_2).f0) 0 a2 false _ A15.out).mono ?_);rintro e w' ⟨rfl,⟨nd,rfl⟩⟩;(try first|exact ⟨rfl,_,World.drewN_drewN _ _ _⟩|exact ⟨rfl,_,Eq.trans (World.drewN_drewN _ _ _) (congrArg (World.drewN _) (Nat.add_assoc _ _ _))⟩)));try go_wp2_with (first|(go_at_call 49;(with_reducible refine (impl_within.calls ((rd_T74 l0 x20_2).f0) 0 a2 false _ A15.out).mono ?_);rintro e w' ⟨rfl,⟨nd,rfl⟩⟩;(try first|exact ⟨rfl,_,World.drewN_drewN _ _ _⟩|exact ⟨rfl,_,Eq.trans (World.drewN_drewN _ _ _) (congrArg (World.drewN _) (Nat.add_assoc _ _ _))⟩))))
           go_meet
           case rel=>exact ⟨_,(true),(by first|rfl|(simp;done)|(simp [*];done)),H',⟨by have:=HJ3.out;have:=HK2.out;first|omega|exact Nat.le_refl _⟩,⟨by (with_reducible repeat first|apply blk_drewN|apply blk_drew|apply blk_alloc);refine blk_put (cs:=#[.int .i64 ((rd_T74 l0 x20_2).f0),.int .i64 0]) ?_ 1 _ rfl;(with_reducible repeat first|apply blk_drewN|apply blk_drew|apply blk_alloc);refine blk_put (cs:=#[.int .i64 0,.int .i64 0]) ?_ 0 _ rfl;(with_reducible repeat first|apply blk_drewN|apply blk_drew|apply blk_alloc);exact BK204.out⟩,⟨by repeat (first|(with_reducible first|exact HB.out|apply below_alloc|apply pw_below_drewN|apply below_drew1|refine below_set ?_ GE204.out)|exact HB.out)⟩⟩
         case rest =>
          clear HC12
          try clear c1;try clear c2;try clear p2;try clear q2;try clear hx2;try clear c6;try clear p6;try clear c8;try clear c9;try clear c9b0;try clear c10;try clear c10b0;try clear c11;try clear c11b0;try clear c16;try clear c18;try clear c19;try clear c19b0;try clear p20;try clear q20;try clear hx20;try clear c21;try clear c21b0;try clear c22;try clear c22b0;try clear hcz14_0;try clear hcz14_1;try clear hcz23_0;try clear hcz23_1;try clear hcz24_0;try clear hcz24_1;try clear hcz25_0;try clear hcz25_1;try clear hcz26_0;try clear hcz26_1;try clear hfz14_0;try clear hfz14_1;try clear hfz23_0;try clear hfz23_1;try clear hfz24_0;try clear hfz24_1;try clear hfz25_0;try clear hfz25_1;try clear hfz26_0;try clear hfz26_1;try clear hx203_0;try clear hx203_1;try clear hx207_0;try clear hx207_1;try clear p2;try clear p203;try clear p207;try clear q203;try clear q207
          obtain ⟨kq,x50_11,rfl,HA,HJ11,BK204,HB⟩:=hcut
          cases kq with
          | zero=>exact absurd HA.out (by simp [impl_GoodRuns.j2])
          | succ kj11 =>
           have H:=HA.out
           clear HA
           simp only [impl_GoodRuns.j2] at H
           by_cases c27 : x50_11 = true
           ·subst c27
            have H1 : (some false) = some r:=by rw [if_pos rfl] at H;exact H
            clear H
            have H:=H1
            clear H1
            obtain rfl:=Option.some.inj H
            go_wp2
            repeat (go_quiet (fail);try go_wp2)
            go_ret
            exact ⟨by first|rfl|(simp [*,errW_none,errW_some] <;> rfl),by repeat (first|(with_reducible first|exact HB.out|apply below_alloc|apply pw_below_drewN|apply below_drew1|refine below_set ?_ GE204.out)|exact HB.out)⟩
           ·replace c27:=Bool.eq_false_iff.mpr c27
            subst c27
            have H1 : (if (wrap64 (x7_2 + ((rd_T74 l0 x20_2).f1))) > a1 then (some false) else (impl_GoodRuns.l0 kj11 l0 a1 a2 (wrap64 (x7_2 + ((rd_T74 l0 x20_2).f1))) l0 (l0.length : Int) (wrap64 (x20_2 + 1)))) = some r:=by rw [if_neg (show ¬ (false = true) by decide)] at H;exact H
            clear H
            have H:=H1
            clear H1
            by_cases c28 : (wrap64 (x7_2 + ((rd_T74 l0 x20_2).f1))) > a1
            ·rw [if_pos c28] at H
             have c28b0 : decide (a1 < (wrap64 (x7_2 + ((rd_T74 l0 x20_2).f1)))) = true:=decide_eq_true c28
             clear c28
             obtain rfl:=Option.some.inj H
             have hcz29_0 : wc.cell? ⟨gb204,0,none⟩ = some (.int .i64 ((rd_T74 l0 x20_2).f0)):=(blk_cell BK204.out 0).trans rfl
             have hcz29_1 : wc.cell? ⟨gb204,1,none⟩ = some (.int .i64 ((rd_T74 l0 x20_2).f1)):=(blk_cell BK204.out 1).trans rfl
             have hfz29_0:=blk_frozen BK204.out 0
             have hfz29_1:=blk_frozen BK204.out 1
             go_wp2
             repeat (go_quiet (fail);try go_wp2)
             go_ret
             exact ⟨by first|rfl|(simp [*,errW_none,errW_some] <;> rfl),by repeat (first|(with_reducible first|exact HB.out|apply below_alloc|apply pw_below_drewN|apply below_drew1|refine below_set ?_ GE204.out)|exact HB.out)⟩
            ·rw [if_neg c28] at H
             have c28b0 : decide (a1 < (wrap64 (x7_2 + ((rd_T74 l0 x20_2).f1)))) = false:=decide_eq_false c28
             clear c28
             have H':=Aside0.mk H
             clear H
             have hcz30_0 : wc.cell? ⟨gb204,0,none⟩ = some (.int .i64 ((rd_T74 l0 x20_2).f0)):=(blk_cell BK204.out 0).trans rfl
             have hcz30_1 : wc.cell? ⟨gb204,1,none⟩ = some (.int .i64 ((rd_T74 l0 x20_2).f1)):=(blk_cell BK204.out 1).trans rfl
             have hfz30_0:=blk_frozen BK204.out 0
             have hfz30_1:=blk_frozen BK204.out 1
             go_wp2
             repeat (go_quiet (fail);try go_wp2)
             go_roundg kj11
             case measure=>have:=HJ3.out;have:=HK2.out;have:=HJ11.out;omega
             case rel=>exact ⟨(wrap64 (x7_2 + ((rd_T74 l0 x20_2).f1))),(wrap64 (x20_2 + 1)),(by first|rfl|(simp;done)|(simp [*];done)),(by first|rfl|(simp;done)|(simp [*];done)),H',⟨by have:=HJ3.out;have:=HK2.out;have:=HJ11.out;omega⟩,⟨by repeat (first|(with_reducible first|exact HB.out|apply below_alloc|apply pw_below_drewN|apply below_drew1|refine below_set ?_ GE204.out)|exact HB.out)⟩⟩
        ·rw [if_neg c11] at H
         exact absurd H (by simp)
       ·rw [if_neg c10] at H
        exact absurd H (by simp)
      ·rw [if_neg c9] at H
       have c9b0 : decide (x20_2 < (l0.length : Int)) = false:=decide_eq_false c9
       clear c9
       obtain rfl:=Option.some.inj H
       go_wp2
       repeat (go_quiet (fail);try go_wp2)
       go_ret
       exact ⟨by first|rfl|(simp [*,errW_none,errW_some] <;> rfl),by repeat (first|exact HB.out|apply below_alloc|apply pw_below_drewN|apply below_drew1)⟩

end Go.Proofs.Ytdlicabmalljpaa.PFnExactTextAt
