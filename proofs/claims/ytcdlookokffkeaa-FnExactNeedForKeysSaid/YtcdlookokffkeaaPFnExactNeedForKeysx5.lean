-- Written by a program of this session over the print of the kit (wip/t/patch_print.py).
import Derived.Test.YtcdlookokffkeaaPFnExactNeedForKeysx0
import Derived.Test.YtcdlookokffkeaaPFnExactNeedForKeysx3
namespace Go.Proofs.Ytcdlookokffkeaa.PFnExactNeedForKeys
open Go.RowKit Go.Proofs.YtcdlookokffkeaaW.PrintWords Go.Proofs.YtcdlookokffkeaaW.PrintLast Go.Proofs.YtcdlookokffkeaaW.PrintMore
attribute [local go_sem] max2_int min2_int max_two min_two max_three min_three max_four min_four   -- for this text's walks alone
set_option linter.unusedVariables false
set_option linter.unusedSimpArgs false

/-! ### spec_l6Any: function 59 -/
def spec_l6Any.l0 : Nat → List Int → Int → Int → Option (Bool)
 | 0,_,_,_=>none
 | k + 1,x5,x6,x7=>if x7 < x6 then (if 0 ≤ x7 then (if x7 < (x5.length : Int) then (if (rd x5 x7) = 0 then (spec_l6Any.l0 k x5 x6 (wrap64 (x7 + 1))) else (some true)) else (none)) else (none)) else (some false)
def spec_l6Any.f (k : Nat) (l0 : List Int) : Option (Bool):=spec_l6Any.l0 k l0 (l0.length : Int) 0
theorem spec_l6Any.mono_l : ∀ k,(∀ y0 y1 y2,LeO (spec_l6Any.l0 k y0 y1 y2) (spec_l6Any.l0 (k + 1) y0 y1 y2))
 | 0=>fun _ _ _ r h=>by simp [spec_l6Any.l0] at h
 | k + 1=>by
  have ih0:=spec_l6Any.mono_l k
  ·intro y0 y1 y2;unfold spec_l6Any.l0
   repeat' first|(with_reducible first|exact ih0 _ _ _|exact LeO.refl _|exact LeO.none _|refine LeO.ite ?_ ?_|refine LeO.bind ?_ (fun _=>?_))|exact ih0 _ _ _|exact LeO.none _|refine LeO.ite ?_ ?_|refine LeO.bind ?_ (fun _=>?_)
theorem spec_l6Any.mono : ∀ a0 k,LeO (spec_l6Any.f k a0) (spec_l6Any.f (k + 1) a0):=by
 intro a0 k;have ih0:=spec_l6Any.mono_l k;unfold spec_l6Any.f
 repeat' first|(with_reducible first|exact ih0 _ _ _|exact LeO.refl _|exact LeO.none _|refine LeO.ite ?_ ?_|refine LeO.bind ?_ (fun _=>?_))|exact ih0 _ _ _|exact LeO.none _|refine LeO.ite ?_ ?_|refine LeO.bind ?_ (fun _=>?_)
set_option maxHeartbeats 8000000 in
set_option maxRecDepth 100000 in
theorem spec_l6Any.calls (k : Nat) (A0 : Option Addr) (c0 : Nat) (l0 : List Int) (r : Bool) (w : World) (hr0 : Kd.C (Kd.int .i64) w A0 l0.length l0) (hc0 : l0.length ≤ c0) (h : spec_l6Any.f k l0 = some r) :
  Calls Try.prog 59 #[.slice A0 l0.length c0] w fun e w'=>e = .returned (.bool r)∧Drawn0 w w':=by
 have HR0:=Qa hr0;have HC0:=Qa hc0;clear hr0 hc0;have H : (spec_l6Any.l0 k l0 (l0.length : Int) 0) = some r:=h;clear h;have H':=Qa H;clear H;go_enter Try.func59,Try.ntmps59;go_wp2;go_loopg [7] k (fun kq v7 w'=>∃ (x7_1 : Int),v7 = .int .i64 x7_1∧Aside0 (spec_l6Any.l0 kq l0 (l0.length : Int) x7_1 = some r)∧Aside0 (kq ≤ k)∧Drawn0 w w')
 case atStart=>exact ⟨(0),(sf1_),H',⟨QO _⟩,by repeat (first|exact Drawn0.refl _|apply Drawn0.step)⟩
 case round =>
  clear H';obtain ⟨x7_1,rfl,HA,HK1,⟨m1,rfl⟩⟩:=hrel
  cases gk with
  | zero=>exact absurd HA.out (by simp [spec_l6Any.l0])
  | succ k1 =>
   have H:=HA.out;clear HA;simp only [spec_l6Any.l0] at H
   by_cases c2 : x7_1 < (l0.length : Int)
   ·rw [if_pos c2] at H;have c2b0 : decide (x7_1 < (l0.length : Int)) = true:=QG c2;clear c2
    by_cases c3 : 0 ≤ x7_1
    ·rw [if_pos c3] at H;have c3b0 : decide (0 ≤ x7_1) = true:=QG c3;clear c3
     by_cases c4 : x7_1 < (l0.length : Int)
     ·rw [if_pos c4] at H;have c4b0 : decide (x7_1 < (l0.length : Int)) = true:=QG c4;clear c4
      by_cases c5 : (rd l0 x7_1) = 0
      ·rw [if_pos c5] at H;have c5b0 : ((rd l0 x7_1) == 0) = true:=beq_iff_eq.mpr c5;have c5b1 : ((rd l0 x7_1) != 0) = false:=bne_eq_false_iff_eq.mpr c5;clear c5;have H':=Qa H;clear H;have p179 : 0 ≤ (x7_1 : Int):=QF (by assumption);have q179 : x7_1 < (l0.length : Int):=QF (by assumption);obtain ⟨ad179,e179,hx179_0⟩:=Kd.at_int HR0.o x7_1 p179 q179;cases e179;replace p179:=eq_true p179;replace q179:=eq_true q179;go_wp2;go_roundg k1
       case measure=>have:=HK1.o;omega
       case rel=>exact ⟨(wrap64 (x7_1 + 1)),(sf1_),H',⟨by have:=HK1.o;omega⟩,by repeat (first|exact Drawn0.refl _|apply Drawn0.step)⟩
      ·rw [if_neg c5] at H;have c5b0 : ((rd l0 x7_1) == 0) = false:=beq_eq_false_iff_ne.mpr c5;have c5b1 : ((rd l0 x7_1) != 0) = true:=bne_iff_ne.mpr c5;obtain rfl:=QL H;have p179 : 0 ≤ (x7_1 : Int):=QF (by assumption);have q179 : x7_1 < (l0.length : Int):=QF (by assumption);obtain ⟨ad179,e179,hx179_0⟩:=Kd.at_int HR0.o x7_1 p179 q179;cases e179;replace p179:=eq_true p179;replace q179:=eq_true q179;go_wp2;go_ret;exact ⟨sf1_,by repeat (first|exact Drawn0.refl _|apply Drawn0.step)⟩
     ·rw [if_neg c4] at H;exact absurd H (by simp)
    ·rw [if_neg c3] at H;exact absurd H (by simp)
   ·rw [if_neg c2] at H;have c2b0 : decide (x7_1 < (l0.length : Int)) = false:=QH c2;clear c2;obtain rfl:=QL H;go_wp2;go_ret;exact ⟨sf1_,by repeat (first|exact Drawn0.refl _|apply Drawn0.step)⟩

/-! ### spec_l6Value: function 60 -/
def spec_l6Value.f (l0_0 : List (List Int)) (l0_1 : List Int) (l0_2 : List Int) (l0_3 : List Int) (a1 : Int) : Option (Bool):=(spec_l1In.f a1 33 (wrap64 ((l0_0.length : Int) - 1))).bind fun t181=>(if t181 = true then ((spec_l5Used.f l0_1 a1).bind fun t182=>(some t182)) else (some false))
set_option maxHeartbeats 8000000 in
set_option maxRecDepth 100000 in
theorem spec_l6Value.calls (A0_0 : Option Addr) (c0_0 : Nat) (l0_0 : List (List Int)) (A0_1 : Option Addr) (c0_1 : Nat) (l0_1 : List Int) (A0_2 : Option Addr) (c0_2 : Nat) (l0_2 : List Int) (A0_3 : Option Addr) (c0_3 : Nat) (l0_3 : List Int) (a1 : Int) (r : Bool) (w : World) (hr0_0 : Kd.C (Kd.slice 5 (Kd.int .u8)) w A0_0 l0_0.length l0_0) (hc0_0 : l0_0.length ≤ c0_0) (hr0_1 : Kd.C (Kd.int .u8) w A0_1 l0_1.length l0_1) (hc0_1 : l0_1.length ≤ c0_1) (hr0_2 : Kd.C (Kd.int .i64) w A0_2 l0_2.length l0_2) (hc0_2 : l0_2.length ≤ c0_2) (hr0_3 : Kd.C (Kd.int .i64) w A0_3 l0_3.length l0_3) (hc0_3 : l0_3.length ≤ c0_3) (h : spec_l6Value.f l0_0 l0_1 l0_2 l0_3 a1 = some r) :
  Calls Try.prog 60 #[.agg #[.slice A0_0 l0_0.length c0_0,.slice A0_1 l0_1.length c0_1,.slice A0_2 l0_2.length c0_2,.slice A0_3 l0_3.length c0_3],.int .i64 a1] w fun e w'=>e = .returned (.bool r)∧Below w.heap.size w w':=by
 have hu30:=Try.underlying30;have HR0_0:=Qa hr0_0;have HC0_0:=Qa hc0_0;clear hr0_0 hc0_0;have HR0_1:=Qa hr0_1;have HC0_1:=Qa hc0_1;clear hr0_1 hc0_1;have HR0_2:=Qa hr0_2;have HC0_2:=Qa hc0_2;clear hr0_2 hc0_2;have HR0_3:=Qa hr0_3;have HC0_3:=Qa hc0_3;clear hr0_3 hc0_3;have HB:=Qa (Below.refl w.heap.size w);have H : ((spec_l1In.f a1 33 (wrap64 ((l0_0.length : Int) - 1))).bind fun t181=>(if t181 = true then ((spec_l5Used.f l0_1 a1).bind fun t182=>(some t182)) else (some false))) = some r:=h;clear h;replace H:=QE H;obtain ⟨t181,A30,H⟩:=H;replace H : (if t181 = true then ((spec_l5Used.f l0_1 a1).bind fun t182=>(some t182)) else (some false)) = some r:=H;have A3:=Qa A30;clear A30
 by_cases c4 : t181 = true
 ·subst c4;(have H1 : ((spec_l5Used.f l0_1 a1).bind fun t182=>(some t182)) = some r:=by rw [if_pos rfl] at H;exact H);clear H;have H:=H1;clear H1;replace H:=QE H;obtain ⟨t182,A50,H⟩:=H;replace H : (some t182) = some r:=H;have A5:=Qa A50;clear A50;obtain rfl:=QL H;go_enter Try.func60,Try.ntmps60;go_wp2_with (first|((with_reducible refine gate_dst (N:=2) rfl ?_);refine box_event ?hg (N:=2) ?hd (cs:=#[.slice A0_0 l0_0.length c0_0,.slice A0_1 l0_1.length c0_1,.slice A0_2 l0_2.length c0_2,.slice A0_3 l0_3.length c0_3]) (t:=30) ?hr ?_;(case hd=>rfl);(case hg=>rfl);(case hr=>first|(go_simp;done)|(go_simp;rfl));intro gb180 hg w6 hbox hb;have n0_:=Qa (Ql (bg0_) hb);have n1_:=Qa (hbox);have n2_:=Qa ((by rw [hg];exact (Qm (bg0_)) : w.heap.size ≤ gb180));have n3_:=Qa ((by rw [hg];exact (Qm (bg0_)) : w.heap.size ≤ gb180));clear HB;have HB:=n0_;have BK180:=n1_;have GW180:=n2_;have GE180:=n3_;clear n0_ n1_ n2_ n3_;clear hb hbox hg;have hcz7_0 : w6.cell? ⟨gb180,0,none⟩ = some (.slice A0_0 l0_0.length c0_0):=(Qb BK180.o 0).trans rfl;have hcz7_1 : w6.cell? ⟨gb180,1,none⟩ = some (.slice A0_1 l0_1.length c0_1):=(Qb BK180.o 1).trans rfl;have hcz7_2 : w6.cell? ⟨gb180,2,none⟩ = some (.slice A0_2 l0_2.length c0_2):=(Qb BK180.o 2).trans rfl;have hcz7_3 : w6.cell? ⟨gb180,3,none⟩ = some (.slice A0_3 l0_3.length c0_3):=(Qb BK180.o 3).trans rfl;have hfz7_0:=Qc BK180.o 0;have hfz7_1:=Qc BK180.o 1;have hfz7_2:=Qc BK180.o 2;have hfz7_3:=Qc BK180.o 3)|((with_reducible refine gate_callee (f:=47) rfl ?_);refine goesL_ (some 10) rfl rfl Try.func47 (by kernel_rfl) rfl #[.int .i64 a1,.int .i64 33,.int .i64 (wrap64 ((l0_0.length : Int) - 1))] rfl (sf0_) ?_;(with_reducible refine (spec_l1In.calls a1 33 (wrap64 ((l0_0.length : Int) - 1)) true _ A3.o).mono ?_);rintro e w' ⟨rfl,⟨nd,rfl⟩⟩;refine ⟨_,rfl,?_⟩)|(go_at_call 63;(with_reducible refine (spec_l5Used.calls _ _ l0_1 a1 t182 _ ?side1 ?side2 A5.o).mono ?_);(case side1=>repeat (first|exact (Qn HR0_1.o (b180_))|(with_reducible first|apply Qo|apply Qp|apply Qq)));(case side2=>exact HC0_1.o);rintro e w' ⟨rfl,⟨nd,rfl⟩⟩));go_ret;exact ⟨sf2_,b180_⟩
 ·replace c4:=QM c4;subst c4;(have H1 : (some false) = some r:=by rw [if_neg (show ¬ (false = true) by decide)] at H;exact H);clear H;have H:=H1;clear H1;obtain rfl:=QL H;go_enter Try.func60,Try.ntmps60;go_wp2_with (first|((with_reducible refine gate_dst (N:=2) rfl ?_);refine box_event ?hg (N:=2) ?hd (cs:=#[.slice A0_0 l0_0.length c0_0,.slice A0_1 l0_1.length c0_1,.slice A0_2 l0_2.length c0_2,.slice A0_3 l0_3.length c0_3]) (t:=30) ?hr ?_;(case hd=>rfl);(case hg=>rfl);(case hr=>first|(go_simp;done)|(go_simp;rfl));intro gb180 hg w8 hbox hb;have n0_:=Qa (Ql (bg0_) hb);have n1_:=Qa (hbox);have n2_:=Qa ((by rw [hg];exact (Qm (bg0_)) : w.heap.size ≤ gb180));have n3_:=Qa ((by rw [hg];exact (Qm (bg0_)) : w.heap.size ≤ gb180));clear HB;have HB:=n0_;have BK180:=n1_;have GW180:=n2_;have GE180:=n3_;clear n0_ n1_ n2_ n3_;clear hb hbox hg;have hcz9_0 : w8.cell? ⟨gb180,0,none⟩ = some (.slice A0_0 l0_0.length c0_0):=(Qb BK180.o 0).trans rfl;have hcz9_1 : w8.cell? ⟨gb180,1,none⟩ = some (.slice A0_1 l0_1.length c0_1):=(Qb BK180.o 1).trans rfl;have hcz9_2 : w8.cell? ⟨gb180,2,none⟩ = some (.slice A0_2 l0_2.length c0_2):=(Qb BK180.o 2).trans rfl;have hcz9_3 : w8.cell? ⟨gb180,3,none⟩ = some (.slice A0_3 l0_3.length c0_3):=(Qb BK180.o 3).trans rfl;have hfz9_0:=Qc BK180.o 0;have hfz9_1:=Qc BK180.o 1;have hfz9_2:=Qc BK180.o 2;have hfz9_3:=Qc BK180.o 3)|((with_reducible refine gate_callee (f:=47) rfl ?_);refine goesL_ (some 10) rfl rfl Try.func47 (by kernel_rfl) rfl #[.int .i64 a1,.int .i64 33,.int .i64 (wrap64 ((l0_0.length : Int) - 1))] rfl (sf0_) ?_;(with_reducible refine (spec_l1In.calls a1 33 (wrap64 ((l0_0.length : Int) - 1)) false _ A3.o).mono ?_);rintro e w' ⟨rfl,⟨nd,rfl⟩⟩;refine ⟨_,rfl,?_⟩));go_ret;exact ⟨sf2_,b180_⟩

end Go.Proofs.Ytcdlookokffkeaa.PFnExactNeedForKeys
