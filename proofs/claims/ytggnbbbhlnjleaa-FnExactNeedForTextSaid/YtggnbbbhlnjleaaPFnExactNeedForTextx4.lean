-- Written by a program of this session over the print of the kit (wip/t/patch_print.py).
import Derived.Test.YtggnbbbhlnjleaaPFnExactNeedForTextx0
import Derived.Test.YtggnbbbhlnjleaaPFnExactNeedForTextx2
namespace Go.Proofs.Ytggnbbbhlnjleaa.PFnExactNeedForText
open Go.RowKit Go.Proofs.YtggnbbbhlnjleaaW.PrintWords Go.Proofs.YtggnbbbhlnjleaaW.PrintLast Go.Proofs.YtggnbbbhlnjleaaW.PrintMore
attribute [local go_sem] max2_int min2_int max_two min_two max_three min_three max_four min_four   -- for this text's walks alone
set_option linter.unusedVariables false
set_option linter.unusedSimpArgs false

/-! ### spec_l5Has: function 56 -/
def spec_l5Has.l0 : Nat → Int → List Int → Int → Int → Option (Bool)
 | 0,_,_,_,_=>none
 | k + 1,x1,x7,x8,x9=>if x9 < x8 then (if 0 ≤ x9 then (if x9 < (x7.length : Int) then (if (rd x7 x9) = x1 then (some true) else (spec_l5Has.l0 k x1 x7 x8 (wrap64 (x9 + 1)))) else (none)) else (none)) else (some false)
def spec_l5Has.f (k : Nat) (l0 : List Int) (a1 : Int) : Option (Bool):=spec_l5Has.l0 k a1 l0 (l0.length : Int) 0
theorem spec_l5Has.mono_l : ∀ k,(∀ y0 y1 y2 y3,LeO (spec_l5Has.l0 k y0 y1 y2 y3) (spec_l5Has.l0 (k + 1) y0 y1 y2 y3))
 | 0=>fun _ _ _ _ r h=>by simp [spec_l5Has.l0] at h
 | k + 1=>by
  have ih0:=spec_l5Has.mono_l k
  ·intro y0 y1 y2 y3;unfold spec_l5Has.l0
   repeat' first|(with_reducible first|exact ih0 _ _ _ _|exact LeO.refl _|exact LeO.none _|refine LeO.ite ?_ ?_|refine LeO.bind ?_ (fun _=>?_))|exact ih0 _ _ _ _|exact LeO.none _|refine LeO.ite ?_ ?_|refine LeO.bind ?_ (fun _=>?_)
theorem spec_l5Has.mono : ∀ a0 a1 k,LeO (spec_l5Has.f k a0 a1) (spec_l5Has.f (k + 1) a0 a1):=by
 intro a0 a1 k;have ih0:=spec_l5Has.mono_l k;unfold spec_l5Has.f
 repeat' first|(with_reducible first|exact ih0 _ _ _ _|exact LeO.refl _|exact LeO.none _|refine LeO.ite ?_ ?_|refine LeO.bind ?_ (fun _=>?_))|exact ih0 _ _ _ _|exact LeO.none _|refine LeO.ite ?_ ?_|refine LeO.bind ?_ (fun _=>?_)
set_option maxHeartbeats 8000000 in
set_option maxRecDepth 100000 in
theorem spec_l5Has.calls (k : Nat) (A0 : Option Addr) (c0 : Nat) (l0 : List Int) (a1 : Int) (r : Bool) (w : World) (hr0 : Kd.C (Kd.int .i64) w A0 l0.length l0) (hc0 : l0.length ≤ c0) (h : spec_l5Has.f k l0 a1 = some r) :
  Calls Try.prog 56 #[.slice A0 l0.length c0,.int .i64 a1] w fun e w'=>e = .returned (.bool r)∧Drawn0 w w':=by
 have HR0:=Qa hr0;have HC0:=Qa hc0;clear hr0 hc0;have H : (spec_l5Has.l0 k a1 l0 (l0.length : Int) 0) = some r:=h;clear h;have H':=Qa H;clear H;go_enter Try.func56,Try.ntmps56;go_wp2;go_loopg [9] k (fun kq v9 w'=>∃ (x9_1 : Int),v9 = .int .i64 x9_1∧Aside0 (spec_l5Has.l0 kq a1 l0 (l0.length : Int) x9_1 = some r)∧Aside0 (kq ≤ k)∧Drawn0 w w')
 case atStart=>exact ⟨(0),(by first|rfl|(simp;done)|(simp [*];done)),H',⟨QS _⟩,by repeat (first|exact Drawn0.refl _|apply Drawn0.step)⟩
 case round =>
  clear H';(try clear p2);obtain ⟨x9_1,rfl,HA,HK1,⟨m1,rfl⟩⟩:=hrel
  cases gk with
  | zero=>exact absurd HA.out (by simp [spec_l5Has.l0])
  | succ k1 =>
   have H:=HA.out;clear HA;simp only [spec_l5Has.l0] at H
   by_cases c3 : x9_1 < (l0.length : Int)
   ·rw [if_pos c3] at H;have c3b0 : decide (x9_1 < (l0.length : Int)) = true:=QG c3;clear c3
    by_cases c4 : 0 ≤ x9_1
    ·rw [if_pos c4] at H;have c4b0 : decide (0 ≤ x9_1) = true:=QG c4;clear c4
     by_cases c5 : x9_1 < (l0.length : Int)
     ·rw [if_pos c5] at H;have c5b0 : decide (x9_1 < (l0.length : Int)) = true:=QG c5;clear c5
      by_cases c6 : (rd l0 x9_1) = a1
      ·rw [if_pos c6] at H;have c6b0 : ((rd l0 x9_1) == a1) = true:=beq_iff_eq.mpr c6;have c6b1 : ((rd l0 x9_1) != a1) = false:=bne_eq_false_iff_eq.mpr c6;clear c6;obtain rfl:=QO H;have p167 : 0 ≤ (x9_1 : Int):=QF (by assumption);have q167 : x9_1 < (l0.length : Int):=QF (by assumption);obtain ⟨ad167,e167,hx167_0⟩:=Kd.at_int HR0.o x9_1 p167 q167;cases e167;replace p167:=eq_true p167;replace q167:=eq_true q167;go_wp2;go_ret;exact ⟨by first|rfl|(simp;done)|(simp [*];done),by repeat (first|exact Drawn0.refl _|apply Drawn0.step)⟩
      ·rw [if_neg c6] at H;have c6b0 : ((rd l0 x9_1) == a1) = false:=beq_eq_false_iff_ne.mpr c6;have c6b1 : ((rd l0 x9_1) != a1) = true:=bne_iff_ne.mpr c6;have H':=Qa H;clear H;have p167 : 0 ≤ (x9_1 : Int):=QF (by assumption);have q167 : x9_1 < (l0.length : Int):=QF (by assumption);obtain ⟨ad167,e167,hx167_0⟩:=Kd.at_int HR0.o x9_1 p167 q167;cases e167;replace p167:=eq_true p167;replace q167:=eq_true q167;go_wp2;go_roundg k1
       case measure=>have:=HK1.o;omega
       case rel=>exact ⟨(wrap64 (x9_1 + 1)),(by first|rfl|(simp;done)|(simp [*];done)),H',⟨by have:=HK1.o;omega⟩,by repeat (first|exact Drawn0.refl _|apply Drawn0.step)⟩
     ·rw [if_neg c5] at H;exact absurd H (by simp)
    ·rw [if_neg c4] at H;exact absurd H (by simp)
   ·rw [if_neg c3] at H;have c3b0 : decide (x9_1 < (l0.length : Int)) = false:=QH c3;clear c3;obtain rfl:=QO H;go_wp2;go_ret;exact ⟨by first|rfl|(simp;done)|(simp [*];done),by repeat (first|exact Drawn0.refl _|apply Drawn0.step)⟩

/-! ### spec_l5Live: function 55 -/
def spec_l5Live.f (k : Nat) (l0_0 : List (List Int)) (l0_1 : List Int) (l0_2 : List Int) (l0_3 : List Int) (a1 : Int) : Option (Bool):=(spec_l1In.f a1 33 (wrap64 ((l0_0.length : Int) - 1))).bind fun t169=>(if t169 = true then ((spec_l5Used.f l0_1 a1).bind fun t170=>(if t170 = true then ((spec_l5Has.f k l0_2 a1).bind fun t171=>(some (!t171))) else (some false))) else (some false))
theorem spec_l5Live.mono : ∀ a0 a1 a2 a3 a4 k,LeO (spec_l5Live.f k a0 a1 a2 a3 a4) (spec_l5Live.f (k + 1) a0 a1 a2 a3 a4):=by
 intro a0 a1 a2 a3 a4 k;unfold spec_l5Live.f
 repeat' first|(with_reducible first|exact spec_l5Has.mono _ _ _|exact LeO.refl _|exact LeO.none _|refine LeO.ite ?_ ?_|refine LeO.bind ?_ (fun _=>?_))|exact spec_l5Has.mono _ _ _|exact LeO.none _|refine LeO.ite ?_ ?_|refine LeO.bind ?_ (fun _=>?_)
set_option maxHeartbeats 8000000 in
set_option maxRecDepth 100000 in
theorem spec_l5Live.calls (k : Nat) (A0_0 : Option Addr) (c0_0 : Nat) (l0_0 : List (List Int)) (A0_1 : Option Addr) (c0_1 : Nat) (l0_1 : List Int) (A0_2 : Option Addr) (c0_2 : Nat) (l0_2 : List Int) (A0_3 : Option Addr) (c0_3 : Nat) (l0_3 : List Int) (a1 : Int) (r : Bool) (w : World) (hr0_0 : Kd.C (Kd.slice 5 (Kd.int .u8)) w A0_0 l0_0.length l0_0) (hc0_0 : l0_0.length ≤ c0_0) (hr0_1 : Kd.C (Kd.int .u8) w A0_1 l0_1.length l0_1) (hc0_1 : l0_1.length ≤ c0_1) (hr0_2 : Kd.C (Kd.int .i64) w A0_2 l0_2.length l0_2) (hc0_2 : l0_2.length ≤ c0_2) (hr0_3 : Kd.C (Kd.int .i64) w A0_3 l0_3.length l0_3) (hc0_3 : l0_3.length ≤ c0_3) (h : spec_l5Live.f k l0_0 l0_1 l0_2 l0_3 a1 = some r) :
  Calls Try.prog 55 #[.agg #[.slice A0_0 l0_0.length c0_0,.slice A0_1 l0_1.length c0_1,.slice A0_2 l0_2.length c0_2,.slice A0_3 l0_3.length c0_3],.int .i64 a1] w fun e w'=>e = .returned (.bool r)∧Below w.heap.size w w':=by
 have hu28:=Try.underlying28;have HR0_0:=Qa hr0_0;have HC0_0:=Qa hc0_0;clear hr0_0 hc0_0;have HR0_1:=Qa hr0_1;have HC0_1:=Qa hc0_1;clear hr0_1 hc0_1;have HR0_2:=Qa hr0_2;have HC0_2:=Qa hc0_2;clear hr0_2 hc0_2;have HR0_3:=Qa hr0_3;have HC0_3:=Qa hc0_3;clear hr0_3 hc0_3;have HB:=Qa (Below.refl w.heap.size w);have H : ((spec_l1In.f a1 33 (wrap64 ((l0_0.length : Int) - 1))).bind fun t169=>(if t169 = true then ((spec_l5Used.f l0_1 a1).bind fun t170=>(if t170 = true then ((spec_l5Has.f k l0_2 a1).bind fun t171=>(some (!t171))) else (some false))) else (some false))) = some r:=h;clear h;replace H:=QE H;obtain ⟨t169,A30,H⟩:=H;replace H : (if t169 = true then ((spec_l5Used.f l0_1 a1).bind fun t170=>(if t170 = true then ((spec_l5Has.f k l0_2 a1).bind fun t171=>(some (!t171))) else (some false))) else (some false)) = some r:=H;have A3:=Qa A30;clear A30
 by_cases c4 : t169 = true
 ·subst c4;(have H1 : ((spec_l5Used.f l0_1 a1).bind fun t170=>(if t170 = true then ((spec_l5Has.f k l0_2 a1).bind fun t171=>(some (!t171))) else (some false))) = some r:=by rw [if_pos rfl] at H;exact H);clear H;have H:=H1;clear H1;replace H:=QE H;obtain ⟨t170,A50,H⟩:=H;replace H : (if t170 = true then ((spec_l5Has.f k l0_2 a1).bind fun t171=>(some (!t171))) else (some false)) = some r:=H;have A5:=Qa A50;clear A50
  by_cases c6 : t170 = true
  ·subst c6;(have H1 : ((spec_l5Has.f k l0_2 a1).bind fun t171=>(some (!t171))) = some r:=by rw [if_pos rfl] at H;exact H);clear H;have H:=H1;clear H1;replace H:=QE H;obtain ⟨t171,A70,H⟩:=H;replace H : (some (!t171)) = some r:=H;have A7:=Qa A70;clear A70;obtain rfl:=QO H;go_enter Try.func55,Try.ntmps55;go_wp2_with (first|((with_reducible refine gate_dst (N:=2) rfl ?_);refine box_event ?hg (N:=2) ?hd (cs:=#[.slice A0_0 l0_0.length c0_0,.slice A0_1 l0_1.length c0_1,.slice A0_2 l0_2.length c0_2,.slice A0_3 l0_3.length c0_3]) (t:=28) ?hr ?_;(case hd=>rfl);(case hg=>rfl);(case hr=>first|(go_simp;done)|(go_simp;rfl));intro gb168 hg w8 hbox hb;have n0_:=Qa (Qm (by repeat (first|exact HB.o|apply Qk|apply Qi|apply Qj)) hb);have n1_:=Qa (hbox);have n2_:=Qa ((by rw [hg];exact (Qn (by repeat (first|exact HB.o|apply Qk|apply Qi|apply Qj))) : w.heap.size ≤ gb168));have n3_:=Qa ((by rw [hg];exact (Qn (by repeat (first|exact HB.o|apply Qk|apply Qi|apply Qj))) : w.heap.size ≤ gb168));clear HB;have HB:=n0_;have BK168:=n1_;have GW168:=n2_;have GE168:=n3_;clear n0_ n1_ n2_ n3_;clear hb hbox hg;have hcz9_0 : w8.cell? ⟨gb168,0,none⟩ = some (.slice A0_0 l0_0.length c0_0):=(Qb BK168.o 0).trans rfl;have hcz9_1 : w8.cell? ⟨gb168,1,none⟩ = some (.slice A0_1 l0_1.length c0_1):=(Qb BK168.o 1).trans rfl;have hcz9_2 : w8.cell? ⟨gb168,2,none⟩ = some (.slice A0_2 l0_2.length c0_2):=(Qb BK168.o 2).trans rfl;have hcz9_3 : w8.cell? ⟨gb168,3,none⟩ = some (.slice A0_3 l0_3.length c0_3):=(Qb BK168.o 3).trans rfl;have hfz9_0:=Qc BK168.o 0;have hfz9_1:=Qc BK168.o 1;have hfz9_2:=Qc BK168.o 2;have hfz9_3:=Qc BK168.o 3)|((with_reducible refine gate_callee (f:=53) rfl ?_);refine goesL_ (some 10) rfl rfl Try.func53 (by kernel_rfl) rfl #[.int .i64 a1,.int .i64 33,.int .i64 (wrap64 ((l0_0.length : Int) - 1))] rfl (by (try simp only [QL,QM,QN]);first|done|rfl|(simp only [List.length_drop,List.length_take];rfl)) ?_;(with_reducible refine (spec_l1In.calls a1 33 (wrap64 ((l0_0.length : Int) - 1)) true _ A3.o).mono ?_);rintro e w' ⟨rfl,⟨nd,rfl⟩⟩;refine ⟨_,rfl,?_⟩)|(go_at_call 54;(with_reducible refine (spec_l5Used.calls _ _ l0_1 a1 true _ ?side1 ?side2 A5.o).mono ?_);(case side1=>repeat (first|exact (Qo HR0_1.o (by repeat (first|(with_reducible first|exact HB.o|apply Qk|apply Qi|apply Qj|refine Ql ?_ GE168.o)|exact HB.o)))|(with_reducible first|apply Qp|apply Qq|apply Qr)));(case side2=>exact HC0_1.o);rintro e w' ⟨rfl,⟨nd,rfl⟩⟩)|(go_at_call 56;(with_reducible refine (spec_l5Has.calls k _ _ l0_2 a1 t171 _ ?side1 ?side2 A7.o).mono ?_);(case side1=>repeat (first|exact (Qo HR0_2.o (by repeat (first|(with_reducible first|exact HB.o|apply Qk|apply Qi|apply Qj|refine Ql ?_ GE168.o)|exact HB.o)))|(with_reducible first|apply Qp|apply Qq|apply Qr)));(case side2=>exact HC0_2.o);rintro e w' ⟨rfl,⟨nd,rfl⟩⟩));go_ret;exact ⟨by first|rfl|(simp [*,errW_none,errW_some] <;> rfl),by repeat (first|(with_reducible first|exact HB.o|apply Qk|apply Qi|apply Qj|refine Ql ?_ GE168.o)|exact HB.o)⟩
  ·replace c6:=QP c6;subst c6;(have H1 : (some false) = some r:=by rw [if_neg (show ¬ (false = true) by decide)] at H;exact H);clear H;have H:=H1;clear H1;obtain rfl:=QO H;go_enter Try.func55,Try.ntmps55;go_wp2_with (first|((with_reducible refine gate_dst (N:=2) rfl ?_);refine box_event ?hg (N:=2) ?hd (cs:=#[.slice A0_0 l0_0.length c0_0,.slice A0_1 l0_1.length c0_1,.slice A0_2 l0_2.length c0_2,.slice A0_3 l0_3.length c0_3]) (t:=28) ?hr ?_;(case hd=>rfl);(case hg=>rfl);(case hr=>first|(go_simp;done)|(go_simp;rfl));intro gb168 hg w10 hbox hb;have n0_:=Qa (Qm (by repeat (first|exact HB.o|apply Qk|apply Qi|apply Qj)) hb);have n1_:=Qa (hbox);have n2_:=Qa ((by rw [hg];exact (Qn (by repeat (first|exact HB.o|apply Qk|apply Qi|apply Qj))) : w.heap.size ≤ gb168));have n3_:=Qa ((by rw [hg];exact (Qn (by repeat (first|exact HB.o|apply Qk|apply Qi|apply Qj))) : w.heap.size ≤ gb168));clear HB;have HB:=n0_;have BK168:=n1_;have GW168:=n2_;have GE168:=n3_;clear n0_ n1_ n2_ n3_;clear hb hbox hg;have hcz11_0 : w10.cell? ⟨gb168,0,none⟩ = some (.slice A0_0 l0_0.length c0_0):=(Qb BK168.o 0).trans rfl;have hcz11_1 : w10.cell? ⟨gb168,1,none⟩ = some (.slice A0_1 l0_1.length c0_1):=(Qb BK168.o 1).trans rfl;have hcz11_2 : w10.cell? ⟨gb168,2,none⟩ = some (.slice A0_2 l0_2.length c0_2):=(Qb BK168.o 2).trans rfl;have hcz11_3 : w10.cell? ⟨gb168,3,none⟩ = some (.slice A0_3 l0_3.length c0_3):=(Qb BK168.o 3).trans rfl;have hfz11_0:=Qc BK168.o 0;have hfz11_1:=Qc BK168.o 1;have hfz11_2:=Qc BK168.o 2;have hfz11_3:=Qc BK168.o 3)|((with_reducible refine gate_callee (f:=53) rfl ?_);refine goesL_ (some 10) rfl rfl Try.func53 (by kernel_rfl) rfl #[.int .i64 a1,.int .i64 33,.int .i64 (wrap64 ((l0_0.length : Int) - 1))] rfl (by (try simp only [QL,QM,QN]);first|done|rfl|(simp only [List.length_drop,List.length_take];rfl)) ?_;(with_reducible refine (spec_l1In.calls a1 33 (wrap64 ((l0_0.length : Int) - 1)) true _ A3.o).mono ?_);rintro e w' ⟨rfl,⟨nd,rfl⟩⟩;refine ⟨_,rfl,?_⟩)|(go_at_call 54;(with_reducible refine (spec_l5Used.calls _ _ l0_1 a1 false _ ?side1 ?side2 A5.o).mono ?_);(case side1=>repeat (first|exact (Qo HR0_1.o (by repeat (first|(with_reducible first|exact HB.o|apply Qk|apply Qi|apply Qj|refine Ql ?_ GE168.o)|exact HB.o)))|(with_reducible first|apply Qp|apply Qq|apply Qr)));(case side2=>exact HC0_1.o);rintro e w' ⟨rfl,⟨nd,rfl⟩⟩));go_ret;exact ⟨by first|rfl|(simp [*,errW_none,errW_some] <;> rfl),by repeat (first|(with_reducible first|exact HB.o|apply Qk|apply Qi|apply Qj|refine Ql ?_ GE168.o)|exact HB.o)⟩
 ·replace c4:=QP c4;subst c4;(have H1 : (some false) = some r:=by rw [if_neg (show ¬ (false = true) by decide)] at H;exact H);clear H;have H:=H1;clear H1;obtain rfl:=QO H;go_enter Try.func55,Try.ntmps55;go_wp2_with (first|((with_reducible refine gate_dst (N:=2) rfl ?_);refine box_event ?hg (N:=2) ?hd (cs:=#[.slice A0_0 l0_0.length c0_0,.slice A0_1 l0_1.length c0_1,.slice A0_2 l0_2.length c0_2,.slice A0_3 l0_3.length c0_3]) (t:=28) ?hr ?_;(case hd=>rfl);(case hg=>rfl);(case hr=>first|(go_simp;done)|(go_simp;rfl));intro gb168 hg w12 hbox hb;have n0_:=Qa (Qm (by repeat (first|exact HB.o|apply Qk|apply Qi|apply Qj)) hb);have n1_:=Qa (hbox);have n2_:=Qa ((by rw [hg];exact (Qn (by repeat (first|exact HB.o|apply Qk|apply Qi|apply Qj))) : w.heap.size ≤ gb168));have n3_:=Qa ((by rw [hg];exact (Qn (by repeat (first|exact HB.o|apply Qk|apply Qi|apply Qj))) : w.heap.size ≤ gb168));clear HB;have HB:=n0_;have BK168:=n1_;have GW168:=n2_;have GE168:=n3_;clear n0_ n1_ n2_ n3_;clear hb hbox hg;have hcz13_0 : w12.cell? ⟨gb168,0,none⟩ = some (.slice A0_0 l0_0.length c0_0):=(Qb BK168.o 0).trans rfl;have hcz13_1 : w12.cell? ⟨gb168,1,none⟩ = some (.slice A0_1 l0_1.length c0_1):=(Qb BK168.o 1).trans rfl;have hcz13_2 : w12.cell? ⟨gb168,2,none⟩ = some (.slice A0_2 l0_2.length c0_2):=(Qb BK168.o 2).trans rfl;have hcz13_3 : w12.cell? ⟨gb168,3,none⟩ = some (.slice A0_3 l0_3.length c0_3):=(Qb BK168.o 3).trans rfl;have hfz13_0:=Qc BK168.o 0;have hfz13_1:=Qc BK168.o 1;have hfz13_2:=Qc BK168.o 2;have hfz13_3:=Qc BK168.o 3)|((with_reducible refine gate_callee (f:=53) rfl ?_);refine goesL_ (some 10) rfl rfl Try.func53 (by kernel_rfl) rfl #[.int .i64 a1,.int .i64 33,.int .i64 (wrap64 ((l0_0.length : Int) - 1))] rfl (by (try simp only [QL,QM,QN]);first|done|rfl|(simp only [List.length_drop,List.length_take];rfl)) ?_;(with_reducible refine (spec_l1In.calls a1 33 (wrap64 ((l0_0.length : Int) - 1)) false _ A3.o).mono ?_);rintro e w' ⟨rfl,⟨nd,rfl⟩⟩;refine ⟨_,rfl,?_⟩));go_ret;exact ⟨by first|rfl|(simp [*,errW_none,errW_some] <;> rfl),by repeat (first|(with_reducible first|exact HB.o|apply Qk|apply Qi|apply Qj|refine Ql ?_ GE168.o)|exact HB.o)⟩

/-! ### spec_l7Rest: function 57 -/
def spec_l7Rest.l0 : Nat → List Int → Int → Int → Option (Bool)
 | 0,_,_,_=>none
 | k + 1,x9,x10,x11=>if x11 < x10 then (if 0 ≤ x11 then (if x11 < (x9.length : Int) then (if (rd x9 x11) = 0 then (spec_l7Rest.l0 k x9 x10 (wrap64 (x11 + 1))) else (some false)) else (none)) else (none)) else (some true)
def spec_l7Rest.f (k : Nat) (l0 : List Int) (a1 : Int) : Option (Bool):=if 0 ≤ a1 then (if a1 ≤ (l0.length : Int) then (spec_l7Rest.l0 k (l0.drop (a1 : Int).toNat) ((l0.drop (a1 : Int).toNat).length : Int) 0) else (none)) else (none)
theorem spec_l7Rest.mono_l : ∀ k,(∀ y0 y1 y2,LeO (spec_l7Rest.l0 k y0 y1 y2) (spec_l7Rest.l0 (k + 1) y0 y1 y2))
 | 0=>fun _ _ _ r h=>by simp [spec_l7Rest.l0] at h
 | k + 1=>by
  have ih0:=spec_l7Rest.mono_l k
  ·intro y0 y1 y2;unfold spec_l7Rest.l0
   repeat' first|(with_reducible first|exact ih0 _ _ _|exact LeO.refl _|exact LeO.none _|refine LeO.ite ?_ ?_|refine LeO.bind ?_ (fun _=>?_))|exact ih0 _ _ _|exact LeO.none _|refine LeO.ite ?_ ?_|refine LeO.bind ?_ (fun _=>?_)
theorem spec_l7Rest.mono : ∀ a0 a1 k,LeO (spec_l7Rest.f k a0 a1) (spec_l7Rest.f (k + 1) a0 a1):=by
 intro a0 a1 k;have ih0:=spec_l7Rest.mono_l k;unfold spec_l7Rest.f
 repeat' first|(with_reducible first|exact ih0 _ _ _|exact LeO.refl _|exact LeO.none _|refine LeO.ite ?_ ?_|refine LeO.bind ?_ (fun _=>?_))|exact ih0 _ _ _|exact LeO.none _|refine LeO.ite ?_ ?_|refine LeO.bind ?_ (fun _=>?_)
set_option maxHeartbeats 8000000 in
set_option maxRecDepth 100000 in
theorem spec_l7Rest.calls (k : Nat) (A0 : Option Addr) (c0 : Nat) (l0 : List Int) (a1 : Int) (r : Bool) (w : World) (hr0 : Kd.C (Kd.int .u8) w A0 l0.length l0) (hc0 : l0.length ≤ c0) (h : spec_l7Rest.f k l0 a1 = some r) :
  Calls Try.prog 57 #[.slice A0 l0.length c0,.int .i64 a1] w fun e w'=>e = .returned (.bool r)∧Drawn0 w w':=by
 have HR0:=Qa hr0;have HC0:=Qa hc0;clear hr0 hc0;have H : (if 0 ≤ a1 then (if a1 ≤ (l0.length : Int) then (spec_l7Rest.l0 k (l0.drop (a1 : Int).toNat) ((l0.drop (a1 : Int).toNat).length : Int) 0) else (none)) else (none)) = some r:=h;clear h
 by_cases c3 : 0 ≤ a1
 ·rw [if_pos c3] at H;have c3b0:=eq_true c3;have c3b1 : decide (0 ≤ a1) = true:=QG c3;clear c3
  by_cases c4 : a1 ≤ (l0.length : Int)
  ·rw [if_pos c4] at H;have c4b0:=eq_true c4;have c4b1 : decide (a1 ≤ (l0.length : Int)) = true:=QG c4;clear c4;have H':=Qa H;clear H;obtain ⟨i05,hi05,_,hsz5,_⟩:=info_parts info5;obtain ⟨A5,hcut5,hA5,hC5⟩:=print_drop_of (P:=Try.prog) (Value.int .u8) 0 23 5 .i64 Try.underlying23 hi05 hsz5 A0 c0 l0 a1 (QF (by assumption)) (QF (by assumption)) HC0.o;have HR172:=Qa (Kd.C_of_reads (h1:=fun _=>rfl) (hA5 _ (Kd.reads_of_C HR0.o)));have HC172:=Qa hC5;clear hA5 hC5 hi05 hsz5;go_enter Try.func57,Try.ntmps57;go_wp2;go_loopg [11] k (fun kq v11 w'=>∃ (x11_1 : Int),v11 = .int .i64 x11_1∧Aside0 (spec_l7Rest.l0 kq (l0.drop (a1 : Int).toNat) ((l0.drop (a1 : Int).toNat).length : Int) x11_1 = some r)∧Aside0 (kq ≤ k)∧Drawn0 w w')
   case atStart=>exact ⟨(0),(by first|rfl|(simp;done)|(simp [*];done)),H',⟨QS _⟩,by repeat (first|exact Drawn0.refl _|apply Drawn0.step)⟩
   case round =>
    clear H';(try clear p2;try clear c3;try clear c3b0;try clear c3b1;try clear c4;try clear c4b0;try clear c4b1;try clear c5);obtain ⟨x11_1,rfl,HA,HK1,⟨m1,rfl⟩⟩:=hrel
    cases gk with
    | zero=>exact absurd HA.out (by simp [spec_l7Rest.l0])
    | succ k1 =>
     have H:=HA.out;clear HA;simp only [spec_l7Rest.l0] at H
     by_cases c6 : x11_1 < ((l0.drop (a1 : Int).toNat).length : Int)
     ·rw [if_pos c6] at H;have c6b0 : decide (x11_1 < ((l0.drop (a1 : Int).toNat).length : Int)) = true:=QG c6;(have c6b0x : decide (x11_1 < ((l0.length - (a1 : Int).toNat : Nat) : Int)) = true:=by rw [← List.length_drop];exact c6b0);clear c6
      by_cases c7 : 0 ≤ x11_1
      ·rw [if_pos c7] at H;have c7b0 : decide (0 ≤ x11_1) = true:=QG c7;clear c7
       by_cases c8 : x11_1 < ((l0.drop (a1 : Int).toNat).length : Int)
       ·rw [if_pos c8] at H;have c8b0 : decide (x11_1 < ((l0.drop (a1 : Int).toNat).length : Int)) = true:=QG c8;(have c8b0x : decide (x11_1 < ((l0.length - (a1 : Int).toNat : Nat) : Int)) = true:=by rw [← List.length_drop];exact c8b0);clear c8
        by_cases c9 : (rd (l0.drop (a1 : Int).toNat) x11_1) = 0
        ·rw [if_pos c9] at H;have c9b0 : ((rd (l0.drop (a1 : Int).toNat) x11_1) == 0) = true:=beq_iff_eq.mpr c9;have c9b1 : ((rd (l0.drop (a1 : Int).toNat) x11_1) != 0) = false:=bne_eq_false_iff_eq.mpr c9;clear c9;have H':=Qa H;clear H;have p173 : 0 ≤ (x11_1 : Int):=QF (by assumption);have q173 : x11_1 < ((l0.drop (a1 : Int).toNat).length : Int):=QF (by assumption);have q173x : (x11_1 < ((l0.length - (a1 : Int).toNat : Nat) : Int)) = True:=eq_true (by rw [← List.length_drop];exact q173);obtain ⟨ad173,e173,hx173_0⟩:=Kd.at_int HR172.o x11_1 p173 q173;cases e173;replace p173:=eq_true p173;replace q173:=eq_true q173;go_wp2;go_roundg k1
         case measure=>have:=HK1.o;omega
         case rel=>exact ⟨(wrap64 (x11_1 + 1)),(by first|rfl|(simp;done)|(simp [*];done)),H',⟨by have:=HK1.o;omega⟩,by repeat (first|exact Drawn0.refl _|apply Drawn0.step)⟩
        ·rw [if_neg c9] at H;have c9b0 : ((rd (l0.drop (a1 : Int).toNat) x11_1) == 0) = false:=beq_eq_false_iff_ne.mpr c9;have c9b1 : ((rd (l0.drop (a1 : Int).toNat) x11_1) != 0) = true:=bne_iff_ne.mpr c9;obtain rfl:=QO H;have p173 : 0 ≤ (x11_1 : Int):=QF (by assumption);have q173 : x11_1 < ((l0.drop (a1 : Int).toNat).length : Int):=QF (by assumption);have q173x : (x11_1 < ((l0.length - (a1 : Int).toNat : Nat) : Int)) = True:=eq_true (by rw [← List.length_drop];exact q173);obtain ⟨ad173,e173,hx173_0⟩:=Kd.at_int HR172.o x11_1 p173 q173;cases e173;replace p173:=eq_true p173;replace q173:=eq_true q173;go_wp2;go_ret;exact ⟨by first|rfl|(simp;done)|(simp [*];done),by repeat (first|exact Drawn0.refl _|apply Drawn0.step)⟩
       ·rw [if_neg c8] at H;exact absurd H (by simp)
      ·rw [if_neg c7] at H;exact absurd H (by simp)
     ·rw [if_neg c6] at H;have c6b0 : decide (x11_1 < ((l0.drop (a1 : Int).toNat).length : Int)) = false:=QH c6;(have c6b0x : decide (x11_1 < ((l0.length - (a1 : Int).toNat : Nat) : Int)) = false:=by rw [← List.length_drop];exact c6b0);clear c6;obtain rfl:=QO H;go_wp2;go_ret;exact ⟨by first|rfl|(simp;done)|(simp [*];done),by repeat (first|exact Drawn0.refl _|apply Drawn0.step)⟩
  ·rw [if_neg c4] at H;exact absurd H (by simp)
 ·rw [if_neg c3] at H;exact absurd H (by simp)

end Go.Proofs.Ytggnbbbhlnjleaa.PFnExactNeedForText
