-- Written by a program of this session over the print of the kit (wip/t/patch_print.py).
import Derived.Test.YtggnbbbhlnjleaaPFnExactNeedForTextx0
import Derived.Test.YtggnbbbhlnjleaaPFnExactNeedForTextx5
import Derived.Test.YtggnbbbhlnjleaaPFnExactNeedForTextx6
namespace Go.Proofs.Ytggnbbbhlnjleaa.PFnExactNeedForText
open Go.RowKit Go.Proofs.YtggnbbbhlnjleaaW.PrintWords Go.Proofs.YtggnbbbhlnjleaaW.PrintLast Go.Proofs.YtggnbbbhlnjleaaW.PrintMore
attribute [local go_sem] max2_int min2_int max_two min_two max_three min_three max_four min_four   -- for this text's walks alone
set_option linter.unusedVariables false
set_option linter.unusedSimpArgs false

/-! ### spec_l7Shared: function 69 -/
mutual
def spec_l7Shared.j0 : Nat → ByteArray → List Int → List (List Int) → List Int → List Int → List Int → Option (List Int)
 | 0,_,_,_,_,_,_=>none
 | k + 1,x1,x7,x219000,x219001,x219002,x219003=>(spec_l7Cut.f k x1).bind fun t223=>(spec_l7Shared.l0 k x7 ([] : List Int) t223 (t223.length : Int) 0 x219000 x219001 x219002 x219003)
def spec_l7Shared.l0 : Nat → List Int → List Int → List ByteArray → Int → Int → List (List Int) → List Int → List Int → List Int → Option (List Int)
 | 0,_,_,_,_,_,_,_,_,_=>none
 | k + 1,x7,x8,x21,x22,x23,x219000,x219001,x219002,x219003=>if x23 < x22 then (if 0 ≤ x23 then (if x23 < (x21.length : Int) then (if x23 < (x7.length : Int) then ((spec_l7Piece.f x219000 x219001 x219002 x219003 (rd x7 x23)).bind fun t228=>(if t228.toList = (rdOf ByteArray.empty x21 x23).toList then (if 0 ≤ (rd x7 x23) then (if (rd x7 x23) < (x219000.length : Int) then (if 1 < ((rd_L1 x219000 (rd x7 x23)).length : Int) then (if (rd (rd_L1 x219000 (rd x7 x23)) 1) < 250 then (if x8.length < 17592186044416 then (spec_l7Shared.l0 k x7 (x8 ++ [rd x7 x23]) x21 x22 (wrap64 (x23 + 1)) x219000 x219001 x219002 x219003) else (none)) else (if x8.length < 17592186044416 then (spec_l7Shared.l0 k x7 (x8 ++ [0]) x21 x22 (wrap64 (x23 + 1)) x219000 x219001 x219002 x219003) else (none))) else (none)) else (none)) else (none)) else (if x8.length < 17592186044416 then (spec_l7Shared.l0 k x7 (x8 ++ [0]) x21 x22 (wrap64 (x23 + 1)) x219000 x219001 x219002 x219003) else (none)))) else (if x8.length < 17592186044416 then (spec_l7Shared.l0 k x7 (x8 ++ [0]) x21 x22 (wrap64 (x23 + 1)) x219000 x219001 x219002 x219003) else (none))) else (none)) else (none)) else (some x8)
end
def spec_l7Shared.f (k : Nat) (l0_0 : List (List Int)) (l0_1 : List Int) (l0_2 : List Int) (l0_3 : List Int) (a1 : ByteArray) (a2 : Int) : Option (List Int):=if a2 = 0 then (spec_l7Shared.j0 k a1 ([] : List Int) l0_0 l0_1 l0_2 l0_3) else ((spec_l7Pieces.f k l0_0 l0_1 l0_2 l0_3 a2).bind fun bt219=>(spec_l7Shared.j0 k a1 bt219.1 l0_0 l0_1 l0_2 l0_3))
theorem spec_l7Shared.mono_l : ∀ k,(∀ y0 y1 y2 y3 y4 y5,LeO (spec_l7Shared.j0 k y0 y1 y2 y3 y4 y5) (spec_l7Shared.j0 (k + 1) y0 y1 y2 y3 y4 y5))∧(∀ y0 y1 y2 y3 y4 y5 y6 y7 y8,LeO (spec_l7Shared.l0 k y0 y1 y2 y3 y4 y5 y6 y7 y8) (spec_l7Shared.l0 (k + 1) y0 y1 y2 y3 y4 y5 y6 y7 y8))
 | 0=>⟨fun _ _ _ _ _ _ r h=>by simp [spec_l7Shared.j0] at h,fun _ _ _ _ _ _ _ _ _ r h=>by simp [spec_l7Shared.l0] at h⟩
 | k + 1=>by
  obtain ⟨ih0,ih1⟩:=spec_l7Shared.mono_l k;refine ⟨?_,?_⟩
  ·intro y0 y1 y2 y3 y4 y5;unfold spec_l7Shared.j0
   repeat' first|(with_reducible first|exact ih0 _ _ _ _ _ _|exact ih1 _ _ _ _ _ _ _ _ _|exact spec_l7Cut.mono _ _|exact spec_l7Pieces.mono _ _ _ _ _ _|exact LeO.refl _|exact LeO.none _|refine LeO.ite ?_ ?_|refine LeO.bind ?_ (fun _=>?_))|exact ih0 _ _ _ _ _ _|exact ih1 _ _ _ _ _ _ _ _ _|exact spec_l7Cut.mono _ _|exact spec_l7Pieces.mono _ _ _ _ _ _|exact LeO.none _|refine LeO.ite ?_ ?_|refine LeO.bind ?_ (fun _=>?_)
  ·intro y0 y1 y2 y3 y4 y5 y6 y7 y8;unfold spec_l7Shared.l0
   repeat' first|(with_reducible first|exact ih0 _ _ _ _ _ _|exact ih1 _ _ _ _ _ _ _ _ _|exact spec_l7Cut.mono _ _|exact spec_l7Pieces.mono _ _ _ _ _ _|exact LeO.refl _|exact LeO.none _|refine LeO.ite ?_ ?_|refine LeO.bind ?_ (fun _=>?_))|exact ih0 _ _ _ _ _ _|exact ih1 _ _ _ _ _ _ _ _ _|exact spec_l7Cut.mono _ _|exact spec_l7Pieces.mono _ _ _ _ _ _|exact LeO.none _|refine LeO.ite ?_ ?_|refine LeO.bind ?_ (fun _=>?_)
theorem spec_l7Shared.mono : ∀ a0 a1 a2 a3 a4 a5 k,LeO (spec_l7Shared.f k a0 a1 a2 a3 a4 a5) (spec_l7Shared.f (k + 1) a0 a1 a2 a3 a4 a5):=by
 intro a0 a1 a2 a3 a4 a5 k;obtain ⟨ih0,ih1⟩:=spec_l7Shared.mono_l k;unfold spec_l7Shared.f
 repeat' first|(with_reducible first|exact ih0 _ _ _ _ _ _|exact ih1 _ _ _ _ _ _ _ _ _|exact spec_l7Cut.mono _ _|exact spec_l7Pieces.mono _ _ _ _ _ _|exact LeO.refl _|exact LeO.none _|refine LeO.ite ?_ ?_|refine LeO.bind ?_ (fun _=>?_))|exact ih0 _ _ _ _ _ _|exact ih1 _ _ _ _ _ _ _ _ _|exact spec_l7Cut.mono _ _|exact spec_l7Pieces.mono _ _ _ _ _ _|exact LeO.none _|refine LeO.ite ?_ ?_|refine LeO.bind ?_ (fun _=>?_)
def spec_l7Shared.T9 : Bool × List (List Nat × List Nat):=(true,[([],[]),([],[]),([1],[1]),([0,2],[0,2]),([3],[3]),([4],[4]),([4],[4]),([4],[4]),([6,7,4],[4,6,7]),([8,4],[4,8]),([5,9,4,4],[4,5,9]),([4],[4]),([10,11,4],[4,10,11]),([4,12],[4,12]),([13,10],[13]),([14],[14]),([15,14],[14,15]),([14],[14]),([14],[14]),([17,18,14],[14,17,18]),([19,14],[14,19]),([16,20,14],[14,16,20]),([21,14],[14,21]),([22,14],[14,22]),([23,14],[14,23]),([24,14],[14,24]),([14,25],[14,25])])
def spec_l7Shared.B9 : List Nat:=[0,0,2,7,15,31,31,31,223,479,1023,31,4095,8191,16383,32767,65535,32767,32767,425983,950271,2097151,4194303,8388607,16777215,33554431,67108863]
theorem spec_l7Shared.tab9 : rtab .any (opsOf Try.f69 9) = spec_l7Shared.T9:=by kernel_rfl
theorem spec_l7Shared.bits9 : waitsOk spec_l7Shared.T9.2 spec_l7Shared.B9 = true:=by kernel_rfl
set_option maxHeartbeats 8000000 in
set_option maxRecDepth 100000 in
theorem spec_l7Shared.calls (k : Nat) (A0_0 : Option Addr) (c0_0 : Nat) (l0_0 : List (List Int)) (A0_1 : Option Addr) (c0_1 : Nat) (l0_1 : List Int) (A0_2 : Option Addr) (c0_2 : Nat) (l0_2 : List Int) (A0_3 : Option Addr) (c0_3 : Nat) (l0_3 : List Int) (a1 : ByteArray) (a2 : Int) (r : List Int) (w : World) (hr0_0 : Kd.C (Kd.slice 5 (Kd.int .u8)) w A0_0 l0_0.length l0_0) (hc0_0 : l0_0.length ≤ c0_0) (hr0_1 : Kd.C (Kd.int .u8) w A0_1 l0_1.length l0_1) (hc0_1 : l0_1.length ≤ c0_1) (hr0_2 : Kd.C (Kd.int .i64) w A0_2 l0_2.length l0_2) (hc0_2 : l0_2.length ≤ c0_2) (hr0_3 : Kd.C (Kd.int .i64) w A0_3 l0_3.length l0_3) (hc0_3 : l0_3.length ≤ c0_3) (h : spec_l7Shared.f k l0_0 l0_1 l0_2 l0_3 a1 a2 = some r) :
  Calls Try.prog 69 #[.agg #[.slice A0_0 l0_0.length c0_0,.slice A0_1 l0_1.length c0_1,.slice A0_2 l0_2.length c0_2,.slice A0_3 l0_3.length c0_3],.string a1,.int .i64 a2] w fun e w'=>∃ v0_ : Value,e = .returned (v0_)∧Kd.R (Kd.int .i64) 3 w' w.heap.size (fun _=>True) v0_ r∧Below w.heap.size w w':=by
 have hu28:=Try.underlying28;have HR0_0:=Qa hr0_0;have HC0_0:=Qa hc0_0;clear hr0_0 hc0_0;have HR0_1:=Qa hr0_1;have HC0_1:=Qa hc0_1;clear hr0_1 hc0_1;have HR0_2:=Qa hr0_2;have HC0_2:=Qa hc0_2;clear hr0_2 hc0_2;have HR0_3:=Qa hr0_3;have HC0_3:=Qa hc0_3;clear hr0_3 hc0_3;have HB:=Qa (Below.refl w.heap.size w);have H : (if a2 = 0 then (spec_l7Shared.j0 k a1 ([] : List Int) l0_0 l0_1 l0_2 l0_3) else ((spec_l7Pieces.f k l0_0 l0_1 l0_2 l0_3 a2).bind fun bt219=>(spec_l7Shared.j0 k a1 bt219.1 l0_0 l0_1 l0_2 l0_3))) = some r:=h;clear h;have HC4:=Qa H;clear H;go_enter Try.func69,Try.ntmps69;go_upto_if 13 with (first|((with_reducible refine gate_dst (N:=3) rfl ?_);refine box_event ?hg (N:=3) ?hd (cs:=#[.slice A0_0 l0_0.length c0_0,.slice A0_1 l0_1.length c0_1,.slice A0_2 l0_2.length c0_2,.slice A0_3 l0_3.length c0_3]) (t:=28) ?hr ?_;(case hd=>rfl);(case hg=>rfl);(case hr=>first|(go_simp;done)|(go_simp;rfl));intro gb218 hg w5 hbox hb;have n0_:=Qa (Qm (by repeat (first|exact HB.o|apply Qk|apply Qi|apply Qj)) hb);have n1_:=Qa (hbox);have n2_:=Qa ((by rw [hg];exact (Qn (by repeat (first|exact HB.o|apply Qk|apply Qi|apply Qj))) : w.heap.size ≤ gb218));have n3_:=Qa ((by rw [hg];exact (Qn (by repeat (first|exact HB.o|apply Qk|apply Qi|apply Qj))) : w.heap.size ≤ gb218));clear HB;have HB:=n0_;have BK218:=n1_;have GW218:=n2_;have GE218:=n3_;clear n0_ n1_ n2_ n3_;clear hb hbox hg));(try simp only [Act.put,QI,QJ,QK]);go_cut [7] (fun v7 wc=>∃ (kq : Nat) (x7_3 : List Int),Aside0 (spec_l7Shared.j0 kq a1 x7_3 l0_0 l0_1 l0_2 l0_3 = some r)∧Aside0 (kq ≤ k)∧Aside0 (Kd.R (Kd.int .i64) 3 wc w.heap.size (fun _=>True) v7 x7_3)∧Aside0 (wc.heap[gb218]? = some (.cells #[(.slice A0_0 l0_0.length c0_0),(.slice A0_1 l0_1.length c0_1),(.slice A0_2 l0_2.length c0_2),(.slice A0_3 l0_3.length c0_3)] 28 (0,0)))∧Aside0 (Below w.heap.size w wc))
 case first =>
  have H:=HC4.o;clear HC4
  by_cases c6 : a2 = 0
  ·rw [if_pos c6] at H;have c6b0 : (a2 == 0) = true:=beq_iff_eq.mpr c6;have c6b1 : (a2 != 0) = false:=bne_eq_false_iff_eq.mpr c6;clear c6;(first|rw [c6b0]|(simp only [i64_w,i32_w];rw [c6b0])|skip);have H':=Qa H;clear H;go_wp2;go_meet
   case rel=>exact ⟨_,(([] : List Int)),H',⟨by first|omega|exact QS _⟩,⟨by first|exact Kd.R_nil _ _ _ _ _|exact Kd.N_nil _ _ _ _ _|exact Kd.V_nil _ _ _ _ _|exact Kd.Q_nil _ _ _ _ _|exact Kd.S_nil _ _ _ _ _⟩,⟨by (with_reducible repeat first|apply Qf|apply blk_drew|apply Qe);exact BK218.o⟩,⟨by repeat (first|(with_reducible first|exact HB.o|apply Qk|apply Qi|apply Qj|refine Ql ?_ GE218.o)|exact HB.o)⟩⟩
  ·rw [if_neg c6] at H;have c6b0 : (a2 == 0) = false:=beq_eq_false_iff_ne.mpr c6;have c6b1 : (a2 != 0) = true:=bne_iff_ne.mpr c6;(first|rw [c6b0]|(simp only [i64_w,i32_w];rw [c6b0])|skip);replace H:=QE H;obtain ⟨⟨t219,t222⟩,A70,H⟩:=H;replace H : (spec_l7Shared.j0 k a1 t219 l0_0 l0_1 l0_2 l0_3) = some r:=H;have A7:=Qa A70;clear A70;have H':=Qa H;clear H;have hcz8_0 : w5.cell? ⟨gb218,0,none⟩ = some (.slice A0_0 l0_0.length c0_0):=(Qb BK218.o 0).trans rfl;have hcz8_1 : w5.cell? ⟨gb218,1,none⟩ = some (.slice A0_1 l0_1.length c0_1):=(Qb BK218.o 1).trans rfl;have hcz8_2 : w5.cell? ⟨gb218,2,none⟩ = some (.slice A0_2 l0_2.length c0_2):=(Qb BK218.o 2).trans rfl;have hcz8_3 : w5.cell? ⟨gb218,3,none⟩ = some (.slice A0_3 l0_3.length c0_3):=(Qb BK218.o 3).trans rfl;have hfz8_0:=Qc BK218.o 0;have hfz8_1:=Qc BK218.o 1;have hfz8_2:=Qc BK218.o 2;have hfz8_3:=Qc BK218.o 3;go_wp2_with (first|((with_reducible refine gate_callee (f:=66) rfl ?_);refine goesL_ (some 17) rfl rfl Try.func66 (by kernel_rfl) rfl #[.agg #[.slice A0_0 l0_0.length c0_0,.slice A0_1 l0_1.length c0_1,.slice A0_2 l0_2.length c0_2,.slice A0_3 l0_3.length c0_3],.int .i64 a2] rfl (by (try simp only [QL,QM,QN]);first|done|rfl|(simp only [List.length_drop,List.length_take];rfl)) ?_;(with_reducible refine (spec_l7Pieces.calls k _ _ l0_0 _ _ l0_1 _ _ l0_2 _ _ l0_3 a2 t219 t222 _ ?side1 ?side2 ?side3 ?side4 ?side5 ?side6 ?side7 ?side8 A7.o).mono ?_);(case side1=>repeat (first|exact (Qo HR0_0.o HB.o)|(with_reducible first|apply Qp|apply Qq|apply Qr)));(case side2=>exact HC0_0.o);(case side3=>repeat (first|exact (Qo HR0_1.o HB.o)|(with_reducible first|apply Qp|apply Qq|apply Qr)));(case side4=>exact HC0_1.o);(case side5=>repeat (first|exact (Qo HR0_2.o HB.o)|(with_reducible first|apply Qp|apply Qq|apply Qr)));(case side6=>exact HC0_2.o);(case side7=>repeat (first|exact (Qo HR0_3.o HB.o)|(with_reducible first|apply Qp|apply Qq|apply Qr)));(case side8=>exact HC0_3.o);rintro e w9 ⟨v220,rfl,ho0,hb⟩;refine ⟨_,rfl,?_⟩;have n0_:=Qa (Kd.R_lower ho0 (Qn (by repeat (first|(with_reducible first|exact HB.o|apply Qk|apply Qi|apply Qj|refine Ql ?_ GE218.o)|exact HB.o))));have n1_:=Qa (Qd (g:=gb218) (o:=.cells #[.slice A0_0 l0_0.length c0_0,.slice A0_1 l0_1.length c0_1,.slice A0_2 l0_2.length c0_2,.slice A0_3 l0_3.length c0_3] 28 (0,0)) (by (with_reducible repeat first|apply Qf|apply blk_drew|apply Qe);exact BK218.o) hb);have n2_:=Qa (Qm (by repeat (first|(with_reducible first|exact HB.o|apply Qk|apply Qi|apply Qj|refine Ql ?_ GE218.o)|exact HB.o)) hb);clear BK218;clear HB;have HO221:=n0_;have BK218:=n1_;have HB:=n2_;clear n0_ n1_ n2_;(try clear hb);(try clear hb2);(try clear hk);(try clear hi);(try clear ho0)));go_meet
   case rel=>exact ⟨_,(t219),H',⟨by first|omega|exact QS _⟩,⟨by (with_reducible repeat (first|apply QB|apply QD|apply Kd.R_drew));exact HO221.o⟩,⟨by (with_reducible repeat first|apply Qf|apply blk_drew|apply Qe);exact BK218.o⟩,⟨by repeat (first|(with_reducible first|exact HB.o|apply Qk|apply Qi|apply Qj|refine Ql ?_ GE218.o)|exact HB.o)⟩⟩
 case rest =>
  clear HC4;(try clear p2;try clear c6;try clear c6b0;try clear c6b1;try clear hcz8_0;try clear hcz8_1;try clear hcz8_2;try clear hcz8_3;try clear hfz8_0;try clear hfz8_1;try clear hfz8_2;try clear hfz8_3);obtain ⟨kq,x7_3,HA,HJ3,HO_7,BK218,HB⟩:=hcut
  cases kq with
  | zero=>exact absurd HA.out (by simp [spec_l7Shared.j0])
  | succ kj3 =>
   have H:=HA.out;clear HA;simp only [spec_l7Shared.j0] at H;replace H:=QE H;obtain ⟨t223,A100,H⟩:=H;replace H : (spec_l7Shared.l0 kj3 x7_3 ([] : List Int) t223 (t223.length : Int) 0 l0_0 l0_1 l0_2 l0_3) = some r:=H;have A10:=Qa A100;clear A100;have H':=Qa H;clear H;go_wp2_with (first|((with_reducible refine gate_callee (f:=82) rfl ?_);refine goesL_ (some 21) rfl rfl Try.func82 (by kernel_rfl) rfl #[.string a1] rfl (by (try simp only [QL,QM,QN]);first|done|rfl|(simp only [List.length_drop,List.length_take];rfl)) ?_;(with_reducible refine (spec_l7Cut.calls kj3 a1 t223 _ A10.o).mono ?_);rintro e w11 ⟨v224,rfl,ho0,hb⟩;refine ⟨_,rfl,?_⟩;have n0_:=Qa (Qs (by (with_reducible repeat (first|apply QB|apply QD|apply Kd.R_drew));exact HO_7.o) hb);have n1_:=Qa (Kd.R_lower ho0 (Qn (by repeat (first|(with_reducible first|exact HB.o|apply Qk|apply Qi|apply Qj|refine Ql ?_ GE218.o)|exact HB.o))));have n2_:=Qa (Qd (g:=gb218) (o:=.cells #[.slice A0_0 l0_0.length c0_0,.slice A0_1 l0_1.length c0_1,.slice A0_2 l0_2.length c0_2,.slice A0_3 l0_3.length c0_3] 28 (0,0)) (by (with_reducible repeat first|apply Qf|apply blk_drew|apply Qe);exact BK218.o) hb);have n3_:=Qa (Qm (by repeat (first|(with_reducible first|exact HB.o|apply Qk|apply Qi|apply Qj|refine Ql ?_ GE218.o)|exact HB.o)) hb);clear HO_7;clear BK218;clear HB;have HO_7:=n0_;have HO225:=n1_;have BK218:=n2_;have HB:=n3_;clear n0_ n1_ n2_ n3_;(try clear hb);(try clear hb2);(try clear hk);(try clear hi);(try clear ho0);obtain ⟨Ao12,co12,eo12⟩:=Kd.R_slice HO225.o;subst eo12));go_loopg [8,23] kj3 (fun kq v8 v23 w'=>∃ (x8_2 : List Int) (x23_2 : Int),v23 = .int .i64 x23_2∧Aside0 (spec_l7Shared.l0 kq x7_3 x8_2 t223 (t223.length : Int) x23_2 l0_0 l0_1 l0_2 l0_3 = some r)∧Aside0 (kq ≤ kj3)∧Aside0 (Kd.R (Kd.int .i64) 3 w' w.heap.size (fun k_=>some k_ ≠ (v8 : Value).ownBlock) u7 x7_3)∧Aside0 (Kd.R (Kd.int .i64) 3 w' w.heap.size (fun k_=>some k_ ≠ (u7 : Value).ownBlock) v8 x8_2)∧Aside0 (Kd.R Kd.string 9 w' w.heap.size (fun _=>True) (.slice Ao12 t223.length co12) t223)∧Aside0 (w'.heap[gb218]? = some (.cells #[(.slice A0_0 l0_0.length c0_0),(.slice A0_1 l0_1.length c0_1),(.slice A0_2 l0_2.length c0_2),(.slice A0_3 l0_3.length c0_3)] 28 (0,0)))∧Aside0 (Below w.heap.size w w'))
   case atStart=>exact ⟨(([] : List Int)),(0),(by first|rfl|(simp;done)|(simp [*];done)),H',⟨QS _⟩,⟨by (with_reducible repeat (first|apply QB|apply QD|apply Kd.R_drew));exact Qt HO_7.o (fun _ hk=>(by simp [Value.ownBlock]))⟩,⟨by first|exact Kd.R_nil _ _ _ _ _|exact Kd.N_nil _ _ _ _ _|exact Kd.V_nil _ _ _ _ _|exact Kd.Q_nil _ _ _ _ _|exact Kd.S_nil _ _ _ _ _⟩,⟨by (with_reducible repeat (first|apply QB|apply QD|apply Kd.R_drew));exact HO225.o⟩,⟨by (with_reducible repeat first|apply Qf|apply blk_drew|apply Qe);exact BK218.o⟩,⟨by repeat (first|(with_reducible first|exact HB.o|apply Qk|apply Qi|apply Qj|refine Ql ?_ GE218.o)|exact HB.o)⟩⟩
   case round =>
    clear H';(try clear p2;try clear c6;try clear c6b0;try clear c6b1;try clear c8;try clear hcz8_0;try clear hcz8_1;try clear hcz8_2;try clear hcz8_3;try clear hfz8_0;try clear hfz8_1;try clear hfz8_2;try clear hfz8_3;try clear p2);obtain ⟨x8_2,x23_2,rfl,HA,HK2,HO_7,HO_8,HO_21,BK218,HB⟩:=hrel
    cases gk with
    | zero=>exact absurd HA.out (by simp [spec_l7Shared.l0])
    | succ k2 =>
     have H:=HA.out;clear HA;simp only [spec_l7Shared.l0] at H
     by_cases c13 : x23_2 < (t223.length : Int)
     ·rw [if_pos c13] at H;have c13b0 : decide (x23_2 < (t223.length : Int)) = true:=QG c13;clear c13
      by_cases c14 : 0 ≤ x23_2
      ·rw [if_pos c14] at H;have c14b0 : decide (0 ≤ x23_2) = true:=QG c14;clear c14
       by_cases c15 : x23_2 < (t223.length : Int)
       ·rw [if_pos c15] at H;have c15b0 : decide (x23_2 < (t223.length : Int)) = true:=QG c15;clear c15
        by_cases c16 : x23_2 < (x7_3.length : Int)
        ·rw [if_pos c16] at H;have c16b0 : decide (x23_2 < (x7_3.length : Int)) = true:=QG c16;clear c16;replace H:=QE H;obtain ⟨t228,A170,H⟩:=H;replace H : (if t228.toList = (rdOf ByteArray.empty t223 x23_2).toList then (if 0 ≤ (rd x7_3 x23_2) then (if (rd x7_3 x23_2) < (l0_0.length : Int) then (if 1 < ((rd_L1 l0_0 (rd x7_3 x23_2)).length : Int) then (if (rd (rd_L1 l0_0 (rd x7_3 x23_2)) 1) < 250 then (if x8_2.length < 17592186044416 then (spec_l7Shared.l0 k2 x7_3 (x8_2 ++ [rd x7_3 x23_2]) t223 (t223.length : Int) (wrap64 (x23_2 + 1)) l0_0 l0_1 l0_2 l0_3) else (none)) else (if x8_2.length < 17592186044416 then (spec_l7Shared.l0 k2 x7_3 (x8_2 ++ [0]) t223 (t223.length : Int) (wrap64 (x23_2 + 1)) l0_0 l0_1 l0_2 l0_3) else (none))) else (none)) else (none)) else (none)) else (if x8_2.length < 17592186044416 then (spec_l7Shared.l0 k2 x7_3 (x8_2 ++ [0]) t223 (t223.length : Int) (wrap64 (x23_2 + 1)) l0_0 l0_1 l0_2 l0_3) else (none))) = some r:=H;have A17:=Qa A170;clear A170
         by_cases c18 : t228.toList = (rdOf ByteArray.empty t223 x23_2).toList
         ·rw [if_pos c18] at H;have c18b0 : (t228.toList == (rdOf ByteArray.empty t223 x23_2).toList) = true:=beq_iff_eq.mpr c18;have c18b1 : (t228.toList != (rdOf ByteArray.empty t223 x23_2).toList) = false:=bne_eq_false_iff_eq.mpr c18;clear c18
          by_cases c19 : 0 ≤ (rd x7_3 x23_2)
          ·rw [if_pos c19] at H;have c19b0 : decide (0 ≤ (rd x7_3 x23_2)) = true:=QG c19;clear c19
           by_cases c20 : (rd x7_3 x23_2) < (l0_0.length : Int)
           ·rw [if_pos c20] at H;have c20b0 : decide ((rd x7_3 x23_2) < (l0_0.length : Int)) = true:=QG c20;clear c20
            by_cases c21 : 1 < ((rd_L1 l0_0 (rd x7_3 x23_2)).length : Int)
            ·rw [if_pos c21] at H;have c21b0 : decide (1 < ((rd_L1 l0_0 (rd x7_3 x23_2)).length : Int)) = true:=QG c21;have c21b1 : decide (1 < (rd_L1 l0_0 (rd x7_3 x23_2)).length) = true:=QG (by omega);clear c21
             by_cases c22 : (rd (rd_L1 l0_0 (rd x7_3 x23_2)) 1) < 250
             ·rw [if_pos c22] at H;have c22b0 : decide ((rd (rd_L1 l0_0 (rd x7_3 x23_2)) 1) < 250) = true:=QG c22;clear c22
              by_cases c23 : x8_2.length < 17592186044416
              ·rw [if_pos c23] at H;have LMc23:=Qa c23;clear c23;obtain ⟨y233,hy233⟩ : ∃ y_ : List Int,y_ = (x8_2 ++ [rd x7_3 x23_2]):=⟨_,rfl⟩;(replace H : (spec_l7Shared.l0 k2 x7_3 y233 t223 (t223.length : Int) (wrap64 (x23_2 + 1)) l0_0 l0_1 l0_2 l0_3) = some r:=by first|(rw [hy233];with_reducible exact H)|(have H2_:=(Option.bind_some _ _).symm.trans H;rw [hy233];with_reducible exact H2_)|(have H2_:=(Option.bind_some _ _).symm.trans H;with_reducible exact H2_)|with_reducible exact H|(rw [hy233];exact H)|exact H);have Ny233:=Qa hy233;clear hy233;have H':=Qa H;clear H;have p226 : 0 ≤ (x23_2 : Int):=QF (by assumption);have q226 : x23_2 < (t223.length : Int):=QF (by assumption);obtain ⟨ad226,e226,hx226_0⟩:=Kd.at_string (Qu HO_21.o).2.2 x23_2 p226 q226;cases e226;replace p226:=eq_true p226;replace q226:=eq_true q226;(try go_wp2);have n0_:=Qa (Kd.R_drew HO_7.o);have n1_:=Qa (Kd.R_drew HO_8.o);have n2_:=Qa (Kd.R_drew HO_21.o);have n3_:=Qa (blk_drew BK218.o);have n4_:=Qa (Qj HB.o);clear HO_7;clear HO_8;clear HO_21;clear BK218;clear HB;have HO_7:=n0_;have HO_8:=n1_;have HO_21:=n2_;have BK218:=n3_;have HB:=n4_;clear n0_ n1_ n2_ n3_ n4_;obtain ⟨Ao25,co25,eo25⟩:=Kd.R_slice HO_7.o;(first|subst eo25|(injection eo25 with f1_ f2_ f3_;have f4_:=f1_.symm;have f5_:=f3_.symm;clear f1_ f2_ f3_;subst f4_;subst f5_));have p227 : 0 ≤ (x23_2 : Int):=QF (by assumption);have q227 : x23_2 < (x7_3.length : Int):=QF (by assumption);obtain ⟨ad227,e227,hx227_0⟩:=Kd.at_int (Qu HO_7.o).2.2 x23_2 p227 q227;cases e227;replace p227:=eq_true p227;replace q227:=eq_true q227;have p229 : 0 ≤ (x23_2 : Int):=QF (by assumption);have q229 : x23_2 < (x7_3.length : Int):=QF (by assumption);obtain ⟨ad229,e229,hx229_0⟩:=Kd.at_int (Qu HO_7.o).2.2 x23_2 p229 q229;obtain rfl : ad227 = ad229:=(by injection e229);replace p229:=eq_true p229;replace q229:=eq_true q229;have p230 : 0 ≤ ((rd x7_3 x23_2) : Int):=QF (by assumption);have q230 : (rd x7_3 x23_2) < (l0_0.length : Int):=QF (by assumption);obtain ⟨ad230,A230_0,c230_0,e230,hx230_0,hl230_0,hi230_0⟩:=at_L1 HR0_0.o (rd x7_3 x23_2) p230 q230;have hw230_0:=hx230_0;cases e230;(try replace hx230_0:=(HB.o.cell (World.block_lt_of_cell? w _ hx230_0)).trans hx230_0);have HR230_0:=Qa hi230_0;have HC230_0:=Qa hl230_0;clear hi230_0 hl230_0;replace p230:=eq_true p230;replace q230:=eq_true q230;have p231 : 0 ≤ (1 : Int):=(by omega);have q231 : 1 < ((rd_L1 l0_0 (rd x7_3 x23_2)).length : Int):=QF (by assumption);obtain ⟨ad231,e231,hx231_0⟩:=Kd.at_int HR230_0.o 1 p231 q231;have hw231_0:=hx231_0;(try rw [show ((1 : Int)).toNat = 1 from rfl] at hw231_0);(try rw [show 1 * 1 = 1 from rfl] at hw231_0);(try simp only [Nat.reduceMul,Nat.reduceEqDiff,Go.Addr.add,↓reduceIte] at hw231_0);cases e231;(try simp only [show (1 : Int).toNat = 1 from rfl,Nat.reduceMul,Nat.reduceEqDiff,Go.Addr.add,↓reduceIte] at hx231_0);have qi231 : (1 < (rd_L1 l0_0 (rd x7_3 x23_2)).length) = True:=eq_true (by omega);(try rw [show ((1 : Int)).toNat = 1 from rfl] at hx231_0);(try replace hx231_0:=(HB.o.cell (World.block_lt_of_cell? w _ hx231_0)).trans hx231_0);replace p231:=eq_true p231;replace q231:=eq_true q231;refine start_ (n:=27) (S:=fun w'=>w'.cell? ⟨gb218,0,none⟩ = some (.slice (some ad230) l0_0.length c0_0)∧w'.cell? ⟨gb218,1,none⟩ = some (.slice A0_1 l0_1.length c0_1)∧w'.cell? ⟨gb218,2,none⟩ = some (.slice A0_2 l0_2.length c0_2)∧w'.cell? ⟨gb218,3,none⟩ = some (.slice A0_3 l0_3.length c0_3)∧w'.cell? (ad227.add (x23_2).toNat) = some (.int .i64 (rd x7_3 x23_2))∧w'.cell? (ad227.add (x23_2).toNat) = some (.int .i64 (rd x7_3 x23_2))∧w'.cell? (ad230.add ((rd x7_3 x23_2)).toNat) = some (.slice (some ad231) (rd_L1 l0_0 (rd x7_3 x23_2)).length c230_0)∧w'.cell? ⟨ad231.block,ad231.off + 1,none⟩ = some (.int .u8 (rd (rd_L1 l0_0 (rd x7_3 x23_2)) 1))) (ds:=[]) #[false,false,false,false,false,false,false,false,false,false,false,false,false,false,false,false,false,false,false,false,false,false,false,false,false,false,false] (by kernel_rfl) rfl rfl ⟨(Qb BK218.o 0).trans rfl,(Qb BK218.o 1).trans rfl,(Qb BK218.o 2).trans rfl,(Qb BK218.o 3).trans rfl,hx227_0,hx229_0,((HB.o.cell (World.block_lt_of_cell? w _ hw230_0)).trans hw230_0),((HB.o.cell (World.block_lt_of_cell? w _ hw231_0)).trans hw231_0)⟩ (fun hHeld=>?_);refine with_tabW spec_l7Shared.tab9 spec_l7Shared.bits9 (fun HT_ HW_=>?_)
               generalize wr.drew = w24 at HO_7 HO_8 HO_21 BK218 HB HR230_0 hx227_0 hx229_0 hx230_0 hx231_0 hHeld ⊢
               refine pure_ (i:=0) (N:=some 28) (v:=?_) (a':=?_) #[true,false,false,false,false,false,false,false,false,false,false,false,false,false,false,false,false,false,false,false,false,false,false,false,false,false,false] rfl rfl (any_of HT_.out (by kernel_rfl)) (fun _ _ _ h=>h) (Or.inl ⟨by rfl,?_⟩) ?_ ?_;rotate_left
               ·intro w';go_simp
                with_reducible rfl
               rotate_left
               ·simp only [Act.put,QI,QJ,QK,i64_w,i32_w];rfl
               refine pure_ (i:=1) (N:=some 29) (v:=?_) (a':=?_) #[true,true,false,false,false,false,false,false,false,false,false,false,false,false,false,false,false,false,false,false,false,false,false,false,false,false,false] rfl rfl (any_of HT_.out (by kernel_rfl)) (fun _ _ _ h=>h) (Or.inl ⟨by rfl,?_⟩) ?_ ?_;rotate_left
               ·intro w';go_simp
                with_reducible rfl
               rotate_left
               ·simp only [Act.put,QI,QJ,QK,i64_w,i32_w];rfl
               refine pure_ (i:=2) (N:=some 30) (v:=?_) (a':=?_) #[true,true,true,false,false,false,false,false,false,false,false,false,false,false,false,false,false,false,false,false,false,false,false,false,false,false,false] rfl rfl (any_of HT_.out (by kernel_rfl)) (fun _ _ _ h=>h) (Or.inl ⟨by rfl,?_⟩) ?_ ?_;rotate_left
               ·intro w';go_simp
                with_reducible rfl
               rotate_left
               ·simp only [Act.put,QI,QJ,QK,i64_w,i32_w];rfl
               refine pure_ (i:=3) (N:=some 31) (v:=?_) (a':=?_) #[true,true,true,true,false,false,false,false,false,false,false,false,false,false,false,false,false,false,false,false,false,false,false,false,false,false,false] rfl rfl (any_of HT_.out (by kernel_rfl)) (fun _ _ _ h=>h) (Or.inl ⟨by rfl,?_⟩) ?_ ?_;rotate_left
               ·intro w';go_simp
                with_reducible rfl
               rotate_left
               ·simp only [Act.put,QI,QJ,QK,i64_w,i32_w];rfl
               refine pure_ (i:=4) (N:=some 32) (v:=?_) (a':=?_) #[true,true,true,true,true,false,false,false,false,false,false,false,false,false,false,false,false,false,false,false,false,false,false,false,false,false,false] rfl rfl (any_of HT_.out (by kernel_rfl)) (fun _ _ _ h=>h) (Or.inl ⟨by rfl,?_⟩) ?_ ?_;rotate_left
               ·intro w';go_simp
                with_reducible rfl
               rotate_left
               ·simp only [Act.put,QI,QJ,QK,i64_w,i32_w];rfl
               refine pure_ (i:=6) (N:=some 34) (v:=?_) (a':=?_) #[true,true,true,true,true,false,true,false,false,false,false,false,false,false,false,false,false,false,false,false,false,false,false,false,false,false,false] rfl rfl (any_of HT_.out (by kernel_rfl)) (fun _ _ _ h=>h) (Or.inl ⟨by rfl,?_⟩) ?_ ?_;rotate_left
               ·intro w';go_simp
                with_reducible rfl
               rotate_left
               ·simp only [Act.put,QI,QJ,QK,i64_w,i32_w];rfl
               refine pure_ (i:=7) (N:=some 35) (v:=?_) (a':=?_) #[true,true,true,true,true,false,true,true,false,false,false,false,false,false,false,false,false,false,false,false,false,false,false,false,false,false,false] rfl rfl (any_of HT_.out (by kernel_rfl)) (fun _ _ _ h=>h) (Or.inl ⟨by rfl,?_⟩) ?_ ?_;rotate_left
               ·intro w';go_simp
                with_reducible rfl
               rotate_left
               ·simp only [Act.put,QI,QJ,QK,i64_w,i32_w];rfl
               refine pure_ (i:=8) (N:=some 36) (v:=?_) (a':=?_) #[true,true,true,true,true,false,true,true,true,false,false,false,false,false,false,false,false,false,false,false,false,false,false,false,false,false,false] rfl rfl (any_of HT_.out (by kernel_rfl)) (fun _ _ _ h=>h) (Or.inl ⟨by rfl,?_⟩) ?_ ?_;rotate_left
               ·intro w';go_simp
                with_reducible rfl
               rotate_left
               ·simp only [Act.put,QI,QJ,QK,i64_w,i32_w];rfl
               refine pure_ (i:=11) (N:=some 39) (v:=?_) (a':=?_) #[true,true,true,true,true,false,true,true,true,false,false,true,false,false,false,false,false,false,false,false,false,false,false,false,false,false,false] rfl rfl (any_of HT_.out (by kernel_rfl)) (fun _ _ _ h=>h) (Or.inl ⟨by rfl,?_⟩) ?_ ?_;rotate_left
               ·intro w';go_simp
                with_reducible rfl
               rotate_left
               ·simp only [Act.put,QI,QJ,QK,i64_w,i32_w];rfl
               refine take_ (i:=5) (N:=some 33) (v:=?_) (a':=?_) #[true,true,true,true,true,true,true,true,true,false,false,true,false,false,false,false,false,false,false,false,false,false,false,false,false,false,false] rfl rfl (take_ofW HT_.out HW_.out (by kernel_rfl)) (fun _ _ _ h=>h) (Or.inl ⟨by rfl,?_⟩) hHeld ?_ ?_;rotate_left
               ·rintro w' ⟨s0,s1,s2,s3,s4,s5,s6,s7⟩;go_simp
                with_reducible rfl
               rotate_left
               ·simp only [Act.put,QI,QJ,QK,i64_w,i32_w];rfl
               refine take_ (i:=9) (N:=some 37) (v:=?_) (a':=?_) #[true,true,true,true,true,true,true,true,true,true,false,true,false,false,false,false,false,false,false,false,false,false,false,false,false,false,false] rfl rfl (take_ofW HT_.out HW_.out (by kernel_rfl)) (fun _ _ _ h=>h) (Or.inl ⟨by rfl,?_⟩) hHeld ?_ ?_;rotate_left
               ·rintro w' ⟨s0,s1,s2,s3,s4,s5,s6,s7⟩;go_simp
                with_reducible rfl
               rotate_left
               ·simp only [Act.put,QI,QJ,QK,i64_w,i32_w];rfl
               refine one_ (i:=10) (N:=some 38) #[true,true,true,true,true,true,true,true,true,true,true,true,false,false,false,false,false,false,false,false,false,false,false,false,false,false,false] rfl rfl (one_of HT_.out (by kernel_rfl)) (by decide) (fun K hK=>?_);refine goes_ Try.func67 (by kernel_rfl) rfl #[.agg #[.slice (some ad230) l0_0.length c0_0,.slice A0_1 l0_1.length c0_1,.slice A0_2 l0_2.length c0_2,.slice A0_3 l0_3.length c0_3],.int .i64 (rd x7_3 x23_2)] (by rfl) rfl rfl (by (try simp only [QL,QM,QN]);first|done|rfl|(simp only [List.length_drop,List.length_take];rfl)) ?_
               with_reducible refine (spec_l7Piece.calls _ _ l0_0 _ _ l0_1 _ _ l0_2 _ _ l0_3 (rd x7_3 x23_2) t228 _ ?side1 ?side2 ?side3 ?side4 ?side5 ?side6 ?side7 ?side8 A17.o).mono ?_
               (case side1=>repeat (first|exact (Qo HR0_0.o HB.o)|(with_reducible first|apply Qp|apply Qq|apply Qr)));(case side2=>exact HC0_0.o);(case side3=>repeat (first|exact (Qo HR0_1.o HB.o)|(with_reducible first|apply Qp|apply Qq|apply Qr)));(case side4=>exact HC0_1.o);(case side5=>repeat (first|exact (Qo HR0_2.o HB.o)|(with_reducible first|apply Qp|apply Qq|apply Qr)));(case side6=>exact HC0_2.o);(case side7=>repeat (first|exact (Qo HR0_3.o HB.o)|(with_reducible first|apply Qp|apply Qq|apply Qr)));(case side8=>exact HC0_3.o);rintro e w26 ⟨rfl,hb⟩;have HS4_:=(hb.cell (World.block_lt_of_cell? _ _ (hHeld.2.2.2.2.1))).trans (hHeld.2.2.2.2.1);have HS5_:=(hb.cell (World.block_lt_of_cell? _ _ (hHeld.2.2.2.2.2.1))).trans (hHeld.2.2.2.2.2.1);refine ⟨_,rfl,?_⟩;have n0_:=Qa (Qs (by (with_reducible repeat (first|apply QB|apply QD|apply Kd.R_drew));exact HO_7.o) hb);have n1_:=Qa (Qs (by (with_reducible repeat (first|apply QB|apply QD|apply Kd.R_drew));exact HO_8.o) hb);have n2_:=Qa (Qs (by (with_reducible repeat (first|apply QB|apply QD|apply Kd.R_drew));exact HO_21.o) hb);have n3_:=Qa (Qd (g:=gb218) (o:=.cells #[.slice (some ad230) l0_0.length c0_0,.slice A0_1 l0_1.length c0_1,.slice A0_2 l0_2.length c0_2,.slice A0_3 l0_3.length c0_3] 28 (0,0)) (by (with_reducible repeat first|apply Qf|apply blk_drew|apply Qe);exact BK218.o) hb);have n4_:=Qa (Qm (by repeat (first|(with_reducible first|exact HB.o|apply Qk|apply Qi|apply Qj|refine Ql ?_ GE218.o)|exact HB.o)) hb);clear HO_7;clear HO_8;clear HO_21;clear BK218;clear HB;have HO_7:=n0_;have HO_8:=n1_;have HO_21:=n2_;have BK218:=n3_;have HB:=n4_;clear n0_ n1_ n2_ n3_ n4_;(try clear hb);(try clear hb2);(try clear hk);(try clear hi);refine hK.out _ _ ⟨(Qb BK218.o 0).trans rfl,(Qb BK218.o 1).trans rfl,(Qb BK218.o 2).trans rfl,(Qb BK218.o 3).trans rfl,HS4_,HS5_,((HB.o.cell (World.block_lt_of_cell? w _ hw230_0)).trans hw230_0),((HB.o.cell (World.block_lt_of_cell? w _ hw231_0)).trans hw231_0)⟩ (fun hHeld=>?_);clear hK K;refine norm_ (a':=?_) ?_ ?_;rotate_left
               ·(show Act.put _ (some 38) _ = _);simp only [Act.put,QI,QJ,QK,i64_w,i32_w];rfl
               refine pure_ (i:=12) (N:=some 40) (v:=?_) (a':=?_) #[true,true,true,true,true,true,true,true,true,true,true,true,true,false,false,false,false,false,false,false,false,false,false,false,false,false,false] rfl rfl (any_of HT_.out (by kernel_rfl)) (fun _ _ _ h=>h) (Or.inl ⟨by rfl,?_⟩) ?_ ?_;rotate_left
               ·intro w';go_simp
                with_reducible rfl
               rotate_left
               ·simp only [Act.put,QI,QJ,QK,i64_w,i32_w];rfl
               refine pure_ (i:=13) (N:=some 41) (v:=?_) (a':=?_) #[true,true,true,true,true,true,true,true,true,true,true,true,true,true,false,false,false,false,false,false,false,false,false,false,false,false,false] rfl rfl (any_of HT_.out (by kernel_rfl)) (fun _ _ _ h=>h) (Or.inl ⟨by rfl,?_⟩) ?_ ?_;rotate_left
               ·intro w';go_simp
                with_reducible rfl
               rotate_left
               ·simp only [Act.put,QI,QJ,QK,i64_w,i32_w];rfl
               refine pure_ (i:=14) (N:=some 42) (v:=?_) (a':=?_) #[true,true,true,true,true,true,true,true,true,true,true,true,true,true,true,false,false,false,false,false,false,false,false,false,false,false,false] rfl rfl (any_of HT_.out (by kernel_rfl)) (fun _ _ _ h=>h) (Or.inl ⟨by rfl,?_⟩) ?_ ?_;rotate_left
               ·intro w';go_simp
                with_reducible rfl
               rotate_left
               ·simp only [Act.put,QI,QJ,QK,i64_w,i32_w];rfl
               refine pure_ (i:=15) (N:=some 43) (v:=?_) (a':=?_) #[true,true,true,true,true,true,true,true,true,true,true,true,true,true,true,true,false,false,false,false,false,false,false,false,false,false,false] rfl rfl (any_of HT_.out (by kernel_rfl)) (fun _ _ _ h=>h) (Or.inl ⟨by rfl,?_⟩) ?_ ?_;rotate_left
               ·intro w';go_simp
                with_reducible rfl
               rotate_left
               ·simp only [Act.put,QI,QJ,QK,i64_w,i32_w];rfl
               refine pure_ (i:=17) (N:=some 45) (v:=?_) (a':=?_) #[true,true,true,true,true,true,true,true,true,true,true,true,true,true,true,true,false,true,false,false,false,false,false,false,false,false,false] rfl rfl (any_of HT_.out (by kernel_rfl)) (fun _ _ _ h=>h) (Or.inl ⟨by rfl,?_⟩) ?_ ?_;rotate_left
               ·intro w';go_simp
                with_reducible rfl
               rotate_left
               ·simp only [Act.put,QI,QJ,QK,i64_w,i32_w];rfl
               refine pure_ (i:=18) (N:=some 46) (v:=?_) (a':=?_) #[true,true,true,true,true,true,true,true,true,true,true,true,true,true,true,true,false,true,true,false,false,false,false,false,false,false,false] rfl rfl (any_of HT_.out (by kernel_rfl)) (fun _ _ _ h=>h) (Or.inl ⟨by rfl,?_⟩) ?_ ?_;rotate_left
               ·intro w';go_simp
                with_reducible rfl
               rotate_left
               ·simp only [Act.put,QI,QJ,QK,i64_w,i32_w];rfl
               refine pure_ (i:=19) (N:=some 47) (v:=?_) (a':=?_) #[true,true,true,true,true,true,true,true,true,true,true,true,true,true,true,true,false,true,true,true,false,false,false,false,false,false,false] rfl rfl (any_of HT_.out (by kernel_rfl)) (fun _ _ _ h=>h) (Or.inl ⟨by rfl,?_⟩) ?_ ?_;rotate_left
               ·intro w';go_simp
                with_reducible rfl
               rotate_left
               ·simp only [Act.put,QI,QJ,QK,i64_w,i32_w];rfl
               refine take_ (i:=16) (N:=some 44) (v:=?_) (a':=?_) #[true,true,true,true,true,true,true,true,true,true,true,true,true,true,true,true,true,true,true,true,false,false,false,false,false,false,false] rfl rfl (take_ofW HT_.out HW_.out (by kernel_rfl)) (fun _ _ _ h=>h) (Or.inl ⟨by rfl,?_⟩) hHeld ?_ ?_;rotate_left
               ·rintro w' ⟨s0,s1,s2,s3,s4,s5,s6,s7⟩;go_simp
                with_reducible rfl
               rotate_left
               ·simp only [Act.put,QI,QJ,QK,i64_w,i32_w];rfl
               refine take_ (i:=20) (N:=some 48) (v:=?_) (a':=?_) #[true,true,true,true,true,true,true,true,true,true,true,true,true,true,true,true,true,true,true,true,true,false,false,false,false,false,false] rfl rfl (take_ofW HT_.out HW_.out (by kernel_rfl)) (fun _ _ _ h=>h) (Or.inl ⟨by rfl,?_⟩) hHeld ?_ ?_;rotate_left
               ·rintro w' ⟨s0,s1,s2,s3,s4,s5,s6,s7⟩;go_simp
                with_reducible rfl
               rotate_left
               ·simp only [Act.put,QI,QJ,QK,i64_w,i32_w];rfl
               refine pure_ (i:=21) (N:=some 49) (v:=?_) (a':=?_) #[true,true,true,true,true,true,true,true,true,true,true,true,true,true,true,true,true,true,true,true,true,true,false,false,false,false,false] rfl rfl (any_of HT_.out (by kernel_rfl)) (fun _ _ _ h=>h) (Or.inl ⟨by rfl,?_⟩) ?_ ?_;rotate_left
               ·intro w';go_simp
                with_reducible rfl
               rotate_left
               ·simp only [Act.put,QI,QJ,QK,i64_w,i32_w];rfl
               refine take_ (i:=22) (N:=some 50) (v:=?_) (a':=?_) #[true,true,true,true,true,true,true,true,true,true,true,true,true,true,true,true,true,true,true,true,true,true,true,false,false,false,false] rfl rfl (take_ofW HT_.out HW_.out (by kernel_rfl)) (fun _ _ _ h=>h) (Or.inl ⟨by rfl,?_⟩) hHeld ?_ ?_;rotate_left
               ·rintro w' ⟨s0,s1,s2,s3,s4,s5,s6,s7⟩;go_simp
                with_reducible rfl
               rotate_left
               ·simp only [Act.put,QI,QJ,QK,i64_w,i32_w];rfl
               refine pure_ (i:=23) (N:=some 51) (v:=?_) (a':=?_) #[true,true,true,true,true,true,true,true,true,true,true,true,true,true,true,true,true,true,true,true,true,true,true,true,false,false,false] rfl rfl (any_of HT_.out (by kernel_rfl)) (fun _ _ _ h=>h) (Or.inl ⟨by rfl,?_⟩) ?_ ?_;rotate_left
               ·intro w';go_simp
                with_reducible rfl
               rotate_left
               ·simp only [Act.put,QI,QJ,QK,i64_w,i32_w];rfl
               refine take_ (i:=24) (N:=some 52) (v:=?_) (a':=?_) #[true,true,true,true,true,true,true,true,true,true,true,true,true,true,true,true,true,true,true,true,true,true,true,true,true,false,false] rfl rfl (take_ofW HT_.out HW_.out (by kernel_rfl)) (fun _ _ _ h=>h) (Or.inl ⟨by rfl,?_⟩) hHeld ?_ ?_;rotate_left
               ·rintro w' ⟨s0,s1,s2,s3,s4,s5,s6,s7⟩;go_simp
                with_reducible rfl
               rotate_left
               ·simp only [Act.put,QI,QJ,QK,i64_w,i32_w];rfl
               refine pure_ (i:=25) (N:=some 53) (v:=?_) (a':=?_) #[true,true,true,true,true,true,true,true,true,true,true,true,true,true,true,true,true,true,true,true,true,true,true,true,true,true,false] rfl rfl (any_of HT_.out (by kernel_rfl)) (fun _ _ _ h=>h) (Or.inl ⟨by rfl,?_⟩) ?_ ?_;rotate_left
               ·intro w';go_simp
                with_reducible rfl
               rotate_left
               ·simp only [Act.put,QI,QJ,QK,i64_w,i32_w];rfl
               refine pure_ (i:=26) (N:=some 54) (v:=?_) (a':=?_) #[true,true,true,true,true,true,true,true,true,true,true,true,true,true,true,true,true,true,true,true,true,true,true,true,true,true,true] rfl rfl (any_of HT_.out (by kernel_rfl)) (fun _ _ _ h=>h) (Or.inl ⟨by rfl,?_⟩) ?_ ?_;rotate_left
               ·intro w';go_simp
                with_reducible rfl
               rotate_left
               ·simp only [Act.put,QI,QJ,QK,i64_w,i32_w];rfl
               refine done_ (done_of HT_.out (by kernel_rfl)) ?_;have p232 : 0 ≤ (x23_2 : Int):=QF (by assumption);have q232 : x23_2 < (x7_3.length : Int):=QF (by assumption);obtain ⟨ad232,e232,hx232_0⟩:=Kd.at_int (Qu HO_7.o).2.2 x23_2 p232 q232;obtain rfl : ad227 = ad232:=(by injection e232);replace p232:=eq_true p232;replace q232:=eq_true q232;(try go_wp2_with (first|((with_reducible refine gate_builtin (b:=.append) (xs:=#[.tmp 59,.tmp 61]) rfl ?_);at_builtin;refine Kd.R_append (Kd.int .i64) (w0:=w) w.heap.size rfl (.tmp 59) (.tmp 61) 24 3 (.int .i64 0) 8 rfl Try.underlying24 info3 rfl (by decide) (by omega) u8 x8_2 (rd x7_3 x23_2) [.int .i64 (rd x7_3 x23_2)] (fun k_=>some k_ ≠ (.slice (some ad227) x7_3.length co25 : Value).ownBlock) (fun _=>False) rfl rfl ?aP (fun _ hk=>hk.elim) ?aF ?aO ?aB ?aS ?aL ?_;(case aP=>exact rfl);(case aB=>exact (by repeat (first|(with_reducible first|exact HB.o|apply Qk|apply Qi|apply Qj|refine Ql ?_ GE218.o)|exact HB.o)));(case aF=>exact (fun k_ hk=>Kd.fresh' (Kd.R_lt (by (with_reducible repeat (first|apply QB|apply QD|apply Kd.R_drew));exact HO_7.o)) k_ hk));(case aO=>exact (by (with_reducible repeat (first|apply QB|apply QD|apply Kd.R_drew));exact HO_8.o));(case aS=>exact (Qn (by repeat (first|(with_reducible first|exact HB.o|apply Qk|apply Qi|apply Qj|refine Ql ?_ GE218.o)|exact HB.o))));(case aL=>have:=LMc23.out;omega);intro v234 w27 ho hb hg hat;rw [← Ny233.out] at ho;have n0_:=Qa (Kd.R_after (ok:=(fun _=>True)) (by (with_reducible repeat (first|apply QB|apply QD|apply Kd.R_drew));exact Qt HO_7.o (fun _ hk=>⟨trivial,hk⟩)) hg hat);have n1_:=Qa (Kd.R_over' (by (with_reducible repeat (first|apply QB|apply QD|apply Kd.R_drew));exact HO_21.o) (Kd.R_typed (by (with_reducible repeat (first|apply QB|apply QD|apply Kd.R_drew));exact HO_8.o)) (by decide) hg);have n2_:=Qa (blk_grown (g:=gb218) (o:=.cells #[.slice (some ad230) l0_0.length c0_0,.slice A0_1 l0_1.length c0_1,.slice A0_2 l0_2.length c0_2,.slice A0_3 l0_3.length c0_3] 28 (0,0)) (by (with_reducible repeat first|apply Qf|apply blk_drew|apply Qe);exact BK218.o) hg (Kd.R_ne HO_8.o BK218.o (by decide)));have n3_:=Qa (hb);have n4_:=Qa (ho);clear HO_7;clear HO_21;clear BK218;clear HB;clear HO_8;have HO_7:=n0_;have HO_21:=n1_;have BK218:=n2_;have HB:=n3_;have HO235:=n4_;clear n0_ n1_ n2_ n3_ n4_;clear ho hb hg hat)));go_roundg k2
               case measure=>have:=HJ3.o;have:=HK2.o;omega
               case rel=>exact ⟨(y233),(wrap64 (x23_2 + 1)),(by first|rfl|(simp;done)|(simp [*];done)),H',⟨by have:=HJ3.o;have:=HK2.o;omega⟩,⟨by (with_reducible repeat (first|apply QB|apply QD|apply Kd.R_drew));exact Qt HO_7.o (fun _ hk=>hk.2)⟩,⟨by (with_reducible repeat (first|apply QB|apply QD|apply Kd.R_drew));exact HO235.o⟩,⟨by (with_reducible repeat (first|apply QB|apply QD|apply Kd.R_drew));exact HO_21.o⟩,⟨by (with_reducible repeat first|apply Qf|apply blk_drew|apply Qe);exact BK218.o⟩,⟨by repeat (first|(with_reducible first|exact HB.o|apply Qk|apply Qi|apply Qj|refine Ql ?_ GE218.o)|exact HB.o)⟩⟩
              ·rw [if_neg c23] at H;exact absurd H (by simp)
             ·rw [if_neg c22] at H;have c22b0 : decide ((rd (rd_L1 l0_0 (rd x7_3 x23_2)) 1) < 250) = false:=QH c22;clear c22
              by_cases c28 : x8_2.length < 17592186044416
              ·rw [if_pos c28] at H;have LMc28:=Qa c28;clear c28;obtain ⟨y236,hy236⟩ : ∃ y_ : List Int,y_ = (x8_2 ++ [0]):=⟨_,rfl⟩;(replace H : (spec_l7Shared.l0 k2 x7_3 y236 t223 (t223.length : Int) (wrap64 (x23_2 + 1)) l0_0 l0_1 l0_2 l0_3) = some r:=by first|(rw [hy236];with_reducible exact H)|(have H2_:=(Option.bind_some _ _).symm.trans H;rw [hy236];with_reducible exact H2_)|(have H2_:=(Option.bind_some _ _).symm.trans H;with_reducible exact H2_)|with_reducible exact H|(rw [hy236];exact H)|exact H);have Ny236:=Qa hy236;clear hy236;have H':=Qa H;clear H;have p226 : 0 ≤ (x23_2 : Int):=QF (by assumption);have q226 : x23_2 < (t223.length : Int):=QF (by assumption);obtain ⟨ad226,e226,hx226_0⟩:=Kd.at_string (Qu HO_21.o).2.2 x23_2 p226 q226;cases e226;replace p226:=eq_true p226;replace q226:=eq_true q226;(try go_wp2);have n0_:=Qa (Kd.R_drew HO_7.o);have n1_:=Qa (Kd.R_drew HO_8.o);have n2_:=Qa (Kd.R_drew HO_21.o);have n3_:=Qa (blk_drew BK218.o);have n4_:=Qa (Qj HB.o);clear HO_7;clear HO_8;clear HO_21;clear BK218;clear HB;have HO_7:=n0_;have HO_8:=n1_;have HO_21:=n2_;have BK218:=n3_;have HB:=n4_;clear n0_ n1_ n2_ n3_ n4_;obtain ⟨Ao30,co30,eo30⟩:=Kd.R_slice HO_7.o;(first|subst eo30|(injection eo30 with f1_ f2_ f3_;have f4_:=f1_.symm;have f5_:=f3_.symm;clear f1_ f2_ f3_;subst f4_;subst f5_));have p227 : 0 ≤ (x23_2 : Int):=QF (by assumption);have q227 : x23_2 < (x7_3.length : Int):=QF (by assumption);obtain ⟨ad227,e227,hx227_0⟩:=Kd.at_int (Qu HO_7.o).2.2 x23_2 p227 q227;cases e227;replace p227:=eq_true p227;replace q227:=eq_true q227;have p229 : 0 ≤ (x23_2 : Int):=QF (by assumption);have q229 : x23_2 < (x7_3.length : Int):=QF (by assumption);obtain ⟨ad229,e229,hx229_0⟩:=Kd.at_int (Qu HO_7.o).2.2 x23_2 p229 q229;obtain rfl : ad227 = ad229:=(by injection e229);replace p229:=eq_true p229;replace q229:=eq_true q229;have p230 : 0 ≤ ((rd x7_3 x23_2) : Int):=QF (by assumption);have q230 : (rd x7_3 x23_2) < (l0_0.length : Int):=QF (by assumption);obtain ⟨ad230,A230_0,c230_0,e230,hx230_0,hl230_0,hi230_0⟩:=at_L1 HR0_0.o (rd x7_3 x23_2) p230 q230;have hw230_0:=hx230_0;cases e230;(try replace hx230_0:=(HB.o.cell (World.block_lt_of_cell? w _ hx230_0)).trans hx230_0);have HR230_0:=Qa hi230_0;have HC230_0:=Qa hl230_0;clear hi230_0 hl230_0;replace p230:=eq_true p230;replace q230:=eq_true q230;have p231 : 0 ≤ (1 : Int):=(by omega);have q231 : 1 < ((rd_L1 l0_0 (rd x7_3 x23_2)).length : Int):=QF (by assumption);obtain ⟨ad231,e231,hx231_0⟩:=Kd.at_int HR230_0.o 1 p231 q231;have hw231_0:=hx231_0;(try rw [show ((1 : Int)).toNat = 1 from rfl] at hw231_0);(try rw [show 1 * 1 = 1 from rfl] at hw231_0);(try simp only [Nat.reduceMul,Nat.reduceEqDiff,Go.Addr.add,↓reduceIte] at hw231_0);cases e231;(try simp only [show (1 : Int).toNat = 1 from rfl,Nat.reduceMul,Nat.reduceEqDiff,Go.Addr.add,↓reduceIte] at hx231_0);have qi231 : (1 < (rd_L1 l0_0 (rd x7_3 x23_2)).length) = True:=eq_true (by omega);(try rw [show ((1 : Int)).toNat = 1 from rfl] at hx231_0);(try replace hx231_0:=(HB.o.cell (World.block_lt_of_cell? w _ hx231_0)).trans hx231_0);replace p231:=eq_true p231;replace q231:=eq_true q231;refine start_ (n:=27) (S:=fun w'=>w'.cell? ⟨gb218,0,none⟩ = some (.slice (some ad230) l0_0.length c0_0)∧w'.cell? ⟨gb218,1,none⟩ = some (.slice A0_1 l0_1.length c0_1)∧w'.cell? ⟨gb218,2,none⟩ = some (.slice A0_2 l0_2.length c0_2)∧w'.cell? ⟨gb218,3,none⟩ = some (.slice A0_3 l0_3.length c0_3)∧w'.cell? (ad227.add (x23_2).toNat) = some (.int .i64 (rd x7_3 x23_2))∧w'.cell? (ad227.add (x23_2).toNat) = some (.int .i64 (rd x7_3 x23_2))∧w'.cell? (ad230.add ((rd x7_3 x23_2)).toNat) = some (.slice (some ad231) (rd_L1 l0_0 (rd x7_3 x23_2)).length c230_0)∧w'.cell? ⟨ad231.block,ad231.off + 1,none⟩ = some (.int .u8 (rd (rd_L1 l0_0 (rd x7_3 x23_2)) 1))) (ds:=[]) #[false,false,false,false,false,false,false,false,false,false,false,false,false,false,false,false,false,false,false,false,false,false,false,false,false,false,false] (by kernel_rfl) rfl rfl ⟨(Qb BK218.o 0).trans rfl,(Qb BK218.o 1).trans rfl,(Qb BK218.o 2).trans rfl,(Qb BK218.o 3).trans rfl,hx227_0,hx229_0,((HB.o.cell (World.block_lt_of_cell? w _ hw230_0)).trans hw230_0),((HB.o.cell (World.block_lt_of_cell? w _ hw231_0)).trans hw231_0)⟩ (fun hHeld=>?_);refine with_tabW spec_l7Shared.tab9 spec_l7Shared.bits9 (fun HT_ HW_=>?_)
               generalize wr.drew = w29 at HO_7 HO_8 HO_21 BK218 HB HR230_0 hx227_0 hx229_0 hx230_0 hx231_0 hHeld ⊢
               refine pure_ (i:=0) (N:=some 28) (v:=?_) (a':=?_) #[true,false,false,false,false,false,false,false,false,false,false,false,false,false,false,false,false,false,false,false,false,false,false,false,false,false,false] rfl rfl (any_of HT_.out (by kernel_rfl)) (fun _ _ _ h=>h) (Or.inl ⟨by rfl,?_⟩) ?_ ?_;rotate_left
               ·intro w';go_simp
                with_reducible rfl
               rotate_left
               ·simp only [Act.put,QI,QJ,QK,i64_w,i32_w];rfl
               refine pure_ (i:=1) (N:=some 29) (v:=?_) (a':=?_) #[true,true,false,false,false,false,false,false,false,false,false,false,false,false,false,false,false,false,false,false,false,false,false,false,false,false,false] rfl rfl (any_of HT_.out (by kernel_rfl)) (fun _ _ _ h=>h) (Or.inl ⟨by rfl,?_⟩) ?_ ?_;rotate_left
               ·intro w';go_simp
                with_reducible rfl
               rotate_left
               ·simp only [Act.put,QI,QJ,QK,i64_w,i32_w];rfl
               refine pure_ (i:=2) (N:=some 30) (v:=?_) (a':=?_) #[true,true,true,false,false,false,false,false,false,false,false,false,false,false,false,false,false,false,false,false,false,false,false,false,false,false,false] rfl rfl (any_of HT_.out (by kernel_rfl)) (fun _ _ _ h=>h) (Or.inl ⟨by rfl,?_⟩) ?_ ?_;rotate_left
               ·intro w';go_simp
                with_reducible rfl
               rotate_left
               ·simp only [Act.put,QI,QJ,QK,i64_w,i32_w];rfl
               refine pure_ (i:=3) (N:=some 31) (v:=?_) (a':=?_) #[true,true,true,true,false,false,false,false,false,false,false,false,false,false,false,false,false,false,false,false,false,false,false,false,false,false,false] rfl rfl (any_of HT_.out (by kernel_rfl)) (fun _ _ _ h=>h) (Or.inl ⟨by rfl,?_⟩) ?_ ?_;rotate_left
               ·intro w';go_simp
                with_reducible rfl
               rotate_left
               ·simp only [Act.put,QI,QJ,QK,i64_w,i32_w];rfl
               refine pure_ (i:=4) (N:=some 32) (v:=?_) (a':=?_) #[true,true,true,true,true,false,false,false,false,false,false,false,false,false,false,false,false,false,false,false,false,false,false,false,false,false,false] rfl rfl (any_of HT_.out (by kernel_rfl)) (fun _ _ _ h=>h) (Or.inl ⟨by rfl,?_⟩) ?_ ?_;rotate_left
               ·intro w';go_simp
                with_reducible rfl
               rotate_left
               ·simp only [Act.put,QI,QJ,QK,i64_w,i32_w];rfl
               refine pure_ (i:=6) (N:=some 34) (v:=?_) (a':=?_) #[true,true,true,true,true,false,true,false,false,false,false,false,false,false,false,false,false,false,false,false,false,false,false,false,false,false,false] rfl rfl (any_of HT_.out (by kernel_rfl)) (fun _ _ _ h=>h) (Or.inl ⟨by rfl,?_⟩) ?_ ?_;rotate_left
               ·intro w';go_simp
                with_reducible rfl
               rotate_left
               ·simp only [Act.put,QI,QJ,QK,i64_w,i32_w];rfl
               refine pure_ (i:=7) (N:=some 35) (v:=?_) (a':=?_) #[true,true,true,true,true,false,true,true,false,false,false,false,false,false,false,false,false,false,false,false,false,false,false,false,false,false,false] rfl rfl (any_of HT_.out (by kernel_rfl)) (fun _ _ _ h=>h) (Or.inl ⟨by rfl,?_⟩) ?_ ?_;rotate_left
               ·intro w';go_simp
                with_reducible rfl
               rotate_left
               ·simp only [Act.put,QI,QJ,QK,i64_w,i32_w];rfl
               refine pure_ (i:=8) (N:=some 36) (v:=?_) (a':=?_) #[true,true,true,true,true,false,true,true,true,false,false,false,false,false,false,false,false,false,false,false,false,false,false,false,false,false,false] rfl rfl (any_of HT_.out (by kernel_rfl)) (fun _ _ _ h=>h) (Or.inl ⟨by rfl,?_⟩) ?_ ?_;rotate_left
               ·intro w';go_simp
                with_reducible rfl
               rotate_left
               ·simp only [Act.put,QI,QJ,QK,i64_w,i32_w];rfl
               refine pure_ (i:=11) (N:=some 39) (v:=?_) (a':=?_) #[true,true,true,true,true,false,true,true,true,false,false,true,false,false,false,false,false,false,false,false,false,false,false,false,false,false,false] rfl rfl (any_of HT_.out (by kernel_rfl)) (fun _ _ _ h=>h) (Or.inl ⟨by rfl,?_⟩) ?_ ?_;rotate_left
               ·intro w';go_simp
                with_reducible rfl
               rotate_left
               ·simp only [Act.put,QI,QJ,QK,i64_w,i32_w];rfl
               refine take_ (i:=5) (N:=some 33) (v:=?_) (a':=?_) #[true,true,true,true,true,true,true,true,true,false,false,true,false,false,false,false,false,false,false,false,false,false,false,false,false,false,false] rfl rfl (take_ofW HT_.out HW_.out (by kernel_rfl)) (fun _ _ _ h=>h) (Or.inl ⟨by rfl,?_⟩) hHeld ?_ ?_;rotate_left
               ·rintro w' ⟨s0,s1,s2,s3,s4,s5,s6,s7⟩;go_simp
                with_reducible rfl
               rotate_left
               ·simp only [Act.put,QI,QJ,QK,i64_w,i32_w];rfl
               refine take_ (i:=9) (N:=some 37) (v:=?_) (a':=?_) #[true,true,true,true,true,true,true,true,true,true,false,true,false,false,false,false,false,false,false,false,false,false,false,false,false,false,false] rfl rfl (take_ofW HT_.out HW_.out (by kernel_rfl)) (fun _ _ _ h=>h) (Or.inl ⟨by rfl,?_⟩) hHeld ?_ ?_;rotate_left
               ·rintro w' ⟨s0,s1,s2,s3,s4,s5,s6,s7⟩;go_simp
                with_reducible rfl
               rotate_left
               ·simp only [Act.put,QI,QJ,QK,i64_w,i32_w];rfl
               refine one_ (i:=10) (N:=some 38) #[true,true,true,true,true,true,true,true,true,true,true,true,false,false,false,false,false,false,false,false,false,false,false,false,false,false,false] rfl rfl (one_of HT_.out (by kernel_rfl)) (by decide) (fun K hK=>?_);refine goes_ Try.func67 (by kernel_rfl) rfl #[.agg #[.slice (some ad230) l0_0.length c0_0,.slice A0_1 l0_1.length c0_1,.slice A0_2 l0_2.length c0_2,.slice A0_3 l0_3.length c0_3],.int .i64 (rd x7_3 x23_2)] (by rfl) rfl rfl (by (try simp only [QL,QM,QN]);first|done|rfl|(simp only [List.length_drop,List.length_take];rfl)) ?_
               with_reducible refine (spec_l7Piece.calls _ _ l0_0 _ _ l0_1 _ _ l0_2 _ _ l0_3 (rd x7_3 x23_2) t228 _ ?side1 ?side2 ?side3 ?side4 ?side5 ?side6 ?side7 ?side8 A17.o).mono ?_
               (case side1=>repeat (first|exact (Qo HR0_0.o HB.o)|(with_reducible first|apply Qp|apply Qq|apply Qr)));(case side2=>exact HC0_0.o);(case side3=>repeat (first|exact (Qo HR0_1.o HB.o)|(with_reducible first|apply Qp|apply Qq|apply Qr)));(case side4=>exact HC0_1.o);(case side5=>repeat (first|exact (Qo HR0_2.o HB.o)|(with_reducible first|apply Qp|apply Qq|apply Qr)));(case side6=>exact HC0_2.o);(case side7=>repeat (first|exact (Qo HR0_3.o HB.o)|(with_reducible first|apply Qp|apply Qq|apply Qr)));(case side8=>exact HC0_3.o);rintro e w31 ⟨rfl,hb⟩;have HS4_:=(hb.cell (World.block_lt_of_cell? _ _ (hHeld.2.2.2.2.1))).trans (hHeld.2.2.2.2.1);have HS5_:=(hb.cell (World.block_lt_of_cell? _ _ (hHeld.2.2.2.2.2.1))).trans (hHeld.2.2.2.2.2.1);refine ⟨_,rfl,?_⟩;have n0_:=Qa (Qs (by (with_reducible repeat (first|apply QB|apply QD|apply Kd.R_drew));exact HO_7.o) hb);have n1_:=Qa (Qs (by (with_reducible repeat (first|apply QB|apply QD|apply Kd.R_drew));exact HO_8.o) hb);have n2_:=Qa (Qs (by (with_reducible repeat (first|apply QB|apply QD|apply Kd.R_drew));exact HO_21.o) hb);have n3_:=Qa (Qd (g:=gb218) (o:=.cells #[.slice (some ad230) l0_0.length c0_0,.slice A0_1 l0_1.length c0_1,.slice A0_2 l0_2.length c0_2,.slice A0_3 l0_3.length c0_3] 28 (0,0)) (by (with_reducible repeat first|apply Qf|apply blk_drew|apply Qe);exact BK218.o) hb);have n4_:=Qa (Qm (by repeat (first|(with_reducible first|exact HB.o|apply Qk|apply Qi|apply Qj|refine Ql ?_ GE218.o)|exact HB.o)) hb);clear HO_7;clear HO_8;clear HO_21;clear BK218;clear HB;have HO_7:=n0_;have HO_8:=n1_;have HO_21:=n2_;have BK218:=n3_;have HB:=n4_;clear n0_ n1_ n2_ n3_ n4_;(try clear hb);(try clear hb2);(try clear hk);(try clear hi);refine hK.out _ _ ⟨(Qb BK218.o 0).trans rfl,(Qb BK218.o 1).trans rfl,(Qb BK218.o 2).trans rfl,(Qb BK218.o 3).trans rfl,HS4_,HS5_,((HB.o.cell (World.block_lt_of_cell? w _ hw230_0)).trans hw230_0),((HB.o.cell (World.block_lt_of_cell? w _ hw231_0)).trans hw231_0)⟩ (fun hHeld=>?_);clear hK K;refine norm_ (a':=?_) ?_ ?_;rotate_left
               ·(show Act.put _ (some 38) _ = _);simp only [Act.put,QI,QJ,QK,i64_w,i32_w];rfl
               refine pure_ (i:=12) (N:=some 40) (v:=?_) (a':=?_) #[true,true,true,true,true,true,true,true,true,true,true,true,true,false,false,false,false,false,false,false,false,false,false,false,false,false,false] rfl rfl (any_of HT_.out (by kernel_rfl)) (fun _ _ _ h=>h) (Or.inl ⟨by rfl,?_⟩) ?_ ?_;rotate_left
               ·intro w';go_simp
                with_reducible rfl
               rotate_left
               ·simp only [Act.put,QI,QJ,QK,i64_w,i32_w];rfl
               refine pure_ (i:=13) (N:=some 41) (v:=?_) (a':=?_) #[true,true,true,true,true,true,true,true,true,true,true,true,true,true,false,false,false,false,false,false,false,false,false,false,false,false,false] rfl rfl (any_of HT_.out (by kernel_rfl)) (fun _ _ _ h=>h) (Or.inl ⟨by rfl,?_⟩) ?_ ?_;rotate_left
               ·intro w';go_simp
                with_reducible rfl
               rotate_left
               ·simp only [Act.put,QI,QJ,QK,i64_w,i32_w];rfl
               refine pure_ (i:=14) (N:=some 42) (v:=?_) (a':=?_) #[true,true,true,true,true,true,true,true,true,true,true,true,true,true,true,false,false,false,false,false,false,false,false,false,false,false,false] rfl rfl (any_of HT_.out (by kernel_rfl)) (fun _ _ _ h=>h) (Or.inl ⟨by rfl,?_⟩) ?_ ?_;rotate_left
               ·intro w';go_simp
                with_reducible rfl
               rotate_left
               ·simp only [Act.put,QI,QJ,QK,i64_w,i32_w];rfl
               refine pure_ (i:=15) (N:=some 43) (v:=?_) (a':=?_) #[true,true,true,true,true,true,true,true,true,true,true,true,true,true,true,true,false,false,false,false,false,false,false,false,false,false,false] rfl rfl (any_of HT_.out (by kernel_rfl)) (fun _ _ _ h=>h) (Or.inl ⟨by rfl,?_⟩) ?_ ?_;rotate_left
               ·intro w';go_simp
                with_reducible rfl
               rotate_left
               ·simp only [Act.put,QI,QJ,QK,i64_w,i32_w];rfl
               refine pure_ (i:=17) (N:=some 45) (v:=?_) (a':=?_) #[true,true,true,true,true,true,true,true,true,true,true,true,true,true,true,true,false,true,false,false,false,false,false,false,false,false,false] rfl rfl (any_of HT_.out (by kernel_rfl)) (fun _ _ _ h=>h) (Or.inl ⟨by rfl,?_⟩) ?_ ?_;rotate_left
               ·intro w';go_simp
                with_reducible rfl
               rotate_left
               ·simp only [Act.put,QI,QJ,QK,i64_w,i32_w];rfl
               refine pure_ (i:=18) (N:=some 46) (v:=?_) (a':=?_) #[true,true,true,true,true,true,true,true,true,true,true,true,true,true,true,true,false,true,true,false,false,false,false,false,false,false,false] rfl rfl (any_of HT_.out (by kernel_rfl)) (fun _ _ _ h=>h) (Or.inl ⟨by rfl,?_⟩) ?_ ?_;rotate_left
               ·intro w';go_simp
                with_reducible rfl
               rotate_left
               ·simp only [Act.put,QI,QJ,QK,i64_w,i32_w];rfl
               refine pure_ (i:=19) (N:=some 47) (v:=?_) (a':=?_) #[true,true,true,true,true,true,true,true,true,true,true,true,true,true,true,true,false,true,true,true,false,false,false,false,false,false,false] rfl rfl (any_of HT_.out (by kernel_rfl)) (fun _ _ _ h=>h) (Or.inl ⟨by rfl,?_⟩) ?_ ?_;rotate_left
               ·intro w';go_simp
                with_reducible rfl
               rotate_left
               ·simp only [Act.put,QI,QJ,QK,i64_w,i32_w];rfl
               refine take_ (i:=16) (N:=some 44) (v:=?_) (a':=?_) #[true,true,true,true,true,true,true,true,true,true,true,true,true,true,true,true,true,true,true,true,false,false,false,false,false,false,false] rfl rfl (take_ofW HT_.out HW_.out (by kernel_rfl)) (fun _ _ _ h=>h) (Or.inl ⟨by rfl,?_⟩) hHeld ?_ ?_;rotate_left
               ·rintro w' ⟨s0,s1,s2,s3,s4,s5,s6,s7⟩;go_simp
                with_reducible rfl
               rotate_left
               ·simp only [Act.put,QI,QJ,QK,i64_w,i32_w];rfl
               refine take_ (i:=20) (N:=some 48) (v:=?_) (a':=?_) #[true,true,true,true,true,true,true,true,true,true,true,true,true,true,true,true,true,true,true,true,true,false,false,false,false,false,false] rfl rfl (take_ofW HT_.out HW_.out (by kernel_rfl)) (fun _ _ _ h=>h) (Or.inl ⟨by rfl,?_⟩) hHeld ?_ ?_;rotate_left
               ·rintro w' ⟨s0,s1,s2,s3,s4,s5,s6,s7⟩;go_simp
                with_reducible rfl
               rotate_left
               ·simp only [Act.put,QI,QJ,QK,i64_w,i32_w];rfl
               refine pure_ (i:=21) (N:=some 49) (v:=?_) (a':=?_) #[true,true,true,true,true,true,true,true,true,true,true,true,true,true,true,true,true,true,true,true,true,true,false,false,false,false,false] rfl rfl (any_of HT_.out (by kernel_rfl)) (fun _ _ _ h=>h) (Or.inl ⟨by rfl,?_⟩) ?_ ?_;rotate_left
               ·intro w';go_simp
                with_reducible rfl
               rotate_left
               ·simp only [Act.put,QI,QJ,QK,i64_w,i32_w];rfl
               refine take_ (i:=22) (N:=some 50) (v:=?_) (a':=?_) #[true,true,true,true,true,true,true,true,true,true,true,true,true,true,true,true,true,true,true,true,true,true,true,false,false,false,false] rfl rfl (take_ofW HT_.out HW_.out (by kernel_rfl)) (fun _ _ _ h=>h) (Or.inl ⟨by rfl,?_⟩) hHeld ?_ ?_;rotate_left
               ·rintro w' ⟨s0,s1,s2,s3,s4,s5,s6,s7⟩;go_simp
                with_reducible rfl
               rotate_left
               ·simp only [Act.put,QI,QJ,QK,i64_w,i32_w];rfl
               refine pure_ (i:=23) (N:=some 51) (v:=?_) (a':=?_) #[true,true,true,true,true,true,true,true,true,true,true,true,true,true,true,true,true,true,true,true,true,true,true,true,false,false,false] rfl rfl (any_of HT_.out (by kernel_rfl)) (fun _ _ _ h=>h) (Or.inl ⟨by rfl,?_⟩) ?_ ?_;rotate_left
               ·intro w';go_simp
                with_reducible rfl
               rotate_left
               ·simp only [Act.put,QI,QJ,QK,i64_w,i32_w];rfl
               refine take_ (i:=24) (N:=some 52) (v:=?_) (a':=?_) #[true,true,true,true,true,true,true,true,true,true,true,true,true,true,true,true,true,true,true,true,true,true,true,true,true,false,false] rfl rfl (take_ofW HT_.out HW_.out (by kernel_rfl)) (fun _ _ _ h=>h) (Or.inl ⟨by rfl,?_⟩) hHeld ?_ ?_;rotate_left
               ·rintro w' ⟨s0,s1,s2,s3,s4,s5,s6,s7⟩;go_simp
                with_reducible rfl
               rotate_left
               ·simp only [Act.put,QI,QJ,QK,i64_w,i32_w];rfl
               refine pure_ (i:=25) (N:=some 53) (v:=?_) (a':=?_) #[true,true,true,true,true,true,true,true,true,true,true,true,true,true,true,true,true,true,true,true,true,true,true,true,true,true,false] rfl rfl (any_of HT_.out (by kernel_rfl)) (fun _ _ _ h=>h) (Or.inl ⟨by rfl,?_⟩) ?_ ?_;rotate_left
               ·intro w';go_simp
                with_reducible rfl
               rotate_left
               ·simp only [Act.put,QI,QJ,QK,i64_w,i32_w];rfl
               refine pure_ (i:=26) (N:=some 54) (v:=?_) (a':=?_) #[true,true,true,true,true,true,true,true,true,true,true,true,true,true,true,true,true,true,true,true,true,true,true,true,true,true,true] rfl rfl (any_of HT_.out (by kernel_rfl)) (fun _ _ _ h=>h) (Or.inl ⟨by rfl,?_⟩) ?_ ?_;rotate_left
               ·intro w';go_simp
                with_reducible rfl
               rotate_left
               ·simp only [Act.put,QI,QJ,QK,i64_w,i32_w];rfl
               refine done_ (done_of HT_.out (by kernel_rfl)) ?_;(try go_wp2_with (first|((with_reducible refine gate_builtin (b:=.append) (xs:=#[.tmp 59,.tmp 61]) rfl ?_);at_builtin;refine Kd.R_append (Kd.int .i64) (w0:=w) w.heap.size rfl (.tmp 59) (.tmp 61) 24 3 (.int .i64 0) 8 rfl Try.underlying24 info3 rfl (by decide) (by omega) u8 x8_2 0 [.int .i64 0] (fun k_=>some k_ ≠ (.slice (some ad227) x7_3.length co30 : Value).ownBlock) (fun _=>False) rfl rfl ?aP (fun _ hk=>hk.elim) ?aF ?aO ?aB ?aS ?aL ?_;(case aP=>exact rfl);(case aB=>exact (by repeat (first|(with_reducible first|exact HB.o|apply Qk|apply Qi|apply Qj|refine Ql ?_ GE218.o)|exact HB.o)));(case aF=>exact (fun k_ hk=>Kd.fresh' (Kd.R_lt (by (with_reducible repeat (first|apply QB|apply QD|apply Kd.R_drew));exact HO_7.o)) k_ hk));(case aO=>exact (by (with_reducible repeat (first|apply QB|apply QD|apply Kd.R_drew));exact HO_8.o));(case aS=>exact (Qn (by repeat (first|(with_reducible first|exact HB.o|apply Qk|apply Qi|apply Qj|refine Ql ?_ GE218.o)|exact HB.o))));(case aL=>have:=LMc28.out;omega);intro v237 w32 ho hb hg hat;rw [← Ny236.out] at ho;have n0_:=Qa (Kd.R_after (ok:=(fun _=>True)) (by (with_reducible repeat (first|apply QB|apply QD|apply Kd.R_drew));exact Qt HO_7.o (fun _ hk=>⟨trivial,hk⟩)) hg hat);have n1_:=Qa (Kd.R_over' (by (with_reducible repeat (first|apply QB|apply QD|apply Kd.R_drew));exact HO_21.o) (Kd.R_typed (by (with_reducible repeat (first|apply QB|apply QD|apply Kd.R_drew));exact HO_8.o)) (by decide) hg);have n2_:=Qa (blk_grown (g:=gb218) (o:=.cells #[.slice (some ad230) l0_0.length c0_0,.slice A0_1 l0_1.length c0_1,.slice A0_2 l0_2.length c0_2,.slice A0_3 l0_3.length c0_3] 28 (0,0)) (by (with_reducible repeat first|apply Qf|apply blk_drew|apply Qe);exact BK218.o) hg (Kd.R_ne HO_8.o BK218.o (by decide)));have n3_:=Qa (hb);have n4_:=Qa (ho);clear HO_7;clear HO_21;clear BK218;clear HB;clear HO_8;have HO_7:=n0_;have HO_21:=n1_;have BK218:=n2_;have HB:=n3_;have HO238:=n4_;clear n0_ n1_ n2_ n3_ n4_;clear ho hb hg hat)));go_roundg k2
               case measure=>have:=HJ3.o;have:=HK2.o;omega
               case rel=>exact ⟨(y236),(wrap64 (x23_2 + 1)),(by first|rfl|(simp;done)|(simp [*];done)),H',⟨by have:=HJ3.o;have:=HK2.o;omega⟩,⟨by (with_reducible repeat (first|apply QB|apply QD|apply Kd.R_drew));exact Qt HO_7.o (fun _ hk=>hk.2)⟩,⟨by (with_reducible repeat (first|apply QB|apply QD|apply Kd.R_drew));exact HO238.o⟩,⟨by (with_reducible repeat (first|apply QB|apply QD|apply Kd.R_drew));exact HO_21.o⟩,⟨by (with_reducible repeat first|apply Qf|apply blk_drew|apply Qe);exact BK218.o⟩,⟨by repeat (first|(with_reducible first|exact HB.o|apply Qk|apply Qi|apply Qj|refine Ql ?_ GE218.o)|exact HB.o)⟩⟩
              ·rw [if_neg c28] at H;exact absurd H (by simp)
            ·rw [if_neg c21] at H;exact absurd H (by simp)
           ·rw [if_neg c20] at H;exact absurd H (by simp)
          ·rw [if_neg c19] at H;exact absurd H (by simp)
         ·rw [if_neg c18] at H;have c18b0 : (t228.toList == (rdOf ByteArray.empty t223 x23_2).toList) = false:=beq_eq_false_iff_ne.mpr c18;have c18b1 : (t228.toList != (rdOf ByteArray.empty t223 x23_2).toList) = true:=bne_iff_ne.mpr c18
          by_cases c33 : x8_2.length < 17592186044416
          ·rw [if_pos c33] at H;have LMc33:=Qa c33;clear c33;obtain ⟨y239,hy239⟩ : ∃ y_ : List Int,y_ = (x8_2 ++ [0]):=⟨_,rfl⟩;(replace H : (spec_l7Shared.l0 k2 x7_3 y239 t223 (t223.length : Int) (wrap64 (x23_2 + 1)) l0_0 l0_1 l0_2 l0_3) = some r:=by first|(rw [hy239];with_reducible exact H)|(have H2_:=(Option.bind_some _ _).symm.trans H;rw [hy239];with_reducible exact H2_)|(have H2_:=(Option.bind_some _ _).symm.trans H;with_reducible exact H2_)|with_reducible exact H|(rw [hy239];exact H)|exact H);have Ny239:=Qa hy239;clear hy239;have H':=Qa H;clear H;have p226 : 0 ≤ (x23_2 : Int):=QF (by assumption);have q226 : x23_2 < (t223.length : Int):=QF (by assumption);obtain ⟨ad226,e226,hx226_0⟩:=Kd.at_string (Qu HO_21.o).2.2 x23_2 p226 q226;cases e226;replace p226:=eq_true p226;replace q226:=eq_true q226;(try go_wp2);have n0_:=Qa (Kd.R_drew HO_7.o);have n1_:=Qa (Kd.R_drew HO_8.o);have n2_:=Qa (Kd.R_drew HO_21.o);have n3_:=Qa (blk_drew BK218.o);have n4_:=Qa (Qj HB.o);clear HO_7;clear HO_8;clear HO_21;clear BK218;clear HB;have HO_7:=n0_;have HO_8:=n1_;have HO_21:=n2_;have BK218:=n3_;have HB:=n4_;clear n0_ n1_ n2_ n3_ n4_;obtain ⟨Ao35,co35,eo35⟩:=Kd.R_slice HO_7.o;(first|subst eo35|(injection eo35 with f1_ f2_ f3_;have f4_:=f1_.symm;have f5_:=f3_.symm;clear f1_ f2_ f3_;subst f4_;subst f5_));have p227 : 0 ≤ (x23_2 : Int):=QF (by assumption);have q227 : x23_2 < (x7_3.length : Int):=QF (by assumption);obtain ⟨ad227,e227,hx227_0⟩:=Kd.at_int (Qu HO_7.o).2.2 x23_2 p227 q227;cases e227;replace p227:=eq_true p227;replace q227:=eq_true q227;refine start_ (n:=27) (S:=fun w'=>w'.cell? ⟨gb218,0,none⟩ = some (.slice A0_0 l0_0.length c0_0)∧w'.cell? ⟨gb218,1,none⟩ = some (.slice A0_1 l0_1.length c0_1)∧w'.cell? ⟨gb218,2,none⟩ = some (.slice A0_2 l0_2.length c0_2)∧w'.cell? ⟨gb218,3,none⟩ = some (.slice A0_3 l0_3.length c0_3)∧w'.cell? (ad227.add (x23_2).toNat) = some (.int .i64 (rd x7_3 x23_2))) (ds:=[]) #[false,false,false,false,false,false,false,false,false,false,false,false,false,false,false,false,false,false,false,false,false,false,false,false,false,false,false] (by kernel_rfl) rfl rfl ⟨(Qb BK218.o 0).trans rfl,(Qb BK218.o 1).trans rfl,(Qb BK218.o 2).trans rfl,(Qb BK218.o 3).trans rfl,hx227_0⟩ (fun hHeld=>?_);refine with_tabW spec_l7Shared.tab9 spec_l7Shared.bits9 (fun HT_ HW_=>?_)
           generalize wr.drew = w34 at HO_7 HO_8 HO_21 BK218 HB hx227_0 hHeld ⊢
           refine pure_ (i:=0) (N:=some 28) (v:=?_) (a':=?_) #[true,false,false,false,false,false,false,false,false,false,false,false,false,false,false,false,false,false,false,false,false,false,false,false,false,false,false] rfl rfl (any_of HT_.out (by kernel_rfl)) (fun _ _ _ h=>h) (Or.inl ⟨by rfl,?_⟩) ?_ ?_;rotate_left
           ·intro w';go_simp
            with_reducible rfl
           rotate_left
           ·simp only [Act.put,QI,QJ,QK,i64_w,i32_w];rfl
           refine pure_ (i:=1) (N:=some 29) (v:=?_) (a':=?_) #[true,true,false,false,false,false,false,false,false,false,false,false,false,false,false,false,false,false,false,false,false,false,false,false,false,false,false] rfl rfl (any_of HT_.out (by kernel_rfl)) (fun _ _ _ h=>h) (Or.inl ⟨by rfl,?_⟩) ?_ ?_;rotate_left
           ·intro w';go_simp
            with_reducible rfl
           rotate_left
           ·simp only [Act.put,QI,QJ,QK,i64_w,i32_w];rfl
           refine pure_ (i:=2) (N:=some 30) (v:=?_) (a':=?_) #[true,true,true,false,false,false,false,false,false,false,false,false,false,false,false,false,false,false,false,false,false,false,false,false,false,false,false] rfl rfl (any_of HT_.out (by kernel_rfl)) (fun _ _ _ h=>h) (Or.inl ⟨by rfl,?_⟩) ?_ ?_;rotate_left
           ·intro w';go_simp
            with_reducible rfl
           rotate_left
           ·simp only [Act.put,QI,QJ,QK,i64_w,i32_w];rfl
           refine pure_ (i:=3) (N:=some 31) (v:=?_) (a':=?_) #[true,true,true,true,false,false,false,false,false,false,false,false,false,false,false,false,false,false,false,false,false,false,false,false,false,false,false] rfl rfl (any_of HT_.out (by kernel_rfl)) (fun _ _ _ h=>h) (Or.inl ⟨by rfl,?_⟩) ?_ ?_;rotate_left
           ·intro w';go_simp
            with_reducible rfl
           rotate_left
           ·simp only [Act.put,QI,QJ,QK,i64_w,i32_w];rfl
           refine pure_ (i:=4) (N:=some 32) (v:=?_) (a':=?_) #[true,true,true,true,true,false,false,false,false,false,false,false,false,false,false,false,false,false,false,false,false,false,false,false,false,false,false] rfl rfl (any_of HT_.out (by kernel_rfl)) (fun _ _ _ h=>h) (Or.inl ⟨by rfl,?_⟩) ?_ ?_;rotate_left
           ·intro w';go_simp
            with_reducible rfl
           rotate_left
           ·simp only [Act.put,QI,QJ,QK,i64_w,i32_w];rfl
           refine pure_ (i:=6) (N:=some 34) (v:=?_) (a':=?_) #[true,true,true,true,true,false,true,false,false,false,false,false,false,false,false,false,false,false,false,false,false,false,false,false,false,false,false] rfl rfl (any_of HT_.out (by kernel_rfl)) (fun _ _ _ h=>h) (Or.inl ⟨by rfl,?_⟩) ?_ ?_;rotate_left
           ·intro w';go_simp
            with_reducible rfl
           rotate_left
           ·simp only [Act.put,QI,QJ,QK,i64_w,i32_w];rfl
           refine pure_ (i:=7) (N:=some 35) (v:=?_) (a':=?_) #[true,true,true,true,true,false,true,true,false,false,false,false,false,false,false,false,false,false,false,false,false,false,false,false,false,false,false] rfl rfl (any_of HT_.out (by kernel_rfl)) (fun _ _ _ h=>h) (Or.inl ⟨by rfl,?_⟩) ?_ ?_;rotate_left
           ·intro w';go_simp
            with_reducible rfl
           rotate_left
           ·simp only [Act.put,QI,QJ,QK,i64_w,i32_w];rfl
           refine pure_ (i:=8) (N:=some 36) (v:=?_) (a':=?_) #[true,true,true,true,true,false,true,true,true,false,false,false,false,false,false,false,false,false,false,false,false,false,false,false,false,false,false] rfl rfl (any_of HT_.out (by kernel_rfl)) (fun _ _ _ h=>h) (Or.inl ⟨by rfl,?_⟩) ?_ ?_;rotate_left
           ·intro w';go_simp
            with_reducible rfl
           rotate_left
           ·simp only [Act.put,QI,QJ,QK,i64_w,i32_w];rfl
           refine pure_ (i:=11) (N:=some 39) (v:=?_) (a':=?_) #[true,true,true,true,true,false,true,true,true,false,false,true,false,false,false,false,false,false,false,false,false,false,false,false,false,false,false] rfl rfl (any_of HT_.out (by kernel_rfl)) (fun _ _ _ h=>h) (Or.inl ⟨by rfl,?_⟩) ?_ ?_;rotate_left
           ·intro w';go_simp
            with_reducible rfl
           rotate_left
           ·simp only [Act.put,QI,QJ,QK,i64_w,i32_w];rfl
           refine take_ (i:=5) (N:=some 33) (v:=?_) (a':=?_) #[true,true,true,true,true,true,true,true,true,false,false,true,false,false,false,false,false,false,false,false,false,false,false,false,false,false,false] rfl rfl (take_ofW HT_.out HW_.out (by kernel_rfl)) (fun _ _ _ h=>h) (Or.inl ⟨by rfl,?_⟩) hHeld ?_ ?_;rotate_left
           ·rintro w' ⟨s0,s1,s2,s3,s4⟩;go_simp
            with_reducible rfl
           rotate_left
           ·simp only [Act.put,QI,QJ,QK,i64_w,i32_w];rfl
           refine take_ (i:=9) (N:=some 37) (v:=?_) (a':=?_) #[true,true,true,true,true,true,true,true,true,true,false,true,false,false,false,false,false,false,false,false,false,false,false,false,false,false,false] rfl rfl (take_ofW HT_.out HW_.out (by kernel_rfl)) (fun _ _ _ h=>h) (Or.inl ⟨by rfl,?_⟩) hHeld ?_ ?_;rotate_left
           ·rintro w' ⟨s0,s1,s2,s3,s4⟩;go_simp
            with_reducible rfl
           rotate_left
           ·simp only [Act.put,QI,QJ,QK,i64_w,i32_w];rfl
           refine one_ (i:=10) (N:=some 38) #[true,true,true,true,true,true,true,true,true,true,true,true,false,false,false,false,false,false,false,false,false,false,false,false,false,false,false] rfl rfl (one_of HT_.out (by kernel_rfl)) (by decide) (fun K hK=>?_);refine goes_ Try.func67 (by kernel_rfl) rfl #[.agg #[.slice A0_0 l0_0.length c0_0,.slice A0_1 l0_1.length c0_1,.slice A0_2 l0_2.length c0_2,.slice A0_3 l0_3.length c0_3],.int .i64 (rd x7_3 x23_2)] (by rfl) rfl rfl (by (try simp only [QL,QM,QN]);first|done|rfl|(simp only [List.length_drop,List.length_take];rfl)) ?_
           with_reducible refine (spec_l7Piece.calls _ _ l0_0 _ _ l0_1 _ _ l0_2 _ _ l0_3 (rd x7_3 x23_2) t228 _ ?side1 ?side2 ?side3 ?side4 ?side5 ?side6 ?side7 ?side8 A17.o).mono ?_
           (case side1=>repeat (first|exact (Qo HR0_0.o HB.o)|(with_reducible first|apply Qp|apply Qq|apply Qr)));(case side2=>exact HC0_0.o);(case side3=>repeat (first|exact (Qo HR0_1.o HB.o)|(with_reducible first|apply Qp|apply Qq|apply Qr)));(case side4=>exact HC0_1.o);(case side5=>repeat (first|exact (Qo HR0_2.o HB.o)|(with_reducible first|apply Qp|apply Qq|apply Qr)));(case side6=>exact HC0_2.o);(case side7=>repeat (first|exact (Qo HR0_3.o HB.o)|(with_reducible first|apply Qp|apply Qq|apply Qr)));(case side8=>exact HC0_3.o);rintro e w36 ⟨rfl,hb⟩;have HS4_:=(hb.cell (World.block_lt_of_cell? _ _ (hHeld.2.2.2.2))).trans (hHeld.2.2.2.2);refine ⟨_,rfl,?_⟩;have n0_:=Qa (Qs (by (with_reducible repeat (first|apply QB|apply QD|apply Kd.R_drew));exact HO_7.o) hb);have n1_:=Qa (Qs (by (with_reducible repeat (first|apply QB|apply QD|apply Kd.R_drew));exact HO_8.o) hb);have n2_:=Qa (Qs (by (with_reducible repeat (first|apply QB|apply QD|apply Kd.R_drew));exact HO_21.o) hb);have n3_:=Qa (Qd (g:=gb218) (o:=.cells #[.slice A0_0 l0_0.length c0_0,.slice A0_1 l0_1.length c0_1,.slice A0_2 l0_2.length c0_2,.slice A0_3 l0_3.length c0_3] 28 (0,0)) (by (with_reducible repeat first|apply Qf|apply blk_drew|apply Qe);exact BK218.o) hb);have n4_:=Qa (Qm (by repeat (first|(with_reducible first|exact HB.o|apply Qk|apply Qi|apply Qj|refine Ql ?_ GE218.o)|exact HB.o)) hb);clear HO_7;clear HO_8;clear HO_21;clear BK218;clear HB;have HO_7:=n0_;have HO_8:=n1_;have HO_21:=n2_;have BK218:=n3_;have HB:=n4_;clear n0_ n1_ n2_ n3_ n4_;(try clear hb);(try clear hb2);(try clear hk);(try clear hi);refine hK.out _ _ ⟨(Qb BK218.o 0).trans rfl,(Qb BK218.o 1).trans rfl,(Qb BK218.o 2).trans rfl,(Qb BK218.o 3).trans rfl,HS4_⟩ (fun hHeld=>?_);clear hK K;refine norm_ (a':=?_) ?_ ?_;rotate_left
           ·(show Act.put _ (some 38) _ = _);simp only [Act.put,QI,QJ,QK,i64_w,i32_w];rfl
           refine pure_ (i:=12) (N:=some 40) (v:=?_) (a':=?_) #[true,true,true,true,true,true,true,true,true,true,true,true,true,false,false,false,false,false,false,false,false,false,false,false,false,false,false] rfl rfl (any_of HT_.out (by kernel_rfl)) (fun _ _ _ h=>h) (Or.inl ⟨by rfl,?_⟩) ?_ ?_;rotate_left
           ·intro w';go_simp
            with_reducible rfl
           rotate_left
           ·simp only [Act.put,QI,QJ,QK,i64_w,i32_w];rfl
           refine pure_ (i:=13) (N:=some 41) (v:=?_) (a':=?_) #[true,true,true,true,true,true,true,true,true,true,true,true,true,true,false,false,false,false,false,false,false,false,false,false,false,false,false] rfl rfl (any_of HT_.out (by kernel_rfl)) (fun _ _ _ h=>h) (Or.inl ⟨by rfl,?_⟩) ?_ ?_;rotate_left
           ·intro w';go_simp
            with_reducible rfl
           rotate_left
           ·simp only [Act.put,QI,QJ,QK,i64_w,i32_w];rfl
           refine pure_ (i:=14) (N:=some 42) (v:=?_) (a':=?_) #[true,true,true,true,true,true,true,true,true,true,true,true,true,true,true,false,false,false,false,false,false,false,false,false,false,false,false] rfl rfl (any_of HT_.out (by kernel_rfl)) (fun _ _ _ h=>h) (Or.inl ⟨by rfl,?_⟩) ?_ ?_;rotate_left
           ·intro w';go_simp
            with_reducible rfl
           rotate_left
           ·simp only [Act.put,QI,QJ,QK,i64_w,i32_w];rfl
           refine pure_ (i:=15) (N:=some 43) (v:=undef) (a':=?_) #[true,true,true,true,true,true,true,true,true,true,true,true,true,true,true,true,false,false,false,false,false,false,false,false,false,false,false] rfl rfl (any_of HT_.out (by kernel_rfl)) (fun _ _ _ h=>h) (Or.inr ⟨by rfl,rfl⟩) ?_ ?_;rotate_left
           ·simp only [Act.put,QI,QJ,QK,i64_w,i32_w];rfl
           refine pure_ (i:=16) (N:=some 44) (v:=undef) (a':=?_) #[true,true,true,true,true,true,true,true,true,true,true,true,true,true,true,true,true,false,false,false,false,false,false,false,false,false,false] rfl rfl (any_of HT_.out (by kernel_rfl)) (fun _ _ _ h=>h) (Or.inr ⟨by rfl,rfl⟩) ?_ ?_;rotate_left
           ·simp only [Act.put,QI,QJ,QK,i64_w,i32_w];rfl
           refine pure_ (i:=17) (N:=some 45) (v:=undef) (a':=?_) #[true,true,true,true,true,true,true,true,true,true,true,true,true,true,true,true,true,true,false,false,false,false,false,false,false,false,false] rfl rfl (any_of HT_.out (by kernel_rfl)) (fun _ _ _ h=>h) (Or.inr ⟨by rfl,rfl⟩) ?_ ?_;rotate_left
           ·simp only [Act.put,QI,QJ,QK,i64_w,i32_w];rfl
           refine pure_ (i:=18) (N:=some 46) (v:=undef) (a':=?_) #[true,true,true,true,true,true,true,true,true,true,true,true,true,true,true,true,true,true,true,false,false,false,false,false,false,false,false] rfl rfl (any_of HT_.out (by kernel_rfl)) (fun _ _ _ h=>h) (Or.inr ⟨by rfl,rfl⟩) ?_ ?_;rotate_left
           ·simp only [Act.put,QI,QJ,QK,i64_w,i32_w];rfl
           refine pure_ (i:=19) (N:=some 47) (v:=undef) (a':=?_) #[true,true,true,true,true,true,true,true,true,true,true,true,true,true,true,true,true,true,true,true,false,false,false,false,false,false,false] rfl rfl (any_of HT_.out (by kernel_rfl)) (fun _ _ _ h=>h) (Or.inr ⟨by rfl,rfl⟩) ?_ ?_;rotate_left
           ·simp only [Act.put,QI,QJ,QK,i64_w,i32_w];rfl
           refine pure_ (i:=20) (N:=some 48) (v:=undef) (a':=?_) #[true,true,true,true,true,true,true,true,true,true,true,true,true,true,true,true,true,true,true,true,true,false,false,false,false,false,false] rfl rfl (any_of HT_.out (by kernel_rfl)) (fun _ _ _ h=>h) (Or.inr ⟨by rfl,rfl⟩) ?_ ?_;rotate_left
           ·simp only [Act.put,QI,QJ,QK,i64_w,i32_w];rfl
           refine pure_ (i:=21) (N:=some 49) (v:=undef) (a':=?_) #[true,true,true,true,true,true,true,true,true,true,true,true,true,true,true,true,true,true,true,true,true,true,false,false,false,false,false] rfl rfl (any_of HT_.out (by kernel_rfl)) (fun _ _ _ h=>h) (Or.inr ⟨by rfl,rfl⟩) ?_ ?_;rotate_left
           ·simp only [Act.put,QI,QJ,QK,i64_w,i32_w];rfl
           refine pure_ (i:=22) (N:=some 50) (v:=undef) (a':=?_) #[true,true,true,true,true,true,true,true,true,true,true,true,true,true,true,true,true,true,true,true,true,true,true,false,false,false,false] rfl rfl (any_of HT_.out (by kernel_rfl)) (fun _ _ _ h=>h) (Or.inr ⟨by rfl,rfl⟩) ?_ ?_;rotate_left
           ·simp only [Act.put,QI,QJ,QK,i64_w,i32_w];rfl
           refine pure_ (i:=23) (N:=some 51) (v:=undef) (a':=?_) #[true,true,true,true,true,true,true,true,true,true,true,true,true,true,true,true,true,true,true,true,true,true,true,true,false,false,false] rfl rfl (any_of HT_.out (by kernel_rfl)) (fun _ _ _ h=>h) (Or.inr ⟨by rfl,rfl⟩) ?_ ?_;rotate_left
           ·simp only [Act.put,QI,QJ,QK,i64_w,i32_w];rfl
           refine pure_ (i:=24) (N:=some 52) (v:=undef) (a':=?_) #[true,true,true,true,true,true,true,true,true,true,true,true,true,true,true,true,true,true,true,true,true,true,true,true,true,false,false] rfl rfl (any_of HT_.out (by kernel_rfl)) (fun _ _ _ h=>h) (Or.inr ⟨by rfl,rfl⟩) ?_ ?_;rotate_left
           ·simp only [Act.put,QI,QJ,QK,i64_w,i32_w];rfl
           refine pure_ (i:=25) (N:=some 53) (v:=undef) (a':=?_) #[true,true,true,true,true,true,true,true,true,true,true,true,true,true,true,true,true,true,true,true,true,true,true,true,true,true,false] rfl rfl (any_of HT_.out (by kernel_rfl)) (fun _ _ _ h=>h) (Or.inr ⟨by rfl,rfl⟩) ?_ ?_;rotate_left
           ·simp only [Act.put,QI,QJ,QK,i64_w,i32_w];rfl
           refine pure_ (i:=26) (N:=some 54) (v:=?_) (a':=?_) #[true,true,true,true,true,true,true,true,true,true,true,true,true,true,true,true,true,true,true,true,true,true,true,true,true,true,true] rfl rfl (any_of HT_.out (by kernel_rfl)) (fun _ _ _ h=>h) (Or.inl ⟨by rfl,?_⟩) ?_ ?_;rotate_left
           ·intro w';go_simp
            with_reducible rfl
           rotate_left
           ·simp only [Act.put,QI,QJ,QK,i64_w,i32_w];rfl
           refine done_ (done_of HT_.out (by kernel_rfl)) ?_;(try go_wp2_with (first|((with_reducible refine gate_builtin (b:=.append) (xs:=#[.tmp 59,.tmp 61]) rfl ?_);at_builtin;refine Kd.R_append (Kd.int .i64) (w0:=w) w.heap.size rfl (.tmp 59) (.tmp 61) 24 3 (.int .i64 0) 8 rfl Try.underlying24 info3 rfl (by decide) (by omega) u8 x8_2 0 [.int .i64 0] (fun k_=>some k_ ≠ (.slice (some ad227) x7_3.length co35 : Value).ownBlock) (fun _=>False) rfl rfl ?aP (fun _ hk=>hk.elim) ?aF ?aO ?aB ?aS ?aL ?_;(case aP=>exact rfl);(case aB=>exact (by repeat (first|(with_reducible first|exact HB.o|apply Qk|apply Qi|apply Qj|refine Ql ?_ GE218.o)|exact HB.o)));(case aF=>exact (fun k_ hk=>Kd.fresh' (Kd.R_lt (by (with_reducible repeat (first|apply QB|apply QD|apply Kd.R_drew));exact HO_7.o)) k_ hk));(case aO=>exact (by (with_reducible repeat (first|apply QB|apply QD|apply Kd.R_drew));exact HO_8.o));(case aS=>exact (Qn (by repeat (first|(with_reducible first|exact HB.o|apply Qk|apply Qi|apply Qj|refine Ql ?_ GE218.o)|exact HB.o))));(case aL=>have:=LMc33.out;omega);intro v240 w37 ho hb hg hat;rw [← Ny239.out] at ho;have n0_:=Qa (Kd.R_after (ok:=(fun _=>True)) (by (with_reducible repeat (first|apply QB|apply QD|apply Kd.R_drew));exact Qt HO_7.o (fun _ hk=>⟨trivial,hk⟩)) hg hat);have n1_:=Qa (Kd.R_over' (by (with_reducible repeat (first|apply QB|apply QD|apply Kd.R_drew));exact HO_21.o) (Kd.R_typed (by (with_reducible repeat (first|apply QB|apply QD|apply Kd.R_drew));exact HO_8.o)) (by decide) hg);have n2_:=Qa (blk_grown (g:=gb218) (o:=.cells #[.slice A0_0 l0_0.length c0_0,.slice A0_1 l0_1.length c0_1,.slice A0_2 l0_2.length c0_2,.slice A0_3 l0_3.length c0_3] 28 (0,0)) (by (with_reducible repeat first|apply Qf|apply blk_drew|apply Qe);exact BK218.o) hg (Kd.R_ne HO_8.o BK218.o (by decide)));have n3_:=Qa (hb);have n4_:=Qa (ho);clear HO_7;clear HO_21;clear BK218;clear HB;clear HO_8;have HO_7:=n0_;have HO_21:=n1_;have BK218:=n2_;have HB:=n3_;have HO241:=n4_;clear n0_ n1_ n2_ n3_ n4_;clear ho hb hg hat)));go_roundg k2
           case measure=>have:=HJ3.o;have:=HK2.o;omega
           case rel=>exact ⟨(y239),(wrap64 (x23_2 + 1)),(by first|rfl|(simp;done)|(simp [*];done)),H',⟨by have:=HJ3.o;have:=HK2.o;omega⟩,⟨by (with_reducible repeat (first|apply QB|apply QD|apply Kd.R_drew));exact Qt HO_7.o (fun _ hk=>hk.2)⟩,⟨by (with_reducible repeat (first|apply QB|apply QD|apply Kd.R_drew));exact HO241.o⟩,⟨by (with_reducible repeat (first|apply QB|apply QD|apply Kd.R_drew));exact HO_21.o⟩,⟨by (with_reducible repeat first|apply Qf|apply blk_drew|apply Qe);exact BK218.o⟩,⟨by repeat (first|(with_reducible first|exact HB.o|apply Qk|apply Qi|apply Qj|refine Ql ?_ GE218.o)|exact HB.o)⟩⟩
          ·rw [if_neg c33] at H;exact absurd H (by simp)
        ·rw [if_neg c16] at H;have c16b0 : decide (x23_2 < (x7_3.length : Int)) = false:=QH c16;clear c16
         by_cases c38 : x8_2.length < 17592186044416
         ·rw [if_pos c38] at H;have LMc38:=Qa c38;clear c38;obtain ⟨y242,hy242⟩ : ∃ y_ : List Int,y_ = (x8_2 ++ [0]):=⟨_,rfl⟩;(replace H : (spec_l7Shared.l0 k2 x7_3 y242 t223 (t223.length : Int) (wrap64 (x23_2 + 1)) l0_0 l0_1 l0_2 l0_3) = some r:=by first|(rw [hy242];with_reducible exact H)|(have H2_:=(Option.bind_some _ _).symm.trans H;rw [hy242];with_reducible exact H2_)|(have H2_:=(Option.bind_some _ _).symm.trans H;with_reducible exact H2_)|with_reducible exact H|(rw [hy242];exact H)|exact H);have Ny242:=Qa hy242;clear hy242;have H':=Qa H;clear H;have p226 : 0 ≤ (x23_2 : Int):=QF (by assumption);have q226 : x23_2 < (t223.length : Int):=QF (by assumption);obtain ⟨ad226,e226,hx226_0⟩:=Kd.at_string (Qu HO_21.o).2.2 x23_2 p226 q226;cases e226;replace p226:=eq_true p226;replace q226:=eq_true q226;(try go_wp2);have n0_:=Qa (Kd.R_drew HO_7.o);have n1_:=Qa (Kd.R_drew HO_8.o);have n2_:=Qa (Kd.R_drew HO_21.o);have n3_:=Qa (blk_drew BK218.o);have n4_:=Qa (Qj HB.o);clear HO_7;clear HO_8;clear HO_21;clear BK218;clear HB;have HO_7:=n0_;have HO_8:=n1_;have HO_21:=n2_;have BK218:=n3_;have HB:=n4_;clear n0_ n1_ n2_ n3_ n4_;obtain ⟨Ao40,co40,eo40⟩:=Kd.R_slice HO_7.o;(first|subst eo40|(injection eo40 with f1_ f2_ f3_;have f4_:=f1_.symm;have f5_:=f3_.symm;clear f1_ f2_ f3_;subst f4_;subst f5_));refine start_ (n:=27) (S:=fun w'=>True) (ds:=[]) #[false,false,false,false,false,false,false,false,false,false,false,false,false,false,false,false,false,false,false,false,false,false,false,false,false,false,false] (by kernel_rfl) rfl rfl trivial (fun hHeld=>?_);refine with_tabW spec_l7Shared.tab9 spec_l7Shared.bits9 (fun HT_ HW_=>?_)
          generalize wr.drew = w39 at HO_7 HO_8 HO_21 BK218 HB hHeld ⊢
          refine pure_ (i:=0) (N:=some 28) (v:=?_) (a':=?_) #[true,false,false,false,false,false,false,false,false,false,false,false,false,false,false,false,false,false,false,false,false,false,false,false,false,false,false] rfl rfl (any_of HT_.out (by kernel_rfl)) (fun _ _ _ h=>h) (Or.inl ⟨by rfl,?_⟩) ?_ ?_;rotate_left
          ·intro w';go_simp
           with_reducible rfl
          rotate_left
          ·simp only [Act.put,QI,QJ,QK,i64_w,i32_w];rfl
          refine pure_ (i:=1) (N:=some 29) (v:=?_) (a':=?_) #[true,true,false,false,false,false,false,false,false,false,false,false,false,false,false,false,false,false,false,false,false,false,false,false,false,false,false] rfl rfl (any_of HT_.out (by kernel_rfl)) (fun _ _ _ h=>h) (Or.inl ⟨by rfl,?_⟩) ?_ ?_;rotate_left
          ·intro w';go_simp
           with_reducible rfl
          rotate_left
          ·simp only [Act.put,QI,QJ,QK,i64_w,i32_w];rfl
          refine pure_ (i:=2) (N:=some 30) (v:=?_) (a':=?_) #[true,true,true,false,false,false,false,false,false,false,false,false,false,false,false,false,false,false,false,false,false,false,false,false,false,false,false] rfl rfl (any_of HT_.out (by kernel_rfl)) (fun _ _ _ h=>h) (Or.inl ⟨by rfl,?_⟩) ?_ ?_;rotate_left
          ·intro w';go_simp
           with_reducible rfl
          rotate_left
          ·simp only [Act.put,QI,QJ,QK,i64_w,i32_w];rfl
          refine pure_ (i:=3) (N:=some 31) (v:=?_) (a':=?_) #[true,true,true,true,false,false,false,false,false,false,false,false,false,false,false,false,false,false,false,false,false,false,false,false,false,false,false] rfl rfl (any_of HT_.out (by kernel_rfl)) (fun _ _ _ h=>h) (Or.inl ⟨by rfl,?_⟩) ?_ ?_;rotate_left
          ·intro w';go_simp
           with_reducible rfl
          rotate_left
          ·simp only [Act.put,QI,QJ,QK,i64_w,i32_w];rfl
          refine pure_ (i:=4) (N:=some 32) (v:=?_) (a':=?_) #[true,true,true,true,true,false,false,false,false,false,false,false,false,false,false,false,false,false,false,false,false,false,false,false,false,false,false] rfl rfl (any_of HT_.out (by kernel_rfl)) (fun _ _ _ h=>h) (Or.inl ⟨by rfl,?_⟩) ?_ ?_;rotate_left
          ·intro w';go_simp
           with_reducible rfl
          rotate_left
          ·simp only [Act.put,QI,QJ,QK,i64_w,i32_w];rfl
          refine pure_ (i:=5) (N:=some 33) (v:=undef) (a':=?_) #[true,true,true,true,true,true,false,false,false,false,false,false,false,false,false,false,false,false,false,false,false,false,false,false,false,false,false] rfl rfl (any_of HT_.out (by kernel_rfl)) (fun _ _ _ h=>h) (Or.inr ⟨by rfl,rfl⟩) ?_ ?_;rotate_left
          ·simp only [Act.put,QI,QJ,QK,i64_w,i32_w];rfl
          refine pure_ (i:=6) (N:=some 34) (v:=undef) (a':=?_) #[true,true,true,true,true,true,true,false,false,false,false,false,false,false,false,false,false,false,false,false,false,false,false,false,false,false,false] rfl rfl (any_of HT_.out (by kernel_rfl)) (fun _ _ _ h=>h) (Or.inr ⟨by rfl,rfl⟩) ?_ ?_;rotate_left
          ·simp only [Act.put,QI,QJ,QK,i64_w,i32_w];rfl
          refine pure_ (i:=7) (N:=some 35) (v:=undef) (a':=?_) #[true,true,true,true,true,true,true,true,false,false,false,false,false,false,false,false,false,false,false,false,false,false,false,false,false,false,false] rfl rfl (any_of HT_.out (by kernel_rfl)) (fun _ _ _ h=>h) (Or.inr ⟨by rfl,rfl⟩) ?_ ?_;rotate_left
          ·simp only [Act.put,QI,QJ,QK,i64_w,i32_w];rfl
          refine pure_ (i:=8) (N:=some 36) (v:=undef) (a':=?_) #[true,true,true,true,true,true,true,true,true,false,false,false,false,false,false,false,false,false,false,false,false,false,false,false,false,false,false] rfl rfl (any_of HT_.out (by kernel_rfl)) (fun _ _ _ h=>h) (Or.inr ⟨by rfl,rfl⟩) ?_ ?_;rotate_left
          ·simp only [Act.put,QI,QJ,QK,i64_w,i32_w];rfl
          refine pure_ (i:=9) (N:=some 37) (v:=undef) (a':=?_) #[true,true,true,true,true,true,true,true,true,true,false,false,false,false,false,false,false,false,false,false,false,false,false,false,false,false,false] rfl rfl (any_of HT_.out (by kernel_rfl)) (fun _ _ _ h=>h) (Or.inr ⟨by rfl,rfl⟩) ?_ ?_;rotate_left
          ·simp only [Act.put,QI,QJ,QK,i64_w,i32_w];rfl
          refine pure_ (i:=10) (N:=some 38) (v:=undef) (a':=?_) #[true,true,true,true,true,true,true,true,true,true,true,false,false,false,false,false,false,false,false,false,false,false,false,false,false,false,false] rfl rfl (any_of HT_.out (by kernel_rfl)) (fun _ _ _ h=>h) (Or.inr ⟨by rfl,rfl⟩) ?_ ?_;rotate_left
          ·simp only [Act.put,QI,QJ,QK,i64_w,i32_w];rfl
          refine pure_ (i:=11) (N:=some 39) (v:=undef) (a':=?_) #[true,true,true,true,true,true,true,true,true,true,true,true,false,false,false,false,false,false,false,false,false,false,false,false,false,false,false] rfl rfl (any_of HT_.out (by kernel_rfl)) (fun _ _ _ h=>h) (Or.inr ⟨by rfl,rfl⟩) ?_ ?_;rotate_left
          ·simp only [Act.put,QI,QJ,QK,i64_w,i32_w];rfl
          refine pure_ (i:=12) (N:=some 40) (v:=undef) (a':=?_) #[true,true,true,true,true,true,true,true,true,true,true,true,true,false,false,false,false,false,false,false,false,false,false,false,false,false,false] rfl rfl (any_of HT_.out (by kernel_rfl)) (fun _ _ _ h=>h) (Or.inr ⟨by rfl,rfl⟩) ?_ ?_;rotate_left
          ·simp only [Act.put,QI,QJ,QK,i64_w,i32_w];rfl
          refine pure_ (i:=13) (N:=some 41) (v:=?_) (a':=?_) #[true,true,true,true,true,true,true,true,true,true,true,true,true,true,false,false,false,false,false,false,false,false,false,false,false,false,false] rfl rfl (any_of HT_.out (by kernel_rfl)) (fun _ _ _ h=>h) (Or.inl ⟨by rfl,?_⟩) ?_ ?_;rotate_left
          ·intro w';go_simp
           with_reducible rfl
          rotate_left
          ·simp only [Act.put,QI,QJ,QK,i64_w,i32_w];rfl
          refine pure_ (i:=14) (N:=some 42) (v:=?_) (a':=?_) #[true,true,true,true,true,true,true,true,true,true,true,true,true,true,true,false,false,false,false,false,false,false,false,false,false,false,false] rfl rfl (any_of HT_.out (by kernel_rfl)) (fun _ _ _ h=>h) (Or.inl ⟨by rfl,?_⟩) ?_ ?_;rotate_left
          ·intro w';go_simp
           with_reducible rfl
          rotate_left
          ·simp only [Act.put,QI,QJ,QK,i64_w,i32_w];rfl
          refine pure_ (i:=15) (N:=some 43) (v:=undef) (a':=?_) #[true,true,true,true,true,true,true,true,true,true,true,true,true,true,true,true,false,false,false,false,false,false,false,false,false,false,false] rfl rfl (any_of HT_.out (by kernel_rfl)) (fun _ _ _ h=>h) (Or.inr ⟨by rfl,rfl⟩) ?_ ?_;rotate_left
          ·simp only [Act.put,QI,QJ,QK,i64_w,i32_w];rfl
          refine pure_ (i:=16) (N:=some 44) (v:=undef) (a':=?_) #[true,true,true,true,true,true,true,true,true,true,true,true,true,true,true,true,true,false,false,false,false,false,false,false,false,false,false] rfl rfl (any_of HT_.out (by kernel_rfl)) (fun _ _ _ h=>h) (Or.inr ⟨by rfl,rfl⟩) ?_ ?_;rotate_left
          ·simp only [Act.put,QI,QJ,QK,i64_w,i32_w];rfl
          refine pure_ (i:=17) (N:=some 45) (v:=undef) (a':=?_) #[true,true,true,true,true,true,true,true,true,true,true,true,true,true,true,true,true,true,false,false,false,false,false,false,false,false,false] rfl rfl (any_of HT_.out (by kernel_rfl)) (fun _ _ _ h=>h) (Or.inr ⟨by rfl,rfl⟩) ?_ ?_;rotate_left
          ·simp only [Act.put,QI,QJ,QK,i64_w,i32_w];rfl
          refine pure_ (i:=18) (N:=some 46) (v:=undef) (a':=?_) #[true,true,true,true,true,true,true,true,true,true,true,true,true,true,true,true,true,true,true,false,false,false,false,false,false,false,false] rfl rfl (any_of HT_.out (by kernel_rfl)) (fun _ _ _ h=>h) (Or.inr ⟨by rfl,rfl⟩) ?_ ?_;rotate_left
          ·simp only [Act.put,QI,QJ,QK,i64_w,i32_w];rfl
          refine pure_ (i:=19) (N:=some 47) (v:=undef) (a':=?_) #[true,true,true,true,true,true,true,true,true,true,true,true,true,true,true,true,true,true,true,true,false,false,false,false,false,false,false] rfl rfl (any_of HT_.out (by kernel_rfl)) (fun _ _ _ h=>h) (Or.inr ⟨by rfl,rfl⟩) ?_ ?_;rotate_left
          ·simp only [Act.put,QI,QJ,QK,i64_w,i32_w];rfl
          refine pure_ (i:=20) (N:=some 48) (v:=undef) (a':=?_) #[true,true,true,true,true,true,true,true,true,true,true,true,true,true,true,true,true,true,true,true,true,false,false,false,false,false,false] rfl rfl (any_of HT_.out (by kernel_rfl)) (fun _ _ _ h=>h) (Or.inr ⟨by rfl,rfl⟩) ?_ ?_;rotate_left
          ·simp only [Act.put,QI,QJ,QK,i64_w,i32_w];rfl
          refine pure_ (i:=21) (N:=some 49) (v:=undef) (a':=?_) #[true,true,true,true,true,true,true,true,true,true,true,true,true,true,true,true,true,true,true,true,true,true,false,false,false,false,false] rfl rfl (any_of HT_.out (by kernel_rfl)) (fun _ _ _ h=>h) (Or.inr ⟨by rfl,rfl⟩) ?_ ?_;rotate_left
          ·simp only [Act.put,QI,QJ,QK,i64_w,i32_w];rfl
          refine pure_ (i:=22) (N:=some 50) (v:=undef) (a':=?_) #[true,true,true,true,true,true,true,true,true,true,true,true,true,true,true,true,true,true,true,true,true,true,true,false,false,false,false] rfl rfl (any_of HT_.out (by kernel_rfl)) (fun _ _ _ h=>h) (Or.inr ⟨by rfl,rfl⟩) ?_ ?_;rotate_left
          ·simp only [Act.put,QI,QJ,QK,i64_w,i32_w];rfl
          refine pure_ (i:=23) (N:=some 51) (v:=undef) (a':=?_) #[true,true,true,true,true,true,true,true,true,true,true,true,true,true,true,true,true,true,true,true,true,true,true,true,false,false,false] rfl rfl (any_of HT_.out (by kernel_rfl)) (fun _ _ _ h=>h) (Or.inr ⟨by rfl,rfl⟩) ?_ ?_;rotate_left
          ·simp only [Act.put,QI,QJ,QK,i64_w,i32_w];rfl
          refine pure_ (i:=24) (N:=some 52) (v:=undef) (a':=?_) #[true,true,true,true,true,true,true,true,true,true,true,true,true,true,true,true,true,true,true,true,true,true,true,true,true,false,false] rfl rfl (any_of HT_.out (by kernel_rfl)) (fun _ _ _ h=>h) (Or.inr ⟨by rfl,rfl⟩) ?_ ?_;rotate_left
          ·simp only [Act.put,QI,QJ,QK,i64_w,i32_w];rfl
          refine pure_ (i:=25) (N:=some 53) (v:=undef) (a':=?_) #[true,true,true,true,true,true,true,true,true,true,true,true,true,true,true,true,true,true,true,true,true,true,true,true,true,true,false] rfl rfl (any_of HT_.out (by kernel_rfl)) (fun _ _ _ h=>h) (Or.inr ⟨by rfl,rfl⟩) ?_ ?_;rotate_left
          ·simp only [Act.put,QI,QJ,QK,i64_w,i32_w];rfl
          refine pure_ (i:=26) (N:=some 54) (v:=?_) (a':=?_) #[true,true,true,true,true,true,true,true,true,true,true,true,true,true,true,true,true,true,true,true,true,true,true,true,true,true,true] rfl rfl (any_of HT_.out (by kernel_rfl)) (fun _ _ _ h=>h) (Or.inl ⟨by rfl,?_⟩) ?_ ?_;rotate_left
          ·intro w';go_simp
           with_reducible rfl
          rotate_left
          ·simp only [Act.put,QI,QJ,QK,i64_w,i32_w];rfl
          refine done_ (done_of HT_.out (by kernel_rfl)) ?_;(try go_wp2_with (first|((with_reducible refine gate_builtin (b:=.append) (xs:=#[.tmp 59,.tmp 61]) rfl ?_);at_builtin;refine Kd.R_append (Kd.int .i64) (w0:=w) w.heap.size rfl (.tmp 59) (.tmp 61) 24 3 (.int .i64 0) 8 rfl Try.underlying24 info3 rfl (by decide) (by omega) u8 x8_2 0 [.int .i64 0] (fun k_=>some k_ ≠ (.slice Ao40 x7_3.length co40 : Value).ownBlock) (fun _=>False) rfl rfl ?aP (fun _ hk=>hk.elim) ?aF ?aO ?aB ?aS ?aL ?_;(case aP=>exact rfl);(case aB=>exact (by repeat (first|(with_reducible first|exact HB.o|apply Qk|apply Qi|apply Qj|refine Ql ?_ GE218.o)|exact HB.o)));(case aF=>exact (fun k_ hk=>Kd.fresh' (Kd.R_lt (by (with_reducible repeat (first|apply QB|apply QD|apply Kd.R_drew));exact HO_7.o)) k_ hk));(case aO=>exact (by (with_reducible repeat (first|apply QB|apply QD|apply Kd.R_drew));exact HO_8.o));(case aS=>exact (Qn (by repeat (first|(with_reducible first|exact HB.o|apply Qk|apply Qi|apply Qj|refine Ql ?_ GE218.o)|exact HB.o))));(case aL=>have:=LMc38.out;omega);intro v243 w41 ho hb hg hat;rw [← Ny242.out] at ho;have n0_:=Qa (Kd.R_after (ok:=(fun _=>True)) (by (with_reducible repeat (first|apply QB|apply QD|apply Kd.R_drew));exact Qt HO_7.o (fun _ hk=>⟨trivial,hk⟩)) hg hat);have n1_:=Qa (Kd.R_over' (by (with_reducible repeat (first|apply QB|apply QD|apply Kd.R_drew));exact HO_21.o) (Kd.R_typed (by (with_reducible repeat (first|apply QB|apply QD|apply Kd.R_drew));exact HO_8.o)) (by decide) hg);have n2_:=Qa (blk_grown (g:=gb218) (o:=.cells #[.slice A0_0 l0_0.length c0_0,.slice A0_1 l0_1.length c0_1,.slice A0_2 l0_2.length c0_2,.slice A0_3 l0_3.length c0_3] 28 (0,0)) (by (with_reducible repeat first|apply Qf|apply blk_drew|apply Qe);exact BK218.o) hg (Kd.R_ne HO_8.o BK218.o (by decide)));have n3_:=Qa (hb);have n4_:=Qa (ho);clear HO_7;clear HO_21;clear BK218;clear HB;clear HO_8;have HO_7:=n0_;have HO_21:=n1_;have BK218:=n2_;have HB:=n3_;have HO244:=n4_;clear n0_ n1_ n2_ n3_ n4_;clear ho hb hg hat)));go_roundg k2
          case measure=>have:=HJ3.o;have:=HK2.o;omega
          case rel=>exact ⟨(y242),(wrap64 (x23_2 + 1)),(by first|rfl|(simp;done)|(simp [*];done)),H',⟨by have:=HJ3.o;have:=HK2.o;omega⟩,⟨by (with_reducible repeat (first|apply QB|apply QD|apply Kd.R_drew));exact Qt HO_7.o (fun _ hk=>hk.2)⟩,⟨by (with_reducible repeat (first|apply QB|apply QD|apply Kd.R_drew));exact HO244.o⟩,⟨by (with_reducible repeat (first|apply QB|apply QD|apply Kd.R_drew));exact HO_21.o⟩,⟨by (with_reducible repeat first|apply Qf|apply blk_drew|apply Qe);exact BK218.o⟩,⟨by repeat (first|(with_reducible first|exact HB.o|apply Qk|apply Qi|apply Qj|refine Ql ?_ GE218.o)|exact HB.o)⟩⟩
         ·rw [if_neg c38] at H;exact absurd H (by simp)
       ·rw [if_neg c15] at H;exact absurd H (by simp)
      ·rw [if_neg c14] at H;exact absurd H (by simp)
     ·rw [if_neg c13] at H;have c13b0 : decide (x23_2 < (t223.length : Int)) = false:=QH c13;clear c13;obtain rfl:=QO H;go_wp2;go_ret;exact ⟨_,by first|rfl|(simp [*,errW_none,errW_some] <;> rfl),by (with_reducible repeat (first|apply QB|apply QD|apply Kd.R_drew));exact Qt HO_8.o (fun _ hk=>trivial),by repeat (first|(with_reducible first|exact HB.o|apply Qk|apply Qi|apply Qj|refine Ql ?_ GE218.o)|exact HB.o)⟩

end Go.Proofs.Ytggnbbbhlnjleaa.PFnExactNeedForText
